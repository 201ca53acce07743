import PyProof.Rows.All
import Wide.All
import OpenK.AllK
import Wide.FinOn
import HandS.Base
import HandS.Call
import HandS.List
import HandS.Comp
import HandS.Exc
import HandS.Words
import HandS.Iter
import HandS.Zip
import HandS.IsInst
import HandS.Deep
import HandS.TupAny
import HandS.Style
import HandS.Text
import HandS.Wide
import HandS.Codes
import HandS.Conv
import KE.KTupSum
import HandS.Flt
import HandS.SortInts
import KE.KStar
import PyProof.ReprRoads
import PyProof.ReprLen
import PyProof.FitsInt
import KE.GoesMore
import HandS.ExcOwn
import HandS.NoneIn
import HandS.Ends
import HandS.HeadEnd
import HandS.Defaults
import HandS.HeadHook2
import HandS.HeadHook1
import HandS.Head0
import HandS.Head1
import HandS.Head2
import PySem.Challenge.RW_cushionshots_k14_first_times_in_boxes
set_option Elab.async false
set_option linter.all false
set_option maxRecDepth 100000
set_option maxHeartbeats 0
set_option exponentiation.threshold 10000
/-! Mini: a small language of data, with weakest preconditions. -/
namespace M
abbrev Tx := List Nat
/-- data: a tuple by value, a list by its place in the store; fl: a list that is never written -/
inductive D where
  | non | bl (b : Bool) | int (i : Int) | str (x : Tx) | tup (xs : List D) | fl (xs : List D) | ref (a : Nat) | xn (c : Nat) (fs : List D)
inductive O where
  | lst (xs : List D) | dic
abbrev Sto := Nat → Option O
def upd (S : Sto) (a : Nat) (o : O) : Sto := fun b => if b = a then some o else S b
abbrev Env := List (Option D)
abbrev VK := D → Sto → Prop
abbrev XK := Nat → List D → Sto → Prop
abbrev Sp := List D → Sto → VK → XK → Prop
/-- the greatest length -/
def lim : Nat := 16777216
/-- what a number may be that is multiplied -/
def big : Nat := 2 ^ 4000
def bigd : Nat := 2 ^ 8500
def sm (i : Int) : Prop := i.natAbs < big
def smd (i : Int) : Prop := i.natAbs < bigd
def br (b : Bool) (A B : Prop) : Prop := (b = true → A) ∧ (b = false → B)
inductive Bo where | add | sub | mul | fdiv | mod | pow
  deriving DecidableEq
inductive Co where | eq | ne | lt | le | gt | ge | is_ | isn | in_ | nin
  deriving DecidableEq
inductive Bi where | len | abs | int | min | max | all | any | sum | list | tuple | str | sorted
  deriving DecidableEq
inductive Ty where | int | bool | tuple | list | str
  deriving DecidableEq
inductive Mt where | append | extend | count | index | pop
  deriving DecidableEq
inductive Kc where | non | bl (b : Bool) | int (i : Int) | str (x : Tx)
  deriving DecidableEq
inductive Tg where | v (i : Nat) | tup (is : List Nat)
  deriving DecidableEq
mutual
inductive Ex where
  | v (i : Nat)
  | k (c : Kc)
  | g (n : Nat)
  | bin (o : Bo) (a b : Ex)
  | neg (a : Ex)
  | not (a : Ex)
  | cmp (o : Co) (a b : Ex)
  | chain (o p : Co) (a b c : Ex)
  | and (a : Ex) (r : Es)
  | or (a : Ex) (r : Es)
  | ite (c a b : Ex)
  | tup (es : Es)
  | lst (es : Es)
  | ix (a i : Ex)
  | sl (a : Ex) (lo hi : Oe)
  | rev (a : Ex)
  | call (f : Nat) (es : Es)
  | callk (f : Nat) (es ks : Es) (perm : List Nat)
  | rep (a : Ex)
  | bi (b : Bi) (es : Es)
  | mt (m : Mt) (a : Ex) (es : Es)
  | isi (a : Ex) (t : Ty)
  | isi2 (a : Ex) (t u : Ty)
  | isx (a : Ex) (c : Nat)
  | dic
  | comp (e : Ex) (t : Tg) (it : It) (c : Oe)
inductive Es where
  | nil | cons (e : Ex) (r : Es) | star (e : Ex) (r : Es)
inductive Oe where
  | none | some (e : Ex)
inductive It where
  | seq (e : Ex) | rng (e : Ex) | rng2 (a b : Ex) | zip (a b : Ex) | zip3 (a b c : Ex) | enum (e : Ex)
end
mutual
inductive St where
  | set (t : Tg) (e : Ex)
  | par (i j : Nat) (a b : Ex)
  | par3 (i j l : Nat) (a b c : Ex)
  | nev
  | six (a i e : Ex)
  | ex (e : Ex)
  | ret (e : Ex)
  | retn
  | if_ (c : Ex) (a b : Ss)
  | while_ (c : Ex) (b : Ss)
  | for_ (t : Tg) (it : It) (b : Ss)
  | brk
  | pass
  | raise (c : Nat) (es : Es)
  | try_ (b : Ss) (c i : Nat) (h : Ss)
inductive Ss where
  | nil | cons (s : St) (r : Ss)
end
/-! ### what the pieces do -/
def onB : D → (Bool → Prop) → Prop
  | .bl b, P => P b
  | _, _ => False
def onI : D → (Int → Prop) → Prop
  | .int i, P => P i
  | _, _ => False
def onC1 : Tx → (Nat → Prop) → Prop
  | [c], P => P c
  | _, _ => False
/-- one sign -/
def onC : D → (Nat → Prop) → Prop
  | .str a, P => onC1 a P
  | _, _ => False
def isNon : D → Bool
  | .non => true
  | _ => false
def b2i (b : Bool) : Int := if b then 1 else 0
def opt {α : Type} : Option α → (α → Prop) → Prop
  | some a, P => P a
  | none, _ => False
def optB {α : Type} : Option α → (α → Bool) → Bool
  | some a, P => P a
  | none, _ => false
def joinO {α : Type} : Option (Option α) → Option α
  | some (some a) => some a
  | _ => none
def look (ρ : Env) (i : Nat) : Option D := joinO ρ[i]?
def lstO : Option O → Option (List D)
  | some (.lst xs) => some xs
  | _ => none
/-- the list at a -/
def lstAt (S : Sto) (a : Nat) : Option (List D) := lstO (S a)
def lsOf (S : Sto) : D → Option (List D)
  | .ref a => lstAt S a
  | .fl xs => some xs
  | _ => none
def sqOf (S : Sto) : D → Option (List D)
  | .ref a => lstAt S a
  | .fl xs => some xs
  | .tup xs => some xs
  | _ => none
/-- are all of these data that == tells of -/
def fitL (ok : D → Bool) : List D → Bool
  | [] => true
  | x :: xs => ok x && fitL ok xs
def fit : Nat → Sto → D → Bool
  | 0, _, _ => false
  | n + 1, S, d => (match d with
    | .non => true | .bl _ => true | .int _ => true | .str x => x.all (fun c => decide (c < 1114112))
    | .tup xs => fitL (fit n S) xs
    | .fl xs => fitL (fit n S) xs
    | .ref a => optB (lstAt S a) (fitL (fit n S))
    | .xn _ _ => false)
def eqLB (eq : D → D → Bool) : List D → List D → Bool
  | [], [] => true
  | x :: xs, y :: ys => eq x y && eqLB eq xs ys
  | _, _ => false
def eqO (eq : List D → List D → Bool) : Option (List D) → Option (List D) → Bool
  | some xs, some ys => eq xs ys
  | _, _ => false
def eqB : Nat → Sto → D → D → Bool
  | 0, _, _, _ => false
  | n + 1, S, x, y => (match x, y with
    | .non, .non => true
    | .bl a, .bl b => a == b
    | .bl a, .int j => b2i a == j
    | .int i, .bl b => i == b2i b
    | .int i, .int j => i == j
    | .str a, .str b => a == b
    | .tup xs, .tup ys => eqLB (eqB n S) xs ys
    | .ref a, y => eqO (eqLB (eqB n S)) (lstAt S a) (lsOf S y)
    | .fl xs, y => eqO (eqLB (eqB n S)) (some xs) (lsOf S y)
    | _, _ => false)
/-- the locals at the entry -/
def start (n : Nat) (ds : List D) : Env := ds.map some ++ List.replicate (n - ds.length) none
abbrev dep : Nat := 8
def ixN (n : Nat) (i : Int) : Option Nat := if 0 ≤ i then (if i < n then some i.toNat else none) else if -(n : Int) ≤ i then some (i + n).toNat else none
def atI {α : Type} (xs : List α) (i : Int) : Option α := (ixN xs.length i).bind fun j => xs[j]?
def sIx (n d : Nat) : Option Int → Nat
  | none => d
  | some v => if v < 0 then (v + n).toNat else min v.toNat n
def cut {α : Type} (xs : List α) (lo hi : Option Int) : List α := (xs.drop (sIx xs.length 0 lo)).take (sIx xs.length xs.length hi - sIx xs.length 0 lo)
/-- a new list -/
def mkL (xs : List D) (S : Sto) (Q : VK) : Prop := xs.length ≤ lim ∧ ∀ p, S p = none → Q (.ref p) (upd S p (.lst xs))
def binD : Bo → D → D → Sto → VK → Prop
  | .add, x, y, S, Q => (match x, y with
    | .int i, .int j => Q (.int (i + j)) S
    | .str a, .str b => a.length + b.length ≤ lim ∧ Q (.str (a ++ b)) S
    | .tup a, .tup b => a.length + b.length ≤ lim ∧ Q (.tup (a ++ b)) S
    | .ref a, .ref b => opt (lstAt S a) fun xs => opt (lstAt S b) fun ys => mkL (xs ++ ys) S Q
    | _, _ => False)
  | .sub, x, y, S, Q => onI x fun i => onI y fun j => Q (.int (i - j)) S
  | .mul, x, y, S, Q => (match x, y with
    | .int i, .int j => sm i ∧ sm j ∧ Q (.int (i * j)) S
    | .ref a, .int k => opt (lstAt S a) fun xs => 0 ≤ k ∧ k < 1000 ∧ mkL ((List.replicate k.toNat xs).flatten) S Q
    | _, _ => False)
  | .fdiv, x, y, S, Q => onI x fun i => onI y fun j => j ≠ 0 ∧ smd j ∧ Q (.int (i.fdiv j)) S
  | .mod, x, y, S, Q => onI x fun i => onI y fun j => j ≠ 0 ∧ Q (.int (i.fmod j)) S
  | .pow, x, y, S, Q => onI x fun i => onI y fun j => sm i ∧ 0 ≤ j ∧ j ≤ 1000 ∧ Q (.int (i ^ j.toNat)) S
def inB (S : Sto) (x : D) (ys : List D) : Bool := ys.any fun y => eqB dep S y x
def cmpD : Co → D → D → Sto → (Bool → Prop) → Prop
  | .lt, x, y, _, Q => onI x fun i => onI y fun j => Q (decide (i < j))
  | .le, x, y, _, Q => onI x fun i => onI y fun j => Q (decide (i ≤ j))
  | .gt, x, y, _, Q => onI x fun i => onI y fun j => Q (decide (j < i))
  | .ge, x, y, _, Q => onI x fun i => onI y fun j => Q (decide (j ≤ i))
  | .eq, x, y, S, Q => (match x, y with
    | .str a, .str b => Q (a == b)
    | x, y => fit dep S x = true ∧ fit dep S y = true ∧ Q (eqB dep S x y))
  | .ne, x, y, S, Q => (match x, y with
    | .str a, .str b => Q (!(a == b))
    | x, y => fit dep S x = true ∧ fit dep S y = true ∧ Q (!eqB dep S x y))
  | .is_, x, y, _, Q => (match y with
    | .non => Q (isNon x)
    | .bl b => onB x fun a => Q (a == b)
    | _ => False)
  | .isn, x, y, _, Q => (match y with
    | .non => Q (!isNon x)
    | .bl b => onB x fun a => Q (!(a == b))
    | _ => False)
  | .in_, x, y, S, Q => (match y with
    | .str b => onC x fun c => Q (b.contains c)
    | y => opt (sqOf S y) fun ys => fit dep S x = true ∧ fitL (fit dep S) ys = true ∧ Q (inB S x ys))
  | .nin, x, y, S, Q => (match y with
    | .str b => onC x fun c => Q (!b.contains c)
    | y => opt (sqOf S y) fun ys => fit dep S x = true ∧ fitL (fit dep S) ys = true ∧ Q (!inB S x ys))
def ixD (x i : D) (S : Sto) (Q : VK) : Prop := match i with
  | .int k => (match x with
    | .str a => a.length ≤ lim ∧ opt (atI a k) fun c => Q (.str [c]) S
    | x => opt (sqOf S x) fun xs => opt (atI xs k) fun d => Q d S)
  | _ => False
def slD (x : D) (lo hi : Option Int) (S : Sto) (Q : VK) : Prop := match x with
  | .str a => a.length ≤ lim ∧ Q (.str (cut a lo hi)) S
  | .tup xs => Q (.tup (cut xs lo hi)) S
  | x => opt (lsOf S x) fun xs => ∀ p, S p = none → Q (.ref p) (upd S p (.lst (cut xs lo hi)))
def revD (x : D) (S : Sto) (Q : VK) : Prop := match x with
  | .tup xs => Q (.tup xs.reverse) S
  | x => opt (lsOf S x) fun xs => ∀ p, S p = none → Q (.ref p) (upd S p (.lst xs.reverse))
def intsD : List D → Option (List Int)
  | [] => some []
  | .int i :: r => (intsD r).map (i :: ·)
  | _ => none
def bools : List D → Option (List Bool)
  | [] => some []
  | .bl i :: r => (bools r).map (i :: ·)
  | _ => none
def minL : Int → List Int → Int
  | m, [] => m
  | m, i :: r => minL (if i < m then i else m) r
def maxL : Int → List Int → Int
  | m, [] => m
  | m, i :: r => maxL (if m < i then i else m) r
/-- decimal digits -/
def txI (i : Int) : Tx := (toString i).toList.map Char.toNat
def arg1 : List D → (D → Prop) → Prop
  | [x], P => P x
  | _, _ => False
def lenD (x : D) (S : Sto) (Q : VK) : Prop := match x with
  | .str a => a.length ≤ lim ∧ Q (.int a.length) S
  | x => opt (sqOf S x) fun xs => Q (.int xs.length) S
def onCons : List Int → (Int → List Int → Prop) → Prop
  | i :: r, P => P i r
  | [], _ => False
def intD (x : D) (S : Sto) (Q : VK) : Prop := match x with
  | .int i => Q (.int i) S
  | .bl b => Q (.int (b2i b)) S
  | _ => False
def biD : Bi → List D → Sto → VK → Prop
  | .len, ds, S, Q => arg1 ds fun x => lenD x S Q
  | .abs, ds, S, Q => arg1 ds fun x => onI x fun i => Q (.int (if i < 0 then -i else i)) S
  | .int, ds, S, Q => arg1 ds fun x => intD x S Q
  | .min, ds, S, Q => (match ds with
    | [x] => opt (lsOf S x) fun xs => opt (intsD xs) fun is => onCons is fun i r => Q (.int (minL i r)) S
    | [x, y] => onI x fun i => onI y fun j => Q (.int (if j < i then j else i)) S
    | _ => False)
  | .max, ds, S, Q => (match ds with
    | [x] => opt (lsOf S x) fun xs => opt (intsD xs) fun is => onCons is fun i r => Q (.int (maxL i r)) S
    | [x, y] => onI x fun i => onI y fun j => Q (.int (if j > i then j else i)) S
    | [x, y, z] => onI x fun i => onI y fun j => onI z fun k => Q (.int (if k > (if j > i then j else i) then k else (if j > i then j else i))) S
    | _ => False)
  | .all, ds, S, Q => arg1 ds fun x => opt (lsOf S x) fun xs => opt (bools xs) fun bs => Q (.bl (bs.all id)) S
  | .any, ds, S, Q => arg1 ds fun x => opt (lsOf S x) fun xs => opt (bools xs) fun bs => Q (.bl (bs.any id)) S
  | .sum, ds, S, Q => arg1 ds fun x => opt (sqOf S x) fun xs => opt (intsD xs) fun is => Q (.int is.sum) S
  | .list, ds, S, Q => arg1 ds fun x => opt (sqOf S x) fun xs => ∀ p, S p = none → Q (.ref p) (upd S p (.lst xs))
  | .tuple, ds, S, Q => arg1 ds fun x => opt (sqOf S x) fun xs => Q (.tup xs) S
  | .str, ds, S, Q => arg1 ds fun x => onI x fun i => i.natAbs.log2 < 1920 ∧ Q (.str (txI i)) S
  | .sorted, ds, S, Q => arg1 ds fun x => opt (lsOf S x) fun xs => opt (intsD xs) fun is => ∀ js : List Int, js.Perm is → js.Pairwise (· ≤ ·) → ∀ p, S p = none → Q (.ref p) (upd S p (.lst (js.map .int)))
/-- o.m(..) -/
def onR : D → (Nat → Prop) → Prop
  | .ref a, P => P a
  | _, _ => False
def mtD : Mt → D → List D → Sto → VK → Prop
  | .append, x, ds, S, Q => onR x fun a => arg1 ds fun d => opt (lstAt S a) fun xs => xs.length < lim ∧ Q .non (upd S a (.lst (xs ++ [d])))
  | .extend, x, ds, S, Q => onR x fun a => arg1 ds fun y => onR y fun b => opt (lstAt S a) fun xs => opt (lstAt S b) fun ys => xs.length + ys.length ≤ lim ∧ Q .non (upd S a (.lst (xs ++ ys)))
  | .pop, x, ds, S, Q => onR x fun a => (match ds with
    | [] => opt (lstAt S a) fun xs => opt xs[xs.length - 1]? fun d => Q d (upd S a (.lst xs.dropLast))
    | _ => False)
  | .count, _, _, _, _ => False
  | .index, _, _, _, _ => False
def tyO : Option O → Ty → Option Bool
  | some (.lst _), t => some (decide (t = .list))
  | some .dic, _ => some false
  | none, _ => none
def isTy (S : Sto) : D → Ty → Option Bool
  | .non, _ => some false
  | .bl _, t => some (decide (t = .bool) || decide (t = .int))
  | .int _, t => some (decide (t = .int))
  | .str _, t => some (decide (t = .str))
  | .tup _, t => some (decide (t = .tuple))
  | .fl _, t => some (decide (t = .list))
  | .ref a, t => tyO (S a) t
  | .xn _ _, _ => none
def kcD : Kc → D
  | .non => .non | .bl b => .bl b | .int i => .int i | .str x => .str x
def setAll : List Nat → List D → Env → Env
  | i :: is, d :: ds, ρ => setAll is ds (ρ.set i (some d))
  | _, _, ρ => ρ
def asg (t : Tg) (d : D) (S : Sto) (ρ : Env) (Q : Env → Prop) : Prop := match t with
  | .v i => Q (ρ.set i (some d))
  | .tup is => (match d with
    | .tup xs => xs.length = is.length ∧ Q (setAll is xs ρ)
    | d => opt (lsOf S d) fun xs => xs.length = is.length ∧ Q (setAll is xs ρ))
def tgs : Tg → List Nat
  | .v i => [i]
  | .tup is => is
def wipe (ρ : Env) : List Nat → Env
  | [] => ρ
  | i :: is => (wipe ρ is).set i none
/-- o[i] = d -/
def sixD (x i d : D) (S : Sto) (Q : Sto → Prop) : Prop := onR x fun a => onI i fun k => opt (lstAt S a) fun xs => opt (ixN xs.length k) fun j => Q (upd S a (.lst (xs.set j d)))
/-- what is walked -/
abbrev IK := List D → (Sto → Prop) → Sto → Prop
def seqD (x : D) (S : Sto) (R : IK) : Prop := match x with
  | .ref a => opt (lstAt S a) fun xs => R xs (fun S' => S' a = some (.lst xs)) S
  | .fl xs => R xs (fun _ => True) S
  | .tup xs => R xs (fun _ => True) S
  | .str a => R (a.map fun c => .str [c]) (fun _ => True) S
  | _ => False
def zipP (xs ys : List D) : List D := (xs.zip ys).map fun p => .tup [p.1, p.2]
def zipD (x y : D) (S : Sto) (R : IK) : Prop := match x, y with
  | .tup xs, .tup ys => R (zipP xs ys) (fun _ => True) S
  | .str a, .tup ys => R (zipP (a.map fun c => .str [c]) ys) (fun _ => True) S
  | x, y => opt (lsOf S x) fun xs => opt (lsOf S y) fun ys => R (zipP xs ys) (fun S' => lsOf S' x = some xs ∧ lsOf S' y = some ys) S
def zipP3 (xs ys zs : List D) : List D := (xs.zip (ys.zip zs)).map fun p => .tup [p.1, p.2.1, p.2.2]
def zip3D (x y z : D) (S : Sto) (R : IK) : Prop := match x, y, z with
  | .tup xs, .tup ys, .tup zs => R (zipP3 xs ys zs) (fun _ => True) S
  | _, _, _ => False
def rngD (lo hi : Int) (S : Sto) (R : IK) : Prop := -(2 ^ 62) ≤ lo ∧ lo < 2 ^ 62 ∧ -(2 ^ 62) ≤ hi ∧ hi < 2 ^ 62 ∧ R ((List.range (hi - lo).toNat).map fun i => .int (lo + (i : Nat))) (fun _ => True) S
def enumL : Nat → List D → List D
  | _, [] => []
  | n, d :: ds => .tup [.int n, d] :: enumL (n + 1) ds
def enumD (x : D) (S : Sto) (R : IK) : Prop := opt (lsOf S x) fun xs => R (enumL 0 xs) (fun S' => lsOf S' x = some xs) S
def forW (chk : Sto → Prop) (step : D → Env → Sto → (Env → Sto → Prop) → Prop) (nx : Env → Sto → Prop) : List D → Env → Sto → Prop
  | [], ρ, S => chk S ∧ nx ρ S
  | d :: ds, ρ, S => chk S ∧ step d ρ S (forW chk step nx ds)
def whileN (step : Env → Sto → (Env → Sto → Prop) → Prop) : Nat → Env → Sto → Prop
  | 0, _, _ => False
  | n + 1, ρ, S => step ρ S (whileN step n)
def compW (chk : Sto → Prop) (step : D → Sto → (Option D → Sto → Prop) → Prop) (Q : VK) : List D → List D → Sto → Prop
  | [], acc, S => chk S ∧ ∀ p, S p = none → Q (.ref p) (upd S p (.lst acc))
  | d :: ds, acc, S => chk S ∧ step d S fun r S1 => compW chk step Q ds (acc ++ r.toList) S1
/-- a promise, with more wanted than it says -/
def cl (sp : Sp) : Sp := fun ds S Q X => ∃ (Q0 : VK) (X0 : XK), sp ds S Q0 X0 ∧ (∀ d S, Q0 d S → Q d S) ∧ (∀ c fs S, X0 c fs S → X c fs S)
theorem cl_of {sp : Sp} {ds : List D} {S : Sto} {Q : VK} {X : XK} (h : sp ds S Q X) : cl sp ds S Q X := ⟨Q, X, h, fun _ _ x => x, fun _ _ _ x => x⟩
/-- what a text of a value tells -/
inductive P where
  | non | bl (b : Bool) | int (i : Int) | str (x : Tx) | tup (xs : List P) | lst (xs : List P) | dic
def toQ : Nat → Sto → D → P
  | 0, _, _ => .non
  | n + 1, S, d => (match d with
    | .non => .non
    | .bl b => .bl b
    | .int i => .int i
    | .str x => .str x
    | .tup xs => .tup (xs.map (toQ n S))
    | .fl xs => .lst (xs.map (toQ n S))
    | .ref a => (match S a with
      | some (.lst xs) => .lst (xs.map (toQ n S))
      | _ => .dic)
    | .xn _ _ => .non)
def bigr : Nat := 2 ^ 1900
def smr (i : Int) : Prop := i.natAbs < bigr
def fitR : Nat → Sto → D → Prop
  | 0, _, _ => False
  | n + 1, S, d => (match d with
    | .non => True
    | .bl _ => True
    | .int i => smr i
    | .str x => ∀ c ∈ x, c < 1114112
    | .tup xs => ∀ y ∈ xs, fitR n S y
    | .fl xs => ∀ y ∈ xs, fitR n S y
    | .ref a => opt (lstAt S a) fun xs => ∀ y ∈ xs, fitR n S y
    | .xn _ _ => False)
def isDic : Option O → Prop
  | some .dic => True
  | _ => False
def isDicD (S : Sto) : D → Prop
  | .ref a => isDic (S a)
  | _ => False
def fitD (S : Sto) (d : D) : Prop := isDicD S d ∨ fitR dep S d
def sumN : List Nat → Nat
  | [] => 0
  | a :: r => a + sumN r
/-- no text of the value is longer -/
def szR : Nat → Sto → D → Nat
  | 0, _, _ => 0
  | n + 1, S, d => (match d with
    | .non => 4
    | .bl _ => 5
    | .int _ => 1902
    | .str x => 10 * x.length + 2
    | .tup xs => sumN (xs.map fun y => szR n S y + 2) + 3
    | .fl xs => sumN (xs.map fun y => szR n S y + 2) + 3
    | .ref a => (match S a with
      | some (.lst xs) => sumN (xs.map fun y => szR n S y + 2) + 3
      | _ => 2)
    | .xn _ _ => 0)
structure Gm where
  fn : Nat → Sp
  con : Nat → D
  sub : Nat → Nat → Bool
  rp : P → Tx
def esLen : Es → Nat
  | .nil => 0
  | .cons _ r => esLen r + 1
  | .star _ r => esLen r + 1
/-- the promises of the defs below n -/
def upto (n : Nat) (sp : Nat → Sp) : Nat → Sp := fun i => if i < n then sp i else fun _ _ _ _ => False
def X0 : XK := fun _ _ _ => False
mutual
def wpE (G : Gm) : Ex → Env → Sto → VK → XK → Prop
  | .v i, ρ, S, Q, _ => opt (look ρ i) fun d => Q d S
  | .k c, _, S, Q, _ => Q (kcD c) S
  | .g n, _, S, Q, _ => Q (G.con n) S
  | .bin o a b, ρ, S, Q, X => wpE G a ρ S (fun x S1 => wpE G b ρ S1 (fun y S2 => binD o x y S2 Q) X) X
  | .neg a, ρ, S, Q, X => wpE G a ρ S (fun x S1 => onI x fun i => Q (.int (-i)) S1) X
  | .not a, ρ, S, Q, X => wpE G a ρ S (fun x S1 => onB x fun b => Q (.bl (!b)) S1) X
  | .cmp o a b, ρ, S, Q, X => wpE G a ρ S (fun x S1 => wpE G b ρ S1 (fun y S2 => cmpD o x y S2 fun c => Q (.bl c) S2) X) X
  | .chain o p a b c, ρ, S, Q, X => wpE G a ρ S (fun x S1 => wpE G b ρ S1 (fun y S2 => cmpD o x y S2 fun k => br k (wpE G c ρ S2 (fun z S3 => cmpD p y z S3 fun k' => Q (.bl k') S3) X) (Q (.bl false) S2)) X) X
  | .and a r, ρ, S, Q, X => wpE G a ρ S (fun x S1 => onB x fun b => br b (wpAnd G r ρ S1 Q X) (Q (.bl false) S1)) X
  | .or a r, ρ, S, Q, X => wpE G a ρ S (fun x S1 => onB x fun b => br b (Q (.bl true) S1) (wpOr G r ρ S1 Q X)) X
  | .ite c a b, ρ, S, Q, X => wpE G c ρ S (fun x S1 => onB x fun k => br k (wpE G a ρ S1 Q X) (wpE G b ρ S1 Q X)) X
  | .tup es, ρ, S, Q, X => wpEs G es ρ S (fun ds S1 => ds.length ≤ lim ∧ Q (.tup ds) S1) X
  | .lst es, ρ, S, Q, X => wpEs G es ρ S (fun ds S1 => mkL ds S1 Q) X
  | .ix a i, ρ, S, Q, X => wpE G a ρ S (fun x S1 => wpE G i ρ S1 (fun y S2 => ixD x y S2 Q) X) X
  | .sl a lo hi, ρ, S, Q, X => wpE G a ρ S (fun x S1 => wpO G lo ρ S1 (fun l S2 => wpO G hi ρ S2 (fun h S3 => slD x l h S3 Q) X) X) X
  | .rev a, ρ, S, Q, X => wpE G a ρ S (fun x S1 => revD x S1 Q) X
  | .call f es, ρ, S, Q, X => wpEs G es ρ S (fun ds S1 => cl (G.fn f) ds S1 Q X) X
  | .callk f es ks perm, ρ, S, Q, X => wpEs G es ρ S (fun ds S1 => wpEs G ks ρ S1 (fun ws S2 => ds.length = esLen es ∧ ws.length = esLen ks ∧ cl (G.fn f) (perm.filterMap fun i => (ds ++ ws)[i]?) S2 Q X) X) X
  | .rep a, ρ, S, Q, X => wpE G a ρ S (fun x S1 => fitD S1 x ∧ szR dep S1 x ≤ lim ∧ Q (.str (G.rp (toQ dep S1 x))) S1) X
  | .bi b es, ρ, S, Q, X => wpEs G es ρ S (fun ds S1 => biD b ds S1 Q) X
  | .mt m a es, ρ, S, Q, X => wpE G a ρ S (fun x S1 => opt (lsOf S1 x) fun _ => wpEs G es ρ S1 (fun ds S2 => mtD m x ds S2 Q) X) X
  | .isi a t, ρ, S, Q, X => wpE G a ρ S (fun x S1 => opt (isTy S1 x t) fun b => Q (.bl b) S1) X
  | .isi2 a t u, ρ, S, Q, X => wpE G a ρ S (fun x S1 => opt (isTy S1 x t) fun b => opt (isTy S1 x u) fun d => Q (.bl (b || d)) S1) X
  | .isx a c, ρ, S, Q, X => wpE G a ρ S (fun x S1 => match x with | .xn k _ => Q (.bl (G.sub k c)) S1 | _ => False) X
  | .dic, _, S, Q, _ => ∀ p, S p = none → Q (.ref p) (upd S p .dic)
  | .comp e t it c, ρ, S, Q, X => wpIt G it ρ S (fun items chk S1 => items.length ≤ lim ∧ compW chk (fun d S2 k => asg t d S2 (wipe ρ (tgs t)) fun ρ2 => wpC G c ρ2 S2 (fun b S3 => br b (wpE G e ρ2 S3 (fun x S4 => k (some x) S4) X0) (k none S3))) Q items [] S1) X
def wpC (G : Gm) : Oe → Env → Sto → (Bool → Sto → Prop) → Prop
  | .none, _, S, Q => Q true S
  | .some e, ρ, S, Q => wpE G e ρ S (fun x S1 => onB x fun b => Q b S1) X0
def wpO (G : Gm) : Oe → Env → Sto → (Option Int → Sto → Prop) → XK → Prop
  | .none, _, S, Q, _ => Q none S
  | .some e, ρ, S, Q, X => wpE G e ρ S (fun x S1 => onI x fun i => Q (some i) S1) X
def wpAnd (G : Gm) : Es → Env → Sto → VK → XK → Prop
  | .cons e r, ρ, S, Q, X => wpE G e ρ S (fun x S1 => match r with
    | .nil => Q x S1
    | _ => (onB x fun b => br b (wpAnd G r ρ S1 Q X) (Q (.bl false) S1))) X
  | _, _, _, _, _ => False
def wpOr (G : Gm) : Es → Env → Sto → VK → XK → Prop
  | .cons e r, ρ, S, Q, X => wpE G e ρ S (fun x S1 => match r with
    | .nil => Q x S1
    | _ => (onB x fun b => br b (Q (.bl true) S1) (wpOr G r ρ S1 Q X))) X
  | _, _, _, _, _ => False
def wpEs (G : Gm) : Es → Env → Sto → (List D → Sto → Prop) → XK → Prop
  | .nil, _, S, Q, _ => Q [] S
  | .cons e r, ρ, S, Q, X => wpE G e ρ S (fun x S1 => wpEs G r ρ S1 (fun ds S2 => Q (x :: ds) S2) X) X
  | .star e r, ρ, S, Q, X => wpE G e ρ S (fun x S1 => opt (sqOf S1 x) fun xs => wpEs G r ρ S1 (fun ds S2 => Q (xs ++ ds) S2) X) X
def wpIt (G : Gm) : It → Env → Sto → IK → XK → Prop
  | .seq e, ρ, S, R, X => wpE G e ρ S (fun x S1 => seqD x S1 R) X
  | .rng e, ρ, S, R, X => wpE G e ρ S (fun x S1 => onI x fun j => rngD 0 j S1 R) X
  | .rng2 a b, ρ, S, R, X => wpE G a ρ S (fun x S1 => wpE G b ρ S1 (fun y S2 => onI x fun i => onI y fun j => rngD i j S2 R) X) X
  | .zip a b, ρ, S, R, X => wpE G a ρ S (fun x S1 => wpE G b ρ S1 (fun y S2 => zipD x y S2 R) X) X
  | .zip3 a b c, ρ, S, R, X => wpE G a ρ S (fun x S1 => wpE G b ρ S1 (fun y S2 => wpE G c ρ S2 (fun z S3 => zip3D x y z S3 R) X) X) X
  | .enum e, ρ, S, R, X => wpE G e ρ S (fun x S1 => enumD x S1 R) X
end
structure Kt where
  nx : Env → Sto → Prop
  rt : VK
  bk : Env → Sto → Prop
  xe : Nat → List D → Env → Sto → Prop
mutual
def wpS (G : Gm) : St → Env → Sto → Kt → Prop
  | .set t e, ρ, S, K => wpE G e ρ S (fun x S1 => asg t x S1 ρ fun ρ1 => K.nx ρ1 S1) (fun c fs S1 => K.xe c fs ρ S1)
  | .par i j a b, ρ, S, K => wpE G a ρ S (fun x S1 => wpE G b ρ S1 (fun y S2 => K.nx ((ρ.set i (some x)).set j (some y)) S2) (fun c fs S2 => K.xe c fs ρ S2)) (fun c fs S1 => K.xe c fs ρ S1)
  | .par3 i j l a b c, ρ, S, K => wpE G a ρ S (fun x S1 => wpE G b ρ S1 (fun y S2 => wpE G c ρ S2 (fun z S3 => K.nx (((ρ.set i (some x)).set j (some y)).set l (some z)) S3) (fun c fs S3 => K.xe c fs ρ S3)) (fun c fs S2 => K.xe c fs ρ S2)) (fun c fs S1 => K.xe c fs ρ S1)
  | .nev, _, _, _ => False
  | .six a i e, ρ, S, K => wpE G e ρ S (fun x S1 => wpE G a ρ S1 (fun o S2 => wpE G i ρ S2 (fun y S3 => sixD o y x S3 fun S4 => K.nx ρ S4) (fun c fs S3 => K.xe c fs ρ S3)) (fun c fs S2 => K.xe c fs ρ S2)) (fun c fs S1 => K.xe c fs ρ S1)
  | .ex e, ρ, S, K => wpE G e ρ S (fun _ S1 => K.nx ρ S1) (fun c fs S1 => K.xe c fs ρ S1)
  | .ret e, ρ, S, K => wpE G e ρ S K.rt (fun c fs S1 => K.xe c fs ρ S1)
  | .retn, _, S, K => K.rt .non S
  | .if_ c a b, ρ, S, K => wpE G c ρ S (fun x S1 => onB x fun k => br k (wpSs G a ρ S1 K) (wpSs G b ρ S1 K)) (fun c fs S1 => K.xe c fs ρ S1)
  | .while_ c b, ρ, S, K => ∃ n, whileN (fun ρ1 S1 nx => wpE G c ρ1 S1 (fun x S2 => onB x fun k => br k (wpSs G b ρ1 S2 { K with nx := nx, bk := K.nx }) (K.nx ρ1 S2)) (fun c fs S2 => K.xe c fs ρ1 S2)) n ρ S
  | .for_ t it b, ρ, S, K => wpIt G it ρ S (fun items chk S1 => forW chk (fun d ρ1 S2 nx => asg t d S2 ρ1 fun ρ2 => wpSs G b ρ2 S2 { K with nx := nx, bk := K.nx }) K.nx items ρ S1) (fun c fs S1 => K.xe c fs ρ S1)
  | .brk, ρ, S, K => K.bk ρ S
  | .pass, ρ, S, K => K.nx ρ S
  | .raise c es, ρ, S, K => wpEs G es ρ S (fun ds S1 => K.xe c ds ρ S1) (fun c fs S1 => K.xe c fs ρ S1)
  | .try_ b c i h, ρ, S, K => wpSs G b ρ S { K with xe := fun k fs ρ1 S1 => br (G.sub k c) (wpSs G h (ρ1.set i (some (.xn k fs))) S1 { nx := fun ρ2 S2 => K.nx (ρ2.set i none) S2, rt := K.rt, bk := fun ρ2 S2 => K.bk (ρ2.set i none) S2, xe := fun _ _ _ _ => False }) (K.xe k fs ρ1 S1) }
def wpSs (G : Gm) : Ss → Env → Sto → Kt → Prop
  | .nil, ρ, S, K => K.nx ρ S
  | .cons s r, ρ, S, K => wpS G s ρ S { K with nx := fun ρ1 S1 => wpSs G r ρ1 S1 K }
end
end M
namespace Snd
open PySem PySem.Spec PyProof.Rows L2
abbrev Frag := PySem.W.Frag
abbrev Sl := L2.St
def stx (x : M.Tx) : Str := ⟨x.toArray⟩
/-- a list that is never written -/
def SqF (K : Frag) (H : Hp) (a : Addr) (xs : List V) : Prop :=
  (∃ o, H a = some (.frz o (.lst xs))) ∨
    ∃ (o : Obj) (its : Array Value) (n : Nat), K.lookup a = some o ∧ o.cls = .type "list" ∧ o.dict = none ∧ o.data = .seq its n ∧ its.size ≤ sizeLine ∧ Vals xs its.toList
theorem SqF.sq {K : Frag} {H : Hp} {a : Addr} {xs : List V} (h : SqF K H a xs) : SqL K H a xs := by
  rcases h with ⟨o, h⟩ | h
  · exact .inl (.inr ⟨o, h⟩)
  · exact .inr h
mutual
inductive RelD (K : Frag) (H : Hp) : M.D → V → Prop
  | non : RelD K H .non .non
  | bl (b : Bool) : RelD K H (.bl b) (.bl b)
  | int (i : Int) : RelD K H (.int i) (.int i)
  | str (x : M.Tx) : RelD K H (.str x) (.str (stx x))
  | tup {a : Addr} {ds : List M.D} {vs : List V} : SqT K H a vs → RelDs K H ds vs → RelD K H (.tup ds) (.ref a)
  | fl {a : Addr} {ds : List M.D} {vs : List V} : SqF K H a vs → RelDs K H ds vs → RelD K H (.fl ds) (.ref a)
  | ref (a : Addr) : RelD K H (.ref a) (.ref a)
inductive RelDs (K : Frag) (H : Hp) : List M.D → List V → Prop
  | nil : RelDs K H [] []
  | cons {d : M.D} {v : V} {ds : List M.D} {vs : List V} : RelD K H d v → RelDs K H ds vs → RelDs K H (d :: ds) (v :: vs)
end
def RelO (K : Frag) (H : Hp) (a : Addr) : M.O → Prop
  | .lst ds => ∃ vs, H a = some (.lst vs) ∧ RelDs K H ds vs
  | .dic => H a = some (.dK [])
def RelS (K : Frag) (H : Hp) (S : M.Sto) : Prop := ∀ a o, S a = some o → RelO K H a o
/-- what was tracked and not in the store is as it was -/
def Fr (S : M.Sto) (H : Hp) (S' : M.Sto) (H' : Hp) : Prop := ∀ a o, H a = some o → S a = none → H' a = some o ∧ S' a = none
section
variable {K : Frag} {H H' H2 : Hp} {S S' S2 : M.Sto}
theorem Fr.refl : Fr S H S H := fun _ _ h n => ⟨h, n⟩
theorem Fr.trans (a : Fr S H S' H') (b : Fr S' H' S2 H2) : Fr S H S2 H2 := fun c o h n => let ⟨h1, n1⟩ := a c o h n; b c o h1 n1
theorem RelS.none (r : RelS K H S) {a : Addr} (h : H a = none) : S a = none := by
  cases e : S a with
  | none => rfl
  | some o =>
    have q := r a o e
    cases o with
    | lst ds => obtain ⟨vs, q, _⟩ := q; rw [h] at q; cases q
    | dic => have q' : H a = _ := q; rw [h] at q'; cases q'
theorem RelS.tup (r : RelS K H S) {a : Addr} {vs : List V} (h : H a = some (.tup vs)) : S a = .none := by
  cases e : S a with
  | none => rfl
  | some o =>
    have q := r a o e
    cases o with
    | lst ds => obtain ⟨vs, q, _⟩ := q; rw [h] at q; cases q
    | dic => have q' : H a = _ := q; rw [h] at q'; cases q'
theorem RelS.frz (r : RelS K H S) {a : Addr} {ob : Obj} {u : HO} (h : H a = some (.frz ob u)) : S a = .none := by
  cases e : S a with
  | none => rfl
  | some o =>
    have q := r a o e
    cases o with
    | lst ds => obtain ⟨vs, q, _⟩ := q; rw [h] at q; cases q
    | dic => have q' : H a = _ := q; rw [h] at q'; cases q'
theorem sqt_mono (r : RelS K H S) (f : Fr S H S' H') {a : Addr} {vs : List V} (h : SqT K H a vs) : SqT K H' a vs := by
  rcases h with (h | ⟨o, h⟩) | h
  · exact .inl (.inl (f _ _ h (r.tup h)).1)
  · exact .inl (.inr ⟨o, (f _ _ h (r.frz h)).1⟩)
  · exact .inr h
theorem sqf_mono (r : RelS K H S) (f : Fr S H S' H') {a : Addr} {vs : List V} (h : SqF K H a vs) : SqF K H' a vs := by
  rcases h with ⟨o, h⟩ | h
  · exact .inl ⟨o, (f _ _ h (r.frz h)).1⟩
  · exact .inr h
mutual
theorem RelD.mono (r : RelS K H S) (f : Fr S H S' H') : ∀ {d : M.D} {v : V}, RelD K H d v → RelD K H' d v
  | _, _, .non => .non
  | _, _, .bl b => .bl b
  | _, _, .int i => .int i
  | _, _, .str x => .str x
  | _, _, .tup h t => .tup (sqt_mono r f h) (RelDs.mono r f t)
  | _, _, .fl h t => .fl (sqf_mono r f h) (RelDs.mono r f t)
  | _, _, .ref a => .ref a
theorem RelDs.mono (r : RelS K H S) (f : Fr S H S' H') : ∀ {ds : List M.D} {vs : List V}, RelDs K H ds vs → RelDs K H' ds vs
  | _, _, .nil => .nil
  | _, _, .cons h t => .cons (RelD.mono r f h) (RelDs.mono r f t)
end
theorem RelDs.length : ∀ {ds : List M.D} {vs : List V}, RelDs K H ds vs → ds.length = vs.length
  | _, _, .nil => rfl
  | _, _, .cons _ t => by rw [List.length_cons, List.length_cons, RelDs.length t]
theorem RelDs.get : ∀ {ds : List M.D} {vs : List V} {i : Nat} {d : M.D}, RelDs K H ds vs → ds[i]? = some d → ∃ v, vs[i]? = some v ∧ RelD K H d v
  | _, _, _, _, .nil, e => by simp at e
  | _, _, 0, d, .cons h _, e => by simp at e; subst e; exact ⟨_, rfl, h⟩
  | _, _, i + 1, d, .cons _ t, e => by
    obtain ⟨v, h1, h2⟩ := RelDs.get (i := i) t (by simpa using e)
    exact ⟨v, by simpa using h1, h2⟩
theorem RelDs.get' : ∀ {ds : List M.D} {vs : List V} {i : Nat} {v : V}, RelDs K H ds vs → vs[i]? = some v → ∃ d, ds[i]? = some d ∧ RelD K H d v
  | _, _, _, _, .nil, e => by simp at e
  | _, _, 0, d, .cons h _, e => by simp at e; subst e; exact ⟨_, rfl, h⟩
  | _, _, i + 1, d, .cons _ t, e => by
    obtain ⟨v, h1, h2⟩ := RelDs.get' (i := i) t (by simpa using e)
    exact ⟨v, by simpa using h1, h2⟩
theorem RelDs.append : ∀ {ds es : List M.D} {vs us : List V}, RelDs K H ds vs → RelDs K H es us → RelDs K H (ds ++ es) (vs ++ us)
  | _, _, _, _, .nil, s => s
  | _, _, _, _, .cons h t, s => .cons h (RelDs.append t s)
theorem RelDs.take : ∀ {ds : List M.D} {vs : List V} (n : Nat), RelDs K H ds vs → RelDs K H (ds.take n) (vs.take n)
  | _, _, 0, _ => .nil
  | _, _, _ + 1, .nil => .nil
  | _, _, n + 1, .cons h t => .cons h (RelDs.take n t)
theorem RelDs.drop : ∀ {ds : List M.D} {vs : List V} (n : Nat), RelDs K H ds vs → RelDs K H (ds.drop n) (vs.drop n)
  | _, _, 0, h => h
  | _, _, _ + 1, .nil => .nil
  | _, _, n + 1, .cons _ t => RelDs.drop n t
theorem RelDs.set : ∀ {ds : List M.D} {vs : List V} {d : M.D} {v : V} (i : Nat), RelD K H d v → RelDs K H ds vs → RelDs K H (ds.set i d) (vs.set i v)
  | _, _, _, _, _, _, .nil => .nil
  | _, _, _, _, 0, q, .cons _ t => .cons q t
  | _, _, _, _, i + 1, q, .cons h t => .cons h (RelDs.set i q t)
theorem RelDs.reverse {ds : List M.D} {vs : List V} (h : RelDs K H ds vs) : RelDs K H ds.reverse vs.reverse := by
  induction ds generalizing vs with
  | nil => cases h; exact .nil
  | cons d ds ih =>
    cases h with
    | cons a b =>
      rw [List.reverse_cons, List.reverse_cons]
      exact (ih b).append (.cons a .nil)
theorem RelDs.dropLast {ds : List M.D} {vs : List V} (h : RelDs K H ds vs) : RelDs K H ds.dropLast vs.dropLast := by
  rw [List.dropLast_eq_take, List.dropLast_eq_take, h.length]
  exact h.take _
theorem RelDs.rep {ds : List M.D} {vs : List V} (h : RelDs K H ds vs) : ∀ k : Nat, RelDs K H (List.replicate k ds).flatten (List.replicate k vs).flatten
  | 0 => .nil
  | k + 1 => by
    rw [List.replicate_succ, List.replicate_succ, List.flatten_cons, List.flatten_cons]
    exact h.append (RelDs.rep h k)
end
/-! ### slots -/
def RelE (K : Frag) (H : Hp) (ρ : M.Env) (σ : Sl) : Prop := ∀ (i : Nat) (d : M.D), ρ[i]? = some (some d) → ∃ v, σ[i]? = some (some v) ∧ RelD K H d v
section
variable {K : Frag} {H H' : Hp} {S S' : M.Sto} {ρ : M.Env} {σ : Sl}
theorem RelE.mono (h : RelE K H ρ σ) (r : RelS K H S) (f : Fr S H S' H') : RelE K H' ρ σ := fun i d e => let ⟨v, h1, h2⟩ := h i d e; ⟨v, h1, h2.mono r f⟩
theorem RelE.set (h : RelE K H ρ σ) (hl : ρ.length = σ.length) {d : M.D} {v : V} (q : RelD K H d v) (i : Nat) : RelE K H (ρ.set i (some d)) (σ.set i (some v)) := fun j e hj => by
  by_cases hi : i = j
  · subst hi
    by_cases hlt : i < ρ.length
    · rw [List.getElem?_set_self hlt] at hj
      cases hj
      exact ⟨v, List.getElem?_set_self (by omega), q⟩
    · rw [List.getElem?_eq_none (by simpa using hlt)] at hj; cases hj
  · rw [List.getElem?_set_ne hi] at hj
    obtain ⟨w, h1, h2⟩ := h j e hj
    exact ⟨w, by rw [List.getElem?_set_ne hi]; exact h1, h2⟩
theorem RelE.unset (h : RelE K H ρ σ) (i : Nat) : RelE K H (ρ.set i none) (σ.set i none) := fun j e hj => by
  by_cases hi : i = j
  · subst hi
    by_cases hlt : i < ρ.length
    · rw [List.getElem?_set_self hlt] at hj; cases hj
    · rw [List.getElem?_eq_none (by simpa using hlt)] at hj; cases hj
  · rw [List.getElem?_set_ne hi] at hj
    obtain ⟨w, h1, h2⟩ := h j e hj
    exact ⟨w, by rw [List.getElem?_set_ne hi]; exact h1, h2⟩
theorem RelE.wipe (h : RelE K H ρ σ) : ∀ is : List Nat, RelE K H (M.wipe ρ is) (L2.wipe σ is)
  | [] => h
  | i :: is => (RelE.wipe h is).unset i
theorem wipe_len (ρ : M.Env) : ∀ is : List Nat, (M.wipe ρ is).length = ρ.length
  | [] => rfl
  | i :: is => by show ((M.wipe ρ is).set i none).length = _; rw [List.length_set, wipe_len ρ is]
end
/-! ### exceptions -/
/-- text's tables: defs, constants, classes by number -/
structure Tb where
  fns : List Str
  cons : List Str
  cls : List Str
  /-- free names of the built-ins -/
  bts : List Str
  /-- calls with names: the def, how many positional values, the names, the values' places -/
  kws : List (Nat × Nat × List Str × List Nat)
/-- an exception of the class c with the fields fs -/
def RelX (K : Frag) (mg : Str → Option Value) (T : Tb) (c : Nat) (fs : List M.D) (cls : Value) (d : Option Addr) (H : Hp) : Prop :=
  fs = [] ∧ d = none ∧ ∃ x C, T.cls[c]? = some x ∧ mg x = some (.ref C) ∧ cls = .ref C
/-! ### the readings -/
structure Cn where
  K : Frag
  mg : Str → Option Value
  T : Tb
  G : M.Gm
/-- wished of a value -/
def OkV (K : Frag) (S : M.Sto) (H : Hp) (Qd : M.VK) (Q : VK) : Prop := ∀ d S' v H', Fr S H S' H' → RelS K H' S' → RelD K H' d v → Qd d S' → Q v H'
def OkX (c : Cn) (S : M.Sto) (H : Hp) (Xd : M.XK) (W : Value → Option Addr → Hp → Prop) : Prop := ∀ k fs S' H' cls d, Fr S H S' H' → RelS c.K H' S' → RelX c.K c.mg c.T k fs cls d H' → Xd k fs S' → W cls d H'
def tE (c : Cn) (W : WX) (e : M.Ex) : TE := fun σ H Q => ∃ ρ S Qd Xd, ρ.length = σ.length ∧ RelE c.K H ρ σ ∧ RelS c.K H S ∧ M.wpE c.G e ρ S Qd Xd ∧ OkV c.K S H Qd Q ∧ OkX c S H Xd fun cls d H' => W cls d σ H'
def OkL (K : Frag) (S : M.Sto) (H : Hp) (Qd : List M.D → M.Sto → Prop) (Q : List V → Hp → Prop) : Prop := ∀ ds S' vs H', Fr S H S' H' → RelS K H' S' → RelDs K H' ds vs → Qd ds S' → Q vs H'
def tEs (c : Cn) (W : WX) (es : M.Es) : TA := fun σ H Q => ∃ ρ S Qd Xd, ρ.length = σ.length ∧ RelE c.K H ρ σ ∧ RelS c.K H S ∧ M.wpEs c.G es ρ S Qd Xd ∧ OkL c.K S H Qd Q ∧ OkX c S H Xd fun cls d H' => W cls d σ H'
/-- a def's promise -/
def lift (c : Cn) (sp : M.Sp) : L2.Sp := fun vs H Q E => ∃ ds S Qd Xd, RelDs c.K H ds vs ∧ RelS c.K H S ∧ sp ds S Qd Xd ∧ OkV c.K S H Qd Q ∧ OkX c S H Xd E
section
variable {K : Frag} {S S' : M.Sto} {H H' : Hp}
theorem OkV.after {Qd : M.VK} {Q : VK} (h : OkV K S H Qd Q) (f : Fr S H S' H') : OkV K S' H' Qd Q := fun d S2 v H2 f2 r2 rd q => h d S2 v H2 (f.trans f2) r2 rd q
theorem OkL.after {Qd : List M.D → M.Sto → Prop} {Q : List V → Hp → Prop} (h : OkL K S H Qd Q) (f : Fr S H S' H') : OkL K S' H' Qd Q := fun d S2 v H2 f2 r2 rd q => h d S2 v H2 (f.trans f2) r2 rd q
theorem OkX.after {c : Cn} {Xd : M.XK} {W : Value → Option Addr → Hp → Prop} (h : OkX c S H Xd W) (f : Fr S H S' H') : OkX c S' H' Xd W := fun k fs S2 H2 cls d f2 r2 rx q => h k fs S2 H2 cls d (f.trans f2) r2 rx q
end
theorem PE.imp {X : Cx} {e : Expr} {t t' : TE} (h : PE X e t) (i : ∀ σ H Q, t' σ H Q → t σ H Q) : PE X e t' := ⟨fun pins s σ H Q I q => h.run pins s σ H Q I (i σ H Q q)⟩
theorem PT.imp {X : Cx} {e : Expr} {t t' : TT} (h : PT X e t) (i : ∀ σ H Q, t' σ H Q → t σ H Q) : PT X e t' := ⟨fun pins s σ H Q I q => h.run pins s σ H Q I (i σ H Q q)⟩
theorem PA.imp {X : Cx} {e : List Expr} {t t' : TA} (h : PA X e t) (i : ∀ σ H Q, t' σ H Q → t σ H Q) : PA X e t' := ⟨fun pos pins s σ H Q I q => h.run pos pins s σ H Q I (i σ H Q q)⟩
end Snd
namespace Snd
open PySem PySem.Spec PyProof.Rows L2
/-! ### the heap grows -/
section
variable {K : Frag} {S : M.Sto} {H : Hp} {p : Addr} {o : HO}
theorem Fr.laid (hp : H p = none) : Fr S H S (L2.upd H p o) := fun a ob h n => ⟨by rw [L2.upd_ne (ne_of_none h hp)]; exact h, n⟩
theorem mupd_same {S : M.Sto} {a : Nat} {o : M.O} : M.upd S a o a = some o := by unfold M.upd; rw [if_pos rfl]
theorem mupd_ne {S : M.Sto} {a b : Nat} {o : M.O} (h : b ≠ a) : M.upd S a o b = S b := by unfold M.upd; rw [if_neg h]
theorem Fr.laidS {mo : M.O} (hp : H p = none) : Fr S H (M.upd S p mo) (L2.upd H p o) := fun a ob h n =>
  have ne := ne_of_none h hp
  ⟨by rw [L2.upd_ne ne]; exact h, by rw [mupd_ne ne]; exact n⟩
theorem RelO.mono {S' : M.Sto} {H' : Hp} (r : RelS K H S) (f : Fr S H S' H') {a : Addr} {mo : M.O} (h : RelO K H a mo) (k : ∀ ob, H a = some ob → H' a = some ob) : RelO K H' a mo := by
  cases mo with
  | lst ds => obtain ⟨vs, h1, h2⟩ := h; exact ⟨vs, k _ h1, h2.mono r f⟩
  | dic => exact k _ h
theorem RelS.there (r : RelS K H S) {a : Addr} {mo : M.O} (h : S a = some mo) : ∃ ob, H a = some ob := by
  have q := r a mo h
  cases mo with
  | lst ds => obtain ⟨vs, h1, _⟩ := q; exact ⟨_, h1⟩
  | dic => exact ⟨_, q⟩
theorem RelS.laid (r : RelS K H S) (hp : H p = Option.none) : RelS K (L2.upd H p o) S := fun a mo h => by
  obtain ⟨ob, hb⟩ := r.there h
  exact (r a mo h).mono r (Fr.laid hp) fun ob h1 => by rw [L2.upd_ne (ne_of_none h1 hp)]; exact h1
theorem RelS.lst (r : RelS K H S) (hp : H p = Option.none) {ds : List M.D} {vs : List V} (h : RelDs K H ds vs) : RelS K (L2.upd H p (.lst vs)) (M.upd S p (.lst ds)) := fun a mo e => by
  have f : Fr S H (M.upd S p (.lst ds)) (L2.upd H p (.lst vs)) := Fr.laidS hp
  by_cases ha : a = p
  · subst ha
    rw [mupd_same] at e
    cases e
    exact ⟨vs, L2.upd_same, h.mono r f⟩
  · rw [mupd_ne ha] at e
    exact (r a mo e).mono r f fun ob h1 => by rw [L2.upd_ne ha]; exact h1
theorem RelS.dic (r : RelS K H S) (hp : H p = Option.none) : RelS K (L2.upd H p (.dK [])) (M.upd S p .dic) := fun a mo e => by
  have f : Fr S H (M.upd S p .dic) (L2.upd H p (.dK [])) := Fr.laidS hp
  by_cases ha : a = p
  · subst ha
    rw [mupd_same] at e
    cases e
    exact L2.upd_same
  · rw [mupd_ne ha] at e
    exact (r a mo e).mono r f fun ob h1 => by rw [L2.upd_ne ha]; exact h1
/-- a list of the store is written -/
theorem Fr.wr {xs : List M.D} {a : Addr} {mo : M.O} (h : S a = some (.lst xs)) : Fr S H (M.upd S a mo) (L2.upd H a o) := fun b ob hb n => by
  have ne : b ≠ a := fun z => by rw [z, h] at n; cases n
  exact ⟨by rw [L2.upd_ne ne]; exact hb, by rw [mupd_ne ne]; exact n⟩
theorem RelS.wr (r : RelS K H S) {xs ds : List M.D} {vs : List V} {a : Addr} (h : S a = some (.lst xs)) (hd : RelDs K H ds vs) : RelS K (L2.upd H a (.lst vs)) (M.upd S a (.lst ds)) := fun b mo e => by
  have f : Fr S H (M.upd S a (.lst ds)) (L2.upd H a (.lst vs)) := Fr.wr h
  by_cases hb : b = a
  · subst hb
    rw [mupd_same] at e
    cases e
    exact ⟨vs, L2.upd_same, hd.mono r f⟩
  · rw [mupd_ne hb] at e
    exact (r b mo e).mono r f fun ob h1 => by rw [L2.upd_ne hb]; exact h1
end
section
variable {K : Frag} {S : M.Sto} {H : Hp} {Qd : M.VK} {Q : VK}
theorem OkV.same (h : OkV K S H Qd Q) (r : RelS K H S) {d : M.D} {v : V} (rd : RelD K H d v) (q : Qd d S) : Q v H := h d S v H Fr.refl r rd q
/-- a new tuple -/
theorem OkV.newT (h : OkV K S H Qd Q) (r : RelS K H S) {ds : List M.D} {vs : List V} (rd : RelDs K H ds vs) (q : Qd (.tup ds) S) : ∀ p, H p = none → Q (.ref p) (L2.upd H p (.tup vs)) := fun p hp =>
  h _ _ _ _ (Fr.laid hp) (r.laid hp) (.tup (SqT.of L2.upd_same) (rd.mono r (Fr.laid hp))) q
/-- a new list -/
theorem OkV.newL (h : OkV K S H Qd Q) (r : RelS K H S) {ds : List M.D} {vs : List V} (rd : RelDs K H ds vs) (q : ∀ p, S p = none → Qd (.ref p) (M.upd S p (.lst ds))) : ∀ p, H p = none → Q (.ref p) (L2.upd H p (.lst vs)) := fun p hp =>
  h _ _ _ _ (Fr.laidS hp) (r.lst hp rd) (.ref p) (q p (r.none hp))
end
theorem stx_len (x : M.Tx) : (stx x).length = x.length := by
  show x.toArray.size = _
  simp
theorem stx_app (x y : M.Tx) : stx x ++ stx y = stx (x ++ y) := by
  show Str.append _ _ = _
  unfold Str.append stx
  simp
theorem stx_cps (x : M.Tx) : (stx x).cps.toList = x := by unfold stx; simp
theorem stx_inj {x y : M.Tx} : stx x = stx y ↔ x = y := by
  constructor
  · intro h
    have := congrArg (fun z : Str => z.cps.toList) h
    simpa [stx] using this
  · rintro rfl; rfl
theorem lim_eq : M.lim = sizeLine := by rw [sizeLine_eq]; rfl
theorem log_lt {x n : Nat} (h0 : 0 < n) (h : x < 2 ^ n) : x.log2 < n := by
  by_cases h1 : x = 0
  · subst h1
    rw [Nat.log2_zero]
    exact h0
  · exact (Nat.log2_lt h1).mpr h
theorem sm_log {i : Int} (h : M.sm i) : i.natAbs.log2 < 4000 := by
  unfold M.sm M.big at h
  exact log_lt (Nat.succ_pos _) h
theorem smd_log {i : Int} (h : M.smd i) : i.natAbs.log2 < 8500 := by
  unfold M.smd M.bigd at h
  exact log_lt (Nat.succ_pos _) h
theorem opt_of {α : Type} {o : Option α} {P : α → Prop} (h : M.opt o P) : ∃ a, o = some a ∧ P a := by
  cases o with
  | none => exact False.elim h
  | some a => exact ⟨a, rfl, h⟩
theorem onI_of {d : M.D} {P : Int → Prop} (h : M.onI d P) : ∃ i, d = .int i ∧ P i := by
  cases d with
  | int i => exact ⟨i, rfl, h⟩
  | _ => exact False.elim h
theorem onB_of {d : M.D} {P : Bool → Prop} (h : M.onB d P) : ∃ i, d = .bl i ∧ P i := by
  cases d with
  | bl i => exact ⟨i, rfl, h⟩
  | _ => exact False.elim h
theorem onR_of {d : M.D} {P : Nat → Prop} (h : M.onR d P) : ∃ i, d = .ref i ∧ P i := by
  cases d with
  | ref i => exact ⟨i, rfl, h⟩
  | _ => exact False.elim h
theorem lstAt_some {S : M.Sto} {a : Nat} {xs : List M.D} (h : M.lstAt S a = some xs) : S a = some (.lst xs) := by
  unfold M.lstAt at h
  cases e : S a with
  | none => rw [e] at h; cases h
  | some o =>
    rw [e] at h
    cases o with
    | dic => cases h
    | lst ys => cases h; rfl
theorem lstAt_of {S : M.Sto} {a : Nat} {xs : List M.D} (h : S a = some (.lst xs)) : M.lstAt S a = some xs := by
  unfold M.lstAt
  rw [h] <;> rfl
theorem RelS.at {K : Frag} {H : Hp} {S : M.Sto} (r : RelS K H S) {a : Nat} {xs : List M.D} (h : M.lstAt S a = some xs) : ∃ vs, H a = some (.lst vs) ∧ RelDs K H xs vs := r a _ (lstAt_some h)
/-- a list, by value or of the store, to be read -/
theorem lsOf_rel {K : Frag} {H : Hp} {S : M.Sto} (r : RelS K H S) {d : M.D} {v : V} {xs : List M.D} (rd : RelD K H d v) (h : M.lsOf S d = some xs) : ∃ a vs, v = .ref a ∧ SqL K H a vs ∧ RelDs K H xs vs := by
  cases rd with
  | ref a => obtain ⟨vs, h1, h2⟩ := r.at h; exact ⟨a, vs, rfl, SqL.of h1, h2⟩
  | fl h1 h2 => cases h; exact ⟨_, _, rfl, h1.sq, h2⟩
  | _ => cases h
theorem sqOf_rel {K : Frag} {H : Hp} {S : M.Sto} (r : RelS K H S) {d : M.D} {v : V} {xs : List M.D} (rd : RelD K H d v) (h : M.sqOf S d = some xs) : ∃ a vs, v = .ref a ∧ (SqL K H a vs ∨ SqT K H a vs) ∧ RelDs K H xs vs := by
  cases rd with
  | ref a => obtain ⟨vs, h1, h2⟩ := r.at h; exact ⟨a, vs, rfl, .inl (SqL.of h1), h2⟩
  | fl h1 h2 => cases h; exact ⟨_, _, rfl, .inl h1.sq, h2⟩
  | tup h1 h2 => cases h; exact ⟨_, _, rfl, .inr h1, h2⟩
  | _ => cases h
/-! ### two-place operators -/
def rB (K : Frag) (o : M.Bo) : R2 := fun v u H Q => ∃ x y S Qd, RelS K H S ∧ RelD K H x v ∧ RelD K H y u ∧ M.binD o x y S Qd ∧ OkV K S H Qd Q
def boOk : M.Bo → Operator → Bool
  | .add, .Add => true | .sub, .Sub => true | .mul, .Mult => true | .fdiv, .FloorDiv => true | .mod, .Mod => true | .pow, .Pow => true
  | _, _ => false
section
variable {X : Cx}
theorem ob_add : OpR X (binaryOp .Add) (rB X.K .add) := by
  intro pins s σ H v u vv uu Q I rv ru h
  obtain ⟨x, y, S, Qd, r, rx, ry, w, hq⟩ := h
  cases rx with
  | int i =>
    cases ry with
    | int j => exact op_add pins s σ H _ _ vv uu Q I rv ru ⟨i, j, rfl, rfl, hq.same r (.int _) w⟩
    | _ => exact False.elim w
  | str a =>
    cases ry with
    | str b =>
      obtain ⟨hz, w⟩ := w
      exact op_add_str pins s σ H _ _ vv uu Q I rv ru ⟨_, _, rfl, rfl, by rw [stx_len, stx_len, ← lim_eq]; exact hz, by rw [stx_app]; exact hq.same r (.str _) w⟩
    | _ => exact False.elim w
  | tup hs hd =>
    cases ry with
    | tup hs2 hd2 =>
      obtain ⟨hz, w⟩ := w
      refine op_catA pins s σ H _ _ vv uu Q I rv ru ⟨_, _, _, _, rfl, rfl, hs, hs2, by rw [← hd.length, ← hd2.length, ← lim_eq]; exact hz, fun e => ?_, fun _ e => ?_, fun _ _ => hq.newT r (hd.append hd2) w⟩
      · subst e
        cases hd
        exact hq.same r (.tup hs2 hd2) w
      · subst e
        cases hd2
        rw [List.append_nil] at w
        exact hq.same r (.tup hs hd) w
    | _ => exact False.elim w
  | ref a =>
    cases ry with
    | ref b =>
      obtain ⟨xs, e1, w⟩ := opt_of w
      obtain ⟨ys, e2, hz, w⟩ := opt_of w
      obtain ⟨vs, h1, d1⟩ := r.at e1
      obtain ⟨us, h2, d2⟩ := r.at e2
      refine op_cat pins s σ H _ _ vv uu Q I rv ru ⟨a, b, vs, us, rfl, rfl, h1, h2, ?_, hq.newL r (d1.append d2) w⟩
      rw [← d1.length, ← d2.length, ← lim_eq, ← List.length_append]
      exact hz
    | _ => exact False.elim w
  | _ => exact False.elim w
theorem ob_sub : OpR X (binaryOp .Sub) (rB X.K .sub) := by
  intro pins s σ H v u vv uu Q I rv ru h
  obtain ⟨x, y, S, Qd, r, rx, ry, w, hq⟩ := h
  obtain ⟨i, rfl, w⟩ := onI_of w
  obtain ⟨j, rfl, w⟩ := onI_of w
  cases rx
  cases ry
  exact op_sub pins s σ H _ _ vv uu Q I rv ru ⟨i, j, rfl, rfl, hq.same r (.int _) w⟩
theorem ob_mul : OpR X (binaryOp .Mult) (rB X.K .mul) := by
  intro pins s σ H v u vv uu Q I rv ru h
  obtain ⟨x, y, S, Qd, r, rx, ry, w, hq⟩ := h
  cases rx with
  | int i =>
    cases ry with
    | int j =>
      obtain ⟨s1, s2, w⟩ := w
      have l1 := sm_log s1
      have l2 := sm_log s2
      exact op_mulW pins s σ H _ _ vv uu Q I rv ru ⟨i, j, rfl, rfl, by show _ + _ < 1000000; omega, hq.same r (.int _) w⟩
    | _ => exact False.elim w
  | ref a =>
    cases ry with
    | int k =>
      obtain ⟨xs, e1, k0, k1, hz, w⟩ := opt_of w
      obtain ⟨vs, h1, d1⟩ := r.at e1
      refine op_rep pins s σ H _ _ vv uu Q I rv ru ⟨a, k, vs, rfl, rfl, h1, by omega, by omega, ?_, hq.newL r (d1.rep _) w⟩
      rw [List.length_flatten, List.map_replicate, List.sum_replicate_nat] at hz
      rw [← d1.length, ← lim_eq, Nat.mul_comm]
      exact hz
    | _ => exact False.elim w
  | _ => exact False.elim w
theorem ob_fdiv : OpR X (binaryOp .FloorDiv) (rB X.K .fdiv) := by
  intro pins s σ H v u vv uu Q I rv ru h
  obtain ⟨x, y, S, Qd, r, rx, ry, w, hq⟩ := h
  obtain ⟨i, rfl, w⟩ := onI_of w
  obtain ⟨j, rfl, w⟩ := onI_of w
  cases rx
  cases ry
  obtain ⟨s1, s2, w⟩ := w
  obtain ⟨t, rfl⟩ := rv
  obtain ⟨t', rfl⟩ := ru
  have l2 := smd_log s2
  exact floordiv_int s1 ⟨.int (i.fdiv j), H, I.tok _, ⟨_, rfl⟩, hq.same r (.int _) w⟩ (.inl (PyProof.noPylong_of_log2 (by omega)))
theorem ob_mod : OpR X (binaryOp .Mod) (rB X.K .mod) := by
  intro pins s σ H v u vv uu Q I rv ru h
  obtain ⟨x, y, S, Qd, r, rx, ry, w, hq⟩ := h
  obtain ⟨i, rfl, w⟩ := onI_of w
  obtain ⟨j, rfl, w⟩ := onI_of w
  cases rx
  cases ry
  obtain ⟨s1, w⟩ := w
  exact op_modN pins s σ H _ _ vv uu Q I rv ru ⟨i, j, rfl, rfl, s1, hq.same r (.int _) w⟩
theorem ob_pow : OpR X (binaryOp .Pow) (rB X.K .pow) := by
  intro pins s σ H v u vv uu Q I rv ru h
  obtain ⟨x, y, S, Qd, r, rx, ry, w, hq⟩ := h
  obtain ⟨i, rfl, w⟩ := onI_of w
  obtain ⟨j, rfl, w⟩ := onI_of w
  cases rx
  cases ry
  obtain ⟨s1, s2, s3, w⟩ := w
  obtain ⟨t, rfl⟩ := rv
  obtain ⟨t', rfl⟩ := ru
  have l1 := sm_log s1
  have b : (Builtin.Int.intBits i : Int) ≤ 4001 := by
    unfold Builtin.Int.intBits
    split <;> omega
  refine PyProof.Rows.pow_int s2 ?_ ⟨.int (i ^ j.toNat), H, I.tok _, ⟨_, rfl⟩, hq.same r (.int _) w⟩
  have : (Builtin.Int.intBits i : Int) * j ≤ 4001 * 1000 := by
    refine Int.le_trans (Int.mul_le_mul_of_nonneg_right b s2) ?_
    omega
  omega
theorem ob_all : ∀ {o : M.Bo} {p : Operator} (h : boOk o p = true), OpR X (binaryOp p) (rB X.K o)
  | .add, .Add, _ => ob_add
  | .sub, .Sub, _ => ob_sub
  | .mul, .Mult, _ => ob_mul
  | .fdiv, .FloorDiv, _ => ob_fdiv
  | .mod, .Mod, _ => ob_mod
  | .pow, .Pow, _ => ob_pow
end
end Snd
namespace Snd
open PySem PySem.Spec PyProof.Rows L2
/-! ### == of data -/
def toP : Nat → M.Sto → M.D → PyData
  | 0, _, _ => .none
  | n + 1, S, d => (match d with
    | .non => .none
    | .bl b => .bool b
    | .int i => .int i
    | .str x => .str (stx x)
    | .tup xs => .tuple (xs.map (toP n S))
    | .fl xs => .list (xs.map (toP n S))
    | .ref a => .list (((M.lstAt S a).getD []).map (toP n S))
    | .xn _ _ => .none)
theorem optB_of {α : Type} {o : Option α} {P : α → Bool} (h : M.optB o P = true) : ∃ a, o = some a ∧ P a = true := by
  cases o with
  | none => cases h
  | some a => exact ⟨a, rfl, h⟩
theorem depthAll_le {n : Nat} {f : M.D → PyData} (h : ∀ d, (f d).depth ≤ n) : ∀ xs : List M.D, PyData.depthAll (xs.map f) ≤ n
  | [] => Nat.zero_le _
  | x :: xs => by
    rw [List.map_cons]
    unfold PyData.depthAll
    exact Nat.max_le.mpr ⟨h x, depthAll_le h xs⟩
theorem toP_depth : ∀ (n : Nat) (S : M.Sto) (d : M.D), (toP n S d).depth ≤ n
  | 0, _, _ => by simp [toP, PyData.depth]
  | n + 1, S, d => by
    unfold toP
    have ih := toP_depth n S
    cases d with
    | tup xs => simp only [PyData.depth]; have := depthAll_le ih xs; omega
    | fl xs => simp only [PyData.depth]; have := depthAll_le ih xs; omega
    | ref a => simp only [PyData.depth]; have := depthAll_le ih ((M.lstAt S a).getD []); omega
    | _ => simp [PyData.depth]
theorem canAll {f : M.D → PyData} {ok : M.D → Bool} (h : ∀ d, ok d = true → (f d).canLay0 = true) : ∀ {xs : List M.D}, M.fitL ok xs = true → PyData.canLayAll0 (xs.map f) = true
  | [], _ => by simp [PyData.canLayAll0]
  | x :: xs, e => by
    unfold M.fitL at e
    obtain ⟨e1, e2⟩ := Bool.and_eq_true_iff.mp e
    rw [List.map_cons]
    unfold PyData.canLayAll0
    rw [h x e1, canAll h e2]
    rfl
theorem fit_lay : ∀ {n : Nat} {S : M.Sto} {d : M.D}, M.fit n S d = true → (toP n S d).canLay0 = true
  | 0, _, _, h => by simp [M.fit] at h
  | n + 1, S, d, h => by
    unfold M.fit at h
    unfold toP
    have ih : ∀ d, M.fit n S d = true → (toP n S d).canLay0 = true := fun d => fit_lay
    cases d with
    | tup xs => simp only [PyData.canLay0]; exact canAll ih h
    | fl xs => simp only [PyData.canLay0]; exact canAll ih h
    | ref a =>
      obtain ⟨xs, e, h⟩ := optB_of h
      simp only [PyData.canLay0, e, Option.getD_some]; exact canAll ih h
    | str x =>
      simp only [PyData.canLay0, PyData.strOk, stx]
      simpa using h
    | xn c fs => cases h
    | _ => simp [PyData.canLay0]
section
variable {K : Frag} {H : Hp} {S : M.Sto}
theorem dpAll {f : M.D → PyData} {ok : M.D → Bool} (h : ∀ d v, ok d = true → RelD K H d v → Dp K H v (f d)) : ∀ {xs : List M.D} {vs : List V}, M.fitL ok xs = true → RelDs K H xs vs → DpAll K H vs (xs.map f)
  | [], _, _, .nil => .nil
  | x :: xs, _, e, .cons a b => by
    unfold M.fitL at e
    obtain ⟨e1, e2⟩ := Bool.and_eq_true_iff.mp e
    exact .cons (h x _ e1 a) (dpAll h e2 b)
theorem fit_dp (r : RelS K H S) : ∀ {n : Nat} {d : M.D} {v : V}, M.fit n S d = true → RelD K H d v → Dp K H v (toP n S d)
  | 0, _, _, h, _ => by simp [M.fit] at h
  | n + 1, d, v, h, rd => by
    unfold M.fit at h
    unfold toP
    have ih : ∀ d v, M.fit n S d = true → RelD K H d v → Dp K H v (toP n S d) := fun d v => fit_dp r
    cases rd with
    | non => exact .non
    | bl b => exact .bl b
    | int i => exact .int i
    | str x => exact .str _
    | tup hs hd => exact .tup hs (dpAll ih h hd)
    | fl hs hd => exact .lst hs.sq (dpAll ih h hd)
    | ref a =>
      obtain ⟨xs, e, h⟩ := optB_of h
      obtain ⟨vs, h1, h2⟩ := r.at e
      simp only [e, Option.getD_some]
      exact .lst (SqL.of h1) (dpAll ih h h2)
theorem eqLB_ok {f : M.D → PyData} {ok : M.D → Bool} {eq : M.D → M.D → Bool} (h : ∀ x y, ok x = true → ok y = true → eq x y = PyData.eqv (f x) (f y)) :
    ∀ xs ys : List M.D, M.fitL ok xs = true → M.fitL ok ys = true → M.eqLB eq xs ys = PyData.eqvAll (xs.map f) (ys.map f)
  | [], [], _, _ => by simp [M.eqLB, PyData.eqvAll]
  | [], _ :: _, _, _ => by simp [M.eqLB, PyData.eqvAll]
  | _ :: _, [], _, _ => by simp [M.eqLB, PyData.eqvAll]
  | x :: xs, y :: ys, h1, h2 => by
    unfold M.fitL at h1 h2
    obtain ⟨a1, a2⟩ := Bool.and_eq_true_iff.mp h1
    obtain ⟨b1, b2⟩ := Bool.and_eq_true_iff.mp h2
    simp only [M.eqLB, List.map_cons, PyData.eqvAll, h x y a1 b1, eqLB_ok h xs ys a2 b2]
theorem stx_beq (x y : M.Tx) : (stx x == stx y) = (x == y) := by
  rw [Bool.eq_iff_iff]
  simp [stx_inj]
/-- a list of the store reads like one by value -/
theorem ref_fl {n : Nat} {a : Nat} {xs : List M.D} (e : M.lstAt S a = some xs) : toP (n + 1) S (.ref a) = toP (n + 1) S (.fl xs) ∧ M.fit (n + 1) S (.ref a) = M.fit (n + 1) S (.fl xs) ∧ (∀ y, M.eqB (n + 1) S (.ref a) y = M.eqB (n + 1) S (.fl xs) y) ∧ ∀ y, M.eqB (n + 1) S y (.ref a) = M.eqB (n + 1) S y (.fl xs) := by
  refine ⟨?_, ?_, fun y => ?_, fun y => ?_⟩
  · show PyData.list (((M.lstAt S a).getD []).map (toP n S)) = PyData.list (xs.map (toP n S))
    rw [e] <;> rfl
  · show M.optB (M.lstAt S a) (M.fitL (M.fit n S)) = M.fitL (M.fit n S) xs
    rw [e] <;> rfl
  · have q : M.eqO (M.eqLB (M.eqB n S)) (M.lstAt S a) (M.lsOf S y) = M.eqO (M.eqLB (M.eqB n S)) (some xs) (M.lsOf S y) := by rw [e]
    cases y <;> exact q
  · cases y <;> first
      | rfl
      | (rename_i b; exact (show M.eqO (M.eqLB (M.eqB n S)) (M.lstAt S b) (M.lstAt S a) = M.eqO (M.eqLB (M.eqB n S)) (M.lstAt S b) (some xs) by rw [e]))
      | (rename_i ys; exact (show M.eqO (M.eqLB (M.eqB n S)) (some ys) (M.lstAt S a) = M.eqO (M.eqLB (M.eqB n S)) (some ys) (some xs) by rw [e]))
theorem fit_ref {n : Nat} {a : Nat} (h : M.fit (n + 1) S (.ref a) = true) : ∃ xs, M.lstAt S a = some xs := let ⟨xs, e, _⟩ := optB_of h; ⟨xs, e⟩
theorem eqv_tl {xs ys : List PyData} : PyData.eqv (.tuple xs) (.list ys) = false ∧ PyData.eqv (.list xs) (.tuple ys) = false := by
  constructor <;> simp [PyData.eqv]
theorem eqB_ok (S : M.Sto) (n : Nat) : ∀ (x y : M.D), M.fit n S x = true → M.fit n S y = true → M.eqB n S x y = PyData.eqv (toP n S x) (toP n S y) := by
  induction n with
  | zero => intro _ _ h _; simp [M.fit] at h
  | succ n ih =>
    have main : ∀ (x y : M.D), (∀ a, x ≠ .ref a) → (∀ a, y ≠ .ref a) → M.fit (n + 1) S x = true → M.fit (n + 1) S y = true → M.eqB (n + 1) S x y = PyData.eqv (toP (n + 1) S x) (toP (n + 1) S y) := by
      intro x y nx ny h1 h2
      cases x <;> cases y <;> first
        | exact absurd rfl (nx _)
        | exact absurd rfl (ny _)
        | exact absurd (show false = true from h1) Bool.false_ne_true
        | exact absurd (show false = true from h2) Bool.false_ne_true
        | (show M.eqLB (M.eqB n S) _ _ = PyData.eqv (.tuple _) (.tuple _); rw [PyData.eqv]; exact eqLB_ok ih _ _ h1 h2)
        | (show M.eqLB (M.eqB n S) _ _ = PyData.eqv (.list _) (.list _); rw [PyData.eqv]; exact eqLB_ok ih _ _ h1 h2)
        | (show (_ == _) = PyData.eqv (.str _) (.str _); rw [PyData.eqv, stx_beq])
        | (show _ = PyData.eqv _ _; unfold toP; simp only [PyData.eqv]; rfl)
    have m2 : ∀ (x y : M.D), (∀ a, x ≠ .ref a) → M.fit (n + 1) S x = true → M.fit (n + 1) S y = true → M.eqB (n + 1) S x y = PyData.eqv (toP (n + 1) S x) (toP (n + 1) S y) := by
      intro x y nx h1 h2
      by_cases hy : ∃ a, y = .ref a
      · obtain ⟨a, rfl⟩ := hy
        obtain ⟨xs, e⟩ := fit_ref h2
        obtain ⟨e1, e2, _, e4⟩ := ref_fl (n := n) e
        rw [e1, e4]
        exact main _ _ nx (fun _ z => nomatch z) h1 (by rw [← e2]; exact h2)
      · exact main _ _ nx (fun a z => hy ⟨a, z⟩) h1 h2
    intro x y h1 h2
    by_cases hx : ∃ a, x = .ref a
    · obtain ⟨a, rfl⟩ := hx
      obtain ⟨xs, e⟩ := fit_ref h1
      obtain ⟨e1, e2, e3, _⟩ := ref_fl (n := n) e
      rw [e1, e3]
      exact m2 _ _ (fun _ z => nomatch z) (by rw [← e2]; exact h1) h2
    · exact m2 _ _ (fun a z => hx ⟨a, z⟩) h1 h2
theorem shaped_of {n : Nat} {d : M.D} (hn : n ≤ 32) (h : M.fit n S d = true) : SeqAt.shaped (toP n S d) = true := by
  unfold SeqAt.shaped
  rw [fit_lay h]
  have := toP_depth n S d
  simp only [Bool.true_and, decide_eq_true_eq]
  omega
end
end Snd
namespace Snd
open PySem PySem.Spec PyProof.Rows L2
/-! ### comparisons -/
def coOk : M.Co → CmpOp → Bool
  | .eq, .Eq => true | .ne, .NotEq => true | .lt, .Lt => true | .le, .LtE => true | .gt, .Gt => true | .ge, .GtE => true
  | .is_, .Is => true | .isn, .IsNot => true | .in_, .In => true | .nin, .NotIn => true
  | _, _ => false
def rCm (K : Frag) (o : M.Co) : R2 := fun v u H Q => ∃ x y S P, RelS K H S ∧ RelD K H x v ∧ RelD K H y u ∧ M.cmpD o x y S P ∧ ∀ b, P b → Q (.bl b) H
section
variable {X : Cx}
theorem oc_lt : OpR X (compareOp .Lt) (rCm X.K .lt) := by
  intro pins s σ H v u vv uu Q I rv ru h
  obtain ⟨x, y, S, P, r, rx, ry, w, hq⟩ := h
  obtain ⟨i, rfl, w⟩ := onI_of w
  obtain ⟨j, rfl, w⟩ := onI_of w
  cases rx
  cases ry
  exact op_lt pins s σ H _ _ vv uu Q I rv ru ⟨i, j, rfl, rfl, hq _ w⟩
theorem oc_le : OpR X (compareOp .LtE) (rCm X.K .le) := by
  intro pins s σ H v u vv uu Q I rv ru h
  obtain ⟨x, y, S, P, r, rx, ry, w, hq⟩ := h
  obtain ⟨i, rfl, w⟩ := onI_of w
  obtain ⟨j, rfl, w⟩ := onI_of w
  cases rx
  cases ry
  exact op_le pins s σ H _ _ vv uu Q I rv ru ⟨i, j, rfl, rfl, hq _ w⟩
theorem oc_gt : OpR X (compareOp .Gt) (rCm X.K .gt) := by
  intro pins s σ H v u vv uu Q I rv ru h
  obtain ⟨x, y, S, P, r, rx, ry, w, hq⟩ := h
  obtain ⟨i, rfl, w⟩ := onI_of w
  obtain ⟨j, rfl, w⟩ := onI_of w
  cases rx
  cases ry
  exact op_gt pins s σ H _ _ vv uu Q I rv ru ⟨i, j, rfl, rfl, hq _ w⟩
theorem oc_ge : OpR X (compareOp .GtE) (rCm X.K .ge) := by
  intro pins s σ H v u vv uu Q I rv ru h
  obtain ⟨x, y, S, P, r, rx, ry, w, hq⟩ := h
  obtain ⟨i, rfl, w⟩ := onI_of w
  obtain ⟨j, rfl, w⟩ := onI_of w
  cases rx
  cases ry
  exact op_ge pins s σ H _ _ vv uu Q I rv ru ⟨i, j, rfl, rfl, hq _ w⟩
theorem eq_cases {x y : M.D} {S : M.Sto} {P : Bool → Prop} (w : M.cmpD .eq x y S P) : (∃ a b, x = .str a ∧ y = .str b ∧ P (a == b)) ∨ (M.fit M.dep S x = true ∧ M.fit M.dep S y = true ∧ P (M.eqB M.dep S x y)) := by
  cases x <;> cases y <;> first | exact .inl ⟨_, _, rfl, rfl, w⟩ | exact .inr w
theorem ne_cases {x y : M.D} {S : M.Sto} {P : Bool → Prop} (w : M.cmpD .ne x y S P) : (∃ a b, x = .str a ∧ y = .str b ∧ P (!(a == b))) ∨ (M.fit M.dep S x = true ∧ M.fit M.dep S y = true ∧ P (!M.eqB M.dep S x y)) := by
  cases x <;> cases y <;> first | exact .inl ⟨_, _, rfl, rfl, w⟩ | exact .inr w
theorem dec_stx {a b : M.Tx} : decide (V.str (stx a) = V.str (stx b)) = (a == b) := by
  by_cases h : a = b
  · subst h; simp
  · have h2 : ¬ V.str (stx a) = V.str (stx b) := fun e => h (stx_inj.mp (V.str.inj e))
    rw [decide_eq_false h2]
    exact (beq_eq_false_iff_ne.mpr h).symm
theorem oc_eq (hu : X.A.units + 64 < cLine) : OpR X (compareOp .Eq) (rCm X.K .eq) := by
  intro pins s σ H v u vv uu Q I rv ru h
  obtain ⟨x, y, S, P, r, rx, ry, w, hq⟩ := h
  rcases eq_cases w with ⟨a, b, rfl, rfl, w⟩ | ⟨f1, f2, w⟩
  · cases rx
    cases ry
    exact op_eq pins s σ H _ _ vv uu Q I rv ru ⟨rfl, by rw [dec_stx]; exact hq _ w⟩
  · refine op_eqD hu pins s σ H _ _ vv uu Q I rv ru ⟨_, _, fit_dp r f1 rx, fit_dp r f2 ry, shaped_of (by decide) f1, shaped_of (by decide) f2, ?_⟩
    rw [← eqB_ok S _ x y f1 f2]
    exact hq _ w
theorem oc_ne (hu : X.A.units + 64 < cLine) : OpR X (compareOp .NotEq) (rCm X.K .ne) := by
  intro pins s σ H v u vv uu Q I rv ru h
  obtain ⟨x, y, S, P, r, rx, ry, w, hq⟩ := h
  rcases ne_cases w with ⟨a, b, rfl, rfl, w⟩ | ⟨f1, f2, w⟩
  · cases rx
    cases ry
    exact op_ne pins s σ H _ _ vv uu Q I rv ru ⟨rfl, by rw [dec_stx]; exact hq _ w⟩
  · refine op_neD hu pins s σ H _ _ vv uu Q I rv ru ⟨_, _, fit_dp r f1 rx, fit_dp r f2 ry, shaped_of (by decide) f1, shaped_of (by decide) f2, ?_⟩
    rw [← eqB_ok S _ x y f1 f2]
    exact hq _ w
theorem is_non {K : Frag} {H : Hp} {x : M.D} {v : V} (r : RelD K H x v) : decide (v = .non) = M.isNon x := by
  cases r <;> simp [M.isNon]
theorem oc_is : OpR X (compareOp .Is) (rCm X.K .is_) := by
  intro pins s σ H v u vv uu Q I rv ru h
  obtain ⟨x, y, S, P, r, rx, ry, w, hq⟩ := h
  cases ry with
  | non => exact op_isN pins s σ H _ _ vv uu Q I rv ru ⟨rfl, by rw [is_non rx]; exact hq _ w⟩
  | bl b =>
    obtain ⟨a, rfl, w⟩ := onB_of w
    cases rx
    exact op_isBl pins s σ H _ _ vv uu Q I rv ru ⟨a, b, rfl, rfl, by have e : (a == b) = decide (a = b) := (by cases a <;> cases b <;> rfl); first | exact hq _ w | (rw [← e]; exact hq _ w)⟩
  | _ => exact False.elim w
theorem oc_isn : OpR X (compareOp .IsNot) (rCm X.K .isn) := by
  intro pins s σ H v u vv uu Q I rv ru h
  obtain ⟨x, y, S, P, r, rx, ry, w, hq⟩ := h
  cases ry with
  | non => exact op_notN pins s σ H _ _ vv uu Q I rv ru ⟨rfl, by rw [is_non rx]; exact hq _ w⟩
  | bl b =>
    obtain ⟨a, rfl, w⟩ := onB_of w
    cases rx
    exact op_notBl pins s σ H _ _ vv uu Q I rv ru ⟨a, b, rfl, rfl, by have e : (a == b) = decide (a = b) := (by cases a <;> cases b <;> rfl); first | exact hq _ w | (rw [← e]; exact hq _ w)⟩
  | _ => exact False.elim w
theorem any_eqB {S : M.Sto} {n : Nat} {x : M.D} (fx : M.fit n S x = true) : ∀ {ys : List M.D}, M.fitL (M.fit n S) ys = true → (ys.any fun y => M.eqB n S y x) = ((ys.map (toP n S)).any fun z => PyData.eqv z (toP n S x))
  | [], _ => rfl
  | y :: ys, h => by
    unfold M.fitL at h
    obtain ⟨h1, h2⟩ := Bool.and_eq_true_iff.mp h
    rw [List.any_cons, List.map_cons, List.any_cons, any_eqB fx h2, eqB_ok S n y x h1 fx]
theorem room_in {A : Around} {n : Nat} {S : M.Sto} {x : M.D} {ys : List PyData} (hn : n ≤ 32) (hu : A.units + 64 < cLine) : A.units + 1 + min (PyData.depthAll ys) (toP n S x).depth < cLine := by
  have h1 := toP_depth n S x
  have h2 : min (PyData.depthAll ys) (toP n S x).depth ≤ (toP n S x).depth := Nat.min_le_right _ _
  omega
theorem onC_of {d : M.D} {P : Nat → Prop} (h : M.onC d P) : ∃ c, d = .str [c] ∧ P c := by
  cases d with
  | str a =>
    match a, h with
    | [c], h => exact ⟨c, rfl, h⟩
  | _ => exact False.elim h
theorem oc_in (hu : X.A.units + 64 < cLine) : OpR X (compareOp .In) (rCm X.K .in_) := by
  intro pins s σ H v u vv uu Q I rv ru h
  obtain ⟨x, y, S, P, r, rx, ry, w, hq⟩ := h
  have seq : ∀ ys, M.sqOf S y = some ys → M.fit M.dep S x = true → M.fitL (M.fit M.dep S) ys = true → P (M.inB S x ys) → wpAny (model X.prog X.w) X.A (compareOp .In vv uu) (EP X pins σ Q) X.xe s := by
    intro ys e f1 f2 w
    obtain ⟨a, vs, rfl, hs, hd⟩ := sqOf_rel r ry e
    cases ru
    obtain ⟨as, r1⟩ := Dp.reads I _ v vv (fit_dp r f1 rx) rv
    have dps := dpAll (K := X.K) (H := H) (f := toP M.dep S) (fun d v h1 h2 => fit_dp r h1 h2) f2 hd
    have cl : PyData.canLayAll0 (ys.map (toP M.dep S)) = true := canAll (fun d h => fit_lay h) f2
    have w2 : P ((ys.map (toP M.dep S)).any fun z => PyData.eqv z (toP M.dep S x)) := by rw [← any_eqB f1 f2]; exact w
    rcases hs with hs | hs
    · obtain ⟨bs, r2⟩ := Dp.reads I (.list (ys.map (toP M.dep S))) _ _ (Dp.lst hs dps) rfl
      exact SeqAt.in_list_reads r2 r1 cl (fit_lay f1) (room_in (by decide) hu) ⟨.bl _, H, I, rfl, hq _ w2⟩
    · obtain ⟨bs, r2⟩ := Dp.reads I (.tuple (ys.map (toP M.dep S))) _ _ (Dp.tup hs dps) rfl
      exact SeqAt.in_tuple_reads r2 r1 cl (fit_lay f1) (room_in (by decide) hu) ⟨.bl _, H, I, rfl, hq _ w2⟩
  cases ry with
  | str b =>
    obtain ⟨c, rfl, w⟩ := onC_of w
    cases rx
    refine op_in_sign pins s σ H _ _ vv uu Q I rv ru ⟨c, _, rfl, rfl, ?_⟩
    have e : decide (c ∈ (stx b).cps.toList) = b.contains c := by rw [stx_cps]; simp
    rw [e]
    exact hq _ w
  | ref a => obtain ⟨ys, e, f1, f2, w⟩ := opt_of (show M.opt (M.sqOf S (.ref a)) (fun ys => M.fit M.dep S x = true ∧ M.fitL (M.fit M.dep S) ys = true ∧ P (M.inB S x ys)) from w); exact seq ys e f1 f2 w
  | tup h1 h2 => obtain ⟨ys, e, f1, f2, w⟩ := opt_of (show M.opt (M.sqOf S (.tup _)) (fun ys => M.fit M.dep S x = true ∧ M.fitL (M.fit M.dep S) ys = true ∧ P (M.inB S x ys)) from w); exact seq ys e f1 f2 w
  | fl h1 h2 => obtain ⟨ys, e, f1, f2, w⟩ := opt_of (show M.opt (M.sqOf S (.fl _)) (fun ys => M.fit M.dep S x = true ∧ M.fitL (M.fit M.dep S) ys = true ∧ P (M.inB S x ys)) from w); exact seq ys e f1 f2 w
  | _ => exact False.elim w
theorem oc_nin (hu : X.A.units + 64 < cLine) : OpR X (compareOp .NotIn) (rCm X.K .nin) := by
  intro pins s σ H v u vv uu Q I rv ru h
  obtain ⟨x, y, S, P, r, rx, ry, w, hq⟩ := h
  have seq : ∀ ys, M.sqOf S y = some ys → M.fit M.dep S x = true → M.fitL (M.fit M.dep S) ys = true → P (!M.inB S x ys) → wpAny (model X.prog X.w) X.A (compareOp .NotIn vv uu) (EP X pins σ Q) X.xe s := by
    intro ys e f1 f2 w
    obtain ⟨a, vs, rfl, hs, hd⟩ := sqOf_rel r ry e
    cases ru
    obtain ⟨as, r1⟩ := Dp.reads I _ v vv (fit_dp r f1 rx) rv
    have dps := dpAll (K := X.K) (H := H) (f := toP M.dep S) (fun d v h1 h2 => fit_dp r h1 h2) f2 hd
    have cl : PyData.canLayAll0 (ys.map (toP M.dep S)) = true := canAll (fun d h => fit_lay h) f2
    have w2 : P (!(ys.map (toP M.dep S)).any fun z => PyData.eqv z (toP M.dep S x)) := by rw [← any_eqB f1 f2]; exact w
    rcases hs with hs | hs
    · obtain ⟨bs, r2⟩ := Dp.reads I (.list (ys.map (toP M.dep S))) _ _ (Dp.lst hs dps) rfl
      exact SeqAt.notIn_list_reads r2 r1 cl (fit_lay f1) (room_in (by decide) hu) ⟨.bl _, H, I, rfl, hq _ w2⟩
    · obtain ⟨bs, r2⟩ := Dp.reads I (.tuple (ys.map (toP M.dep S))) _ _ (Dp.tup hs dps) rfl
      exact SeqAt.notIn_tuple_reads r2 r1 cl (fit_lay f1) (room_in (by decide) hu) ⟨.bl _, H, I, rfl, hq _ w2⟩
  cases ry with
  | str b =>
    obtain ⟨c, rfl, w⟩ := onC_of w
    cases rx
    refine op_notIn_sign pins s σ H _ _ vv uu Q I rv ru ⟨c, _, rfl, rfl, ?_⟩
    have e : decide (c ∈ (stx b).cps.toList) = b.contains c := by rw [stx_cps]; simp
    rw [e]
    exact hq _ w
  | ref a => obtain ⟨ys, e, f1, f2, w⟩ := opt_of (show M.opt (M.sqOf S (.ref a)) (fun ys => M.fit M.dep S x = true ∧ M.fitL (M.fit M.dep S) ys = true ∧ P (!M.inB S x ys)) from w); exact seq ys e f1 f2 w
  | tup h1 h2 => obtain ⟨ys, e, f1, f2, w⟩ := opt_of (show M.opt (M.sqOf S (.tup _)) (fun ys => M.fit M.dep S x = true ∧ M.fitL (M.fit M.dep S) ys = true ∧ P (!M.inB S x ys)) from w); exact seq ys e f1 f2 w
  | fl h1 h2 => obtain ⟨ys, e, f1, f2, w⟩ := opt_of (show M.opt (M.sqOf S (.fl _)) (fun ys => M.fit M.dep S x = true ∧ M.fitL (M.fit M.dep S) ys = true ∧ P (!M.inB S x ys)) from w); exact seq ys e f1 f2 w
  | _ => exact False.elim w
theorem oc_all (hu : X.A.units + 64 < cLine) : ∀ {o : M.Co} {p : CmpOp} (h : coOk o p = true), OpR X (compareOp p) (rCm X.K o)
  | .eq, .Eq, _ => oc_eq hu
  | .ne, .NotEq, _ => oc_ne hu
  | .lt, .Lt, _ => oc_lt
  | .le, .LtE, _ => oc_le
  | .gt, .Gt, _ => oc_gt
  | .ge, .GtE, _ => oc_ge
  | .is_, .Is, _ => oc_is
  | .isn, .IsNot, _ => oc_isn
  | .in_, .In, _ => oc_in hu
  | .nin, .NotIn, _ => oc_nin hu
end
end Snd
namespace Snd
open PySem PySem.Spec PyProof.Rows L2
section
variable {prog : Program} {w : World} {A : Around} {E : Value → Shared → Prop} {s : Shared} {l : Addr} {its : List Value} {ns : List Int} {Q : Value → Shared → Prop}
theorem sumT_raw (hh : A.handled = none) (hl : s.heap.IsTuple l its.toArray) (hi : IntsAre its ns)
    (h : ∀ h' tk t', (∀ b o, s.heap.get? b = some o → h'.get? b = some o) → Q (.int ns.sum t') { s with heap := h', toks := tk }) : wpAny (model prog w) A (call (.builtin "sum") [.ref l]) Q E s := by
  obtain ⟨xs, e⟩ := hi.allInts.items
  have hn : numsOf (intItems xs).toList = ns := by rw [← e]; exact hi.numsOf
  rw [nums_intItems] at hn
  rw [e] at hl
  refine PySem.W.ktm_sumG hh hl fun h' tk t' hk => ?_
  have := h h' tk t' hk
  rw [preSum_eq, List.take_of_length_le (by simp), hn]; exact this
end
section
variable {X : Cx}
def rSumT (K : Frag) : List V → Hp → VK → Prop := fun vs H Q => ∃ (a : Addr) (ns : List Int), vs = [V.ref a] ∧ SqT K H a (ns.map V.int) ∧ Q (.int ns.sum) H
theorem cr_sumT (hc : X.calm = true) : CallR X (.builtin "sum") (rSumT X.K) := by
  intro pins s σ H vs us Q I r h
  obtain ⟨a, ns, rfl, hs, q⟩ := h
  obtain ⟨its, rv, hl, _⟩ := I.tuple hs
  rw [Vals.ref1 r]
  exact sumT_raw (I.ok.hd hc) hl rv.ints fun h' tk t' hk => ⟨.int _, H, I.kept hk, ⟨_, rfl⟩, q⟩
end
/-! ### subscripts -/
def rIxM (K : Frag) : R2 := fun v u H Q => ∃ x i S Qd, RelS K H S ∧ RelD K H x v ∧ RelD K H i u ∧ M.ixD x i S Qd ∧ OkV K S H Qd Q
theorem atI_rel {K : Frag} {H : Hp} {ds : List M.D} {vs : List V} {k : Int} {d : M.D} (h : RelDs K H ds vs) (e : M.atI ds k = some d) : ∃ v, L2.atI vs k = some v ∧ RelD K H d v := by
  unfold M.atI at e
  obtain ⟨j, e1, e2⟩ := Option.bind_eq_some_iff.mp e
  obtain ⟨v, h1, h2⟩ := h.get e2
  refine ⟨v, ?_, h2⟩
  unfold L2.atI
  rw [← h.length]
  exact Option.bind_eq_some_iff.mpr ⟨j, e1, h1⟩
section
variable {X : Cx}
theorem ix_all : IxR X (rIxM X.K) := by
  intro value slice pins s σ H v u vv uu Q I rv ru h hsl
  obtain ⟨x, i, S, Qd, r, rx, ri, w, hq⟩ := h
  have seq : ∀ k xs, u = .int k → M.sqOf S x = some xs → M.opt (M.atI xs k) (fun d => Qd d S) → wpAny (model X.prog X.w) X.A (subscriptTail value slice vv uu) (EP X pins σ Q) X.xe s := by
    intro k xs eu e w
    subst eu
    obtain ⟨d, ea, w⟩ := opt_of w
    obtain ⟨a, vs, rfl, hs, hd⟩ := sqOf_rel r rx e
    obtain ⟨z, hz, rz⟩ := atI_rel hd ea
    rcases hs with hs | hs
    · exact ix_list value slice pins s σ H _ _ vv uu Q I rv ru ⟨a, vs, k, z, rfl, rfl, hs, hz, hq.same r rz w⟩ hsl
    · exact ix_tup value slice pins s σ H _ _ vv uu Q I rv ru ⟨a, vs, k, z, rfl, rfl, hs, hz, hq.same r rz w⟩ hsl
  cases ri with
  | int k =>
    cases rx with
    | str a =>
      obtain ⟨hl, w⟩ := w
      obtain ⟨c, ea, w⟩ := opt_of w
      refine ix_str value slice pins s σ H _ _ vv uu Q I rv ru ⟨_, k, c, rfl, rfl, by rw [stx_len, ← lim_eq]; exact hl, ?_, hq.same r (.str [c]) w⟩ hsl
      rw [stx_cps]
      exact ea
    | tup h1 h2 => exact seq k _ rfl rfl w
    | fl h1 h2 => exact seq k _ rfl rfl w
    | ref a =>
      obtain ⟨xs, e, w⟩ := opt_of (show M.opt (M.sqOf S (.ref a)) (fun xs => M.opt (M.atI xs k) fun d => Qd d S) from w)
      exact seq k xs rfl e w
    | non => exact False.elim w
    | bl b => exact False.elim w
    | int j => exact False.elim w
  | _ => exact False.elim w
end
/-! ### slices -/
def rSlM (K : Frag) : V → Option Int → Option Int → Hp → VK → Prop := fun v lo hi H Q => ∃ x S Qd, RelS K H S ∧ RelD K H x v ∧ M.slD x lo hi S Qd ∧ OkV K S H Qd Q
theorem cut_rel {K : Frag} {H : Hp} {ds : List M.D} {vs : List V} (h : RelDs K H ds vs) (lo hi : Option Int) : RelDs K H (M.cut ds lo hi) (cutV vs lo hi) := by
  have e : M.cut ds lo hi = (ds.drop (HT.sIx vs.length 0 lo)).take (HT.sIx vs.length vs.length hi - HT.sIx vs.length 0 lo) := by
    rw [← h.length]
    rfl
  rw [e]
  exact (h.drop _).take _
theorem stx_cut (x : M.Tx) (lo hi : Option Int) : cutS (stx x) lo hi = stx (M.cut x lo hi) := by
  unfold cutS M.cut
  rw [stx_cps, stx_len]
  rfl
section
variable {X : Cx}
theorem sl_allM : SlR X (rSlM X.K) := by
  intro pins s σ H v vv vl vu lo hi sl Q I rv hs pl pu h
  obtain ⟨x, S, Qd, r, rx, w, hq⟩ := h
  cases rx with
  | str a =>
    obtain ⟨hl, w⟩ := w
    exact sl_str pins s σ H _ vv vl vu lo hi sl Q I rv hs pl pu ⟨_, rfl, by rw [stx_len, ← lim_eq]; exact hl, by rw [stx_cut]; exact hq.same r (.str _) w⟩
  | @tup a ds vs h1 h2 =>
    refine sl_tupA pins s σ H _ vv vl vu lo hi sl Q I rv hs pl pu ⟨a, vs, rfl, h1, fun e => ?_, fun _ => hq.newT r (cut_rel h2 lo hi) w⟩
    have e3 : M.cut ds lo hi = ds := by
      unfold M.cut
      have e1 : M.sIx ds.length 0 lo = 0 := by rw [h2.length]; exact e.1
      have e2 : M.sIx ds.length ds.length hi = ds.length := by rw [h2.length]; exact e.2
      rw [e1, e2]
      simp
    have w' : Qd (.tup (M.cut ds lo hi)) S := w
    rw [e3] at w'
    exact hq.same r (.tup h1 h2) w'
  | fl h1 h2 =>
    exact sl_list pins s σ H _ vv vl vu lo hi sl Q I rv hs pl pu ⟨_, _, rfl, h1.sq, hq.newL r (cut_rel h2 lo hi) w⟩
  | ref a =>
    obtain ⟨xs, e, w⟩ := opt_of (show M.opt (M.lsOf S (.ref a)) (fun xs => ∀ p, S p = none → Qd (.ref p) (M.upd S p (.lst (M.cut xs lo hi)))) from w)
    obtain ⟨vs, h1, h2⟩ := r.at e
    exact sl_list pins s σ H _ vv vl vu lo hi sl Q I rv hs pl pu ⟨_, _, rfl, SqL.of h1, hq.newL r (cut_rel h2 lo hi) w⟩
  | non => exact False.elim w
  | bl b => exact False.elim w
  | int i => exact False.elim w
end
/-! ### built-ins -/
def rBi (K : Frag) (b : M.Bi) : List V → Hp → VK → Prop := fun vs H Q => ∃ ds S Qd, RelS K H S ∧ RelDs K H ds vs ∧ M.biD b ds S Qd ∧ OkV K S H Qd Q
theorem ints_rel {K : Frag} {H : Hp} : ∀ {ds : List M.D} {vs : List V} {is : List Int}, RelDs K H ds vs → M.intsD ds = some is → vs = is.map V.int
  | [], _, is, .nil, e => by cases e; rfl
  | _ :: ds, _ :: vs, is, .cons a b, e => by
    cases a with
    | int i =>
      obtain ⟨js, e1, e2⟩ := Option.map_eq_some_iff.mp (show (M.intsD ds).map (i :: ·) = some is from e)
      subst e2
      rw [List.map_cons, ints_rel b e1]
    | _ => cases e
theorem bools_rel {K : Frag} {H : Hp} : ∀ {ds : List M.D} {vs : List V} {is : List Bool}, RelDs K H ds vs → M.bools ds = some is → vs = is.map V.bl
  | [], _, is, .nil, e => by cases e; rfl
  | _ :: ds, _ :: vs, is, .cons a b, e => by
    cases a with
    | bl i =>
      obtain ⟨js, e1, e2⟩ := Option.map_eq_some_iff.mp (show (M.bools ds).map (i :: ·) = some is from e)
      subst e2
      rw [List.map_cons, bools_rel b e1]
    | _ => cases e
theorem minL_ok : ∀ (r : List Int) (m : Int), (M.minL m r = m ∨ M.minL m r ∈ r) ∧ M.minL m r ≤ m ∧ ∀ y ∈ r, M.minL m r ≤ y
  | [], m => ⟨.inl rfl, Int.le_refl _, fun _ h => nomatch h⟩
  | i :: r, m => by
    show (M.minL (if i < m then i else m) r = m ∨ M.minL (if i < m then i else m) r ∈ i :: r) ∧ M.minL (if i < m then i else m) r ≤ m ∧ ∀ y ∈ i :: r, M.minL (if i < m then i else m) r ≤ y
    by_cases h : i < m
    · rw [if_pos h]
      obtain ⟨h1, h2, h3⟩ := minL_ok r i
      refine ⟨.inr ?_, by omega, fun y hy => ?_⟩
      · rcases h1 with h1 | h1
        · rw [h1]; exact List.mem_cons_self
        · exact List.mem_cons_of_mem _ h1
      · rcases List.mem_cons.mp hy with e | e
        · subst e; exact h2
        · exact h3 y e
    · rw [if_neg h]
      obtain ⟨h1, h2, h3⟩ := minL_ok r m
      refine ⟨?_, h2, fun y hy => ?_⟩
      · rcases h1 with h1 | h1
        · exact .inl h1
        · exact .inr (List.mem_cons_of_mem _ h1)
      · rcases List.mem_cons.mp hy with e | e
        · subst e; omega
        · exact h3 y e
theorem maxL_ok : ∀ (r : List Int) (m : Int), (M.maxL m r = m ∨ M.maxL m r ∈ r) ∧ m ≤ M.maxL m r ∧ ∀ y ∈ r, y ≤ M.maxL m r
  | [], m => ⟨.inl rfl, Int.le_refl _, fun _ h => nomatch h⟩
  | i :: r, m => by
    show (M.maxL (if m < i then i else m) r = m ∨ M.maxL (if m < i then i else m) r ∈ i :: r) ∧ m ≤ M.maxL (if m < i then i else m) r ∧ ∀ y ∈ i :: r, y ≤ M.maxL (if m < i then i else m) r
    by_cases h : m < i
    · rw [if_pos h]
      obtain ⟨h1, h2, h3⟩ := maxL_ok r i
      refine ⟨.inr ?_, by omega, fun y hy => ?_⟩
      · rcases h1 with h1 | h1
        · rw [h1]; exact List.mem_cons_self
        · exact List.mem_cons_of_mem _ h1
      · rcases List.mem_cons.mp hy with e | e
        · subst e; exact h2
        · exact h3 y e
    · rw [if_neg h]
      obtain ⟨h1, h2, h3⟩ := maxL_ok r m
      refine ⟨?_, h2, fun y hy => ?_⟩
      · rcases h1 with h1 | h1
        · exact .inl h1
        · exact .inr (List.mem_cons_of_mem _ h1)
      · rcases List.mem_cons.mp hy with e | e
        · subst e; omega
        · exact h3 y e
theorem stx_txI (i : Int) : Str.ofString (toString i) = stx (M.txI i) := by
  rw [Str.ofString_eq_toList]
  rfl
section
variable {X : Cx}
theorem arg1_of {ds : List M.D} {P : M.D → Prop} (h : M.arg1 ds P) : ∃ d, ds = [d] ∧ P d := by
  match ds, h with
  | [d], h => exact ⟨d, rfl, h⟩
theorem onCons_of {l : List Int} {P : Int → List Int → Prop} (h : M.onCons l P) : ∃ i r, l = i :: r ∧ P i r := by
  cases l with
  | cons i r => exact ⟨i, r, rfl, h⟩
  | nil => exact False.elim h
theorem rel1 {K : Frag} {H : Hp} {d : M.D} {vs : List V} (h : RelDs K H [d] vs) : ∃ v, vs = [v] ∧ RelD K H d v := by
  cases h with
  | cons a b => cases b; exact ⟨_, rfl, a⟩
theorem bi_len : CallR X (.builtin "len") (rBi X.K .len) := by
  intro pins s σ H vs us Q I rv h
  obtain ⟨ds, S, Qd, r, rd, w, hq⟩ := h
  obtain ⟨d, rfl, w⟩ := arg1_of w
  obtain ⟨v, rfl, rx⟩ := rel1 rd
  have seq : M.opt (M.sqOf S d) (fun xs => Qd (.int xs.length) S) → wpAny (model X.prog X.w) X.A (call (.builtin "len") us) (EP X pins σ Q) X.xe s := fun w => by
    obtain ⟨xs, e, w⟩ := opt_of w
    obtain ⟨a, ws, rfl, hs, hd⟩ := sqOf_rel r rx e
    exact call_len_seq pins s σ H _ us Q I rv ⟨a, ws, rfl, hs, by rw [← hd.length]; exact hq.same r (.int _) w⟩
  cases rx with
  | str a =>
    obtain ⟨hl, w⟩ := w
    exact call_len_str pins s σ H _ us Q I rv ⟨_, rfl, by rw [stx_len, ← lim_eq]; exact hl, by rw [stx_len]; exact hq.same r (.int _) w⟩
  | tup h1 h2 => exact seq w
  | fl h1 h2 => exact seq w
  | ref a => exact seq w
  | non => exact seq w
  | bl b => exact seq w
  | int i => exact seq w
theorem bi_abs : CallR X (.builtin "abs") (rBi X.K .abs) := by
  intro pins s σ H vs us Q I rv h
  obtain ⟨ds, S, Qd, r, rd, w, hq⟩ := h
  obtain ⟨d, rfl, w⟩ := arg1_of w
  obtain ⟨v, rfl, rx⟩ := rel1 rd
  obtain ⟨i, rfl, w⟩ := onI_of w
  cases rx
  exact call_abs pins s σ H _ us Q I rv ⟨i, rfl, hq.same r (.int _) w⟩
theorem bi_int : CallR X (.type "int") (rBi X.K .int) := by
  intro pins s σ H vs us Q I rv h
  obtain ⟨ds, S, Qd, r, rd, w, hq⟩ := h
  obtain ⟨d, rfl, w⟩ := arg1_of w
  obtain ⟨v, rfl, rx⟩ := rel1 rd
  cases rx with
  | int i => exact call_int1 pins s σ H _ us Q I rv (.inl ⟨i, rfl, hq.same r (.int _) w⟩)
  | bl b => exact call_int1 pins s σ H _ us Q I rv (.inr ⟨b, rfl, hq.same r (.int _) w⟩)
  | _ => exact False.elim w
theorem bi_min (hc : X.calm = true) : CallR X (.builtin "min") (rBi X.K .min) := by
  intro pins s σ H vs us Q I rv h
  obtain ⟨ds, S, Qd, r, rd, w, hq⟩ := h
  match ds, rd, w with
  | [], _, w => exact False.elim w
  | _ :: _ :: _ :: _, _, w => exact False.elim w
  | [d, e], .cons rx (.cons ry .nil), w =>
    obtain ⟨i, rfl, w⟩ := onI_of w
    obtain ⟨j, rfl, w⟩ := onI_of w
    cases rx
    cases ry
    exact call_min2 hc pins s σ H _ us Q I rv ⟨i, j, rfl, hq.same r (.int _) w⟩
  | [d], .cons rx .nil, w =>
    obtain ⟨xs, e, w⟩ := opt_of w
    obtain ⟨is, e2, w⟩ := opt_of w
    obtain ⟨i, js, rfl, w⟩ := onCons_of w
    obtain ⟨a, ws, rfl, hs, hd⟩ := lsOf_rel r rx e
    have e3 := ints_rel hd e2
    subst e3
    refine cr_min hc pins s σ H _ us Q I rv ⟨a, i :: js, rfl, hs, Nat.succ_pos _, fun m hm hle => ?_⟩
    obtain ⟨h1, h2, h3⟩ := minL_ok js i
    have em : m = M.minL i js := by
      refine Int.le_antisymm ?_ ?_
      · rcases h1 with h1 | h1
        · rw [h1]; exact hle i List.mem_cons_self
        · exact hle _ (List.mem_cons_of_mem _ h1)
      · rcases List.mem_cons.mp hm with e | e
        · rw [e]; exact h2
        · exact h3 m e
    rw [em]
    exact hq.same r (.int _) w
theorem bi_max (hc : X.calm = true) : CallR X (.builtin "max") (rBi X.K .max) := by
  intro pins s σ H vs us Q I rv h
  obtain ⟨ds, S, Qd, r, rd, w, hq⟩ := h
  match ds, rd, w with
  | [], _, w => exact False.elim w
  | _ :: _ :: _ :: _ :: _, _, w => exact False.elim w
  | [d, e, f], .cons rx (.cons ry (.cons rz .nil)), w =>
    obtain ⟨i, rfl, w⟩ := onI_of w
    obtain ⟨j, rfl, w⟩ := onI_of w
    obtain ⟨k, rfl, w⟩ := onI_of w
    cases rx
    cases ry
    cases rz
    refine call_max3Nu hc pins s σ H _ us Q I rv ⟨.int i, .int j, .int k, .int (if k > (if j > i then j else i) then k else (if j > i then j else i)), rfl, ?_, hq.same r (.int _) w⟩
    show (nuMax2 (.int i) (.int j)).bind (fun m => nuMax2 m (.int k)) = _
    have e1 : nuMax2 (.int i) (.int j) = some (.int (if j > i then j else i)) := by
      show (some (decide (i < j))).map (fun c => if c = true then V.int j else V.int i) = _
      by_cases c : i < j
      · simp [c]
      · simp [c]
    rw [e1]
    show nuMax2 (.int (if j > i then j else i)) (.int k) = _
    generalize (if j > i then j else i) = m
    show (some (decide (m < k))).map (fun c => if c = true then V.int k else V.int m) = _
    by_cases c : m < k
    · simp [c]
    · simp [c]
  | [d, e], .cons rx (.cons ry .nil), w =>
    obtain ⟨i, rfl, w⟩ := onI_of w
    obtain ⟨j, rfl, w⟩ := onI_of w
    cases rx
    cases ry
    exact call_max2 hc pins s σ H _ us Q I rv ⟨i, j, rfl, hq.same r (.int _) w⟩
  | [d], .cons rx .nil, w =>
    obtain ⟨xs, e, w⟩ := opt_of w
    obtain ⟨is, e2, w⟩ := opt_of w
    obtain ⟨i, js, rfl, w⟩ := onCons_of w
    obtain ⟨a, ws, rfl, hs, hd⟩ := lsOf_rel r rx e
    have e3 := ints_rel hd e2
    subst e3
    refine cr_max hc pins s σ H _ us Q I rv ⟨a, i :: js, rfl, hs, Nat.succ_pos _, fun m hm hle => ?_⟩
    obtain ⟨h1, h2, h3⟩ := maxL_ok js i
    have em : m = M.maxL i js := by
      refine Int.le_antisymm ?_ ?_
      · rcases List.mem_cons.mp hm with e | e
        · rw [e]; exact h2
        · exact h3 m e
      · rcases h1 with h1 | h1
        · rw [h1]; exact hle i List.mem_cons_self
        · exact hle _ (List.mem_cons_of_mem _ h1)
    rw [em]
    exact hq.same r (.int _) w
theorem bi_all (hc : X.calm = true) : CallR X (.builtin "all") (rBi X.K .all) := by
  intro pins s σ H vs us Q I rv h
  obtain ⟨ds, S, Qd, r, rd, w, hq⟩ := h
  obtain ⟨d, rfl, w⟩ := arg1_of w
  obtain ⟨v, rfl, rx⟩ := rel1 rd
  obtain ⟨xs, e, w⟩ := opt_of w
  obtain ⟨is, e2, w⟩ := opt_of w
  obtain ⟨a, ws, rfl, hs, hd⟩ := lsOf_rel r rx e
  have e3 := bools_rel hd e2
  subst e3
  exact cr_all hc pins s σ H _ us Q I rv ⟨a, is, rfl, hs, hq.same r (.bl _) w⟩
theorem bi_any (hc : X.calm = true) : CallR X (.builtin "any") (rBi X.K .any) := by
  intro pins s σ H vs us Q I rv h
  obtain ⟨ds, S, Qd, r, rd, w, hq⟩ := h
  obtain ⟨d, rfl, w⟩ := arg1_of w
  obtain ⟨v, rfl, rx⟩ := rel1 rd
  obtain ⟨xs, e, w⟩ := opt_of w
  obtain ⟨is, e2, w⟩ := opt_of w
  obtain ⟨a, ws, rfl, hs, hd⟩ := lsOf_rel r rx e
  have e3 := bools_rel hd e2
  subst e3
  exact cr_any hc pins s σ H _ us Q I rv ⟨a, is, rfl, hs, hq.same r (.bl _) w⟩
theorem bi_sum (hc : X.calm = true) : CallR X (.builtin "sum") (rBi X.K .sum) := by
  intro pins s σ H vs us Q I rv h
  obtain ⟨ds, S, Qd, r, rd, w, hq⟩ := h
  obtain ⟨d, rfl, w⟩ := arg1_of w
  obtain ⟨v, rfl, rx⟩ := rel1 rd
  obtain ⟨xs, e, w⟩ := opt_of w
  obtain ⟨is, e2, w⟩ := opt_of w
  obtain ⟨a, ws, rfl, hs, hd⟩ := sqOf_rel r rx e
  have e3 := ints_rel hd e2
  subst e3
  rcases hs with hs | hs
  · exact cr_sum hc pins s σ H _ us Q I rv ⟨a, is, rfl, hs, hq.same r (.int _) w⟩
  · exact cr_sumT hc pins s σ H _ us Q I rv ⟨a, is, rfl, hs, hq.same r (.int _) w⟩
theorem ints_backD {K : Frag} {H : Hp} : ∀ (is : List Int), RelDs K H (is.map M.D.int) (is.map V.int)
  | [] => .nil
  | i :: is => .cons (.int i) (ints_backD is)
theorem bi_sorted : CallR X (.builtin "sorted") (rBi X.K .sorted) := by
  intro pins s σ H vs us Q I rv h
  obtain ⟨ds, S, Qd, r, rd, w, hq⟩ := h
  obtain ⟨d, rfl, w⟩ := arg1_of w
  obtain ⟨v, rfl, rx⟩ := rel1 rd
  obtain ⟨xs, e, w⟩ := opt_of w
  obtain ⟨is, e2, w⟩ := opt_of w
  obtain ⟨a, ws, rfl, hs, hd⟩ := lsOf_rel r rx e
  have e3 := ints_rel hd e2
  subst e3
  exact cr_sortedI pins s σ H _ us Q I rv ⟨a, is, rfl, hs, fun js p h1 h2 hp => hq.newL r (ints_backD js) (w js h1 h2) p hp⟩
theorem bi_list : CallR X (.type "list") (rBi X.K .list) := by
  intro pins s σ H vs us Q I rv h
  obtain ⟨ds, S, Qd, r, rd, w, hq⟩ := h
  obtain ⟨d, rfl, w⟩ := arg1_of w
  obtain ⟨v, rfl, rx⟩ := rel1 rd
  obtain ⟨xs, e, w⟩ := opt_of w
  obtain ⟨a, ws, rfl, hs, hd⟩ := sqOf_rel r rx e
  exact call_list_of pins s σ H _ us Q I rv ⟨a, ws, rfl, hs, hq.newL r hd w⟩
theorem bi_tuple : CallR X (.type "tuple") (rBi X.K .tuple) := by
  intro pins s σ H vs us Q I rv h
  obtain ⟨ds, S, Qd, r, rd, w, hq⟩ := h
  obtain ⟨d, rfl, w⟩ := arg1_of w
  obtain ⟨v, rfl, rx⟩ := rel1 rd
  obtain ⟨xs, e, w⟩ := opt_of w
  obtain ⟨a, ws, rfl, hs, hd⟩ := sqOf_rel r rx e
  rcases hs with hs | hs
  · exact call_tuple_of pins s σ H _ us Q I rv ⟨a, ws, rfl, .inl ⟨hs, hq.newT r hd w⟩⟩
  · exact call_tuple_of pins s σ H _ us Q I rv ⟨a, ws, rfl, .inr ⟨hs, hq.same r (.tup hs hd) w⟩⟩
theorem bi_str : CallR X (.type "str") (rBi X.K .str) := by
  intro pins s σ H vs us Q I rv h
  obtain ⟨ds, S, Qd, r, rd, w, hq⟩ := h
  obtain ⟨d, rfl, w⟩ := arg1_of w
  obtain ⟨v, rfl, rx⟩ := rel1 rd
  obtain ⟨i, rfl, w⟩ := onI_of w
  cases rx
  refine call_str_int pins s σ H _ us Q I rv ⟨i, rfl, w.1, ?_⟩
  have e : Str.ofString (toString i) = stx (M.txI i) := stx_txI i
  show Q (.str (Str.ofString (toString i))) H
  rw [e]
  exact hq.same r (.str _) w.2
/-! ### methods -/
def rMt (K : Frag) (m : M.Mt) : V → List V → Hp → VK → Prop := fun v vs H Q => ∃ x ds S Qd, RelS K H S ∧ RelD K H x v ∧ RelDs K H ds vs ∧ M.mtD m x ds S Qd ∧ OkV K S H Qd Q
/-- a list of the store was written: what is wanted -/
theorem OkV.wrote {K : Frag} {S : M.Sto} {H : Hp} {Qd : M.VK} {Q : VK} (h : OkV K S H Qd Q) (r : RelS K H S) {a : Nat} {xs ds : List M.D} {vs : List V} (e : M.lstAt S a = some xs) (rd : RelDs K H ds vs) {d : M.D} {v : V} (rx : RelD K H d v)
    (q : Qd d (M.upd S a (.lst ds))) : Q v (L2.upd H a (.lst vs)) :=
  have f : Fr S H (M.upd S a (.lst ds)) (L2.upd H a (.lst vs)) := Fr.wr (lstAt_some e)
  h _ _ _ _ f (r.wr (lstAt_some e) rd) (rx.mono r f) q
theorem mt_appendM : MtM X "list.append" (rMt X.K .append) := by
  intro pins s σ H v vs vv us Q I rv rvs h
  obtain ⟨x, ds, S, Qd, r, rx, rd, w, hq⟩ := h
  obtain ⟨a, rfl, w⟩ := onR_of w
  obtain ⟨d, rfl, w⟩ := arg1_of w
  obtain ⟨y, rfl, ry⟩ := rel1 rd
  obtain ⟨xs, e, hl, w⟩ := opt_of w
  obtain ⟨ws, h1, h2⟩ := r.at e
  cases rx
  exact mt_append pins s σ H _ _ vv us Q I rv rvs ⟨a, ws, y, rfl, rfl, h1, by rw [← h2.length, ← lim_eq]; exact hl, hq.wrote r e (h2.append (.cons ry .nil)) .non w⟩
theorem mt_extendM : MtM X "list.extend" (rMt X.K .extend) := by
  intro pins s σ H v vs vv us Q I rv rvs h
  obtain ⟨x, ds, S, Qd, r, rx, rd, w, hq⟩ := h
  obtain ⟨a, rfl, w⟩ := onR_of w
  obtain ⟨d, rfl, w⟩ := arg1_of w
  obtain ⟨y, rfl, ry⟩ := rel1 rd
  obtain ⟨b, rfl, w⟩ := onR_of w
  obtain ⟨xs, e, w⟩ := opt_of w
  obtain ⟨ys, e2, hl, w⟩ := opt_of w
  obtain ⟨ws, h1, h2⟩ := r.at e
  obtain ⟨zs, h3, h4⟩ := r.at e2
  cases rx
  cases ry
  exact mt_extend pins s σ H _ _ vv us Q I rv rvs ⟨a, b, ws, zs, rfl, rfl, h1, h3, by rw [← h2.length, ← h4.length, ← lim_eq]; exact hl, hq.wrote r e (h2.append h4) .non w⟩
theorem mt_popM : MtM X "list.pop" (rMt X.K .pop) := by
  intro pins s σ H v vs vv us Q I rv rvs h
  obtain ⟨x, ds, S, Qd, r, rx, rd, w, hq⟩ := h
  obtain ⟨a, rfl, w⟩ := onR_of w
  match ds, rd, w with
  | [], .nil, w =>
    obtain ⟨xs, e, w⟩ := opt_of w
    obtain ⟨d, e2, w⟩ := opt_of w
    obtain ⟨ws, h1, h2⟩ := r.at e
    obtain ⟨y, h3, h4⟩ := h2.get e2
    cases rx
    exact mt_pop pins s σ H _ _ vv us Q I rv rvs ⟨a, ws, y, rfl, rfl, h1, by rw [← h2.length]; exact h3, hq.wrote r e h2.dropLast h4 w⟩
  | _ :: _, _, w => exact False.elim w
/-! ### o[i] = v -/
def tSx (K : Frag) : V → V → V → Hp → (Hp → Prop) → Prop := fun o i v H Q => ∃ x y z S Qs, RelS K H S ∧ RelD K H x o ∧ RelD K H y i ∧ RelD K H z v ∧ M.sixD x y z S Qs ∧ ∀ S' H', Fr S H S' H' → RelS K H' S' → Qs S' → Q H'
theorem set_listM : PSet X (tSx X.K) := by
  intro pins s σ H o i v ov iv u Q I ro ri rv h
  obtain ⟨x, y, z, S, Qs, r, rx, ry, rz, w, hq⟩ := h
  obtain ⟨a, rfl, w⟩ := onR_of w
  obtain ⟨k, rfl, w⟩ := onI_of w
  obtain ⟨xs, e, w⟩ := opt_of w
  obtain ⟨j, e2, w⟩ := opt_of w
  obtain ⟨ws, h1, h2⟩ := r.at e
  cases rx
  cases ry
  refine set_list pins s σ H _ _ _ ov iv u Q I ro ri rv ⟨a, ws, k, j, rfl, rfl, h1, by rw [← h2.length]; exact e2, ?_⟩
  exact hq _ _ (Fr.wr (lstAt_some e)) (r.wr (lstAt_some e) (h2.set j rz)) w
end
end Snd
namespace Snd
open PySem PySem.Spec PyProof.Rows L2
/-! ### isinstance -/
def tyN : M.Ty → String
  | .int => "int" | .bool => "bool" | .tuple => "tuple" | .list => "list" | .str => "str"
def tyS : M.Ty → Str
  | .int => "int" | .bool => "bool" | .tuple => "tuple" | .list => "list" | .str => "str"
theorem tyB (t : M.Ty) : bootBuiltins (tyS t) = some (.type (tyN t)) := by cases t <;> decide +kernel
theorem ky_none (t : M.Ty) : kitB "NoneType" (tyN t) = some false := by cases t <;> decide +kernel
theorem ky_bool (t : M.Ty) : kitB "bool" (tyN t) = some (decide (t = .bool) || decide (t = .int)) := by cases t <;> decide +kernel
theorem ky_int (t : M.Ty) : kitB "int" (tyN t) = some (decide (t = .int)) := by cases t <;> decide +kernel
theorem ky_str (t : M.Ty) : kitB "str" (tyN t) = some (decide (t = .str)) := by cases t <;> decide +kernel
theorem ky_tup (t : M.Ty) : kitB "tuple" (tyN t) = some (decide (t = .tuple)) := by cases t <;> decide +kernel
theorem ky_lst (t : M.Ty) : kitB "list" (tyN t) = some (decide (t = .list)) := by cases t <;> decide +kernel
theorem ky_dic (t : M.Ty) : kitB "dict" (tyN t) = some false := by cases t <;> decide +kernel
theorem isTy_all {K : Frag} {H : Hp} {S : M.Sto} (r : RelS K H S) {d : M.D} {v : V} (rd : RelD K H d v) {t0 : M.Ty} {b0 : Bool} (e0 : M.isTy S d t0 = some b0) :
    ∃ n, TyX K H v (.type n) ∧ ∀ t b, M.isTy S d t = some b → kitB n (tyN t) = some b := by
  cases rd with
  | non => exact ⟨_, .base .non, fun t b e => by cases e; exact ky_none t⟩
  | bl x => exact ⟨_, .base (.bl x), fun t b e => by cases e; exact ky_bool t⟩
  | int x => exact ⟨_, .base (.int x), fun t b e => by cases e; exact ky_int t⟩
  | str x => exact ⟨_, .base (.str _), fun t b e => by cases e; exact ky_str t⟩
  | tup h1 h2 =>
    refine ⟨"tuple", ?_, fun t b e => by cases e; exact ky_tup t⟩
    rcases h1 with (h | ⟨o, h⟩) | ⟨o, its, n, hk, hc, _⟩
    · exact .base (.tup h)
    · exact .fTuple h
    · exact .kTuple hk hc
  | fl h1 h2 =>
    refine ⟨"list", ?_, fun t b e => by cases e; exact ky_lst t⟩
    rcases h1 with ⟨o, h⟩ | ⟨o, its, n, hk, hc, _⟩
    · exact .base (.frz h)
    · exact .kList hk hc
  | ref a =>
    have e' : M.tyO (S a) t0 = some b0 := e0
    cases q : S a with
    | none => rw [q] at e'; cases e'
    | some o =>
      cases o with
      | lst ds =>
        obtain ⟨vs, h1, _⟩ := r a _ q
        refine ⟨_, .base (.lst h1), fun t b e => ?_⟩
        have e : M.tyO (S a) t = some b := e
        rw [q] at e
        cases e
        exact ky_lst t
      | dic =>
        refine ⟨_, .base (.dK (r a _ q)), fun t b e => ?_⟩
        have e : M.tyO (S a) t = some b := e
        rw [q] at e
        cases e
        exact ky_dic t
theorem isTy_rel {K : Frag} {H : Hp} {S : M.Sto} (r : RelS K H S) {d : M.D} {v : V} (rd : RelD K H d v) {t : M.Ty} {b : Bool} (e : M.isTy S d t = some b) :
    ∃ n, TyX K H v (.type n) ∧ kitB n (tyN t) = some b := by
  obtain ⟨n, h1, h2⟩ := isTy_all r rd e
  exact ⟨n, h1, h2 t b e⟩
/-! ### [::-1] -/
section
variable {X : Cx}
theorem places_rev (n : Nat) : Builtin.Slice.slicePlaces ((n : Int) - 1) (-1) (-1) = n := by
  unfold Builtin.Slice.slicePlaces
  have h1 : ¬ ((-1 : Int) > 0) := by decide
  simp only [h1, if_false]
  have e : (-(-1 : Int)) = 1 := by decide
  rw [e, Int.ediv_one]
  split <;> omega
theorem sliceApplied_rev {prog : Program} {w : World} {A : Around} {E : Value → Shared → Prop} {s : Shared} {sl : Addr} {vl vu vs : Value} {n : Nat} {Q : Int × Int × Nat → Shared → Prop} (hs : s.heap.IsSliceOf sl vl vu vs) (pl : IsPart vl none) (pu : IsPart vu none) (ps : IsPart vs (some (-1)))
    (h : Q ((n : Int) - 1, -1, n) s) : wpAny (model prog w) A (Builtin.Slice.sliceApplied (.ref sl) (pure (n : Int))) Q E s := by
  obtain ⟨os, hos, hcs, hds⟩ := id hs
  unfold Builtin.Slice.sliceApplied Builtin.Slice.sliceFields
  refine wpAny_bind (wpAny_bind (wpAny_field hos hds (x := vl) rfl (wpAny_bind (wpAny_field hos hds (x := vu) rfl (wpAny_bind (wpAny_field hos hds (x := vs) rfl (wpAny_pure ?_)))))))
  refine wpAny_bind (HT.slicePart_ ps ?_)
  show wpAny _ _ (if ((-1 : Int) == 0) = true then _ else _) _ _ s
  rw [if_neg (by decide)]
  refine wpAny_bind (HT.slicePart_ pl (wpAny_bind (HT.slicePart_ pu (wpAny_bind (wpAny_pure ?_)))))
  show wpAny _ _ (pure ((n : Int) - 1, (-1 : Int), Builtin.Slice.slicePlaces ((n : Int) - 1) (-1) (-1))) _ _ s
  rw [places_rev]
  exact wpAny_pure h
theorem fm_congr {α β : Type} {f g : α → Option β} : ∀ {l : List α}, (∀ x ∈ l, f x = g x) → l.filterMap f = l.filterMap g
  | [], _ => rfl
  | x :: l, h => by
    rw [List.filterMap_cons, List.filterMap_cons, h x List.mem_cons_self, fm_congr fun y hy => h y (List.mem_cons_of_mem _ hy)]
theorem pick_rev (its : List Value) : ((List.range its.length).filterMap fun (k : Nat) => its.toArray[(((its.length : Int) - 1) + (k : Int) * -1).toNat]?).toArray = its.reverse.toArray := by
  have e : (List.range its.length).filterMap (fun (k : Nat) => its.toArray[(((its.length : Int) - 1) + (k : Int) * -1).toNat]?) = ((List.range its.length).map fun k => its.length - 1 - k).filterMap (fun j => its.toArray[j]?) := by
    rw [List.filterMap_map]
    refine fm_congr fun k hk => ?_
    have := List.mem_range.mp hk
    have e : (((its.length : Int) - 1) + (k : Int) * -1).toNat = its.length - 1 - k := by omega
    show its.toArray[(((its.length : Int) - 1) + (k : Int) * -1).toNat]? = its.toArray[its.length - 1 - k]?
    rw [e]
  have a := PySem.W.krv_all its.toArray
  rw [e, PySem.W.krv_range, List.filterMap_reverse]
  simp only [List.size_toArray] at a
  rw [a]
theorem getItem_tuple_rev {prog : Program} {w : World} {A : Around} {E : Value → Shared → Prop} {s : Shared} {t sl : Addr} {its : List Value} {vl vu vs : Value} {Q : Value → Shared → Prop} (ht : IsTup s.heap t its.toArray) (hs : s.heap.IsSliceOf sl vl vu vs) (pl : IsPart vl none) (pu : IsPart vu none) (ps : IsPart vs (some (-1)))
    (hz : its.length ≤ sizeLine) (h : Q (.ref s.heap.objs.size) { s with heap := s.heap.push { cls := .type "tuple", data := .seq its.reverse.toArray } }) :
    wpAny (model prog w) A (getItem (.ref t) (.ref sl)) Q E s := by
  obtain ⟨os, hos, hcs, hds⟩ := id hs
  have hTs : s.TypeIs (.ref sl) "slice" := ⟨os, hos, hcs⟩
  unfold getItem
  try with_reducible refine wpAny_holding ?_
  first | refine wpAny_bind (wpAny_pure ?_) | skip
  refine wpAny_bind (wpAny_sequenceKey ht.typeIs (by decide) ?_)
  refine wpAny_bind (wpAny_callSpecial?_slot (name := Str.ofString "__getitem__") ht.typeIs PyProof.Rows.slot_tuple_getitem
    (wpAny_call_entry PyProof.Rows.slot_tuple_getitem ht.typeIs entry_tuple_getitem ?_ (args_tuple_getitem _ _)))
  show wpAny _ _ (Builtin.Tuple.tupleItemsOf (.ref t) >>= _) _ _ s
  refine wpAny_bind (tupleItemsOf_ ht ?_)
  refine wpAny_bind (wpAny_typeOf hTs ?_)
  rw [if_pos (by decide)]
  refine wpAny_bind (sliceApplied_rev hs pl pu ps ?_)
  have hno : ¬ ((((its.toArray.size : Int) - 1) == 0 && (-1 : Int) == 1 && its.toArray.size == its.toArray.size) = true) := by
    rw [show ((-1 : Int) == 1) = false by decide]
    simp
  show wpAny _ _ (if (((its.toArray.size : Int) - 1) == 0 && (-1 : Int) == 1 && its.toArray.size == its.toArray.size) = true then _ else _) _ _ s
  rw [if_neg hno]
  have e := pick_rev its
  have e2 : its.toArray.size = its.length := List.size_toArray
  rw [e2, e]
  have hsz : sizeOk (.seq its.reverse.toArray) := by
    show its.reverse.toArray.size ≤ sizeLine
    rw [List.size_toArray, List.length_reverse]
    exact hz
  first
    | exact wpAny_bind (m := Builtin.Tuple.tupleExact _) (wpAny_newObj_type (wpAny_pure ⟨_, rfl, wpAny_pure h⟩) hsz)
    | exact wpAny_bind (m := Builtin.Tuple.tupleExact _) (wpAny_newObj_type (wpAny_bind (wpAny_pure (wpAny_pure ⟨_, rfl, wpAny_pure h⟩))) hsz)
    | exact wpAny_bind (wpAny_bind (m := Builtin.Tuple.tupleExact _) (wpAny_newObj_type (wpAny_pure (wpAny_pure ⟨_, rfl, wpAny_pure h⟩)) hsz))
    | exact wpAny_bind (wpAny_bind (m := Builtin.Tuple.tupleExact _) (wpAny_newObj_type (wpAny_pure ⟨_, rfl, wpAny_pure h⟩) hsz))
def rRv (K : Frag) : V → Hp → VK → Prop := fun v H Q => ∃ x S Qd, RelS K H S ∧ RelD K H x v ∧ M.revD x S Qd ∧ OkV K S H Qd Q
theorem pe_revM {e : Expr} {te : TE} {k : Nat} {p1 p2 p3 pos : Pos} (he : PE X e te) : PE X (.Subscript e (.Slice none none (some (.UnaryOp .USub (.Constant (.int 1) k p1) p2)) p3) pos) (fun σ H Q => te σ H fun v H1 => rRv X.K v H1 Q) := by
  refine ⟨fun pins s σ H Q I h => ?_⟩
  refine Subscript_ (thn (he.run pins s σ H _ I h) fun v s1 ⟨x, H1, I1, r1, q1⟩ => ?_)
  obtain ⟨d, S, Qd, r, rd, w, hq⟩ := q1
  have hst : PO X (some (.UnaryOp .USub (.Constant (.int 1) k p1) p2)) (tPart (tUn (rU fun i => .int (-i)) (tC (.int 1)))) := po_some (pe_un un_neg pe_int)
  refine wpAny_Slice (thn (po_none.run pins s1 σ H1 (fun o H2 => o = none ∧ H2 = H1) I1 ⟨rfl, rfl⟩) fun vl s2 ⟨l, H2, I2, pl, el, e2⟩ => ?_)
  subst el e2
  refine thn (po_none.run pins s2 σ H2 (fun o H3 => o = none ∧ H3 = H2) I2 ⟨rfl, rfl⟩) fun vu s3 ⟨u, H3, I3, pu, eu, e3⟩ => ?_
  subst eu e3
  refine thn (hst.run pins s3 σ H3 (fun o H4 => o = some (-1) ∧ H4 = H3) I3 ⟨1, rfl, -1, rfl, rfl, rfl⟩) fun vs s4 ⟨o, H4, I4, ps, eo, e4⟩ => ?_
  subst eo e4
  have I5 : Inv X pins σ H4 { s4 with heap := s4.heap.push { cls := .type "slice", data := .fields #[vl, vu, vs] } } := I4.kept (t' := s4.toks) fun b ob q => Heap.get?_push_of_some _ q
  have lst : ∀ a ws xs, x = .ref a → SqL X.K H4 a ws → RelDs X.K H4 xs ws → (∀ p, S p = none → Qd (.ref p) (M.upd S p (.lst xs.reverse))) → wpAny (model X.prog X.w) X.A (subscriptTail e (.Slice none none (some (.UnaryOp .USub (.Constant (.int 1) k p1) p2)) p3) v (.ref s4.heap.objs.size)) (EP X pins σ Q) X.xe { s4 with heap := s4.heap.push { cls := .type "slice", data := .fields #[vl, vu, vs] } } := by
    intro a ws xs ex hx hd w
    subst ex
    cases r1
    obtain ⟨its, rr, ht, hz⟩ := I5.list hx
    have hlen := rr.length
    refine tail_any (ops := [.ref a, .ref s4.heap.objs.size]) ht.isList.typeIs (PySem.slot_list_getitem.lookup) ?_ (by with_unfolding_all rfl)
    refine wpAny_getItem_list_slice ht.isList (Heap.IsSliceOf.new _ vl vu vs) pl pu ps (by decide) ?_ (by rw [List.size_toArray]; omega)
    rw [PySem.W.krv_pick]
    refine ⟨.ref _, _, I5.laid (t' := s4.toks) (o := .lst ws.reverse) (fun b ob q => Heap.get?_push_of_some _ q) (Nat.le_refl _) ?_, rfl, hq.newL r hd.reverse w _ (I5.hok.fresh (Nat.le_refl _))⟩
    exact ⟨by rw [List.length_reverse]; exact hz, _, 0, rr.reverse, Heap.get?_push_size _ rfl⟩
  show wpAny (model X.prog X.w) X.A (subscriptTail e (.Slice none none (some (.UnaryOp .USub (.Constant (.int 1) k p1) p2)) p3) v (.ref s4.heap.objs.size)) (EP X pins σ Q) X.xe { s4 with heap := s4.heap.push { cls := .type "slice", data := .fields #[vl, vu, vs] } }
  cases rd with
  | @tup a ds ws h1 h2 =>
    cases r1
    obtain ⟨its, rr, ht, hz⟩ := I5.tuple h1
    have hlen := rr.length
    refine tail_any (ops := [.ref a, .ref s4.heap.objs.size]) ht.typeIs (PyProof.Rows.slot_tuple_getitem.lookup) ?_ (by with_unfolding_all rfl)
    refine getItem_tuple_rev ht (Heap.IsSliceOf.new _ vl vu vs) pl pu ps (by omega) ?_
    refine ⟨.ref _, _, I5.laid (t' := s4.toks) (o := .tup ws.reverse) (fun b ob q => Heap.get?_push_of_some _ q) (Nat.le_refl _) ?_, rfl, hq.newT r h2.reverse w _ (I5.hok.fresh (Nat.le_refl _))⟩
    exact ⟨by rw [List.length_reverse]; exact hz, _, rr.reverse, IsTup.new _ _⟩
  | fl h1 h2 => exact lst _ _ _ rfl h1.sq h2 w
  | ref a =>
    obtain ⟨xs, e, w⟩ := opt_of (show M.opt (M.lsOf S (.ref a)) (fun xs => ∀ p, S p = none → Qd (.ref p) (M.upd S p (.lst xs.reverse))) from w)
    obtain ⟨ws, h1, h2⟩ := r.at e
    exact lst a ws xs rfl (SqL.of h1) h2 w
  | non => exact False.elim w
  | bl b => exact False.elim w
  | int i => exact False.elim w
  | str x => exact False.elim w
/-! ### a starred item of a display -/
theorem star_sq {pins : List (Addr × Obj)} {s : Shared} {σ : Sl} {H : Hp} {a : Addr} {vs : List V} {Q : List Value → Shared → Prop} (I : Inv X pins σ H s) (h : SqL X.K H a vs ∨ SqT X.K H a vs) (hq : ∀ us s', Inv X pins σ H s' → Vals vs us → Q us s') :
    PySem.W.StarOf (model X.prog X.w) X.A X.xe (.ref a) Q s := by
  have go : ∀ {T : String} {o : Obj} {its : List Value} {n : Nat}, (T = "list" ∨ T = "tuple") → s.heap.get? a = some o → o.cls = .type T → o.data = .seq its.toArray n → its.length ≤ sizeLine → Vals vs its → PySem.W.StarOf (model X.prog X.w) X.A X.xe (.ref a) Q s := by
    intro T o its n hT ho hc hd hz rv
    have hT' : s.TypeIs (.ref a) T := ⟨o, ho, hc⟩
    have z : wpAny (model X.prog X.w) X.A (collect (.ref a)) Q X.xe s :=
      wpAny_collect_seq a hT ho hc hd (fun h' hk => hq _ _ (I.kept (t' := s.toks) hk) (by simpa using rv)) (by simpa using hz)
    unfold PySem.W.StarOf notIterableAtAll
    rcases hT with rfl | rfl
    · exact wpAny_bind (wpAny_specialOf hT' PySem.F.slot_list_iter.lookup (wpAny_pure ⟨rfl, z⟩))
    · exact wpAny_bind (wpAny_specialOf hT' PySem.F.slot_tuple_iter.lookup (wpAny_pure ⟨rfl, z⟩))
  rcases h with h | h
  · obtain ⟨its, rv, ⟨o, n, ho, hc, _, hd⟩, hz⟩ := I.list h
    exact go (.inl rfl) ho hc hd (by rw [← rv.length]; exact hz) rv
  · obtain ⟨its, rv, ⟨o, ho, hc, n, hd⟩, hz⟩ := I.tuple h
    exact go (.inr rfl) ho hc hd (by rw [← rv.length]; exact hz) rv
theorem pa_star {e : Expr} {es : List Expr} {te : TE} {t : TA} {p : Pos} {r : V → Hp → (List V → Hp → Prop) → Prop}
    (hr : ∀ v H Q, r v H Q → ∃ a vs, v = .ref a ∧ (SqL X.K H a vs ∨ SqT X.K H a vs) ∧ Q vs H) (ha : PE X e te) (ht : PA X es t) :
    PA X (.Starred e p :: es) (fun σ H Q => te σ H fun v H1 => r v H1 fun xs H2 => t σ H2 fun ys H3 => Q (xs ++ ys) H3) := by
  refine ⟨fun pos pins s σ H Q I h => ?_⟩
  refine PySem.W.items_star (thn (ha.run pins s σ H _ I h) fun v s1 ⟨x, H1, I1, r1, q1⟩ => ?_)
  obtain ⟨a, vs, rfl, hs, q⟩ := hr _ _ _ q1
  cases r1
  refine star_sq I1 hs fun us s2 I2 rv => ?_
  exact thn (ht.run pos pins s2 σ H1 _ I2 q) fun ws s3 ⟨ys, H3, I3, rw', q3⟩ => ⟨_, H3, I3, rv.append rw', q3⟩
end
end Snd
namespace Snd
open PySem PySem.Spec PyProof.Rows L2
/-! ### repr -/
mutual
def pyOf : M.P → PyData
  | .non => .none
  | .bl b => .bool b
  | .int i => .int i
  | .str x => .str (stx x)
  | .tup xs => .tuple (pyOfL xs)
  | .lst xs => .list (pyOfL xs)
  | .dic => .dict []
def pyOfL : List M.P → List PyData
  | [] => []
  | x :: r => pyOf x :: pyOfL r
end
def rpF (p : M.P) : M.Tx := (pyOf p).shown.cps.toList
theorem stx_rpF (p : M.P) : stx (rpF p) = (pyOf p).shown := by
  unfold stx rpF
  rw [Array.toArray_toList]
section
variable {X : Cx} {pins : List (Addr × Obj)} {σ : Sl} {H : Hp} {s : Shared} {S : M.Sto}
theorem reads_all {f : M.D → M.P} {ok : M.D → Prop} (h : ∀ d v u, ok d → RelD X.K H d v → RelV v u → ∃ as, Reads s.heap u (pyOf (f d)) as) : ∀ {xs : List M.D} {vs : List V} {us : List Value}, (∀ y ∈ xs, ok y) → RelDs X.K H xs vs → Vals vs us → ∃ as, ReadsAll s.heap us (pyOfL (xs.map f)) as
  | [], _, _, _, .nil, .nil => ⟨_, .nil⟩
  | x :: xs, _, _, o, .cons a b, .cons c d => by
    obtain ⟨as, q1⟩ := h x _ _ (o x List.mem_cons_self) a c
    obtain ⟨bs, q2⟩ := reads_all h (fun y hy => o y (List.mem_cons_of_mem _ hy)) b d
    exact ⟨_, .cons q1 q2⟩
theorem reads_fit (I : Inv X pins σ H s) (r : RelS X.K H S) : ∀ (n : Nat) (d : M.D) (v : V) (u : Value), M.fitR n S d → RelD X.K H d v → RelV v u → ∃ as, Reads s.heap u (pyOf (M.toQ n S d)) as
  | 0, _, _, _, h, _, _ => False.elim h
  | n + 1, d, v, u, h, rd, rv => by
    have ih := reads_fit I r n
    unfold M.fitR at h
    unfold M.toQ
    cases rd with
    | non => cases rv; exact ⟨_, .none⟩
    | bl b => cases rv; exact ⟨_, .bool b⟩
    | int i => obtain ⟨t, rfl⟩ := rv; exact ⟨_, .int i t⟩
    | str x => obtain ⟨t, rfl⟩ := rv; exact ⟨_, .str _ t⟩
    | tup hs hd =>
      cases rv
      obtain ⟨its, rr, ⟨o, ho, hc, m, hdat⟩, _⟩ := I.tuple hs
      obtain ⟨as, q⟩ := reads_all ih h hd rr
      exact ⟨_, .tuple ho hc hdat q⟩
    | fl hs hd =>
      cases rv
      obtain ⟨its, rr, ⟨o, m, ho, hc, _, hdat⟩, _⟩ := I.list hs.sq
      obtain ⟨as, q⟩ := reads_all ih h hd rr
      exact ⟨_, .list ho hc hdat q⟩
    | ref a =>
      cases rv
      obtain ⟨xs, e, h⟩ := opt_of h
      obtain ⟨vs, h1, h2⟩ := r.at e
      obtain ⟨its, rr, ⟨o, m, ho, hc, _, hdat⟩, _⟩ := I.list (SqL.of h1)
      obtain ⟨as, q⟩ := reads_all ih h h2 rr
      simp only [lstAt_some e]
      exact ⟨_, .list ho hc hdat q⟩
end
/-- what is needed of a readable value -/
structure Shw (p : M.P) (n z : Nat) : Prop where
  nd : (pyOf p).hasDict = false
  sh : (pyOf p).showable = true
  dp : (pyOf p).depth ≤ n
  ln : (pyOf p).shown.length ≤ z
theorem shw_all {f : M.D → M.P} {g : M.D → Nat} {n : Nat} {ok : M.D → Prop} (h : ∀ d, ok d → Shw (f d) n (g d)) : ∀ {xs : List M.D}, (∀ y ∈ xs, ok y) →
    PyData.hasDictAll (pyOfL (xs.map f)) = false ∧ PyData.showableAll (pyOfL (xs.map f)) = true ∧ PyData.depthAll (pyOfL (xs.map f)) ≤ n ∧ ((PyData.shownAll (pyOfL (xs.map f))).map (·.length)).sum + 2 * (PyData.shownAll (pyOfL (xs.map f))).length ≤ M.sumN (xs.map fun y => g y + 2)
  | [], _ => by simp [pyOfL, PyData.hasDictAll, PyData.showableAll, PyData.depthAll, PyData.shownAll, M.sumN]
  | x :: xs, o => by
    obtain ⟨a1, a2, a3, a4⟩ := shw_all h (xs := xs) fun y hy => o y (List.mem_cons_of_mem _ hy)
    obtain ⟨b1, b2, b3, b4⟩ := h x (o x List.mem_cons_self)
    simp only [List.map_cons, pyOfL, PyData.hasDictAll, PyData.showableAll, PyData.depthAll, PyData.shownAll, M.sumN, a1, a2, b1, b2, List.sum_cons, List.length_cons]
    refine ⟨rfl, rfl, Nat.max_le.mpr ⟨b3, a3⟩, by omega⟩
theorem shw_fit : ∀ (n : Nat) (S : M.Sto) (d : M.D), M.fitR n S d → Shw (M.toQ n S d) n (M.szR n S d)
  | 0, _, _, h => False.elim h
  | n + 1, S, d, h => by
    have ih := fun d => shw_fit n S d
    unfold M.fitR at h
    unfold M.toQ M.szR
    cases d with
    | non => exact ⟨by simp [pyOf, PyData.hasDict], by simp [pyOf, PyData.showable], by simp [pyOf, PyData.depth], by simp only [pyOf]; exact (show (PyData.shown .none).length ≤ 4 by decide +kernel)⟩
    | bl b => exact ⟨by simp [pyOf, PyData.hasDict], by simp [pyOf, PyData.showable], by simp [pyOf, PyData.depth], by simp only [pyOf]; cases b <;> decide +kernel⟩
    | int i =>
      have hl : i.natAbs.log2 < 1900 := log_lt (by decide) h
      refine ⟨by simp [pyOf, PyData.hasDict], by simp only [pyOf, PyData.showable]; exact decide_eq_true (by omega), by simp [pyOf, PyData.depth], ?_⟩
      simp only [pyOf, PyData.shown]
      have e := int_text_length_le (a := i) (k := 1900) (by decide) hl
      have e2 : (Str.ofString (toString i)).length ≤ 1901 := by
        rw [Str.ofString_eq_toList]
        show (List.toArray _).size ≤ _
        rw [List.size_toArray, List.length_map, String.length_toList]; exact e
      exact Nat.le_trans e2 (by decide)
    | str x =>
      refine ⟨by simp [pyOf, PyData.hasDict], by simp [pyOf, PyData.showable], by simp [pyOf, PyData.depth], ?_⟩
      simp only [pyOf, PyData.shown]
      have e := StrLaws.reprText_len (stx x) (fun c hc => by
        rw [stx_cps] at hc
        have := h c hc
        have e16 : (16 : Nat) ^ 8 = 4294967296 := by decide
        omega)
      rw [stx_len] at e
      exact e
    | tup xs =>
      obtain ⟨a1, a2, a3, a4⟩ := shw_all ih h
      refine ⟨by simp only [pyOf, PyData.hasDict]; exact a1, by simp only [pyOf, PyData.showable]; exact a2, by simp only [pyOf, PyData.depth]; omega, ?_⟩
      simp only [pyOf, PyData.shown]
      have := tupleText_len_le (PyData.shownAll (pyOfL (xs.map (M.toQ n S))))
      omega
    | fl xs =>
      obtain ⟨a1, a2, a3, a4⟩ := shw_all ih h
      refine ⟨by simp only [pyOf, PyData.hasDict]; exact a1, by simp only [pyOf, PyData.showable]; exact a2, by simp only [pyOf, PyData.depth]; omega, ?_⟩
      simp only [pyOf, PyData.shown]
      have := listText_len_le (PyData.shownAll (pyOfL (xs.map (M.toQ n S))))
      omega
    | ref a =>
      obtain ⟨xs, e, h⟩ := opt_of h
      obtain ⟨a1, a2, a3, a4⟩ := shw_all ih h
      simp only [lstAt_some e]
      refine ⟨by simp only [pyOf, PyData.hasDict]; exact a1, by simp only [pyOf, PyData.showable]; exact a2, by simp only [pyOf, PyData.depth]; omega, ?_⟩
      simp only [pyOf, PyData.shown]
      have := listText_len_le (PyData.shownAll (pyOfL (xs.map (M.toQ n S))))
      omega
    | xn c fs => exact False.elim h
def rRep (K : Frag) : List V → Hp → VK → Prop := fun vs H Q => ∃ x v S Qd, vs = [v] ∧ RelS K H S ∧ RelD K H x v ∧ M.fitD S x ∧ M.szR M.dep S x ≤ M.lim ∧ Qd (.str (rpF (M.toQ M.dep S x))) S ∧ OkV K S H Qd Q
theorem bi_rep {X : Cx} (hg : X.A.guards = some []) (hu : X.A.units + 64 < cLine) : CallR X (.builtin "repr") (rRep X.K) := by
  intro pins s σ H vs us Q I rv h
  obtain ⟨x, v, S, Qd, rfl, r, rd, ft, hz, w, hq⟩ := h
  obtain ⟨u, rfl, r1⟩ := vals1 rv
  have fin : ∀ {h' : Heap} {t : Tok} {tk : Nat}, (∀ b o, s.heap.get? b = some o → h'.get? b = some o) → EP X pins σ Q (.str (pyOf (M.toQ M.dep S x)).shown t) { s with heap := h', toks := tk } := fun {h' t tk} hk =>
    ⟨.str (stx (rpF (M.toQ M.dep S x))), H, I.kept (t' := tk) hk, ⟨t, by rw [stx_rpF]⟩, hq.same r (.str _) w⟩
  have hL : M.lim = sizeLine := lim_eq
  rcases ft with ft | ft
  · cases rd with
    | ref a =>
      cases r1
      have hd : S a = some .dic := by
        have ft' : M.isDic (S a) := ft
        cases e : S a with
        | none => rw [e] at ft'; exact False.elim ft'
        | some o => cases o with
          | lst xs => rw [e] at ft'; exact False.elim ft'
          | dic => rfl
      have hH : H a = some (.dK []) := r a _ hd
      obtain ⟨z, hS, vs, kv, m⟩ := dk_of I.hok hH
      have e1 : M.toQ M.dep S (.ref a) = .dic := by simp only [M.toQ, hd]
      rw [e1] at fin
      have hne : a ≠ sysModules := by simpa using hS
      cases kv
      obtain ⟨as, hr, hn⟩ : ∃ as, Reads s.heap (.ref a) (.dict []) as ∧ sysModules ∉ as := by
        obtain ⟨o, es, n, ho, hc, hdat, hes⟩ : ∃ o es n, s.heap.get? a = some o ∧ o.cls = .type "dict" ∧ o.data = .dict es n ∧ es.toList = [] := by
          obtain ⟨o, es, ep, ho, hc, hdat, _, hp, _⟩ := m
          have hl := hp.length
          exact ⟨o, es, ep, ho, hc.1, hdat, List.eq_nil_of_length_eq_zero hl⟩
        refine ⟨a :: [] ++ [], .dict (kvs := []) (as := []) (bs := []) ho hc hdat (by rw [hes]; exact .nil) (by rw [hes]; exact .nil), ?_⟩
        simp [Ne.symm hne]
      exact repr_of_reads' hr (by simp [PyData.showable, PyData.showableKv]) (fun _ => hn) hg (by simp only [PyData.depth, PyData.depthKv]; omega) (fun b o e => e) (fun h' u tk hk => fin hk) (by rw [← hL]; decide +kernel)
    | _ => exact False.elim ft
  · obtain ⟨a1, a2, a3, a4⟩ := shw_fit M.dep S x ft
    obtain ⟨as, hr⟩ := reads_fit I r M.dep x v u ft rd r1
    have hz2 : (pyOf (M.toQ M.dep S x)).shown.length ≤ sizeLine := by omega
    generalize hp : pyOf (M.toQ M.dep S x) = p at *
    have hdep : M.dep = 8 := rfl
    cases hr with
    | none => exact PySem.P.repr_of_none (fin (fun b o e => e))
    | bool b => exact PySem.P.repr_of_bool (fin (fun b o e => e))
    | int i t => exact PySem.P.repr_of_int (by simpa [PyData.showable] using a2) (fin (fun b o e => e))
    | str x t => exact PySem.P.repr_of_str (fin (fun b o e => e)) hz2
    | list h1 h2 h3 h4 => exact repr_of_reads' (.list h1 h2 h3 h4) a2 (PyData.noDict_hsm a1) hg (by omega) (fun b o e => e) (fun h' u tk hk => fin hk) hz2
    | tuple h1 h2 h3 h4 => exact repr_of_reads' (.tuple h1 h2 h3 h4) a2 (PyData.noDict_hsm a1) hg (by omega) (fun b o e => e) (fun h' u tk hk => fin hk) hz2
    | dict h1 h2 h3 h4 h5 => simp [PyData.hasDict] at a1
end Snd
namespace Snd
open PySem PySem.Spec PyProof.Rows L2
/-! ### zip over sources of any kind -/
inductive Sc where | lst (a : Addr) | tup (a : Addr) | txt (x : Str)
def chrs (x : Str) : List V := x.cps.toList.map fun c => .str ⟨#[c]⟩
def Sc.has (K : Frag) (H : Hp) : Sc → List V → Prop
  | .lst a, xs => SqL K H a xs
  | .tup a, xs => SqT K H a xs
  | .txt x, xs => xs = chrs x
def Sc.st : Sc → Addr → Nat → Heap → Prop
  | .lst a, it, i, h => h.IsListIter it a i
  | .tup a, it, i, h => h.IsTupleIter it a i
  | .txt x, it, i, h => ∃ t, h.IsStrIter it (strIterType x) x t i
def Sc.adr : Sc → List Addr
  | .lst a => [a]
  | .tup a => [a]
  | .txt _ => []
theorem Sc.obj {p : Sc} {it : Addr} {i : Nat} {h : Heap} (s : p.st it i h) : ∃ o, h.get? it = some o ∧ ∀ v, o.data ≠ .cell v := by
  cases p with
  | lst a => obtain ⟨o, e, _, d⟩ := s; exact ⟨o, e, fun v q => by rw [d] at q; cases q⟩
  | tup a => obtain ⟨o, e, _, d⟩ := s; exact ⟨o, e, fun v q => by rw [d] at q; cases q⟩
  | txt x => obtain ⟨t, o, e, _, d⟩ := s; exact ⟨o, e, fun v q => by rw [d] at q; cases q⟩
theorem Sc.keep {p : Sc} {it : Addr} {i : Nat} {h h' : Heap} (s : p.st it i h) (k : ∀ o, h.get? it = some o → h'.get? it = some o) : p.st it i h' := by
  cases p with
  | lst a => exact Heap.IsListIter.at s k
  | tup a => exact Heap.IsTupleIter.at s k
  | txt x => obtain ⟨t, o, e, r⟩ := s; exact ⟨t, o, k o e, r⟩
theorem Sc.inj {X : Cx} {pins : List (Addr × Obj)} {σ : L2.St} {H : Hp} {s : Shared} (I : Inv X pins σ H s) {p : Sc} {xs ys : List V} (h1 : p.has X.K H xs) (h2 : p.has X.K H ys) : xs = ys := by
  cases p with
  | lst a => exact I.list_inj h1 h2
  | tup a => exact I.tuple_inj h1 h2
  | txt x => exact h1.trans h2.symm
/-- its iterator draws the values -/
theorem Sc.draws {X : Cx} {pins : List (Addr × Obj)} {σ : L2.St} {H : Hp} {s : Shared} (I : Inv X pins σ H s) (hc : X.calm = true) {p : Sc} {xs : List V} (h : p.has X.K H xs) {it : Addr} {i : Nat} (hs : p.st it i s.heap) (ha : it ∉ p.adr) :
    ∃ (P : Nat → Value → Prop) (St : Nat → Heap → Prop), Draws X.prog X.w X.A.in1 it (it :: p.adr) xs.length P St ∧ St i s.heap ∧ (∀ j h', St j h' → p.st it j h') ∧ ∀ j v x, P j v → xs[j]? = some x → RelV x v := by
  have hh : X.A.in1.handled = none := I.ok.hd hc
  cases p with
  | lst a =>
    obtain ⟨its, rv, q, _⟩ := I.list h
    have e : its.toArray.size = xs.length := by rw [List.size_toArray, rv.length]
    have D := Draws.list (prog := X.prog) (w := X.w) hh it a (fun z => ha (by simp [Sc.adr, z])) its.toArray
    rw [e] at D
    refine ⟨_, _, D, ⟨hs, q.isList⟩, fun j h' z => z.1, fun j v x hp hx => ?_⟩
    obtain ⟨u, hu, ru⟩ := rv.get hx
    have hp : its[j]? = some v := by simpa using hp
    rw [hu] at hp
    cases hp
    exact ru
  | tup a =>
    obtain ⟨its, rv, q, _⟩ := I.tuple h
    have e : its.toArray.size = xs.length := by rw [List.size_toArray, rv.length]
    have D := Draws.tuple (prog := X.prog) (w := X.w) hh it a (fun z => ha (by simp [Sc.adr, z])) its.toArray
    rw [e] at D
    refine ⟨_, _, D, ⟨hs, q⟩, fun j h' z => z.1, fun j v x hp hx => ?_⟩
    obtain ⟨u, hu, ru⟩ := rv.get hx
    have hp : its[j]? = some v := by simpa using hp
    rw [hu] at hp
    cases hp
    exact ru
  | txt x =>
    have h : xs = chrs x := h
    subst h
    obtain ⟨t, hs⟩ := hs
    have D := Draws.text (prog := X.prog) (w := X.w) hh it x t
    have e : x.cps.size = (chrs x).length := by unfold chrs; simp
    rw [e] at D
    refine ⟨_, _, D, hs, fun j h' z => ⟨t, z⟩, fun j v y hp hx => ?_⟩
    obtain ⟨c, u, hc', rfl⟩ := hp
    have hx : (x.cps[j]?).map (fun c => V.str ⟨#[c]⟩) = some y := by
      unfold chrs at hx
      simpa using hx
    rw [hc'] at hx
    cases hx
    exact ⟨u, rfl⟩
def ItzM (K : Frag) (p q : Sc) : It :=
  ⟨fun i H => ∃ (xs ys : List V) (x y : V), p.has K H xs ∧ q.has K H ys ∧ xs[i]? = some x ∧ ys[i]? = some y,
    fun i H v H' => ∃ T x y, v = .ref T ∧ H T = none ∧ H' = upd H T (.tup [x, y]) ∧ (∀ xs, p.has K H xs → xs[i]? = some x) ∧ ∀ ys, q.has K H ys → ys[i]? = some y,
    fun i H => ∃ xs ys : List V, p.has K H xs ∧ q.has K H ys ∧ i = min xs.length ys.length⟩
/-- the cells lie apart -/
structure Apt (z TI TO i1 i2 : Addr) (ds : List Addr) : Prop where
  nd : [z, TI, TO, i1, i2].Nodup
  ds : ∀ c ∈ [z, TI, TO, i1, i2], c ∉ ds
theorem Apt.sep {z TI TO i1 i2 : Addr} {d1 d2 : List Addr} (D : Apt z TI TO i1 i2 (d1 ++ d2)) : ZipSep2 z TI TO i1 i2 (i1 :: d1) (i2 :: d2) := by
  have nd := D.nd
  simp at nd
  have a : ∀ c ∈ [z, TI, TO, i1, i2], c ∉ d1 ∧ c ∉ d2 := fun c hc => ⟨fun z => D.ds c hc (List.mem_append_left _ z), fun z => D.ds c hc (List.mem_append_right _ z)⟩
  have az := a z (by simp)
  have aT := a TO (by simp)
  have a1 := a i1 (by simp)
  have a2 := a i2 (by simp)
  obtain ⟨⟨n1, n2, n3, n4⟩, ⟨n5, n6, n7⟩, ⟨n8, n9⟩, n10⟩ := nd
  exact ⟨Ne.symm n1, Ne.symm n2, n5, n6, by simp, by simp [n3, az.1], by simp [n8, aT.1], n7, by simp, by simp [n4, az.2], by simp [n9, aT.2], by simp [n10, a1.2], by simp [Ne.symm n10, a2.1]⟩
theorem turn_zipM {P : Program} {w : World} {K : Frag} {elts : List Expr} {kk : Nat} {tpos : Pos} {p q : Sc} {z TI TO i1 i2 : Addr} (D : Apt z TI TO i1 i2 (p.adr ++ q.adr)) :
    Turn P w K (.Tuple elts kk tpos) (ItzM K p q) [z, TI, TO, i1, i2] z (fun i h => IsZip h z TI TO .none ∧ IsTupOf2 h TI (.ref i1) (.ref i2) ∧ (∃ x y, IsTupOf2 h TO x y) ∧ p.st i1 i h ∧ q.st i2 i h) where
  mem := by simp
  obj := fun i h st c hc => by
    obtain ⟨hz, hTI, ⟨x, y, hTO⟩, h1, h2⟩ := st
    simp only [List.mem_cons, List.not_mem_nil, or_false] at hc
    rcases hc with rfl | rfl | rfl | rfl | rfl
    · exact ⟨_, hz, fun v q => nomatch q⟩
    · exact ⟨_, hTI, fun v q => nomatch q⟩
    · exact ⟨_, hTO, fun v q => nomatch q⟩
    · exact Sc.obj (p := p) h1
    · exact Sc.obj (p := q) h2
  keep := fun i h h' st k => by
    obtain ⟨hz, hTI, ⟨x, y, hTO⟩, h1, h2⟩ := st
    exact ⟨k z (by simp) _ hz, k TI (by simp) _ hTI, ⟨x, y, k TO (by simp) _ hTO⟩, Sc.keep (p := p) h1 fun o e => k i1 (by simp) o e, Sc.keep (p := q) h2 fun o e => k i2 (by simp) o e⟩
  item := by
    intro X hP hw hK hc i pins s σ H E I hf st hg
    subst hP hw hK
    obtain ⟨hz, hTI, ⟨x0, y0, hTO⟩, h1, h2⟩ := st
    obtain ⟨xs, ys, x, y, hp, hq, hx, hy⟩ := hg
    have S := D.sep
    have n1 : i1 ∉ p.adr := fun z => D.ds i1 (by simp) (List.mem_append_left _ z)
    have n2 : i2 ∉ q.adr := fun z => D.ds i2 (by simp) (List.mem_append_right _ z)
    obtain ⟨P1, St1, D1, s1, b1, v1⟩ := Sc.draws I hc hp h1 n1
    obtain ⟨P2, St2, D2, s2, b2, v2⟩ := Sc.draws I hc hq h2 n2
    have l1 := (List.getElem?_eq_some_iff.mp hx).1
    have l2 := (List.getElem?_eq_some_iff.mp hy).1
    have hzl : z < s.heap.objs.size := Heap.lt_size hz
    refine wpAny_pyNext_zipD2_item S D1 D2 hz hTI hTO s1 s2 l1 l2 fun u1 u2 h' tk pu1 pu2 z' TO' t1 t2 hT hsz hk => ?_
    refine ⟨_, rfl, wpAny_letOwnedTupleGo_zip (s := { s with heap := h', toks := tk }) z' fun h'' z'' sb => ?_⟩
    have hT2 : h''.get? s.heap.objs.size = some { cls := .type "tuple", data := .seq #[u1, u2] } := (sb.2 _ (Nat.ne_of_gt hzl)).trans hT
    have new : ObjOk X.prog X.w (upd H s.heap.objs.size (.tup [x, y])) h'' s.heap.objs.size (.tup [x, y]) :=
      ⟨by show 2 ≤ sizeLine; decide, [u1, u2], .cons (v1 i u1 x pu1 hx) (.cons (v2 i u2 y pu2 hy) .nil), ⟨_, hT2, rfl, _, rfl⟩⟩
    have I1 : Inv X pins σ (upd H s.heap.objs.size (.tup [x, y])) { s with heap := h'', toks := tk } :=
      I.turnedNew (t' := tk) (ch := [z, TI, TO, i1, i2]) (fun c o hb e => (sb.2 c (fun q' => hb (by simp [q']))).trans (hk c o (fun q' => hb (by simp [q'])) (fun q' => hb (by simp [q'])) (fun q' => hb (by simp [q'])) (fun q' => hb (by simp [q'])) e)) hf (Nat.le_refl _) new
    refine ⟨.ref s.heap.objs.size, _, I1, rfl, ⟨_, x, y, rfl, I.hok.fresh (Nat.le_refl _), rfl, fun l hl => by rw [Sc.inj I hl hp]; exact hx, fun l hl => by rw [Sc.inj I hl hq]; exact hy⟩, ⟨z'', ?_, ⟨u1, u2, ?_⟩, ?_, ?_⟩, fun c hcm => ?_⟩
    · exact (sb.2 _ S.TIz).trans (hk _ _ S.TIz S.TITO S.TIi1 S.TIi2 hTI)
    · exact (sb.2 _ S.TOz).trans TO'
    · exact Sc.keep (p := p) (b1 _ _ t1) fun o e => (sb.2 _ (Ne.symm S.zi1)).trans e
    · exact Sc.keep (p := q) (b2 _ _ t2) fun o e => (sb.2 _ (Ne.symm S.zi2)).trans e
    · have hlt : c < s.heap.objs.size := by
        simp only [List.mem_cons, List.not_mem_nil, or_false] at hcm
        rcases hcm with rfl | rfl | rfl | rfl | rfl
        · exact hzl
        · exact Heap.lt_size hTI
        · exact Heap.lt_size hTO
        · obtain ⟨o, e, _⟩ := Sc.obj (p := p) h1; exact Heap.lt_size e
        · obtain ⟨o, e, _⟩ := Sc.obj (p := q) h2; exact Heap.lt_size e
      rw [upd_ne (Nat.ne_of_lt hlt)]
      exact (hf c hcm).1
  done := by
    intro X hP hw hK hc i pins s σ H E I hf st hg
    subst hP hw hK
    obtain ⟨hz, hTI, ⟨x0, y0, hTO⟩, h1, h2⟩ := st
    obtain ⟨xs, ys, hp, hq, hend⟩ := hg
    have S := D.sep
    have n1 : i1 ∉ p.adr := fun z => D.ds i1 (by simp) (List.mem_append_left _ z)
    have n2 : i2 ∉ q.adr := fun z => D.ds i2 (by simp) (List.mem_append_right _ z)
    obtain ⟨P1, St1, D1, s1, b1, v1⟩ := Sc.draws I hc hp h1 n1
    obtain ⟨P2, St2, D2, s2, b2, v2⟩ := Sc.draws I hc hq h2 n2
    refine wpAny_pyNext_zipD2_end S D1 D2 hz hTI hTO s1 s2 (by omega) (by omega) (by omega) fun h' tk hk => ⟨rfl, I.turnedL (t' := tk) (ch := [z, TI, TO, i1, i2]) (fun c o hb e =>
      hk c o (fun q' => hb (by simp [q'])) (fun q' => hb (by simp [q'])) (fun q' => hb (by simp [q'])) (fun q' => hb (by simp [q'])) e) hf⟩
  self := fun A i s Q E st h => wpAny_pyIter_zip st.1 h
def Sc.is (v : V) : Sc → Prop
  | .lst a => v = .ref a
  | .tup a => v = .ref a
  | .txt x => v = .str x
/-- how it begins -/
theorem Sc.begins {X : Cx} {pins : List (Addr × Obj)} {σ : L2.St} {H : Hp} {s : Shared} (I : Inv X pins σ H s) {p : Sc} {xs : List V} (h : p.has X.K H xs) {v : V} {u : Value} (hv : RelV v u) (hp : Sc.is v p) :
    ∃ (o : Obj) (HH : Heap → Prop), Begins u o HH ∧ HH s.heap ∧ (∀ (it : Addr) (h' : Heap), h'.get? it = some o → p.st it 0 h') ∧ ∀ b ∈ p.adr, b < s.heap.objs.size := by
  cases p with
  | lst a =>
    have hp : v = .ref a := hp
    subst hp
    cases hv
    obtain ⟨its, rv, q, _⟩ := I.list h
    exact ⟨_, _, begins_list a its.toArray, q.isList, fun it h' e => ⟨_, e, rfl, rfl⟩, fun b hb => by
      have : b = a := by simpa [Sc.adr] using hb
      rw [this]; exact q.lt⟩
  | tup a =>
    have hp : v = .ref a := hp
    subst hp
    cases hv
    obtain ⟨its, rv, q, _⟩ := I.tuple h
    exact ⟨_, _, begins_tuple a its.toArray, q, fun it h' e => ⟨_, e, rfl, rfl⟩, fun b hb => by
      have : b = a := by simpa [Sc.adr] using hb
      obtain ⟨o, e, _⟩ := q
      rw [this]; exact Heap.lt_size e⟩
  | txt x =>
    have hp : v = .str x := hp
    subst hp
    obtain ⟨t, rfl⟩ := hv
    exact ⟨_, _, begins_text x t, trivial, fun it h' e => ⟨t, _, e, rfl, rfl⟩, fun b hb => by simp [Sc.adr] at hb⟩
def iZipM (K : Frag) (ta : TA) : TI := fun σ H R => ta σ H fun vs H1 => ∃ v w p q xs ys, vs = [v, w] ∧ Sc.is v p ∧ Sc.is w q ∧ p.has K H1 xs ∧ q.has K H1 ys ∧ R (ItzM K p q) H1
theorem pi_zipM {X : Cx} {e e2 : Expr} {ta : TA} {p pos tpos : Pos} {elts : List Expr} {kk : Nat} (hg : Gl X "zip") (hm : X.mg "zip" = none) (ha : PA X [e, e2] ta)
    (hs : starEach [e, e2] X.env = (false, eval e X.env) :: starEach [e2] X.env := by rfl) (hpl : (backTo pos (starEach [e2] X.env)).any (·.1) = false := by rfl) :
    PI X (.Tuple elts kk tpos) (.Call (.Name "zip" p) [e, e2] [] pos) (iZipM X.K ta) := by
  refine ⟨fun pins s σ H R I h => ?_⟩
  refine Call_ (ld_blt I hg hm PyProof.Rows.boot_zip (PyProof.Rows.callWith_type1 (thn (ha.run pos pins s σ H _ I h) fun us s1 ⟨vs, H1, I1, r1, q1⟩ => ?_) hs hpl))
  obtain ⟨v, w', a, b, xs, ys, ex, hv, hw, h1, h2, q1⟩ := q1
  subst ex
  cases r1 with
  | cons r rr =>
    cases rr with
    | cons r' rr =>
      cases rr
      obtain ⟨o1, H1', B1, g1, t1, ad1⟩ := Sc.begins I1 h1 r hv
      obtain ⟨o2, H2', B2, g2, t2, ad2⟩ := Sc.begins I1 h2 r' hw
      refine zip_begins2 B1 B2 g1 g2 fun h' hz hTI hTO k1 k2 hsz hk => wpAny_pyIter_zip hz ?_
      have I2 : Inv X pins σ H1 { s1 with heap := h' } := I1.kept (t' := s1.toks) hk
      have new : ∀ c ∈ [s1.heap.objs.size + 4, s1.heap.objs.size + 2, s1.heap.objs.size + 3, s1.heap.objs.size, s1.heap.objs.size + 1], s1.heap.objs.size ≤ c := fun c hc => by
        simp only [List.mem_cons, List.not_mem_nil, or_false] at hc
        rcases hc with rfl | rfl | rfl | rfl | rfl
        · exact Nat.le_add_right _ _
        · exact Nat.le_add_right _ _
        · exact Nat.le_add_right _ _
        · exact Nat.le_refl _
        · exact Nat.le_add_right _ _
      have D : Apt (s1.heap.objs.size + 4) (s1.heap.objs.size + 2) (s1.heap.objs.size + 3) s1.heap.objs.size (s1.heap.objs.size + 1) (a.adr ++ b.adr) := by
        refine ⟨?_, fun c hc hd => ?_⟩
        · generalize s1.heap.objs.size = n
          simp
        · have hn := new c hc
          rcases List.mem_append.mp hd with z | z
          · exact absurd (ad1 c z) (Nat.not_lt.mpr hn)
          · exact absurd (ad2 c z) (Nat.not_lt.mpr hn)
      exact ⟨s1.heap.objs.size + 4, [s1.heap.objs.size + 4, s1.heap.objs.size + 2, s1.heap.objs.size + 3, s1.heap.objs.size, s1.heap.objs.size + 1], _, _, H1, rfl, I2, turn_zipM D, ⟨hz, hTI, ⟨_, _, hTO⟩, t1 _ _ k1, t2 _ _ k2⟩, fun c hc => I1.fpOk (new c hc) (I1.hok.fresh (new c hc)), q1⟩
end Snd
namespace Snd
open PySem PySem.Spec PyProof.Rows L2
/-! ### zip over three sources of any kind -/
def Itz3 (K : Frag) (p q r : Sc) : It :=
  ⟨fun i H => ∃ (xs ys zs : List V) (x y z : V), p.has K H xs ∧ q.has K H ys ∧ r.has K H zs ∧ xs[i]? = some x ∧ ys[i]? = some y ∧ zs[i]? = some z,
    fun i H v H' => ∃ T x y z, v = .ref T ∧ H T = none ∧ H' = upd H T (.tup [x, y, z]) ∧ (∀ xs, p.has K H xs → xs[i]? = some x) ∧ (∀ ys, q.has K H ys → ys[i]? = some y) ∧ ∀ zs, r.has K H zs → zs[i]? = some z,
    fun i H => ∃ xs ys zs : List V, p.has K H xs ∧ q.has K H ys ∧ r.has K H zs ∧ i = min (min xs.length ys.length) zs.length⟩
structure Apt3 (z TI TO i1 i2 i3 : Addr) (ds : List Addr) : Prop where
  nd : [z, TI, TO, i1, i2, i3].Nodup
  ds : ∀ c ∈ [z, TI, TO, i1, i2, i3], c ∉ ds
theorem Apt3.sep {z TI TO i1 i2 i3 : Addr} {d1 d2 d3 : List Addr} (D : Apt3 z TI TO i1 i2 i3 (d1 ++ (d2 ++ d3))) : ZipSep3 z TI TO i1 i2 i3 (i1 :: d1) (i2 :: d2) (i3 :: d3) := by
  have nd := D.nd
  simp at nd
  have a : ∀ c ∈ [z, TI, TO, i1, i2, i3], c ∉ d1 ∧ c ∉ d2 ∧ c ∉ d3 := fun c hc => ⟨fun z => D.ds c hc (List.mem_append_left _ z), fun z => D.ds c hc (List.mem_append_right _ (List.mem_append_left _ z)), fun z => D.ds c hc (List.mem_append_right _ (List.mem_append_right _ z))⟩
  have az := a z (by simp)
  have aT := a TO (by simp)
  have a1 := a i1 (by simp)
  have a2 := a i2 (by simp)
  have a3 := a i3 (by simp)
  obtain ⟨⟨n1, n2, n3, n4, n5⟩, ⟨n6, n7, n8, n9⟩, ⟨n10, n11, n12⟩, ⟨n13, n14⟩, n15⟩ := nd
  exact { TIz := Ne.symm n1, TOz := Ne.symm n2, TITO := n6, TIi1 := n7, mem1 := by simp, zf1 := by simp [n3, az.1], Tf1 := by simp [n10, aT.1], TIi2 := n8, mem2 := by simp, zf2 := by simp [n4, az.2.1], Tf2 := by simp [n11, aT.2.1], TIi3 := n9, mem3 := by simp, zf3 := by simp [n5, az.2.2], Tf3 := by simp [n12, aT.2.2], sep1_2 := by simp [n13, a1.2.1], sep1_3 := by simp [n14, a1.2.2], sep2_1 := by simp [Ne.symm n13, a2.1], sep2_3 := by simp [n15, a2.2.2], sep3_1 := by simp [Ne.symm n14, a3.1], sep3_2 := by simp [Ne.symm n15, a3.2.1] }
theorem turn_zip3 {P : Program} {w : World} {K : Frag} {elts : List Expr} {kk : Nat} {tpos : Pos} {p q r : Sc} {z TI TO i1 i2 i3 : Addr} (D : Apt3 z TI TO i1 i2 i3 (p.adr ++ (q.adr ++ r.adr))) :
    Turn P w K (.Tuple elts kk tpos) (Itz3 K p q r) [z, TI, TO, i1, i2, i3] z (fun i h => IsZip h z TI TO .none ∧ IsTupOf3 h TI (.ref i1) (.ref i2) (.ref i3) ∧ (∃ x y w, IsTupOf3 h TO x y w) ∧ p.st i1 i h ∧ q.st i2 i h ∧ r.st i3 i h) where
  mem := by simp
  obj := fun i h st c hc => by
    obtain ⟨hz, hTI, ⟨x, y, u, hTO⟩, h1, h2, h3⟩ := st
    simp only [List.mem_cons, List.not_mem_nil, or_false] at hc
    rcases hc with rfl | rfl | rfl | rfl | rfl | rfl
    · exact ⟨_, hz, fun v q => nomatch q⟩
    · exact ⟨_, hTI, fun v q => nomatch q⟩
    · exact ⟨_, hTO, fun v q => nomatch q⟩
    · exact Sc.obj (p := p) h1
    · exact Sc.obj (p := q) h2
    · exact Sc.obj (p := r) h3
  keep := fun i h h' st k => by
    obtain ⟨hz, hTI, ⟨x, y, u, hTO⟩, h1, h2, h3⟩ := st
    exact ⟨k z (by simp) _ hz, k TI (by simp) _ hTI, ⟨x, y, u, k TO (by simp) _ hTO⟩, Sc.keep (p := p) h1 fun o e => k i1 (by simp) o e, Sc.keep (p := q) h2 fun o e => k i2 (by simp) o e, Sc.keep (p := r) h3 fun o e => k i3 (by simp) o e⟩
  item := by
    intro X hP hw hK hc i pins s σ H E I hf st hg
    subst hP hw hK
    obtain ⟨hz, hTI, ⟨x0, y0, u0, hTO⟩, h1, h2, h3⟩ := st
    obtain ⟨xs, ys, zs, x, y, u, hp, hq, hr, hx, hy, hu⟩ := hg
    have S := D.sep
    have n1 : i1 ∉ p.adr := fun z => D.ds i1 (by simp) (List.mem_append_left _ z)
    have n2 : i2 ∉ q.adr := fun z => D.ds i2 (by simp) (List.mem_append_right _ (List.mem_append_left _ z))
    have n3 : i3 ∉ r.adr := fun z => D.ds i3 (by simp) (List.mem_append_right _ (List.mem_append_right _ z))
    obtain ⟨P1, St1, D1, s1, b1, v1⟩ := Sc.draws I hc hp h1 n1
    obtain ⟨P2, St2, D2, s2, b2, v2⟩ := Sc.draws I hc hq h2 n2
    obtain ⟨P3, St3, D3, s3, b3, v3⟩ := Sc.draws I hc hr h3 n3
    have l1 := (List.getElem?_eq_some_iff.mp hx).1
    have l2 := (List.getElem?_eq_some_iff.mp hy).1
    have l3 := (List.getElem?_eq_some_iff.mp hu).1
    have hzl : z < s.heap.objs.size := Heap.lt_size hz
    have zi3 : z ≠ i3 := fun e => S.zf3 (by rw [e]; exact S.mem3)
    have zi2 : z ≠ i2 := fun e => S.zf2 (by rw [e]; exact S.mem2)
    refine wpAny_pyNext_zipD3_item S D1 D2 D3 hz hTI hTO s1 s2 s3 l1 l2 l3 fun u1 u2 u3 h' tk pu1 pu2 pu3 z' TO' t1 t2 t3 hT hsz hk => ?_
    refine ⟨_, rfl, wpAny_letOwnedTupleGo_zip (s := { s with heap := h', toks := tk }) z' fun h'' z'' sb => ?_⟩
    have hT2 : h''.get? s.heap.objs.size = some { cls := .type "tuple", data := .seq #[u1, u2, u3] } := (sb.2 _ (Nat.ne_of_gt hzl)).trans hT
    have new : ObjOk X.prog X.w (upd H s.heap.objs.size (.tup [x, y, u])) h'' s.heap.objs.size (.tup [x, y, u]) :=
      ⟨by show 3 ≤ sizeLine; decide, [u1, u2, u3], .cons (v1 i u1 x pu1 hx) (.cons (v2 i u2 y pu2 hy) (.cons (v3 i u3 u pu3 hu) .nil)), ⟨_, hT2, rfl, _, rfl⟩⟩
    have I1 : Inv X pins σ (upd H s.heap.objs.size (.tup [x, y, u])) { s with heap := h'', toks := tk } :=
      I.turnedNew (t' := tk) (ch := [z, TI, TO, i1, i2, i3]) (fun c o hb e => (sb.2 c (fun q' => hb (by simp [q']))).trans (hk c o (fun q' => hb (by simp [q'])) (fun q' => hb (by simp [q'])) (fun q' => hb (by simp [q'])) (fun q' => hb (by simp [q'])) (fun q' => hb (by simp [q'])) e)) hf (Nat.le_refl _) new
    refine ⟨.ref s.heap.objs.size, _, I1, rfl, ⟨_, x, y, u, rfl, I.hok.fresh (Nat.le_refl _), rfl, fun l hl => by rw [Sc.inj I hl hp]; exact hx, fun l hl => by rw [Sc.inj I hl hq]; exact hy, fun l hl => by rw [Sc.inj I hl hr]; exact hu⟩, ⟨z'', ?_, ⟨u1, u2, u3, ?_⟩, ?_, ?_, ?_⟩, fun c hcm => ?_⟩
    · exact (sb.2 _ S.TIz).trans (hk _ _ S.TIz S.TITO S.TIi1 S.TIi2 S.TIi3 hTI)
    · exact (sb.2 _ S.TOz).trans TO'
    · exact Sc.keep (p := p) (b1 _ _ t1) fun o e => (sb.2 _ (Ne.symm S.zi1)).trans e
    · exact Sc.keep (p := q) (b2 _ _ t2) fun o e => (sb.2 _ (Ne.symm zi2)).trans e
    · exact Sc.keep (p := r) (b3 _ _ t3) fun o e => (sb.2 _ (Ne.symm zi3)).trans e
    · have hlt : c < s.heap.objs.size := by
        simp only [List.mem_cons, List.not_mem_nil, or_false] at hcm
        rcases hcm with rfl | rfl | rfl | rfl | rfl | rfl
        · exact hzl
        · exact Heap.lt_size hTI
        · exact Heap.lt_size hTO
        · obtain ⟨o, e, _⟩ := Sc.obj (p := p) h1; exact Heap.lt_size e
        · obtain ⟨o, e, _⟩ := Sc.obj (p := q) h2; exact Heap.lt_size e
        · obtain ⟨o, e, _⟩ := Sc.obj (p := r) h3; exact Heap.lt_size e
      rw [upd_ne (Nat.ne_of_lt hlt)]
      exact (hf c hcm).1
  done := by
    intro X hP hw hK hc i pins s σ H E I hf st hg
    subst hP hw hK
    obtain ⟨hz, hTI, ⟨x0, y0, u0, hTO⟩, h1, h2, h3⟩ := st
    obtain ⟨xs, ys, zs, hp, hq, hr, hend⟩ := hg
    have S := D.sep
    have n1 : i1 ∉ p.adr := fun z => D.ds i1 (by simp) (List.mem_append_left _ z)
    have n2 : i2 ∉ q.adr := fun z => D.ds i2 (by simp) (List.mem_append_right _ (List.mem_append_left _ z))
    have n3 : i3 ∉ r.adr := fun z => D.ds i3 (by simp) (List.mem_append_right _ (List.mem_append_right _ z))
    obtain ⟨P1, St1, D1, s1, b1, v1⟩ := Sc.draws I hc hp h1 n1
    obtain ⟨P2, St2, D2, s2, b2, v2⟩ := Sc.draws I hc hq h2 n2
    obtain ⟨P3, St3, D3, s3, b3, v3⟩ := Sc.draws I hc hr h3 n3
    refine wpAny_pyNext_zipD3_end S D1 D2 D3 hz hTI hTO s1 s2 s3 (by omega) (by omega) (by omega) (by omega) fun h' tk hk => ⟨rfl, I.turnedL (t' := tk) (ch := [z, TI, TO, i1, i2, i3]) (fun c o hb e =>
      hk c o (fun q' => hb (by simp [q'])) (fun q' => hb (by simp [q'])) (fun q' => hb (by simp [q'])) (fun q' => hb (by simp [q'])) (fun q' => hb (by simp [q'])) e) hf⟩
  self := fun A i s Q E st h => wpAny_pyIter_zip st.1 h
def iZip3 (K : Frag) (ta : TA) : TI := fun σ H R => ta σ H fun vs H1 => ∃ v w u p q r xs ys zs, vs = [v, w, u] ∧ Sc.is v p ∧ Sc.is w q ∧ Sc.is u r ∧ p.has K H1 xs ∧ q.has K H1 ys ∧ r.has K H1 zs ∧ R (Itz3 K p q r) H1
theorem pi_zip3 {X : Cx} {e e2 e3 : Expr} {ta : TA} {p pos tpos : Pos} {elts : List Expr} {kk : Nat} (hg : Gl X "zip") (hm : X.mg "zip" = none) (ha : PA X [e, e2, e3] ta)
    (hs : starEach [e, e2, e3] X.env = (false, eval e X.env) :: starEach [e2, e3] X.env := by rfl) (hpl : (backTo pos (starEach [e2, e3] X.env)).any (·.1) = false := by rfl) :
    PI X (.Tuple elts kk tpos) (.Call (.Name "zip" p) [e, e2, e3] [] pos) (iZip3 X.K ta) := by
  refine ⟨fun pins s σ H R I h => ?_⟩
  refine Call_ (ld_blt I hg hm PyProof.Rows.boot_zip (PyProof.Rows.callWith_type1 (thn (ha.run pos pins s σ H _ I h) fun us s1 ⟨vs, H1, I1, r1, q1⟩ => ?_) hs hpl))
  obtain ⟨v, w', u', a, b, d, xs, ys, zs, ex, hv, hw, hu, h1, h2, h3, q1⟩ := q1
  subst ex
  cases r1 with
  | cons r rr =>
    cases rr with
    | cons r' rr =>
      cases rr with
      | cons r'' rr =>
        cases rr
        obtain ⟨o1, H1', B1, g1, t1, ad1⟩ := Sc.begins I1 h1 r hv
        obtain ⟨o2, H2', B2, g2, t2, ad2⟩ := Sc.begins I1 h2 r' hw
        obtain ⟨o3, H3', B3, g3, t3, ad3⟩ := Sc.begins I1 h3 r'' hu
        refine zip_begins3 B1 B2 B3 g1 g2 g3 fun h' hz hTI hTO k1 k2 k3 hsz hk => wpAny_pyIter_zip hz ?_
        have I2 : Inv X pins σ H1 { s1 with heap := h' } := I1.kept (t' := s1.toks) hk
        have new : ∀ c ∈ [s1.heap.objs.size + 5, s1.heap.objs.size + 3, s1.heap.objs.size + 4, s1.heap.objs.size, s1.heap.objs.size + 1, s1.heap.objs.size + 2], s1.heap.objs.size ≤ c := fun c hc => by
          simp only [List.mem_cons, List.not_mem_nil, or_false] at hc
          rcases hc with rfl | rfl | rfl | rfl | rfl | rfl
          · exact Nat.le_add_right _ _
          · exact Nat.le_add_right _ _
          · exact Nat.le_add_right _ _
          · exact Nat.le_refl _
          · exact Nat.le_add_right _ _
          · exact Nat.le_add_right _ _
        have D : Apt3 (s1.heap.objs.size + 5) (s1.heap.objs.size + 3) (s1.heap.objs.size + 4) s1.heap.objs.size (s1.heap.objs.size + 1) (s1.heap.objs.size + 2) (a.adr ++ (b.adr ++ d.adr)) := by
          refine ⟨?_, fun c hc hd => ?_⟩
          · generalize s1.heap.objs.size = n
            simp
          · have hn := new c hc
            rcases List.mem_append.mp hd with z | z
            · exact absurd (ad1 c z) (Nat.not_lt.mpr hn)
            · rcases List.mem_append.mp z with z | z
              · exact absurd (ad2 c z) (Nat.not_lt.mpr hn)
              · exact absurd (ad3 c z) (Nat.not_lt.mpr hn)
        exact ⟨s1.heap.objs.size + 5, [s1.heap.objs.size + 5, s1.heap.objs.size + 3, s1.heap.objs.size + 4, s1.heap.objs.size, s1.heap.objs.size + 1, s1.heap.objs.size + 2], _, _, H1, rfl, I2, turn_zip3 D, ⟨hz, hTI, ⟨_, _, _, hTO⟩, t1 _ _ k1, t2 _ _ k2, t3 _ _ k3⟩, fun c hc => I1.fpOk (new c hc) (I1.hok.fresh (new c hc)), q1⟩
end Snd
namespace Snd
open PySem PySem.Spec PyProof.Rows L2
/-! ### defs, where no repr is under way -/
structure FnG (P : Program) (w : World) (K : Frag) (mg : Str → Option Value) (base : Heap) (k : Nat) (f : Addr) (fd : FuncData) (ps : List Str) (sp : L2.Sp) : Prop where
  len : ∀ vs H Q E, sp vs H Q E → vs.length = ps.length
  run : ∀ (A : Around) (outer : List Env) (s : Shared) (H : Hp) (args : Args) (us : List Value) (vs : List V) (Q : VK) (E : XK), Room k A → A.guards = some [] → Env0 P w K mg base A outer s H → BindsTo s fd args (ps.zip us) → Vals vs us → sp vs H Q E →
    codeAny (model P w) A (.call (.ref f) args) (CR (L2.CX P w) outer P w H s Q E) s
theorem FnG.mono {P : Program} {w : World} {K : Frag} {mg : Str → Option Value} {base : Heap} {j k : Nat} {f : Addr} {fd : FuncData} {ps : List Str} {sp : L2.Sp} (F : FnG P w K mg base j f fd ps sp) (h : j ≤ k) :
    FnG P w K mg base k f fd ps sp := ⟨F.len, fun A outer s H args us vs Q E hr => F.run A outer s H args us vs Q E (hr.mono h)⟩
theorem FnG.never {P : Program} {w : World} {K : Frag} {mg : Str → Option Value} {base : Heap} {k : Nat} {f : Addr} {fd : FuncData} {ps : List Str} {sp : L2.Sp} (h : ∀ vs H Q E, ¬ sp vs H Q E) :
    FnG P w K mg base k f fd ps sp := ⟨fun vs H Q E q => (h _ _ _ _ q).elim, fun A outer s H args us vs Q E _ _ _ _ _ q => (h _ _ _ _ q).elim⟩
/-- how the positional and the named values bind -/
def KB (K : Frag) (fd : FuncData) (ps : List Str) (m : Nat) (ks : List Str) (perm : List Nat) : Prop :=
  ∀ (s : Shared) (us ws : List Value), K.In s.heap → us.length = m → ws.length = ks.length → BindsTo s fd ⟨us, ks.zip ws⟩ (ps.zip (perm.filterMap fun i => (us ++ ws)[i]?))
/-- how a def of the text stands -/
structure Def (K : Frag) (mg : Str → Option Value) (T : Tb) (n : Nat) (x : Str) (f : Addr) (fd : FuncData) (ps : List Str) : Prop where
  mg : mg x = some (.ref f)
  kp : PySem.W.keepIn K (.ref f) = true
  bd : Binds K fd ps []
  kb : ∀ m ks perm, (n, m, ks, perm) ∈ T.kws → KB K fd ps m ks perm
structure Ok (c : Cn) (k : Nat) (N : List Str) (sc : Scope) (X : Cx) (W : WX) : Prop where
  eN : X.N = N
  es : X.env.scope = sc
  eK : X.K = c.K
  em : X.mg = c.mg
  nd : N.Nodup
  calm : X.calm = true
  room : Room k X.A
  gd : X.A.guards = some []
  rp : c.G.rp = rpF
  bt : ∀ x ∈ c.T.bts, c.mg x = none
  con : ∀ n x, c.T.cons[n]? = some x → ∃ u v, c.mg x = some u ∧ RelV v u ∧ ∀ H, RelD c.K H (c.G.con n) v
  fns : ∀ n x, c.T.fns[n]? = some x → ∃ f fd ps, Def c.K c.mg c.T n x f fd ps ∧ FnG X.prog X.w c.K c.mg X.base k f fd ps (lift c (M.cl (c.G.fn n)))
  tk : Takes X W
/-! ### the checks -/
def kOk : M.Kc → Const → Bool
  | .non, .none => true
  | .bl b, .bool d => b == d
  | .int i, .int j => decide (i = j)
  | .str x, .str y => decide (stx x = y)
  | _, _ => false
def visB (sc : Scope) (x : Str) : Bool := match sc.names.lookup x with
  | some .local => true | some .cell => true | some .free => true | _ => false
def glB (sc : Scope) (x : Str) : Bool := match sc.names.lookup x with
  | some .globalImplicit => true | _ => false
def locB (sc : Scope) (x : Str) : Bool := match sc.names.lookup x with
  | some .local => true | _ => false
def locCB (sc : Scope) (x : Str) : Bool := match sc.names.lookup x with
  | some .local => true | some .cell => true | _ => false
def dbgB (x : Str) : Bool := (x == ("__debug__" : Str)) || (x == ("__classdict__" : Str))
def plB : Expr → Bool
  | .Starred .. => false | .Slice .. => false | _ => true
def bareB : Expr → Bool
  | .Call .. => false | .Starred .. => false | .Slice .. => false | _ => true
def biN : M.Bi → Str
  | .len => "len" | .abs => "abs" | .int => "int" | .min => "min" | .max => "max" | .all => "all" | .any => "any" | .sum => "sum" | .list => "list" | .tuple => "tuple" | .str => "str" | .sorted => "sorted"
def mtN : M.Mt → Str
  | .append => "append" | .extend => "extend" | .pop => "pop" | .count => "count" | .index => "index"
def mtOk : M.Mt → Bool
  | .append => true | .extend => true | .pop => true | _ => false
def ownOf (N : List Str) (is : List Nat) : List (Str × Nat) := is.filterMap fun i => N[i]?.map fun x => (x, i)
def nameAt (N : List Str) (ok : Str → Bool) (i : Nat) : Expr → Bool
  | .Name x _ => decide (N[i]? = some x) && ok x && !dbgB x
  | _ => false
def namesAt (N : List Str) (ok : Str → Bool) : List Nat → List Expr → Bool
  | [], [] => true
  | i :: is, e :: es => nameAt N ok i e && namesAt N ok is es
  | _, _ => false
def chkTg (N : List Str) (ok : Str → Bool) : M.Tg → Expr → Bool
  | .v i, e => nameAt N ok i e
  | .tup is, .Tuple es _ _ => namesAt N ok is es
  | _, _ => false
def noSet : Expr → Bool
  | .Set .. => false | .Starred .. => false | .Slice .. => false | _ => true
def isTupB : Expr → Bool
  | .Tuple .. => true | _ => false
/-- a call of a free built-in name with such arguments -/
def biCall (T : Tb) (sc : Scope) (nm : Str) (ok : List Expr → Bool) : Expr → Bool
  | .Call (.Name x _) es ks _ => decide (x = nm) && decide (nm ∈ T.bts) && glB sc x && !dbgB x && ks.isEmpty && ok es
  | _ => false
def kwsB : List Keyword → Option (List Str)
  | [] => some []
  | ⟨some x, _, _⟩ :: r => (kwsB r).map (x :: ·)
  | _ => none
def one (p : Expr → Bool) : List Expr → Bool
  | [e] => plB e && p e
  | _ => false
def two (p q : Expr → Bool) : List Expr → Bool
  | [e, d] => plB e && plB d && p e && q d
  | _ => false
def three (p q r : Expr → Bool) : List Expr → Bool
  | [e, d, f] => plB e && plB d && plB f && p e && q d && r f
  | _ => false
/-- a block's own name: a local, or a cell that a block within takes -/
def cellB (scope : Scope) (x : Str) : Bool := scope.names.lookup x == some .cell
def tgB (scope sc : Scope) (x : Str) : Bool := locB (relS scope sc) x || cellB scope x
/-- the name of a built-in type -/
def clsB (T : Tb) (sc : Scope) (t : M.Ty) (z : Str) : Bool := decide (z = tyS t) && decide (z ∈ T.bts) && glB sc z && !dbgB z
mutual
def chkE (T : Tb) (N : List Str) : M.Ex → Scope → Expr → Bool
  | .v i => fun sc ex => nameAt N (visB sc) i ex
  | .k c => fun sc ex => (match ex with | .Constant d _ _ => kOk c d | _ => false)
  | .g n => fun sc ex => (match ex with | .Name x _ => decide (T.cons[n]? = some x) && glB sc x && !dbgB x | _ => false)
  | .bin o a b => fun sc ex => (match ex with | .BinOp a' p b' _ => boOk o p && chkE T N a sc a' && chkE T N b sc b' | _ => false)
  | .neg a => fun sc ex => (match ex with | .UnaryOp .USub a' _ => chkE T N a sc a' | _ => false)
  | .not a => fun sc ex => (match ex with | .UnaryOp .Not a' _ => chkE T N a sc a' | _ => false)
  | .cmp o a b => fun sc ex => (match ex with | .Compare a' [p] [b'] _ => coOk o p && chkE T N a sc a' && chkE T N b sc b' && !behindInMarks p b' | _ => false)
  | .chain o p a b c => fun sc ex => (match ex with | .Compare a' [o', p'] [b', c'] _ => coOk o o' && coOk p p' && chkE T N a sc a' && chkE T N b sc b' && chkE T N c sc c' && !lastMarks [o', p'] [b', c'] | _ => false)
  | .and a r => fun sc ex => (match ex with | .BoolOp .And (a' :: b' :: r') _ => chkE T N a sc a' && chkR T N r sc (b' :: r') | _ => false)
  | .or a r => fun sc ex => (match ex with | .BoolOp .Or (a' :: b' :: r') _ => chkE T N a sc a' && chkR T N r sc (b' :: r') | _ => false)
  | .ite c a b => fun sc ex => (match ex with | .IfExp c' a' b' _ => chkE T N c sc c' && chkE T N a sc a' && chkE T N b sc b' | _ => false)
  | .tup es => fun sc ex => (match ex with | .Tuple es' _ _ => chkEs T N es sc es' | _ => false)
  | .lst es => fun sc ex => (match ex with | .List es' _ => chkEs T N es sc es' | _ => false)
  | .ix a i => fun sc ex => (match ex with | .Subscript a' i' _ => plB i' && chkE T N a sc a' && chkE T N i sc i' | _ => false)
  | .sl a lo hi => fun sc ex => (match ex with | .Subscript a' (.Slice lo' hi' none _) _ => chkE T N a sc a' && chkO T N lo sc lo' && chkO T N hi sc hi' | _ => false)
  | .rev a => fun sc ex => (match ex with | .Subscript a' (.Slice none none (some (.UnaryOp .USub (.Constant (.int i) _ _) _)) _) _ => decide (i = 1) && chkE T N a sc a' | _ => false)
  | .call f es => fun sc ex => (match ex with | .Call (.Name x _) es' [] _ => decide (T.fns[f]? = some x) && glB sc x && !dbgB x && es'.all plB && chkEs T N es sc es' | _ => false)
  | .callk f es ks perm => fun sc ex => (match ex with
    | .Call (.Name x _) es' kw _ => decide (T.fns[f]? = some x) && glB sc x && !dbgB x && es'.all plB && chkEs T N es sc es' && (match kwsB kw with
      | some nms => decide ((f, M.esLen es, nms, perm) ∈ T.kws) && decide (nms.length = M.esLen ks) && (kw.map (·.value)).all plB && chkEs T N ks sc (kw.map (·.value))
      | none => false)
    | _ => false)
  | .rep a => fun sc ex => biCall T sc "repr" (one (chkE T N a sc)) ex
  | .bi b es => fun sc ex => biCall T sc (biN b) (fun es' => !es'.isEmpty && es'.all plB && chkEs T N es sc es') ex
  | .mt m a es => fun sc ex => (match ex with | .Call (.Attribute a' nm apos) es' [] cpos => decide (nm = mtN m) && mtOk m && (apos.endLine == cpos.line) && bareB a' && chkE T N a sc a' && es'.all plB && decide (es'.length < 29) && chkEs T N es sc es' | _ => false)
  | .isi a t => fun sc ex => biCall T sc "isinstance" (two (chkE T N a sc) (fun y => match y with | .Name z _ => decide (z = tyS t) && decide (z ∈ T.bts) && glB sc z && !dbgB z | _ => false)) ex
  | .isi2 a t u => fun sc ex => biCall T sc "isinstance" (two (chkE T N a sc) (fun y => match y with | .Tuple [.Name z _, .Name z2 _] _ _ => clsB T sc t z && clsB T sc u z2 | _ => false)) ex
  | .isx _ _ => fun _ _ => false
  | .dic => fun sc ex => (match ex with | .Dict [] [] _ => true | _ => false)
  | .comp e t it c => fun sc ex => (match ex with
    | .ListComp e' [⟨tg, it', ifs, k⟩] scope _ => decide (k = 0) && blkC N sc scope (ownOf N (M.tgs t)) && decide ((ownOf N (M.tgs t)).map (·.2) = M.tgs t) && decide (M.tgs t).Nodup && noSet it' && chkIt T N it sc it' (isTupB tg) && chkTg N (tgB scope sc) t tg
        && (match ifs with | [] => chkO T N c (relS scope sc) none | [d] => chkO T N c (relS scope sc) (some d) | _ => false) && chkE T N e (relS scope sc) e'
    | _ => false)
def chkEs (T : Tb) (N : List Str) : M.Es → Scope → List Expr → Bool
  | .nil => fun sc es' => es'.isEmpty
  | .cons e r => fun sc es' => (match es' with | e' :: r' => plB e' && chkE T N e sc e' && chkEs T N r sc r' | [] => false)
  | .star e r => fun sc es' => (match es' with | .Starred e' _ :: r' => chkE T N e sc e' && chkEs T N r sc r' | _ => false)
/-- what stands behind the first of and, or -/
def chkR (T : Tb) (N : List Str) : M.Es → Scope → List Expr → Bool
  | .nil => fun sc es' => es'.isEmpty
  | .cons e r => fun sc es' => (match es' with | e' :: r' => chkE T N e sc e' && chkR T N r sc r' | [] => false)
  | .star e r => fun sc es' => false
def chkO (T : Tb) (N : List Str) : M.Oe → Scope → Option Expr → Bool
  | .none => fun sc o => o.isNone
  | .some e => fun sc o => (match o with | some e' => chkE T N e sc e' | none => false)
def chkIt (T : Tb) (N : List Str) : M.It → Scope → Expr → Bool → Bool
  | .seq e => fun sc ex tp => chkE T N e sc ex
  | .rng e => fun sc ex tp => biCall T sc "range" (one (chkE T N e sc)) ex
  | .rng2 a b => fun sc ex tp => biCall T sc "range" (two (chkE T N a sc) (chkE T N b sc)) ex
  | .zip3 a b d => fun sc ex tp => tp && biCall T sc "zip" (three (chkE T N a sc) (chkE T N b sc) (chkE T N d sc)) ex
  | .zip a b => fun sc ex tp => tp && biCall T sc "zip" (two (chkE T N a sc) (chkE T N b sc)) ex
  | .enum e => fun sc ex tp => tp && biCall T sc "enumerate" (one (chkE T N e sc)) ex
end
end Snd
namespace Snd
open PySem PySem.Spec PyProof.Rows L2 RZ
/-! ### what is walked -/
/-- the turns of J yield these items as long as the store is as chk says -/
def Mat (K : Frag) (S : M.Sto) (H : Hp) (J : It) (items : List M.D) (chk : M.Sto → Prop) : Prop :=
  ∀ i S2 H2, Fr S H S2 H2 → RelS K H2 S2 → chk S2 → (∀ d, items[i]? = some d → J.go i H2 ∧ ∀ x H3, J.yld i H2 x H3 → Fr S2 H2 S2 H3 ∧ RelS K H3 S2 ∧ RelD K H3 d x) ∧ (i = items.length → J.stop i H2)
def OkI (K : Frag) (S : M.Sto) (H : Hp) (Rd : M.IK) (R : It → Hp → Prop) : Prop := ∀ items chk S' H' J, Fr S H S' H' → RelS K H' S' → Mat K S' H' J items chk → Rd items chk S' → R J H'
theorem OkI.after {K : Frag} {S S' : M.Sto} {H H' : Hp} {Rd : M.IK} {R : It → Hp → Prop} (h : OkI K S H Rd R) (f : Fr S H S' H') : OkI K S' H' Rd R := fun items chk S2 H2 J f2 r2 m q => h items chk S2 H2 J (f.trans f2) r2 m q
theorem OkI.here {K : Frag} {S : M.Sto} {H : Hp} {Rd : M.IK} {R : It → Hp → Prop} (h : OkI K S H Rd R) (r : RelS K H S) {J : It} {items : List M.D} {chk : M.Sto → Prop} (m : Mat K S H J items chk) (q : Rd items chk S) : R J H := h _ _ _ _ _ Fr.refl r m q
def tIt (c : Cn) (W : WX) (it : M.It) : TI := fun σ H R => ∃ ρ S Rd Xd, ρ.length = σ.length ∧ RelE c.K H ρ σ ∧ RelS c.K H S ∧ M.wpIt c.G it ρ S Rd Xd ∧ OkI c.K S H Rd R ∧ OkX c S H Xd fun cls d H' => W cls d σ H'
theorem get_lt {α : Type} {xs : List α} {i : Nat} {d : α} (h : xs[i]? = some d) : i < xs.length := (List.getElem?_eq_some_iff.mp h).1
/-- what lsOf tells stays told -/
theorem ls_at {K : Frag} {H H2 : Hp} {S S2 : M.Sto} (r : RelS K H S) (f : Fr S H S2 H2) (r2 : RelS K H2 S2) {d : M.D} {a : Addr} {xs : List M.D} (rd : RelD K H d (.ref a)) (e : M.lsOf S2 d = some xs) : ∃ vs, SqL K H2 a vs ∧ RelDs K H2 xs vs := by
  obtain ⟨b, vs, eb, h1, h2⟩ := lsOf_rel r2 (rd.mono r f) e
  cases eb
  exact ⟨vs, h1, h2⟩
theorem mat_list {K : Frag} {H : Hp} {S : M.Sto} (r : RelS K H S) {d : M.D} {a : Addr} {xs : List M.D} (rd : RelD K H d (.ref a)) : Mat K S H (Itl K a) xs fun S' => M.lsOf S' d = some xs := by
  intro i S2 H2 f r2 ch
  obtain ⟨vs, h1, h2⟩ := ls_at r f r2 rd ch
  refine ⟨fun y hy => ?_, fun hl0 => have hl := Nat.le_of_eq hl0.symm; ⟨vs, h1, by rw [← h2.length]; exact hl⟩⟩
  obtain ⟨v, e, rv⟩ := h2.get hy
  refine ⟨⟨vs, v, h1, e⟩, fun x H3 q => ?_⟩
  obtain ⟨e3, q⟩ := q
  subst e3
  have e4 := q vs h1
  rw [e] at e4
  cases e4
  exact ⟨Fr.refl, r2, rv⟩
theorem mat_tup {K : Frag} {H : Hp} {S : M.Sto} (r : RelS K H S) {a : Addr} {xs : List M.D} {vs : List V} (h1 : SqT K H a vs) (h2 : RelDs K H xs vs) : Mat K S H (Itt K a) xs fun _ => True := by
  intro i S2 H2 f r2 ch
  have h1 := sqt_mono r f h1
  have h2 := h2.mono r f
  refine ⟨fun y hy => ?_, fun hl0 => have hl := Nat.le_of_eq hl0.symm; ⟨vs, h1, by rw [← h2.length]; exact hl⟩⟩
  obtain ⟨v, e, rv⟩ := h2.get hy
  refine ⟨⟨vs, v, h1, e⟩, fun x H3 q => ?_⟩
  obtain ⟨e3, q⟩ := q
  subst e3
  have e4 := q vs h1
  rw [e] at e4
  cases e4
  exact ⟨Fr.refl, r2, rv⟩
theorem mat_str {K : Frag} {H : Hp} {S : M.Sto} {a : M.Tx} : Mat K S H (Its (stx a)) (a.map fun c => .str [c]) fun _ => True := by
  intro i S2 H2 f r2 ch
  have hs : (stx a).cps.size = a.length := by unfold stx; simp
  refine ⟨fun y hy => ?_, fun hl0 => have hl := Nat.le_of_eq hl0.symm; ?_⟩
  · rw [List.getElem?_map] at hy
    obtain ⟨c, e, ey⟩ := Option.map_eq_some_iff.mp hy
    subst ey
    refine ⟨by show i < (stx a).cps.size; rw [hs]; exact get_lt e, fun x H3 q => ?_⟩
    obtain ⟨e3, c', e4, ex⟩ := q
    subst e3 ex
    have e5 : (stx a).cps[i]? = a[i]? := by unfold stx; simp
    rw [e5, e] at e4
    cases e4
    exact ⟨Fr.refl, r2, .str [c]⟩
  · show (stx a).cps.size ≤ i
    rw [hs]
    simpa using hl
theorem mat_rng {K : Frag} {H : Hp} {S : M.Sto} {lo : Int} {n : Nat} : Mat K S H (Itr lo n) ((List.range n).map fun i => .int (lo + (i : Nat))) fun _ => True := by
  intro i S2 H2 f r2 ch
  refine ⟨fun y hy => ?_, fun hl0 => have hl := Nat.le_of_eq hl0.symm; by show n ≤ i; simpa using hl⟩
  have hl := get_lt hy
  rw [List.length_map, List.length_range] at hl
  rw [List.getElem?_map, List.getElem?_range hl] at hy
  cases hy
  refine ⟨hl, fun x H3 q => ?_⟩
  obtain ⟨e3, ex⟩ := q
  subst e3 ex
  exact ⟨Fr.refl, r2, .int _⟩
theorem enumL_get : ∀ {xs : List M.D} {n i : Nat} {y : M.D}, (M.enumL n xs)[i]? = some y → ∃ d, xs[i]? = some d ∧ y = .tup [.int ((n + i : Nat) : Int), d]
  | [], _, _, _, h => by simp [M.enumL] at h
  | d :: ds, n, 0, y, h => by simp [M.enumL] at h; exact ⟨d, rfl, by simpa using h.symm⟩
  | d :: ds, n, i + 1, y, h => by
    obtain ⟨d', e1, e2⟩ := enumL_get (xs := ds) (n := n + 1) (i := i) (y := y) (by simpa [M.enumL] using h)
    exact ⟨d', by simpa using e1, by rw [e2]; congr 3; omega⟩
theorem enumL_len : ∀ (xs : List M.D) (n : Nat), (M.enumL n xs).length = xs.length
  | [], _ => rfl
  | _ :: ds, n => by simp [M.enumL, enumL_len ds (n + 1)]
theorem pair_new {K : Frag} {H : Hp} {S : M.Sto} {T : Addr} {x y : V} {d e : M.D} (r : RelS K H S) (hT : H T = none) (rx : RelD K H d x) (ry : RelD K H e y) :
    Fr S H S (L2.upd H T (.tup [x, y])) ∧ RelS K (L2.upd H T (.tup [x, y])) S ∧ RelD K (L2.upd H T (.tup [x, y])) (.tup [d, e]) (.ref T) := by
  have f : Fr S H S (L2.upd H T (.tup [x, y])) := Fr.laid hT
  exact ⟨f, r.laid hT, .tup (SqT.of upd_same) (.cons (rx.mono r f) (.cons (ry.mono r f) .nil))⟩
theorem mat_enum {K : Frag} {H : Hp} {S : M.Sto} (r : RelS K H S) {d : M.D} {a : Addr} {xs : List M.D} (rd : RelD K H d (.ref a)) : Mat K S H (Ite K a) (M.enumL 0 xs) fun S' => M.lsOf S' d = some xs := by
  intro i S2 H2 f r2 ch
  obtain ⟨vs, h1, h2⟩ := ls_at r f r2 rd ch
  refine ⟨fun y hy => ?_, fun hl0 => have hl := Nat.le_of_eq hl0.symm; ⟨vs, h1, by rw [← h2.length]; rwa [enumL_len] at hl⟩⟩
  obtain ⟨d', e1, ey⟩ := enumL_get hy
  subst ey
  obtain ⟨v, e, rv⟩ := h2.get e1
  refine ⟨⟨vs, v, h1, e⟩, fun x H3 q => ?_⟩
  obtain ⟨T, z, ex, hT, e3, q⟩ := q
  subst ex e3
  have e4 := q vs h1
  rw [e] at e4
  cases e4
  rw [Nat.zero_add]
  exact pair_new r2 hT (.int _) rv
theorem zipP_get {xs ys : List M.D} {i : Nat} {y : M.D} (h : (M.zipP xs ys)[i]? = some y) : ∃ d e, xs[i]? = some d ∧ ys[i]? = some e ∧ y = .tup [d, e] := by
  unfold M.zipP at h
  rw [List.getElem?_map] at h
  obtain ⟨⟨d, e⟩, hz, hy⟩ := Option.map_eq_some_iff.mp h
  obtain ⟨h1, h2⟩ := List.getElem?_zip_eq_some.mp hz
  exact ⟨d, e, h1, h2, hy.symm⟩
theorem zipP_len (xs ys : List M.D) : (M.zipP xs ys).length = min xs.length ys.length := by unfold M.zipP; simp
theorem mat_zipM {K : Frag} {H : Hp} {S : M.Sto} {p q : Sc} {xs ys : List M.D} {chk : M.Sto → Prop} (hp : ∀ S2 H2, Fr S H S2 H2 → RelS K H2 S2 → chk S2 → ∃ vs, p.has K H2 vs ∧ RelDs K H2 xs vs) (hq : ∀ S2 H2, Fr S H S2 H2 → RelS K H2 S2 → chk S2 → ∃ vs, q.has K H2 vs ∧ RelDs K H2 ys vs) :
    Mat K S H (ItzM K p q) (M.zipP xs ys) chk := by
  intro i S2 H2 f r2 ch
  obtain ⟨vs, h1, h2⟩ := hp S2 H2 f r2 ch
  obtain ⟨us, g1, g2⟩ := hq S2 H2 f r2 ch
  refine ⟨fun y hy => ?_, fun hl => ⟨vs, us, h1, g1, by rw [zipP_len, h2.length, g2.length] at hl; exact hl⟩⟩
  obtain ⟨d', e', e1, e2, ey⟩ := zipP_get hy
  subst ey
  obtain ⟨v, ev, rv⟩ := h2.get e1
  obtain ⟨u, eu, ru⟩ := g2.get e2
  refine ⟨⟨vs, us, v, u, h1, g1, ev, eu⟩, fun x H3 q' => ?_⟩
  obtain ⟨T, z, z', ex, hT, e3, w1, w2⟩ := q'
  subst ex e3
  have e4 := w1 vs h1
  rw [ev] at e4
  cases e4
  have e4 := w2 us g1
  rw [eu] at e4
  cases e4
  exact pair_new r2 hT rv ru
theorem zipP3_get {xs ys zs : List M.D} {i : Nat} {y : M.D} (h : (M.zipP3 xs ys zs)[i]? = some y) : ∃ d e f, xs[i]? = some d ∧ ys[i]? = some e ∧ zs[i]? = some f ∧ y = .tup [d, e, f] := by
  unfold M.zipP3 at h
  rw [List.getElem?_map] at h
  cases hz : (xs.zip (ys.zip zs))[i]? with
  | none => rw [hz] at h; cases h
  | some q =>
    rw [hz] at h
    injection h with h
    obtain ⟨h1, h2⟩ := List.getElem?_zip_eq_some.mp hz
    obtain ⟨h3, h4⟩ := List.getElem?_zip_eq_some.mp h2
    exact ⟨_, _, _, h1, h3, h4, h.symm⟩
theorem zipP3_len (xs ys zs : List M.D) : (M.zipP3 xs ys zs).length = min (min xs.length ys.length) zs.length := by unfold M.zipP3; simp [Nat.min_assoc]
theorem triple_new {K : Frag} {H : Hp} {S : M.Sto} {T : Addr} {x y z : V} {d e f : M.D} (r : RelS K H S) (hT : H T = none) (rx : RelD K H d x) (ry : RelD K H e y) (rz : RelD K H f z) :
    Fr S H S (L2.upd H T (.tup [x, y, z])) ∧ RelS K (L2.upd H T (.tup [x, y, z])) S ∧ RelD K (L2.upd H T (.tup [x, y, z])) (.tup [d, e, f]) (.ref T) := by
  have g : Fr S H S (L2.upd H T (.tup [x, y, z])) := Fr.laid hT
  exact ⟨g, r.laid hT, .tup (SqT.of upd_same) (.cons (rx.mono r g) (.cons (ry.mono r g) (.cons (rz.mono r g) .nil)))⟩
theorem mat_zip3 {K : Frag} {H : Hp} {S : M.Sto} {p q t : Sc} {xs ys zs : List M.D} {chk : M.Sto → Prop} (hp : ∀ S2 H2, Fr S H S2 H2 → RelS K H2 S2 → chk S2 → ∃ vs, p.has K H2 vs ∧ RelDs K H2 xs vs) (hq : ∀ S2 H2, Fr S H S2 H2 → RelS K H2 S2 → chk S2 → ∃ vs, q.has K H2 vs ∧ RelDs K H2 ys vs) (ht : ∀ S2 H2, Fr S H S2 H2 → RelS K H2 S2 → chk S2 → ∃ vs, t.has K H2 vs ∧ RelDs K H2 zs vs) :
    Mat K S H (Itz3 K p q t) (M.zipP3 xs ys zs) chk := by
  intro i S2 H2 f r2 ch
  obtain ⟨vs, h1, h2⟩ := hp S2 H2 f r2 ch
  obtain ⟨us, g1, g2⟩ := hq S2 H2 f r2 ch
  obtain ⟨ws, k1, k2⟩ := ht S2 H2 f r2 ch
  refine ⟨fun y hy => ?_, fun hl => ⟨vs, us, ws, h1, g1, k1, by rw [zipP3_len, h2.length, g2.length, k2.length] at hl; exact hl⟩⟩
  obtain ⟨d', e', f', e1, e2, e3, ey⟩ := zipP3_get hy
  subst ey
  obtain ⟨v, ev, rv⟩ := h2.get e1
  obtain ⟨u, eu, ru⟩ := g2.get e2
  obtain ⟨w, ew, rw'⟩ := k2.get e3
  refine ⟨⟨vs, us, ws, v, u, w, h1, g1, k1, ev, eu, ew⟩, fun x H3 q' => ?_⟩
  obtain ⟨T, z, z', z'', ex, hT, e3, w1, w2, w3⟩ := q'
  subst ex e3
  have e4 := w1 vs h1
  rw [ev] at e4
  cases e4
  have e4 := w2 us g1
  rw [eu] at e4
  cases e4
  have e4 := w3 ws k1
  rw [ew] at e4
  cases e4
  exact triple_new r2 hT rv ru rw'
theorem chrs_rel {K : Frag} {H : Hp} : ∀ a : M.Tx, RelDs K H (a.map fun c => .str [c]) (chrs (stx a))
  | [] => .nil
  | c :: r => .cons (.str [c]) (chrs_rel r)
/-! ### over a list, a tuple, a text -/
theorem PI.imp {X : Cx} {tg e : Expr} {t t' : TI} (h : PI X tg e t) (i : ∀ σ H R, t' σ H R → t σ H R) : PI X tg e t' := ⟨fun pins s σ H R I q => h.run pins s σ H R I (i σ H R q)⟩
def iSeq (K : Frag) (te : TE) : TI := fun σ H R => te σ H fun v H1 => (∃ a xs, v = .ref a ∧ SqL K H1 a xs ∧ R (Itl K a) H1) ∨ (∃ a xs, v = .ref a ∧ SqT K H1 a xs ∧ R (Itt K a) H1) ∨ ∃ x, v = .str x ∧ R (Its x) H1
theorem pi_seqM {X : Cx} {tg e : Expr} {te : TE} (he : PE X e te) : PI X tg e (iSeq X.K te) := by
  refine ⟨fun pins s σ H R I h => ?_⟩
  refine thn (he.run pins s σ H _ I h) fun v s1 ⟨y, H1, I1, r1, q⟩ => ?_
  rcases q with ⟨a, xs, ey, hq, q⟩ | ⟨a, xs, ey, hq, q⟩ | ⟨x, ey, q⟩
  · subst ey
    cases r1
    obtain ⟨its, rv, p, hz⟩ := I1.list hq
    exact wpAny_pyIter_list p.isList (pi_one (tk := s1.toks) I1 _ (turn_list a _) ⟨_, Heap.get?_push_size _ rfl, rfl, rfl⟩ q)
  · subst ey
    cases r1
    obtain ⟨its, rv, p, hz⟩ := I1.tuple hq
    exact wpAny_pyIter_tuple (show s1.heap.IsTuple a its.toArray from p) (pi_one (tk := s1.toks) I1 _ (turn_tuple a _) ⟨_, Heap.get?_push_size _ rfl, rfl, rfl⟩ q)
  · subst ey
    obtain ⟨t, rfl⟩ := r1
    cases ha : x.cps.all (· < 128)
    · exact wpAny_pyIter_wide ha (pi_one (tk := s1.toks) I1 _ (turn_str _ x t "str_iterator" (.inr rfl)) ⟨_, Heap.get?_push_size _ rfl, rfl, rfl⟩ q)
    · exact wpAny_pyIter_ascii ha (pi_one (tk := s1.toks) I1 _ (turn_str _ x t "str_ascii_iterator" (.inl rfl)) ⟨_, Heap.get?_push_size _ rfl, rfl, rfl⟩ q)
/-- the reading of what is walked, by value -/
theorem seq_rel {K : Frag} {H : Hp} {S : M.Sto} {d : M.D} {v : V} {Rd : M.IK} {R : It → Hp → Prop} (r : RelS K H S) (rd : RelD K H d v) (w : M.seqD d S Rd) (q : OkI K S H Rd R) :
    (∃ a xs, v = .ref a ∧ SqL K H a xs ∧ R (Itl K a) H) ∨ (∃ a xs, v = .ref a ∧ SqT K H a xs ∧ R (Itt K a) H) ∨ ∃ x, v = .str x ∧ R (Its x) H := by
  cases rd with
  | ref a =>
    obtain ⟨xs, e, w⟩ := opt_of (show M.opt (M.lstAt S a) (fun xs => Rd xs (fun S' => S' a = some (.lst xs)) S) from w)
    obtain ⟨vs, h1, h2⟩ := r.at e
    refine .inl ⟨a, vs, rfl, SqL.of h1, q.here r ?_ w⟩
    intro i S2 H2 f r2 ch
    exact mat_list r (.ref a) i S2 H2 f r2 (show M.lsOf S2 (.ref a) = some xs from lstAt_of ch)
  | fl h1 h2 => exact .inl ⟨_, _, rfl, h1.sq, q.here r (fun i S2 H2 f r2 _ => mat_list r (.fl h1 h2) i S2 H2 f r2 rfl) w⟩
  | tup h1 h2 => exact .inr (.inl ⟨_, _, rfl, h1, q.here r (mat_tup r h1 h2) w⟩)
  | str x => exact .inr (.inr ⟨_, rfl, q.here r mat_str w⟩)
  | non => exact False.elim w
  | bl b => exact False.elim w
  | int i => exact False.elim w
end Snd
namespace Snd
open PySem PySem.Spec PyProof.Rows L2
/-! ### from the checks -/
theorem and2 {a b : Bool} (h : (a && b) = true) : a = true ∧ b = true := Bool.and_eq_true_iff.mp h
theorem not1 {a : Bool} (h : (!a) = true) : a = false := by cases a <;> first | rfl | cases h
theorem vis_of {sc : Scope} {x : Str} (h : visB sc x = true) : Vis sc x := by
  unfold visB at h
  split at h <;> first | exact .inl (by assumption) | exact .inr (.inl (by assumption)) | exact .inr (.inr (by assumption)) | cases h
theorem gl_of {X : Cx} {sc : Scope} {x : Str} (hs : X.env.scope = sc) (h : glB sc x = true) : Gl X x := by
  unfold glB at h
  subst hs
  split at h <;> first | assumption | cases h
theorem loc_of {sc : Scope} {x : Str} (h : locB sc x = true) : sc.names.lookup x = some .local := by
  unfold locB at h
  split at h <;> first | assumption | cases h
theorem tgB_of {scope sc : Scope} {x : Str} (h : tgB scope sc x = true) : Loc (relS scope sc) x ∧ ((scope.names.lookup x == some NameKind.cell) = true ∨ (relS scope sc).names.lookup x = some .local) := by
  rcases Bool.or_eq_true_iff.mp h with h | h
  · exact ⟨.inl (loc_of h), .inr (loc_of h)⟩
  · have e : scope.names.lookup x = some .cell := eq_of_beq h
    exact ⟨.inr (lookup_relS_keep (by decide) e), .inl h⟩
theorem locC_of {sc : Scope} {x : Str} (h : locCB sc x = true) : Loc sc x := by
  unfold locCB at h
  split at h <;> first | exact .inl (by assumption) | exact .inr (by assumption) | cases h
theorem dbg_of {x : Str} (h : (!dbgB x) = true) : (x == ("__debug__" : Str)) = false ∧ (x == ("__classdict__" : Str)) = false := by
  have h := not1 h
  unfold dbgB at h
  exact Bool.or_eq_false_iff.mp h
theorem plB_star {e : Expr} {es : List Expr} {env : Env} (h : plB e = true) : starEach (e :: es) env = (false, eval e env) :: starEach es env := by
  cases e <;> first | rfl | cases h
theorem plB_all {pos : Pos} {env : Env} : ∀ {es : List Expr}, es.all plB = true → (backTo pos (starEach es env)).any (·.1) = false
  | [], _ => rfl
  | e :: es, h => by
    have h := and2 (show (plB e && es.all plB) = true from h)
    rw [plB_star h.1]
    show (false || (backTo pos (starEach es env)).any (·.1)) = false
    rw [plB_all h.2]
    rfl
theorem plB_few {pos : Pos} {env : Env} : ∀ {es : List Expr}, es.all plB = true → (backTo pos (starEach es env)).all (fun x => !x.1) = true
  | [], _ => rfl
  | e :: es, h => by
    have h := and2 (show (plB e && es.all plB) = true from h)
    rw [plB_star h.1]
    show (true && (backTo pos (starEach es env)).all (fun x => !x.1)) = true
    rw [plB_few h.2]
    rfl
theorem plB_ix {e : Expr} (h : plB e = true) : PlainIx e := by
  cases e <;> first | (intro _ _; rfl) | cases h
theorem bare_of {e : Expr} {nm : Str} {env : Env} (h : bareB e = true) : attributeBase e nm env (eval e env) = eval e env := by
  cases e <;> first | rfl | cases h
theorem folded_of {e : Expr} {env : Env} (h : noSet e = true) : ∀ x, foldedSetIterable e env x = pure x := by
  cases e <;> first | (intro _; rfl) | cases h
theorem name_of {N : List Str} {ok : Str → Bool} {i : Nat} {e : Expr} (h : nameAt N ok i e = true) : ∃ x p, e = .Name x p ∧ N[i]? = some x ∧ ok x = true ∧ (x == ("__debug__" : Str)) = false ∧ (x == ("__classdict__" : Str)) = false := by
  unfold nameAt at h
  split at h
  · rename_i x p
    obtain ⟨h, h3⟩ := and2 h
    obtain ⟨h1, h2⟩ := and2 h
    exact ⟨x, p, rfl, of_decide_eq_true h1, h2, dbg_of h3⟩
  · cases h
theorem biCall_of {T : Tb} {sc : Scope} {nm : Str} {ok : List Expr → Bool} {e : Expr} (h : biCall T sc nm ok e = true) :
    ∃ p es pos, e = .Call (.Name nm p) es [] pos ∧ nm ∈ T.bts ∧ glB sc nm = true ∧ (nm == ("__debug__" : Str)) = false ∧ ok es = true := by
  unfold biCall at h
  split at h
  · rename_i x p es ks pos
    obtain ⟨h, h6⟩ := and2 h
    obtain ⟨h, h5⟩ := and2 h
    obtain ⟨h, h4⟩ := and2 h
    obtain ⟨h, h3⟩ := and2 h
    obtain ⟨h1, h2⟩ := and2 h
    have e1 : x = nm := of_decide_eq_true h1
    subst e1
    have e5 : ks = [] := by cases ks with | nil => rfl | cons => cases h5
    subst e5
    exact ⟨p, es, pos, rfl, of_decide_eq_true h2, h3, (dbg_of h4).1, h6⟩
  · cases h
theorem one_of {p : Expr → Bool} {es : List Expr} (h : one p es = true) : ∃ e, es = [e] ∧ plB e = true ∧ p e = true := by
  unfold one at h
  split at h
  · exact ⟨_, rfl, and2 h⟩
  · cases h
theorem two_of {p q : Expr → Bool} {es : List Expr} (h : two p q es = true) : ∃ e d, es = [e, d] ∧ plB e = true ∧ plB d = true ∧ p e = true ∧ q d = true := by
  unfold two at h
  split at h
  · obtain ⟨h, h4⟩ := and2 h
    obtain ⟨h, h3⟩ := and2 h
    obtain ⟨h1, h2⟩ := and2 h
    exact ⟨_, _, rfl, h1, h2, h3, h4⟩
  · cases h
theorem three_of {p q r : Expr → Bool} {es : List Expr} (h : three p q r es = true) : ∃ e d f, es = [e, d, f] ∧ plB e = true ∧ plB d = true ∧ plB f = true ∧ p e = true ∧ q d = true ∧ r f = true := by
  unfold three at h
  split at h
  · obtain ⟨h, h6⟩ := and2 h
    obtain ⟨h, h5⟩ := and2 h
    obtain ⟨h, h4⟩ := and2 h
    obtain ⟨h, h3⟩ := and2 h
    obtain ⟨h1, h2⟩ := and2 h
    exact ⟨_, _, _, rfl, h1, h2, h3, h4, h5, h6⟩
  · cases h
/-! ### readings -/
section
variable {c : Cn} {W : WX} {σ : Sl} {H : Hp} {Q : VK}
/-- two values in a row -/
theorem two_rel {a b : M.Ex} {ρ : M.Env} {S : M.Sto} {Xd : M.XK} {f : M.D → M.D → M.Sto → Prop} {R : V → V → Hp → Prop} (hl : ρ.length = σ.length) (re : RelE c.K H ρ σ) (r : RelS c.K H S)
    (w : M.wpE c.G a ρ S (fun x S1 => M.wpE c.G b ρ S1 (fun y S2 => f x y S2) Xd) Xd) (hx : OkX c S H Xd fun cls d H' => W cls d σ H')
    (k : ∀ x y S2 v u H2, Fr S H S2 H2 → RelS c.K H2 S2 → RelD c.K H2 x v → RelD c.K H2 y u → f x y S2 → R v u H2) : tE c W a σ H fun v H1 => tE c W b σ H1 fun u H2 => R v u H2 :=
  ⟨ρ, S, _, Xd, hl, re, r, w, fun x S1 v H1 f1 r1 rx q1 => ⟨ρ, S1, _, Xd, hl, re.mono r f1, r1, q1, fun y S2 u H2 f2 r2 ry q2 => k x y S2 v u H2 (f1.trans f2) r2 (rx.mono r1 f2) ry q2, hx.after f1⟩, hx⟩
theorem three_rel {a b d : M.Ex} {ρ : M.Env} {S : M.Sto} {Xd : M.XK} {f : M.D → M.D → M.D → M.Sto → Prop} {R : V → V → V → Hp → Prop} (hl : ρ.length = σ.length) (re : RelE c.K H ρ σ) (r : RelS c.K H S)
    (w : M.wpE c.G a ρ S (fun x S1 => M.wpE c.G b ρ S1 (fun y S2 => M.wpE c.G d ρ S2 (fun z S3 => f x y z S3) Xd) Xd) Xd) (hx : OkX c S H Xd fun cls d H' => W cls d σ H')
    (k : ∀ x y z S2 v u t H2, Fr S H S2 H2 → RelS c.K H2 S2 → RelD c.K H2 x v → RelD c.K H2 y u → RelD c.K H2 z t → f x y z S2 → R v u t H2) : tE c W a σ H fun v H1 => tE c W b σ H1 fun u H2 => tE c W d σ H2 fun t H3 => R v u t H3 :=
  ⟨ρ, S, _, Xd, hl, re, r, w, fun x S1 v H1 f1 r1 rx q1 => ⟨ρ, S1, _, Xd, hl, re.mono r f1, r1, q1, fun y S2 u H2 f2 r2 ry q2 => ⟨ρ, S2, _, Xd, hl, re.mono r (f1.trans f2), r2, q2, fun z S3 t H3 f3 r3 rz q3 => k x y z S3 v u t H3 ((f1.trans f2).trans f3) r3 (rx.mono r1 (f2.trans f3)) (ry.mono r2 f3) rz q3, (hx.after f1).after f2⟩, hx.after f1⟩, hx⟩
theorem one_rel {a : M.Ex} {ρ : M.Env} {S : M.Sto} {Xd : M.XK} {f : M.D → M.Sto → Prop} {R : V → Hp → Prop} (hl : ρ.length = σ.length) (re : RelE c.K H ρ σ) (r : RelS c.K H S)
    (w : M.wpE c.G a ρ S f Xd) (hx : OkX c S H Xd fun cls d H' => W cls d σ H')
    (k : ∀ x S2 v H2, Fr S H S2 H2 → RelS c.K H2 S2 → RelD c.K H2 x v → f x S2 → R v H2) : tE c W a σ H R :=
  ⟨ρ, S, _, Xd, hl, re, r, w, fun x S1 v H1 f1 r1 rx q1 => k x S1 v H1 f1 r1 rx q1, hx⟩
theorem ones_rel {a : M.Es} {ρ : M.Env} {S : M.Sto} {Xd : M.XK} {f : List M.D → M.Sto → Prop} {R : List V → Hp → Prop} (hl : ρ.length = σ.length) (re : RelE c.K H ρ σ) (r : RelS c.K H S)
    (w : M.wpEs c.G a ρ S f Xd) (hx : OkX c S H Xd fun cls d H' => W cls d σ H')
    (k : ∀ x S2 v H2, Fr S H S2 H2 → RelS c.K H2 S2 → RelDs c.K H2 x v → f x S2 → R v H2) : tEs c W a σ H R :=
  ⟨ρ, S, _, Xd, hl, re, r, w, fun x S1 v H1 f1 r1 rx q1 => k x S1 v H1 f1 r1 rx q1, hx⟩
end
/-- a value's reading as a test -/
abbrev tB1 (t : TE) : TT := tB t
/-- the reading of what stands behind and, or -/
def tR (c : Cn) (W : WX) (f : M.Gm → M.Es → M.Env → M.Sto → M.VK → M.XK → Prop) (es : M.Es) : TE := fun σ H Q => ∃ ρ S Qd Xd, ρ.length = σ.length ∧ RelE c.K H ρ σ ∧ RelS c.K H S ∧ f c.G es ρ S Qd Xd ∧ OkV c.K S H Qd Q ∧ OkX c S H Xd fun cls d H' => W cls d σ H'
def tO (c : Cn) (W : WX) (o : M.Oe) : TO := fun σ H Q => ∃ ρ S Qd Xd, ρ.length = σ.length ∧ RelE c.K H ρ σ ∧ RelS c.K H S ∧ M.wpO c.G o ρ S Qd Xd ∧ (∀ i S' H', Fr S H S' H' → RelS c.K H' S' → Qd i S' → Q i H') ∧ OkX c S H Xd fun cls d H' => W cls d σ H'
/-- a clause's test in a block: nothing may leave it -/
def tCn (c : Cn) (o : M.Oe) : TT := fun σ H Q => ∃ ρ S Qd, ρ.length = σ.length ∧ RelE c.K H ρ σ ∧ RelS c.K H S ∧ M.wpC c.G o ρ S Qd ∧ ∀ b S' H', Fr S H S' H' → RelS c.K H' S' → Qd b S' → Q b H'
def W0 : WX := fun _ _ _ _ => False
theorem okX0 {c : Cn} {S : M.Sto} {H : Hp} {W : Value → Option Addr → Hp → Prop} : OkX c S H M.X0 W := fun _ _ _ _ _ _ _ _ _ q => False.elim q
/-! ### the callee runs -/
theorem run_fnG {X : Cx} {k : Nat} {f : Addr} {fd : FuncData} {ps : List Str} {sp : L2.Sp} {E : Sl → XK} {pins : List (Addr × Obj)} {σ : Sl} {H : Hp} {s : Shared} {Q : VK} {args : Args} {us : List Value} {vs : List V} (F : FnG X.prog X.w X.K X.mg X.base k f fd ps sp) (hr : Room k X.A) (hg : X.A.guards = some [])
    (hb : BindsTo s fd args (ps.zip us)) (hx : PassesAt (L2.CX X.prog X.w) X σ (E σ)) (I : Inv X pins σ H s) (r : Vals vs us) (h : sp vs H Q (E σ)) : wpAny (model X.prog X.w) X.A (call (.ref f) args.pos args.kw) (EP X pins σ Q) X.xe s := by
  refine wpAny_call (codeAny_mono (F.run X.A X.stack s H args us vs Q (E σ) hr hg I.env0 hb r h) fun r s' hq => ?_)
  cases r with
  | error e => exact hx pins H s e s' I hq
  | ok fl =>
    cases fl with
    | ret u => exact I.after hq
    | next => exact False.elim hq
    | brk => exact False.elim hq
    | cont => exact False.elim hq
end Snd
namespace Snd
open PySem PySem.Spec PyProof.Rows L2
/-! ### targets -/
def gNames : List Nat → TGs
  | [] => gNil
  | i :: is => gCons (gName i) (gNames is)
def tgG (K : Frag) : M.Tg → TG
  | .v i => gName i
  | .tup is => fun v σ H Q => gTup K is.length (gNames is) v σ H Q ∨ gUnl K is.length (gNames is) v σ H Q
section
variable {X : Cx}
theorem pgsOk {ok : Str → Bool} (hN : X.N.Nodup) (hok : ∀ x, ok x = true → Loc X.env.scope x ∧ (X.fn x = true ∨ X.env.scope.names.lookup x = some .local)) : ∀ {is : List Nat} {es : List Expr}, namesAt X.N ok is es = true →
    PGs X es (gNames is) ∧ (assignEach es X.env).length = is.length ∧ (assignEach es X.env).findIdx? (·.1) = none
  | [], [], _ => ⟨pgs_nil, rfl, rfl⟩
  | [], _ :: _, h => nomatch h
  | _ :: _, [], h => nomatch h
  | i :: is, e :: es, h => by
    obtain ⟨h1, h2⟩ := and2 (show (nameAt X.N ok i e && namesAt X.N ok is es) = true from h)
    obtain ⟨x, p, rfl, a1, a2, _⟩ := name_of h1
    obtain ⟨b1, b2, b3⟩ := pgsOk hN hok h2
    obtain ⟨l1, l2⟩ := hok x a2
    refine ⟨pgs_cons (pg_name hN a1 l1 l2) b1, ?_, ?_⟩
    · show (assignEach es X.env).length + 1 = is.length + 1
      rw [b2]
    · show List.findIdx? (·.1) ((false, _) :: assignEach es X.env) = none
      rw [List.findIdx?_cons, b3]
      rfl
theorem pgOk {ok : Str → Bool} (hc : X.calm = true) (hN : X.N.Nodup) (hok : ∀ x, ok x = true → Loc X.env.scope x ∧ (X.fn x = true ∨ X.env.scope.names.lookup x = some .local)) {t : M.Tg} {e : Expr} (h : chkTg X.N ok t e = true) : PG X e (tgG X.K t) := by
  cases t with
  | v i =>
    obtain ⟨x, p, rfl, a1, a2, _⟩ := name_of (show nameAt X.N ok i e = true from h)
    obtain ⟨l1, l2⟩ := hok x a2
    exact pg_name hN a1 l1 l2
  | tup is =>
    unfold chkTg at h
    split at h
    · rename_i heq
      cases heq
    · rename_i heq
      cases heq
      obtain ⟨b1, b2, b3⟩ := pgsOk hN hok h
      exact ⟨fun pins s σ H v u Q I r h => h.elim (fun h => (pg_tup hc b1 b2 b3).run pins s σ H v u Q I r h) fun h => (pg_unl hc b1 b2 b3).run pins s σ H v u Q I r h⟩
    · cases h
end
theorem setAll_rel {K : Frag} {H : Hp} : ∀ {is : List Nat} {ds : List M.D} {vs : List V} {ρ : M.Env} {σ : Sl} {R : Sl → Hp → Prop}, ds.length = is.length → RelDs K H ds vs → ρ.length = σ.length → RelE K H ρ σ →
    (∀ σ', σ'.length = σ.length → RelE K H (M.setAll is ds ρ) σ' → (∀ i, i ∉ is → σ'[i]? = σ[i]?) → R σ' H) → gNames is vs σ H R
  | [], [], _, ρ, σ, R, _, .nil, hl, re, k => ⟨rfl, k σ rfl re fun _ _ => rfl⟩
  | [], _ :: _, _, _, _, _, h, _, _, _, _ => nomatch h
  | _ :: _, [], _, _, _, _, h, _, _, _, _ => nomatch h
  | i :: is, d :: ds, _, ρ, σ, R, h, .cons (v := v) a b, hl, re, k => by
    refine ⟨v, _, rfl, ?_⟩
    refine setAll_rel (ρ := ρ.set i (some d)) (Nat.succ.inj h) b (by rw [List.length_set, List.length_set, hl]) (re.set hl a i) fun σ' l r q => k σ' (by rw [l, List.length_set]) r fun j hj => ?_
    rw [q j fun z => hj (List.mem_cons_of_mem _ z), List.getElem?_set_ne (fun z => hj (by rw [z]; exact List.mem_cons_self))]
theorem asg_rel {K : Frag} {H : Hp} {S : M.Sto} (rS : RelS K H S) {t : M.Tg} {d : M.D} {v : V} {ρ : M.Env} {σ : Sl} {Qe : M.Env → Prop} {R : Sl → Hp → Prop} (hl : ρ.length = σ.length) (re : RelE K H ρ σ) (rd : RelD K H d v) (w : M.asg t d S ρ Qe)
    (k : ∀ ρ' σ', ρ'.length = σ'.length → σ'.length = σ.length → RelE K H ρ' σ' → (∀ i, i ∉ M.tgs t → σ'[i]? = σ[i]?) → Qe ρ' → R σ' H) : tgG K t v σ H R := by
  cases t with
  | v i =>
    refine k _ _ (by rw [List.length_set, List.length_set, hl]) (by rw [List.length_set]) (re.set hl rd i) (fun j hj => ?_) w
    rw [List.getElem?_set_ne fun z => hj (by rw [z]; exact List.mem_cons_self)]
  | tup is =>
    have hs : ∀ (is : List Nat) (ds : List M.D) (ρ : M.Env), (M.setAll is ds ρ).length = ρ.length := by
      intro is
      induction is with
      | nil => intro ds ρ; cases ds <;> rfl
      | cons i is ih => intro ds ρ; cases ds with
        | nil => rfl
        | cons d ds => show (M.setAll is ds (ρ.set i (some d))).length = _; rw [ih, List.length_set]
    have list : ∀ xs, M.lsOf S d = some xs → xs.length = is.length ∧ Qe (M.setAll is xs ρ) → gUnl K is.length (gNames is) v σ H R := by
      rintro xs e ⟨w1, w2⟩
      obtain ⟨a, vs, rfl, h1, h2⟩ := lsOf_rel rS rd e
      exact ⟨a, vs, rfl, h1, by rw [← h2.length]; exact w1, setAll_rel w1 h2 hl re fun σ' l r q => k _ σ' (by rw [hs, l, hl]) l r q w2⟩
    cases rd with
    | tup h1 h2 =>
      obtain ⟨w1, w2⟩ := w
      exact .inl ⟨_, _, rfl, h1, by rw [← h2.length]; exact w1, setAll_rel w1 h2 hl re fun σ' l r q => k _ σ' (by rw [hs, l, hl]) l r q w2⟩
    | fl h1 h2 => exact .inr (list _ rfl w)
    | ref a =>
      obtain ⟨xs, e, w⟩ := opt_of (show M.opt (M.lsOf S (.ref a)) (fun xs => xs.length = is.length ∧ Qe (M.setAll is xs ρ)) from w)
      exact .inr (list _ e w)
    | _ => exact False.elim w
/-! ### comprehensions -/
theorem wipe_same {σ σ' : Sl} {vs : List Nat} (hl : σ'.length = σ.length) (h : ∀ i, i ∉ vs → σ'[i]? = σ[i]?) : L2.wipe σ' vs = L2.wipe σ vs := by
  refine List.ext_getElem? fun i => ?_
  by_cases hi : i ∈ vs
  · have hlen : (L2.wipe σ' vs).length = (L2.wipe σ vs).length := by rw [wipe_length, wipe_length, hl]
    cases e1 : (L2.wipe σ' vs)[i]? with
    | none =>
      rw [List.getElem?_eq_none_iff] at e1
      exact (List.getElem?_eq_none_iff.mpr (by omega)).symm
    | some o1 =>
      have hlt := get_lt e1
      cases e2 : (L2.wipe σ vs)[i]? with
      | none => rw [List.getElem?_eq_none_iff] at e2; omega
      | some o2 =>
        cases o1 with
        | some x => exact absurd hi (wipe_some e1).2
        | none => cases o2 with
          | some x => exact absurd hi (wipe_some e2).2
          | none => rfl
  · rw [wipe_out hi, wipe_out hi, h i hi]
/-- a list that is tracked may stand in the store -/
theorem RelS.put {K : Frag} {H : Hp} {S : M.Sto} (r : RelS K H S) {D : Addr} {acc : List V} {ds : List M.D} (h : H D = some (.lst acc)) (hd : RelDs K H ds acc) : RelS K H (M.upd S D (.lst ds)) := fun a o e => by
  by_cases ha : a = D
  · subst ha
    rw [mupd_same] at e
    cases e
    exact ⟨acc, h, hd⟩
  · rw [mupd_ne ha] at e
    exact r a o e
theorem comp_rel {c : Cn} {J : It} {items : List M.D} {chk : M.Sto → Prop} {S1 : M.Sto} {H1 : Hp} {ρ : M.Env} {σ : Sl} {t : M.Tg} {e : M.Ex} {oc : M.Oe} {Qd : M.VK} {Q : VK} (hl : ρ.length = σ.length) (re : RelE c.K H1 ρ σ) (r1 : RelS c.K H1 S1)
    (m : Mat c.K S1 H1 J items chk) (hz : items.length ≤ M.lim) (hq : OkV c.K S1 H1 Qd Q)
    (w : M.compW chk (fun d S2 k => M.asg t d S2 (M.wipe ρ (M.tgs t)) fun ρ2 => M.wpC c.G oc ρ2 S2 (fun b S3 => M.br b (M.wpE c.G e ρ2 S3 (fun x S4 => k (some x) S4) M.X0) (k none S3))) Qd items [] S1) :
    ∀ D, H1 D = none → ∃ Wi : Nat → Nat → Hp → Prop, (∃ m, Wi 0 m (L2.upd H1 D (.lst []))) ∧ ∀ i m H, Wi i m H →
      (J.stop i H ∧ Q (.ref D) H) ∨ (J.go i H ∧ ∃ Nx : Hp → Prop, (∀ H', Nx H' → ∃ m', m' < m ∧ Wi (i + 1) m' H') ∧ ∀ x H', J.yld i H x H' → tgG c.K t x (L2.wipe σ (M.tgs t)) H' fun σ2 H2 => L2.wipe σ2 (M.tgs t) = L2.wipe σ (M.tgs t) ∧ tCn c oc σ2 H2 fun b H3 =>
        if b = true then tE c W0 e σ2 H3 fun y H4 => ∃ acc, H4 D = some (.lst acc) ∧ acc.length < sizeLine ∧ Nx (L2.upd H4 D (.lst (acc ++ [y]))) else Nx H3) := by
  intro D hD
  have hL : M.lim = sizeLine := lim_eq
  generalize hst : (fun (d : M.D) (S2 : M.Sto) (k : Option M.D → M.Sto → Prop) => M.asg t d S2 (M.wipe ρ (M.tgs t)) fun ρ2 => M.wpC c.G oc ρ2 S2 (fun b S3 => M.br b (M.wpE c.G e ρ2 S3 (fun x S4 => k (some x) S4) M.X0) (k none S3))) = step at w
  let Wi : Nat → Nat → Hp → Prop := fun i m H => m = items.length - i ∧ i ≤ items.length ∧ ∃ S ds acc, Fr S1 H1 S H ∧ RelS c.K H S ∧ S D = none ∧ H D = some (.lst acc) ∧ RelDs c.K H ds acc ∧ acc.length ≤ i ∧ M.compW chk step Qd (items.drop i) ds S
  have hS1D : S1 D = none := r1.none hD
  refine ⟨Wi, ⟨_, rfl, Nat.zero_le _, S1, [], [], Fr.laid hD, r1.laid hD, hS1D, upd_same, .nil, Nat.le_refl _, by simpa using w⟩, ?_⟩
  rintro i m' H ⟨rfl, hi, S, ds, acc, f, r, hSD, hHD, rds, hacc, w⟩
  have putFr : ∀ {S' : M.Sto} {H' : Hp} {ds' : List M.D}, Fr S1 H1 S' H' → Fr S1 H1 (M.upd S' D (.lst ds')) H' := fun {S' H' ds'} f' a o h n => by
    obtain ⟨h1, h2⟩ := f' a o h n
    refine ⟨h1, ?_⟩
    have : a ≠ D := fun z => by rw [z, hD] at h; cases h
    rw [mupd_ne this]; exact h2
  by_cases hlt : i < items.length
  · obtain ⟨d, hd⟩ : ∃ d, items[i]? = some d := ⟨items[i], by simp [hlt]⟩
    have ed : items.drop i = d :: items.drop (i + 1) := by
      rw [List.drop_eq_getElem_cons hlt]
      have : items[i] = d := by simpa [hlt] using hd
      rw [this]
    rw [ed] at w
    obtain ⟨hch, w⟩ := (show chk S ∧ step d S (fun r S' => M.compW chk step Qd (items.drop (i + 1)) (ds ++ r.toList) S') from w)
    obtain ⟨hgo, hy⟩ := (m i S H f r hch).1 d hd
    refine .inr ⟨hgo, Wi (i + 1) (items.length - (i + 1)), fun H' q => ⟨items.length - (i + 1), by omega, q⟩, fun x H' y => ?_⟩
    obtain ⟨f2, r2, rx⟩ := hy x H' y
    subst hst
    have f' := f.trans f2
    refine asg_rel r2 (by rw [wipe_len, wipe_length, hl]) ((re.mono r1 f').wipe (M.tgs t)) rx w fun ρ' σ' l1 l2 re' same w => ⟨?_, ?_⟩
    · have h1 : ∀ j, j ∉ M.tgs t → σ'[j]? = σ[j]? := fun j hj => by rw [same j hj, wipe_out hj]
      exact wipe_same (by rw [l2, wipe_length]) h1
    · refine ⟨ρ', S, _, l1, re', r2, w, fun b S3 H3 f3 r3 q => ?_⟩
      have f3' := f'.trans f3
      have hD3 : H3 D = some (.lst acc) ∧ S3 D = none := by
        obtain ⟨a1, a2⟩ := f2 D _ hHD hSD
        exact f3 D _ a1 a2
      have rds3 : RelDs c.K H3 ds acc := (rds.mono r f2).mono r2 f3
      obtain ⟨q1, q2⟩ := q
      cases b with
      | false =>
        show if false = true then _ else _
        rw [if_neg Bool.false_ne_true]
        exact ⟨rfl, hlt, S3, ds, acc, f3', r3, hD3.2, hD3.1, rds3, by omega, by simpa using q2 rfl⟩
      | true =>
        show if true = true then _ else _
        rw [if_pos rfl]
        refine ⟨ρ', S3, _, M.X0, l1, re'.mono r2 f3, r3, q1 rfl, fun dv S4 v H4 f4 r4 rv q => ?_, okX0⟩
        have f4' := f3'.trans f4
        obtain ⟨e4, n4⟩ := f4 D _ hD3.1 hD3.2
        have rds4 := rds3.mono r3 f4
        refine ⟨acc, e4, by omega, rfl, hlt, S4, ds ++ [dv], acc ++ [v], ?_, ?_, n4, upd_same, ?_, by rw [List.length_append]; simp only [List.length_cons, List.length_nil]; omega, by simpa using q⟩
        · intro a o h n
          obtain ⟨h1, h2⟩ := f4' a o h n
          have : a ≠ D := fun z => by rw [z, hD] at h; cases h
          exact ⟨by rw [upd_ne this]; exact h1, h2⟩
        · have rp := r4.put e4 rds4
          have fw : Fr (M.upd S4 D (.lst ds)) H4 (M.upd (M.upd S4 D (.lst ds)) D (.lst (ds ++ [dv]))) (L2.upd H4 D (.lst (acc ++ [v]))) := Fr.wr mupd_same
          intro a o h
          have : a ≠ D := fun z => by rw [z, n4] at h; cases h
          exact (rp.wr mupd_same (rds4.append (.cons rv .nil))) a o (by rw [mupd_ne this, mupd_ne this]; exact h)
        · have rp := r4.put e4 rds4
          have fw : Fr (M.upd S4 D (.lst ds)) H4 (M.upd (M.upd S4 D (.lst ds)) D (.lst (ds ++ [dv]))) (L2.upd H4 D (.lst (acc ++ [v]))) := Fr.wr mupd_same
          exact (rds4.append (.cons rv .nil)).mono rp fw
  · have e : i = items.length := by omega
    subst e
    rw [List.drop_length] at w
    obtain ⟨hch, w⟩ := (show chk S ∧ ∀ p, S p = none → Qd (.ref p) (M.upd S p (.lst ds)) from w)
    exact .inl ⟨(m _ S H f r hch).2 rfl, hq _ _ _ _ (putFr f) (r.put hHD rds) (.ref D) (w D hSD)⟩
end Snd
namespace Snd
open PySem PySem.Spec PyProof.Rows L2
/-! ### pieces over a context -/
section
variable {c : Cn} {k : Nat} {N : List Str} {sc : Scope} {X : Cx} {W : WX}
theorem Ok.op (o : Ok c k N sc X W) {b : M.Bo} {p : Operator} (h : boOk b p = true) : OpR X (binaryOp p) (rB c.K b) := by rw [← o.eK]; exact ob_all h
theorem Ok.co (o : Ok c k N sc X W) {b : M.Co} {p : CmpOp} (h : coOk b p = true) : OpR X (compareOp p) (rCm c.K b) := by rw [← o.eK]; exact oc_all o.room.units h
theorem Ok.ix (o : Ok c k N sc X W) : IxR X (rIxM c.K) := by rw [← o.eK]; exact ix_all
theorem Ok.sl (o : Ok c k N sc X W) : SlR X (rSlM c.K) := by rw [← o.eK]; exact sl_allM
theorem Ok.rep (o : Ok c k N sc X W) : CallR X (.builtin "repr") (rRep c.K) := by rw [← o.eK]; exact bi_rep o.gd o.room.units
theorem Ok.free (o : Ok c k N sc X W) {x : Str} (h : x ∈ c.T.bts) : X.mg x = none := by rw [o.em]; exact o.bt x h
theorem Ok.gl (o : Ok c k N sc X W) {x : Str} (h : glB sc x = true) : Gl X x := gl_of o.es h
theorem Ok.var (o : Ok c k N sc X W) {x : Str} {i : Nat} (h : N[i]? = some x) : X.N[i]? = some x := by rw [o.eN]; exact h
theorem fin {ex : Expr} {t : TE} (h : PE X ex t) (he : ∀ whole, isTrue ex X.env whole = (do let v ← whole; standAt ex.pos; holding [v] (truthy v)) := by intro _; rfl) : PE X ex t ∧ PT X ex (tB t) := ⟨h, pt_val h he⟩
theorem Ok.blk (o : Ok c k N sc X W) (s : Shared) (H : Hp) (scope : Scope) (C : Addr) (cl : List (Str × Addr)) (fp : List Addr) : Ok c k N (relS scope sc) (X.blk s H scope (compEnvC scope cl C X.env) fp) W0 where
  eN := o.eN
  es := by rw [← o.es]; rfl
  eK := o.eK
  em := o.em
  nd := o.nd
  calm := o.calm
  room := o.room
  gd := o.gd
  rp := o.rp
  bt := o.bt
  con := o.con
  fns := o.fns
  tk := fun u s' ⟨a, B, sI, pins, σ, H, cls, d, e, I, nb, up, sky, na, os, ag, w⟩ => False.elim w
theorem pt_ite {c0 a b : Expr} {pos : Pos} {tA tB' tC' : TT} (hc : PT X c0 tA) (ha : PT X a tB') (hb : PT X b tC') : PT X (.IfExp c0 a b pos) (fun σ H Q => tA σ H fun k H1 => if k = true then tB' σ H1 Q else tC' σ H1 Q) := by
  refine ⟨fun pins s σ H Q I h => ?_⟩
  refine isTrue_IfExp (thn (hc.run pins s σ H _ I h) fun d s1 ⟨H1, I1, q1⟩ => ?_)
  cases d with
  | true => exact ha.run pins s1 σ H1 Q I1 q1
  | false => exact hb.run pins s1 σ H1 Q I1 q1
theorem bi_ty {b : M.Bi} : (b = .int ∨ b = .list ∨ b = .tuple ∨ b = .str) ∨ ¬(b = .int ∨ b = .list ∨ b = .tuple ∨ b = .str) := Classical.em _
/-- a built-in's call -/
theorem pe_biM (o : Ok c k N sc X W) {b : M.Bi} {e : Expr} {es : List Expr} {p pos : Pos} {t : TA} (hm : biN b ∈ c.T.bts) (hg : glB sc (biN b) = true) (ha : PA X (e :: es) t) (hp : (e :: es).all plB = true) :
    PE X (.Call (.Name (biN b) p) (e :: es) [] pos) (tCB (rBi c.K b) t) := by
  have hp' := and2 (show (plB e && es.all plB) = true from hp)
  have gl := o.gl hg
  have mn := o.free hm
  have st := plB_star (es := es) (env := X.env) hp'.1
  have an := plB_all (pos := pos) (env := X.env) hp'.2
  rw [← o.eK]
  cases b with
  | len => exact pe_callB bi_len gl mn (by decide +kernel) ha (by decide +kernel) (by decide +kernel) st an
  | abs => exact pe_callB bi_abs gl mn (by decide +kernel) ha (by decide +kernel) (by decide +kernel) st an
  | int => exact pe_callTy bi_int gl mn (by decide +kernel) ha (by decide +kernel) (by decide +kernel) st an
  | min => exact pe_callB (bi_min o.calm) gl mn (by decide +kernel) ha (by decide +kernel) (by decide +kernel) st an
  | max => exact pe_callB (bi_max o.calm) gl mn (by decide +kernel) ha (by decide +kernel) (by decide +kernel) st an
  | all => exact pe_callB (bi_all o.calm) gl mn (by decide +kernel) ha (by decide +kernel) (by decide +kernel) st an
  | any => exact pe_callB (bi_any o.calm) gl mn (by decide +kernel) ha (by decide +kernel) (by decide +kernel) st an
  | sum => exact pe_callB (bi_sum o.calm) gl mn (by decide +kernel) ha (by decide +kernel) (by decide +kernel) st an
  | list => exact pe_callTy bi_list gl mn (by decide +kernel) ha (by decide +kernel) (by decide +kernel) st an
  | tuple => exact pe_callTy bi_tuple gl mn (by decide +kernel) ha (by decide +kernel) (by decide +kernel) st an
  | str => exact pe_callTy bi_str gl mn (by decide +kernel) ha (by decide +kernel) (by decide +kernel) st an
  | sorted => exact pe_callB bi_sorted gl mn (by decide +kernel) ha (by decide +kernel) (by decide +kernel) st an
theorem few_of {es : List Expr} {cpos : Pos} {env : Env} (h : es.all plB = true) (h2 : es.length < 29) : ((backTo cpos (starEach es env)).all (fun x => !x.1) && (backToKw cpos (keywordEach [] env)).all (fun x => x.1.isSome)
      && decide (es.length + ([] : List Keyword).length + (if ([] : List Keyword).isEmpty then 0 else 1) < 30)) = true := by
  rw [plB_few h]
  show (true && true && decide _) = true
  have : decide (es.length + ([] : List Keyword).length + (if ([] : List Keyword).isEmpty then 0 else 1) < 30) = true := by
    refine decide_eq_true ?_
    show es.length + 0 + 0 < 30
    omega
  rw [this]
  rfl
theorem pe_mt0 (o : Ok c k N sc X W) {m : M.Mt} {a : Expr} {apos cpos : Pos} {ta : TE} (hm : mtOk m = true) (hl : (apos.endLine == cpos.line) = true) (hb : bareB a = true) (ho : PE X a ta) :
    PE X (.Call (.Attribute a (mtN m) apos) [] [] cpos) (tBM0 c.K "list" (rMt c.K m) ta) := by
  rw [← o.eK]
  cases m with
  | append => exact pe_bm0 PySem.F.plainAttrs_list PySem.F.slot_list_append PySem.F.type_list_append mt_appendM ho (bare_of hb) hl
  | extend => exact pe_bm0 PySem.F.plainAttrs_list PySem.F.slot_list_extend PySem.F.type_list_extend mt_extendM ho (bare_of hb) hl
  | pop => exact pe_bm0 PySem.F.plainAttrs_list PySem.F.slot_list_pop PySem.F.type_list_pop mt_popM ho (bare_of hb) hl
  | _ => cases hm
theorem pe_mtM (o : Ok c k N sc X W) {m : M.Mt} {a e : Expr} {es : List Expr} {apos cpos : Pos} {ta : TE} {t : TA} (hm : mtOk m = true) (hl : (apos.endLine == cpos.line) = true) (hb : bareB a = true) (ho : PE X a ta) (ha : PA X (e :: es) t) (hp : (e :: es).all plB = true) (hn : (e :: es).length < 29) :
    PE X (.Call (.Attribute a (mtN m) apos) (e :: es) [] cpos) (tBM c.K "list" (rMt c.K m) ta t) := by
  rw [← o.eK]
  have hp' := and2 (show (plB e && es.all plB) = true from hp)
  have st := plB_star (es := es) (env := X.env) hp'.1
  have an := plB_all (pos := cpos) (env := X.env) hp'.2
  have fw := few_of (cpos := cpos) (env := X.env) hp hn
  cases m with
  | append => exact pe_bm PySem.F.plainAttrs_list PySem.F.slot_list_append PySem.F.type_list_append mt_appendM ho ha (bare_of hb) fw hl st an
  | extend => exact pe_bm PySem.F.plainAttrs_list PySem.F.slot_list_extend PySem.F.type_list_extend mt_extendM ho ha (bare_of hb) fw hl st an
  | pop => exact pe_bm PySem.F.plainAttrs_list PySem.F.slot_list_pop PySem.F.type_list_pop mt_popM ho ha (bare_of hb) fw hl st an
  | _ => cases hm
/-! ### calls of the text's defs -/
theorem pass_ok (o : Ok c k N sc X W) (σ : Sl) : PassesAt (L2.CX X.prog X.w) X σ (WE W σ) := passAt o.tk σ
theorem pe_callM (o : Ok c k N sc X W) {n : Nat} {x : Str} {es : List Expr} {p pos : Pos} {t : TA} (hx : c.T.fns[n]? = some x) (hg : glB sc x = true) (hd : (x == ("__debug__" : Str)) = false) (ha : PA X es t) (hp : es.all plB = true) (h0 : es = [] → ∀ σ H Q, t σ H Q → Q [] H) :
    PE X (.Call (.Name x p) es [] pos) (fun σ H Q => t σ H fun vs H1 => lift c (M.cl (c.G.fn n)) vs H1 Q (WE W σ)) := by
  obtain ⟨f, fd, ps, D, F⟩ := o.fns n x hx
  rw [← o.eK, ← o.em] at D F
  have go : ∀ {pins : List (Addr × Obj)} {s : Shared} {σ : Sl} {H : Hp} {Q : VK} {us : List Value} {vs : List V}, Inv X pins σ H s → Vals vs us → lift c (M.cl (c.G.fn n)) vs H Q (WE W σ) → wpAny (model X.prog X.w) X.A (call (.ref f) us) (EP X pins σ Q) X.xe s := by
    intro pins s σ H Q us vs I r q
    have hl : us.length = ps.length := by rw [← r.length]; exact F.len _ _ _ _ q
    have b := D.bd s us I.kIn (by rw [List.append_nil]; exact hl)
    rw [List.append_nil] at b
    exact run_fnG (args := ⟨us, []⟩) (E := WE W) F o.room o.gd b (pass_ok o σ) I r q
  refine ⟨fun pins s σ H Q I h => ?_⟩
  refine wpAny_Call_Name_kw (ld_glob I (o.gl hg) D.mg ?_ hd)
  cases es with
  | nil =>
    refine PySem.W.callWith_K0 I.kIn D.kp ?_
    exact go I .nil (h0 rfl _ _ _ h)
  | cons e es =>
    have hp' := and2 (show (plB e && es.all plB) = true from hp)
    exact PySem.W.callWith_K (h₀ := X.base) I.ok.mod.kin D.kp (thn (ha.run pos pins s σ H _ I h) fun us s1 ⟨vs, H1, I1, r, q⟩ => ⟨I1.kIn, go I1 r q⟩) (plB_star hp'.1) (plB_all hp'.2)
/-- f(e, .., k = v, ..) -/
theorem kws_len : ∀ {kws : List Keyword} {nms : List Str}, kwsB kws = some nms → ∀ (pos : Pos) (env : Env), (backToKw pos (keywordEach kws env)).all (·.1.isSome) = true ∧ (backToKw pos (keywordEach kws env)).filterMap (·.1) = nms ∧ (backToKw pos (keywordEach kws env)).any (·.1.isNone) = false ∧ nms.length = kws.length
  | [], nms, h, _, _ => by
    cases h
    exact ⟨rfl, rfl, rfl, rfl⟩
  | ⟨none, _, _⟩ :: _, _, h, _, _ => nomatch h
  | ⟨some x, v, p⟩ :: r, nms, h, pos, env => by
    obtain ⟨l, e, rfl⟩ := Option.map_eq_some_iff.mp (show (kwsB r).map (x :: ·) = some nms from h)
    obtain ⟨a1, a2, a3, a4⟩ := kws_len e pos env
    refine ⟨?_, ?_, ?_, ?_⟩
    · show (true && (backToKw pos (keywordEach r env)).all (·.1.isSome)) = true
      rw [a1]; rfl
    · show x :: (backToKw pos (keywordEach r env)).filterMap (·.1) = x :: l
      rw [a2]
    · show (false || (backToKw pos (keywordEach r env)).any (·.1.isNone)) = false
      rw [a3]; rfl
    · rw [List.length_cons, List.length_cons, a4]
theorem vals_fm {us : List Value} {vs : List V} (r : Vals vs us) : ∀ perm : List Nat, Vals (perm.filterMap fun i => vs[i]?) (perm.filterMap fun i => us[i]?)
  | [] => .nil
  | i :: perm => by
    cases e : vs[i]? with
    | none =>
      rw [List.filterMap_cons_none e, List.filterMap_cons_none (r.none_of e)]
      exact vals_fm r perm
    | some v =>
      obtain ⟨u, e2, ru⟩ := r.get e
      rw [List.filterMap_cons_some e, List.filterMap_cons_some e2]
      exact .cons ru (vals_fm r perm)
theorem rels_fm {K : Frag} {H : Hp} {ds : List M.D} {vs : List V} (r : RelDs K H ds vs) : ∀ perm : List Nat, RelDs K H (perm.filterMap fun i => ds[i]?) (perm.filterMap fun i => vs[i]?)
  | [] => .nil
  | i :: perm => by
    cases e : ds[i]? with
    | none =>
      have e2 : vs[i]? = none := by rw [List.getElem?_eq_none_iff] at e ⊢; rw [← r.length]; exact e
      rw [List.filterMap_cons_none e, List.filterMap_cons_none e2]
      exact rels_fm r perm
    | some v =>
      obtain ⟨u, e2, ru⟩ := r.get e
      rw [List.filterMap_cons_some e, List.filterMap_cons_some e2]
      exact .cons ru (rels_fm r perm)
theorem pe_callkM (o : Ok c k N sc X W) {n m : Nat} {perm : List Nat} {nms : List Str} {x : Str} {es : List Expr} {kws : List Keyword} {p pos : Pos} {t tk : TA} (hx : c.T.fns[n]? = some x) (hg : glB sc x = true) (hd : (x == ("__debug__" : Str)) = false) (ha : PA X es t) (hp : es.all plB = true) (h0 : es = [] → ∀ σ H Q, t σ H Q → Q [] H)
    (hk : PK X kws tk) (hn : kwsB kws = some nms) (hm : (n, m, nms, perm) ∈ c.T.kws) :
    PE X (.Call (.Name x p) es kws pos) (fun σ H Q => t σ H fun vs H1 => tk σ H1 fun zs H2 => vs.length = m ∧ zs.length = nms.length ∧ lift c (M.cl (c.G.fn n)) (perm.filterMap fun i => (vs ++ zs)[i]?) H2 Q (WE W σ)) := by
  obtain ⟨f, fd, ps, D, F⟩ := o.fns n x hx
  rw [← o.eK, ← o.em] at D F
  obtain ⟨k1, k2, k3, k4⟩ := kws_len hn pos X.env
  have go : ∀ {pins : List (Addr × Obj)} {s : Shared} {σ : Sl} {H : Hp} {Q : VK} {us ws : List Value} {vs zs : List V}, Inv X pins σ H s → Vals vs us → Vals zs ws → vs.length = m → zs.length = nms.length → lift c (M.cl (c.G.fn n)) (perm.filterMap fun i => (vs ++ zs)[i]?) H Q (WE W σ) →
      wpAny (model X.prog X.w) X.A (call (.ref f) us (nms.zip ws)) (EP X pins σ Q) X.xe s := by
    intro pins s σ H Q us ws vs zs I r rz l1 l2 q
    exact run_fnG (args := ⟨us, nms.zip ws⟩) (E := WE W) F o.room o.gd (D.kb m nms perm hm s us ws I.kIn (by rw [← r.length]; exact l1) (by rw [← rz.length]; exact l2)) (pass_ok o σ) I (vals_fm (r.append rz) perm) q
  refine ⟨fun pins s σ H Q I h => ?_⟩
  refine wpAny_Call_Name_kw (ld_glob I (o.gl hg) D.mg ?_ hd)
  cases es with
  | nil =>
    refine PySem.W.callWith_KW0 (h₀ := X.base) I.ok.mod.kin D.kp k1 (thn (hk.run pos pins s σ H _ I (h0 rfl _ _ _ h)) fun ws s2 ⟨zs, H2, I2, rz, q2⟩ => ⟨I2.kIn, ?_⟩) (by show (false || _) = false; rw [k3]; rfl)
    rw [k2]
    exact go I2 .nil rz q2.1 q2.2.1 q2.2.2
  | cons e es =>
    have hp' := and2 (show (plB e && es.all plB) = true from hp)
    refine PySem.W.callWith_KW (h₀ := X.base) I.ok.mod.kin D.kp k1 (thn (ha.run pos pins s σ H _ I h) fun us s1 ⟨vs, H1, I1, r, q⟩ => ?_) (by rw [plB_all hp, k3]; rfl) (plB_star hp'.1)
    refine thn (hk.run pos pins s1 σ H1 _ I1 q) fun ws s2 ⟨zs, H2, I2, rz, q2⟩ => ⟨I2.kIn, ?_⟩
    rw [k2]
    exact go I2 r rz q2.1 q2.2.1 q2.2.2
/-- a built-in type by its name -/
theorem cls_name (o : Ok c k N sc X W) {t : M.Ty} {z : Str} (h : clsB c.T sc t z = true) : z = tyS t ∧ ∀ p, PE X (.Name z p) (tC (.ty (tyN t))) := by
  unfold clsB at h
  obtain ⟨h, h4⟩ := and2 h
  obtain ⟨h, h3⟩ := and2 h
  obtain ⟨h1, h2⟩ := and2 h
  have e := of_decide_eq_true h1
  subst e
  exact ⟨rfl, fun p => pe_bltn (o.gl h3) (o.free (of_decide_eq_true h2)) (tyB t) rfl (by cases t <;> decide +kernel) (dbg_of h4).1⟩
end
end Snd
namespace Snd
open PySem PySem.Spec PyProof.Rows L2
section
variable {c : Cn} {k : Nat} {N : List Str}
theorem zip_cases {x y : M.D} {S : M.Sto} {R : M.IK} (w : M.zipD x y S R) : (∃ xs ys, x = .tup xs ∧ y = .tup ys ∧ R (M.zipP xs ys) (fun _ => True) S) ∨
    (∃ a ys, x = .str a ∧ y = .tup ys ∧ R (M.zipP (a.map fun c => .str [c]) ys) (fun _ => True) S) ∨
    M.opt (M.lsOf S x) fun xs => M.opt (M.lsOf S y) fun ys => R (M.zipP xs ys) (fun S' => M.lsOf S' x = some xs ∧ M.lsOf S' y = some ys) S := by
  cases x <;> cases y <;> first | exact .inl ⟨_, _, rfl, rfl, w⟩ | exact .inr (.inl ⟨_, _, rfl, rfl, w⟩) | exact .inr (.inr w)
theorem tupB_of {tg : Expr} (h : isTupB tg = true) : ∃ es k p, tg = .Tuple es k p := by
  cases tg <;> first | exact ⟨_, _, _, rfl⟩ | cases h
theorem own_map {N : List Str} {is : List Nat} : ((ownOf N is).map (·.2)) = is → (ownOf N is).map (·.2) = is := id
mutual
theorem peOk : ∀ (e : M.Ex) {sc : Scope} {ex : Expr} {X : Cx} {W : WX}, chkE c.T N e sc ex = true → Ok c k N sc X W → PE X ex (tE c W e) ∧ PT X ex (tB (tE c W e))
  | .v i, sc, ex, X, W, h, o => by
    obtain ⟨x, p, rfl, hi, hv, hd, hcd⟩ := name_of (show nameAt N (visB sc) i ex = true from h)
    refine fin (PE.imp (pe_var (o.var hi) (by rw [o.es]; exact vis_of hv) hd hcd) fun σ H Q ⟨ρ, S, Qd, Xd, hl, re, r, w, hq, hx⟩ => ?_)
    obtain ⟨d, e, w⟩ := opt_of (show M.opt (M.look ρ i) (fun d => Qd d S) from w)
    have e2 : ρ[i]? = some (some d) := by
      unfold M.look M.joinO at e
      split at e
      · rename_i a heq; cases e; exact heq
      · cases e
    obtain ⟨v, e3, rd⟩ := re i d e2
    exact ⟨v, e3, hq.same r rd w⟩
  | .k kc, sc, ex, X, W, h, o => by
    have h : (match (generalizing := false) ex with | .Constant d _ _ => kOk kc d | _ => false) = true := h
    split at h
    · rename_i d j p hh
      cases kc with
      | non => cases d with
        | none => exact fin (PE.imp pe_non fun σ H Q ⟨ρ, S, Qd, Xd, hl, re, r, w, hq, hx⟩ => hq.same r .non w)
        | _ => cases h
      | bl b => cases d with
        | bool b' =>
          have e : b = b' := by simpa [kOk] using h
          subst e
          exact fin (PE.imp pe_bl fun σ H Q ⟨ρ, S, Qd, Xd, hl, re, r, w, hq, hx⟩ => hq.same r (.bl b) w)
        | _ => cases h
      | int i => cases d with
        | int i' =>
          have e : i = i' := of_decide_eq_true h
          subst e
          exact fin (PE.imp pe_int fun σ H Q ⟨ρ, S, Qd, Xd, hl, re, r, w, hq, hx⟩ => hq.same r (.int i) w)
        | _ => cases h
      | str y => cases d with
        | str y' =>
          have e : stx y = y' := of_decide_eq_true h
          subst e
          exact fin (PE.imp pe_str fun σ H Q ⟨ρ, S, Qd, Xd, hl, re, r, w, hq, hx⟩ => hq.same r (.str y) w)
        | _ => cases h
    · cases h
  | .g n, sc, ex, X, W, h, o => by
    have h : (match (generalizing := false) ex with | .Name x _ => decide (c.T.cons[n]? = some x) && glB sc x && !dbgB x | _ => false) = true := h
    split at h
    · rename_i x p hh
      obtain ⟨h, h3⟩ := and2 h
      obtain ⟨h1, h2⟩ := and2 h
      obtain ⟨u, v, e1, e2, e3⟩ := o.con n x (of_decide_eq_true h1)
      exact fin (PE.imp (pe_glob (o.gl h2) (by rw [o.em]; exact e1) e2 (dbg_of h3).1) fun σ H Q ⟨ρ, S, Qd, Xd, hl, re, r, w, hq, hx⟩ => hq.same r (e3 H) w)
    · cases h
  | .bin b x y, sc, ex, X, W, h, o => by
    have h : (match (generalizing := false) ex with | .BinOp a' p b' _ => boOk b p && chkE c.T N x sc a' && chkE c.T N y sc b' | _ => false) = true := h
    split at h
    · obtain ⟨h, h3⟩ := and2 h
      obtain ⟨h1, h2⟩ := and2 h
      exact fin (PE.imp (pe_op (o.op h1) (peOk x h2 o).1 (peOk y h3 o).1) fun σ H Q ⟨ρ, S, Qd, Xd, hl, re, r, w, hq, hx⟩ =>
        two_rel hl re r w hx fun x y S2 v u H2 f r2 rx ry q => ⟨x, y, S2, Qd, r2, rx, ry, q, hq.after f⟩)
    · cases h
  | .neg a, sc, ex, X, W, h, o => by
    have h : (match (generalizing := false) ex with | .UnaryOp .USub a' _ => chkE c.T N a sc a' | _ => false) = true := h
    split at h
    · exact fin (PE.imp (pe_un un_neg (peOk a h o).1) fun σ H Q ⟨ρ, S, Qd, Xd, hl, re, r, w, hq, hx⟩ =>
        one_rel hl re r w hx fun x S2 v H2 f r2 rx q => by
          obtain ⟨i, rfl, q⟩ := onI_of q
          cases rx
          exact ⟨i, rfl, (hq.after f).same r2 (.int _) q⟩)
    · cases h
  | .not a, sc, ex, X, W, h, o => by
    have h : (match (generalizing := false) ex with | .UnaryOp .Not a' _ => chkE c.T N a sc a' | _ => false) = true := h
    split at h
    · obtain ⟨p1, p2⟩ := peOk a h o
      have rd : ∀ {σ : Sl} {H : Hp} {Q : VK}, tE c W (.not a) σ H Q → tE c W a σ H fun v H1 => ∃ b, v = .bl b ∧ Q (.bl (!b)) H1 := fun {σ H Q} ⟨ρ, S, Qd, Xd, hl, re, r, w, hq, hx⟩ =>
        one_rel hl re r w hx fun x S2 v H2 f r2 rx q => by
          obtain ⟨i, rfl, q⟩ := onB_of q
          cases rx
          exact ⟨i, rfl, (hq.after f).same r2 (.bl _) q⟩
      refine ⟨PE.imp (pe_not p1) fun σ H Q h => rd h, PT.imp (pt_not p2) fun σ H Q h => ?_⟩
      have q := rd h
      obtain ⟨ρ, S, Qd, Xd, hl, re, r, w, hq, hx⟩ := q
      refine ⟨ρ, S, Qd, Xd, hl, re, r, w, fun d S' v H' f r' rd' q => ?_, hx⟩
      obtain ⟨b, e, b', e', q⟩ := hq d S' v H' f r' rd' q
      cases e'
      exact ⟨b, e, q⟩
    · cases h
  | .cmp b x y, sc, ex, X, W, h, o => by
    have h : (match (generalizing := false) ex with | .Compare a' [p] [b'] _ => coOk b p && chkE c.T N x sc a' && chkE c.T N y sc b' && !behindInMarks p b' | _ => false) = true := h
    split at h
    · obtain ⟨h, h4⟩ := and2 h
      obtain ⟨h, h3⟩ := and2 h
      obtain ⟨h1, h2⟩ := and2 h
      have rd : ∀ {σ : Sl} {H : Hp} {Q : VK}, tE c W (.cmp b x y) σ H Q → tOp (rCm c.K b) (tE c W x) (tE c W y) σ H Q := fun {σ H Q} ⟨ρ, S, Qd, Xd, hl, re, r, w, hq, hx⟩ =>
        two_rel hl re r w hx fun x y S2 v u H2 f r2 rx ry q => ⟨x, y, S2, _, r2, rx, ry, q, fun k q => (hq.after f).same r2 (.bl k) q⟩
      exact ⟨PE.imp (pe_cmpR (o.co h1) (peOk x h2 o).1 (peOk y h3 o).1 (not1 h4)) fun σ H Q h => rd h, PT.imp (pt_cmpR (o.co h1) (peOk x h2 o).1 (peOk y h3 o).1 (not1 h4)) fun σ H Q h => rd h⟩
    · cases h
  | .chain b d x y z, sc, ex, X, W, h, o => by
    have h : (match (generalizing := false) ex with | .Compare a' [o', p'] [b', c'] _ => coOk b o' && coOk d p' && chkE c.T N x sc a' && chkE c.T N y sc b' && chkE c.T N z sc c' && !lastMarks [o', p'] [b', c'] | _ => false) = true := h
    split at h
    · obtain ⟨h, h6⟩ := and2 h
      obtain ⟨h, h5⟩ := and2 h
      obtain ⟨h, h4⟩ := and2 h
      obtain ⟨h, h3⟩ := and2 h
      obtain ⟨h1, h2⟩ := and2 h
      have rd : ∀ {σ : Sl} {H : Hp} {Q : VK}, tE c W (.chain b d x y z) σ H Q → tChain (rCm c.K b) (rCm c.K d) (tE c W x) (tE c W y) (tE c W z) σ H Q := fun {σ H Q} ⟨ρ, S, Qd, Xd, hl, re, r, w, hq, hx⟩ => by
        refine ⟨ρ, S, _, Xd, hl, re, r, w, fun dx S1 v H1 f1 r1 rx q1 => ⟨ρ, S1, _, Xd, hl, re.mono r f1, r1, q1, fun dy S2 u H2 f2 r2 ry q2 => ?_, hx.after f1⟩, hx⟩
        refine ⟨dx, dy, S2, _, r2, rx.mono r1 f2, ry, q2, fun kb q3 => ⟨kb, rfl, ?_⟩⟩
        obtain ⟨qt, qf⟩ := q3
        cases kb with
        | true =>
          show if true = true then _ else _
          rw [if_pos rfl]
          refine ⟨ρ, S2, _, Xd, hl, re.mono r (f1.trans f2), r2, qt rfl, fun dz S3 w' H3 f3 r3 rz q3 => ?_, hx.after (f1.trans f2)⟩
          exact ⟨dy, dz, S3, _, r3, ry.mono r2 f3, rz, q3, fun kb q4 => (hq.after ((f1.trans f2).trans f3)).same r3 (.bl kb) q4⟩
        | false =>
          show if false = true then _ else _
          rw [if_neg Bool.false_ne_true]
          exact (hq.after (f1.trans f2)).same r2 (.bl false) (qf rfl)
      exact ⟨PE.imp (pe_chain (o.co h1) (o.co h2) (peOk x h3 o).1 (peOk y h4 o).1 (peOk z h5 o).1 (not1 h6)) fun σ H Q h => rd h, PT.imp (pt_chain (o.co h1) (o.co h2) (peOk x h3 o).1 (peOk y h4 o).1 (peOk z h5 o).1 (not1 h6)) fun σ H Q h => rd h⟩
    · cases h
  | .and a r, sc, ex, X, W, h, o => by
    have h : (match (generalizing := false) ex with | .BoolOp .And (a' :: b' :: r') _ => chkE c.T N a sc a' && chkR c.T N r sc (b' :: r') | _ => false) = true := h
    split at h
    · obtain ⟨h1, h2⟩ := and2 h
      have rd : ∀ {σ : Sl} {H : Hp} {Q : VK}, tE c W (.and a r) σ H Q → tE c W a σ H fun v H1 => ∃ b, v = .bl b ∧ if b = true then tR c W M.wpAnd r σ H1 Q else Q (.bl false) H1 := fun {σ H Q} ⟨ρ, S, Qd, Xd, hl, re, rr, w, hq, hx⟩ =>
        one_rel hl re rr w hx fun x S2 v H2 f r2 rx q => by
          obtain ⟨b, rfl, qt, qf⟩ := onB_of q
          cases rx
          refine ⟨b, rfl, ?_⟩
          cases b with
          | true => rw [if_pos rfl]; exact ⟨ρ, S2, Qd, Xd, hl, re.mono rr f, r2, qt rfl, hq.after f, hx.after f⟩
          | false => rw [if_neg Bool.false_ne_true]; exact (hq.after f).same r2 (.bl false) (qf rfl)
      obtain ⟨⟨g1, g2⟩, _⟩ := prOk r h2 (by simp) o _
      refine ⟨PE.imp (pe_and (peOk a h1 o).1 g1) fun σ H Q h => rd h, PT.imp (pw_and (peOk a h1 o).2 g2).pt fun σ H Q h => ?_⟩
      obtain ⟨ρ, S, Qd, Xd, hl, re, rr, w, hq, hx⟩ := rd h
      refine ⟨ρ, S, Qd, Xd, hl, re, rr, w, fun d S' v H' f r' rd' q => ?_, hx⟩
      obtain ⟨b, e, q⟩ := hq d S' v H' f r' rd' q
      refine ⟨b, e, ?_⟩
      cases b with
      | true => exact q
      | false =>
        obtain ⟨b', e', q⟩ := q
        cases e'
        exact q
    · cases h
  | .or a r, sc, ex, X, W, h, o => by
    have h : (match (generalizing := false) ex with | .BoolOp .Or (a' :: b' :: r') _ => chkE c.T N a sc a' && chkR c.T N r sc (b' :: r') | _ => false) = true := h
    split at h
    · obtain ⟨h1, h2⟩ := and2 h
      have rd : ∀ {σ : Sl} {H : Hp} {Q : VK}, tE c W (.or a r) σ H Q → tE c W a σ H fun v H1 => ∃ b, v = .bl b ∧ if b = true then Q (.bl true) H1 else tR c W M.wpOr r σ H1 Q := fun {σ H Q} ⟨ρ, S, Qd, Xd, hl, re, rr, w, hq, hx⟩ =>
        one_rel hl re rr w hx fun x S2 v H2 f r2 rx q => by
          obtain ⟨b, rfl, qt, qf⟩ := onB_of q
          cases rx
          refine ⟨b, rfl, ?_⟩
          cases b with
          | false => rw [if_neg Bool.false_ne_true]; exact ⟨ρ, S2, Qd, Xd, hl, re.mono rr f, r2, qf rfl, hq.after f, hx.after f⟩
          | true => rw [if_pos rfl]; exact (hq.after f).same r2 (.bl true) (qt rfl)
      obtain ⟨_, g1, g2⟩ := prOk r h2 (by simp) o _
      refine ⟨PE.imp (pe_or (peOk a h1 o).1 g1) fun σ H Q h => rd h, PT.imp (pw_or (peOk a h1 o).2 g2).pt fun σ H Q h => ?_⟩
      obtain ⟨ρ, S, Qd, Xd, hl, re, rr, w, hq, hx⟩ := rd h
      refine ⟨ρ, S, Qd, Xd, hl, re, rr, w, fun d S' v H' f r' rd' q => ?_, hx⟩
      obtain ⟨b, e, q⟩ := hq d S' v H' f r' rd' q
      refine ⟨b, e, ?_⟩
      cases b with
      | false => exact q
      | true =>
        obtain ⟨b', e', q⟩ := q
        cases e'
        exact q
    · cases h
  | .ite g a b, sc, ex, X, W, h, o => by
    have h : (match (generalizing := false) ex with | .IfExp c' a' b' _ => chkE c.T N g sc c' && chkE c.T N a sc a' && chkE c.T N b sc b' | _ => false) = true := h
    split at h
    · obtain ⟨h, h3⟩ := and2 h
      obtain ⟨h1, h2⟩ := and2 h
      have rd : ∀ {σ : Sl} {H : Hp} {Q : VK}, tE c W (.ite g a b) σ H Q → tB (tE c W g) σ H fun k H1 => if k = true then tE c W a σ H1 Q else tE c W b σ H1 Q := fun {σ H Q} ⟨ρ, S, Qd, Xd, hl, re, rr, w, hq, hx⟩ =>
        one_rel hl re rr w hx fun x S2 v H2 f r2 rx q => by
          obtain ⟨b, rfl, qt, qf⟩ := onB_of q
          cases rx
          refine ⟨b, rfl, ?_⟩
          cases b with
          | false => rw [if_neg Bool.false_ne_true]; exact ⟨ρ, S2, Qd, Xd, hl, re.mono rr f, r2, qf rfl, hq.after f, hx.after f⟩
          | true => rw [if_pos rfl]; exact ⟨ρ, S2, Qd, Xd, hl, re.mono rr f, r2, qt rfl, hq.after f, hx.after f⟩
      exact ⟨PE.imp (pe_ifExp (peOk g h1 o).2 (peOk a h2 o).1 (peOk b h3 o).1) fun σ H Q h => rd h, PT.imp (pt_ite (peOk g h1 o).2 (peOk a h2 o).2 (peOk b h3 o).2) fun σ H Q h => rd h⟩
    · cases h
  | .tup es, sc, ex, X, W, h, o => by
    have h : (match (generalizing := false) ex with | .Tuple es' _ _ => chkEs c.T N es sc es' | _ => false) = true := h
    split at h
    · exact fin (PE.imp (pe_tup (paOk es h o)) fun σ H Q ⟨ρ, S, Qd, Xd, hl, re, r, w, hq, hx⟩ =>
        ones_rel hl re r w hx fun x S2 v H2 f r2 rx q => ⟨by rw [← rx.length, ← lim_eq]; exact q.1, (hq.after f).newT r2 rx q.2⟩)
    · cases h
  | .lst es, sc, ex, X, W, h, o => by
    have h : (match (generalizing := false) ex with | .List es' _ => chkEs c.T N es sc es' | _ => false) = true := h
    split at h
    · exact fin (PE.imp (pe_lst (paOk es h o)) fun σ H Q ⟨ρ, S, Qd, Xd, hl, re, r, w, hq, hx⟩ =>
        ones_rel hl re r w hx fun x S2 v H2 f r2 rx q => ⟨by rw [← rx.length, ← lim_eq]; exact q.1, (hq.after f).newL r2 rx q.2⟩)
    · cases h
  | .ix a i, sc, ex, X, W, h, o => by
    have h : (match (generalizing := false) ex with | .Subscript a' i' _ => plB i' && chkE c.T N a sc a' && chkE c.T N i sc i' | _ => false) = true := h
    split at h
    · obtain ⟨h, h3⟩ := and2 h
      obtain ⟨h1, h2⟩ := and2 h
      exact fin (PE.imp (pe_ix o.ix (peOk a h2 o).1 (peOk i h3 o).1 (plB_ix h1)) fun σ H Q ⟨ρ, S, Qd, Xd, hl, re, r, w, hq, hx⟩ =>
        two_rel hl re r w hx fun x y S2 v u H2 f r2 rx ry q => ⟨x, y, S2, Qd, r2, rx, ry, q, hq.after f⟩)
    · cases h
  | .sl a lo hi, sc, ex, X, W, h, o => by
    have h : (match (generalizing := false) ex with | .Subscript a' (.Slice lo' hi' none _) _ => chkE c.T N a sc a' && chkO c.T N lo sc lo' && chkO c.T N hi sc hi' | _ => false) = true := h
    split at h
    · obtain ⟨h, h3⟩ := and2 h
      obtain ⟨h1, h2⟩ := and2 h
      exact fin (PE.imp (pe_slice o.sl (peOk a h1 o).1 (poOk lo h2 o).1 (poOk hi h3 o).1) fun σ H Q ⟨ρ, S, Qd, Xd, hl, re, r, w, hq, hx⟩ =>
        one_rel hl re r w hx fun x S2 v H2 f r2 rx q => ⟨ρ, S2, _, Xd, hl, re.mono r f, r2, q, fun l S3 H3 f3 r3 q3 => ⟨ρ, S3, _, Xd, hl, re.mono r (f.trans f3), r3, q3, fun u S4 H4 f4 r4 q4 =>
          ⟨x, S4, Qd, r4, (rx.mono r2 f3).mono r3 f4, q4, hq.after ((f.trans f3).trans f4)⟩, hx.after (f.trans f3)⟩, hx.after f⟩)
    · cases h
  | .rev a, sc, ex, X, W, h, o => by
    have h : (match (generalizing := false) ex with | .Subscript a' (.Slice none none (some (.UnaryOp .USub (.Constant (.int i) _ _) _)) _) _ => decide (i = 1) && chkE c.T N a sc a' | _ => false) = true := h
    split at h
    · obtain ⟨h1, h2⟩ := and2 h
      have e := of_decide_eq_true h1
      subst e
      have eK := o.eK
      exact fin (PE.imp (pe_revM (peOk a h2 o).1) fun σ H Q ⟨ρ, S, Qd, Xd, hl, re, r, w, hq, hx⟩ =>
        one_rel hl re r w hx fun x S2 v H2 f r2 rx q => by rw [eK]; exact ⟨x, S2, Qd, r2, rx, q, hq.after f⟩)
    · cases h
  | .call n es, sc, ex, X, W, h, o => by
    have h : (match (generalizing := false) ex with | .Call (.Name x _) es' [] _ => decide (c.T.fns[n]? = some x) && glB sc x && !dbgB x && es'.all plB && chkEs c.T N es sc es' | _ => false) = true := h
    split at h
    · obtain ⟨h, h5⟩ := and2 h
      obtain ⟨h, h4⟩ := and2 h
      obtain ⟨h, h3⟩ := and2 h
      obtain ⟨h1, h2⟩ := and2 h
      exact fin (PE.imp (pe_callM o (of_decide_eq_true h1) h2 (dbg_of h3).1 (paOk es h5 o) h4 (fun e => pnOk es h5 e)) fun σ H Q ⟨ρ, S, Qd, Xd, hl, re, r, w, hq, hx⟩ =>
        ones_rel hl re r w hx fun x S2 v H2 f r2 rx q => ⟨x, S2, Qd, Xd, rx, r2, q, hq.after f, hx.after f⟩)
    · cases h
  | .callk n es ks perm, sc, ex, X, W, h, o => by
    have h : (match (generalizing := false) ex with
      | .Call (.Name x _) es' kw _ => decide (c.T.fns[n]? = some x) && glB sc x && !dbgB x && es'.all plB && chkEs c.T N es sc es' && (match kwsB kw with
        | some nms => decide ((n, M.esLen es, nms, perm) ∈ c.T.kws) && decide (nms.length = M.esLen ks) && (kw.map (·.value)).all plB && chkEs c.T N ks sc (kw.map (·.value))
        | none => false)
      | _ => false) = true := h
    split at h
    · rename_i x p es' kw pos hh
      obtain ⟨h, h6⟩ := and2 h
      obtain ⟨h, h5⟩ := and2 h
      obtain ⟨h, h4⟩ := and2 h
      obtain ⟨h, h3⟩ := and2 h
      obtain ⟨h1, h2⟩ := and2 h
      split at h6
      · rename_i nms hn
        obtain ⟨h6, h9⟩ := and2 h6
        obtain ⟨h6, h8⟩ := and2 h6
        obtain ⟨h6, h7⟩ := and2 h6
        have e7 : nms.length = M.esLen ks := of_decide_eq_true h7
        exact fin (PE.imp (pe_callkM o (of_decide_eq_true h1) h2 (dbg_of h3).1 (paOk es h5 o) h4 (fun e => pnOk es h5 e) (pkOk ks h9 h8 o) hn (of_decide_eq_true h6)) fun σ H Q ⟨ρ, S, Qd, Xd, hl, re, r, w, hq, hx⟩ =>
          ones_rel hl re r w hx fun x S2 v H2 f r2 rx q => ⟨ρ, S2, _, Xd, hl, re.mono r f, r2, q, fun y S3 z H3 f3 r3 rz q => by
            obtain ⟨q1, q2, q3⟩ := q
            have rx3 := rx.mono r2 f3
            exact ⟨by rw [← rx3.length]; exact q1, by rw [← rz.length, e7]; exact q2, _, S3, Qd, Xd, rels_fm (rx3.append rz) perm, r3, q3, hq.after (f.trans f3), hx.after (f.trans f3)⟩, hx.after f⟩)
      · cases h6
    · cases h
  | .rep a, sc, ex, X, W, h, o => by
    obtain ⟨p, es', pos, rfl, hm, hg, hd, ho⟩ := biCall_of (show biCall c.T sc "repr" (one (chkE c.T N a sc)) ex = true from h)
    obtain ⟨e', rfl, hp, ho⟩ := one_of ho
    refine fin (PE.imp (pe_callB o.rep (o.gl hg) (o.free hm) (by decide +kernel) (pa_cons (peOk a ho o).1 pa_nil (plB_star hp)) (by decide +kernel) hd (plB_star hp) rfl) fun σ H Q ⟨ρ, S, Qd, Xd, hl, re, r, w, hq, hx⟩ => ?_)
    exact one_rel hl re r w hx fun x S2 v H2 f r2 rx q => ⟨x, v, S2, Qd, rfl, r2, rx, q.1, q.2.1, by rw [← o.rp]; exact q.2.2, hq.after f⟩
  | .bi b es, sc, ex, X, W, h, o => by
    obtain ⟨p, es', pos, rfl, hm, hg, hd, ho⟩ := biCall_of (show biCall c.T sc (biN b) (fun es' => !es'.isEmpty && es'.all plB && chkEs c.T N es sc es') ex = true from h)
    obtain ⟨ho, h3⟩ := and2 ho
    obtain ⟨h1, h2⟩ := and2 ho
    cases es' with
    | nil => cases h1
    | cons e' es' =>
      exact fin (PE.imp (pe_biM o hm hg (paOk es h3 o) h2) fun σ H Q ⟨ρ, S, Qd, Xd, hl, re, r, w, hq, hx⟩ =>
        ones_rel hl re r w hx fun x S2 v H2 f r2 rx q => ⟨x, S2, Qd, r2, rx, q, hq.after f⟩)
  | .mt m a es, sc, ex, X, W, h, o => by
    have h : (match (generalizing := false) ex with | .Call (.Attribute a' nm apos) es' [] cpos => decide (nm = mtN m) && mtOk m && (apos.endLine == cpos.line) && bareB a' && chkE c.T N a sc a' && es'.all plB && decide (es'.length < 29) && chkEs c.T N es sc es' | _ => false) = true := h
    split at h
    · rename_i a' nm apos es' cpos hh
      obtain ⟨h, h8⟩ := and2 h
      obtain ⟨h, h7⟩ := and2 h
      obtain ⟨h, h6⟩ := and2 h
      obtain ⟨h, h5⟩ := and2 h
      obtain ⟨h, h4⟩ := and2 h
      obtain ⟨h, h3⟩ := and2 h
      obtain ⟨h1, h2⟩ := and2 h
      have e := of_decide_eq_true h1
      subst e
      have ty : ∀ {H : Hp} {S : M.Sto} {x : M.D} {v : V} {xs : List M.D}, RelS c.K H S → RelD c.K H x v → M.lsOf S x = some xs → tyV c.K "list" v H := fun r rd e => by
        obtain ⟨p, vs, rfl, hs, _⟩ := lsOf_rel r rd e
        exact .inl ⟨rfl, vs, hs⟩
      cases es' with
      | nil =>
        have e0 : ∀ σ H Q, tEs c W es σ H Q → Q [] H := fun σ H Q q => pnOk es h8 rfl σ H Q q
        refine fin (PE.imp (pe_mt0 o h2 h3 h4 (peOk a h5 o).1) fun σ H Q ⟨ρ, S, Qd, Xd, hl, re, r, w, hq, hx⟩ =>
          one_rel hl re r w hx fun x S2 v H2 f r2 rx q => ?_)
        obtain ⟨xs, e, q⟩ := opt_of q
        have q2 := e0 σ H2 (fun vs H3 => rMt c.K m v vs H3 Q) ⟨ρ, S2, _, Xd, hl, re.mono r f, r2, q, fun y S3 z H3 f3 r3 rz q => ⟨x, y, S3, Qd, r3, rx.mono r2 f3, rz, q, hq.after (f.trans f3)⟩, hx.after f⟩
        exact ⟨ty r2 rx e, q2⟩
      | cons e' es' =>
        refine fin (PE.imp (pe_mtM o h2 h3 h4 (peOk a h5 o).1 (paOk es h8 o) h6 (of_decide_eq_true h7)) fun σ H Q ⟨ρ, S, Qd, Xd, hl, re, r, w, hq, hx⟩ =>
          one_rel hl re r w hx fun x S2 v H2 f r2 rx q => ?_)
        obtain ⟨xs, e, q⟩ := opt_of q
        exact ⟨ty r2 rx e, ρ, S2, _, Xd, hl, re.mono r f, r2, q, fun y S3 z H3 f3 r3 rz q => ⟨x, y, S3, Qd, r3, rx.mono r2 f3, rz, q, hq.after (f.trans f3)⟩, hx.after f⟩
    · cases h
  | .isi a t, sc, ex, X, W, h, o => by
    obtain ⟨p, es', pos, rfl, hm, hg, hd, ho⟩ := biCall_of (show biCall c.T sc "isinstance" (two (chkE c.T N a sc) (fun y => match y with | .Name z _ => decide (z = tyS t) && decide (z ∈ c.T.bts) && glB sc z && !dbgB z | _ => false)) ex = true from h)
    obtain ⟨e', y, rfl, hp, hp2, h1, h2⟩ := two_of ho
    split at h2
    · rename_i z pz
      obtain ⟨h2, h6⟩ := and2 h2
      obtain ⟨h2, h5⟩ := and2 h2
      obtain ⟨h3, h4⟩ := and2 h2
      have e := of_decide_eq_true h3
      subst e
      have pty : PE X (.Name (tyS t) pz) (tC (.ty (tyN t))) := pe_bltn (o.gl h5) (o.free (of_decide_eq_true h4)) (tyB t) rfl (by cases t <;> decide +kernel) (dbg_of h6).1
      have eK := o.eK
      refine fin (PE.imp (pe_callB call_isi (o.gl hg) (o.free hm) (by decide +kernel) (pa_cons (peOk a h1 o).1 (pa_cons pty pa_nil (plB_star hp2)) (plB_star hp)) (by decide +kernel) hd (plB_star hp) (plB_all (es := [_]) (by show (plB _ && true) = true; rw [hp2]; rfl))) fun σ H Q ⟨ρ, S, Qd, Xd, hl, re, r, w, hq, hx⟩ =>
        one_rel hl re r w hx fun x S2 v H2 f r2 rx q => ?_)
      obtain ⟨b, e, q⟩ := opt_of q
      obtain ⟨n, g1, g2⟩ := isTy_rel r2 rx e
      refine ⟨v, .ty (tyN t), .type n, .type (tyN t), b, rfl, .ty _, ?_, kit_ty g2, (hq.after f).same r2 (.bl b) q⟩
      rw [eK]; exact g1
    · cases h2
  | .isi2 a t u, sc, ex, X, W, h, o => by
    obtain ⟨p, es', pos, rfl, hm, hg, hd, ho⟩ := biCall_of (show biCall c.T sc "isinstance" (two (chkE c.T N a sc) (fun y => match y with | .Tuple [.Name z _, .Name z2 _] _ _ => clsB c.T sc t z && clsB c.T sc u z2 | _ => false)) ex = true from h)
    obtain ⟨e', y, rfl, hp, hp2, h1, h2⟩ := two_of ho
    split at h2
    · rename_i z pz z2 pz2 kt ptt
      obtain ⟨g1, g2⟩ := and2 h2
      obtain ⟨f1, p1⟩ := cls_name o g1
      obtain ⟨f2, p2⟩ := cls_name o g2
      have eK := o.eK
      have pt := pe_tup (x1 := kt) (pos := ptt) (pa_cons (p1 pz) (pa_cons (p2 pz2) pa_nil))
      refine fin (PE.imp (pe_callB call_isiT (o.gl hg) (o.free hm) (by decide +kernel) (pa_cons (peOk a h1 o).1 (pa_cons pt pa_nil (plB_star rfl)) (plB_star hp)) (by decide +kernel) hd (plB_star hp) (plB_all (es := [_]) rfl)) fun σ H Q ⟨ρ, S, Qd, Xd, hl, re, r, w, hq, hx⟩ =>
        one_rel hl re r w hx fun x S2 v H2 f r2 rx q => ?_)
      obtain ⟨b, e, q⟩ := opt_of q
      obtain ⟨d, e2, q⟩ := opt_of q
      refine ⟨by show 2 ≤ sizeLine; rw [sizeLine_eq]; omega, fun tp htp => ?_⟩
      have f3 : Fr S2 H2 S2 (L2.upd H2 tp (.tup [.ty (tyN t), .ty (tyN u)])) := Fr.laid htp
      have r3 := r2.laid (o := .tup [.ty (tyN t), .ty (tyN u)]) htp
      have rx3 := rx.mono r2 f3
      obtain ⟨n', k1, kk⟩ := isTy_all r3 rx3 e
      have k2 := kk t b e
      have k4 := kk u d e2
      refine ⟨v, tp, [.ty (tyN t), .ty (tyN u)], .type n', [.type (tyN t), .type (tyN u)], b || d, rfl, upd_same, .cons (.ty _) (.cons (.ty _) .nil), ?_, ?_, (hq.after (f.trans f3)).same r3 (.bl _) q⟩
      · rw [eK]; exact k1
      · refine kitAny_cons (kit_ty k2) (fun hb => kitAny_cons (kit_ty k4) (fun hd => ?_) fun hd => ?_) fun hb => ?_
        · subst hb hd; exact kitAny_nil
        · subst hd; rw [Bool.or_true]
        · subst hb; rfl
    · cases h2
  | .isx _ _, _, _, _, _, h, _ => nomatch h
  | .dic, sc, ex, X, W, h, o => by
    have h : (match (generalizing := false) ex with | .Dict [] [] _ => true | _ => false) = true := h
    split at h
    · exact fin (PE.imp pe_dnewK fun σ H Q ⟨ρ, S, Qd, Xd, hl, re, r, w, hq, hx⟩ => fun p hp => hq _ _ _ _ (Fr.laidS hp) (r.dic hp) (.ref p) (w p (r.none hp)))
    · cases h
  | .comp e t it oc, sc, ex, X, W, h, o => by
    have h : (match (generalizing := false) ex with
      | .ListComp e' [⟨tg, it', ifs, k⟩] scope _ => decide (k = 0) && blkC N sc scope (ownOf N (M.tgs t)) && decide ((ownOf N (M.tgs t)).map (·.2) = M.tgs t) && decide (M.tgs t).Nodup && noSet it' && chkIt c.T N it sc it' (isTupB tg) && chkTg N (tgB scope sc) t tg
          && (match ifs with | [] => chkO c.T N oc (relS scope sc) none | [d] => chkO c.T N oc (relS scope sc) (some d) | _ => false) && chkE c.T N e (relS scope sc) e'
      | _ => false) = true := h
    split at h
    · rename_i e' tg it' ifs k0 scope pos hh
      obtain ⟨h, h9⟩ := and2 h
      obtain ⟨h, h8⟩ := and2 h
      obtain ⟨h, h7⟩ := and2 h
      obtain ⟨h, h6⟩ := and2 h
      obtain ⟨h, h5⟩ := and2 h
      obtain ⟨h, h4⟩ := and2 h
      obtain ⟨h, h3⟩ := and2 h
      obtain ⟨h1, h2⟩ := and2 h
      have e0 := of_decide_eq_true h1
      subst e0
      have eo : (ownOf N (M.tgs t)).map (·.2) = M.tgs t := of_decide_eq_true h3
      refine fin ?_
      have hpe : PE X (.ListComp e' [⟨tg, it', ifs, 0⟩] scope pos) (tLc (tIt c W it) (tgG c.K t) (tCn c oc) (tE c W0 e) ((ownOf N (M.tgs t)).map (·.2))) := by
        refine pe_lc o.calm (by rw [o.eN]; exact o.nd) (piOk it h6 o) (by rw [o.eN, o.es]; exact blkOk_by h2) (fun s H C cl fp => ?_) (fun s H C cl fp => ?_) (fun s H C cl fp => ?_) (folded_of h5)
        · have ob := o.blk s H scope C cl fp
          have q := pgOk (X := X.blk s H scope (compEnvC scope cl C X.env) fp) (t := t) (e := tg) (ok := tgB scope sc) ob.calm (by rw [ob.eN]; exact ob.nd) (fun x hx => by rw [ob.es]; exact tgB_of hx) (by rw [ob.eN]; exact h7)
          rw [ob.eK] at q
          exact q
        · have ob := o.blk s H scope C cl fp
          split at h8
          · exact (poOk oc h8 ob).2
          · exact (poOk oc h8 ob).2
          · cases h8
        · exact (peOk e h9 (o.blk s H scope C cl fp)).1
      refine PE.imp hpe fun σ H Q ⟨ρ, S, Qd, Xd, hl, re, r, w, hq, hx⟩ => ?_
      refine ⟨ρ, S, _, Xd, hl, re, r, w, fun items chk S1 H1 J f1 r1 m q => ?_, hx⟩
      rw [eo]
      exact comp_rel hl (re.mono r f1) r1 m q.1 (hq.after f1) q.2
    · cases h
theorem paOk : ∀ (es : M.Es) {sc : Scope} {ex : List Expr} {X : Cx} {W : WX}, chkEs c.T N es sc ex = true → Ok c k N sc X W → PA X ex (tEs c W es)
  | .nil, sc, ex, X, W, h, o => by
    cases ex with
    | nil => exact PA.imp pa_nil fun σ H Q ⟨ρ, S, Qd, Xd, hl, re, r, w, hq, hx⟩ => hq [] S [] H Fr.refl r .nil w
    | cons _ _ => cases h
  | .cons e r, sc, ex, X, W, h, o => by
    cases ex with
    | nil => cases h
    | cons e' r' =>
      obtain ⟨h, h3⟩ := and2 (show (plB e' && chkE c.T N e sc e' && chkEs c.T N r sc r') = true from h)
      obtain ⟨h1, h2⟩ := and2 h
      exact PA.imp (pa_cons (peOk e h2 o).1 (paOk r h3 o) (plB_star h1)) fun σ H Q ⟨ρ, S, Qd, Xd, hl, re, rr, w, hq, hx⟩ =>
        one_rel hl re rr w hx fun x S2 v H2 f r2 rx q => ⟨ρ, S2, _, Xd, hl, re.mono rr f, r2, q, fun ds S3 vs H3 f3 r3 rds q => hq _ _ _ _ (f.trans f3) r3 (.cons (rx.mono r2 f3) rds) q, hx.after f⟩
  | .star e r, sc, ex, X, W, h, o => by
    have h : (match (generalizing := false) ex with | .Starred e' _ :: r' => chkE c.T N e sc e' && chkEs c.T N r sc r' | _ => false) = true := h
    split at h
    · rename_i e' p r'
      obtain ⟨h1, h2⟩ := and2 h
      have eK := o.eK
      refine PA.imp (pa_star (r := fun v H Q => ∃ a vs, v = .ref a ∧ (SqL X.K H a vs ∨ SqT X.K H a vs) ∧ Q vs H) (fun v H Q q => q) (peOk e h1 o).1 (paOk r h2 o)) fun σ H Q ⟨ρ, S, Qd, Xd, hl, re, rr, w, hq, hx⟩ =>
        one_rel hl re rr w hx fun x S2 v H2 f r2 rx q => ?_
      obtain ⟨xs, e2, q⟩ := opt_of q
      obtain ⟨a, vs, ea, hs, rd⟩ := sqOf_rel r2 rx e2
      exact ⟨a, vs, ea, by rw [eK]; exact hs, ρ, S2, _, Xd, hl, re.mono rr f, r2, q, fun ds S3 us H3 f3 r3 rds q => hq _ _ _ _ (f.trans f3) r3 ((rd.mono r2 f3).append rds) q, hx.after f⟩
    · cases h
theorem pkOk : ∀ (es : M.Es) {sc : Scope} {kw : List Keyword} {X : Cx} {W : WX}, chkEs c.T N es sc (kw.map (·.value)) = true → (kw.map (·.value)).all plB = true → Ok c k N sc X W → PK X kw (tEs c W es)
  | .nil, sc, kw, X, W, h, hp, o => by
    cases kw with
    | nil => exact ⟨fun pos pins s σ H Q I ⟨ρ, S, Qd, Xd, hl, re, r, w, hq, hx⟩ => pk_nil.run pos pins s σ H Q I (hq [] S [] H Fr.refl r .nil w)⟩
    | cons _ _ => cases h
  | .cons e r, sc, kw, X, W, h, hp, o => by
    cases kw with
    | nil => cases h
    | cons kw r' =>
      obtain ⟨nm, e', kp⟩ := kw
      obtain ⟨h, h3⟩ := and2 (show (plB e' && chkE c.T N e sc e' && chkEs c.T N r sc (r'.map (·.value))) = true from h)
      obtain ⟨h1, h2⟩ := and2 h
      obtain ⟨_, hp2⟩ := and2 (show (plB e' && (r'.map (·.value)).all plB) = true from hp)
      exact ⟨fun pos pins s σ H Q I ⟨ρ, S, Qd, Xd, hl, re, rr, w, hq, hx⟩ => (pk_cons (peOk e h2 o).1 (pkOk r h3 hp2 o)).run pos pins s σ H Q I
        (one_rel hl re rr w hx fun x S2 v H2 f r2 rx q => ⟨ρ, S2, _, Xd, hl, re.mono rr f, r2, q, fun ds S3 vs H3 f3 r3 rds q => hq _ _ _ _ (f.trans f3) r3 (.cons (rx.mono r2 f3) rds) q, hx.after f⟩)⟩
  | .star e r, sc, kw, X, W, h, hp, o => by
    have h : (match (generalizing := false) kw.map (·.value) with | .Starred e' _ :: r' => chkE c.T N e sc e' && chkEs c.T N r sc r' | _ => false) = true := h
    split at h
    · rename_i heq
      rw [heq] at hp
      cases hp
    · cases h
theorem pnOk : ∀ (es : M.Es) {sc : Scope} {ex : List Expr} {T : Tb}, chkEs T N es sc ex = true → ex = [] → ∀ {c : Cn} {W : WX} σ H Q, tEs c W es σ H Q → Q [] H
  | .nil, sc, ex, T, h, e, c, W, σ, H, Q, ⟨ρ, S, Qd, Xd, hl, re, r, w, hq, hx⟩ => hq [] S [] H Fr.refl r .nil w
  | .cons _ _, sc, ex, T, h, e, c, W, σ, H, Q, _ => by subst e; cases h
  | .star _ _, sc, ex, T, h, e, c, W, σ, H, Q, _ => by subst e; cases h
theorem prOk : ∀ (es : M.Es) {sc : Scope} {ex : List Expr} {X : Cx} {W : WX}, chkR c.T N es sc ex = true → ex ≠ [] → Ok c k N sc X W → ∀ pos : Pos,
    (PE X (.BoolOp .And ex pos) (tR c W M.wpAnd es) ∧ PW X (.BoolOp .And ex pos) (tB (tR c W M.wpAnd es))) ∧ PE X (.BoolOp .Or ex pos) (tR c W M.wpOr es) ∧ PW X (.BoolOp .Or ex pos) (tB (tR c W M.wpOr es))
  | .nil, sc, ex, X, W, h, hne, o, pos => by
    cases ex with
    | nil => exact absurd rfl hne
    | cons _ _ => cases h
  | .star _ _, sc, ex, X, W, h, _, o, pos => nomatch h
  | .cons e r, sc, ex, X, W, h, hne, o, pos => by
    cases ex with
    | nil => exact absurd rfl hne
    | cons e' r' =>
      obtain ⟨h1, h2⟩ := and2 (show (chkE c.T N e sc e' && chkR c.T N r sc r') = true from h)
      obtain ⟨p1, p2⟩ := peOk e h1 o
      cases r' with
      | nil =>
        cases r with
        | nil =>
          have i1 : ∀ σ H Q, tR c W M.wpAnd (.cons e .nil) σ H Q → tE c W e σ H Q := fun σ H Q ⟨ρ, S, Qd, Xd, hl, re, rr, w, hq, hx⟩ => ⟨ρ, S, Qd, Xd, hl, re, rr, w, hq, hx⟩
          have i2 : ∀ σ H Q, tR c W M.wpOr (.cons e .nil) σ H Q → tE c W e σ H Q := fun σ H Q ⟨ρ, S, Qd, Xd, hl, re, rr, w, hq, hx⟩ => ⟨ρ, S, Qd, Xd, hl, re, rr, w, hq, hx⟩
          exact ⟨⟨PE.imp (pe_one p1) i1, ⟨fun wh pins s σ H Q I h => (pw_and1 p2).run wh pins s σ H Q I (i1 _ _ _ h)⟩⟩, PE.imp (pe_one p1) i2, ⟨fun wh pins s σ H Q I h => (pw_or1 p2).run wh pins s σ H Q I (i2 _ _ _ h)⟩⟩
        | cons _ _ => cases h2
        | star _ _ => cases h2
      | cons e2 r2 =>
        obtain ⟨⟨g1, g2⟩, g3, g4⟩ := prOk r h2 (by simp) o pos
        cases r with
        | nil => cases h2
        | star _ _ => cases h2
        | cons f r =>
          have rdA : ∀ {σ : Sl} {H : Hp} {Q : VK}, tR c W M.wpAnd (.cons e (.cons f r)) σ H Q → tE c W e σ H fun v H1 => ∃ b, v = .bl b ∧ if b = true then tR c W M.wpAnd (.cons f r) σ H1 Q else Q (.bl false) H1 := fun {σ H Q} ⟨ρ, S, Qd, Xd, hl, re, rr, w, hq, hx⟩ =>
            one_rel hl re rr w hx fun x S2 v H2 f r2 rx q => by
              obtain ⟨b, rfl, qt, qf⟩ := onB_of q
              cases rx
              refine ⟨b, rfl, ?_⟩
              cases b with
              | true => rw [if_pos rfl]; exact ⟨ρ, S2, Qd, Xd, hl, re.mono rr f, r2, qt rfl, hq.after f, hx.after f⟩
              | false => rw [if_neg Bool.false_ne_true]; exact (hq.after f).same r2 (.bl false) (qf rfl)
          have rdO : ∀ {σ : Sl} {H : Hp} {Q : VK}, tR c W M.wpOr (.cons e (.cons f r)) σ H Q → tE c W e σ H fun v H1 => ∃ b, v = .bl b ∧ if b = true then Q (.bl true) H1 else tR c W M.wpOr (.cons f r) σ H1 Q := fun {σ H Q} ⟨ρ, S, Qd, Xd, hl, re, rr, w, hq, hx⟩ =>
            one_rel hl re rr w hx fun x S2 v H2 f r2 rx q => by
              obtain ⟨b, rfl, qt, qf⟩ := onB_of q
              cases rx
              refine ⟨b, rfl, ?_⟩
              cases b with
              | false => rw [if_neg Bool.false_ne_true]; exact ⟨ρ, S2, Qd, Xd, hl, re.mono rr f, r2, qf rfl, hq.after f, hx.after f⟩
              | true => rw [if_pos rfl]; exact (hq.after f).same r2 (.bl true) (qt rfl)
          refine ⟨⟨PE.imp (pe_and p1 g1) fun σ H Q h => rdA h, ⟨fun wh pins s σ H Q I h => (pw_and p2 g2).run wh pins s σ H Q I ?_⟩⟩, PE.imp (pe_or p1 g3) fun σ H Q h => rdO h, ⟨fun wh pins s σ H Q I h => (pw_or p2 g4).run wh pins s σ H Q I ?_⟩⟩
          · obtain ⟨ρ, S, Qd, Xd, hl, re, rr, w, hq, hx⟩ := rdA h
            refine ⟨ρ, S, Qd, Xd, hl, re, rr, w, fun d S' v H' f r' rd' q => ?_, hx⟩
            obtain ⟨b, e, q⟩ := hq d S' v H' f r' rd' q
            refine ⟨b, e, ?_⟩
            cases b with
            | true => exact q
            | false =>
              obtain ⟨b', e', q⟩ := q
              cases e'
              exact q
          · obtain ⟨ρ, S, Qd, Xd, hl, re, rr, w, hq, hx⟩ := rdO h
            refine ⟨ρ, S, Qd, Xd, hl, re, rr, w, fun d S' v H' f r' rd' q => ?_, hx⟩
            obtain ⟨b, e, q⟩ := hq d S' v H' f r' rd' q
            refine ⟨b, e, ?_⟩
            cases b with
            | false => exact q
            | true =>
              obtain ⟨b', e', q⟩ := q
              cases e'
              exact q
theorem poOk : ∀ (oe : M.Oe) {sc : Scope} {ex : Option Expr} {X : Cx} {W : WX}, chkO c.T N oe sc ex = true → Ok c k N sc X W → PO X ex (tO c W oe) ∧ PTs X ex.toList (tCn c oe)
  | .none, sc, ex, X, W, h, o => by
    cases ex with
    | none => exact ⟨⟨fun pins s σ H Q I ⟨ρ, S, Qd, Xd, hl, re, r, w, hq, hx⟩ => po_none.run pins s σ H Q I (hq none S H Fr.refl r w)⟩, ⟨fun pins s σ H Q I ⟨ρ, S, Qd, hl, re, r, w, hq⟩ => pts_nil.run pins s σ H Q I (hq true S H Fr.refl r w)⟩⟩
    | some _ => cases h
  | .some e, sc, ex, X, W, h, o => by
    cases ex with
    | none => cases h
    | some e' =>
      obtain ⟨p1, p2⟩ := peOk e (show chkE c.T N e sc e' = true from h) o
      refine ⟨⟨fun pins s σ H Q I ⟨ρ, S, Qd, Xd, hl, re, r, w, hq, hx⟩ => (po_some p1).run pins s σ H Q I ?_⟩, ⟨fun pins s σ H Q I ⟨ρ, S, Qd, hl, re, r, w, hq⟩ => (pts_one p2).run pins s σ H Q I ?_⟩⟩
      · exact one_rel hl re r w hx fun x S2 v H2 f r2 rx q => by
          obtain ⟨i, rfl, q⟩ := onI_of q
          cases rx
          exact ⟨i, rfl, hq _ _ _ f r2 q⟩
      · refine ⟨ρ, S, _, M.X0, hl, re, r, w, fun x S2 v H2 f r2 rx q => ?_, okX0⟩
        obtain ⟨b, rfl, q⟩ := onB_of q
        cases rx
        exact ⟨b, rfl, hq _ _ _ f r2 q⟩
theorem piOk : ∀ (it : M.It) {sc : Scope} {ex tg : Expr} {X : Cx} {W : WX}, chkIt c.T N it sc ex (isTupB tg) = true → Ok c k N sc X W → PI X tg ex (tIt c W it)
  | .seq e, sc, ex, tg, X, W, h, o => by
    have eK := o.eK
    exact PI.imp (pi_seqM (peOk e (show chkE c.T N e sc ex = true from h) o).1) fun σ H R ⟨ρ, S, Rd, Xd, hl, re, r, w, hq, hx⟩ => one_rel hl re r w hx fun x S2 v H2 f r2 rx q => by rw [eK]; exact seq_rel r2 rx q (hq.after f)
  | .rng e, sc, ex, tg, X, W, h, o => by
    obtain ⟨p, es', pos, rfl, hm, hg, hd, ho⟩ := biCall_of (show biCall c.T sc "range" (one (chkE c.T N e sc)) ex = true from h)
    obtain ⟨e', rfl, hp, ho⟩ := one_of ho
    refine PI.imp (pi_range1 (o.gl hg) (o.free hm) (pa_cons (peOk e ho o).1 pa_nil (plB_star hp)) (plB_star hp)) fun σ H R ⟨ρ, S, Rd, Xd, hl, re, r, w, hq, hx⟩ => one_rel hl re r w hx fun x S2 v H2 f r2 rx q => ?_
    obtain ⟨j, rfl, q⟩ := onI_of q
    cases rx
    obtain ⟨_, _, q1, q2, q3⟩ := q
    refine ⟨j, rfl, q1, q2, (hq.after f).here r2 ?_ q3⟩
    have e0 : j.toNat = (j - 0).toNat := by rw [Int.sub_zero]
    rw [e0]
    exact mat_rng
  | .rng2 a b, sc, ex, tg, X, W, h, o => by
    obtain ⟨p, es', pos, rfl, hm, hg, hd, ho⟩ := biCall_of (show biCall c.T sc "range" (two (chkE c.T N a sc) (chkE c.T N b sc)) ex = true from h)
    obtain ⟨e1, e2, rfl, hp, hp2, h1, h2⟩ := two_of ho
    refine PI.imp (pi_range2 (o.gl hg) (o.free hm) (pa_cons (peOk a h1 o).1 (pa_cons (peOk b h2 o).1 pa_nil (plB_star hp2)) (plB_star hp)) (by rw [plB_star hp, plB_star hp2]; rfl) (plB_star hp2)) fun σ H R ⟨ρ, S, Rd, Xd, hl, re, r, w, hq, hx⟩ => two_rel hl re r w hx fun x y S2 v u H2 f r2 rx ry q => ?_
    obtain ⟨i, ei, q'⟩ := onI_of q
    obtain ⟨j, ej, q''⟩ := onI_of q'
    subst ei ej
    cases rx
    cases ry
    obtain ⟨q1, q2, q3, q4, q5⟩ := q''
    exact ⟨i, j, rfl, ⟨q1, q2, q3, q4⟩, (hq.after f).here r2 mat_rng q5⟩
  | .zip a b, sc, ex, tg, X, W, h, o => by
    obtain ⟨ht, h⟩ := and2 (show (isTupB tg && biCall c.T sc "zip" (two (chkE c.T N a sc) (chkE c.T N b sc)) ex) = true from h)
    obtain ⟨ts, tk, tp, rfl⟩ := tupB_of ht
    obtain ⟨p, es', pos, rfl, hm, hg, hd, ho⟩ := biCall_of h
    obtain ⟨e1, e2, rfl, hp, hp2, h1, h2⟩ := two_of ho
    have eK := o.eK
    refine PI.imp (pi_zipM (o.gl hg) (o.free hm) (pa_cons (peOk a h1 o).1 (pa_cons (peOk b h2 o).1 pa_nil (plB_star hp2)) (plB_star hp)) (plB_star hp) (plB_all (es := [_]) (by show (plB _ && true) = true; rw [hp2]; rfl))) fun σ H R ⟨ρ, S, Rd, Xd, hl, re, r, w, hq, hx⟩ => two_rel hl re r w hx fun x y S2 v u H2 f r2 rx ry q => ?_
    rw [eK]
    rcases zip_cases q with ⟨xs, ys, rfl, rfl, q⟩ | ⟨a, ys, rfl, rfl, q⟩ | q
    · cases rx with
      | tup a1 a2 => cases ry with
        | tup b1 b2 => exact ⟨_, _, .tup _, .tup _, _, _, rfl, rfl, rfl, a1, b1, (hq.after f).here r2 (mat_zipM (fun _ _ f' _ _ => ⟨_, sqt_mono r2 f' a1, a2.mono r2 f'⟩) fun _ _ f' _ _ => ⟨_, sqt_mono r2 f' b1, b2.mono r2 f'⟩) q⟩
    · cases rx with
      | str a => cases ry with
        | tup b1 b2 => exact ⟨_, _, .txt _, .tup _, _, _, rfl, rfl, rfl, rfl, b1, (hq.after f).here r2 (mat_zipM (fun _ _ _ _ _ => ⟨_, rfl, chrs_rel a⟩) fun _ _ f' _ _ => ⟨_, sqt_mono r2 f' b1, b2.mono r2 f'⟩) q⟩
    · obtain ⟨xs, ex, q⟩ := opt_of q
      obtain ⟨ys, ey, q⟩ := opt_of q
      obtain ⟨p1, vs, rfl, hs, _⟩ := lsOf_rel r2 rx ex
      obtain ⟨p2, us, rfl, hs2, _⟩ := lsOf_rel r2 ry ey
      exact ⟨_, _, .lst p1, .lst p2, vs, us, rfl, rfl, rfl, hs, hs2, (hq.after f).here r2 (mat_zipM (fun _ _ f' r' ch => ls_at r2 f' r' rx ch.1) fun _ _ f' r' ch => ls_at r2 f' r' ry ch.2) q⟩
  | .zip3 a b d, sc, ex, tg, X, W, h, o => by
    obtain ⟨ht, h⟩ := and2 (show (isTupB tg && biCall c.T sc "zip" (three (chkE c.T N a sc) (chkE c.T N b sc) (chkE c.T N d sc)) ex) = true from h)
    obtain ⟨ts, tk, tp, rfl⟩ := tupB_of ht
    obtain ⟨p, es', pos, rfl, hm, hg, hd, ho⟩ := biCall_of h
    obtain ⟨e1, e2, e3, rfl, hp, hp2, hp3, h1, h2, h3⟩ := three_of ho
    have eK := o.eK
    refine PI.imp (pi_zip3 (o.gl hg) (o.free hm) (pa_cons (peOk a h1 o).1 (pa_cons (peOk b h2 o).1 (pa_cons (peOk d h3 o).1 pa_nil (plB_star hp3)) (plB_star hp2)) (plB_star hp)) (plB_star hp) (plB_all (es := [_, _]) (by show (plB _ && (plB _ && true)) = true; rw [hp2, hp3]; rfl))) fun σ H R ⟨ρ, S, Rd, Xd, hl, re, r, w, hq, hx⟩ => three_rel hl re r w hx fun x y z S2 v u t H2 f r2 rx ry rz q => ?_
    rw [eK]
    have q : M.zip3D x y z S2 Rd := q
    unfold M.zip3D at q
    split at q
    · cases rx with
      | tup a1 a2 => cases ry with
        | tup b1 b2 => cases rz with
          | tup c1 c2 => exact ⟨_, _, _, .tup _, .tup _, .tup _, _, _, _, rfl, rfl, rfl, rfl, a1, b1, c1, (hq.after f).here r2 (mat_zip3 (fun _ _ f' _ _ => ⟨_, sqt_mono r2 f' a1, a2.mono r2 f'⟩) (fun _ _ f' _ _ => ⟨_, sqt_mono r2 f' b1, b2.mono r2 f'⟩) fun _ _ f' _ _ => ⟨_, sqt_mono r2 f' c1, c2.mono r2 f'⟩) q⟩
    · exact False.elim q
  | .enum e, sc, ex, tg, X, W, h, o => by
    obtain ⟨ht, h⟩ := and2 (show (isTupB tg && biCall c.T sc "enumerate" (one (chkE c.T N e sc)) ex) = true from h)
    obtain ⟨ts, tk, tp, rfl⟩ := tupB_of ht
    obtain ⟨p, es', pos, rfl, hm, hg, hd, ho⟩ := biCall_of h
    obtain ⟨e', rfl, hp, ho⟩ := one_of ho
    have eK := o.eK
    refine PI.imp (pi_enum (o.gl hg) (o.free hm) (pa_cons (peOk e ho o).1 pa_nil (plB_star hp)) (plB_star hp)) fun σ H R ⟨ρ, S, Rd, Xd, hl, re, r, w, hq, hx⟩ => one_rel hl re r w hx fun x S2 v H2 f r2 rx q => ?_
    obtain ⟨xs, ex, q⟩ := opt_of q
    obtain ⟨p1, vs, rfl, hs, _⟩ := lsOf_rel r2 rx ex
    rw [eK]
    exact ⟨p1, vs, rfl, hs, (hq.after f).here r2 (mat_enum r2 rx) q⟩
end
end
end Snd
namespace Snd
open PySem PySem.Spec PyProof.Rows L2
def isStar : Expr → Bool
  | .Starred .. => true | _ => false
def swName (sc : Scope) (line : Nat) : Expr → Option Str
  | .Name id pos => if sc.names.lookup id == some .local && pos.line == line then some id else none
  | _ => none
def swTup (sc : Scope) (ts vs : List Expr) : Option (Option (List Str)) :=
    if (!(ts.length == 2 || ts.length == 3) || vs.length != ts.length) = true then some none
    else if vs.any isStar = true then some none
    else if ((ts.filterMap (swName sc ((ts.head?.map (·.pos.line)).getD 0))).length != ts.length || (ts.filterMap (swName sc ((ts.head?.map (·.pos.line)).getD 0))).eraseDups.length != (ts.filterMap (swName sc ((ts.head?.map (·.pos.line)).getD 0))).length) = true then some none
      else if vs.all (foldedForSure 8) = true then some none
      else if vs.all (constantsAlone 8) = true then none
      else some (some (ts.filterMap (swName sc ((ts.head?.map (·.pos.line)).getD 0))))
theorem sw_ok {env : Env} {ts vs : List Expr} {k k2 : Nat} {p p2 : Pos} {r : Option (List Str)} (hk : env.scope.kind = .function) (h : swTup env.scope ts vs = some r) : swappedStores [.Tuple ts k p] (.Tuple vs k2 p2) env = pure r := by
  have hb : env.blockKind = .function := by unfold Env.blockKind; rw [hk]; rfl
  have e1 : ∀ F : Expr → Bool, (∀ x, F x = isStar x) → vs.any F = vs.any isStar := fun F h => by rw [funext h]
  have e2 : ∀ (line : Nat) (F : Expr → Option Str), (∀ x, F x = swName env.scope line x) → ts.filterMap F = ts.filterMap (swName env.scope line) := fun line F h => by rw [funext h]
  unfold swappedStores
  unfold swTup at h
  simp only [hb, bne_self_eq_false, Bool.or_false]
  split at h
  · rename_i h1
    cases h
    rw [if_pos h1]
  · rename_i h1
    rw [if_neg h1]
    split at h
    · rename_i h2
      cases h
      rw [if_pos ((e1 _ (by intro x; cases x <;> rfl)).trans h2)]
    · rename_i h2
      rw [if_neg (fun z => h2 ((e1 _ (by intro x; cases x <;> rfl)).symm.trans z))]
      rw [e2 ((ts.head?.map (·.pos.line)).getD 0) _ (by intro x; cases x <;> rfl)]
      split at h
      · rename_i h3
        cases h
        exact if_pos h3
      · rename_i h3
        rw [if_neg h3]
        split at h
        · rename_i h4
          cases h
          exact if_pos h4
        · rename_i h4
          rw [if_neg h4]
          split at h
          · cases h
          · rename_i h5
            cases h
            rw [if_neg h5]
def notComp : Expr → Bool
  | .ListComp .. => false | .SetComp .. => false | .DictComp .. => false | _ => true
def notTup : Expr → Bool
  | .Tuple .. => false | _ => true
/-- a comprehension on the name's own line, the name a local: the stores are exchanged -/
def swC (sc : Scope) (e tg : Expr) : Bool := match e, tg with
  | .ListComp _ _ scope pos, .Name t p => locB sc t && (p.line == pos.line) && !(scope.names.any fun (n, k) => n == t && (k == .local || k == .cell))
  | _, _ => false
theorem swapsWith_not {e : Expr} {tg : Option Expr} {l : Nat} {env : Env} (h : notComp e = true) : swapsWith e tg l env = pure false := by
  cases e <;> first | rfl | cases h
theorem swapsSole_not {e tg : Expr} {l : Nat} {env : Env} (h : notComp e = true) : swapsWithSole [tg] e l env = pure false := swapsWith_not h
/-- what a set's value and target may be: no exchange of stores -/
def setB (sc : Scope) (e tg : Expr) : Bool := match tg with
  | .Name t p => (match e with
    | .ListComp _ _ scope pos => !(locB sc t && (p.line == pos.line) && !(scope.names.any fun (n, k) => n == t && (k == .local || k == .cell)))
    | e => notComp e)
  | .Tuple ts _ _ => (match e with
    | .Tuple vs _ _ => decide (swTup sc ts vs = some none)
    | .ListComp .. => true
    | e => notComp e)
  | _ => false
theorem set_sw {env : Env} {e tg : Expr} {l : Nat} (hk : env.scope.kind = .function) (h : setB env.scope e tg = true) : swapsWithSole [tg] e l env = pure false ∧ swappedStores [tg] e env = pure none := by
  have hb : env.blockKind = .function := by unfold Env.blockKind; rw [hk]; rfl
  cases tg with
  | Name t p =>
    refine ⟨?_, by cases e <;> rfl⟩
    cases e with
    | ListComp elt gs scope pos =>
      have h := not1 (show (!(locB env.scope t && (p.line == pos.line) && !(scope.names.any fun (n, k) => n == t && (k == .local || k == .cell)))) = true from h)
      have e1 : locB env.scope t = (env.kindOf t == some .local) := by
        unfold locB Env.kindOf
        cases e2 : env.scope.names.lookup t with
        | none => rfl
        | some q => cases q <;> rfl
      rw [e1] at h
      show swapsWith (.ListComp elt gs scope pos) (some (.Name t p)) l env = pure false
      unfold swapsWith
      simp only [hb, Expr.pos]
      have hf : ((ScopeKind.function == ScopeKind.function) && (env.kindOf t == some .local) && (p.line == pos.line) && !(scope.names.any fun (n, k) => n == t && (k == .local || k == .cell))) = false := by
        rw [show (ScopeKind.function == ScopeKind.function) = true from rfl, Bool.true_and]; exact h
      first
        | (show pure _ = pure false; exact congrArg pure hf)
        | (rw [hf])
        | (simp only [hf])
    | _ => first | exact swapsSole_not h | cases h
  | Tuple ts k p =>
    cases e with
    | Tuple vs k2 p2 => exact ⟨swapsSole_not rfl, sw_ok hk (of_decide_eq_true h)⟩
    | ListComp elt gs scope pos => exact ⟨rfl, rfl⟩
    | _ => first | exact ⟨swapsSole_not h, rfl⟩ | cases h
  | _ => cases h
end Snd
namespace Snd
open PySem PySem.Spec PyProof.Rows L2
def lineB (e tg : Expr) : Bool := match e, tg with
  | .ListComp _ _ _ pos, .Name _ p => p.line == pos.line
  | _, _ => false
/-- names side by side, all plain locals, on one line: stored from the right -/
def parB (N : List Str) (sc : Scope) (is : List Nat) (ts vs : List Expr) : Bool :=
  namesAt N (locB sc) is ts && decide is.Nodup && vs.all plB && decide (swTup sc ts vs = some (some (is.filterMap fun i => N[i]?)))
def compV : M.Tg → Expr → Bool
  | .v _, .ListComp _ [_] _ _ => true
  | _, _ => false
theorem compV_of {t : M.Tg} {e : Expr} (h : compV t e = true) : ∃ i elt g0 scope p0, t = .v i ∧ e = .ListComp elt [g0] scope p0 := by
  unfold compV at h
  split at h
  · exact ⟨_, _, _, _, _, rfl, rfl⟩
  · cases h
theorem sub_asg {o i : Expr} {pos : Pos} {env : Env} (h : plB i = true) : ∀ v, assign (.Subscript o i pos) env v = (do
      let ov ← holding [v] (eval o env)
      let iv ← holding [v, ov] (eval i env)
      standAt pos
      holding [v, ov, iv] (setItem ov iv v)
      release [v, ov, iv] []) := by
  cases i <;> first | (intro _; rfl) | cases h
mutual
def chkS (T : Tb) (N : List Str) : M.St → Scope → Stmt → Bool
  | .set t e => fun sc st => (match st with
    | .Assign [tg] e' _ => chkTg N (locCB sc) t tg && chkE T N e sc e' && (setB sc e' tg || (compV t e' && swC sc e' tg))
    | _ => false)
  | .par i j a b => fun sc st => (match st with
    | .Assign [.Tuple [x, y] _ _] (.Tuple [a', b'] _ _) _ => parB N sc [i, j] [x, y] [a', b'] && chkE T N a sc a' && chkE T N b sc b'
    | _ => false)
  | .par3 i j l a b d => fun sc st => (match st with
    | .Assign [.Tuple [x, y, z] _ _] (.Tuple [a', b', d'] _ _) _ => parB N sc [i, j, l] [x, y, z] [a', b', d'] && chkE T N a sc a' && chkE T N b sc b' && chkE T N d sc d'
    | _ => false)
  | .nev => fun _ _ => true
  | .six a i e => fun sc st => (match st with
    | .Assign [.Subscript a' i' _] e' _ => plB i' && notComp e' && chkE T N a sc a' && chkE T N i sc i' && chkE T N e sc e'
    | _ => false)
  | .ex e => fun sc st => (match st with | .Expr e' _ => notComp e' && chkE T N e sc e' | _ => false)
  | .ret e => fun sc st => (match st with | .Return (some e') _ => chkE T N e sc e' | _ => false)
  | .retn => fun sc st => (match st with | .Return none _ => true | _ => false)
  | .if_ g a b => fun sc st => (match st with | .If g' a' b' _ => chkE T N g sc g' && chkSs T N a sc a' && chkSs T N b sc b' | _ => false)
  | .while_ g b => fun sc st => (match st with | .While g' b' [] _ => chkE T N g sc g' && chkSs T N b sc b' | _ => false)
  | .for_ t it b => fun sc st => (match st with | .For tg it' b' [] _ => chkTg N (locCB sc) t tg && noSet it' && chkIt T N it sc it' (isTupB tg) && chkSs T N b sc b' | _ => false)
  | .brk => fun sc st => (match st with | .Break _ => true | _ => false)
  | .pass => fun sc st => (match st with | .Pass _ => true | _ => false)
  | .raise _ _ => fun _ _ => false
  | .try_ _ _ _ _ => fun _ _ => false
def chkSs (T : Tb) (N : List Str) : M.Ss → Scope → List Stmt → Bool
  | .nil => fun sc st => st.isEmpty
  | .cons s r => fun sc st => (match st with | s' :: r' => chkS T N s sc s' && chkSs T N r sc r' | [] => false)
end
/-- what is wanted of a statement -/
structure OkK (c : Cn) (W : WX) (S : M.Sto) (H : Hp) (Kd : M.Kt) (D : Ends) : Prop where
  nx : ∀ ρ' S' σ' H', Fr S H S' H' → RelS c.K H' S' → RelE c.K H' ρ' σ' → ρ'.length = σ'.length → Kd.nx ρ' S' → D.nx σ' H'
  rt : OkV c.K S H Kd.rt D.rt
  bk : ∀ ρ' S' σ' H', Fr S H S' H' → RelS c.K H' S' → RelE c.K H' ρ' σ' → ρ'.length = σ'.length → Kd.bk ρ' S' → D.bk σ' H'
  xe : ∀ k fs ρ' S' σ' H' cls d, Fr S H S' H' → RelS c.K H' S' → RelE c.K H' ρ' σ' → ρ'.length = σ'.length → RelX c.K c.mg c.T k fs cls d H' → Kd.xe k fs ρ' S' → W cls d σ' H'
theorem OkK.after {c : Cn} {W : WX} {S S' : M.Sto} {H H' : Hp} {Kd : M.Kt} {D : Ends} (h : OkK c W S H Kd D) (f : Fr S H S' H') : OkK c W S' H' Kd D :=
  ⟨fun _ _ _ _ f2 => h.nx _ _ _ _ (f.trans f2), h.rt.after f, fun _ _ _ _ f2 => h.bk _ _ _ _ (f.trans f2), fun _ _ _ _ _ _ _ _ f2 => h.xe _ _ _ _ _ _ _ _ (f.trans f2)⟩
theorem OkK.ox {c : Cn} {W : WX} {S : M.Sto} {H : Hp} {Kd : M.Kt} {D : Ends} (h : OkK c W S H Kd D) {ρ : M.Env} {σ : Sl} (re : RelE c.K H ρ σ) (hl : ρ.length = σ.length) (r : RelS c.K H S) :
    OkX c S H (fun k fs S1 => Kd.xe k fs ρ S1) fun cls d H' => W cls d σ H' := fun k fs S' H' cls d f r' rx q => h.xe k fs ρ S' σ H' cls d f r' (re.mono r f) hl rx q
def tS (c : Cn) (W : WX) (st : M.St) : TS := fun D σ H => ∃ ρ S Kd, ρ.length = σ.length ∧ RelE c.K H ρ σ ∧ RelS c.K H S ∧ M.wpS c.G st ρ S Kd ∧ OkK c W S H Kd D
def tSs (c : Cn) (W : WX) (st : M.Ss) : TS := fun D σ H => ∃ ρ S Kd, ρ.length = σ.length ∧ RelE c.K H ρ σ ∧ RelS c.K H S ∧ M.wpSs c.G st ρ S Kd ∧ OkK c W S H Kd D
theorem PS.imp {X : Cx} {e : Stmt} {t t' : TS} (h : PS X e t) (i : ∀ D σ H, t' D σ H → t D σ H) : PS X e t' := ⟨fun pins s σ H D I q => h.run pins s σ H D I (i D σ H q)⟩
theorem PSs.imp {X : Cx} {e : List Stmt} {t t' : TS} (h : PSs X e t) (i : ∀ D σ H, t' D σ H → t D σ H) : PSs X e t' := ⟨fun pins s σ H D I q => h.run pins s σ H D I (i D σ H q)⟩
/-- a def's body's context -/
structure OkS (c : Cn) (k : Nat) (N : List Str) (sc : Scope) (X : Cx) (W : WX) : Prop where
  ok : Ok c k N sc X W
  kind : sc.kind = .function
  fn : ∀ x, X.fn x = true
  po : PassesOwn (model X.prog X.w) X.A X.env X.xe
section
variable {c : Cn} {k : Nat} {N : List Str}
theorem tgt_of {sc : Scope} {X : Cx} {W : WX} (o : OkS c k N sc X W) {t : M.Tg} {tg : Expr} (h : chkTg N (locCB sc) t tg = true) : PG X tg (tgG c.K t) := by
  have q := pgOk (X := X) (t := t) (e := tg) (ok := locCB sc) o.ok.calm (by rw [o.ok.eN]; exact o.ok.nd) (fun x hx => by rw [o.ok.es]; exact ⟨locC_of hx, .inl (o.fn x)⟩) (by rw [o.ok.eN]; exact h)
  rw [o.ok.eK] at q
  exact q
theorem asg_ok {W : WX} {e : M.Ex} {t : M.Tg} {D : Ends} {σ : Sl} {H : Hp} (h : tS c W (.set t e) D σ H) : tAsg (tE c W e) (tgG c.K t) D σ H := by
  obtain ⟨ρ, S, Kd, hl, re, r, w, ok⟩ := h
  refine one_rel hl re r w (ok.ox re hl r) fun x S2 v H2 f r2 rx q => ?_
  exact asg_rel r2 hl (re.mono r f) rx q fun ρ' σ' l1 l2 re' _ q => ok.nx _ _ _ _ f r2 re' l1 q
theorem name3 {N : List Str} {ok : Str → Bool} {i : Nat} {e : Expr} (h : nameAt N ok i e = true) : ∃ x p, e = .Name x p ∧ N[i]? = some x ∧ ok x = true := by
  obtain ⟨x, p, a, b, d, _⟩ := name_of h
  exact ⟨x, p, a, b, d⟩
mutual
theorem psOk : ∀ (st : M.St) {sc : Scope} {ex : Stmt} {X : Cx} {W : WX}, chkS c.T N st sc ex = true → OkS c k N sc X W → PS X ex (tS c W st)
  | .set t e, sc, ex, X, W, h, o => by
    have h : (match (generalizing := false) ex with
      | .Assign [tg] e' _ => chkTg N (locCB sc) t tg && chkE c.T N e sc e' && (setB sc e' tg || (compV t e' && swC sc e' tg))
      | _ => false) = true := h
    split at h
    · rename_i tg e' pos hh
      obtain ⟨h, h3⟩ := and2 h
      obtain ⟨h1, h2⟩ := and2 h
      rcases Bool.or_eq_true_iff.mp h3 with h3 | h3
      · obtain ⟨w1, w2⟩ := set_sw (env := X.env) (l := pos.line) (by rw [o.ok.es]; exact o.kind) (by rw [o.ok.es]; exact h3)
        exact PS.imp (ps_asg (peOk e h2 o.ok).1 (tgt_of o h1) w1 w2 (by cases tg <;> first | rfl | cases h1 | (cases t <;> cases h1))) fun D σ H h => asg_ok h
      · obtain ⟨hv, h3⟩ := and2 h3
        · obtain ⟨i, elt, g0, scope, p0, rfl, rfl⟩ := compV_of hv
          cases e with
          | comp e0 t0 it oc =>
            have h2 : (match (generalizing := false) Expr.ListComp elt [g0] scope p0 with
              | .ListComp e' [⟨tg, it', ifs, k⟩] scope _ => decide (k = 0) && blkC N sc scope (ownOf N (M.tgs t0)) && decide ((ownOf N (M.tgs t0)).map (·.2) = M.tgs t0) && decide (M.tgs t0).Nodup && noSet it' && chkIt c.T N it sc it' (isTupB tg) && chkTg N (tgB scope sc) t0 tg
                  && (match ifs with | [] => chkO c.T N oc (relS scope sc) none | [d] => chkO c.T N oc (relS scope sc) (some d) | _ => false) && chkE c.T N e0 (relS scope sc) e'
              | _ => false) = true := h2
            obtain ⟨tg0, it', ifs, k0⟩ := g0
            obtain ⟨h, g9⟩ := and2 h2
            obtain ⟨h, g8⟩ := and2 h
            obtain ⟨h, g7⟩ := and2 h
            obtain ⟨h, g6⟩ := and2 h
            obtain ⟨h, g5⟩ := and2 h
            obtain ⟨h, g4⟩ := and2 h
            obtain ⟨h, g3⟩ := and2 h
            obtain ⟨g1, g2⟩ := and2 h
            have e0' := of_decide_eq_true g1
            subst e0'
            have eo : (ownOf N (M.tgs t0)).map (·.2) = M.tgs t0 := of_decide_eq_true g3
            obtain ⟨y, py, rfl, a1, a2⟩ := name3 (show nameAt N (locCB sc) i tg = true from h1)
            obtain ⟨b, b3⟩ := and2 (show (locB sc y && (py.line == p0.line) && !(scope.names.any fun (n, k) => n == y && (k == .local || k == .cell))) = true from h3)
            obtain ⟨b1, b2⟩ := and2 b
            have hy : X.env.scope.names.lookup y = some .local := by rw [o.ok.es]; exact loc_of b1
            have hpe : PS X (.Assign [.Name y py] (.ListComp elt [⟨tg0, it', ifs, 0⟩] scope p0) pos) (tAsg (tLc (tIt c W it) (tgG c.K t0) (tCn c oc) (tE c W0 e0) ((ownOf N (M.tgs t0)).map (·.2))) (gName i)) := by
              refine ps_setLc o.ok.calm (by rw [o.ok.eN]; exact o.ok.nd) (o.ok.var a1) hy (sw_true (by rw [o.ok.es]; exact o.kind) hy b2 (not1 b3)) (piOk it g6 o.ok) (by rw [o.ok.eN, o.ok.es]; exact blkOk_by g2) (fun s H C cl fp => ?_) (fun s H C cl fp => ?_) (fun s H C cl fp => ?_) (folded_of g5)
              · have ob := o.ok.blk s H scope C cl fp
                have q := pgOk (X := X.blk s H scope (compEnvC scope cl C X.env) fp) (t := t0) (e := tg0) (ok := tgB scope sc) ob.calm (by rw [ob.eN]; exact ob.nd) (fun x hx => by rw [ob.es]; exact tgB_of hx) (by rw [ob.eN]; exact g7)
                rw [ob.eK] at q
                exact q
              · have ob := o.ok.blk s H scope C cl fp
                split at g8
                · exact (poOk oc g8 ob).2
                · exact (poOk oc g8 ob).2
                · cases g8
              · exact (peOk e0 g9 (o.ok.blk s H scope C cl fp)).1
            refine PS.imp hpe fun D σ H h => ?_
            obtain ⟨ρ, S, Kd, hl, re, r, w, ok⟩ := h
            refine ⟨ρ, S, _, _, hl, re, r, w, fun items chk S1 H1 J f1 r1 m q => ?_, ok.ox re hl r⟩
            rw [eo]
            refine comp_rel (Q := fun x H1 => gName i x σ H1 D.nx) hl (re.mono r f1) r1 m q.1 (fun d S2 v H2 f2 r2 rx q => ?_) q.2
            exact asg_rel r2 (t := .v i) hl ((re.mono r f1).mono r1 f2) rx q fun ρ' σ' l1 l2 re' _ q => ok.nx _ _ _ _ (f1.trans f2) r2 re' l1 q
          | _ => first | cases h2 | exact absurd h2 (by simp [chkE, nameAt, biCall])
    · cases h
  | .par i j a b, sc, ex, X, W, h, o => by
    have h : (match (generalizing := false) ex with
      | .Assign [.Tuple [x, y] _ _] (.Tuple [a', b'] _ _) _ => parB N sc [i, j] [x, y] [a', b'] && chkE c.T N a sc a' && chkE c.T N b sc b'
      | _ => false) = true := h
    split at h
    · rename_i x y kt pt a' b' k2 pt2 pos hh
      obtain ⟨h, h3⟩ := and2 h
      obtain ⟨h1, h2⟩ := and2 h
      obtain ⟨g, g4⟩ := and2 h1
      obtain ⟨g, g3⟩ := and2 g
      obtain ⟨g1, g2⟩ := and2 g
      obtain ⟨n1, n2⟩ := and2 (show (nameAt N (locB sc) i x && namesAt N (locB sc) [j] [y]) = true from g1)
      obtain ⟨n2, _⟩ := and2 (show (nameAt N (locB sc) j y && namesAt N (locB sc) [] []) = true from n2)
      obtain ⟨x, px, rfl, ix, lx⟩ := name3 n1
      obtain ⟨y, py, rfl, iy, ly⟩ := name3 n2
      obtain ⟨p1, p2⟩ := and2 (show (plB a' && [b'].all plB) = true from g3)
      obtain ⟨p2, _⟩ := and2 (show (plB b' && [].all plB) = true from p2)
      have hne : i ≠ j := fun e => by
        have nd : [i, j].Nodup := of_decide_eq_true g2
        subst e
        simp at nd
      have hw := sw_ok (env := X.env) (k := kt) (p := pt) (k2 := k2) (p2 := pt2) (by rw [o.ok.es]; exact o.kind) (by rw [o.ok.es]; exact of_decide_eq_true g4)
      have en : ([i, j].filterMap fun i => N[i]?) = [x, y] := by
        rw [List.filterMap_cons_some ix, List.filterMap_cons_some iy]; rfl
      rw [en] at hw
      refine PS.imp (ps_par o.ok.calm (by rw [o.ok.eN]; exact o.ok.nd) (o.ok.var ix) (o.ok.var iy) hne (by rw [o.ok.es]; exact loc_of lx) (by rw [o.ok.es]; exact loc_of ly) (pa_cons (peOk a h2 o.ok).1 (pa_cons (peOk b h3 o.ok).1 pa_nil (plB_star p2)) (plB_star p1)) hw (swapsSole_not rfl)) fun D σ H h => ?_
      obtain ⟨ρ, S, Kd, hl, re, r, w, ok⟩ := h
      refine two_rel hl re r w (ok.ox re hl r) fun x y S2 v u H2 f r2 rx ry q => ⟨v, u, rfl, ok.nx _ _ _ _ f r2 ?_ (by simp [hl]) q⟩
      have re2 := re.mono r f
      exact (re2.set hl rx i).set (by simp [hl]) ry j
    · cases h
  | .par3 i j l a b d, sc, ex, X, W, h, o => by
    have h : (match (generalizing := false) ex with
      | .Assign [.Tuple [x, y, z] _ _] (.Tuple [a', b', d'] _ _) _ => parB N sc [i, j, l] [x, y, z] [a', b', d'] && chkE c.T N a sc a' && chkE c.T N b sc b' && chkE c.T N d sc d'
      | _ => false) = true := h
    split at h
    · rename_i x y z kt pt a' b' d' k2 pt2 pos hh
      obtain ⟨h, h4⟩ := and2 h
      obtain ⟨h, h3⟩ := and2 h
      obtain ⟨h1, h2⟩ := and2 h
      obtain ⟨g, g4⟩ := and2 h1
      obtain ⟨g, g3⟩ := and2 g
      obtain ⟨g1, g2⟩ := and2 g
      obtain ⟨n1, n2⟩ := and2 (show (nameAt N (locB sc) i x && namesAt N (locB sc) [j, l] [y, z]) = true from g1)
      obtain ⟨n2, n3⟩ := and2 (show (nameAt N (locB sc) j y && namesAt N (locB sc) [l] [z]) = true from n2)
      obtain ⟨n3, _⟩ := and2 (show (nameAt N (locB sc) l z && namesAt N (locB sc) [] []) = true from n3)
      obtain ⟨x, px, rfl, ix, lx⟩ := name3 n1
      obtain ⟨y, py, rfl, iy, ly⟩ := name3 n2
      obtain ⟨z, pz, rfl, iz, lz⟩ := name3 n3
      obtain ⟨p1, p2⟩ := and2 (show (plB a' && [b', d'].all plB) = true from g3)
      obtain ⟨p2, p3⟩ := and2 (show (plB b' && [d'].all plB) = true from p2)
      obtain ⟨p3, _⟩ := and2 (show (plB d' && [].all plB) = true from p3)
      have nd : [i, j, l].Nodup := of_decide_eq_true g2
      have hw := sw_ok (env := X.env) (k := kt) (p := pt) (k2 := k2) (p2 := pt2) (by rw [o.ok.es]; exact o.kind) (by rw [o.ok.es]; exact of_decide_eq_true g4)
      have en : ([i, j, l].filterMap fun i => N[i]?) = [x, y, z] := by
        rw [List.filterMap_cons_some ix, List.filterMap_cons_some iy, List.filterMap_cons_some iz]; rfl
      rw [en] at hw
      refine PS.imp (ps_par3 o.ok.calm (by rw [o.ok.eN]; exact o.ok.nd) (o.ok.var ix) (o.ok.var iy) (o.ok.var iz) (fun e => by subst e; simp at nd) (fun e => by subst e; simp at nd) (fun e => by subst e; simp at nd) (by rw [o.ok.es]; exact loc_of lx) (by rw [o.ok.es]; exact loc_of ly) (by rw [o.ok.es]; exact loc_of lz)
        (pa_cons (peOk a h2 o.ok).1 (pa_cons (peOk b h3 o.ok).1 (pa_cons (peOk d h4 o.ok).1 pa_nil (plB_star p3)) (plB_star p2)) (plB_star p1)) hw (swapsSole_not rfl)) fun D σ H h => ?_
      obtain ⟨ρ, S, Kd, hl, re, r, w, ok⟩ := h
      refine ⟨ρ, S, _, _, hl, re, r, w, fun x S1 v H1 f1 r1 rx q1 => ⟨ρ, S1, _, _, hl, re.mono r f1, r1, q1, fun y S2 u H2 f2 r2 ry q2 => ⟨ρ, S2, _, _, hl, re.mono r (f1.trans f2), r2, q2, fun z S3 w' H3 f3 r3 rz q3 => ?_, (ok.after (f1.trans f2)).ox (re.mono r (f1.trans f2)) hl r2⟩, (ok.after f1).ox (re.mono r f1) hl r1⟩, ok.ox re hl r⟩
      have ff := (f1.trans f2).trans f3
      refine ⟨v, u, w', rfl, ok.nx _ _ _ _ ff r3 ?_ (by simp [hl]) q3⟩
      exact (((re.mono r ff).set hl ((rx.mono r1 f2).mono r2 f3) i).set (by simp [hl]) (ry.mono r2 f3) j).set (by simp [hl]) rz l
    · cases h
  | .nev, sc, ex, X, W, h, o => PS.imp ps_never fun D σ H ⟨ρ, S, Kd, hl, re, r, w, ok⟩ => w
  | .six a i e, sc, ex, X, W, h, o => by
    have h : (match (generalizing := false) ex with
      | .Assign [.Subscript a' i' _] e' _ => plB i' && notComp e' && chkE c.T N a sc a' && chkE c.T N i sc i' && chkE c.T N e sc e'
      | _ => false) = true := h
    split at h
    · obtain ⟨h, h5⟩ := and2 h
      obtain ⟨h, h4⟩ := and2 h
      obtain ⟨h, h3⟩ := and2 h
      obtain ⟨h1, h2⟩ := and2 h
      have eK := o.ok.eK
      have hset : PSet X (tSx c.K) := by rw [← eK]; exact set_listM
      refine PS.imp (ps_asg (peOk e h5 o.ok).1 (pg_sub (peOk a h3 o.ok).1 (peOk i h4 o.ok).1 hset (sub_asg h1)) (swapsSole_not h2)) fun D σ H h => ?_
      obtain ⟨ρ, S, Kd, hl, re, r, w, ok⟩ := h
      refine ⟨ρ, S, _, _, hl, re, r, w, fun z S1 v H1 f1 r1 rz q1 => ⟨ρ, S1, _, _, hl, re.mono r f1, r1, q1, fun x S2 u H2 f2 r2 rx q2 => ⟨ρ, S2, _, _, hl, re.mono r (f1.trans f2), r2, q2, fun y S3 w' H3 f3 r3 ry q3 => ?_, (ok.after (f1.trans f2)).ox (re.mono r (f1.trans f2)) hl r2⟩, (ok.after f1).ox (re.mono r f1) hl r1⟩, ok.ox re hl r⟩
      refine ⟨x, y, z, S3, _, r3, rx.mono r2 f3, ry, (rz.mono r1 f2).mono r2 f3, q3, fun S4 H4 f4 r4 q4 => ?_⟩
      have ff := ((f1.trans f2).trans f3).trans f4
      exact ok.nx _ _ _ _ ff r4 (re.mono r ff) hl q4
    · cases h
  | .ex e, sc, ex, X, W, h, o => by
    have h : (match (generalizing := false) ex with | .Expr e' _ => notComp e' && chkE c.T N e sc e' | _ => false) = true := h
    split at h
    · obtain ⟨h1, h2⟩ := and2 h
      refine PS.imp (ps_expr (peOk e h2 o.ok).1 (swapsWith_not h1)) fun D σ H ⟨ρ, S, Kd, hl, re, r, w, ok⟩ => ?_
      exact one_rel hl re r w (ok.ox re hl r) fun x S2 v H2 f r2 rx q => ok.nx _ _ _ _ f r2 (re.mono r f) hl q
    · cases h
  | .ret e, sc, ex, X, W, h, o => by
    have h : (match (generalizing := false) ex with | .Return (some e') _ => chkE c.T N e sc e' | _ => false) = true := h
    split at h
    · exact PS.imp (ps_ret (peOk e h o.ok).1) fun D σ H ⟨ρ, S, Kd, hl, re, r, w, ok⟩ => ⟨ρ, S, _, _, hl, re, r, w, ok.rt, ok.ox re hl r⟩
    · cases h
  | .retn, sc, ex, X, W, h, o => by
    have h : (match (generalizing := false) ex with | .Return none _ => true | _ => false) = true := h
    split at h
    · exact PS.imp ps_retN fun D σ H ⟨ρ, S, Kd, hl, re, r, w, ok⟩ => ok.rt.same r .non w
    · cases h
  | .if_ g a b, sc, ex, X, W, h, o => by
    have h : (match (generalizing := false) ex with | .If g' a' b' _ => chkE c.T N g sc g' && chkSs c.T N a sc a' && chkSs c.T N b sc b' | _ => false) = true := h
    split at h
    · obtain ⟨h, h3⟩ := and2 h
      obtain ⟨h1, h2⟩ := and2 h
      refine PS.imp (ps_if (peOk g h1 o.ok).2 (pssOk a h2 o) (pssOk b h3 o)) fun D σ H ⟨ρ, S, Kd, hl, re, r, w, ok⟩ => ?_
      exact one_rel hl re r w (ok.ox re hl r) fun x S2 v H2 f r2 rx q => by
        obtain ⟨kb, rfl, qt, qf⟩ := onB_of q
        cases rx
        refine ⟨kb, rfl, ?_⟩
        cases kb with
        | true => show if true = true then _ else _; rw [if_pos rfl]; exact ⟨ρ, S2, Kd, hl, re.mono r f, r2, qt rfl, ok.after f⟩
        | false => show if false = true then _ else _; rw [if_neg Bool.false_ne_true]; exact ⟨ρ, S2, Kd, hl, re.mono r f, r2, qf rfl, ok.after f⟩
    · cases h
  | .while_ g b, sc, ex, X, W, h, o => by
    have h : (match (generalizing := false) ex with | .While g' b' [] _ => chkE c.T N g sc g' && chkSs c.T N b sc b' | _ => false) = true := h
    split at h
    · obtain ⟨h1, h2⟩ := and2 h
      refine PS.imp (ps_while o.po (peOk g h1 o.ok).2 (pssOk b h2 o)) fun D σ H ⟨ρ, S, Kd, hl, re, r, w, ok⟩ => ?_
      obtain ⟨n, w⟩ := (show ∃ n, M.whileN (fun ρ1 S1 nx => M.wpE c.G g ρ1 S1 (fun x S2 => M.onB x fun k => M.br k (M.wpSs c.G b ρ1 S2 { Kd with nx := nx, bk := Kd.nx }) (Kd.nx ρ1 S2)) (fun c fs S2 => Kd.xe c fs ρ1 S2)) n ρ S from w)
      refine ⟨fun m σ' H' => ∃ ρ' S', ρ'.length = σ'.length ∧ RelE c.K H' ρ' σ' ∧ RelS c.K H' S' ∧ Fr S H S' H' ∧ M.whileN (fun ρ1 S1 nx => M.wpE c.G g ρ1 S1 (fun x S2 => M.onB x fun k => M.br k (M.wpSs c.G b ρ1 S2 { Kd with nx := nx, bk := Kd.nx }) (Kd.nx ρ1 S2)) (fun c fs S2 => Kd.xe c fs ρ1 S2)) m ρ' S', ⟨n, ρ, S, hl, re, r, Fr.refl, w⟩, ?_⟩
      rintro m σ1 H1 ⟨ρ1, S1, hl1, re1, r1, f1, w1⟩
      cases m with
      | zero => exact False.elim w1
      | succ m =>
        refine one_rel hl1 re1 r1 w1 ((ok.after f1).ox re1 hl1 r1) fun x S2 v H2 f r2 rx q => ?_
        obtain ⟨kb, rfl, qt, qf⟩ := onB_of q
        cases rx
        refine ⟨kb, rfl, ?_⟩
        have f12 := f1.trans f
        have ok2 := ok.after f12
        cases kb with
        | true =>
          show if true = true then _ else _
          rw [if_pos rfl]
          refine ⟨_, fun σ' H' q => ⟨m, Nat.lt_succ_self m, q⟩, ρ1, S2, _, hl1, re1.mono r1 f, r2, qt rfl, ?_⟩
          exact ⟨fun ρ' S' σ' H' f' r' re' l' q => ⟨ρ', S', l', re', r', f12.trans f', q⟩, ok2.rt, fun ρ' S' σ' H' f' r' re' l' q => ok2.nx ρ' S' σ' H' f' r' re' l' q, ok2.xe⟩
        | false =>
          show if false = true then _ else _
          rw [if_neg Bool.false_ne_true]
          exact ok2.nx _ _ _ _ Fr.refl r2 (re1.mono r1 f) hl1 (qf rfl)
    · cases h
  | .for_ t it b, sc, ex, X, W, h, o => by
    have h : (match (generalizing := false) ex with | .For tg it' b' [] _ => chkTg N (locCB sc) t tg && noSet it' && chkIt c.T N it sc it' (isTupB tg) && chkSs c.T N b sc b' | _ => false) = true := h
    split at h
    · obtain ⟨h, h4⟩ := and2 h
      obtain ⟨h, h3⟩ := and2 h
      obtain ⟨h1, h2⟩ := and2 h
      refine PS.imp (ps_for o.po o.ok.calm (piOk it h3 o.ok) (tgt_of o h1) (pssOk b h4 o) (folded_of h2)) fun D σ H ⟨ρ, S, Kd, hl, re, r, w, ok⟩ => ?_
      refine ⟨ρ, S, _, _, hl, re, r, w, fun items chk S1 H1 J f1 r1 m w => ?_, ok.ox re hl r⟩
      let stp := fun (d : M.D) (ρ1 : M.Env) (S2 : M.Sto) (nx : M.Env → M.Sto → Prop) => M.asg t d S2 ρ1 fun ρ2 => M.wpSs c.G b ρ2 S2 { Kd with nx := nx, bk := Kd.nx }
      refine ⟨fun i m σ' H' => m = items.length - i ∧ i ≤ items.length ∧ ∃ ρ' S', ρ'.length = σ'.length ∧ RelE c.K H' ρ' σ' ∧ RelS c.K H' S' ∧ Fr S1 H1 S' H' ∧ M.forW chk stp Kd.nx (items.drop i) ρ' S', ⟨_, rfl, Nat.zero_le _, ρ, S1, hl, re.mono r f1, r1, Fr.refl, w⟩, ?_⟩
      rintro i m' σ2 H2 ⟨rfl, hi, ρ2, S2, hl2, re2, r2, f2, w2⟩
      by_cases hlt : i < items.length
      · obtain ⟨d, hd⟩ : ∃ d, items[i]? = some d := ⟨items[i], by simp [hlt]⟩
        have ed : items.drop i = d :: items.drop (i + 1) := by
          rw [List.drop_eq_getElem_cons hlt]
          have : items[i] = d := by simpa [hlt] using hd
          rw [this]
        rw [ed] at w2
        obtain ⟨hch, w2⟩ := (show chk S2 ∧ stp d ρ2 S2 (M.forW chk stp Kd.nx (items.drop (i + 1))) from w2)
        obtain ⟨hgo, hy⟩ := (m i S2 H2 f2 r2 hch).1 d hd
        refine .inr ⟨hgo, _, fun σ' H' q => ⟨items.length - (i + 1), by omega, q⟩, fun x H3 y => ?_⟩
        obtain ⟨f3, r3, rx⟩ := hy x H3 y
        have f23 := f2.trans f3
        refine asg_rel r3 hl2 (re2.mono r2 f3) rx w2 fun ρ' σ' l1 l2 re' _ w3 => ⟨ρ', S2, _, l1, re', r3, w3, ?_⟩
        have ok3 := ok.after (f1.trans f23)
        exact ⟨fun ρ4 S4 σ4 H4 f4 r4 re4 l4 q => ⟨rfl, hlt, ρ4, S4, l4, re4, r4, f23.trans f4, q⟩, ok3.rt, fun ρ' S' σ' H' f' r' re' l' q => ok3.nx ρ' S' σ' H' f' r' re' l' q, ok3.xe⟩
      · have e : i = items.length := by omega
        subst e
        rw [List.drop_length] at w2
        obtain ⟨hch, w2⟩ := (show chk S2 ∧ Kd.nx ρ2 S2 from w2)
        exact .inl ⟨(m _ S2 H2 f2 r2 hch).2 rfl, ok.nx _ _ _ _ (f1.trans f2) r2 re2 hl2 w2⟩
    · cases h
  | .brk, sc, ex, X, W, h, o => by
    have h : (match (generalizing := false) ex with | .Break _ => true | _ => false) = true := h
    split at h
    · exact PS.imp ps_break fun D σ H ⟨ρ, S, Kd, hl, re, r, w, ok⟩ => ok.bk _ _ _ _ Fr.refl r re hl w
    · cases h
  | .pass, sc, ex, X, W, h, o => by
    have h : (match (generalizing := false) ex with | .Pass _ => true | _ => false) = true := h
    split at h
    · exact PS.imp ps_pass fun D σ H ⟨ρ, S, Kd, hl, re, r, w, ok⟩ => ok.nx _ _ _ _ Fr.refl r re hl w
    · cases h
  | .raise _ _, _, _, _, _, h, _ => nomatch h
  | .try_ _ _ _ _, _, _, _, _, h, _ => nomatch h
theorem pssOk : ∀ (st : M.Ss) {sc : Scope} {ex : List Stmt} {X : Cx} {W : WX}, chkSs c.T N st sc ex = true → OkS c k N sc X W → PSs X ex (tSs c W st)
  | .nil, sc, ex, X, W, h, o => by
    cases ex with
    | nil => exact PSs.imp pss_nil fun D σ H ⟨ρ, S, Kd, hl, re, r, w, ok⟩ => ok.nx _ _ _ _ Fr.refl r re hl w
    | cons _ _ => cases h
  | .cons s q, sc, ex, X, W, h, o => by
    cases ex with
    | nil => cases h
    | cons s' q' =>
      obtain ⟨h1, h2⟩ := and2 (show (chkS c.T N s sc s' && chkSs c.T N q sc q') = true from h)
      refine PSs.imp (pss_cons (psOk s h1 o) (pssOk q h2 o)) fun D σ H ⟨ρ, S, Kd, hl, re, r, w, ok⟩ => ?_
      exact ⟨ρ, S, _, hl, re, r, w, fun ρ1 S1 σ1 H1 f1 r1 re1 l1 q => ⟨ρ1, S1, Kd, l1, re1, r1, q, ok.after f1⟩, ok.rt, ok.bk, ok.xe⟩
end
end
end Snd
namespace Snd
open PySem PySem.Spec PyProof.Rows L2
/-! ### a def of the text -/
section
variable {P : Program} {w : World} {K : Frag} {mg : Str → Option Value} {base : Heap} {k : Nat} {name qual : Str} {params : Arguments} {body : List Stmt} {scope : Scope} {f : Addr} {fd : FuncData} {N ps : List Str}
/-- the entry's base lies in the heap: the module's objects, no limit set -/
theorem base_in {A : Around} {outer : List Env} {s : Shared} {H : Hp} (e0 : Env0 P w K mg base A outer s H) : K.In s.heap ∧ s.heap.NoLimit := by
  have up : ∀ b o, base.get? b = some o → s.heap.get? b = some o := fun b o h => (e0.bs b o h).1
  exact ⟨e0.mod.kin.keeps up, e0.mod.nolimit.keeps up⟩
/-- each parameter is a local, or its cell is made -/
theorem par_kind (S : FnScope N ps scope) {us : List Value} {n : Nat} : ∀ z ∈ ps.zip us, scope.names.lookup z.1 = some .local ∨ (scope.names.lookup z.1 = some .cell ∧ ((cellsFrom n scope.names []).lookup z.1).isSome = true) := by
  rintro ⟨x, u⟩ hz
  cases S.par x (List.of_mem_zip hz).1 with
  | inl l => exact Or.inl l
  | inr c => exact Or.inr ⟨c, PySem.W.cellsFrom_some _ _ _ (Or.inl c)⟩
/-- how a body ends, told as a call's end -/
theorem end_of {cdv : Value} {A : Around} {outer : List Env} {s s2 : Shared} {H : Hp} {Q : VK} {E : XK} {fl : Flow}
    (h : SP (cxOf (L2.CX P w) P w K mg base N qual scope f cdv A outer s H E) [] { nx := fun _ H' => Q .non H', rt := Q } fl s2) (nb : fl ≠ .brk ∧ fl ≠ .cont) :
    CE outer P w H s Q (match fl with | .ret u => u | _ => .none) s2 := by
  match fl, h, nb with
  | .ret u, ⟨v, _, H2, I2, rel, q⟩, _ => exact ⟨v, H2, I2.os, I2.bare, I2.base, I2.hok, rel, q⟩
  | .next, ⟨_, H2, I2, q⟩, _ => exact ⟨.non, H2, I2.os, I2.bare, I2.base, I2.hok, rfl, q⟩
  | .brk, _, nb => exact absurd rfl nb.1
  | .cont, _, nb => exact absurd rfl nb.2
/-- a def by its body, where no repr is under way -/
theorem fnG_of {sp : L2.Sp} (F : FunD K name qual params body scope [] [] f fd) (S : FnScope N ps scope) (len : ∀ xs Hx Qx Ex, sp xs Hx Qx Ex → xs.length = ps.length)
    (run : ∀ (cdv : Value) (A : Around) (outer : List Env) (s : Shared) (H : Hp) (xs : List V) (Q : VK) (E : XK), Room k (A.deeper (envOfC qual scope s.heap.objs.size f cdv)) → A.guards = some [] → sp xs H Q E →
      ∃ t, PSs (cxOf (L2.CX P w) P w K mg base N qual scope f cdv A outer s H E) body t ∧ t { nx := fun _ H' => Q .non H', rt := Q } (L2.start N xs) H) : FnG P w K mg base (k + 1) f fd ps sp where
  len := len
  run := by
    intro A outer s H args us xs Q E room quiet env bound rel want
    obtain ⟨c1, c2, c3, c4, c5, c6, c7, cdv, c9, c10, same, stands, code, -, -⟩ := F.ex
    subst same
    obtain ⟨inK, free⟩ := base_in env
    refine codeAny_call_function room.depth (inK _ _ stands) rfl S.co S.gen rfl (PySem.W.codeRec_of inK code) (bound _ _ _ _ ?_)
    refine wpAny_newFunctionEnv_cells S.kind (par_kind S) fun env' made s1 entry => ?_
    subst made
    refine ⟨free.keeps entry.toInCall.keep, codeAny_func ?_⟩
    obtain ⟨t, ok, start⟩ := run cdv A outer s H xs Q E (room.deeper _) quiet want
    have I0 := inv_start (CX := L2.CX P w) (qual := qual) (f := f) (cd := cdv) (E := E) S room.hd env (len _ _ _ _ want) rel entry
    refine wpAny_mono (ok.run [] s1 _ H _ I0 start) (fun fl s2 done => ?_) fun _ _ out => out
    match fl, done with
    | .ret u, done => exact end_of done ⟨nofun, nofun⟩
    | .next, done => exact end_of done ⟨nofun, nofun⟩
    | .brk, ⟨_, _, _, no⟩ => exact False.elim no
    | .cont, ⟨_, _, _, no⟩ => exact False.elim no
/-- what a law's text stands on -/
structure Law (c : Cn) (P : Program) (w : World) (base : Heap) (k : Nat) : Prop where
  rp : c.G.rp = rpF
  bt : ∀ x ∈ c.T.bts, c.mg x = none
  con : ∀ n x, c.T.cons[n]? = some x → ∃ u v, c.mg x = some u ∧ RelV v u ∧ ∀ H, RelD c.K H (c.G.con n) v
  fns : ∀ n x, c.T.fns[n]? = some x → ∃ f fd ps, Def c.K c.mg c.T n x f fd ps ∧ FnG P w c.K c.mg base k f fd ps (lift c (M.cl (c.G.fn n)))
theorem start_rel {K : Frag} {H : Hp} {ds : List M.D} {vs : List V} (r : RelDs K H ds vs) : RelE K H (M.start N.length ds) (L2.start N vs) := by
  have e : ∀ {ds : List M.D} {vs : List V} {n m : Nat}, RelDs K H ds vs → ∀ (i : Nat) (d : M.D), (ds.map some ++ List.replicate n none)[i]? = some (some d) → ∃ v, (vs.map some ++ List.replicate m (none : Option V))[i]? = some (some v) ∧ RelD K H d v := by
    intro ds vs n m r i d h
    by_cases hi : i < ds.length
    · rw [List.getElem?_append_left (by simpa using hi), List.getElem?_map] at h
      obtain ⟨d', h1, h2⟩ := Option.map_eq_some_iff.mp h
      cases h2
      obtain ⟨v, g1, g2⟩ := r.get h1
      refine ⟨v, ?_, g2⟩
      rw [List.getElem?_append_left (by rw [List.length_map, ← r.length]; exact hi), List.getElem?_map, g1]
      rfl
    · rw [List.getElem?_append_right (by simpa using hi), List.getElem?_replicate] at h
      split at h <;> cases h
  exact e r
theorem fn_ok {c : Cn} (L : Law c P w base k) {ast : M.Ss} {sp : M.Sp} (F : FunD c.K name qual params body scope [] [] f fd) (S : FnScope N ps scope) (ck : chkSs c.T N ast scope body = true)
    (spec : ∀ ds S0 Q X, sp ds S0 Q X → ds.length = ps.length ∧ M.wpSs c.G ast (M.start N.length ds) S0 ⟨fun _ S' => Q .non S', Q, fun _ _ => False, fun k fs _ S' => X k fs S'⟩) :
    FnG P w c.K c.mg base (k + 1) f fd ps (lift c (M.cl sp)) := by
  have pl : ps.length ≤ N.length := by have := congrArg List.length S.pre; rw [List.length_take] at this; omega
  refine fnG_of F S (fun vs H Q E ⟨ds, S0, Qd, Xd, rd, r, ⟨Q0, X0, q, _⟩, _⟩ => by rw [← rd.length]; exact (spec _ _ _ _ q).1) fun cdv A outer s H vs Q E hr hg ⟨ds, S0, Qd, Xd, rd, r, ⟨Q0, X0, q, hQ, hX⟩, hq, hx⟩ => ?_
  obtain ⟨hlen, hw⟩ := spec _ _ _ _ q
  have ok : OkS c k N scope (cxOf (L2.CX P w) P w c.K c.mg base N qual scope f cdv A outer s H E) (fun cls d _ H => E cls d H) := {
    ok := {
      eN := rfl
      es := rfl
      eK := rfl
      em := rfl
      nd := S.nd
      calm := rfl
      room := hr
      gd := hg
      rp := L.rp
      bt := L.bt
      con := L.con
      fns := L.fns
      tk := takes_of rfl rfl rfl rfl }
    kind := S.kind
    fn := fun _ => rfl
    po := passes_of (X := cxOf (L2.CX P w) P w c.K c.mg base N qual scope f cdv A outer s H E) rfl }
  refine ⟨_, pssOk ast ck ok, M.start N.length ds, S0, _, ?_, start_rel rd, r, hw, ?_⟩
  · unfold M.start L2.start
    rw [List.length_append, List.length_append, List.length_map, List.length_map, List.length_replicate, List.length_replicate, rd.length]
  · exact ⟨fun ρ' S' σ' H' f' r' re' l' q => hq .non S' .non H' f' r' .non (hQ _ _ q), fun d S' v H' f' r' rd' q => hq d S' v H' f' r' rd' (hQ _ _ q), fun _ _ _ _ _ _ _ _ q => False.elim q, fun kx fs ρ' S' σ' H' cls d f' r' re' l' rx q => hx kx fs S' H' cls d f' r' rx (hX _ _ _ q)⟩
end
/-! ### the law's end -/
/-- where the script lies at a: nothing else is tracked -/
def onlyAt (H : Hp) (a : Addr) : Prop := ∀ b, H b ≠ none → b = a
/-- the heap without the script is a base for the law's def -/
theorem env_script {P : Program} {w : World} {K : Frag} {mg mb : Str → Option Value} {a : Addr} {s : Shared} {vs : List Value} {H : Hp} (inK : K.In s.heap) (hg : s.heap.Ns mainGlobals mg) (hb : s.heap.Ns builtinsNs mb) (hbb : ∀ x : Str, x ≠ "__name__" → mb x = bootBuiltins x) (free : s.heap.NoLimit) (quiet : s.gens = #[])
    (obj : s.heap.get? a = some { cls := .type "list", data := .seq vs.toArray }) (one : onlyAt H a) (apart : H a ≠ none → K.lookup a = none) (ok : HOk P w H s.heap) :
    Env0 P w K mg (hidT s.heap H) callerA [] s H ∧ K.In (hidT s.heap H) ∧ (hidT s.heap H).Ns mainGlobals mg := by
  -- a record that is not the script's stands in the base
  have stay : ∀ {b : Addr} {o : Obj}, s.heap.get? b = some o → (b = a → H b = none) → (hidT s.heap H).get? b = some o := fun {b o} e n => hidT_get e (Classical.byContradiction fun t => t (n (one b t)))
  have names : ∀ {b : Addr} {m : Str → Option Value}, s.heap.Ns b m → (hidT s.heap H).Ns b m := by
    rintro b m ⟨o, es, ep, at_, dat, rest⟩
    refine ⟨o, es, ep, stay at_ fun e => ?_, dat, rest⟩
    rw [e, obj] at at_
    rw [← Option.some.inj at_] at dat
    exact nomatch (show Data.seq vs.toArray _ = Data.dict es ep from dat)
  have kin : K.In (hidT s.heap H) := fun b o e => stay (inK b o e) fun hba => by
    subst hba
    exact Classical.byContradiction fun t => by have z := apart t; rw [e] at z; cases z
  obtain ⟨mc, lim1, lim2⟩ := free
  refine ⟨{ frames := rfl, mod := ⟨kin, names hg, ⟨mb, names hb, hbb⟩, ⟨mc, names lim1, lim2⟩⟩, bs := fun _ _ e => of_hidT e, bsz := Nat.le_of_eq (hidT_size _ _), funs := trivial, frf := ?_, hok := ok, bare := AllBare.of_eq quiet }, kin, names hg⟩
  intro b z
  cases z
/-- what stood stands behind the law's call -/
theorem old_script {P : Program} {w : World} {H H2 : Hp} {h h2 : Heap} (only : Only H) (un : Un (frs []) [] H H2 h h2) (ok : HOk P w H h) (ok2 : HOk P w H2 h2) : OldK h h2 := by
  refine OldK.of_keep fun b o e => ?_
  rcases only b with z | ⟨ob, xs, z⟩
  · exact un.keep b o e z nofun nofun
  · have u1 := (ok b _ z).1
    have u2 := (ok2 b _ (un.frzs b ob _ z)).1
    rw [u1] at e
    rw [← e]
    exact u2
/-- the law's promise: of the script as a list that is never written, True comes -/
theorem law_callG {P : Program} {w : World} {K : Frag} {mg mb : Str → Option Value} {k : Nat} {fa a : Addr} {fd : FuncData} {x : Str} {sp : L2.Sp} {s : Shared} {vs : List Value} {ns : List Int}
    (inK : K.In s.heap) (hg : s.heap.Ns mainGlobals mg) (hb : s.heap.Ns builtinsNs mb) (hbb : ∀ y : Str, y ≠ "__name__" → mb y = bootBuiltins y) (free : s.heap.NoLimit) (quiet : s.gens = #[])
    (obj : s.heap.get? a = some { cls := .type "list", data := .seq vs.toArray }) (hints : IntsAre vs ns) (small : ns.length ≤ sizeLine) (room : Room k callerA)
    (F : ∀ base : Heap, K.In base → base.Ns mainGlobals mg → FnG P w K mg base k fa fd [x] sp) (bind : ∀ (t : Shared) (u : Value), BindsTo t fd ⟨[u], []⟩ [(x, u)])
    (want : ∀ H : Hp, Only H → SqF K H a (ns.map V.int) → sp [.ref a] H (fun v _ => v = .bl true) fun _ _ _ => False) :
    codeAny (model P w) callerA (.call (.ref fa) ⟨[.ref a], []⟩) (fun r t => r = .ok (.ret (.bool true)) ∧ OldK s.heap t.heap ∧ t.os = s.os ∧ AllBare t.gens) s := by
  have vals := vals_ints hints
  have go : ∀ H : Hp, Only H → SqF K H a (ns.map V.int) → HOk P w H s.heap → onlyAt H a → (H a ≠ none → K.lookup a = none) →
      codeAny (model P w) callerA (.call (.ref fa) ⟨[.ref a], []⟩) (fun r t => r = .ok (.ret (.bool true)) ∧ OldK s.heap t.heap ∧ t.os = s.os ∧ AllBare t.gens) s := fun H only sq ok one apart => by
    obtain ⟨env, kin, nsg⟩ := env_script (P := P) (w := w) inK hg hb hbb free quiet obj one apart ok
    have call := (F _ kin nsg).run callerA [] s H ⟨[.ref a], []⟩ [.ref a] [.ref a] _ _ room rfl env (bind s (.ref a)) (Paired.cons rfl Paired.nil) (want H only sq)
    refine codeAny_mono call fun r t out => ?_
    match r, out with
    | .error e, out => obtain ⟨_, _, _, _, _, _, _, _, _, _, _, _, no⟩ := (show L2.CX P w [] H s (fun _ _ _ => False) e t from out); exact no.elim
    | .ok .next, out => exact False.elim out
    | .ok .brk, out => exact False.elim out
    | .ok .cont, out => exact False.elim out
    | .ok (.ret u), ⟨v, H2, os, bare, un, ok2, rel, q⟩ =>
      have ev : v = .bl true := q
      subst ev
      have eu : u = Value.bool true := rel
      subst eu
      exact ⟨rfl, old_script only un ok ok2, os, bare⟩
  by_cases hk : K.lookup a = none
  · -- the script is tracked as a list that is never written
    let Hs : Hp := fun b => if b = a then some (.frz { cls := .type "list", data := .seq vs.toArray } (.lst (ns.map V.int))) else none
    have at_ : Hs a = some (.frz { cls := .type "list", data := .seq vs.toArray } (.lst (ns.map V.int))) := if_pos rfl
    have off : ∀ b, b ≠ a → Hs b = none := fun b hb => if_neg hb
    refine go Hs (fun b => ?_) (Or.inl ⟨_, at_⟩) (fun b u e => ?_) (fun b t => Classical.byContradiction fun hb => t (off b hb)) fun _ => hk
    · exact if hb : b = a then Or.inr ⟨_, _, hb ▸ at_⟩ else Or.inl (off b hb)
    · by_cases hb : b = a
      · subst hb
        rw [at_] at e
        cases e
        refine ⟨obj, ?_, vs, _, vals, obj⟩
        rw [List.length_map]
        exact small
      · rw [off b hb] at e
        cases e
  · -- the script is an object of the module
    obtain ⟨o, ho⟩ := Option.ne_none_iff_exists'.mp hk
    have eo := inK a o ho
    rw [obj] at eo
    have eo := Option.some.inj eo
    subst eo
    refine go (fun _ => none) (fun _ => Or.inl rfl) (Or.inr ⟨_, vs.toArray, _, ho, rfl, rfl, rfl, ?_, ?_⟩) (fun b u e => nomatch (show (none : Option HO) = some u from e)) (fun b t => absurd rfl t) fun t => absurd rfl t
    · rw [List.size_toArray, hints.length]
      exact small
    · simpa using vals
theorem rel_ints {K : Frag} {H : Hp} : ∀ ns : List Int, RelDs K H (ns.map M.D.int) (ns.map V.int)
  | [] => .nil
  | n :: ns => .cons (.int n) (rel_ints ns)
/-- THE END: the promise of the law's def in the small language -/
theorem walkG {l : PySem.W.OpenLaw} {n k : Nat} {q : Program} {loose : List Str} {XP : (Str → Option Value) → Heap → Prop} {YP : World → Heap → Prop} {d : DefRec} {x : Str} {sp : M.Sp}
    (hn : l.most = some n) (hn2 : n ≤ sizeLine) (hdf : d.params.defaults = []) (hr : Room k callerA)
    (hsp : ∀ (ns : List Int), ns.length ≤ n → sp [.fl (ns.map .int)] (fun _ => none) (fun v _ => v = .bl true) fun _ _ _ => False)
    (F : ∀ (w : World) (mg : Str → Option Value) (fa : Addr) (h : Heap), YP w h → h.Ns mainGlobals mg → mg d.name = some (.ref fa) →
      ∃ (K : Frag) (fd : FuncData) (T : Tb) (G : M.Gm), K.In h ∧ (∀ (s : Shared) (u : Value), BindsTo s fd ⟨[u], []⟩ [(x, u)]) ∧
        ∀ base : Heap, K.In base → base.Ns mainGlobals mg → FnG l.prog w K mg base k fa fd [x] (lift ⟨K, mg, T, G⟩ (M.cl sp))) :
    PySem.W.WalkO q loose XP YP l.row.toRowW d [] (fun f vs => PySem.call f vs) := by
  refine Att.attach_call hn hdf fun w s₀ s₁ mg mb fa o pm cd doc a vs ns G Y ho hd hcd hmg hobj hints hlen hg => ?_
  obtain ⟨K, fd, T, Gm, KX, hb, hF⟩ := F w mg fa _ Y G.T.g hmg
  refine law_callG KX G.T.g G.T.b G.T.builtins G.T.nolimit hg hobj hints (Nat.le_trans hlen hn2) hr hF hb fun H hO hS => ?_
  refine ⟨[.fl (ns.map .int)], fun _ => none, _, _, .cons (.fl hS (rel_ints ns)) .nil, (fun a o e => by cases e), M.cl_of (hsp ns hlen), fun d S' v H' f r rd q => ?_, fun _ _ _ _ _ _ _ _ _ q => False.elim q⟩
  subst q
  cases rd
  rfl
end Snd
namespace Snd
open PySem PySem.Spec PyProof.Rows L2
section
variable {K : Frag} {x qual : Str} {params : Arguments} {body : List Stmt} {scope : Scope} {kws : List (Str × V)} {f : Addr} {fd : FuncData} {ps ks : List Str} {m : Nat} {perm : List Nat}
theorem kb_of (F : FunD K x qual params body scope [] kws f fd)
    (h : ∀ (kV doc pm : Value) (an : Option Addr) (cdv ct : Value) (us ws : List Value), us.length = m → ws.length = ks.length → bindArgs (PySem.W.fnOf x qual params body scope .none kV doc pm an cdv ct) ⟨us, ks.zip ws⟩ = pure (ps.zip (perm.filterMap fun i => (us ++ ws)[i]?))) : KB K fd ps m ks perm := by
  obtain ⟨oc, od, dV, kV, doc, pm, an, cdv, ct, osl, rfl, lk, hcd, hD, hK⟩ := F.ex
  rcases hD with ⟨_, rfl⟩ | ⟨e, _⟩
  · exact fun s us ws _ h1 h2 => .of_eq (h kV doc pm an cdv ct us ws h1 h2)
  · exact absurd rfl e
end
/-- the specs below n -/
def stage (sp : Nat → M.Sp) (con : Nat → M.D) (n : Nat) : M.Gm := ⟨M.upto n sp, con, fun _ _ => false, rpF⟩
theorem never_fn {c : Cn} {P : Program} {w : World} {base : Heap} {k : Nat} {f : Addr} {fd : FuncData} {ps : List Str} {sp : M.Sp} (h : ∀ ds S Q X, ¬ sp ds S Q X) : FnG P w c.K c.mg base k f fd ps (lift c (M.cl sp)) :=
  .never fun vs H Q E ⟨ds, S, Qd, Xd, _, _, ⟨Q0, X0, q, _⟩, _⟩ => h _ _ _ _ q
/-- all defs of a text, callees first; lev n: the room that the n-th wants below it, cost n: its own (a recursive def: its depth) -/
theorem chain {P : Program} {w : World} {K : Frag} {mg : Str → Option Value} {T : Tb} {base : Heap} {sp : Nat → M.Sp} {con : Nat → M.D} (lev cost : Nat → Nat) (hl : ∀ m n, m < n → lev m + cost m ≤ lev n) (bt : ∀ x ∈ T.bts, mg x = none)
    (cn : ∀ n x, T.cons[n]? = some x → ∃ u v, mg x = some u ∧ RelV v u ∧ ∀ H, RelD K H (con n) v)
    (D : ∀ n x, T.fns[n]? = some x → ∃ f fd ps, Def K mg T n x f fd ps ∧ ∀ k, Law ⟨K, mg, T, stage sp con n⟩ P w base k → FnG P w K mg base (k + cost n) f fd ps (lift ⟨K, mg, T, stage sp con n⟩ (M.cl (sp n)))) :
    ∀ n, Law ⟨K, mg, T, stage sp con n⟩ P w base (lev n) := by
  have go : ∀ N n, n < N → ∀ x, T.fns[n]? = some x → ∃ f fd ps, Def K mg T n x f fd ps ∧ ∀ G, FnG P w K mg base (lev n + cost n) f fd ps (lift ⟨K, mg, T, G⟩ (M.cl (sp n))) := by
    intro N
    induction N with
    | zero => exact fun _ h => absurd h (Nat.not_lt_zero _)
    | succ N ih =>
      intro n hn x hx
      obtain ⟨f, fd, ps, d, F⟩ := D n x hx
      refine ⟨f, fd, ps, d, fun G => F (lev n) ⟨rfl, bt, cn, fun m y hy => ?_⟩⟩
      by_cases hm : m < n
      · obtain ⟨g, gd, qs, d2, F2⟩ := ih m (by omega) y hy
        refine ⟨g, gd, qs, d2, ?_⟩
        have e : (stage sp con n).fn m = sp m := if_pos hm
        rw [show (Cn.G ⟨K, mg, T, stage sp con n⟩) = stage sp con n from rfl, e]
        exact (F2 _).mono (hl m n hm)
      · obtain ⟨g, gd, qs, d2, _⟩ := D m y hy
        refine ⟨g, gd, qs, d2, ?_⟩
        have e : (stage sp con n).fn m = fun _ _ _ _ => False := if_neg hm
        rw [show (Cn.G ⟨K, mg, T, stage sp con n⟩) = stage sp con n from rfl, e]
        exact never_fn (c := ⟨K, mg, T, stage sp con n⟩) fun _ _ _ _ q => q
  refine fun n => ⟨rfl, bt, cn, fun m y hy => ?_⟩
  by_cases hm : m < n
  · obtain ⟨g, gd, qs, d2, F2⟩ := go (m + 1) m (Nat.lt_succ_self m) y hy
    refine ⟨g, gd, qs, d2, ?_⟩
    have e : (stage sp con n).fn m = sp m := if_pos hm
    rw [show (Cn.G ⟨K, mg, T, stage sp con n⟩) = stage sp con n from rfl, e]
    exact (F2 _).mono (hl m n hm)
  · obtain ⟨g, gd, qs, d2, _⟩ := D m y hy
    refine ⟨g, gd, qs, d2, ?_⟩
    have e : (stage sp con n).fn m = fun _ _ _ _ => False := if_neg hm
    rw [show (Cn.G ⟨K, mg, T, stage sp con n⟩) = stage sp con n from rfl, e]
    exact never_fn (c := ⟨K, mg, T, stage sp con n⟩) fun _ _ _ _ q => q
/-- a text without recursion -/
theorem chain_law {P : Program} {w : World} {K : Frag} {mg : Str → Option Value} {T : Tb} {base : Heap} {sp : Nat → M.Sp} {con : Nat → M.D} (bt : ∀ x ∈ T.bts, mg x = none)
    (cn : ∀ n x, T.cons[n]? = some x → ∃ u v, mg x = some u ∧ RelV v u ∧ ∀ H, RelD K H (con n) v)
    (D : ∀ n x, T.fns[n]? = some x → ∃ f fd ps, Def K mg T n x f fd ps ∧ ∀ k, Law ⟨K, mg, T, stage sp con n⟩ P w base k → FnG P w K mg base (k + 1) f fd ps (lift ⟨K, mg, T, stage sp con n⟩ (M.cl (sp n)))) (n : Nat) :
    Law ⟨K, mg, T, stage sp con n⟩ P w base n := chain (fun n => n) (fun _ => 1) (fun _ _ h => h) bt cn D n
/-- a recursive def: its promise with fuel; a call of itself spends some -/
theorem rec_fn {P : Program} {w : World} {K : Frag} {mg : Str → Option Value} {T : Tb} {base : Heap} {sp : Nat → M.Sp} {con : Nat → M.D} {n k : Nat} {x : Str} {f : Addr} {fd : FuncData} {ps : List Str} (L : Law ⟨K, mg, T, stage sp con n⟩ P w base k) (d : Def K mg T n x f fd ps) (hx : T.fns[n]? = some x)
    (fuel : Nat → M.Sp) (h0 : ∀ ds S Q X, ¬ fuel 0 ds S Q X)
    (step : ∀ m k, Law ⟨K, mg, T, { stage sp con n with fn := fun i => if i = n then fuel m else M.upto n sp i }⟩ P w base k → FnG P w K mg base (k + 1) f fd ps (lift ⟨K, mg, T, stage sp con n⟩ (M.cl (fuel (m + 1))))) :
    ∀ m, FnG P w K mg base (k + m) f fd ps (lift ⟨K, mg, T, stage sp con n⟩ (M.cl (fuel m)))
  | 0 => never_fn (c := ⟨K, mg, T, stage sp con n⟩) (h0)
  | m + 1 => step m (k + m) ⟨rfl, L.bt, L.con, fun i y hy => by
    by_cases hi : i = n
    · subst hi
      have e : x = y := Option.some.inj (hx.symm.trans hy)
      subst e
      refine ⟨f, fd, ps, d, ?_⟩
      show FnG P w K mg base (k + m) f fd ps (lift _ (M.cl (if i = i then fuel m else M.upto i sp i)))
      rw [if_pos rfl]
      exact rec_fn L d hx fuel h0 step m
    · obtain ⟨g, gd, qs, d2, F2⟩ := L.fns i y hy
      refine ⟨g, gd, qs, d2, ?_⟩
      show FnG P w K mg base (k + m) g gd qs (lift _ (M.cl (if i = n then fuel m else M.upto n sp i)))
      rw [if_neg hi]
      exact F2.mono (Nat.le_add_right _ _)⟩
/-- with some fuel below B -/
theorem rec_all {c : Cn} {P : Program} {w : World} {base : Heap} {k B : Nat} {f : Addr} {fd : FuncData} {ps : List Str} {fuel : Nat → M.Sp} (F : ∀ m, FnG P w c.K c.mg base (k + m) f fd ps (lift c (M.cl (fuel m)))) :
    FnG P w c.K c.mg base (k + B) f fd ps (lift c (M.cl fun ds S Q X => ∃ m, m < B ∧ fuel m ds S Q X)) where
  len := fun vs H Q E ⟨ds, S, Qd, Xd, r1, r2, ⟨Q0, X0, ⟨m, _, q⟩, g1, g2⟩, h1, h2⟩ => (F m).len vs H Q E ⟨ds, S, Qd, Xd, r1, r2, ⟨Q0, X0, q, g1, g2⟩, h1, h2⟩
  run := fun A outer s H args us vs Q E hr hg e0 hb rv ⟨ds, S, Qd, Xd, r1, r2, ⟨Q0, X0, ⟨m, hm, q⟩, g1, g2⟩, h1, h2⟩ => ((F m).mono (Nat.add_le_add_left (Nat.le_of_lt hm) k)).run A outer s H args us vs Q E hr hg e0 hb rv ⟨ds, S, Qd, Xd, r1, r2, ⟨Q0, X0, q, g1, g2⟩, h1, h2⟩
end Snd
namespace Snd
open PySem PySem.Spec PyProof.Rows L2
/-! ### constants of the module: numbers, texts, nested tuples -/
mutual
def conB (K : Frag) : M.D → Value → Bool
  | .non, u => (match u with | .none => true | _ => false)
  | .bl b, u => (match u with | .bool d => b == d | _ => false)
  | .int i, u => (match u with | .int j _ => decide (i = j) | _ => false)
  | .str x, u => (match u with | .str y _ => decide (stx x = y) | _ => false)
  | .tup ds, u => (match u with
    | .ref a => (match K.lookup a with
      | some ⟨.type c, _, .seq its _, _⟩ => decide (c = "tuple") && decide (its.size ≤ sizeLine) && consB K ds its.toList
      | _ => false)
    | _ => false)
  | _, _ => false
def consB (K : Frag) : List M.D → List Value → Bool
  | [], us => us.isEmpty
  | d :: ds, us => (match us with | u :: us => conB K d u && consB K ds us | [] => false)
end
mutual
theorem conB_ok {K : Frag} : ∀ (d : M.D) {u : Value}, conB K d u = true → ∃ v, RelV v u ∧ ∀ H, RelD K H d v
  | .non, u, h => by
    cases u <;> first | exact ⟨.non, rfl, fun _ => .non⟩ | cases h
  | .bl b, u, h => by
    cases u <;> first | cases h | skip
    rename_i d
    have e : b = d := by simpa [conB] using h
    subst e
    exact ⟨.bl b, rfl, fun _ => .bl b⟩
  | .int i, u, h => by
    cases u <;> first | cases h | skip
    rename_i j t
    have e : i = j := of_decide_eq_true h
    subst e
    exact ⟨.int i, ⟨t, rfl⟩, fun _ => .int i⟩
  | .str x, u, h => by
    cases u <;> first | cases h | skip
    rename_i y t
    have e : stx x = y := of_decide_eq_true h
    subst e
    exact ⟨.str (stx x), ⟨t, rfl⟩, fun _ => .str x⟩
  | .tup ds, u, h => by
    cases u with
    | ref a =>
      have h : (match (generalizing := false) K.lookup a with
        | some ⟨.type c, _, .seq its _, _⟩ => decide (c = "tuple") && decide (its.size ≤ sizeLine) && consB K ds its.toList
        | _ => false) = true := h
      split at h
      · rename_i c od its n sl q
        obtain ⟨h, h3⟩ := and2 h
        obtain ⟨h1, h2⟩ := and2 h
        have e := of_decide_eq_true h1
        subst e
        obtain ⟨vs, rv, rd⟩ := consB_ok ds h3
        exact ⟨.ref a, rfl, fun H => .tup (.inr ⟨_, its, n, q, rfl, rfl, of_decide_eq_true h2, rv⟩) (rd H)⟩
      · cases h
    | _ => cases h
  | .fl _, _, h => by simp [conB] at h
  | .ref _, _, h => by simp [conB] at h
  | .xn _ _, _, h => by simp [conB] at h
theorem consB_ok {K : Frag} : ∀ (ds : List M.D) {us : List Value}, consB K ds us = true → ∃ vs, Vals vs us ∧ ∀ H, RelDs K H ds vs
  | [], us, h => by
    cases us with
    | nil => exact ⟨[], .nil, fun _ => .nil⟩
    | cons _ _ => cases h
  | d :: ds, us, h => by
    cases us with
    | nil => cases h
    | cons u us =>
      obtain ⟨h1, h2⟩ := and2 (show (conB K d u && consB K ds us) = true from h)
      obtain ⟨v, r1, r2⟩ := conB_ok d h1
      obtain ⟨vs, r3, r4⟩ := consB_ok ds h2
      exact ⟨v :: vs, .cons r1 r3, fun H => .cons (r2 H) (r4 H)⟩
end
/-- the module's names x are these constants -/
def consK (l : List (Str × M.D)) (K : Frag) : Bool := l.all fun p => match PySem.W.nsIn K mainGlobals p.1 with
  | some (some u) => conB K p.2 u
  | _ => false
theorem consK_ok {l : List (Str × M.D)} {K : Frag} {h : Heap} {mg : Str → Option Value} (X : K.In h) (G : h.Ns mainGlobals mg) (c : consK l K = true) {x : Str} {d : M.D} (hm : (x, d) ∈ l) : ∃ u v, mg x = some u ∧ RelV v u ∧ ∀ H, RelD K H d v := by
  have q := List.all_eq_true.mp c _ hm
  dsimp only at q
  split at q
  · rename_i u e
    obtain ⟨v, r1, r2⟩ := conB_ok d q
    exact ⟨u, v, PySem.W.mg_of X G e, r1, r2⟩
  · cases q
/-! ### the head's hook with them -/
def obsE (l : List (Str × M.D)) (fa : List He.Fa) (fn : List He.DefD) (K : Frag) : He.AlD := ((He.obsD fa fn K).1 && consK l K, (He.obsD fa fn K).2)
def hookE (n : Nat) (l : List (Str × M.D)) (fa : List He.Fa) (fn : List He.DefD) : PySem.W.Hook where
  α := He.AlD
  obs := fun s => obsE l fa fn (He.frG s.heap.get? (He.asD s.heap.get? n))
  val := fun _ => He.valD fn
  says := fun _ h => ∃ K : Frag, K.In h ∧ obsE l fa fn K = He.valD fn
  of := fun _ _ e => ⟨_, He.frG_in, e⟩
  keeps := fun _ _ _ ⟨K, hK, c⟩ k => ⟨K, PySem.W.Frag.In.keeps hK k, c⟩
theorem obsE_says {l : List (Str × M.D)} {fa : List He.Fa} {fn : List He.DefD} {K : Frag} (h : obsE l fa fn K = He.valD fn) : He.SaysD fa fn K ∧ consK l K = true := by
  have h1 : ((He.obsD fa fn K).1 && consK l K) = true := congrArg (fun z : He.AlD => z.1) h
  have h2 : (obsE l fa fn K).2 = (He.valD fn).2 := congrArg (fun z : He.AlD => z.2) h
  have h2 : (He.obsD fa fn K).2 = (He.valD fn).2 := h2
  obtain ⟨a, b⟩ := and2 h1
  exact ⟨Prod.ext a h2, b⟩
theorem obsE_eq {n : Nat} {l : List (Str × M.D)} {fa : List He.Fa} {fn : List He.DefD} {g : Addr → Option Obj} {s : Shared} (h : ∀ a, g a = s.heap.get? a) : obsE l fa fn (He.frG g (He.asD g n)) = (hookE n l fa fn).obs s := by
  have e : g = s.heap.get? := funext h
  rw [e]
  rfl
end Snd
namespace M
theorem br_t {A B : Prop} : br true A B ↔ A := ⟨fun h => h.1 rfl, fun h => ⟨fun _ => h, fun z => nomatch z⟩⟩
theorem br_f {A B : Prop} : br false A B ↔ B := ⟨fun h => h.2 rfl, fun h => ⟨fun z => (nomatch z), fun _ => h⟩⟩
theorem br_n {A B : Prop} {b : Bool} : br (!b) A B ↔ br b B A := by cases b <;> simp [br]
theorem br_if {A B : Prop} {b : Bool} (h1 : b = true → A) (h2 : b = false → B) : br b A B := ⟨h1, h2⟩
theorem br_d {A B p : Prop} {d : Decidable p} (h1 : p → A) (h2 : ¬p → B) : br (@decide p d) A B := ⟨fun h => h1 (of_decide_eq_true h), fun h => h2 (of_decide_eq_false h)⟩
theorem opt_some {α : Type} {a : α} {P : α → Prop} : opt (some a) P = P a := rfl
theorem onI_int {i : Int} {P : Int → Prop} : onI (.int i) P = P i := rfl
theorem onB_bl {i : Bool} {P : Bool → Prop} : onB (.bl i) P = P i := rfl
theorem onR_ref {i : Nat} {P : Nat → Prop} : onR (.ref i) P = P i := rfl
theorem arg1_one {x : D} {P : D → Prop} : arg1 [x] P = P x := rfl
theorem eq_ii {i j : Int} {S : Sto} {Q : Bool → Prop} : cmpD .eq (.int i) (.int j) S Q ↔ Q (i == j) := by simp [cmpD, fit, eqB]
theorem ne_ii {i j : Int} {S : Sto} {Q : Bool → Prop} : cmpD .ne (.int i) (.int j) S Q ↔ Q (!(i == j)) := by simp [cmpD, fit, eqB]
theorem lt_ii {i j : Int} {S : Sto} {Q : Bool → Prop} : cmpD .lt (.int i) (.int j) S Q = Q (decide (i < j)) := rfl
theorem le_ii {i j : Int} {S : Sto} {Q : Bool → Prop} : cmpD .le (.int i) (.int j) S Q = Q (decide (i ≤ j)) := rfl
theorem gt_ii {i j : Int} {S : Sto} {Q : Bool → Prop} : cmpD .gt (.int i) (.int j) S Q = Q (decide (j < i)) := rfl
theorem ge_ii {i j : Int} {S : Sto} {Q : Bool → Prop} : cmpD .ge (.int i) (.int j) S Q = Q (decide (j ≤ i)) := rfl
theorem is_n {x : D} {S : Sto} {Q : Bool → Prop} : cmpD .is_ x .non S Q = Q (isNon x) := rfl
theorem isn_n {x : D} {S : Sto} {Q : Bool → Prop} : cmpD .isn x .non S Q = Q (!isNon x) := rfl
theorem is_b {a b : Bool} {S : Sto} {Q : Bool → Prop} : cmpD .is_ (.bl a) (.bl b) S Q = Q (a == b) := rfl
theorem isn_b {a b : Bool} {S : Sto} {Q : Bool → Prop} : cmpD .isn (.bl a) (.bl b) S Q = Q (!(a == b)) := rfl
theorem add_ii {i j : Int} {S : Sto} {Q : VK} : binD .add (.int i) (.int j) S Q = Q (.int (i + j)) S := rfl
theorem sub_ii {i j : Int} {S : Sto} {Q : VK} : binD .sub (.int i) (.int j) S Q = Q (.int (i - j)) S := rfl
theorem mul_ii {i j : Int} {S : Sto} {Q : VK} : binD .mul (.int i) (.int j) S Q = (sm i ∧ sm j ∧ Q (.int (i * j)) S) := rfl
theorem mod_ii {i j : Int} {S : Sto} {Q : VK} : binD .mod (.int i) (.int j) S Q = (j ≠ 0 ∧ Q (.int (i.fmod j)) S) := rfl
theorem fdiv_ii {i j : Int} {S : Sto} {Q : VK} : binD .fdiv (.int i) (.int j) S Q = (j ≠ 0 ∧ smd j ∧ Q (.int (i.fdiv j)) S) := rfl
theorem pow_ii {i j : Int} {S : Sto} {Q : VK} : binD .pow (.int i) (.int j) S Q = (sm i ∧ 0 ≤ j ∧ j ≤ 1000 ∧ Q (.int (i ^ j.toNat)) S) := rfl
theorem intD_i {i : Int} {S : Sto} {Q : VK} : intD (.int i) S Q = Q (.int i) S := rfl
theorem intD_b {i : Bool} {S : Sto} {Q : VK} : intD (.bl i) S Q = Q (.int (b2i i)) S := rfl
theorem ix30 : ixN 3 0 = some 0 := rfl
theorem ix31 : ixN 3 1 = some 1 := rfl
theorem ix32 : ixN 3 2 = some 2 := rfl
theorem at20 {α : Type} {a b : α} : atI [a, b] 0 = some a := rfl
theorem at21 {α : Type} {a b : α} : atI [a, b] 1 = some b := rfl
theorem at30 {α : Type} {a b c : α} : atI [a, b, c] 0 = some a := rfl
theorem at31 {α : Type} {a b c : α} : atI [a, b, c] 1 = some b := rfl
theorem at32 {α : Type} {a b c : α} : atI [a, b, c] 2 = some c := rfl
/-! ### the store -/
/-- what stood stands -/
def Ext (S S' : Sto) : Prop := ∀ a o, S a = some o → S' a = some o
/-- what stood stands, but at w -/
def Kp (w : Nat) (S S' : Sto) : Prop := ∀ a o, a ≠ w → S a = some o → S' a = some o
theorem Ext.refl {S : Sto} : Ext S S := fun _ _ h => h
theorem Ext.trans {S S' S2 : Sto} (a : Ext S S') (b : Ext S' S2) : Ext S S2 := fun x o h => b x o (a x o h)
theorem Ext.kp {S S' : Sto} (w : Nat) (a : Ext S S') : Kp w S S' := fun x o _ h => a x o h
theorem Kp.refl {w : Nat} {S : Sto} : Kp w S S := fun _ _ _ h => h
theorem Kp.trans {w : Nat} {S S' S2 : Sto} (a : Kp w S S') (b : Kp w S' S2) : Kp w S S2 := fun x o n h => b x o n (a x o n h)
theorem upd_at {S : Sto} {a : Nat} {o : O} : upd S a o a = some o := if_pos rfl
theorem upd_off {S : Sto} {a b : Nat} {o : O} (h : b ≠ a) : upd S a o b = S b := if_neg h
theorem Ext.new {S : Sto} {p : Nat} {o : O} (h : S p = none) : Ext S (upd S p o) := fun a x e => by
  have : a ≠ p := fun z => by rw [z, h] at e; cases e
  rw [upd_off this]; exact e
theorem Kp.wr {S : Sto} {w : Nat} {o : O} : Kp w S (upd S w o) := fun a x n e => by rw [upd_off n]; exact e
theorem lstAt_eq {S : Sto} {a : Nat} {xs : List D} (h : S a = some (.lst xs)) : lstAt S a = some xs := by unfold lstAt lstO; rw [h]
theorem lsOf_ref {S : Sto} {a : Nat} {xs : List D} (h : S a = some (.lst xs)) : lsOf S (.ref a) = some xs := lstAt_eq h
theorem sqOf_ref {S : Sto} {a : Nat} {xs : List D} (h : S a = some (.lst xs)) : sqOf S (.ref a) = some xs := lstAt_eq h
theorem lstAt_new {S : Sto} {a : Nat} {xs : List D} : lstAt (upd S a (.lst xs)) a = some xs := lstAt_eq upd_at
theorem ixD_ref {S : Sto} {a : Nat} {xs : List D} (h : S a = some (.lst xs)) {i : Int} {Q : VK} : ixD (.ref a) (.int i) S Q = opt (atI xs i) fun d => Q d S := by
  show opt (lstAt S a) _ = _
  rw [lstAt_eq h]
  rfl
theorem ixD_tup {S : Sto} {xs : List D} {i : Int} {Q : VK} : ixD (.tup xs) (.int i) S Q = opt (atI xs i) fun d => Q d S := rfl
theorem ixD_fl {S : Sto} {xs : List D} {i : Int} {Q : VK} : ixD (.fl xs) (.int i) S Q = opt (atI xs i) fun d => Q d S := rfl
theorem lenD_ref {S : Sto} {a : Nat} {xs : List D} (h : S a = some (.lst xs)) {Q : VK} : lenD (.ref a) S Q = Q (.int xs.length) S := by
  show opt (lstAt S a) _ = _
  rw [lstAt_eq h]
  rfl
theorem lenD_tup {S : Sto} {xs : List D} {Q : VK} : lenD (.tup xs) S Q = Q (.int xs.length) S := rfl
theorem lenD_fl {S : Sto} {xs : List D} {Q : VK} : lenD (.fl xs) S Q = Q (.int xs.length) S := rfl
theorem six_ref {S : Sto} {a : Nat} {xs : List D} (h : S a = some (.lst xs)) {i : Int} {d : D} {Q : Sto → Prop} : sixD (.ref a) (.int i) d S Q = opt (ixN xs.length i) fun j => Q (upd S a (.lst (xs.set j d))) := by
  show opt (lstAt S a) _ = _
  rw [lstAt_eq h]
  rfl
theorem lsOf_new {S : Sto} {a : Nat} {xs : List D} : lsOf (upd S a (.lst xs)) (.ref a) = some xs := lstAt_new
theorem seqD_tup {S : Sto} {xs : List D} {R : IK} : seqD (.tup xs) S R = R xs (fun _ => True) S := rfl
theorem seqD_fl {S : Sto} {xs : List D} {R : IK} : seqD (.fl xs) S R = R xs (fun _ => True) S := rfl
theorem seqD_ref {S : Sto} {a : Nat} {xs : List D} (h : S a = some (.lst xs)) {R : IK} : seqD (.ref a) S R = R xs (fun S' => S' a = some (.lst xs)) S := by
  show opt (lstAt S a) _ = _
  rw [lstAt_eq h]
  rfl
theorem slD_tup {S : Sto} {xs : List D} {lo hi : Option Int} {Q : VK} : slD (.tup xs) lo hi S Q = Q (.tup (cut xs lo hi)) S := rfl
theorem atI_all {α : Type} {xs : List α} {i : Int} {P : α → Prop} (h0 : 0 ≤ i) (h1 : i < xs.length) (h : ∀ y ∈ xs, P y) : opt (atI xs i) P := by
  have hl : i.toNat < xs.length := by omega
  have e : atI xs i = some xs[i.toNat] := by
    unfold atI ixN
    rw [if_pos h0, if_pos h1]
    simp [hl]
  rw [e]
  exact h _ (List.getElem_mem hl)
theorem add_ref {S : Sto} {a b : Nat} {xs ys : List D} (ha : S a = some (.lst xs)) (hb : S b = some (.lst ys)) {Q : VK} (k : mkL (xs ++ ys) S Q) : binD .add (.ref a) (.ref b) S Q := by
  show opt (lstAt S a) _
  rw [lstAt_eq ha]
  show opt (lstAt S b) _
  rw [lstAt_eq hb]
  exact k
theorem add_tt {S : Sto} {xs ys : List D} {Q : VK} : binD .add (.tup xs) (.tup ys) S Q = (xs.length + ys.length ≤ lim ∧ Q (.tup (xs ++ ys)) S) := rfl
theorem append_ref {S : Sto} {a : Nat} {xs : List D} (ha : S a = some (.lst xs)) {d : D} {Q : VK} (hl : xs.length < 1000) (k : Q .non (upd S a (.lst (xs ++ [d])))) : mtD .append (.ref a) [d] S Q := by
  show opt (lstAt S a) _
  rw [lstAt_eq ha]
  exact ⟨Nat.lt_of_lt_of_le hl (by decide), k⟩
/-! ### calls -/
theorem call {G : Gm} {n : Nat} {sp : Sp} (h : G.fn n = sp) {ds : List D} {S : Sto} {Q : VK} {X : XK} (q : sp ds S Q X) : cl (G.fn n) ds S Q X := by rw [h]; exact cl_of q
theorem upto_at {n i : Nat} {sp : Nat → Sp} {G : Gm} (hG : G.fn = upto n sp) (h : i < n) : G.fn i = sp i := by rw [hG]; exact if_pos h
/-! ### numbers -/
theorem lt_two {n : Nat} (k : Nat) (h : n < 2 ^ k) {m : Nat} (hk : k ≤ m) : n < 2 ^ m := Nat.lt_of_lt_of_le h (Nat.pow_le_pow_right (by decide) hk)
theorem sm_of {i : Int} (k : Nat) (hk : k ≤ 4000) (h : i.natAbs < 2 ^ k) : sm i := lt_two k h hk
theorem smd_of {i : Int} (k : Nat) (hk : k ≤ 8500) (h : i.natAbs < 2 ^ k) : smd i := lt_two k h hk
theorem smr_of {i : Int} (k : Nat) (hk : k ≤ 1900) (h : i.natAbs < 2 ^ k) : smr i := lt_two k h hk
theorem fmod_pos {i j : Int} (h : 0 < j) : i.fmod j = i % j := Int.fmod_eq_emod_of_nonneg _ (Int.le_of_lt h)
theorem fdiv_pos {i j : Int} (h : 0 < j) : i.fdiv j = i / j := Int.fdiv_eq_ediv_of_nonneg _ (Int.le_of_lt h)
/-! ### what is drawn -/
/-- the well at w after n draws at most -/
def Well (n : Nat) (S : Sto) (w : Nat) : Prop := ∃ a b c : Int, S w = some (.lst [.int a, .int b, .int c]) ∧ 0 ≤ a ∧ 0 ≤ b ∧ b < 10 ^ 42 ∧ 0 ≤ c ∧ c ≤ n
theorem Well.kp {n : Nat} {S S' : Sto} {w v : Nat} (h : Well n S w) (k : Kp v S S') (hv : w ≠ v) : Well n S' w := by
  obtain ⟨a, b, c, e, r⟩ := h
  exact ⟨a, b, c, k w _ hv e, r⟩
theorem Well.ext {n : Nat} {S S' : Sto} {w : Nat} (h : Well n S w) (k : Ext S S') : Well n S' w := by
  obtain ⟨a, b, c, e, r⟩ := h
  exact ⟨a, b, c, k w _ e, r⟩
theorem Well.le {n m : Nat} {S : Sto} {w : Nat} (h : Well n S w) (k : n ≤ m) : Well m S w := by
  obtain ⟨a, b, c, e, r1, r2, r3, r4, r5⟩ := h
  exact ⟨a, b, c, e, r1, r2, r3, r4, by omega⟩
theorem Well.some {n : Nat} {S : Sto} {w : Nat} (h : Well n S w) : ∃ o, S w = some o := by
  obtain ⟨a, b, c, e, _⟩ := h
  exact ⟨_, e⟩
theorem ne_new {S : Sto} {w p : Nat} {o : O} (h : S w = some o) (hp : S p = none) : w ≠ p := fun e => by rw [e, hp] at h; cases h
/-- _law_well(script, at) -/
def spWell : Sp := fun ds S Q _ => ∃ (ns : List Int) (i : Int), ds = [.fl (ns.map .int), .int i] ∧ 0 ≤ i ∧ i < 100 ∧ ∀ p, S p = none → ∀ S', Ext S S' → Well 0 S' p → Q (.ref p) S'
/-- _law_draw(well, most) -/
def spDraw : Sp := fun ds S Q _ => ∃ (w : Nat) (m : Int) (n : Nat), ds = [.ref w, .int m] ∧ 1 ≤ m ∧ m < 2 ^ 3000 ∧ Well n S w ∧ n < 2 ^ 60 ∧ ∀ (d : Int) S', 0 ≤ d → d < m → Well (n + 1) S' w → Kp w S S' → Q (.int d) S'
/-- _law_desk(well, most) -/
def spDesk : Sp := fun ds S Q _ => ∃ (w : Nat) (m : Int) (n : Nat), ds = [.ref w, .int m] ∧ 1 ≤ m ∧ m < 2 ^ 1000 ∧ Well n S w ∧ n + 4 < 2 ^ 59 ∧ ∀ (x y : Int) S', 1 ≤ x → x ≤ m → 1 ≤ y → y ≤ 2 * m + 4 → Well (n + 4) S' w → Kp w S S' → Q (.tup [.int x, .int y]) S'
/-- _law_roll(well, desk, most) -/
def spRoll : Sp := fun ds S Q _ => ∃ (w : Nat) (a b m : Int) (n : Nat), ds = [.ref w, .tup [.int a, .int b], .int m] ∧ 1 ≤ m ∧ m < 2 ^ 1000 ∧ 1 ≤ a ∧ a < 2 ^ 1000 ∧ 1 ≤ b ∧ b < 2 ^ 1000 ∧ Well n S w ∧ n + 8 < 2 ^ 59 ∧
  ∀ (x y p q : Int) S', 0 ≤ x → x ≤ a → 0 ≤ y → y ≤ b → (p ≠ 0 ∨ q ≠ 0) → -m ≤ p → p ≤ m → -m ≤ q → q ≤ m → Well (n + 8) S' w → Kp w S S' → Q (.tup [.int x, .int y, .int p, .int q]) S'
theorem atI_map {ns : List Int} {i : Int} (h0 : 0 ≤ i) (h : i < ns.length) : ∃ n, atI (ns.map D.int) i = Option.some (D.int n) := by
  have hl : i.toNat < ns.length := by omega
  refine ⟨ns[i.toNat], ?_⟩
  unfold atI ixN
  rw [if_pos h0, if_pos (by simpa using h)]
  simp [hl]
end M
namespace M
abbrev kR (Q : VK) (X : XK) : Kt := ⟨fun _ S' => Q .non S', Q, fun _ _ => False, fun k fs _ S' => X k fs S'⟩
theorem len_lim {n : Nat} (h : n ≤ 1000) : n ≤ lim := Nat.le_trans h (by decide)
theorem sqOf_new {S : Sto} {a : Nat} {xs : List D} : sqOf (upd S a (.lst xs)) (.ref a) = some xs := lstAt_new
theorem txt_well {G : Gm} {ds : List D} {S0 : Sto} {Q : VK} {X : XK} {b : Ss} (hb : b = (.cons (.set (.v 2) (.ite (.cmp .lt (.v 1) (.bi .len (.cons (.v 0) .nil))) (.ix (.v 0) (.v 1)) (.k (.int 0)))) (.cons (.ret (.lst (.cons (.bi .max (.cons (.k (.int 0)) (.cons (.bin .sub (.bi .abs (.cons (.v 2) .nil)) (.bin .pow (.k (.int 10)) (.k (.int 18)))) .nil))) (.cons (.bin .add (.bin .add (.bin .mul (.bin .mod (.bi .int (.cons (.v 2) .nil)) (.bin .add (.bin .pow (.k (.int 10)) (.k (.int 37))) (.k (.int 151)))) (.k (.int 103))) (.bin .mul (.k (.int 71)) (.v 1))) (.k (.int 43))) (.cons (.k (.int 0)) .nil))))) .nil))) (h : spWell ds S0 Q X) : ds.length = 2 ∧ wpSs G b (start 3 ds) S0 (kR Q X) := by
  obtain ⟨ns, i, rfl, h0, h1, hq⟩ := h
  subst hb
  refine ⟨rfl, ?_⟩
  have fin : ∀ c : Int, wpE G (.lst (.cons (.bi .max (.cons (.k (.int 0)) (.cons (.bin .sub (.bi .abs (.cons (.v 2) .nil)) (.bin .pow (.k (.int 10)) (.k (.int 18)))) .nil))) (.cons (.bin .add (.bin .add (.bin .mul (.bin .mod (.bi .int (.cons (.v 2) .nil)) (.bin .add (.bin .pow (.k (.int 10)) (.k (.int 37))) (.k (.int 151)))) (.k (.int 103))) (.bin .mul (.k (.int 71)) (.v 1))) (.k (.int 43))) (.cons (.k (.int 0)) .nil)))) [some (.fl (ns.map .int)), some (.int i), some (.int c)] S0 Q X := by
    intro c
    simp only [wpSs, wpS, wpE, wpEs, wpC, wpAnd, wpOr, wpO, wpIt, opt_some, onI_int, onB_bl, onR_ref, arg1_one, look, joinO, start, List.map_cons, List.map_nil, List.length_cons, List.length_nil, List.replicate, List.cons_append, List.nil_append, List.append_nil, List.getElem?_cons_succ, List.getElem?_cons_zero, kcD, Nat.reduceAdd, Nat.reduceSub, br_t, br_f, br_n, asg, setAll, List.set_cons_succ, List.set_cons_zero, tgs, wipe, eq_ii, ne_ii, lt_ii, le_ii, gt_ii, ge_ii, is_n, isn_n, is_b, isn_b, add_ii, sub_ii, mul_ii, mod_ii, fdiv_ii, pow_ii, isNon, biD, intD_i, intD_b, esLen, beq_self_eq_true, ixD_tup, lsOf_new, seqD_tup, seqD_fl, slD_tup, bools, Option.map_some, true_and, ixD_fl, lenD_tup, lenD_fl, ix30, ix31, ix32, at20, at21, at30, at31, at32, List.filterMap_cons, List.filterMap_nil]
    refine ⟨sm_of 8 (by decide) (by decide), by decide, by decide, sm_of 8 (by decide) (by decide), by decide, by decide, by decide, ?_⟩
    have e : (10 ^ Int.toNat 37 + 151 : Int) = 10000000000000000000000000000000000151 := by decide
    rw [e, fmod_pos (by decide)]
    have m1 := Int.emod_nonneg c (b := 10000000000000000000000000000000000151) (by decide)
    have m2 := Int.emod_lt_of_pos c (b := 10000000000000000000000000000000000151) (by decide)
    generalize c % 10000000000000000000000000000000000151 = r at *
    refine ⟨sm_of 130 (by decide) (by omega), sm_of 8 (by decide) (by decide), sm_of 8 (by decide) (by decide), sm_of 8 (by decide) (by omega), ?_⟩
    refine ⟨len_lim (n := 3) (by decide), fun p hp => hq p hp _ (Ext.new hp) ⟨_, _, _, upd_at, ?_, ?_, ?_, by decide, by decide⟩⟩
    · split <;> omega
    · omega
    · omega
  by_cases hlt : i < ns.length
  · obtain ⟨c, hc⟩ := atI_map h0 hlt
    simp only [wpSs, wpS, wpE, wpEs, wpC, wpAnd, wpOr, wpO, wpIt, opt_some, onI_int, onB_bl, onR_ref, arg1_one, look, joinO, start, List.map_cons, List.map_nil, List.length_cons, List.length_nil, List.replicate, List.cons_append, List.nil_append, List.append_nil, List.getElem?_cons_succ, List.getElem?_cons_zero, kcD, Nat.reduceAdd, Nat.reduceSub, br_t, br_f, br_n, asg, setAll, List.set_cons_succ, List.set_cons_zero, tgs, wipe, eq_ii, ne_ii, lt_ii, le_ii, gt_ii, ge_ii, is_n, isn_n, is_b, isn_b, add_ii, sub_ii, mul_ii, mod_ii, fdiv_ii, pow_ii, isNon, biD, intD_i, intD_b, esLen, beq_self_eq_true, ixD_tup, lsOf_new, seqD_tup, seqD_fl, slD_tup, bools, Option.map_some, true_and, ixD_fl, lenD_tup, lenD_fl, ix30, ix31, ix32, at20, at21, at30, at31, at32, List.filterMap_cons, List.filterMap_nil, lenD, sqOf, ixD, List.length_map, hlt, decide_true, hc]
    exact fin c
  · simp only [wpSs, wpS, wpE, wpEs, wpC, wpAnd, wpOr, wpO, wpIt, opt_some, onI_int, onB_bl, onR_ref, arg1_one, look, joinO, start, List.map_cons, List.map_nil, List.length_cons, List.length_nil, List.replicate, List.cons_append, List.nil_append, List.append_nil, List.getElem?_cons_succ, List.getElem?_cons_zero, kcD, Nat.reduceAdd, Nat.reduceSub, br_t, br_f, br_n, asg, setAll, List.set_cons_succ, List.set_cons_zero, tgs, wipe, eq_ii, ne_ii, lt_ii, le_ii, gt_ii, ge_ii, is_n, isn_n, is_b, isn_b, add_ii, sub_ii, mul_ii, mod_ii, fdiv_ii, pow_ii, isNon, biD, intD_i, intD_b, esLen, beq_self_eq_true, ixD_tup, lsOf_new, seqD_tup, seqD_fl, slD_tup, bools, Option.map_some, true_and, ixD_fl, lenD_tup, lenD_fl, ix30, ix31, ix32, at20, at21, at30, at31, at32, List.filterMap_cons, List.filterMap_nil, lenD, sqOf, ixD, List.length_map, hlt, decide_false]
    exact fin 0
/-- _law_draw -/
theorem txt_draw {G : Gm} {ds : List D} {S0 : Sto} {Q : VK} {X : XK} {b : Ss} (hb : b = (.cons (.if_ (.cmp .gt (.ix (.v 0) (.k (.int 0))) (.k (.int 0))) (.cons (.set (.v 3) (.bin .mod (.bi .int (.cons (.ix (.v 0) (.k (.int 0))) .nil)) (.v 1))) (.cons (.six (.v 0) (.k (.int 0)) (.bin .fdiv (.ix (.v 0) (.k (.int 0))) (.v 1))) (.cons (.ret (.v 3)) .nil))) .nil) (.cons (.six (.v 0) (.k (.int 2)) (.bin .add (.ix (.v 0) (.k (.int 2))) (.k (.int 1)))) (.cons (.set (.v 2) (.bin .mod (.bin .pow (.bi .int (.cons (.bin .add (.ix (.v 0) (.k (.int 1))) (.bin .mul (.k (.int 961748941)) (.ix (.v 0) (.k (.int 2))))) .nil)) (.k (.int 3))) (.bin .add (.bin .pow (.k (.int 10)) (.k (.int 41))) (.k (.int 109))))) (.cons (.set (.v 2) (.bin .mod (.bin .pow (.bi .int (.cons (.bin .add (.v 2) (.bin .mul (.k (.int 217645199)) (.ix (.v 0) (.k (.int 2))))) .nil)) (.k (.int 3))) (.bin .add (.bin .pow (.k (.int 10)) (.k (.int 39))) (.k (.int 3))))) (.cons (.ret (.bin .mod (.bi .int (.cons (.bin .fdiv (.v 2) (.k (.int 1048576))) .nil)) (.v 1))) .nil)))))) (h : spDraw ds S0 Q X) : ds.length = 2 ∧ wpSs G b (start 4 ds) S0 (kR Q X) := by
  obtain ⟨w, m, n, rfl, h1, hm, ⟨a, b', c, e, ha, hb0, hb1, hc0, hc1⟩, hn, hq⟩ := h
  subst hb
  refine ⟨rfl, ?_⟩
  have hm0 : 0 < m := by omega
  have hmm : smd m := smd_of 3000 (by decide) (by omega)
  simp only [wpSs, wpS, wpE, wpEs, wpC, wpAnd, wpOr, wpO, wpIt, opt_some, onI_int, onB_bl, onR_ref, arg1_one, look, joinO, start, List.map_cons, List.map_nil, List.length_cons, List.length_nil, List.replicate, List.cons_append, List.nil_append, List.append_nil, List.getElem?_cons_succ, List.getElem?_cons_zero, kcD, Nat.reduceAdd, Nat.reduceSub, br_t, br_f, br_n, asg, setAll, List.set_cons_succ, List.set_cons_zero, tgs, wipe, eq_ii, ne_ii, lt_ii, le_ii, gt_ii, ge_ii, is_n, isn_n, is_b, isn_b, add_ii, sub_ii, mul_ii, mod_ii, fdiv_ii, pow_ii, isNon, biD, intD_i, intD_b, esLen, beq_self_eq_true, ixD_tup, lsOf_new, seqD_tup, seqD_fl, slD_tup, bools, Option.map_some, true_and, ixD_fl, lenD_tup, lenD_fl, ix30, ix31, ix32, at20, at21, at30, at31, at32, List.filterMap_cons, List.filterMap_nil, ixD, sixD, sqOf_ref e, lstAt_eq e, lstAt_new, sqOf_new]
  refine br_d (fun hpos => ?_) (fun hneg => ?_)
  · rw [fmod_pos hm0, fdiv_pos hm0]
    refine ⟨by omega, by omega, hmm, ?_⟩
    have m1 := Int.emod_nonneg a (b := m) (by omega)
    have m2 := Int.emod_lt_of_pos a (b := m) hm0
    exact hq _ _ m1 m2 ⟨_, _, _, upd_at, Int.ediv_nonneg ha (by omega), hb0, hb1, hc0, by omega⟩ Kp.wr
  · have s1 : sm 961748941 := sm_of 64 (by decide) (by decide)
    have s2 : sm (c + 1) := sm_of 64 (by decide) (by omega)
    have s3 : sm (b' + 961748941 * (c + 1)) := sm_of 200 (by decide) (by omega)
    have s4 : sm 10 := sm_of 8 (by decide) (by decide)
    have s5 : sm 217645199 := sm_of 64 (by decide) (by decide)
    have e1 : (10 ^ Int.toNat 41 + 109 : Int) = 100000000000000000000000000000000000000109 := by decide
    have e2 : (10 ^ Int.toNat 39 + 3 : Int) = 1000000000000000000000000000000000000003 := by decide
    rw [e1, e2]
    generalize (b' + 961748941 * (c + 1)) ^ Int.toNat 3 = r1
    rw [fmod_pos (i := r1) (by decide)]
    have m1 := Int.emod_nonneg r1 (b := 100000000000000000000000000000000000000109) (by decide)
    have m2 := Int.emod_lt_of_pos r1 (b := 100000000000000000000000000000000000000109) (by decide)
    generalize r1 % 100000000000000000000000000000000000000109 = r2 at *
    have s6 : sm (r2 + 217645199 * (c + 1)) := sm_of 200 (by decide) (by omega)
    generalize (r2 + 217645199 * (c + 1)) ^ Int.toNat 3 = r3
    rw [fmod_pos (i := r3) (by decide)]
    generalize r3 % 1000000000000000000000000000000000000003 = r4
    rw [fmod_pos hm0]
    have m3 := Int.emod_nonneg (r4.fdiv 1048576) (b := m) (by omega)
    have m4 := Int.emod_lt_of_pos (r4.fdiv 1048576) (b := m) hm0
    exact ⟨s1, s2, s3, by decide, by decide, s4, by decide, by decide, by decide, s5, s2, s6, by decide, by decide, s4, by decide, by decide, by decide, by decide, smd_of 64 (by decide) (by decide), by omega,
      hq _ _ m3 m4 ⟨_, _, _, upd_at, ha, hb0, hb1, by omega, by omega⟩ Kp.wr⟩
end M
namespace M
theorem mkL_ok {xs : List D} {S : Sto} {Q : VK} (h : xs.length ≤ 1000) (k : ∀ p, S p = none → Q (.ref p) (upd S p (.lst xs))) : mkL xs S Q := ⟨len_lim h, k⟩
/-- one of four -/
theorem at4 {α : Type} {a b c d : α} {i : Int} {P : α → Prop} (h0 : 0 ≤ i) (h4 : i < 4) (ka : P a) (kb : P b) (kc : P c) (kd : P d) : opt (atI [a, b, c, d] i) P := by
  have : i = 0 ∨ i = 1 ∨ i = 2 ∨ i = 3 := by omega
  rcases this with e | e | e | e <;> subst e
  · exact ka
  · exact kb
  · exact kc
  · exact kd
theorem at3 {α : Type} {a b c : α} {i : Int} {P : α → Prop} (h0 : 0 ≤ i) (h4 : i < 3) (ka : P a) (kb : P b) (kc : P c) : opt (atI [a, b, c] i) P := by
  have : i = 0 ∨ i = 1 ∨ i = 2 := by omega
  rcases this with e | e | e <;> subst e
  · exact ka
  · exact kb
  · exact kc
theorem txt_desk {G : Gm} {ds : List D} {S0 : Sto} {Q : VK} {X : XK} {b : Ss} (hb : b = (.cons (.set (.v 2) (.bin .add (.k (.int 1)) (.call 22 (.cons (.v 0) (.cons (.v 1) .nil))))) (.cons (.set (.v 3) (.ix (.lst (.cons (.bin .add (.k (.int 1)) (.call 22 (.cons (.v 0) (.cons (.v 1) .nil)))) (.cons (.v 2) (.cons (.bin .mul (.v 2) (.k (.int 2))) (.cons (.bin .add (.k (.int 1)) (.call 22 (.cons (.v 0) (.cons (.k (.int 4)) .nil)))) .nil))))) (.call 22 (.cons (.v 0) (.cons (.k (.int 4)) .nil))))) (.cons (.ret (.tup (.cons (.v 2) (.cons (.v 3) .nil)))) .nil)))) (hG : G.fn 22 = spDraw) (h : spDesk ds S0 Q X) : ds.length = 2 ∧ wpSs G b (start 4 ds) S0 (kR Q X) := by
  obtain ⟨w, m, n, rfl, h1, hm, hw, hn, hq⟩ := h
  subst hb
  refine ⟨rfl, ?_⟩
  try simp only [wpSs, wpS, wpE, wpEs, wpC, wpAnd, wpOr, wpO, wpIt, opt_some, onI_int, onB_bl, onR_ref, arg1_one, look, joinO, start, List.map_cons, List.map_nil, List.length_cons, List.length_nil, List.replicate, List.cons_append, List.nil_append, List.append_nil, List.getElem?_cons_succ, List.getElem?_cons_zero, kcD, Nat.reduceAdd, Nat.reduceSub, br_t, br_f, br_n, asg, setAll, List.set_cons_succ, List.set_cons_zero, tgs, wipe, eq_ii, ne_ii, lt_ii, le_ii, gt_ii, ge_ii, is_n, isn_n, is_b, isn_b, add_ii, sub_ii, mul_ii, mod_ii, fdiv_ii, pow_ii, isNon, biD, intD_i, intD_b, esLen, beq_self_eq_true, ixD_tup, lsOf_new, seqD_tup, seqD_fl, slD_tup, bools, Option.map_some, true_and, ixD_fl, lenD_tup, lenD_fl, ix30, ix31, ix32, at20, at21, at30, at31, at32, List.filterMap_cons, List.filterMap_nil]
  refine call hG ⟨w, m, n, rfl, h1, by omega, hw, by omega, fun d1 S1 a1 b1 w1 k1 => ?_⟩
  try simp only [wpSs, wpS, wpE, wpEs, wpC, wpAnd, wpOr, wpO, wpIt, opt_some, onI_int, onB_bl, onR_ref, arg1_one, look, joinO, start, List.map_cons, List.map_nil, List.length_cons, List.length_nil, List.replicate, List.cons_append, List.nil_append, List.append_nil, List.getElem?_cons_succ, List.getElem?_cons_zero, kcD, Nat.reduceAdd, Nat.reduceSub, br_t, br_f, br_n, asg, setAll, List.set_cons_succ, List.set_cons_zero, tgs, wipe, eq_ii, ne_ii, lt_ii, le_ii, gt_ii, ge_ii, is_n, isn_n, is_b, isn_b, add_ii, sub_ii, mul_ii, mod_ii, fdiv_ii, pow_ii, isNon, biD, intD_i, intD_b, esLen, beq_self_eq_true, ixD_tup, lsOf_new, seqD_tup, seqD_fl, slD_tup, bools, Option.map_some, true_and, ixD_fl, lenD_tup, lenD_fl, ix30, ix31, ix32, at20, at21, at30, at31, at32, List.filterMap_cons, List.filterMap_nil]
  refine call hG ⟨w, m, _, rfl, h1, by omega, w1, by omega, fun d2 S2 a2 b2 w2 k2 => ?_⟩
  try simp only [wpSs, wpS, wpE, wpEs, wpC, wpAnd, wpOr, wpO, wpIt, opt_some, onI_int, onB_bl, onR_ref, arg1_one, look, joinO, start, List.map_cons, List.map_nil, List.length_cons, List.length_nil, List.replicate, List.cons_append, List.nil_append, List.append_nil, List.getElem?_cons_succ, List.getElem?_cons_zero, kcD, Nat.reduceAdd, Nat.reduceSub, br_t, br_f, br_n, asg, setAll, List.set_cons_succ, List.set_cons_zero, tgs, wipe, eq_ii, ne_ii, lt_ii, le_ii, gt_ii, ge_ii, is_n, isn_n, is_b, isn_b, add_ii, sub_ii, mul_ii, mod_ii, fdiv_ii, pow_ii, isNon, biD, intD_i, intD_b, esLen, beq_self_eq_true, ixD_tup, lsOf_new, seqD_tup, seqD_fl, slD_tup, bools, Option.map_some, true_and, ixD_fl, lenD_tup, lenD_fl, ix30, ix31, ix32, at20, at21, at30, at31, at32, List.filterMap_cons, List.filterMap_nil]
  refine ⟨sm_of 1001 (by decide) (by omega), sm_of 8 (by decide) (by decide), ?_⟩
  refine call hG ⟨w, 4, _, rfl, by decide, by decide, w2, by omega, fun d3 S3 a3 b3 w3 k3 => ?_⟩
  try simp only [wpSs, wpS, wpE, wpEs, wpC, wpAnd, wpOr, wpO, wpIt, opt_some, onI_int, onB_bl, onR_ref, arg1_one, look, joinO, start, List.map_cons, List.map_nil, List.length_cons, List.length_nil, List.replicate, List.cons_append, List.nil_append, List.append_nil, List.getElem?_cons_succ, List.getElem?_cons_zero, kcD, Nat.reduceAdd, Nat.reduceSub, br_t, br_f, br_n, asg, setAll, List.set_cons_succ, List.set_cons_zero, tgs, wipe, eq_ii, ne_ii, lt_ii, le_ii, gt_ii, ge_ii, is_n, isn_n, is_b, isn_b, add_ii, sub_ii, mul_ii, mod_ii, fdiv_ii, pow_ii, isNon, biD, intD_i, intD_b, esLen, beq_self_eq_true, ixD_tup, lsOf_new, seqD_tup, seqD_fl, slD_tup, bools, Option.map_some, true_and, ixD_fl, lenD_tup, lenD_fl, ix30, ix31, ix32, at20, at21, at30, at31, at32, List.filterMap_cons, List.filterMap_nil]
  refine mkL_ok (by simp) fun p hp => ?_
  have hwp := w3.some
  obtain ⟨ow, ew⟩ := hwp
  have hne := ne_new ew hp
  refine call hG ⟨w, 4, _, rfl, by decide, by decide, w3.ext (Ext.new hp), by omega, fun d4 S4 a4 b4 w4 k4 => ?_⟩
  have e4 := k4 p _ (Ne.symm hne) upd_at
  have kk : Kp w S0 S4 := ((k1.trans k2).trans k3).trans (((Ext.new hp).kp w).trans k4)
  simp only [wpSs, wpS, wpE, wpEs, wpC, wpAnd, wpOr, wpO, wpIt, opt_some, onI_int, onB_bl, onR_ref, arg1_one, look, joinO, start, List.map_cons, List.map_nil, List.length_cons, List.length_nil, List.replicate, List.cons_append, List.nil_append, List.append_nil, List.getElem?_cons_succ, List.getElem?_cons_zero, kcD, Nat.reduceAdd, Nat.reduceSub, br_t, br_f, br_n, asg, setAll, List.set_cons_succ, List.set_cons_zero, tgs, wipe, eq_ii, ne_ii, lt_ii, le_ii, gt_ii, ge_ii, is_n, isn_n, is_b, isn_b, add_ii, sub_ii, mul_ii, mod_ii, fdiv_ii, pow_ii, isNon, biD, intD_i, intD_b, esLen, beq_self_eq_true, ixD_tup, lsOf_new, seqD_tup, seqD_fl, slD_tup, bools, Option.map_some, true_and, ixD_fl, lenD_tup, lenD_fl, ix30, ix31, ix32, at20, at21, at30, at31, at32, List.filterMap_cons, List.filterMap_nil, ixD, sqOf_ref e4]
  refine at4 a4 b4 ?_ ?_ ?_ ?_
  · exact ⟨by decide, hq _ _ _ (by omega) (by omega) (by omega) (by omega) (w4.le (by omega)) kk⟩
  · exact ⟨by decide, hq _ _ _ (by omega) (by omega) (by omega) (by omega) (w4.le (by omega)) kk⟩
  · exact ⟨by decide, hq _ _ _ (by omega) (by omega) (by omega) (by omega) (w4.le (by omega)) kk⟩
  · exact ⟨by decide, hq _ _ _ (by omega) (by omega) (by omega) (by omega) (w4.le (by omega)) kk⟩
theorem fit_i {n : Nat} {S : Sto} {i : Int} : fit (n + 1) S (.int i) = true := rfl
theorem ne_pair {a b c d : Int} {S : Sto} {Q : Bool → Prop} : cmpD .ne (.tup [.int a, .int b]) (.tup [.int c, .int d]) S Q ↔ Q (!(a == c && b == d)) := by
  simp [cmpD, fit, fitL, eqB, eqLB]
/-- one of three numbers -/
theorem pick3 {a b c i lo hi : Int} {P : D → Prop} (h0 : 0 ≤ i) (h3 : i < 3) (ha : lo ≤ a ∧ a ≤ hi) (hb : lo ≤ b ∧ b ≤ hi) (hc : lo ≤ c ∧ c ≤ hi) (h : ∀ y : Int, lo ≤ y → y ≤ hi → P (.int y)) : opt (atI [.int a, .int b, .int c] i) P :=
  at3 h0 h3 (h a ha.1 ha.2) (h b hb.1 hb.2) (h c hc.1 hc.2)
theorem min2 {d : Int} (h : 0 ≤ d) : 0 ≤ (if d < 2 then d else 2) ∧ (if d < 2 then d else 2) < 3 := by split <;> omega
theorem txt_roll {G : Gm} {ds : List D} {S0 : Sto} {Q : VK} {X : XK} {b : Ss} (hb : b = (.cons (.set (.v 3) (.ix (.lst (.cons (.k (.int 0)) (.cons (.ix (.v 1) (.k (.int 0))) (.cons (.call 22 (.cons (.v 0) (.cons (.bin .add (.ix (.v 1) (.k (.int 0))) (.k (.int 1))) .nil))) .nil)))) (.bi .min (.cons (.k (.int 2)) (.cons (.call 22 (.cons (.v 0) (.cons (.k (.int 5)) .nil))) .nil))))) (.cons (.set (.v 4) (.ix (.lst (.cons (.k (.int 0)) (.cons (.ix (.v 1) (.k (.int 1))) (.cons (.call 22 (.cons (.v 0) (.cons (.bin .add (.ix (.v 1) (.k (.int 1))) (.k (.int 1))) .nil))) .nil)))) (.bi .min (.cons (.k (.int 2)) (.cons (.call 22 (.cons (.v 0) (.cons (.k (.int 5)) .nil))) .nil))))) (.cons (.par 5 6 (.bin .sub (.call 22 (.cons (.v 0) (.cons (.bin .add (.bin .mul (.k (.int 2)) (.v 2)) (.k (.int 1))) .nil))) (.v 2)) (.bin .sub (.call 22 (.cons (.v 0) (.cons (.bin .add (.bin .mul (.k (.int 2)) (.v 2)) (.k (.int 1))) .nil))) (.v 2))) (.cons (.if_ (.cmp .eq (.call 22 (.cons (.v 0) (.cons (.k (.int 8)) .nil))) (.k (.int 0))) (.cons (.set (.v 5) (.k (.int 0))) .nil) (.cons (.if_ (.cmp .eq (.call 22 (.cons (.v 0) (.cons (.k (.int 8)) .nil))) (.k (.int 0))) (.cons (.set (.v 6) (.k (.int 0))) .nil) .nil) .nil)) (.cons (.ret (.ite (.cmp .ne (.tup (.cons (.v 5) (.cons (.v 6) .nil))) (.tup (.cons (.k (.int 0)) (.cons (.k (.int 0)) .nil)))) (.tup (.cons (.v 3) (.cons (.v 4) (.cons (.v 5) (.cons (.v 6) .nil))))) (.tup (.cons (.v 3) (.cons (.v 4) (.cons (.k (.int 1)) (.cons (.k (.int 1)) .nil))))))) .nil)))))) (hG : G.fn 22 = spDraw) (h : spRoll ds S0 Q X) : ds.length = 3 ∧ wpSs G b (start 7 ds) S0 (kR Q X) := by
  obtain ⟨w, a, b2, m, n, rfl, h1, hm, ha, ha2, hb', hb2, hw, hn, hq⟩ := h
  subst hb
  refine ⟨rfl, ?_⟩
  try simp only [wpSs, wpS, wpE, wpEs, wpC, wpAnd, wpOr, wpO, wpIt, opt_some, onI_int, onB_bl, onR_ref, arg1_one, look, joinO, start, List.map_cons, List.map_nil, List.length_cons, List.length_nil, List.replicate, List.cons_append, List.nil_append, List.append_nil, List.getElem?_cons_succ, List.getElem?_cons_zero, kcD, Nat.reduceAdd, Nat.reduceSub, br_t, br_f, br_n, asg, setAll, List.set_cons_succ, List.set_cons_zero, tgs, wipe, eq_ii, ne_ii, lt_ii, le_ii, gt_ii, ge_ii, is_n, isn_n, is_b, isn_b, add_ii, sub_ii, mul_ii, mod_ii, fdiv_ii, pow_ii, isNon, biD, intD_i, intD_b, esLen, beq_self_eq_true, ixD_tup, lsOf_new, seqD_tup, seqD_fl, slD_tup, bools, Option.map_some, true_and, ixD_fl, lenD_tup, lenD_fl, ix30, ix31, ix32, at20, at21, at30, at31, at32, List.filterMap_cons, List.filterMap_nil]
  refine call hG ⟨w, a + 1, n, rfl, by omega, by omega, hw, by omega, fun d1 S1 p1 q1 w1 k1 => ?_⟩
  refine mkL_ok (by simp) fun p hp => ?_
  obtain ⟨ow, ew⟩ := w1.some
  have hne := ne_new ew hp
  refine call hG ⟨w, 5, _, rfl, by decide, by decide, w1.ext (Ext.new hp), by omega, fun d2 S2 p2 q2 w2 k2 => ?_⟩
  have e2 := k2 p _ (Ne.symm hne) upd_at
  have kk2 : Kp w S0 S2 := k1.trans (((Ext.new hp).kp w).trans k2)
  simp only [wpSs, wpS, wpE, wpEs, wpC, wpAnd, wpOr, wpO, wpIt, opt_some, onI_int, onB_bl, onR_ref, arg1_one, look, joinO, start, List.map_cons, List.map_nil, List.length_cons, List.length_nil, List.replicate, List.cons_append, List.nil_append, List.append_nil, List.getElem?_cons_succ, List.getElem?_cons_zero, kcD, Nat.reduceAdd, Nat.reduceSub, br_t, br_f, br_n, asg, setAll, List.set_cons_succ, List.set_cons_zero, tgs, wipe, eq_ii, ne_ii, lt_ii, le_ii, gt_ii, ge_ii, is_n, isn_n, is_b, isn_b, add_ii, sub_ii, mul_ii, mod_ii, fdiv_ii, pow_ii, isNon, biD, intD_i, intD_b, esLen, beq_self_eq_true, ixD_tup, lsOf_new, seqD_tup, seqD_fl, slD_tup, bools, Option.map_some, true_and, ixD_fl, lenD_tup, lenD_fl, ix30, ix31, ix32, at20, at21, at30, at31, at32, List.filterMap_cons, List.filterMap_nil, ixD_ref e2]
  refine pick3 (lo := 0) (hi := a) (min2 p2).1 (min2 p2).2 (by omega) (by omega) (by omega) fun x hx0 hx1 => ?_
  try simp only [wpSs, wpS, wpE, wpEs, wpC, wpAnd, wpOr, wpO, wpIt, opt_some, onI_int, onB_bl, onR_ref, arg1_one, look, joinO, start, List.map_cons, List.map_nil, List.length_cons, List.length_nil, List.replicate, List.cons_append, List.nil_append, List.append_nil, List.getElem?_cons_succ, List.getElem?_cons_zero, kcD, Nat.reduceAdd, Nat.reduceSub, br_t, br_f, br_n, asg, setAll, List.set_cons_succ, List.set_cons_zero, tgs, wipe, eq_ii, ne_ii, lt_ii, le_ii, gt_ii, ge_ii, is_n, isn_n, is_b, isn_b, add_ii, sub_ii, mul_ii, mod_ii, fdiv_ii, pow_ii, isNon, biD, intD_i, intD_b, esLen, beq_self_eq_true, ixD_tup, lsOf_new, seqD_tup, seqD_fl, slD_tup, bools, Option.map_some, true_and, ixD_fl, lenD_tup, lenD_fl, ix30, ix31, ix32, at20, at21, at30, at31, at32, List.filterMap_cons, List.filterMap_nil]
  refine call hG ⟨w, b2 + 1, _, rfl, by omega, by omega, w2, by omega, fun d3 S3 p3 q3 w3 k3 => ?_⟩
  refine mkL_ok (by simp) fun p' hp' => ?_
  obtain ⟨ow, ew⟩ := w3.some
  have hne := ne_new ew hp'
  refine call hG ⟨w, 5, _, rfl, by decide, by decide, w3.ext (Ext.new hp'), by omega, fun d4 S4 p4 q4 w4 k4 => ?_⟩
  have e4 := k4 p' _ (Ne.symm hne) upd_at
  have kk4 : Kp w S0 S4 := kk2.trans (k3.trans (((Ext.new hp').kp w).trans k4))
  simp only [wpSs, wpS, wpE, wpEs, wpC, wpAnd, wpOr, wpO, wpIt, opt_some, onI_int, onB_bl, onR_ref, arg1_one, look, joinO, start, List.map_cons, List.map_nil, List.length_cons, List.length_nil, List.replicate, List.cons_append, List.nil_append, List.append_nil, List.getElem?_cons_succ, List.getElem?_cons_zero, kcD, Nat.reduceAdd, Nat.reduceSub, br_t, br_f, br_n, asg, setAll, List.set_cons_succ, List.set_cons_zero, tgs, wipe, eq_ii, ne_ii, lt_ii, le_ii, gt_ii, ge_ii, is_n, isn_n, is_b, isn_b, add_ii, sub_ii, mul_ii, mod_ii, fdiv_ii, pow_ii, isNon, biD, intD_i, intD_b, esLen, beq_self_eq_true, ixD_tup, lsOf_new, seqD_tup, seqD_fl, slD_tup, bools, Option.map_some, true_and, ixD_fl, lenD_tup, lenD_fl, ix30, ix31, ix32, at20, at21, at30, at31, at32, List.filterMap_cons, List.filterMap_nil, ixD_ref e4]
  refine pick3 (lo := 0) (hi := b2) (min2 p4).1 (min2 p4).2 (by omega) (by omega) (by omega) fun y hy0 hy1 => ?_
  try simp only [wpSs, wpS, wpE, wpEs, wpC, wpAnd, wpOr, wpO, wpIt, opt_some, onI_int, onB_bl, onR_ref, arg1_one, look, joinO, start, List.map_cons, List.map_nil, List.length_cons, List.length_nil, List.replicate, List.cons_append, List.nil_append, List.append_nil, List.getElem?_cons_succ, List.getElem?_cons_zero, kcD, Nat.reduceAdd, Nat.reduceSub, br_t, br_f, br_n, asg, setAll, List.set_cons_succ, List.set_cons_zero, tgs, wipe, eq_ii, ne_ii, lt_ii, le_ii, gt_ii, ge_ii, is_n, isn_n, is_b, isn_b, add_ii, sub_ii, mul_ii, mod_ii, fdiv_ii, pow_ii, isNon, biD, intD_i, intD_b, esLen, beq_self_eq_true, ixD_tup, lsOf_new, seqD_tup, seqD_fl, slD_tup, bools, Option.map_some, true_and, ixD_fl, lenD_tup, lenD_fl, ix30, ix31, ix32, at20, at21, at30, at31, at32, List.filterMap_cons, List.filterMap_nil]
  have sm2 : sm 2 := sm_of 8 (by decide) (by decide)
  have smm : sm m := sm_of 1000 (by decide) (by omega)
  refine ⟨sm2, smm, ?_⟩
  refine call hG ⟨w, 2 * m + 1, _, rfl, by omega, by omega, w4, by omega, fun d5 S5 p5 q5 w5 k5 => ?_⟩
  try simp only [wpSs, wpS, wpE, wpEs, wpC, wpAnd, wpOr, wpO, wpIt, opt_some, onI_int, onB_bl, onR_ref, arg1_one, look, joinO, start, List.map_cons, List.map_nil, List.length_cons, List.length_nil, List.replicate, List.cons_append, List.nil_append, List.append_nil, List.getElem?_cons_succ, List.getElem?_cons_zero, kcD, Nat.reduceAdd, Nat.reduceSub, br_t, br_f, br_n, asg, setAll, List.set_cons_succ, List.set_cons_zero, tgs, wipe, eq_ii, ne_ii, lt_ii, le_ii, gt_ii, ge_ii, is_n, isn_n, is_b, isn_b, add_ii, sub_ii, mul_ii, mod_ii, fdiv_ii, pow_ii, isNon, biD, intD_i, intD_b, esLen, beq_self_eq_true, ixD_tup, lsOf_new, seqD_tup, seqD_fl, slD_tup, bools, Option.map_some, true_and, ixD_fl, lenD_tup, lenD_fl, ix30, ix31, ix32, at20, at21, at30, at31, at32, List.filterMap_cons, List.filterMap_nil]
  refine ⟨sm2, smm, ?_⟩
  refine call hG ⟨w, 2 * m + 1, _, rfl, by omega, by omega, w5, by omega, fun d6 S6 p6 q6 w6 k6 => ?_⟩
  try simp only [wpSs, wpS, wpE, wpEs, wpC, wpAnd, wpOr, wpO, wpIt, opt_some, onI_int, onB_bl, onR_ref, arg1_one, look, joinO, start, List.map_cons, List.map_nil, List.length_cons, List.length_nil, List.replicate, List.cons_append, List.nil_append, List.append_nil, List.getElem?_cons_succ, List.getElem?_cons_zero, kcD, Nat.reduceAdd, Nat.reduceSub, br_t, br_f, br_n, asg, setAll, List.set_cons_succ, List.set_cons_zero, tgs, wipe, eq_ii, ne_ii, lt_ii, le_ii, gt_ii, ge_ii, is_n, isn_n, is_b, isn_b, add_ii, sub_ii, mul_ii, mod_ii, fdiv_ii, pow_ii, isNon, biD, intD_i, intD_b, esLen, beq_self_eq_true, ixD_tup, lsOf_new, seqD_tup, seqD_fl, slD_tup, bools, Option.map_some, true_and, ixD_fl, lenD_tup, lenD_fl, ix30, ix31, ix32, at20, at21, at30, at31, at32, List.filterMap_cons, List.filterMap_nil]
  refine call hG ⟨w, 8, _, rfl, by decide, by decide, w6, by omega, fun d7 S7 p7 q7 w7 k7 => ?_⟩
  try simp only [wpSs, wpS, wpE, wpEs, wpC, wpAnd, wpOr, wpO, wpIt, opt_some, onI_int, onB_bl, onR_ref, arg1_one, look, joinO, start, List.map_cons, List.map_nil, List.length_cons, List.length_nil, List.replicate, List.cons_append, List.nil_append, List.append_nil, List.getElem?_cons_succ, List.getElem?_cons_zero, kcD, Nat.reduceAdd, Nat.reduceSub, br_t, br_f, br_n, asg, setAll, List.set_cons_succ, List.set_cons_zero, tgs, wipe, eq_ii, ne_ii, lt_ii, le_ii, gt_ii, ge_ii, is_n, isn_n, is_b, isn_b, add_ii, sub_ii, mul_ii, mod_ii, fdiv_ii, pow_ii, isNon, biD, intD_i, intD_b, esLen, beq_self_eq_true, ixD_tup, lsOf_new, seqD_tup, seqD_fl, slD_tup, bools, Option.map_some, true_and, ixD_fl, lenD_tup, lenD_fl, ix30, ix31, ix32, at20, at21, at30, at31, at32, List.filterMap_cons, List.filterMap_nil]
  have kk7 : Kp w S0 S7 := kk4.trans (k5.trans (k6.trans k7))
  have l2 : 2 ≤ lim := len_lim (by decide)
  have l4 : 4 ≤ lim := len_lim (by decide)
  -- the end, for any way
  have fin : ∀ (p q : Int) (S : Sto), Well (n + 8) S w → Kp w S0 S → -m ≤ p → p ≤ m → -m ≤ q → q ≤ m → 2 ≤ lim ∧ 2 ≤ lim ∧ cmpD .ne (.tup [.int p, .int q]) (.tup [.int 0, .int 0]) S fun k => br k (4 ≤ lim ∧ Q (.tup [.int x, .int y, .int p, .int q]) S) (4 ≤ lim ∧ Q (.tup [.int x, .int y, .int 1, .int 1]) S) := by
    intro p q S hw hk hp1 hp2 hq1 hq2
    refine ⟨l2, l2, ne_pair.mpr (br_if (fun h => ⟨l4, ?_⟩) fun h => ⟨l4, ?_⟩)⟩
    · refine hq x y p q S hx0 hx1 hy0 hy1 ?_ hp1 hp2 hq1 hq2 hw hk
      by_cases hp : p = 0
      · right
        intro hz
        subst hp hz
        simp at h
      · exact .inl hp
    · exact hq x y 1 1 S hx0 hx1 hy0 hy1 (.inl (by decide)) (by omega) (by omega) (by omega) (by omega) hw hk
  refine br_if (fun _ => fin 0 _ S7 (w7.le (by omega)) kk7 (by omega) (by omega) (by omega) (by omega)) fun _ => ?_
  refine call hG ⟨w, 8, _, rfl, by decide, by decide, w7, by omega, fun d8 S8 p8 q8 w8 k8 => ?_⟩
  try simp only [wpSs, wpS, wpE, wpEs, wpC, wpAnd, wpOr, wpO, wpIt, opt_some, onI_int, onB_bl, onR_ref, arg1_one, look, joinO, start, List.map_cons, List.map_nil, List.length_cons, List.length_nil, List.replicate, List.cons_append, List.nil_append, List.append_nil, List.getElem?_cons_succ, List.getElem?_cons_zero, kcD, Nat.reduceAdd, Nat.reduceSub, br_t, br_f, br_n, asg, setAll, List.set_cons_succ, List.set_cons_zero, tgs, wipe, eq_ii, ne_ii, lt_ii, le_ii, gt_ii, ge_ii, is_n, isn_n, is_b, isn_b, add_ii, sub_ii, mul_ii, mod_ii, fdiv_ii, pow_ii, isNon, biD, intD_i, intD_b, esLen, beq_self_eq_true, ixD_tup, lsOf_new, seqD_tup, seqD_fl, slD_tup, bools, Option.map_some, true_and, ixD_fl, lenD_tup, lenD_fl, ix30, ix31, ix32, at20, at21, at30, at31, at32, List.filterMap_cons, List.filterMap_nil]
  refine br_if (fun _ => fin _ 0 S8 (w8.le (by omega)) (kk7.trans k8) (by omega) (by omega) (by omega) (by omega)) fun _ => fin _ _ S8 (w8.le (by omega)) (kk7.trans k8) (by omega) (by omega) (by omega) (by omega)
end M
namespace M
/-- its type is known -/
def Kn (S : Sto) : D → Prop
  | .ref a => ∃ o, S a = some o
  | .xn _ _ => False
  | _ => True
def isI : D → Bool
  | .int _ => true
  | _ => false
def isBl : D → Bool
  | .bl _ => true
  | _ => false
def isT : D → Bool
  | .tup _ => true
  | _ => false
def isS : D → Bool
  | .str _ => true
  | _ => false
theorem ty_int {S : Sto} {v : D} (h : Kn S v) : isTy S v .int = some (isI v || isBl v) := by
  cases v with
  | ref a =>
    obtain ⟨o, e⟩ := h
    show tyO (S a) .int = _
    rw [e]
    cases o <;> rfl
  | xn c fs => exact False.elim h
  | _ => rfl
theorem ty_bool {S : Sto} {v : D} (h : Kn S v) : isTy S v .bool = some (isBl v) := by
  cases v with
  | ref a =>
    obtain ⟨o, e⟩ := h
    show tyO (S a) .bool = _
    rw [e]
    cases o <;> rfl
  | xn c fs => exact False.elim h
  | _ => rfl
theorem ty_tuple {S : Sto} {v : D} (h : Kn S v) : isTy S v .tuple = some (isT v) := by
  cases v with
  | ref a =>
    obtain ⟨o, e⟩ := h
    show tyO (S a) .tuple = _
    rw [e]
    cases o <;> rfl
  | xn c fs => exact False.elim h
  | _ => rfl
def oI : Option Int → D
  | none => .non
  | some i => .int i
def intB : D → Option Int → Option Int → Bool
  | .int i, lo, hi => (match lo with | none => true | some l => decide (l ≤ i)) && (match hi with | none => true | some m => decide (i ≤ m))
  | _, _, _ => false
/-- is_integer(value, least, most) -/
def spInt : Sp := fun ds S Q _ => ∃ v lo hi, ds = [v, oI lo, oI hi] ∧ Kn S v ∧ Q (.bl (intB v lo hi)) S
theorem txt_int {G : Gm} {ds : List D} {S0 : Sto} {Q : VK} {X : XK} {b : Ss} (hb : b = (.cons (.if_ (.or (.not (.isi (.v 0) .int)) (.cons (.isi (.v 0) .bool) .nil)) (.cons (.ret (.k (.bl false))) .nil) .nil) (.cons (.ret (.and (.or (.cmp .is_ (.v 1) (.k .non)) (.cons (.cmp .le (.v 1) (.v 0)) .nil)) (.cons (.or (.cmp .is_ (.v 2) (.k .non)) (.cons (.cmp .le (.v 0) (.v 2)) .nil)) .nil))) .nil))) (h : spInt ds S0 Q X) : ds.length = 3 ∧ wpSs G b (start 3 ds) S0 (kR Q X) := by
  obtain ⟨v, lo, hi, rfl, hk, hq⟩ := h
  subst hb
  refine ⟨rfl, ?_⟩
  simp only [wpSs, wpS, wpE, wpEs, wpC, wpAnd, wpOr, wpO, wpIt, opt_some, onI_int, onB_bl, onR_ref, arg1_one, look, joinO, start, List.map_cons, List.map_nil, List.length_cons, List.length_nil, List.replicate, List.cons_append, List.nil_append, List.append_nil, List.getElem?_cons_succ, List.getElem?_cons_zero, kcD, Nat.reduceAdd, Nat.reduceSub, br_t, br_f, br_n, asg, setAll, List.set_cons_succ, List.set_cons_zero, tgs, wipe, eq_ii, ne_ii, lt_ii, le_ii, gt_ii, ge_ii, is_n, isn_n, is_b, isn_b, add_ii, sub_ii, mul_ii, mod_ii, fdiv_ii, pow_ii, isNon, biD, intD_i, intD_b, esLen, beq_self_eq_true, ixD_tup, lsOf_new, seqD_tup, seqD_fl, slD_tup, bools, Option.map_some, true_and, ixD_fl, lenD_tup, lenD_fl, ix30, ix31, ix32, at20, at21, at30, at31, at32, List.filterMap_cons, List.filterMap_nil, ty_int hk, ty_bool hk]
  cases v with
  | int i =>
    simp only [isI, isBl, Bool.or_false, br_t, br_f]
    cases lo <;> cases hi
    · exact (by simpa [oI, intB, wpSs, wpS, wpE, wpEs, wpC, wpAnd, wpOr, wpO, wpIt, opt_some, onI_int, onB_bl, onR_ref, arg1_one, look, joinO, start, List.map_cons, List.map_nil, List.length_cons, List.length_nil, List.replicate, List.cons_append, List.nil_append, List.append_nil, List.getElem?_cons_succ, List.getElem?_cons_zero, kcD, Nat.reduceAdd, Nat.reduceSub, br_t, br_f, br_n, asg, setAll, List.set_cons_succ, List.set_cons_zero, tgs, wipe, eq_ii, ne_ii, lt_ii, le_ii, gt_ii, ge_ii, is_n, isn_n, is_b, isn_b, add_ii, sub_ii, mul_ii, mod_ii, fdiv_ii, pow_ii, isNon, biD, intD_i, intD_b, esLen, beq_self_eq_true, ixD_tup, lsOf_new, seqD_tup, seqD_fl, slD_tup, bools, Option.map_some, true_and, ixD_fl, lenD_tup, lenD_fl, ix30, ix31, ix32, at20, at21, at30, at31, at32, List.filterMap_cons, List.filterMap_nil] using hq)
    · exact (by simpa [oI, intB, wpSs, wpS, wpE, wpEs, wpC, wpAnd, wpOr, wpO, wpIt, opt_some, onI_int, onB_bl, onR_ref, arg1_one, look, joinO, start, List.map_cons, List.map_nil, List.length_cons, List.length_nil, List.replicate, List.cons_append, List.nil_append, List.append_nil, List.getElem?_cons_succ, List.getElem?_cons_zero, kcD, Nat.reduceAdd, Nat.reduceSub, br_t, br_f, br_n, asg, setAll, List.set_cons_succ, List.set_cons_zero, tgs, wipe, eq_ii, ne_ii, lt_ii, le_ii, gt_ii, ge_ii, is_n, isn_n, is_b, isn_b, add_ii, sub_ii, mul_ii, mod_ii, fdiv_ii, pow_ii, isNon, biD, intD_i, intD_b, esLen, beq_self_eq_true, ixD_tup, lsOf_new, seqD_tup, seqD_fl, slD_tup, bools, Option.map_some, true_and, ixD_fl, lenD_tup, lenD_fl, ix30, ix31, ix32, at20, at21, at30, at31, at32, List.filterMap_cons, List.filterMap_nil] using hq)
    · rename_i l
      have hq : Q (.bl (decide (l ≤ i) && true)) S0 := hq
      simp only [oI, wpSs, wpS, wpE, wpEs, wpC, wpAnd, wpOr, wpO, wpIt, opt_some, onI_int, onB_bl, onR_ref, arg1_one, look, joinO, start, List.map_cons, List.map_nil, List.length_cons, List.length_nil, List.replicate, List.cons_append, List.nil_append, List.append_nil, List.getElem?_cons_succ, List.getElem?_cons_zero, kcD, Nat.reduceAdd, Nat.reduceSub, br_t, br_f, br_n, asg, setAll, List.set_cons_succ, List.set_cons_zero, tgs, wipe, eq_ii, ne_ii, lt_ii, le_ii, gt_ii, ge_ii, is_n, isn_n, is_b, isn_b, add_ii, sub_ii, mul_ii, mod_ii, fdiv_ii, pow_ii, isNon, biD, intD_i, intD_b, esLen, beq_self_eq_true, ixD_tup, lsOf_new, seqD_tup, seqD_fl, slD_tup, bools, Option.map_some, true_and, ixD_fl, lenD_tup, lenD_fl, ix30, ix31, ix32, at20, at21, at30, at31, at32, List.filterMap_cons, List.filterMap_nil]
      exact br_if (fun h => by rw [h] at hq; exact hq) fun h => by rw [h] at hq; exact hq
    · rename_i l m
      have hq : Q (.bl (decide (l ≤ i) && decide (i ≤ m))) S0 := hq
      simp only [oI, wpSs, wpS, wpE, wpEs, wpC, wpAnd, wpOr, wpO, wpIt, opt_some, onI_int, onB_bl, onR_ref, arg1_one, look, joinO, start, List.map_cons, List.map_nil, List.length_cons, List.length_nil, List.replicate, List.cons_append, List.nil_append, List.append_nil, List.getElem?_cons_succ, List.getElem?_cons_zero, kcD, Nat.reduceAdd, Nat.reduceSub, br_t, br_f, br_n, asg, setAll, List.set_cons_succ, List.set_cons_zero, tgs, wipe, eq_ii, ne_ii, lt_ii, le_ii, gt_ii, ge_ii, is_n, isn_n, is_b, isn_b, add_ii, sub_ii, mul_ii, mod_ii, fdiv_ii, pow_ii, isNon, biD, intD_i, intD_b, esLen, beq_self_eq_true, ixD_tup, lsOf_new, seqD_tup, seqD_fl, slD_tup, bools, Option.map_some, true_and, ixD_fl, lenD_tup, lenD_fl, ix30, ix31, ix32, at20, at21, at30, at31, at32, List.filterMap_cons, List.filterMap_nil]
      exact br_if (fun h => by rw [h] at hq; exact hq) fun h => by rw [h] at hq; exact hq
  | bl i => exact br_t.mpr (br_t.mpr hq)
  | _ => exact br_f.mpr hq
/-- divisor(one, other) -/
def spGcd : Sp := fun ds S Q _ => ∃ a b : Int, ds = [.int a, .int b] ∧ Q (.int (Int.gcd a b : Nat)) S
theorem abs_ite (a : Int) : (if a < 0 then -a else a) = (a.natAbs : Int) := by split <;> omega
theorem txt_gcd {G : Gm} {ds : List D} {S0 : Sto} {Q : VK} {X : XK} {b : Ss} (hb : b = (.cons (.par 2 3 (.bi .abs (.cons (.v 0) .nil)) (.bi .abs (.cons (.v 1) .nil))) (.cons (.while_ (.cmp .ne (.v 3) (.k (.int 0))) (.cons (.set (.v 4) (.bin .mod (.v 2) (.v 3))) (.cons (.set (.v 2) (.v 3)) (.cons (.set (.v 3) (.v 4)) .nil)))) (.cons (.ret (.v 2)) .nil)))) (h : spGcd ds S0 Q X) : ds.length = 2 ∧ wpSs G b (start 5 ds) S0 (kR Q X) := by
  obtain ⟨x, y, rfl, hq⟩ := h
  subst hb
  refine ⟨rfl, ?_⟩
  simp only [wpSs, wpS, wpE, wpEs, wpC, wpAnd, wpOr, wpO, wpIt, opt_some, onI_int, onB_bl, onR_ref, arg1_one, look, joinO, start, List.map_cons, List.map_nil, List.length_cons, List.length_nil, List.replicate, List.cons_append, List.nil_append, List.append_nil, List.getElem?_cons_succ, List.getElem?_cons_zero, kcD, Nat.reduceAdd, Nat.reduceSub, br_t, br_f, br_n, asg, setAll, List.set_cons_succ, List.set_cons_zero, tgs, wipe, eq_ii, ne_ii, lt_ii, le_ii, gt_ii, ge_ii, is_n, isn_n, is_b, isn_b, add_ii, sub_ii, mul_ii, mod_ii, fdiv_ii, pow_ii, isNon, biD, intD_i, intD_b, esLen, beq_self_eq_true, ixD_tup, lsOf_new, seqD_tup, seqD_fl, slD_tup, bools, Option.map_some, true_and, ixD_fl, lenD_tup, lenD_fl, ix30, ix31, ix32, at20, at21, at30, at31, at32, List.filterMap_cons, List.filterMap_nil, abs_ite]
  have run : ∀ (n : Nat) (u v : Nat) (z : Option D), v ≤ n → Nat.gcd u v = Int.gcd x y → ∃ m, whileN (fun ρ1 S1 nx => wpE G (.cmp .ne (.v 3) (.k (.int 0))) ρ1 S1 (fun x S2 => onB x fun k => br k (wpSs G (.cons (.set (.v 4) (.bin .mod (.v 2) (.v 3))) (.cons (.set (.v 2) (.v 3)) (.cons (.set (.v 3) (.v 4)) .nil))) ρ1 S2 { nx := nx, rt := Q, bk := fun ρ1 S1 => wpSs G (.cons (.ret (.v 2)) .nil) ρ1 S1 (kR Q X), xe := fun k fs _ S' => X k fs S' }) (wpSs G (.cons (.ret (.v 2)) .nil) ρ1 S2 (kR Q X))) (fun k fs S2 => X k fs S2)) m [some (.int x), some (.int y), some (.int u), some (.int v), z] S0 := by
    intro n
    induction n with
    | zero =>
      intro u v z hv hg
      have e : v = 0 := by omega
      subst e
      refine ⟨1, ?_⟩
      rw [Nat.gcd_zero_right] at hg
      simp only [whileN, wpSs, wpS, wpE, wpEs, wpC, wpAnd, wpOr, wpO, wpIt, opt_some, onI_int, onB_bl, onR_ref, arg1_one, look, joinO, start, List.map_cons, List.map_nil, List.length_cons, List.length_nil, List.replicate, List.cons_append, List.nil_append, List.append_nil, List.getElem?_cons_succ, List.getElem?_cons_zero, kcD, Nat.reduceAdd, Nat.reduceSub, br_t, br_f, br_n, asg, setAll, List.set_cons_succ, List.set_cons_zero, tgs, wipe, eq_ii, ne_ii, lt_ii, le_ii, gt_ii, ge_ii, is_n, isn_n, is_b, isn_b, add_ii, sub_ii, mul_ii, mod_ii, fdiv_ii, pow_ii, isNon, biD, intD_i, intD_b, esLen, beq_self_eq_true, ixD_tup, lsOf_new, seqD_tup, seqD_fl, slD_tup, bools, Option.map_some, true_and, ixD_fl, lenD_tup, lenD_fl, ix30, ix31, ix32, at20, at21, at30, at31, at32, List.filterMap_cons, List.filterMap_nil]
      rw [hg]
      exact br_t.mpr hq
    | succ n ih =>
      intro u v z hv hg
      by_cases h0 : v = 0
      · subst h0
        refine ⟨1, ?_⟩
        rw [Nat.gcd_zero_right] at hg
        simp only [whileN, wpSs, wpS, wpE, wpEs, wpC, wpAnd, wpOr, wpO, wpIt, opt_some, onI_int, onB_bl, onR_ref, arg1_one, look, joinO, start, List.map_cons, List.map_nil, List.length_cons, List.length_nil, List.replicate, List.cons_append, List.nil_append, List.append_nil, List.getElem?_cons_succ, List.getElem?_cons_zero, kcD, Nat.reduceAdd, Nat.reduceSub, br_t, br_f, br_n, asg, setAll, List.set_cons_succ, List.set_cons_zero, tgs, wipe, eq_ii, ne_ii, lt_ii, le_ii, gt_ii, ge_ii, is_n, isn_n, is_b, isn_b, add_ii, sub_ii, mul_ii, mod_ii, fdiv_ii, pow_ii, isNon, biD, intD_i, intD_b, esLen, beq_self_eq_true, ixD_tup, lsOf_new, seqD_tup, seqD_fl, slD_tup, bools, Option.map_some, true_and, ixD_fl, lenD_tup, lenD_fl, ix30, ix31, ix32, at20, at21, at30, at31, at32, List.filterMap_cons, List.filterMap_nil]
        rw [hg]
        exact br_t.mpr hq
      · obtain ⟨m, hm⟩ := ih v (u % v) (some (.int ((u % v : Nat) : Int))) (by have := Nat.mod_lt u (y := v) (by omega); omega) (by rw [← hg, Nat.gcd_comm, ← Nat.gcd_rec, Nat.gcd_comm])
        refine ⟨m + 1, ?_⟩
        have hb : ((v : Int) == 0) = false := by simp; omega
        have hf : Int.fmod (u : Int) (v : Int) = ((u % v : Nat) : Int) := by rw [fmod_pos (by omega)]; rfl
        simp only [whileN, wpSs, wpS, wpE, wpEs, wpC, wpAnd, wpOr, wpO, wpIt, opt_some, onI_int, onB_bl, onR_ref, arg1_one, look, joinO, start, List.map_cons, List.map_nil, List.length_cons, List.length_nil, List.replicate, List.cons_append, List.nil_append, List.append_nil, List.getElem?_cons_succ, List.getElem?_cons_zero, kcD, Nat.reduceAdd, Nat.reduceSub, br_t, br_f, br_n, asg, setAll, List.set_cons_succ, List.set_cons_zero, tgs, wipe, eq_ii, ne_ii, lt_ii, le_ii, gt_ii, ge_ii, is_n, isn_n, is_b, isn_b, add_ii, sub_ii, mul_ii, mod_ii, fdiv_ii, pow_ii, isNon, biD, intD_i, intD_b, esLen, beq_self_eq_true, ixD_tup, lsOf_new, seqD_tup, seqD_fl, slD_tup, bools, Option.map_some, true_and, ixD_fl, lenD_tup, lenD_fl, ix30, ix31, ix32, at20, at21, at30, at31, at32, List.filterMap_cons, List.filterMap_nil, hb, hf]
        simp only [wpSs, wpS, wpE, wpEs, wpC, wpAnd, wpOr, wpO, wpIt, opt_some, onI_int, onB_bl, onR_ref, arg1_one, look, joinO, start, List.map_cons, List.map_nil, List.length_cons, List.length_nil, List.replicate, List.cons_append, List.nil_append, List.append_nil, List.getElem?_cons_succ, List.getElem?_cons_zero, kcD, Nat.reduceAdd, Nat.reduceSub, br_t, br_f, br_n, asg, setAll, List.set_cons_succ, List.set_cons_zero, tgs, wipe, eq_ii, ne_ii, lt_ii, le_ii, gt_ii, ge_ii, is_n, isn_n, is_b, isn_b, add_ii, sub_ii, mul_ii, mod_ii, fdiv_ii, pow_ii, isNon, biD, intD_i, intD_b, esLen, beq_self_eq_true, ixD_tup, lsOf_new, seqD_tup, seqD_fl, slD_tup, bools, Option.map_some, true_and, ixD_fl, lenD_tup, lenD_fl, ix30, ix31, ix32, at20, at21, at30, at31, at32, List.filterMap_cons, List.filterMap_nil] at hm
        first
          | exact ⟨by omega, hm⟩
          | exact br_f.mpr (show _ ∧ _ from ⟨by omega, hm⟩)
  obtain ⟨m, hm⟩ := run _ x.natAbs y.natAbs none (Nat.le_refl _) rfl
  simp only [wpSs, wpS, wpE, wpEs, wpC, wpAnd, wpOr, wpO, wpIt, opt_some, onI_int, onB_bl, onR_ref, arg1_one, look, joinO, start, List.map_cons, List.map_nil, List.length_cons, List.length_nil, List.replicate, List.cons_append, List.nil_append, List.append_nil, List.getElem?_cons_succ, List.getElem?_cons_zero, kcD, Nat.reduceAdd, Nat.reduceSub, br_t, br_f, br_n, asg, setAll, List.set_cons_succ, List.set_cons_zero, tgs, wipe, eq_ii, ne_ii, lt_ii, le_ii, gt_ii, ge_ii, is_n, isn_n, is_b, isn_b, add_ii, sub_ii, mul_ii, mod_ii, fdiv_ii, pow_ii, isNon, biD, intD_i, intD_b, esLen, beq_self_eq_true, ixD_tup, lsOf_new, seqD_tup, seqD_fl, slD_tup, bools, Option.map_some, true_and, ixD_fl, lenD_tup, lenD_fl, ix30, ix31, ix32, at20, at21, at30, at31, at32, List.filterMap_cons, List.filterMap_nil] at hm
  exact ⟨m, hm⟩
end M
namespace M
/-- a value whose types are known, one deep -/
def Vl (S : Sto) (v : D) : Prop := Kn S v ∧ ∀ xs, v = .tup xs → ∀ y ∈ xs, Kn S y
theorem Kn.ext {S S' : Sto} {v : D} (h : Kn S v) (k : Ext S S') : Kn S' v := by
  cases v with
  | ref a => obtain ⟨o, e⟩ := h; exact ⟨o, k _ _ e⟩
  | xn _ _ => exact h
  | _ => trivial
theorem Vl.ext {S S' : Sto} {v : D} (h : Vl S v) (k : Ext S S') : Vl S' v := ⟨h.1.ext k, fun xs e y hy => (h.2 xs e y hy).ext k⟩
theorem isT_of {v : D} (h : isT v = true) : ∃ xs, v = .tup xs := by
  cases v <;> first | exact ⟨_, rfl⟩ | cases h
theorem len2 {α : Type} {xs : List α} (h : (((xs.length : Nat) : Int) == 2) = true) : ∃ x y, xs = [x, y] := by
  have h : ((xs.length : Nat) : Int) = 2 := by simpa using h
  match xs, h with
  | [x, y], _ => exact ⟨x, y, rfl⟩
  | [], h => simp at h
  | [_], h => simp at h
  | _ :: _ :: _ :: _, h => simp at h; omega
theorem len4 {α : Type} {xs : List α} (h : (((xs.length : Nat) : Int) == 4) = true) : ∃ x y z u, xs = [x, y, z, u] := by
  have h : ((xs.length : Nat) : Int) = 4 := by simpa using h
  match xs, h with
  | [x, y, z, u], _ => exact ⟨x, y, z, u, rfl⟩
  | [], h => simp at h
  | [_], h => simp at h
  | [_, _], h => simp at h
  | [_, _, _], h => simp at h
  | _ :: _ :: _ :: _ :: _ :: _, h => simp at h; omega
def tabL : List D → Bool
  | [x, y] => intB x (some 1) none && intB y (some 1) none
  | _ => false
/-- is it a table -/
def tabB : D → Bool
  | .tup xs => tabL xs
  | _ => false
theorem tabL_len {xs : List D} (h : (((xs.length : Nat) : Int) == 2) = false) : tabL xs = false := by
  unfold tabL
  split
  · simp at h
  · rfl
def spTab : Sp := fun ds S Q _ => ∃ v, ds = [v] ∧ Vl S v ∧ ∀ S', Ext S S' → Q (.bl (tabB v)) S'
theorem txt_tab {G : Gm} {ds : List D} {S0 : Sto} {Q : VK} {X : XK} {b : Ss} (hb : b = (.cons (.ret (.and (.isi (.v 0) .tuple) (.cons (.cmp .eq (.bi .len (.cons (.v 0) .nil)) (.k (.int 2))) (.cons (.bi .all (.cons (.comp (.call 0 (.cons (.v 1) (.cons (.k (.int 1)) (.cons (.k .non) .nil)))) (.v 1) (.seq (.v 0)) .none) .nil)) .nil)))) .nil)) (h0 : G.fn 0 = spInt) (h : spTab ds S0 Q X) : ds.length = 1 ∧ wpSs G b (start 2 ds) S0 (kR Q X) := by
  obtain ⟨v, rfl, hv, hq⟩ := h
  subst hb
  refine ⟨rfl, ?_⟩
  simp only [wpSs, wpS, wpE, wpEs, wpC, wpAnd, wpOr, wpO, wpIt, opt_some, onI_int, onB_bl, onR_ref, arg1_one, look, joinO, start, List.map_cons, List.map_nil, List.length_cons, List.length_nil, List.replicate, List.cons_append, List.nil_append, List.append_nil, List.getElem?_cons_succ, List.getElem?_cons_zero, kcD, Nat.reduceAdd, Nat.reduceSub, br_t, br_f, br_n, asg, setAll, List.set_cons_succ, List.set_cons_zero, tgs, wipe, eq_ii, ne_ii, lt_ii, le_ii, gt_ii, ge_ii, is_n, isn_n, is_b, isn_b, add_ii, sub_ii, mul_ii, mod_ii, fdiv_ii, pow_ii, isNon, biD, intD_i, intD_b, esLen, beq_self_eq_true, ixD_tup, lsOf_new, seqD_tup, seqD_fl, slD_tup, bools, Option.map_some, true_and, ixD_fl, lenD_tup, lenD_fl, ix30, ix31, ix32, at20, at21, at30, at31, at32, List.filterMap_cons, List.filterMap_nil, ty_tuple hv.1]
  refine br_if (fun hT => ?_) fun hT => ?_
  · obtain ⟨xs, rfl⟩ := isT_of hT
    have hx := hv.2 xs rfl
    simp only [wpSs, wpS, wpE, wpEs, wpC, wpAnd, wpOr, wpO, wpIt, opt_some, onI_int, onB_bl, onR_ref, arg1_one, look, joinO, start, List.map_cons, List.map_nil, List.length_cons, List.length_nil, List.replicate, List.cons_append, List.nil_append, List.append_nil, List.getElem?_cons_succ, List.getElem?_cons_zero, kcD, Nat.reduceAdd, Nat.reduceSub, br_t, br_f, br_n, asg, setAll, List.set_cons_succ, List.set_cons_zero, tgs, wipe, eq_ii, ne_ii, lt_ii, le_ii, gt_ii, ge_ii, is_n, isn_n, is_b, isn_b, add_ii, sub_ii, mul_ii, mod_ii, fdiv_ii, pow_ii, isNon, biD, intD_i, intD_b, esLen, beq_self_eq_true, ixD_tup, lsOf_new, seqD_tup, seqD_fl, slD_tup, bools, Option.map_some, true_and, ixD_fl, lenD_tup, lenD_fl, ix30, ix31, ix32, at20, at21, at30, at31, at32, List.filterMap_cons, List.filterMap_nil]
    refine br_if (fun hl => ?_) fun hl => ?_
    · obtain ⟨x, y, rfl⟩ := len2 hl
      simp only [wpSs, wpS, wpE, wpEs, wpC, wpAnd, wpOr, wpO, wpIt, opt_some, onI_int, onB_bl, onR_ref, arg1_one, look, joinO, start, List.map_cons, List.map_nil, List.length_cons, List.length_nil, List.replicate, List.cons_append, List.nil_append, List.append_nil, List.getElem?_cons_succ, List.getElem?_cons_zero, kcD, Nat.reduceAdd, Nat.reduceSub, br_t, br_f, br_n, asg, setAll, List.set_cons_succ, List.set_cons_zero, tgs, wipe, eq_ii, ne_ii, lt_ii, le_ii, gt_ii, ge_ii, is_n, isn_n, is_b, isn_b, add_ii, sub_ii, mul_ii, mod_ii, fdiv_ii, pow_ii, isNon, biD, intD_i, intD_b, esLen, beq_self_eq_true, ixD_tup, lsOf_new, seqD_tup, seqD_fl, slD_tup, bools, Option.map_some, true_and, ixD_fl, lenD_tup, lenD_fl, ix30, ix31, ix32, at20, at21, at30, at31, at32, List.filterMap_cons, List.filterMap_nil, compW]
      refine ⟨len_lim (by decide), ?_⟩
      refine call h0 ⟨x, some 1, none, rfl, hx x (by simp), ?_⟩
      try simp only [wpSs, wpS, wpE, wpEs, wpC, wpAnd, wpOr, wpO, wpIt, opt_some, onI_int, onB_bl, onR_ref, arg1_one, look, joinO, start, List.map_cons, List.map_nil, List.length_cons, List.length_nil, List.replicate, List.cons_append, List.nil_append, List.append_nil, List.getElem?_cons_succ, List.getElem?_cons_zero, kcD, Nat.reduceAdd, Nat.reduceSub, br_t, br_f, br_n, asg, setAll, List.set_cons_succ, List.set_cons_zero, tgs, wipe, eq_ii, ne_ii, lt_ii, le_ii, gt_ii, ge_ii, is_n, isn_n, is_b, isn_b, add_ii, sub_ii, mul_ii, mod_ii, fdiv_ii, pow_ii, isNon, biD, intD_i, intD_b, esLen, beq_self_eq_true, ixD_tup, lsOf_new, seqD_tup, seqD_fl, slD_tup, bools, Option.map_some, true_and, ixD_fl, lenD_tup, lenD_fl, ix30, ix31, ix32, at20, at21, at30, at31, at32, List.filterMap_cons, List.filterMap_nil, compW]
      refine call h0 ⟨y, some 1, none, rfl, hx y (by simp), ?_⟩
      try simp only [wpSs, wpS, wpE, wpEs, wpC, wpAnd, wpOr, wpO, wpIt, opt_some, onI_int, onB_bl, onR_ref, arg1_one, look, joinO, start, List.map_cons, List.map_nil, List.length_cons, List.length_nil, List.replicate, List.cons_append, List.nil_append, List.append_nil, List.getElem?_cons_succ, List.getElem?_cons_zero, kcD, Nat.reduceAdd, Nat.reduceSub, br_t, br_f, br_n, asg, setAll, List.set_cons_succ, List.set_cons_zero, tgs, wipe, eq_ii, ne_ii, lt_ii, le_ii, gt_ii, ge_ii, is_n, isn_n, is_b, isn_b, add_ii, sub_ii, mul_ii, mod_ii, fdiv_ii, pow_ii, isNon, biD, intD_i, intD_b, esLen, beq_self_eq_true, ixD_tup, lsOf_new, seqD_tup, seqD_fl, slD_tup, bools, Option.map_some, true_and, ixD_fl, lenD_tup, lenD_fl, ix30, ix31, ix32, at20, at21, at30, at31, at32, List.filterMap_cons, List.filterMap_nil, compW]
      intro p hp
      simp only [wpSs, wpS, wpE, wpEs, wpC, wpAnd, wpOr, wpO, wpIt, opt_some, onI_int, onB_bl, onR_ref, arg1_one, look, joinO, start, List.map_cons, List.map_nil, List.length_cons, List.length_nil, List.replicate, List.cons_append, List.nil_append, List.append_nil, List.getElem?_cons_succ, List.getElem?_cons_zero, kcD, Nat.reduceAdd, Nat.reduceSub, br_t, br_f, br_n, asg, setAll, List.set_cons_succ, List.set_cons_zero, tgs, wipe, eq_ii, ne_ii, lt_ii, le_ii, gt_ii, ge_ii, is_n, isn_n, is_b, isn_b, add_ii, sub_ii, mul_ii, mod_ii, fdiv_ii, pow_ii, isNon, biD, intD_i, intD_b, esLen, beq_self_eq_true, ixD_tup, lsOf_new, seqD_tup, seqD_fl, slD_tup, bools, Option.map_some, true_and, ixD_fl, lenD_tup, lenD_fl, ix30, ix31, ix32, at20, at21, at30, at31, at32, List.filterMap_cons, List.filterMap_nil, Option.toList]
      have e := hq _ (Ext.new (o := .lst [.bl (intB x (some 1) none), .bl (intB y (some 1) none)]) hp)
      simpa [tabB, tabL] using e
    · have e : tabB (.tup xs) = false := tabL_len hl
      rw [e] at hq
      exact hq S0 Ext.refl
  · have e : tabB v = false := by cases v <;> first | rfl | cases hT
    rw [e] at hq
    exact hq S0 Ext.refl
def int0 : D → Int
  | .int i => i
  | _ => 0
def freeL : List D → Bool
  | [x, y, z, u] => (isI x && isI y && isI z && isI u) && (decide (0 ≤ int0 x) && decide (0 ≤ int0 y) && !(int0 z == 0 && int0 u == 0))
  | _ => false
/-- is it a free shot -/
def freeB : D → Bool
  | .tup xs => freeL xs
  | _ => false
theorem freeL_len {xs : List D} (h : (((xs.length : Nat) : Int) == 4) = false) : freeL xs = false := by
  unfold freeL
  split
  · simp at h
  · rfl
theorem intB_none {v : D} : intB v none none = isI v := by cases v <;> rfl
theorem isI_of {v : D} (h : isI v = true) : ∃ i, v = .int i := by cases v <;> first | exact ⟨_, rfl⟩ | cases h
def spFree : Sp := fun ds S Q _ => ∃ v, ds = [v] ∧ Vl S v ∧ ∀ S', Ext S S' → Q (.bl (freeB v)) S'
theorem txt_free {G : Gm} {ds : List D} {S0 : Sto} {Q : VK} {X : XK} {b : Ss} (hb : b = (.cons (.if_ (.or (.not (.isi (.v 0) .tuple)) (.cons (.cmp .ne (.bi .len (.cons (.v 0) .nil)) (.k (.int 4))) (.cons (.not (.bi .all (.cons (.comp (.call 0 (.cons (.v 1) (.cons (.k .non) (.cons (.k .non) .nil)))) (.v 1) (.seq (.v 0)) .none) .nil))) .nil))) (.cons (.ret (.k (.bl false))) .nil) .nil) (.cons (.ret (.and (.cmp .ge (.ix (.v 0) (.k (.int 0))) (.k (.int 0))) (.cons (.cmp .ge (.ix (.v 0) (.k (.int 1))) (.k (.int 0))) (.cons (.cmp .ne (.sl (.v 0) (.some (.k (.int 2))) .none) (.tup (.cons (.k (.int 0)) (.cons (.k (.int 0)) .nil)))) .nil)))) .nil))) (h0 : G.fn 0 = spInt) (h : spFree ds S0 Q X) : ds.length = 1 ∧ wpSs G b (start 2 ds) S0 (kR Q X) := by
  obtain ⟨v, rfl, hv, hq⟩ := h
  subst hb
  refine ⟨rfl, ?_⟩
  simp only [wpSs, wpS, wpE, wpEs, wpC, wpAnd, wpOr, wpO, wpIt, opt_some, onI_int, onB_bl, onR_ref, arg1_one, look, joinO, start, List.map_cons, List.map_nil, List.length_cons, List.length_nil, List.replicate, List.cons_append, List.nil_append, List.append_nil, List.getElem?_cons_succ, List.getElem?_cons_zero, kcD, Nat.reduceAdd, Nat.reduceSub, br_t, br_f, br_n, asg, setAll, List.set_cons_succ, List.set_cons_zero, tgs, wipe, eq_ii, ne_ii, lt_ii, le_ii, gt_ii, ge_ii, is_n, isn_n, is_b, isn_b, add_ii, sub_ii, mul_ii, mod_ii, fdiv_ii, pow_ii, isNon, biD, intD_i, intD_b, esLen, beq_self_eq_true, ixD_tup, lsOf_new, seqD_tup, seqD_fl, slD_tup, bools, Option.map_some, true_and, ixD_fl, lenD_tup, lenD_fl, ix30, ix31, ix32, at20, at21, at30, at31, at32, List.filterMap_cons, List.filterMap_nil, ty_tuple hv.1]
  refine br_if (fun hT => ?_) fun hT => ?_
  · obtain ⟨xs, rfl⟩ := isT_of hT
    have hx := hv.2 xs rfl
    simp only [wpSs, wpS, wpE, wpEs, wpC, wpAnd, wpOr, wpO, wpIt, opt_some, onI_int, onB_bl, onR_ref, arg1_one, look, joinO, start, List.map_cons, List.map_nil, List.length_cons, List.length_nil, List.replicate, List.cons_append, List.nil_append, List.append_nil, List.getElem?_cons_succ, List.getElem?_cons_zero, kcD, Nat.reduceAdd, Nat.reduceSub, br_t, br_f, br_n, asg, setAll, List.set_cons_succ, List.set_cons_zero, tgs, wipe, eq_ii, ne_ii, lt_ii, le_ii, gt_ii, ge_ii, is_n, isn_n, is_b, isn_b, add_ii, sub_ii, mul_ii, mod_ii, fdiv_ii, pow_ii, isNon, biD, intD_i, intD_b, esLen, beq_self_eq_true, ixD_tup, lsOf_new, seqD_tup, seqD_fl, slD_tup, bools, Option.map_some, true_and, ixD_fl, lenD_tup, lenD_fl, ix30, ix31, ix32, at20, at21, at30, at31, at32, List.filterMap_cons, List.filterMap_nil]
    refine br_if (fun hl => ?_) fun hl => ?_
    · obtain ⟨x, y, z, u, rfl⟩ := len4 hl
      simp only [wpSs, wpS, wpE, wpEs, wpC, wpAnd, wpOr, wpO, wpIt, opt_some, onI_int, onB_bl, onR_ref, arg1_one, look, joinO, start, List.map_cons, List.map_nil, List.length_cons, List.length_nil, List.replicate, List.cons_append, List.nil_append, List.append_nil, List.getElem?_cons_succ, List.getElem?_cons_zero, kcD, Nat.reduceAdd, Nat.reduceSub, br_t, br_f, br_n, asg, setAll, List.set_cons_succ, List.set_cons_zero, tgs, wipe, eq_ii, ne_ii, lt_ii, le_ii, gt_ii, ge_ii, is_n, isn_n, is_b, isn_b, add_ii, sub_ii, mul_ii, mod_ii, fdiv_ii, pow_ii, isNon, biD, intD_i, intD_b, esLen, beq_self_eq_true, ixD_tup, lsOf_new, seqD_tup, seqD_fl, slD_tup, bools, Option.map_some, true_and, ixD_fl, lenD_tup, lenD_fl, ix30, ix31, ix32, at20, at21, at30, at31, at32, List.filterMap_cons, List.filterMap_nil, compW]
      refine ⟨len_lim (by decide), ?_⟩
      refine call h0 ⟨x, none, none, rfl, hx x (by simp), ?_⟩
      try simp only [wpSs, wpS, wpE, wpEs, wpC, wpAnd, wpOr, wpO, wpIt, opt_some, onI_int, onB_bl, onR_ref, arg1_one, look, joinO, start, List.map_cons, List.map_nil, List.length_cons, List.length_nil, List.replicate, List.cons_append, List.nil_append, List.append_nil, List.getElem?_cons_succ, List.getElem?_cons_zero, kcD, Nat.reduceAdd, Nat.reduceSub, br_t, br_f, br_n, asg, setAll, List.set_cons_succ, List.set_cons_zero, tgs, wipe, eq_ii, ne_ii, lt_ii, le_ii, gt_ii, ge_ii, is_n, isn_n, is_b, isn_b, add_ii, sub_ii, mul_ii, mod_ii, fdiv_ii, pow_ii, isNon, biD, intD_i, intD_b, esLen, beq_self_eq_true, ixD_tup, lsOf_new, seqD_tup, seqD_fl, slD_tup, bools, Option.map_some, true_and, ixD_fl, lenD_tup, lenD_fl, ix30, ix31, ix32, at20, at21, at30, at31, at32, List.filterMap_cons, List.filterMap_nil, compW]
      refine call h0 ⟨y, none, none, rfl, hx y (by simp), ?_⟩
      try simp only [wpSs, wpS, wpE, wpEs, wpC, wpAnd, wpOr, wpO, wpIt, opt_some, onI_int, onB_bl, onR_ref, arg1_one, look, joinO, start, List.map_cons, List.map_nil, List.length_cons, List.length_nil, List.replicate, List.cons_append, List.nil_append, List.append_nil, List.getElem?_cons_succ, List.getElem?_cons_zero, kcD, Nat.reduceAdd, Nat.reduceSub, br_t, br_f, br_n, asg, setAll, List.set_cons_succ, List.set_cons_zero, tgs, wipe, eq_ii, ne_ii, lt_ii, le_ii, gt_ii, ge_ii, is_n, isn_n, is_b, isn_b, add_ii, sub_ii, mul_ii, mod_ii, fdiv_ii, pow_ii, isNon, biD, intD_i, intD_b, esLen, beq_self_eq_true, ixD_tup, lsOf_new, seqD_tup, seqD_fl, slD_tup, bools, Option.map_some, true_and, ixD_fl, lenD_tup, lenD_fl, ix30, ix31, ix32, at20, at21, at30, at31, at32, List.filterMap_cons, List.filterMap_nil, compW]
      refine call h0 ⟨z, none, none, rfl, hx z (by simp), ?_⟩
      try simp only [wpSs, wpS, wpE, wpEs, wpC, wpAnd, wpOr, wpO, wpIt, opt_some, onI_int, onB_bl, onR_ref, arg1_one, look, joinO, start, List.map_cons, List.map_nil, List.length_cons, List.length_nil, List.replicate, List.cons_append, List.nil_append, List.append_nil, List.getElem?_cons_succ, List.getElem?_cons_zero, kcD, Nat.reduceAdd, Nat.reduceSub, br_t, br_f, br_n, asg, setAll, List.set_cons_succ, List.set_cons_zero, tgs, wipe, eq_ii, ne_ii, lt_ii, le_ii, gt_ii, ge_ii, is_n, isn_n, is_b, isn_b, add_ii, sub_ii, mul_ii, mod_ii, fdiv_ii, pow_ii, isNon, biD, intD_i, intD_b, esLen, beq_self_eq_true, ixD_tup, lsOf_new, seqD_tup, seqD_fl, slD_tup, bools, Option.map_some, true_and, ixD_fl, lenD_tup, lenD_fl, ix30, ix31, ix32, at20, at21, at30, at31, at32, List.filterMap_cons, List.filterMap_nil, compW]
      refine call h0 ⟨u, none, none, rfl, hx u (by simp), ?_⟩
      try simp only [wpSs, wpS, wpE, wpEs, wpC, wpAnd, wpOr, wpO, wpIt, opt_some, onI_int, onB_bl, onR_ref, arg1_one, look, joinO, start, List.map_cons, List.map_nil, List.length_cons, List.length_nil, List.replicate, List.cons_append, List.nil_append, List.append_nil, List.getElem?_cons_succ, List.getElem?_cons_zero, kcD, Nat.reduceAdd, Nat.reduceSub, br_t, br_f, br_n, asg, setAll, List.set_cons_succ, List.set_cons_zero, tgs, wipe, eq_ii, ne_ii, lt_ii, le_ii, gt_ii, ge_ii, is_n, isn_n, is_b, isn_b, add_ii, sub_ii, mul_ii, mod_ii, fdiv_ii, pow_ii, isNon, biD, intD_i, intD_b, esLen, beq_self_eq_true, ixD_tup, lsOf_new, seqD_tup, seqD_fl, slD_tup, bools, Option.map_some, true_and, ixD_fl, lenD_tup, lenD_fl, ix30, ix31, ix32, at20, at21, at30, at31, at32, List.filterMap_cons, List.filterMap_nil, compW]
      intro p hp
      simp only [wpSs, wpS, wpE, wpEs, wpC, wpAnd, wpOr, wpO, wpIt, opt_some, onI_int, onB_bl, onR_ref, arg1_one, look, joinO, start, List.map_cons, List.map_nil, List.length_cons, List.length_nil, List.replicate, List.cons_append, List.nil_append, List.append_nil, List.getElem?_cons_succ, List.getElem?_cons_zero, kcD, Nat.reduceAdd, Nat.reduceSub, br_t, br_f, br_n, asg, setAll, List.set_cons_succ, List.set_cons_zero, tgs, wipe, eq_ii, ne_ii, lt_ii, le_ii, gt_ii, ge_ii, is_n, isn_n, is_b, isn_b, add_ii, sub_ii, mul_ii, mod_ii, fdiv_ii, pow_ii, isNon, biD, intD_i, intD_b, esLen, beq_self_eq_true, ixD_tup, lsOf_new, seqD_tup, seqD_fl, slD_tup, bools, Option.map_some, true_and, ixD_fl, lenD_tup, lenD_fl, ix30, ix31, ix32, at20, at21, at30, at31, at32, List.filterMap_cons, List.filterMap_nil, Option.toList, intB_none, List.all_cons, List.all_nil, id, Bool.and_true]
      have ex := Ext.new (o := .lst [.bl (isI x), .bl (isI y), .bl (isI z), .bl (isI u)]) hp
      have hq := hq _ ex
      refine br_if (fun ha => ?_) fun ha => ?_
      · simp only [Bool.and_eq_true] at ha
        obtain ⟨a1, a2, a3, a4⟩ := ha
        obtain ⟨i, rfl⟩ := isI_of a1
        obtain ⟨j, rfl⟩ := isI_of a2
        obtain ⟨m, rfl⟩ := isI_of a3
        obtain ⟨n, rfl⟩ := isI_of a4
        have e0 : atI [D.int i, D.int j, D.int m, D.int n] 0 = some (.int i) := rfl
        have e1 : atI [D.int i, D.int j, D.int m, D.int n] 1 = some (.int j) := rfl
        have e2 : cut [D.int i, D.int j, D.int m, D.int n] (some 2) none = [.int m, .int n] := rfl
        simp only [wpSs, wpS, wpE, wpEs, wpC, wpAnd, wpOr, wpO, wpIt, opt_some, onI_int, onB_bl, onR_ref, arg1_one, look, joinO, start, List.map_cons, List.map_nil, List.length_cons, List.length_nil, List.replicate, List.cons_append, List.nil_append, List.append_nil, List.getElem?_cons_succ, List.getElem?_cons_zero, kcD, Nat.reduceAdd, Nat.reduceSub, br_t, br_f, br_n, asg, setAll, List.set_cons_succ, List.set_cons_zero, tgs, wipe, eq_ii, ne_ii, lt_ii, le_ii, gt_ii, ge_ii, is_n, isn_n, is_b, isn_b, add_ii, sub_ii, mul_ii, mod_ii, fdiv_ii, pow_ii, isNon, biD, intD_i, intD_b, esLen, beq_self_eq_true, ixD_tup, lsOf_new, seqD_tup, seqD_fl, slD_tup, bools, Option.map_some, true_and, ixD_fl, lenD_tup, lenD_fl, ix30, ix31, ix32, at20, at21, at30, at31, at32, List.filterMap_cons, List.filterMap_nil, e0, e1, e2]
        have ef : freeB (.tup [.int i, .int j, .int m, .int n]) = (decide (0 ≤ i) && decide (0 ≤ j) && !(m == 0 && n == 0)) := rfl
        rw [ef] at hq
        refine br_if (fun g1 => br_if (fun g2 => ⟨len_lim (by decide), ne_pair.mpr ?_⟩) fun g2 => ?_) fun g1 => ?_
        · rw [g1, g2] at hq; exact hq
        · rw [g1, g2] at hq; exact hq
        · rw [g1] at hq; exact hq
      · have e : freeB (.tup [x, y, z, u]) = false := by
          show ((isI x && isI y && isI z && isI u) && _) = false
          have : (isI x && isI y && isI z && isI u) = false := by
            rw [← ha]; simp [Bool.and_assoc]
          rw [this]; rfl
        rw [e] at hq
        exact hq
    · have e : freeB (.tup xs) = false := freeL_len hl
      rw [e] at hq
      exact hq S0 Ext.refl
  · have e : freeB v = false := by cases v <;> first | rfl | cases hT
    rw [e] at hq
    exact hq S0 Ext.refl
/-- is it a shot on a table of the sides X, Y -/
def rollB (a b : Int) (v : D) : Bool := freeB v && (match v with
  | .tup [x, y, _, _] => decide (int0 x ≤ a) && decide (int0 y ≤ b)
  | _ => false)
theorem free_of {v : D} (h : freeB v = true) : ∃ i j m n, v = .tup [.int i, .int j, .int m, .int n] := by
  cases v with
  | tup xs =>
    have h : freeL xs = true := h
    unfold freeL at h
    split at h
    · simp only [Bool.and_eq_true] at h
      obtain ⟨⟨⟨⟨a1, a2⟩, a3⟩, a4⟩, _⟩ := h
      obtain ⟨i, rfl⟩ := isI_of a1
      obtain ⟨j, rfl⟩ := isI_of a2
      obtain ⟨m, rfl⟩ := isI_of a3
      obtain ⟨n, rfl⟩ := isI_of a4
      exact ⟨i, j, m, n, rfl⟩
    · cases h
  | _ => cases h
/-- is_shot_on(table, value) -/
def spOn : Sp := fun ds S Q _ => ∃ a b v, ds = [.tup [.int a, .int b], v] ∧ Vl S v ∧ ∀ S', Ext S S' → Q (.bl (rollB a b v)) S'
theorem txt_on {G : Gm} {ds : List D} {S0 : Sto} {Q : VK} {X : XK} {b : Ss} (hb : b = (.cons (.ret (.and (.call 9 (.cons (.v 1) .nil)) (.cons (.cmp .le (.ix (.v 1) (.k (.int 0))) (.ix (.v 0) (.k (.int 0)))) (.cons (.cmp .le (.ix (.v 1) (.k (.int 1))) (.ix (.v 0) (.k (.int 1)))) .nil)))) .nil)) (h3 : G.fn 9 = spFree) (h : spOn ds S0 Q X) : ds.length = 2 ∧ wpSs G b (start 2 ds) S0 (kR Q X) := by
  obtain ⟨a, b2, v, rfl, hv, hq⟩ := h
  subst hb
  refine ⟨rfl, ?_⟩
  simp only [wpSs, wpS, wpE, wpEs, wpC, wpAnd, wpOr, wpO, wpIt, opt_some, onI_int, onB_bl, onR_ref, arg1_one, look, joinO, start, List.map_cons, List.map_nil, List.length_cons, List.length_nil, List.replicate, List.cons_append, List.nil_append, List.append_nil, List.getElem?_cons_succ, List.getElem?_cons_zero, kcD, Nat.reduceAdd, Nat.reduceSub, br_t, br_f, br_n, asg, setAll, List.set_cons_succ, List.set_cons_zero, tgs, wipe, eq_ii, ne_ii, lt_ii, le_ii, gt_ii, ge_ii, is_n, isn_n, is_b, isn_b, add_ii, sub_ii, mul_ii, mod_ii, fdiv_ii, pow_ii, isNon, biD, intD_i, intD_b, esLen, beq_self_eq_true, ixD_tup, lsOf_new, seqD_tup, seqD_fl, slD_tup, bools, Option.map_some, true_and, ixD_fl, lenD_tup, lenD_fl, ix30, ix31, ix32, at20, at21, at30, at31, at32, List.filterMap_cons, List.filterMap_nil]
  refine call h3 ⟨v, rfl, hv, fun S1 k1 => ?_⟩
  have hq := hq S1 k1
  unfold rollB at hq
  simp only [wpSs, wpS, wpE, wpEs, wpC, wpAnd, wpOr, wpO, wpIt, opt_some, onI_int, onB_bl, onR_ref, arg1_one, look, joinO, start, List.map_cons, List.map_nil, List.length_cons, List.length_nil, List.replicate, List.cons_append, List.nil_append, List.append_nil, List.getElem?_cons_succ, List.getElem?_cons_zero, kcD, Nat.reduceAdd, Nat.reduceSub, br_t, br_f, br_n, asg, setAll, List.set_cons_succ, List.set_cons_zero, tgs, wipe, eq_ii, ne_ii, lt_ii, le_ii, gt_ii, ge_ii, is_n, isn_n, is_b, isn_b, add_ii, sub_ii, mul_ii, mod_ii, fdiv_ii, pow_ii, isNon, biD, intD_i, intD_b, esLen, beq_self_eq_true, ixD_tup, lsOf_new, seqD_tup, seqD_fl, slD_tup, bools, Option.map_some, true_and, ixD_fl, lenD_tup, lenD_fl, ix30, ix31, ix32, at20, at21, at30, at31, at32, List.filterMap_cons, List.filterMap_nil]
  refine br_if (fun hf => ?_) fun hf => ?_
  · obtain ⟨i, j, m, n, rfl⟩ := free_of hf
    have e0 : atI [D.int i, D.int j, D.int m, D.int n] 0 = some (.int i) := rfl
    have e1 : atI [D.int i, D.int j, D.int m, D.int n] 1 = some (.int j) := rfl
    rw [hf] at hq
    have hq : Q (.bl (decide (i ≤ a) && decide (j ≤ b2))) S1 := hq
    simp only [wpSs, wpS, wpE, wpEs, wpC, wpAnd, wpOr, wpO, wpIt, opt_some, onI_int, onB_bl, onR_ref, arg1_one, look, joinO, start, List.map_cons, List.map_nil, List.length_cons, List.length_nil, List.replicate, List.cons_append, List.nil_append, List.append_nil, List.getElem?_cons_succ, List.getElem?_cons_zero, kcD, Nat.reduceAdd, Nat.reduceSub, br_t, br_f, br_n, asg, setAll, List.set_cons_succ, List.set_cons_zero, tgs, wipe, eq_ii, ne_ii, lt_ii, le_ii, gt_ii, ge_ii, is_n, isn_n, is_b, isn_b, add_ii, sub_ii, mul_ii, mod_ii, fdiv_ii, pow_ii, isNon, biD, intD_i, intD_b, esLen, beq_self_eq_true, ixD_tup, lsOf_new, seqD_tup, seqD_fl, slD_tup, bools, Option.map_some, true_and, ixD_fl, lenD_tup, lenD_fl, ix30, ix31, ix32, at20, at21, at30, at31, at32, List.filterMap_cons, List.filterMap_nil, e0, e1]
    refine br_if (fun g => ?_) fun g => ?_
    · rw [g] at hq; exact hq
    · rw [g] at hq; exact hq
  · rw [hf] at hq
    exact hq
def partL : List D → Bool
  | [x, y] => isI x && intB y (some 1) none && (Int.gcd (int0 x) (int0 y) == 1)
  | _ => false
/-- is it a fraction in lowest terms -/
def partB : D → Bool
  | .tup xs => partL xs
  | _ => false
theorem partL_len {xs : List D} (h : (((xs.length : Nat) : Int) == 2) = false) : partL xs = false := by
  unfold partL
  split
  · simp at h
  · rfl
theorem intB_of {v : D} {l : Int} (h : intB v (some l) none = true) : ∃ i, v = .int i ∧ l ≤ i := by
  cases v with
  | int i => exact ⟨i, rfl, by simpa [intB] using h⟩
  | _ => cases h
def spPart : Sp := fun ds S Q _ => ∃ v, ds = [v] ∧ Vl S v ∧ ∀ S', Ext S S' → Q (.bl (partB v)) S'
/-- check_table(table) of a table -/
def spCheck : Sp := fun ds S Q _ => ∃ a b : Int, ds = [.tup [.int a, .int b]] ∧ 1 ≤ a ∧ 1 ≤ b ∧ ∀ S', Ext S S' → Q .non S'
theorem vl_tab {S : Sto} {a b : Int} : Vl S (.tup [.int a, .int b]) := ⟨trivial, fun xs e y hy => by cases e; simp at hy; rcases hy with rfl | rfl <;> trivial⟩
theorem tab_ok {a b : Int} (ha : 1 ≤ a) (hb : 1 ≤ b) : tabB (.tup [.int a, .int b]) = true := by simp [tabB, tabL, intB, ha, hb]
theorem txt_check {G : Gm} {ds : List D} {S0 : Sto} {Q : VK} {X : XK} {b : Ss} (hb : b = (.cons (.if_ (.not (.call 8 (.cons (.v 0) .nil))) (.cons .nev .nil) .nil) .nil)) (h2 : G.fn 8 = spTab) (h : spCheck ds S0 Q X) : ds.length = 1 ∧ wpSs G b (start 1 ds) S0 (kR Q X) := by
  obtain ⟨a, b2, rfl, ha, hb', hq⟩ := h
  subst hb
  refine ⟨rfl, ?_⟩
  simp only [wpSs, wpS, wpE, wpEs, wpC, wpAnd, wpOr, wpO, wpIt, opt_some, onI_int, onB_bl, onR_ref, arg1_one, look, joinO, start, List.map_cons, List.map_nil, List.length_cons, List.length_nil, List.replicate, List.cons_append, List.nil_append, List.append_nil, List.getElem?_cons_succ, List.getElem?_cons_zero, kcD, Nat.reduceAdd, Nat.reduceSub, br_t, br_f, br_n, asg, setAll, List.set_cons_succ, List.set_cons_zero, tgs, wipe, eq_ii, ne_ii, lt_ii, le_ii, gt_ii, ge_ii, is_n, isn_n, is_b, isn_b, add_ii, sub_ii, mul_ii, mod_ii, fdiv_ii, pow_ii, isNon, biD, intD_i, intD_b, esLen, beq_self_eq_true, ixD_tup, lsOf_new, seqD_tup, seqD_fl, slD_tup, bools, Option.map_some, true_and, ixD_fl, lenD_tup, lenD_fl, ix30, ix31, ix32, at20, at21, at30, at31, at32, List.filterMap_cons, List.filterMap_nil]
  refine call h2 ⟨_, rfl, vl_tab, fun S1 k1 => ?_⟩
  simp only [wpSs, wpS, wpE, wpEs, wpC, wpAnd, wpOr, wpO, wpIt, opt_some, onI_int, onB_bl, onR_ref, arg1_one, look, joinO, start, List.map_cons, List.map_nil, List.length_cons, List.length_nil, List.replicate, List.cons_append, List.nil_append, List.append_nil, List.getElem?_cons_succ, List.getElem?_cons_zero, kcD, Nat.reduceAdd, Nat.reduceSub, br_t, br_f, br_n, asg, setAll, List.set_cons_succ, List.set_cons_zero, tgs, wipe, eq_ii, ne_ii, lt_ii, le_ii, gt_ii, ge_ii, is_n, isn_n, is_b, isn_b, add_ii, sub_ii, mul_ii, mod_ii, fdiv_ii, pow_ii, isNon, biD, intD_i, intD_b, esLen, beq_self_eq_true, ixD_tup, lsOf_new, seqD_tup, seqD_fl, slD_tup, bools, Option.map_some, true_and, ixD_fl, lenD_tup, lenD_fl, ix30, ix31, ix32, at20, at21, at30, at31, at32, List.filterMap_cons, List.filterMap_nil, tab_ok ha hb']
  exact hq S1 k1
/-- is_shot(table, value) -/
def spShot : Sp := fun ds S Q _ => ∃ a b v, ds = [.tup [.int a, .int b], v] ∧ 1 ≤ a ∧ 1 ≤ b ∧ Vl S v ∧ ∀ S', Ext S S' → Q (.bl (rollB a b v)) S'
end M
namespace M
theorem compW_filter {step : D → Sto → (Option D → Sto → Prop) → Prop} {Q : VK} {f : D → Bool} {S : Sto} : ∀ {xs acc : List D}, (∀ d ∈ xs, ∀ k : Option D → Sto → Prop, k (if f d = true then some d else none) S → step d S k) →
    (∀ p, S p = none → Q (.ref p) (upd S p (.lst (acc ++ xs.filter f)))) → compW (fun _ => True) step Q xs acc S
  | [], acc, _, h => ⟨trivial, fun p hp => by simpa using h p hp⟩
  | x :: xs, acc, hs, h => ⟨trivial, hs x (by simp) _ (compW_filter (fun d hd => hs d (by simp [hd])) fun p hp => by
      have e := h p hp
      by_cases hf : f x = true
      · rw [if_pos hf]
        simpa [List.filter_cons, hf] using e
      · rw [if_neg hf]
        simpa [List.filter_cons, hf] using e)⟩
theorem eq_nil {S : Sto} {p q : Nat} {ys : List D} {Q : Bool → Prop} (hp : S p = some (.lst ys)) (hq : S q = some (.lst [])) (hf : fitL (fit 7 S) ys = true) (k : Q ys.isEmpty) : cmpD .eq (.ref p) (.ref q) S Q := by
  refine ⟨?_, ?_, ?_⟩
  · show optB (lstAt S p) _ = true
    rw [lstAt_eq hp]; exact hf
  · show optB (lstAt S q) _ = true
    rw [lstAt_eq hq]; rfl
  · have e : eqB dep S (.ref p) (.ref q) = ys.isEmpty := by
      show eqO _ (lstAt S p) (lstAt S q) = _
      rw [lstAt_eq hp, lstAt_eq hq]
      cases ys <;> rfl
    rw [e]; exact k
theorem ne_nil {S : Sto} {p q : Nat} {ys : List D} {Q : Bool → Prop} (hp : S p = some (.lst ys)) (hq : S q = some (.lst [])) (hf : fitL (fit 7 S) ys = true) (k : Q (!ys.isEmpty)) : cmpD .ne (.ref p) (.ref q) S Q :=
  let ⟨a, b, c⟩ := eq_nil (Q := fun b => Q (!b)) hp hq hf k
  ⟨a, b, c⟩
/-- a small value in a tuple or a list -/
def Atom (n : Nat) : D → Prop
  | .non => True
  | .bl _ => True
  | .int i => i.natAbs < 2 ^ n
  | .str x => x.length ≤ 4 ∧ ∀ c ∈ x, c < 128
  | .tup xs => xs = []
  | _ => False
theorem Atom.kn {n : Nat} {S : Sto} {v : D} (h : Atom n v) : Kn S v := by
  cases v <;> first | trivial | exact False.elim h
theorem Atom.fit {n k : Nat} {S : Sto} {v : D} (h : Atom n v) : M.fit (k + 1) S v = true := by
  cases v with
  | str x =>
    show x.all _ = true
    rw [List.all_eq_true]
    intro c hc
    have := h.2 c hc
    exact decide_eq_true (by omega)
  | tup xs => cases h; rfl
  | _ => first | rfl | exact False.elim h
theorem Atom.up {n m : Nat} {v : D} (h : Atom n v) (k : n ≤ m) : Atom m v := by
  cases v with
  | int i => exact lt_two _ h k
  | _ => exact h
theorem fitL_of {ok : D → Bool} : ∀ {xs : List D}, (∀ y ∈ xs, ok y = true) → fitL ok xs = true
  | [], _ => rfl
  | x :: xs, h => by
    show (ok x && fitL ok xs) = true
    rw [h x (by simp), fitL_of fun y hy => h y (by simp [hy])]
    rfl
theorem atoms_fit {n : Nat} {S : Sto} {xs ys : List D} (h : ∀ y ∈ xs, Atom n y) (hs : ∀ y ∈ ys, y ∈ xs) : fitL (M.fit 7 S) ys = true := fitL_of fun y hy => (h y (hs y hy)).fit
/-- a value that the law tries: w is the well -/
def Gd (n w : Nat) (S : Sto) : D → Prop
  | .tup xs => xs.length ≤ n ∧ ∀ y ∈ xs, Atom n y
  | .ref a => a ≠ w ∧ ((∃ xs, S a = some (.lst xs) ∧ xs.length ≤ n ∧ ∀ y ∈ xs, Atom n y) ∨ S a = some .dic)
  | .non => True
  | .bl _ => True
  | .int i => i.natAbs < 2 ^ n
  | .str x => x.length ≤ 4 ∧ ∀ c ∈ x, c < 128
  | _ => False
theorem Gd.kp {n w : Nat} {S S' : Sto} {v : D} (h : Gd n w S v) (k : Kp w S S') : Gd n w S' v := by
  cases v with
  | ref a =>
    obtain ⟨hn, h | h⟩ := h
    · obtain ⟨xs, e, r⟩ := h
      exact ⟨hn, .inl ⟨xs, k _ _ hn e, r⟩⟩
    · exact ⟨hn, .inr (k _ _ hn h)⟩
  | _ => exact h
theorem Gd.up {n m w : Nat} {S : Sto} {v : D} (h : Gd n w S v) (k : n ≤ m) : Gd m w S v := by
  cases v with
  | tup xs => exact ⟨Nat.le_trans h.1 k, fun y hy => (h.2 y hy).up k⟩
  | ref a =>
    obtain ⟨hn, h | h⟩ := h
    · obtain ⟨xs, e, r1, r2⟩ := h
      exact ⟨hn, .inl ⟨xs, e, Nat.le_trans r1 k, fun y hy => (r2 y hy).up k⟩⟩
    · exact ⟨hn, .inr h⟩
  | int i => exact lt_two _ h k
  | _ => exact h
theorem Gd.vl {n w : Nat} {S : Sto} {v : D} (h : Gd n w S v) : Vl S v := by
  refine ⟨?_, fun xs e y hy => ?_⟩
  · cases v with
    | ref a =>
      obtain ⟨_, h | h⟩ := h
      · obtain ⟨xs, e, _⟩ := h
        exact ⟨_, e⟩
      · exact ⟨_, h⟩
    | _ => first | trivial | exact False.elim h
  · subst e
    exact (h.2 y hy).kn
/-- _law_whole(thing) -/
def spWhole : Sp := fun ds S Q _ => ∃ v, ds = [v] ∧ Kn S v ∧ Q (.bl (isI v)) S
/-- the values whose law is asked: known, and their parts small -/
def Va (S : Sto) (v : D) : Prop := Kn S v ∧ ∀ xs, v = .tup xs → xs.length ≤ 1000 ∧ ∀ y ∈ xs, Atom 1000 y
theorem Va.vl {S : Sto} {v : D} (h : Va S v) : Vl S v := ⟨h.1, fun xs e y hy => ((h.2 xs e).2 y hy).kn⟩
theorem Va.ext {S S' : Sto} {v : D} (h : Va S v) (k : Ext S S') : Va S' v := ⟨h.1.ext k, h.2⟩
def spDeskV : Sp := fun ds S Q _ => ∃ v, ds = [v] ∧ Va S v ∧ ∀ S', Ext S S' → Q (.bl (tabB v)) S'
theorem filt2 {x y : D} : ([x, y].filter fun d => !isI d || decide (int0 d < 1)).isEmpty = tabL [x, y] := by
  have h : ∀ d : D, (!isI d || decide (int0 d < 1)) = !intB d (some 1) none := by
    intro d
    cases d with
    | int i =>
      show (false || decide (i < 1)) = !(decide (1 ≤ i) && true)
      by_cases h : i < 1
      · have : ¬ 1 ≤ i := by omega
        simp [h, this]
      · have : 1 ≤ i := by omega
        simp [h, this]
    | _ => rfl
  simp only [List.filter_cons, List.filter_nil, h, tabL]
  cases intB x (some 1) none <;> cases intB y (some 1) none <;> rfl
end M
namespace M
theorem filtI_nil {xs : List D} : (xs.filter fun d => !isI d).isEmpty = xs.all isI := by
  induction xs with
  | nil => rfl
  | cons x xs ih =>
    rw [List.filter_cons, List.all_cons]
    cases isI x
    · rfl
    · exact ih
/-- _law_is_roll(desk, thing) -/
def spRollV : Sp := fun ds S Q _ => ∃ a b v, ds = [.tup [.int a, .int b], v] ∧ Va S v ∧ ∀ S', Ext S S' → Q (.bl (rollB a b v)) S'
theorem chain_ii {i j k : Int} {S : Sto} {Q : Bool → Prop} (h : Q (decide (i ≤ j) && decide (j ≤ k))) : br (decide (i ≤ j)) (Q (decide (j ≤ k))) (Q false) := by
  cases h1 : decide (i ≤ j) <;> rw [h1] at h
  · exact br_f.mpr h
  · exact br_t.mpr h
/-- _law_is_part(thing) -/
def spPartV : Sp := fun ds S Q _ => ∃ v, ds = [v] ∧ Va S v ∧ ∀ S', Ext S S' → Q (.bl (partB v)) S'
end M
namespace M
/-- _law_odd(well) -/
def spOdd : Sp := fun ds S Q _ => ∃ w n, ds = [.ref w] ∧ Well n S w ∧ n + 1 < 2 ^ 59 ∧ ∀ v S', Gd 200 w S' v → Well (n + 1) S' w → Kp w S S' → Q v S'
theorem cut_mem {xs : List D} {lo hi : Option Int} {y : D} (h : y ∈ cut xs lo hi) : y ∈ xs := List.mem_of_mem_drop (List.mem_of_mem_take h)
theorem cut_hi {xs : List D} {i : Int} (h : 0 ≤ i) : (cut xs none (some i)).length ≤ i.toNat := by
  have e : sIx xs.length xs.length (some i) = min i.toNat xs.length := if_neg (by omega)
  unfold cut
  rw [e, List.length_take]
  show min (min i.toNat xs.length - 0) _ ≤ _
  omega
theorem cut_lo {xs : List D} {i : Int} (h : 0 ≤ i) : (cut xs (some i) none).length ≤ xs.length - i.toNat := by
  have e : sIx xs.length 0 (some i) = min i.toNat xs.length := if_neg (by omega)
  unfold cut
  rw [e, List.length_take, List.length_drop]
  show min (xs.length - _) _ ≤ _
  omega
theorem at_some {xs : List D} {i : Int} (h0 : 0 ≤ i) (h1 : i < xs.length) : ∃ y, y ∈ xs ∧ atI xs i = some y := by
  have hl : i.toNat < xs.length := by omega
  refine ⟨xs[i.toNat], List.getElem_mem hl, ?_⟩
  unfold atI ixN
  rw [if_pos h0, if_pos h1]
  simp [hl]
/-- _law_bent(well, thing) -/
def spBent : Sp := fun ds S Q _ => ∃ w n m v, ds = [.ref w, v] ∧ Gd m w S v ∧ 200 ≤ m ∧ m ≤ 400 ∧ Well n S w ∧ n + 4 < 2 ^ 58 ∧ ∀ v' S', Gd (m + 1) w S' v' → Well (n + 4) S' w → Kp w S S' → Q v' S'
theorem eq_tnil {xs : List D} {S : Sto} {n : Nat} {Q : Bool → Prop} (h : ∀ y ∈ xs, Atom n y) (k : Q xs.isEmpty) : cmpD .eq (.tup xs) (.tup []) S Q :=
  ⟨atoms_fit h fun y hy => hy, rfl, by
    have e : eqB dep S (.tup xs) (.tup []) = xs.isEmpty := by cases xs <;> rfl
    rw [e]; exact k⟩
end M
namespace M
theorem sumN_le {xs : List D} {f : D → Nat} {c : Nat} (h : ∀ y ∈ xs, f y ≤ c) : sumN (xs.map f) ≤ xs.length * c := by
  induction xs with
  | nil => simp [sumN]
  | cons x xs ih =>
    have h1 := h x (by simp)
    have h2 := ih fun y hy => h y (by simp [hy])
    show f x + sumN (xs.map f) ≤ (xs.length + 1) * c
    rw [Nat.succ_mul]
    omega
theorem atom_rep {m k : Nat} {S : Sto} {y : D} (h : Atom m y) (hm : m ≤ 1900) : fitR (k + 1) S y ∧ szR (k + 1) S y ≤ 1902 := by
  cases y with
  | int i => exact ⟨smr_of m hm h, Nat.le_refl _⟩
  | str x =>
    refine ⟨fun c hc => ?_, ?_⟩
    · have := h.2 c hc
      omega
    · show 10 * x.length + 2 ≤ 1902
      have := h.1
      omega
  | tup xs =>
    cases h
    exact ⟨(fun y hy => by cases hy), (by show sumN [] + 3 ≤ 1902; decide)⟩
  | non => exact ⟨trivial, by show 4 ≤ 1902; decide⟩
  | bl b => exact ⟨trivial, by show 5 ≤ 1902; decide⟩
  | _ => exact False.elim h
theorem toQ_lst {S : Sto} {a : Nat} {xs : List D} (e : S a = some (.lst xs)) : toQ dep S (.ref a) = .lst (xs.map (toQ 7 S)) := by
  show (match S a with | some (.lst xs) => P.lst (xs.map (toQ 7 S)) | _ => P.dic) = _
  rw [e]
theorem toQ_dic {S : Sto} {a : Nat} (e : S a = some .dic) : toQ dep S (.ref a) = .dic := by
  show (match S a with | some (.lst xs) => P.lst (xs.map (toQ 7 S)) | _ => P.dic) = _
  rw [e]
theorem szR_lst {S : Sto} {a : Nat} {xs : List D} (e : S a = some (.lst xs)) : szR dep S (.ref a) = sumN (xs.map fun y => szR 7 S y + 2) + 3 := by
  show (match S a with | some (.lst xs) => sumN (xs.map fun y => szR 7 S y + 2) + 3 | _ => 2) = _
  rw [e]
theorem szR_dic {S : Sto} {a : Nat} (e : S a = some .dic) : szR dep S (.ref a) = 2 := by
  show (match S a with | some (.lst xs) => sumN (xs.map fun y => szR 7 S y + 2) + 3 | _ => 2) = _
  rw [e]
theorem gd_rep {m w : Nat} {S : Sto} {v : D} (h : Gd m w S v) (hm : m ≤ 500) : fitD S v ∧ szR dep S v ≤ lim := by
  have big : ∀ xs : List D, xs.length ≤ 500 → (∀ y ∈ xs, Atom m y) → sumN (xs.map fun y => szR 7 S y + 2) + 3 ≤ lim := fun xs hl ha => by
    have h1 := sumN_le (xs := xs) (f := fun y => szR 7 S y + 2) (c := 1904) fun y hy => by have : szR 7 S y ≤ 1902 := (atom_rep (k := 6) (S := S) (ha y hy) (by omega)).2; omega
    have h2 : xs.length * 1904 ≤ 500 * 1904 := Nat.mul_le_mul_right _ hl
    have h3 : 500 * 1904 + 3 ≤ lim := by decide
    omega
  cases v with
  | tup xs => exact ⟨.inr fun y hy => (atom_rep (h.2 y hy) (by omega)).1, big xs (by have := h.1; omega) h.2⟩
  | ref a =>
    obtain ⟨_, h | h⟩ := h
    · obtain ⟨xs, e, hl, ha⟩ := h
      refine ⟨.inr ?_, ?_⟩
      · show opt (lstAt S a) _
        rw [lstAt_eq e]
        exact fun y hy => (atom_rep (ha y hy) (by omega)).1
      · rw [szR_lst e]
        exact big xs (by omega) ha
    · refine ⟨.inl ?_, ?_⟩
      · show isDic (S a)
        rw [h]; trivial
      · rw [szR_dic h]
        exact len_lim (by decide)
  | int i => exact ⟨.inr (smr_of m (by omega) h), by show 1902 ≤ lim; decide⟩
  | str x =>
    refine ⟨.inr fun c hc => ?_, ?_⟩
    · have := h.2 c hc
      omega
    · show 10 * x.length + 2 ≤ lim
      have := h.1
      exact len_lim (by omega)
  | non => exact ⟨.inr trivial, by show 4 ≤ lim; decide⟩
  | bl b => exact ⟨.inr trivial, by show 5 ≤ lim; decide⟩
  | _ => exact False.elim h
theorem atom_toQ {m k : Nat} {S S' : Sto} {y : D} (h : Atom m y) : toQ (k + 1) S y = toQ (k + 1) S' y := by
  cases y with
  | tup xs => cases h; rfl
  | _ => first | rfl | exact False.elim h
theorem gd_toQ {m w : Nat} {S S' : Sto} {v : D} (h : Gd m w S v) (k : Ext S S') : toQ dep S v = toQ dep S' v := by
  have mp : ∀ xs : List D, (∀ y ∈ xs, Atom m y) → xs.map (toQ 7 S) = xs.map (toQ 7 S') := fun xs ha => List.map_congr_left fun y hy => atom_toQ (ha y hy)
  cases v with
  | tup xs =>
    show P.tup _ = P.tup _
    rw [mp xs h.2]
  | ref a =>
    obtain ⟨_, h | h⟩ := h
    · obtain ⟨xs, e, hl, ha⟩ := h
      rw [toQ_lst e, toQ_lst (k _ _ e), mp xs ha]
    · rw [toQ_dic h, toQ_dic (k _ _ h)]
  | _ => first | rfl | exact False.elim h
theorem gd_va {m w : Nat} {S : Sto} {v : D} (h : Gd m w S v) (hm : m ≤ 500) : Va S v := ⟨h.vl.1, fun xs e => by
  subst e
  exact ⟨by have := h.1; omega, fun y hy => (h.2 y hy).up (by omega)⟩⟩
theorem eqLB_bools {n : Nat} {S : Sto} : ∀ bs : List Bool, eqLB (eqB (n + 1) S) (bs.map .bl) (bs.map .bl) = true
  | [] => rfl
  | b :: bs => by
    show ((b == b) && eqLB (eqB (n + 1) S) (bs.map .bl) (bs.map .bl)) = true
    rw [eqLB_bools bs]; simp
theorem ne_bools {S : Sto} {p q : Nat} {bs : List Bool} {Q : Bool → Prop} (hp : S p = some (.lst (bs.map .bl))) (hq : S q = some (.lst (bs.map .bl))) (k : Q false) : cmpD .ne (.ref p) (.ref q) S Q := by
  have f : ∀ a : Nat, S a = some (.lst (bs.map .bl)) → fit dep S (.ref a) = true := fun a e => by
    show optB (lstAt S a) _ = true
    rw [lstAt_eq e]
    exact fitL_of fun y hy => by obtain ⟨b, _, rfl⟩ := List.mem_map.mp hy; rfl
  refine ⟨f p hp, f q hq, ?_⟩
  have e : eqB dep S (.ref p) (.ref q) = true := by
    show eqO _ (lstAt S p) (lstAt S q) = _
    rw [lstAt_eq hp, lstAt_eq hq]
    exact eqLB_bools bs
  rw [e]; exact k
theorem isTy_bb {S : Sto} {f : Bool} : isTy S (.bl f) .bool = some true := rfl
/-- _law_right(desk, thing) -/
def spRight : Sp := fun ds S Q _ => ∃ a b v w, ds = [.tup [.int a, .int b], v] ∧ 1 ≤ a ∧ 1 ≤ b ∧ Gd 500 w S v ∧ ∀ S', Ext S S' → Q (.bl true) S'
/-- a loop -/
theorem forW_ok {chk : Sto → Prop} {step : D → Env → Sto → (Env → Sto → Prop) → Prop} {nx : Env → Sto → Prop} {I : Nat → Env → Sto → Prop} : ∀ (items : List D) (i : Nat) (ρ : Env) (S : Sto), I i ρ S →
    (∀ j d ρ S nx', j < i + items.length → d ∈ items → I j ρ S → (∀ ρ' S', I (j + 1) ρ' S' → nx' ρ' S') → chk S ∧ step d ρ S nx') → (∀ ρ S, I (i + items.length) ρ S → chk S ∧ nx ρ S) → forW chk step nx items ρ S
  | [], i, ρ, S, h, _, he => he ρ S h
  | d :: ds, i, ρ, S, h, hs, he => hs i d ρ S _ (by simp) (by simp) h fun ρ' S' h' => forW_ok ds (i + 1) ρ' S' h' (fun j d ρ S nx' hj hd => hs j d ρ S nx' (by rw [List.length_cons]; omega) (by simp [hd])) fun ρ S h => he ρ S (by rw [List.length_cons]; rwa [Nat.add_right_comm] at h)
end M
namespace M
/-- t / b in lowest terms (0 < b) -/
def low (t b : Int) : D := .tup [.int (t / (Int.gcd t b : Nat)), .int (b / (Int.gcd t b : Nat))]
/-- the place t / b folded into 0 .. s -/
def foldT (s t b : Int) : Int := if 2 * s * b - t % (2 * s * b) < t % (2 * s * b) then 2 * s * b - t % (2 * s * b) else t % (2 * s * b)
def cellN (s t b d : Int) : Int := if d > 0 then t / (s * b) else -((-t) / (s * b)) - 1
def wayN (s t b d : Int) : Int := if cellN s t b d % 2 = 0 then d else -d
/-- a number below 2 ^ n -/
def Bd (n : Nat) (i : Int) : Prop := i.natAbs < 2 ^ n
theorem Bd.sm {n : Nat} {i : Int} (h : Bd n i) (hn : n ≤ 4000) : sm i := sm_of n hn h
theorem Bd.mul {n m : Nat} {i j : Int} (h : Bd n i) (k : Bd m j) : Bd (n + m) (i * j) := by
  show (i * j).natAbs < 2 ^ (n + m)
  rw [Int.natAbs_mul, Nat.pow_add]
  exact Nat.mul_lt_mul'' h k
theorem Bd.up {n m : Nat} {i : Int} (h : Bd n i) (k : n ≤ m) : Bd m i := lt_two n h k
theorem bd2 : Bd 2 2 := by show Int.natAbs 2 < 2 ^ 2; decide
theorem gcd_pos {t b : Int} (h : 0 < b) : 0 < ((Int.gcd t b : Nat) : Int) := by
  have : 0 < Int.gcd t b := Int.gcd_pos_of_ne_zero_right t (by omega)
  omega
theorem gcd_le {t b : Int} (h : 0 < b) : ((Int.gcd t b : Nat) : Int) ≤ b := Int.le_of_dvd h (Int.gcd_dvd_right ..)
/-- fraction(top, bottom) -/
def spFrac : Sp := fun ds S Q _ => ∃ t b, ds = [.int t, .int b] ∧ 0 < b ∧ Bd 8000 b ∧ Q (low t b) S
theorem txt_frac {G : Gm} {ds : List D} {S0 : Sto} {Q : VK} {X : XK} {b : Ss} (hb : b = (.cons (.set (.v 2) (.ite (.cmp .gt (.v 1) (.k (.int 0))) (.call 1 (.cons (.v 0) (.cons (.v 1) .nil))) (.neg (.call 1 (.cons (.v 0) (.cons (.v 1) .nil)))))) (.cons (.ret (.tup (.cons (.bin .fdiv (.v 0) (.v 2)) (.cons (.bin .fdiv (.v 1) (.v 2)) .nil)))) .nil))) (h1 : G.fn 1 = spGcd) (h : spFrac ds S0 Q X) : ds.length = 2 ∧ wpSs G b (start 3 ds) S0 (kR Q X) := by
  obtain ⟨t, b2, rfl, hp, hb2, hq⟩ := h
  subst hb
  refine ⟨rfl, ?_⟩
  simp only [wpSs, wpS, wpE, wpEs, wpC, wpAnd, wpOr, wpO, wpIt, opt_some, onI_int, onB_bl, onR_ref, arg1_one, look, joinO, start, List.map_cons, List.map_nil, List.length_cons, List.length_nil, List.replicate, List.cons_append, List.nil_append, List.append_nil, List.getElem?_cons_succ, List.getElem?_cons_zero, kcD, Nat.reduceAdd, Nat.reduceSub, br_t, br_f, br_n, asg, setAll, List.set_cons_succ, List.set_cons_zero, tgs, wipe, eq_ii, ne_ii, lt_ii, le_ii, gt_ii, ge_ii, is_n, isn_n, is_b, isn_b, add_ii, sub_ii, mul_ii, mod_ii, fdiv_ii, pow_ii, isNon, biD, intD_i, intD_b, esLen, beq_self_eq_true, ixD_tup, lsOf_new, seqD_tup, seqD_fl, slD_tup, bools, Option.map_some, true_and, ixD_fl, lenD_tup, lenD_fl, ix30, ix31, ix32, at20, at21, at30, at31, at32, List.filterMap_cons, List.filterMap_nil]
  refine br_d (fun _ => ?_) fun hn => absurd hp hn
  refine call h1 ⟨t, b2, rfl, ?_⟩
  have g0 := gcd_pos (t := t) hp
  have g1 := gcd_le (t := t) hp
  have hs : smd ((Int.gcd t b2 : Nat) : Int) := smd_of 8000 (by decide) (by
    have : b2.natAbs < 2 ^ 8000 := hb2
    omega)
  simp only [wpSs, wpS, wpE, wpEs, wpC, wpAnd, wpOr, wpO, wpIt, opt_some, onI_int, onB_bl, onR_ref, arg1_one, look, joinO, start, List.map_cons, List.map_nil, List.length_cons, List.length_nil, List.replicate, List.cons_append, List.nil_append, List.append_nil, List.getElem?_cons_succ, List.getElem?_cons_zero, kcD, Nat.reduceAdd, Nat.reduceSub, br_t, br_f, br_n, asg, setAll, List.set_cons_succ, List.set_cons_zero, tgs, wipe, eq_ii, ne_ii, lt_ii, le_ii, gt_ii, ge_ii, is_n, isn_n, is_b, isn_b, add_ii, sub_ii, mul_ii, mod_ii, fdiv_ii, pow_ii, isNon, biD, intD_i, intD_b, esLen, beq_self_eq_true, ixD_tup, lsOf_new, seqD_tup, seqD_fl, slD_tup, bools, Option.map_some, true_and, ixD_fl, lenD_tup, lenD_fl, ix30, ix31, ix32, at20, at21, at30, at31, at32, List.filterMap_cons, List.filterMap_nil, fdiv_pos g0]
  exact ⟨by omega, hs, by omega, hs, len_lim (by decide), hq⟩
/-- check_shot of a shot on the table -/
def spCkShot : Sp := fun ds S Q _ => ∃ a b v, ds = [.tup [.int a, .int b], v] ∧ 1 ≤ a ∧ 1 ≤ b ∧ Vl S v ∧ rollB a b v = true ∧ ∀ S', Ext S S' → Q .non S'
theorem txt_ckshot {G : Gm} {ds : List D} {S0 : Sto} {Q : VK} {X : XK} {b : Ss} (hb : b = (.cons (.ex (.call 11 (.cons (.v 0) .nil))) (.cons (.if_ (.not (.call 10 (.cons (.v 0) (.cons (.v 1) .nil)))) (.cons .nev .nil) .nil) .nil))) (h7 : G.fn 11 = spCheck) (h5 : G.fn 10 = spOn) (h : spCkShot ds S0 Q X) : ds.length = 2 ∧ wpSs G b (start 2 ds) S0 (kR Q X) := by
  obtain ⟨a, b2, v, rfl, ha, hb', hv, hr, hq⟩ := h
  subst hb
  refine ⟨rfl, ?_⟩
  simp only [wpSs, wpS, wpE, wpEs, wpC, wpAnd, wpOr, wpO, wpIt, opt_some, onI_int, onB_bl, onR_ref, arg1_one, look, joinO, start, List.map_cons, List.map_nil, List.length_cons, List.length_nil, List.replicate, List.cons_append, List.nil_append, List.append_nil, List.getElem?_cons_succ, List.getElem?_cons_zero, kcD, Nat.reduceAdd, Nat.reduceSub, br_t, br_f, br_n, asg, setAll, List.set_cons_succ, List.set_cons_zero, tgs, wipe, eq_ii, ne_ii, lt_ii, le_ii, gt_ii, ge_ii, is_n, isn_n, is_b, isn_b, add_ii, sub_ii, mul_ii, mod_ii, fdiv_ii, pow_ii, isNon, biD, intD_i, intD_b, esLen, beq_self_eq_true, ixD_tup, lsOf_new, seqD_tup, seqD_fl, slD_tup, bools, Option.map_some, true_and, ixD_fl, lenD_tup, lenD_fl, ix30, ix31, ix32, at20, at21, at30, at31, at32, List.filterMap_cons, List.filterMap_nil]
  refine call h7 ⟨a, b2, rfl, ha, hb', fun S1 k1 => ?_⟩
  refine call h5 ⟨a, b2, v, rfl, hv.ext k1, fun S2 k2 => ?_⟩
  simp only [wpSs, wpS, wpE, wpEs, wpC, wpAnd, wpOr, wpO, wpIt, opt_some, onI_int, onB_bl, onR_ref, arg1_one, look, joinO, start, List.map_cons, List.map_nil, List.length_cons, List.length_nil, List.replicate, List.cons_append, List.nil_append, List.append_nil, List.getElem?_cons_succ, List.getElem?_cons_zero, kcD, Nat.reduceAdd, Nat.reduceSub, br_t, br_f, br_n, asg, setAll, List.set_cons_succ, List.set_cons_zero, tgs, wipe, eq_ii, ne_ii, lt_ii, le_ii, gt_ii, ge_ii, is_n, isn_n, is_b, isn_b, add_ii, sub_ii, mul_ii, mod_ii, fdiv_ii, pow_ii, isNon, biD, intD_i, intD_b, esLen, beq_self_eq_true, ixD_tup, lsOf_new, seqD_tup, seqD_fl, slD_tup, bools, Option.map_some, true_and, ixD_fl, lenD_tup, lenD_fl, ix30, ix31, ix32, at20, at21, at30, at31, at32, List.filterMap_cons, List.filterMap_nil, hr]
  exact hq S2 (k1.trans k2)
/-- check_time of a fraction -/
def spCkTime : Sp := fun ds S Q _ => ∃ v, ds = [v] ∧ Vl S v ∧ partB v = true ∧ ∀ S', Ext S S' → Q .non S'
/-- fold(side, number) -/
def spFold : Sp := fun ds S Q _ => ∃ s t b, ds = [.int s, .tup [.int t, .int b]] ∧ 1 ≤ s ∧ 1 ≤ b ∧ Bd 1500 s ∧ Bd 1500 b ∧ Q (low (foldT s t b) b) S
theorem mulp {a b : Int} (ha : 0 < a) (hb : 0 < b) : 0 < a * b := Int.mul_pos ha hb
/-- free_place(shot, time) -/
def spFreeP : Sp := fun ds S Q _ => ∃ x y p q t b, ds = [.tup [.int x, .int y, .int p, .int q], .tup [.int t, .int b]] ∧ sm x ∧ sm y ∧ sm p ∧ sm q ∧ sm t ∧ sm b ∧ Q (.tup [.tup [.int (x * b + p * t), .int b], .tup [.int (y * b + q * t), .int b]]) S
theorem at40 {α : Type} {a b c d : α} : atI [a, b, c, d] 0 = some a := rfl
theorem at41 {α : Type} {a b c d : α} : atI [a, b, c, d] 1 = some b := rfl
theorem at42 {α : Type} {a b c d : α} : atI [a, b, c, d] 2 = some c := rfl
theorem at43 {α : Type} {a b c d : α} : atI [a, b, c, d] 3 = some d := rfl
/-- a shot and a time, in bounds -/
structure Sh (a c x y p q t b : Int) : Prop where
  a0 : 1 ≤ a
  c0 : 1 ≤ c
  b0 : 1 ≤ b
  ba : Bd 1500 a
  bc : Bd 1500 c
  bx : Bd 1500 x
  by_ : Bd 1500 y
  bp : Bd 1500 p
  bq : Bd 1500 q
  bt : Bd 1500 t
  bb : Bd 1500 b
/-- where the ball is -/
def placeD (a c x y p q t b : Int) : D := .tup [low (foldT a (x * b + p * t) b) b, low (foldT c (y * b + q * t) b) b]
def spPlaceOf : Sp := fun ds S Q _ => ∃ a c x y p q t b, ds = [.tup [.int a, .int c], .tup [.int x, .int y, .int p, .int q], .tup [.int t, .int b]] ∧ Sh a c x y p q t b ∧ Q (placeD a c x y p q t b) S
/-- way_of(side, number, direction) -/
def spWayOf : Sp := fun ds S Q _ => ∃ s t b d, ds = [.int s, .tup [.int t, .int b], .int d] ∧ 1 ≤ s ∧ 1 ≤ b ∧ Bd 1500 s ∧ Bd 1500 b ∧ Q (.int (wayN s t b d)) S
def waysD (a c x y p q t b : Int) : D := .tup [.int (wayN a (x * b + p * t) b p), .int (wayN c (y * b + q * t) b q)]
def spWaysOf : Sp := fun ds S Q _ => ∃ a c x y p q t b, ds = [.tup [.int a, .int c], .tup [.int x, .int y, .int p, .int q], .tup [.int t, .int b]] ∧ Sh a c x y p q t b ∧ Q (waysD a c x y p q t b) S
end M
namespace M
theorem Bd.add {n : Nat} {i j : Int} (h : Bd n i) (k : Bd n j) : Bd (n + 1) (i + j) := by
  show (i + j).natAbs < 2 ^ (n + 1)
  have h : i.natAbs < 2 ^ n := h
  have k : j.natAbs < 2 ^ n := k
  have := Int.natAbs_add_le i j
  rw [Nat.pow_succ]; omega
theorem Bd.neg' {n : Nat} {i : Int} (h : Bd n i) : Bd n (-i) := by
  show (-i).natAbs < 2 ^ n
  rw [Int.natAbs_neg]; exact h
theorem Bd.sub {n : Nat} {i j : Int} (h : Bd n i) (k : Bd n j) : Bd (n + 1) (i - j) := by
  rw [Int.sub_eq_add_neg]; exact h.add k.neg'
theorem Bd.le {n : Nat} {i m : Int} (h : Bd n m) (h0 : 0 ≤ i) (h1 : i ≤ m) : Bd n i := by
  have h : m.natAbs < 2 ^ n := h
  show i.natAbs < 2 ^ n
  omega
theorem Bd.mod {n : Nat} {i m : Int} (h : Bd n m) (hm : 0 < m) : Bd n (i % m) := h.le (Int.emod_nonneg _ (by omega)) (Int.le_of_lt (Int.emod_lt_of_pos _ hm))
theorem Bd.div {n : Nat} {i j : Int} (h : Bd n i) : Bd n (i / j) := by
  show (i / j).natAbs < 2 ^ n
  exact Nat.lt_of_le_of_lt (Int.natAbs_ediv_le_natAbs i j) h
theorem Bd.smd {n : Nat} {i : Int} (h : Bd n i) (hn : n ≤ 8500) : smd i := smd_of n hn h
theorem gdiv_pos {t b : Int} (hb : 0 < b) : 0 < b / ((Int.gcd t b : Nat) : Int) := by
  have g := gcd_pos (t := t) hb
  have l := gcd_le (t := t) hb
  exact Int.ediv_pos_of_pos_of_dvd hb (Int.le_of_lt g) (Int.gcd_dvd_right ..)
theorem gcd_bd {n : Nat} {t b : Int} (h : Bd n b) (hb : 0 < b) : Bd n ((Int.gcd t b : Nat) : Int) := h.le (Int.le_of_lt (gcd_pos hb)) (gcd_le hb)
theorem low_inj {t u b : Int} (hb : 0 < b) (h : low t b = low u b) : t = u := by
  unfold low at h
  injection h with h
  injection h with h1 h
  injection h with h2 h
  injection h1 with h1
  injection h2 with h2
  have g1 := Int.mul_ediv_cancel' (Int.gcd_dvd_right t b)
  have g2 := Int.mul_ediv_cancel' (Int.gcd_dvd_right u b)
  have e1 := Int.mul_ediv_cancel' (Int.gcd_dvd_left t b)
  have e2 := Int.mul_ediv_cancel' (Int.gcd_dvd_left u b)
  have p := gdiv_pos (t := u) hb
  have g : ((Int.gcd t b : Nat) : Int) = ((Int.gcd u b : Nat) : Int) := by
    rw [h2] at g1
    exact Int.eq_of_mul_eq_mul_right (by omega) (g1.trans g2.symm)
  rw [← e1, ← e2, ← h1, g]
theorem bd_of' {i : Int} {k : Nat} (h0 : 0 ≤ i) (h : i < 2 ^ k) : Bd k i := by
  show i.natAbs < 2 ^ k
  have : ((i.natAbs : Nat) : Int) < ((2 ^ k : Nat) : Int) := by
    rw [Int.natAbs_of_nonneg h0, Int.natCast_pow]
    exact h
  exact Int.ofNat_lt.mp this
end M
namespace M
/-- the tuple of a shot -/
abbrev shD (x y p q : Int) : D := .tup [.int x, .int y, .int p, .int q]
abbrev prD (x y : Int) : D := .tup [.int x, .int y]
theorem vl_sh {S : Sto} {x y p q : Int} : Vl S (shD x y p q) := ⟨trivial, fun xs e z hz => by
  cases e
  simp only [List.mem_cons, List.not_mem_nil, or_false] at hz
  rcases hz with rfl | rfl | rfl | rfl <;> trivial⟩
/-- turned_of(shot) -/
def spTurnOf : Sp := fun ds S Q _ => ∃ x y p q, ds = [shD x y p q] ∧ Q (shD x y (-p) (-q)) S
/-- is the shot on the table, the time a fraction -/
structure On (a c x y p q t b : Int) : Prop where
  sh : Sh a c x y p q t b
  on : rollB a c (shD x y p q) = true
  fr : partB (prD t b) = true
def spPlace : Sp := fun ds S Q _ => ∃ a c x y p q t b, ds = [prD a c, shD x y p q, prD t b] ∧ On a c x y p q t b ∧ ∀ S', Ext S S' → Q (placeD a c x y p q t b) S'
def spWay : Sp := fun ds S Q _ => ∃ a c x y p q t b, ds = [prD a c, shD x y p q, prD t b] ∧ On a c x y p q t b ∧ ∀ S', Ext S S' → Q (waysD a c x y p q t b) S'
def spTurned : Sp := fun ds S Q _ => ∃ x y p q, ds = [shD x y p q] ∧ freeB (shD x y p q) = true ∧ ∀ S', Ext S S' → Q (shD x y (-p) (-q)) S'
def spScaled : Sp := fun ds S Q _ => ∃ a c x y p q m, ds = [prD a c, shD x y p q, .int m] ∧ 1 ≤ a ∧ 1 ≤ c ∧ rollB a c (shD x y p q) = true ∧ 1 ≤ m ∧ sm a ∧ sm c ∧ sm x ∧ sm y ∧ sm m ∧ ∀ S', Ext S S' → Q (.tup [prD (a * m) (c * m), shD (x * m) (y * m) p q]) S'
def spCrossed : Sp := fun ds S Q _ => ∃ a c x y p q, ds = [prD a c, shD x y p q] ∧ 1 ≤ a ∧ 1 ≤ c ∧ rollB a c (shD x y p q) = true ∧ ∀ S', Ext S S' → Q (.tup [prD c a, shD y x q p]) S'
/-- Euclid's loop -/
theorem euclid {step : Env → Sto → (Env → Sto → Prop) → Prop} {S : Sto} {mk : Nat → Nat → Env} {g : Nat} (hz : ∀ u nx, u = g → step (mk u 0) S nx) (hs : ∀ u v nx, 0 < v → nx (mk v (u % v)) S → step (mk u v) S nx) : ∀ (n u v : Nat), v ≤ n → Nat.gcd u v = g → ∃ m, whileN step m (mk u v) S
  | n, u, 0, _, h => ⟨1, hz u _ (by rw [← h, Nat.gcd_zero_right])⟩
  | 0, u, v + 1, hv, h => absurd hv (by omega)
  | n + 1, u, v + 1, hv, h => by
    obtain ⟨m, hm⟩ := euclid hz hs n (v + 1) (u % (v + 1)) (by have := Nat.mod_lt u (y := v + 1) (by omega); omega) (by rw [← h, Nat.gcd_comm, ← Nat.gcd_rec, Nat.gcd_comm])
    exact ⟨m + 1, hs u (v + 1) _ (by omega) hm⟩
/-- _law_low(top, bottom), bottom above 0 -/
def spLow : Sp := fun ds S Q _ => ∃ t b, ds = [.int t, .int b] ∧ 0 < b ∧ Bd 8000 b ∧ Q (low t b) S
theorem txt_low {G : Gm} {ds : List D} {S0 : Sto} {Q : VK} {X : XK} {b : Ss} (hb : b = (.cons (.par 2 3 (.bi .abs (.cons (.v 0) .nil)) (.bi .abs (.cons (.v 1) .nil))) (.cons (.while_ (.cmp .ne (.v 3) (.k (.int 0))) (.cons (.par 2 3 (.v 3) (.bin .mod (.bi .int (.cons (.v 2) .nil)) (.v 3))) .nil)) (.cons (.ret (.ite (.cmp .gt (.v 1) (.k (.int 0))) (.tup (.cons (.bin .fdiv (.v 0) (.v 2)) (.cons (.bin .fdiv (.v 1) (.v 2)) .nil))) (.tup (.cons (.bin .fdiv (.neg (.v 0)) (.v 2)) (.cons (.bin .fdiv (.neg (.v 1)) (.v 2)) .nil))))) .nil)))) (h : spLow ds S0 Q X) : ds.length = 2 ∧ wpSs G b (start 4 ds) S0 (kR Q X) := by
  obtain ⟨t, b2, rfl, hp, hb2, hq⟩ := h
  subst hb
  refine ⟨rfl, ?_⟩
  simp only [wpSs, wpS, wpE, wpEs, wpC, wpAnd, wpOr, wpO, wpIt, opt_some, onI_int, onB_bl, onR_ref, arg1_one, look, joinO, start, List.map_cons, List.map_nil, List.length_cons, List.length_nil, List.replicate, List.cons_append, List.nil_append, List.append_nil, List.getElem?_cons_succ, List.getElem?_cons_zero, kcD, Nat.reduceAdd, Nat.reduceSub, br_t, br_f, br_n, asg, setAll, List.set_cons_succ, List.set_cons_zero, tgs, wipe, eq_ii, ne_ii, lt_ii, le_ii, gt_ii, ge_ii, is_n, isn_n, is_b, isn_b, add_ii, sub_ii, mul_ii, mod_ii, fdiv_ii, pow_ii, isNon, biD, intD_i, intD_b, esLen, beq_self_eq_true, ixD_tup, lsOf_new, seqD_tup, seqD_fl, slD_tup, bools, Option.map_some, true_and, ixD_fl, lenD_tup, lenD_fl, ix30, ix31, ix32, at20, at21, at30, at31, at32, List.filterMap_cons, List.filterMap_nil, abs_ite]
  have g0 := gcd_pos (t := t) hp
  have g1 := gcd_le (t := t) hp
  have hs : smd ((Int.gcd t b2 : Nat) : Int) := smd_of 8000 (by decide) (by
    have : b2.natAbs < 2 ^ 8000 := hb2
    omega)
  refine euclid (mk := fun u v => [some (.int t), some (.int b2), some (.int (u : Int)), some (.int (v : Int))]) (g := Int.gcd t b2) (fun u nx e => ?_) (fun u v nx hv k => ?_) _ _ _ (Nat.le_refl _) rfl
  · subst e
    simp only [wpSs, wpS, wpE, wpEs, wpC, wpAnd, wpOr, wpO, wpIt, opt_some, onI_int, onB_bl, onR_ref, arg1_one, look, joinO, start, List.map_cons, List.map_nil, List.length_cons, List.length_nil, List.replicate, List.cons_append, List.nil_append, List.append_nil, List.getElem?_cons_succ, List.getElem?_cons_zero, kcD, Nat.reduceAdd, Nat.reduceSub, br_t, br_f, br_n, asg, setAll, List.set_cons_succ, List.set_cons_zero, tgs, wipe, eq_ii, ne_ii, lt_ii, le_ii, gt_ii, ge_ii, is_n, isn_n, is_b, isn_b, add_ii, sub_ii, mul_ii, mod_ii, fdiv_ii, pow_ii, isNon, biD, intD_i, intD_b, esLen, beq_self_eq_true, ixD_tup, lsOf_new, seqD_tup, seqD_fl, slD_tup, bools, Option.map_some, true_and, ixD_fl, lenD_tup, lenD_fl, ix30, ix31, ix32, at20, at21, at30, at31, at32, List.filterMap_cons, List.filterMap_nil, fdiv_pos g0, Int.natCast_zero]
    first
      | exact br_d (fun _ => ⟨by omega, hs, by omega, hs, len_lim (by decide), hq⟩) fun hn => absurd hp hn
  · have hb : ((v : Int) == 0) = false := by simp; omega
    have hf : Int.fmod (u : Int) (v : Int) = ((u % v : Nat) : Int) := by rw [fmod_pos (by omega)]; rfl
    simp only [wpSs, wpS, wpE, wpEs, wpC, wpAnd, wpOr, wpO, wpIt, opt_some, onI_int, onB_bl, onR_ref, arg1_one, look, joinO, start, List.map_cons, List.map_nil, List.length_cons, List.length_nil, List.replicate, List.cons_append, List.nil_append, List.append_nil, List.getElem?_cons_succ, List.getElem?_cons_zero, kcD, Nat.reduceAdd, Nat.reduceSub, br_t, br_f, br_n, asg, setAll, List.set_cons_succ, List.set_cons_zero, tgs, wipe, eq_ii, ne_ii, lt_ii, le_ii, gt_ii, ge_ii, is_n, isn_n, is_b, isn_b, add_ii, sub_ii, mul_ii, mod_ii, fdiv_ii, pow_ii, isNon, biD, intD_i, intD_b, esLen, beq_self_eq_true, ixD_tup, lsOf_new, seqD_tup, seqD_fl, slD_tup, bools, Option.map_some, true_and, ixD_fl, lenD_tup, lenD_fl, ix30, ix31, ix32, at20, at21, at30, at31, at32, List.filterMap_cons, List.filterMap_nil, hb, hf]
    first
      | exact ⟨by omega, k⟩
/-- _law_times(part, factor) -/
def spTimes : Sp := fun ds S Q _ => ∃ t b f, ds = [prD t b, .int f] ∧ 0 < b ∧ Bd 8000 b ∧ sm t ∧ sm f ∧ Q (low (t * f) b) S
/-- of one shape and value: numbers, tuples, lists -/
def Sm : Nat → Sto → D → D → Prop
  | 0, _, _, _ => False
  | m + 1, S, v, u => (match v, u with
    | .int i, .int j => i = j
    | .bl i, .bl j => i = j
    | .non, .non => True
    | .str i, .str j => i = j
    | .tup xs, .tup ys => xs = ys ∧ xs.length ≤ 1000 ∧ ∀ y ∈ xs, Sm m S y y
    | .ref a, .ref b => ∃ xs, S a = some (.lst xs) ∧ S b = some (.lst xs) ∧ xs.length ≤ 1000 ∧ ∀ y ∈ xs, Sm m S y y
    | _, _ => False)
theorem Sm.ext {S S' : Sto} (k : Ext S S') : ∀ {m : Nat} {v u : D}, Sm m S v u → Sm m S' v u
  | 0, _, _, h => h
  | m + 1, v, u, h => by
    unfold Sm at h ⊢
    split at h
    · exact h
    · exact h
    · exact h
    · exact h
    · exact ⟨h.1, h.2.1, fun y hy => (h.2.2 y hy).ext k⟩
    · obtain ⟨xs, e1, e2, hl, h⟩ := h
      exact ⟨xs, k _ _ e1, k _ _ e2, hl, fun y hy => (h y hy).ext k⟩
    · exact False.elim h
def spSame (m : Nat) : Sp := fun ds S Q _ => ∃ v u, ds = [v, u] ∧ Sm m S v u ∧ ∀ S', Ext S S' → Q (.bl true) S'
theorem compW_drop {chk : Sto → Prop} {step : D → Sto → (Option D → Sto → Prop) → Prop} {Q : VK} {S0 : Sto} (hc : ∀ S, Ext S0 S → chk S) : ∀ {xs acc : List D} {S : Sto}, Ext S0 S → (∀ d ∈ xs, ∀ (S : Sto) (k : Option D → Sto → Prop), Ext S0 S → (∀ S', Ext S S' → k none S') → step d S k) →
    (∀ p S, Ext S0 S → S p = none → Q (.ref p) (upd S p (.lst acc))) → compW chk step Q xs acc S
  | [], acc, S, e, _, h => ⟨hc S e, fun p hp => h p S e hp⟩
  | x :: xs, acc, S, e, hs, h => ⟨hc S e, hs x (by simp) S _ e fun S' e' => by
      simp only [Option.toList, List.append_nil]
      exact compW_drop hc (e.trans e') (fun d hd => hs d (by simp [hd])) h⟩
theorem eq_bb {a b : Bool} {S : Sto} {Q : Bool → Prop} : cmpD .eq (.bl a) (.bl b) S Q ↔ Q (a == b) := by simp [cmpD, fit, eqB]
theorem ne_bb {a b : Bool} {S : Sto} {Q : Bool → Prop} : cmpD .ne (.bl a) (.bl b) S Q ↔ Q (!(a == b)) := by simp [cmpD, fit, eqB]
theorem txt_same {G : Gm} {ds : List D} {S0 : Sto} {Q : VK} {X : XK} {b : Ss} (m : Nat) (hb : b = (.cons (.if_ (.or (.isi (.v 0) .bool) (.cons (.isi (.v 1) .bool) .nil)) (.cons (.ret (.and (.isi (.v 0) .bool) (.cons (.isi (.v 1) .bool) (.cons (.cmp .eq (.v 0) (.v 1)) .nil)))) .nil) .nil) (.cons (.if_ (.cmp .ne (.isi (.v 0) .list) (.isi (.v 1) .list)) (.cons (.ret (.k (.bl false))) .nil) .nil) (.cons (.if_ (.and (.isi2 (.v 0) .list .tuple) (.cons (.isi2 (.v 1) .list .tuple) .nil)) (.cons (.if_ (.cmp .ne (.bi .len (.cons (.v 0) .nil)) (.bi .len (.cons (.v 1) .nil))) (.cons (.ret (.k (.bl false))) .nil) .nil) (.cons (.ret (.cmp .eq (.comp (.v 2) (.v 2) (.rng (.bi .len (.cons (.v 1) .nil))) (.some (.not (.call 23 (.cons (.ix (.v 0) (.v 2)) (.cons (.ix (.v 1) (.v 2)) .nil)))))) (.lst .nil))) .nil)) .nil) (.cons (.ret (.and (.cmp .eq (.v 0) (.v 1)) (.cons (.cmp .eq (.isi (.v 0) .int) (.isi (.v 1) .int)) .nil))) .nil))))) (hr : G.fn 23 = spSame m) (h : spSame (m + 1) ds S0 Q X) : ds.length = 2 ∧ wpSs G b (start 3 ds) S0 (kR Q X) := by
  obtain ⟨v, u, rfl, hs, hq⟩ := h
  subst hb
  refine ⟨rfl, ?_⟩
  unfold Sm at hs
  split at hs
  · rename_i i j
    subst hs
    have t1 : isTy S0 (.int i) .bool = some false := rfl
    have t2 : isTy S0 (.int i) .int = some true := rfl
    have t3 : isTy S0 (.int i) .list = some false := rfl
    have t4 : isTy S0 (.int i) .tuple = some false := rfl
    simp only [wpSs, wpS, wpE, wpEs, wpC, wpAnd, wpOr, wpO, wpIt, opt_some, onI_int, onB_bl, onR_ref, arg1_one, look, joinO, start, List.map_cons, List.map_nil, List.length_cons, List.length_nil, List.replicate, List.cons_append, List.nil_append, List.append_nil, List.getElem?_cons_succ, List.getElem?_cons_zero, kcD, Nat.reduceAdd, Nat.reduceSub, br_t, br_f, br_n, asg, setAll, List.set_cons_succ, List.set_cons_zero, tgs, wipe, eq_ii, ne_ii, lt_ii, le_ii, gt_ii, ge_ii, is_n, isn_n, is_b, isn_b, add_ii, sub_ii, mul_ii, mod_ii, fdiv_ii, pow_ii, isNon, biD, intD_i, intD_b, esLen, beq_self_eq_true, ixD_tup, lsOf_new, seqD_tup, seqD_fl, slD_tup, bools, Option.map_some, true_and, ixD_fl, lenD_tup, lenD_fl, ix30, ix31, ix32, at20, at21, at30, at31, at32, List.filterMap_cons, List.filterMap_nil, t1, t2, t3, t4, eq_bb, ne_bb, Bool.or_false, Bool.not_true]
    exact hq S0 Ext.refl
  · rename_i i j
    subst hs
    have t1 : isTy S0 (.bl i) .bool = some true := rfl
    simp only [wpSs, wpS, wpE, wpEs, wpC, wpAnd, wpOr, wpO, wpIt, opt_some, onI_int, onB_bl, onR_ref, arg1_one, look, joinO, start, List.map_cons, List.map_nil, List.length_cons, List.length_nil, List.replicate, List.cons_append, List.nil_append, List.append_nil, List.getElem?_cons_succ, List.getElem?_cons_zero, kcD, Nat.reduceAdd, Nat.reduceSub, br_t, br_f, br_n, asg, setAll, List.set_cons_succ, List.set_cons_zero, tgs, wipe, eq_ii, ne_ii, lt_ii, le_ii, gt_ii, ge_ii, is_n, isn_n, is_b, isn_b, add_ii, sub_ii, mul_ii, mod_ii, fdiv_ii, pow_ii, isNon, biD, intD_i, intD_b, esLen, beq_self_eq_true, ixD_tup, lsOf_new, seqD_tup, seqD_fl, slD_tup, bools, Option.map_some, true_and, ixD_fl, lenD_tup, lenD_fl, ix30, ix31, ix32, at20, at21, at30, at31, at32, List.filterMap_cons, List.filterMap_nil, t1, eq_bb]
    exact hq S0 Ext.refl
  · have t1 : isTy S0 .non .bool = some false := rfl
    have t2 : isTy S0 .non .int = some false := rfl
    have t3 : isTy S0 .non .list = some false := rfl
    have t4 : isTy S0 .non .tuple = some false := rfl
    simp only [wpSs, wpS, wpE, wpEs, wpC, wpAnd, wpOr, wpO, wpIt, opt_some, onI_int, onB_bl, onR_ref, arg1_one, look, joinO, start, List.map_cons, List.map_nil, List.length_cons, List.length_nil, List.replicate, List.cons_append, List.nil_append, List.append_nil, List.getElem?_cons_succ, List.getElem?_cons_zero, kcD, Nat.reduceAdd, Nat.reduceSub, br_t, br_f, br_n, asg, setAll, List.set_cons_succ, List.set_cons_zero, tgs, wipe, eq_ii, ne_ii, lt_ii, le_ii, gt_ii, ge_ii, is_n, isn_n, is_b, isn_b, add_ii, sub_ii, mul_ii, mod_ii, fdiv_ii, pow_ii, isNon, biD, intD_i, intD_b, esLen, beq_self_eq_true, ixD_tup, lsOf_new, seqD_tup, seqD_fl, slD_tup, bools, Option.map_some, true_and, ixD_fl, lenD_tup, lenD_fl, ix30, ix31, ix32, at20, at21, at30, at31, at32, List.filterMap_cons, List.filterMap_nil, t1, t2, t3, t4, eq_bb, ne_bb, Bool.or_false, Bool.not_true]
    refine ⟨rfl, rfl, ?_⟩
    show br true _ _
    simp only [wpSs, wpS, wpE, wpEs, wpC, wpAnd, wpOr, wpO, wpIt, opt_some, onI_int, onB_bl, onR_ref, arg1_one, look, joinO, start, List.map_cons, List.map_nil, List.length_cons, List.length_nil, List.replicate, List.cons_append, List.nil_append, List.append_nil, List.getElem?_cons_succ, List.getElem?_cons_zero, kcD, Nat.reduceAdd, Nat.reduceSub, br_t, br_f, br_n, asg, setAll, List.set_cons_succ, List.set_cons_zero, tgs, wipe, eq_ii, ne_ii, lt_ii, le_ii, gt_ii, ge_ii, is_n, isn_n, is_b, isn_b, add_ii, sub_ii, mul_ii, mod_ii, fdiv_ii, pow_ii, isNon, biD, intD_i, intD_b, esLen, beq_self_eq_true, ixD_tup, lsOf_new, seqD_tup, seqD_fl, slD_tup, bools, Option.map_some, true_and, ixD_fl, lenD_tup, lenD_fl, ix30, ix31, ix32, at20, at21, at30, at31, at32, List.filterMap_cons, List.filterMap_nil, t2, eq_bb]
    exact hq S0 Ext.refl
  · rename_i x y
    subst hs
    have t1 : isTy S0 (.str x) .bool = some false := rfl
    have t2 : isTy S0 (.str x) .int = some false := rfl
    have t3 : isTy S0 (.str x) .list = some false := rfl
    have t4 : isTy S0 (.str x) .tuple = some false := rfl
    have es : ∀ {R : Bool → Prop}, cmpD .eq (.str x) (.str x) S0 R = R (x == x) := rfl
    simp only [wpSs, wpS, wpE, wpEs, wpC, wpAnd, wpOr, wpO, wpIt, opt_some, onI_int, onB_bl, onR_ref, arg1_one, look, joinO, start, List.map_cons, List.map_nil, List.length_cons, List.length_nil, List.replicate, List.cons_append, List.nil_append, List.append_nil, List.getElem?_cons_succ, List.getElem?_cons_zero, kcD, Nat.reduceAdd, Nat.reduceSub, br_t, br_f, br_n, asg, setAll, List.set_cons_succ, List.set_cons_zero, tgs, wipe, eq_ii, ne_ii, lt_ii, le_ii, gt_ii, ge_ii, is_n, isn_n, is_b, isn_b, add_ii, sub_ii, mul_ii, mod_ii, fdiv_ii, pow_ii, isNon, biD, intD_i, intD_b, esLen, beq_self_eq_true, ixD_tup, lsOf_new, seqD_tup, seqD_fl, slD_tup, bools, Option.map_some, true_and, ixD_fl, lenD_tup, lenD_fl, ix30, ix31, ix32, at20, at21, at30, at31, at32, List.filterMap_cons, List.filterMap_nil, t1, t2, t3, t4, eq_bb, ne_bb, es, Bool.or_false, Bool.not_true]
    exact hq S0 Ext.refl
  · rename_i xs ys
    obtain ⟨rfl, hl, he⟩ := hs
    have t1 : isTy S0 (.tup xs) .bool = some false := rfl
    have t3 : isTy S0 (.tup xs) .list = some false := rfl
    have t4 : isTy S0 (.tup xs) .tuple = some true := rfl
    simp only [wpSs, wpS, wpE, wpEs, wpC, wpAnd, wpOr, wpO, wpIt, opt_some, onI_int, onB_bl, onR_ref, arg1_one, look, joinO, start, List.map_cons, List.map_nil, List.length_cons, List.length_nil, List.replicate, List.cons_append, List.nil_append, List.append_nil, List.getElem?_cons_succ, List.getElem?_cons_zero, kcD, Nat.reduceAdd, Nat.reduceSub, br_t, br_f, br_n, asg, setAll, List.set_cons_succ, List.set_cons_zero, tgs, wipe, eq_ii, ne_ii, lt_ii, le_ii, gt_ii, ge_ii, is_n, isn_n, is_b, isn_b, add_ii, sub_ii, mul_ii, mod_ii, fdiv_ii, pow_ii, isNon, biD, intD_i, intD_b, esLen, beq_self_eq_true, ixD_tup, lsOf_new, seqD_tup, seqD_fl, slD_tup, bools, Option.map_some, true_and, ixD_fl, lenD_tup, lenD_fl, ix30, ix31, ix32, at20, at21, at30, at31, at32, List.filterMap_cons, List.filterMap_nil, t1, t3, t4, eq_bb, ne_bb, Bool.or_true, Bool.false_or, Bool.not_true]
    refine ⟨by omega, by omega, by omega, by omega, len_lim (by simpa using hl), ?_⟩
    refine compW_drop (S0 := S0) (fun _ _ => trivial) Ext.refl (fun d hd S k e kk => ?_) fun p S e hp => ?_
    · obtain ⟨i, hi, rfl⟩ := List.mem_map.mp hd
      have hi := List.mem_range.mp hi
      obtain ⟨y, hy, ey⟩ := at_some (xs := xs) (i := 0 + (i : Int)) (by omega) (by omega)
      simp only [wpSs, wpS, wpE, wpEs, wpC, wpAnd, wpOr, wpO, wpIt, opt_some, onI_int, onB_bl, onR_ref, arg1_one, look, joinO, start, List.map_cons, List.map_nil, List.length_cons, List.length_nil, List.replicate, List.cons_append, List.nil_append, List.append_nil, List.getElem?_cons_succ, List.getElem?_cons_zero, kcD, Nat.reduceAdd, Nat.reduceSub, br_t, br_f, br_n, asg, setAll, List.set_cons_succ, List.set_cons_zero, tgs, wipe, eq_ii, ne_ii, lt_ii, le_ii, gt_ii, ge_ii, is_n, isn_n, is_b, isn_b, add_ii, sub_ii, mul_ii, mod_ii, fdiv_ii, pow_ii, isNon, biD, intD_i, intD_b, esLen, beq_self_eq_true, ixD_tup, lsOf_new, seqD_tup, seqD_fl, slD_tup, bools, Option.map_some, true_and, ixD_fl, lenD_tup, lenD_fl, ix30, ix31, ix32, at20, at21, at30, at31, at32, List.filterMap_cons, List.filterMap_nil, ey]
      refine call hr ⟨y, y, rfl, (he y hy).ext e, fun S' e' => ?_⟩
      simp only [wpSs, wpS, wpE, wpEs, wpC, wpAnd, wpOr, wpO, wpIt, opt_some, onI_int, onB_bl, onR_ref, arg1_one, look, joinO, start, List.map_cons, List.map_nil, List.length_cons, List.length_nil, List.replicate, List.cons_append, List.nil_append, List.append_nil, List.getElem?_cons_succ, List.getElem?_cons_zero, kcD, Nat.reduceAdd, Nat.reduceSub, br_t, br_f, br_n, asg, setAll, List.set_cons_succ, List.set_cons_zero, tgs, wipe, eq_ii, ne_ii, lt_ii, le_ii, gt_ii, ge_ii, is_n, isn_n, is_b, isn_b, add_ii, sub_ii, mul_ii, mod_ii, fdiv_ii, pow_ii, isNon, biD, intD_i, intD_b, esLen, beq_self_eq_true, ixD_tup, lsOf_new, seqD_tup, seqD_fl, slD_tup, bools, Option.map_some, true_and, ixD_fl, lenD_tup, lenD_fl, ix30, ix31, ix32, at20, at21, at30, at31, at32, List.filterMap_cons, List.filterMap_nil]
      exact kk S' e'
    · refine mkL_ok (by simp) fun p2 hp2 => ?_
      have hne : p ≠ p2 := ne_new upd_at hp2
      exact eq_nil (ys := []) (by rw [upd_off hne, upd_at]) upd_at rfl (hq _ (e.trans ((Ext.new hp).trans (Ext.new hp2))))
  · rename_i a b
    obtain ⟨xs, e1, e2, hl, he⟩ := hs
    have ty : ∀ c, S0 c = some (.lst xs) → isTy S0 (.ref c) .bool = some false ∧ isTy S0 (.ref c) .list = some true ∧ isTy S0 (.ref c) .tuple = some false := fun c e => by
      refine ⟨?_, ?_, ?_⟩ <;> (show tyO (S0 c) _ = _; rw [e]; rfl)
    obtain ⟨t1, t3, t4⟩ := ty a e1
    obtain ⟨u1, u3, u4⟩ := ty b e2
    simp only [wpSs, wpS, wpE, wpEs, wpC, wpAnd, wpOr, wpO, wpIt, opt_some, onI_int, onB_bl, onR_ref, arg1_one, look, joinO, start, List.map_cons, List.map_nil, List.length_cons, List.length_nil, List.replicate, List.cons_append, List.nil_append, List.append_nil, List.getElem?_cons_succ, List.getElem?_cons_zero, kcD, Nat.reduceAdd, Nat.reduceSub, br_t, br_f, br_n, asg, setAll, List.set_cons_succ, List.set_cons_zero, tgs, wipe, eq_ii, ne_ii, lt_ii, le_ii, gt_ii, ge_ii, is_n, isn_n, is_b, isn_b, add_ii, sub_ii, mul_ii, mod_ii, fdiv_ii, pow_ii, isNon, biD, intD_i, intD_b, esLen, beq_self_eq_true, ixD_tup, lsOf_new, seqD_tup, seqD_fl, slD_tup, bools, Option.map_some, true_and, ixD_fl, lenD_tup, lenD_fl, ix30, ix31, ix32, at20, at21, at30, at31, at32, List.filterMap_cons, List.filterMap_nil, t1, t3, t4, u1, u3, u4, eq_bb, ne_bb, Bool.or_true, Bool.true_or, Bool.false_or, Bool.not_true, lenD_ref e1, lenD_ref e2]
    refine ⟨by omega, by omega, by omega, by omega, len_lim (by simpa using hl), ?_⟩
    refine compW_drop (S0 := S0) (fun _ _ => trivial) Ext.refl (fun d hd S k e kk => ?_) fun p S e hp => ?_
    · obtain ⟨i, hi, rfl⟩ := List.mem_map.mp hd
      have hi := List.mem_range.mp hi
      obtain ⟨y, hy, ey⟩ := at_some (xs := xs) (i := 0 + (i : Int)) (by omega) (by omega)
      simp only [wpSs, wpS, wpE, wpEs, wpC, wpAnd, wpOr, wpO, wpIt, opt_some, onI_int, onB_bl, onR_ref, arg1_one, look, joinO, start, List.map_cons, List.map_nil, List.length_cons, List.length_nil, List.replicate, List.cons_append, List.nil_append, List.append_nil, List.getElem?_cons_succ, List.getElem?_cons_zero, kcD, Nat.reduceAdd, Nat.reduceSub, br_t, br_f, br_n, asg, setAll, List.set_cons_succ, List.set_cons_zero, tgs, wipe, eq_ii, ne_ii, lt_ii, le_ii, gt_ii, ge_ii, is_n, isn_n, is_b, isn_b, add_ii, sub_ii, mul_ii, mod_ii, fdiv_ii, pow_ii, isNon, biD, intD_i, intD_b, esLen, beq_self_eq_true, ixD_tup, lsOf_new, seqD_tup, seqD_fl, slD_tup, bools, Option.map_some, true_and, ixD_fl, lenD_tup, lenD_fl, ix30, ix31, ix32, at20, at21, at30, at31, at32, List.filterMap_cons, List.filterMap_nil, ixD_ref (e _ _ e1), ixD_ref (e _ _ e2), ey]
      refine call hr ⟨y, y, rfl, (he y hy).ext e, fun S' e' => ?_⟩
      simp only [wpSs, wpS, wpE, wpEs, wpC, wpAnd, wpOr, wpO, wpIt, opt_some, onI_int, onB_bl, onR_ref, arg1_one, look, joinO, start, List.map_cons, List.map_nil, List.length_cons, List.length_nil, List.replicate, List.cons_append, List.nil_append, List.append_nil, List.getElem?_cons_succ, List.getElem?_cons_zero, kcD, Nat.reduceAdd, Nat.reduceSub, br_t, br_f, br_n, asg, setAll, List.set_cons_succ, List.set_cons_zero, tgs, wipe, eq_ii, ne_ii, lt_ii, le_ii, gt_ii, ge_ii, is_n, isn_n, is_b, isn_b, add_ii, sub_ii, mul_ii, mod_ii, fdiv_ii, pow_ii, isNon, biD, intD_i, intD_b, esLen, beq_self_eq_true, ixD_tup, lsOf_new, seqD_tup, seqD_fl, slD_tup, bools, Option.map_some, true_and, ixD_fl, lenD_tup, lenD_fl, ix30, ix31, ix32, at20, at21, at30, at31, at32, List.filterMap_cons, List.filterMap_nil]
      exact kk S' e'
    · refine mkL_ok (by simp) fun p2 hp2 => ?_
      have hne : p ≠ p2 := ne_new upd_at hp2
      exact eq_nil (ys := []) (by rw [upd_off hne, upd_at]) upd_at rfl (hq _ (e.trans ((Ext.new hp).trans (Ext.new hp2))))
  · exact False.elim hs
end M
namespace M
theorem low_scale {k u v : Int} (hk : 0 < k) : low (k * u) (k * v) = low u v := by
  have e : ((Int.gcd (k * u) (k * v) : Nat) : Int) = k * ((Int.gcd u v : Nat) : Int) := by
    rw [Int.gcd_mul_left]
    have : ((k.natAbs : Nat) : Int) = k := by omega
    rw [Int.natCast_mul, this]
  unfold low
  rw [e, Int.mul_ediv_mul_of_pos _ _ hk, Int.mul_ediv_mul_of_pos _ _ hk]
theorem fold_scale {k s t b s' t' b' f : Int} (hk : 0 < k) (hf : 0 < f) (ht : k * t' = f * t) (hb : k * (s' * b') = f * (s * b)) : k * foldT s' t' b' = f * foldT s t b := by
  have hm : k * (2 * s' * b') = f * (2 * s * b) := by
    have e1 : k * (2 * s' * b') = 2 * (k * (s' * b')) := by rw [Int.mul_assoc 2 s' b', ← Int.mul_assoc, Int.mul_comm k 2, Int.mul_assoc]
    have e2 : f * (2 * s * b) = 2 * (f * (s * b)) := by rw [Int.mul_assoc 2 s b, ← Int.mul_assoc, Int.mul_comm f 2, Int.mul_assoc]
    rw [e1, e2, hb]
  have hr : k * (t' % (2 * s' * b')) = f * (t % (2 * s * b)) := by
    rw [← Int.mul_emod_mul_of_pos _ _ hk, ht, hm, Int.mul_emod_mul_of_pos _ _ hf]
  unfold foldT
  generalize 2 * s' * b' = M' at *
  generalize 2 * s * b = M0 at *
  generalize t' % M' = r' at *
  generalize t % M0 = r at *
  have c : M' - r' < r' ↔ M0 - r < r := by
    have h1 : k * (M' - r') = f * (M0 - r) := by rw [Int.mul_sub, Int.mul_sub, hm, hr]
    constructor
    · intro h
      have : k * (M' - r') < k * r' := Int.mul_lt_mul_of_pos_left h hk
      rw [h1, hr] at this
      exact Int.lt_of_mul_lt_mul_left this (Int.le_of_lt hf)
    · intro h
      have : f * (M0 - r) < f * r := Int.mul_lt_mul_of_pos_left h hf
      rw [← h1, ← hr] at this
      exact Int.lt_of_mul_lt_mul_left this (Int.le_of_lt hk)
  by_cases h : M0 - r < r
  · rw [if_pos h, if_pos (c.mpr h), Int.mul_sub, Int.mul_sub, hm, hr]
  · rw [if_neg h, if_neg (fun z => h (c.mp z)), hr]
theorem way_scale {k s t b s' t' b' f d : Int} (hk : 0 < k) (hf : 0 < f) (ht : k * t' = f * t) (hb : k * (s' * b') = f * (s * b)) : wayN s' t' b' d = wayN s t b d := by
  have h1 : t' / (s' * b') = t / (s * b) := by rw [← Int.mul_ediv_mul_of_pos _ _ hk, ht, hb, Int.mul_ediv_mul_of_pos _ _ hf]
  have h2 : (-t') / (s' * b') = (-t) / (s * b) := by
    rw [← Int.mul_ediv_mul_of_pos _ _ hk, Int.mul_neg, ht, hb, ← Int.mul_neg, Int.mul_ediv_mul_of_pos _ _ hf]
  unfold wayN cellN
  rw [h1, h2]
theorem mul_ref {S : Sto} {a : Nat} {xs : List D} {k : Int} (ha : S a = some (.lst xs)) (h0 : 0 ≤ k) (h1 : k < 1000) {Q : VK} (q : mkL ((List.replicate k.toNat xs).flatten) S Q) : binD .mul (.ref a) (.int k) S Q := by
  show opt (lstAt S a) _
  rw [lstAt_eq ha]
  exact ⟨h0, h1, q⟩
/-- nested tuples of numbers -/
def IntT : Nat → D → Prop
  | 0, _ => False
  | _ + 1, .int _ => True
  | n + 1, .tup xs => ∀ y ∈ xs, IntT n y
  | _ + 1, _ => False
theorem IntT.fit {S : Sto} : ∀ {n : Nat} {v : D}, IntT n v → M.fit n S v = true
  | 0, _, h => False.elim h
  | n + 1, v, h => by
    cases v with
    | int i => rfl
    | tup xs => exact fitL_of fun y hy => (h y hy).fit
    | _ => exact False.elim h
theorem eqLB_refl {eq : D → D → Bool} : ∀ {xs : List D}, (∀ y ∈ xs, eq y y = true) → eqLB eq xs xs = true
  | [], _ => rfl
  | x :: xs, h => by
    show (eq x x && eqLB eq xs xs) = true
    rw [h x (by simp), eqLB_refl fun y hy => h y (by simp [hy])]
    rfl
theorem IntT.eq {S : Sto} : ∀ {n : Nat} {v : D}, IntT n v → eqB n S v v = true
  | 0, _, h => False.elim h
  | n + 1, v, h => by
    cases v with
    | int i => show (i == i) = true; simp
    | tup xs => exact eqLB_refl fun y hy => (h y hy).eq
    | _ => exact False.elim h
theorem cmp_not_str {v : D} (h : IntT 8 v) {S : Sto} {Q : Bool → Prop} (k : fit dep S v = true ∧ fit dep S v = true ∧ Q (eqB dep S v v)) : cmpD .eq v v S Q := by
  cases v <;> first | exact k | exact False.elim h
theorem eq_self' {v : D} {S : Sto} {Q : Bool → Prop} (h : IntT 8 v) (k : Q true) : cmpD .eq v v S Q := cmp_not_str h ⟨h.fit, h.fit, by rw [h.eq]; exact k⟩
theorem ne_self' {v : D} {S : Sto} {Q : Bool → Prop} (h : IntT 8 v) (k : Q false) : cmpD .ne v v S Q := by
  have k : fit dep S v = true ∧ fit dep S v = true ∧ Q (!eqB dep S v v) := ⟨h.fit, h.fit, by rw [h.eq]; exact k⟩
  cases v <;> first | exact k | exact False.elim h
theorem it_pr {n : Nat} {x y : Int} : IntT (n + 2) (prD x y) := fun z hz => by
  simp only [List.mem_cons, List.not_mem_nil, or_false] at hz
  rcases hz with rfl | rfl <;> trivial
theorem it_sh {n : Nat} {x y p q : Int} : IntT (n + 2) (shD x y p q) := fun z hz => by
  simp only [List.mem_cons, List.not_mem_nil, or_false] at hz
  rcases hz with rfl | rfl | rfl | rfl <;> trivial
theorem it_pair {n : Nat} {u v : D} (h1 : IntT n u) (h2 : IntT n v) : IntT (n + 1) (.tup [u, v]) := fun z hz => by
  simp only [List.mem_cons, List.not_mem_nil, or_false] at hz
  rcases hz with rfl | rfl
  · exact h1
  · exact h2
theorem it_place {a c x y p q t b : Int} : IntT 8 (placeD a c x y p q t b) := it_pair it_pr it_pr
theorem it_ways {a c x y p q t b : Int} : IntT 8 (waysD a c x y p q t b) := it_pr
theorem IntT.sm {S : Sto} : ∀ {n : Nat} {v : D}, IntT n v → (∀ xs, v = .tup xs → xs.length ≤ 1000) → (∀ xs, v = .tup xs → ∀ y ∈ xs, Sm (n - 1) S y y) → Sm n S v v
  | 0, _, h, _, _ => False.elim h
  | n + 1, v, h, hl, hs => by
    cases v with
    | int i => exact (rfl : i = i)
    | tup xs => exact ⟨rfl, hl xs rfl, hs xs rfl⟩
    | _ => exact False.elim h
theorem sm_int {m : Nat} {S : Sto} {i : Int} : Sm (m + 1) S (.int i) (.int i) := (rfl : i = i)
theorem sm_sh {m : Nat} {S : Sto} {x y p q : Int} : Sm (m + 2) S (shD x y p q) (shD x y p q) := ⟨rfl, by simp, fun z hz => by
  simp only [List.mem_cons, List.not_mem_nil, or_false] at hz
  rcases hz with rfl | rfl | rfl | rfl <;> exact sm_int⟩
theorem sm_pr {m : Nat} {S : Sto} {x y : Int} : Sm (m + 2) S (prD x y) (prD x y) := ⟨rfl, by simp, fun z hz => by
  simp only [List.mem_cons, List.not_mem_nil, or_false] at hz
  rcases hz with rfl | rfl <;> exact sm_int⟩
theorem sm_pair {m : Nat} {S : Sto} {u v : D} (h1 : Sm m S u u) (h2 : Sm m S v v) : Sm (m + 1) S (.tup [u, v]) (.tup [u, v]) := ⟨rfl, by simp, fun z hz => by
  simp only [List.mem_cons, List.not_mem_nil, or_false] at hz
  rcases hz with rfl | rfl
  · exact h1
  · exact h2⟩
/-- two lists of the same two -/
theorem sm_lists {m : Nat} {S : Sto} {p q : Nat} {v : D} (hp : S p = some (.lst [v, v])) (hq : S q = some (.lst [v, v])) (h : Sm m S v v) : Sm (m + 1) S (.ref p) (.ref q) := ⟨[v, v], hp, hq, by simp, fun y hy => by
  simp only [List.mem_cons, List.not_mem_nil, or_false, or_self] at hy
  subst hy; exact h⟩
abbrev spSm : Sp := fun ds S Q X => ∃ m, m < 12 ∧ spSame m ds S Q X
theorem roll_neg {a c x y p q : Int} (h : rollB a c (shD x y p q) = true) : rollB a c (shD x y (-p) (-q)) = true := by
  have e : ∀ p q : Int, rollB a c (shD x y p q) = ((decide (0 ≤ x) && decide (0 ≤ y) && !(p == 0 && q == 0)) && (decide (x ≤ a) && decide (y ≤ c))) := fun _ _ => rfl
  rw [e] at h ⊢
  have n : ∀ p : Int, ((-p) == 0) = (p == 0) := fun p => by
    by_cases hp : p = 0
    · subst hp; rfl
    · rw [beq_eq_false_iff_ne.mpr hp, beq_eq_false_iff_ne.mpr (by omega)]
  rw [n, n]; exact h
theorem roll_free {a c : Int} {v : D} (h : rollB a c v = true) : freeB v = true := by
  unfold rollB at h
  exact (Bool.and_eq_true_iff.mp h).1
theorem part_of {t b : Int} : partB (prD t b) = (decide (1 ≤ b) && (Int.gcd t b == 1)) := by
  show (true && (decide (1 ≤ b) && true) && (Int.gcd t b == 1)) = _
  simp
theorem Bd.neg {n : Nat} {i : Int} (h : Bd n i) : Bd n (-i) := by
  show (-i).natAbs < 2 ^ n
  rw [Int.natAbs_neg]; exact h
theorem On.turn {a c x y p q t b : Int} (k : On a c x y p q t b) : On a c x y (-p) (-q) t b := ⟨{ k.sh with bp := k.sh.bp.neg, bq := k.sh.bq.neg }, roll_neg k.on, k.fr⟩
theorem On.back {a c x y p q t b : Int} (k : On a c x y p q t b) : On a c x y p q (-t) b := ⟨{ k.sh with bt := k.sh.bt.neg }, k.on, by
  have h := k.fr
  rw [part_of] at h ⊢
  rw [Int.neg_gcd]; exact h⟩
/-- _law_turned_right(desk, shot, time) -/
def spTR : Sp := fun ds S Q _ => ∃ a c x y p q t b, ds = [prD a c, shD x y p q, prD t b] ∧ On a c x y p q t b ∧ ∀ S', Ext S S' → Q (.bl true) S'
/-- _law_crossed_right(desk, shot, time) -/
theorem roll_cross {a c x y p q : Int} (h : rollB a c (shD x y p q) = true) : rollB c a (shD y x q p) = true := by
  have e : ∀ a c x y p q : Int, rollB a c (shD x y p q) = ((decide (0 ≤ x) && decide (0 ≤ y) && !(p == 0 && q == 0)) && (decide (x ≤ a) && decide (y ≤ c))) := fun _ _ _ _ _ _ => rfl
  rw [e] at h ⊢
  simp only [Bool.and_eq_true, Bool.not_eq_true', Bool.and_eq_false_iff] at h ⊢
  obtain ⟨⟨⟨h1, h2⟩, h3⟩, h4, h5⟩ := h
  exact ⟨⟨⟨h2, h1⟩, h3.symm⟩, h5, h4⟩
theorem On.cross {a c x y p q t b : Int} (k : On a c x y p q t b) : On c a y x q p t b := ⟨⟨k.sh.c0, k.sh.a0, k.sh.b0, k.sh.bc, k.sh.ba, k.sh.by_, k.sh.bx, k.sh.bq, k.sh.bp, k.sh.bt, k.sh.bb⟩, roll_cross k.on, k.fr⟩
theorem rev2 {u v : D} {S : Sto} {Q : VK} : revD (.tup [u, v]) S Q = Q (.tup [v, u]) S := rfl
theorem at2 {u v : D} {S : Sto} {Q : VK} : ixD (.tup [u, v]) (.int 0) S Q = Q u S ∧ ixD (.tup [u, v]) (.int 1) S Q = Q v S := ⟨rfl, rfl⟩
/-- the scaled -/
theorem roll_scale {a c x y p q f : Int} (hf : 1 ≤ f) (h : rollB a c (shD x y p q) = true) : rollB (a * f) (c * f) (shD (x * f) (y * f) p q) = true := by
  have e : ∀ a c x y p q : Int, rollB a c (shD x y p q) = ((decide (0 ≤ x) && decide (0 ≤ y) && !(p == 0 && q == 0)) && (decide (x ≤ a) && decide (y ≤ c))) := fun _ _ _ _ _ _ => rfl
  rw [e] at h ⊢
  simp only [Bool.and_eq_true, decide_eq_true_eq] at h ⊢
  obtain ⟨⟨⟨h1, h2⟩, h3⟩, h4, h5⟩ := h
  have f0 : 0 ≤ f := by omega
  exact ⟨⟨⟨Int.mul_nonneg h1 f0, Int.mul_nonneg h2 f0⟩, h3⟩, Int.mul_le_mul_of_nonneg_right h4 f0, Int.mul_le_mul_of_nonneg_right h5 f0⟩
/-- tighter bounds, so that the scaled are in bounds -/
structure Tt (a c x y p q t b f : Int) : Prop where
  on : On a c x y p q t b
  f1 : 1 ≤ f
  ba : Bd 400 a
  bc : Bd 400 c
  bx : Bd 400 x
  by_ : Bd 400 y
  bt : Bd 400 t
  bf : Bd 400 f
theorem div_bd {n : Nat} {i j : Int} (h : Bd n i) : Bd n (i / j) := by
  show (i / j).natAbs < 2 ^ n
  exact Nat.lt_of_le_of_lt (Int.natAbs_ediv_le_natAbs i j) h
/-- the later time, its parts -/
def lt_ (t b f : Int) : Int := t * f / ((Int.gcd (t * f) b : Nat) : Int)
def lb_ (t b f : Int) : Int := b / ((Int.gcd (t * f) b : Nat) : Int)
theorem low_later {t b f : Int} : low (t * f) b = prD (lt_ t b f) (lb_ t b f) := rfl
theorem later_mul {t b f : Int} : ((Int.gcd (t * f) b : Nat) : Int) * lt_ t b f = t * f ∧ ((Int.gcd (t * f) b : Nat) : Int) * lb_ t b f = b := ⟨Int.mul_ediv_cancel' (Int.gcd_dvd_left ..), Int.mul_ediv_cancel' (Int.gcd_dvd_right ..)⟩
theorem Tt.scaled {a c x y p q t b f : Int} (k : Tt a c x y p q t b f) : On (a * f) (c * f) (x * f) (y * f) p q (lt_ t b f) (lb_ t b f) := by
  have b0 := k.on.sh.b0
  have g0 := gcd_pos (t := t * f) (b := b) (by omega)
  obtain ⟨m1, m2⟩ := later_mul (t := t) (b := b) (f := f)
  have pb : 0 < lb_ t b f := by
    refine Int.lt_of_mul_lt_mul_left (a := ((Int.gcd (t * f) b : Nat) : Int)) ?_ (Int.le_of_lt g0)
    rw [m2, Int.mul_zero]; omega
  have f0 : 0 < f := by have := k.f1; omega
  have pm : ∀ i : Int, 1 ≤ i → 1 ≤ i * f := fun i h => by have := mulp (a := i) (b := f) (by omega) f0; omega
  refine ⟨⟨pm a k.on.sh.a0, pm c k.on.sh.c0, by omega, (k.ba.mul k.bf).up (by decide), (k.bc.mul k.bf).up (by decide), (k.bx.mul k.bf).up (by decide), (k.by_.mul k.bf).up (by decide), k.on.sh.bp, k.on.sh.bq, (div_bd (k.bt.mul k.bf)).up (by decide), div_bd k.on.sh.bb⟩, roll_scale k.f1 k.on.on, ?_⟩
  rw [part_of]
  have e : Int.gcd (lt_ t b f) (lb_ t b f) = 1 := by
    have h := Int.gcd_mul_left (((Int.gcd (t * f) b : Nat) : Int)) (lt_ t b f) (lb_ t b f)
    rw [m1, m2] at h
    have g0' : 0 < Int.gcd (t * f) b := by omega
    rw [Int.natAbs_natCast] at h
    have : Int.gcd (t * f) b * 1 = Int.gcd (t * f) b * Int.gcd (lt_ t b f) (lb_ t b f) := by omega
    exact (Nat.eq_of_mul_eq_mul_left g0' this).symm
  rw [e, decide_eq_true (by omega)]
  rfl
theorem axis_scale {a x p t b f : Int} (hb : 0 < b) (hf : 0 < f) : ((Int.gcd (t * f) b : Nat) : Int) * (x * f * lb_ t b f + p * lt_ t b f) = f * (x * b + p * t) ∧ ((Int.gcd (t * f) b : Nat) : Int) * (a * f * lb_ t b f) = f * (a * b) := by
  obtain ⟨m1, m2⟩ := later_mul (t := t) (b := b) (f := f)
  generalize ((Int.gcd (t * f) b : Nat) : Int) = g at *
  generalize lt_ t b f = t' at *
  generalize lb_ t b f = b' at *
  constructor
  · have e1 : g * (x * f * b' + p * t') = x * f * (g * b') + p * (g * t') := by
      rw [Int.mul_add, Int.mul_left_comm, Int.mul_left_comm g p]
    rw [e1, m1, m2, Int.mul_add]
    congr 1
    · rw [Int.mul_comm x f, Int.mul_assoc]
    · rw [← Int.mul_assoc, Int.mul_comm]
  · rw [Int.mul_left_comm, m2, Int.mul_comm a f, Int.mul_assoc]
theorem low_axis {a x p t b f : Int} (hb : 0 < b) (hf : 0 < f) : low (foldT (a * f) (x * f * lb_ t b f + p * lt_ t b f) (lb_ t b f)) (lb_ t b f) = low (foldT a (x * b + p * t) b / ((Int.gcd (foldT a (x * b + p * t) b) b : Nat) : Int) * f) (b / ((Int.gcd (foldT a (x * b + p * t) b) b : Nat) : Int)) := by
  have g0 := gcd_pos (t := t * f) hb
  obtain ⟨m1, m2⟩ := later_mul (t := t) (b := b) (f := f)
  obtain ⟨s1, s2⟩ := axis_scale (a := a) (x := x) (p := p) (t := t) hb hf
  have h := fold_scale g0 hf s1 s2
  have g1 := gcd_pos (t := foldT a (x * b + p * t) b) hb
  rw [← low_scale (u := foldT (a * f) _ _) g0, h, m2, ← low_scale (u := _ / _ * f) g1]
  congr 1
  · rw [← Int.mul_assoc, Int.mul_ediv_cancel' (Int.gcd_dvd_left ..), Int.mul_comm]
  · rw [Int.mul_ediv_cancel' (Int.gcd_dvd_right ..)]
theorem ways_scale {a c x y p q t b f : Int} (hb : 0 < b) (hf : 0 < f) : waysD (a * f) (c * f) (x * f) (y * f) p q (lt_ t b f) (lb_ t b f) = waysD a c x y p q t b := by
  have g0 := gcd_pos (t := t * f) hb
  obtain ⟨s1, s2⟩ := axis_scale (a := a) (x := x) (p := p) (t := t) hb hf
  obtain ⟨s3, s4⟩ := axis_scale (a := c) (x := y) (p := q) (t := t) hb hf
  unfold waysD
  rw [way_scale g0 hf s1 s2, way_scale g0 hf s3 s4]
end M
namespace M
/-- a loop, by the places of what is walked -/
theorem forW_ix {chk : Sto → Prop} {step : D → Env → Sto → (Env → Sto → Prop) → Prop} {nx : Env → Sto → Prop} {I : Nat → Env → Sto → Prop} {L : List D} (hs : ∀ j d ρ S nx', L[j]? = some d → I j ρ S → (∀ ρ' S', I (j + 1) ρ' S' → nx' ρ' S') → chk S ∧ step d ρ S nx') (he : ∀ ρ S, I L.length ρ S → chk S ∧ nx ρ S) :
    ∀ (items : List D) (i : Nat) (ρ : Env) (S : Sto), items = L.drop i → i ≤ L.length → I i ρ S → forW chk step nx items ρ S
  | [], i, ρ, S, h, hi, hI => by
    have : i = L.length := by
      have := congrArg List.length h
      simp at this
      omega
    subst this
    exact he ρ S hI
  | d :: ds, i, ρ, S, h, hi, hI => by
    have hl : i < L.length := by
      have := congrArg List.length h
      simp at this
      omega
    have e1 : L.drop i = L[i] :: L.drop (i + 1) := List.drop_eq_getElem_cons hl
    rw [e1] at h
    injection h with h1 h2
    exact hs i d ρ S _ (by rw [h1]; exact List.getElem?_eq_getElem hl) hI fun ρ' S' h' => forW_ix hs he ds (i + 1) ρ' S' h2 (by omega) h'
theorem rng_at {lo : Int} {n j : Nat} {d : D} (h : ((List.range n).map fun i => D.int (lo + (i : Nat)))[j]? = some d) : d = .int (lo + (j : Nat)) ∧ j < n := by
  rw [List.getElem?_map] at h
  by_cases hj : j < n
  · rw [List.getElem?_range hj] at h
    injection h with h
    exact ⟨h.symm, hj⟩
  · rw [List.getElem?_eq_none (by simp; omega)] at h
    cases h
theorem rng_ok {chk : Sto → Prop} {step : D → Env → Sto → (Env → Sto → Prop) → Prop} {nx : Env → Sto → Prop} {lo hi : Int} {ρ : Env} {S : Sto} (I : Nat → Env → Sto → Prop) (h0 : I 0 ρ S) (hs : ∀ (j : Nat) ρ S nx', lo + j < hi → I j ρ S → (∀ ρ' S', I (j + 1) ρ' S' → nx' ρ' S') → chk S ∧ step (.int (lo + (j : Nat))) ρ S nx') (he : ∀ ρ S, I (hi - lo).toNat ρ S → chk S ∧ nx ρ S) : forW chk step nx ((List.range (hi - lo).toNat).map fun i => D.int (lo + (i : Nat))) ρ S :=
  forW_ix (L := (List.range (hi - lo).toNat).map fun i => D.int (lo + (i : Nat))) (fun j d ρ S nx' hd hI hn => by
    obtain ⟨rfl, hj⟩ := rng_at hd
    exact hs j ρ S nx' (by omega) hI hn) (fun ρ S h => he ρ S (by simpa using h)) _ 0 ρ S rfl (by simp) h0
theorem eqLB_iff {eq : D → D → Bool} : ∀ {xs ys : List D}, (∀ x ∈ xs, ∀ y ∈ ys, (eq x y = true ↔ x = y)) → (eqLB eq xs ys = true ↔ xs = ys)
  | [], [], _ => ⟨fun _ => rfl, fun _ => rfl⟩
  | [], _ :: _, _ => ⟨fun h => (by cases h), fun h => (by cases h)⟩
  | _ :: _, [], _ => ⟨fun h => (by cases h), fun h => (by cases h)⟩
  | x :: xs, y :: ys, h => by
    show (eq x y && eqLB eq xs ys) = true ↔ _
    rw [Bool.and_eq_true_iff, h x (by simp) y (by simp), eqLB_iff fun a ha b hb => h a (by simp [ha]) b (by simp [hb]), List.cons.injEq]
theorem IntT.eq_iff {S : Sto} : ∀ {n : Nat} {u v : D}, IntT n u → IntT n v → (eqB n S u v = true ↔ u = v)
  | 0, _, _, h, _ => False.elim h
  | n + 1, u, v, h, k => by
    cases u with
    | int i =>
      cases v with
      | int j => show (i == j) = true ↔ _; simp
      | tup ys => exact ⟨fun h => (by cases h), fun h => (by cases h)⟩
      | _ => exact False.elim k
    | tup xs =>
      cases v with
      | int j => exact ⟨fun h => (by cases h), fun h => (by cases h)⟩
      | tup ys =>
        show eqLB (eqB n S) xs ys = true ↔ _
        rw [eqLB_iff fun a ha b hb => (h a ha).eq_iff (k b hb)]
        exact ⟨fun h => by rw [h], fun h => by injection h⟩
      | _ => exact False.elim k
    | _ => exact False.elim h
theorem ne_int' {u v : D} {S : Sto} {Q : Bool → Prop} (hu : IntT 8 u) (hv : IntT 8 v) (k1 : u = v → Q false) (k2 : u ≠ v → Q true) : cmpD .ne u v S Q := by
  have k : fit dep S u = true ∧ fit dep S v = true ∧ Q (!eqB dep S u v) := ⟨hu.fit, hv.fit, by
    by_cases h : u = v
    · rw [(hu.eq_iff hv).mpr h]; exact k1 h
    · rw [Bool.eq_false_iff.mpr fun z => h ((hu.eq_iff hv).mp z)]; exact k2 h⟩
  cases u <;> first | exact k | exact False.elim hu
theorem eq_lists {S : Sto} {f g : Nat} {is : List Int} {Q : Bool → Prop} (e : S f = some (.lst (is.map .int))) (e' : S g = some (.lst (is.map .int))) (k : Q true) : cmpD .eq (.ref f) (.ref g) S Q := by
  have ft : ∀ r : Nat, S r = some (.lst (is.map .int)) → fit dep S (.ref r) = true := fun r er => by
    show optB (lstAt S r) _ = true
    rw [lstAt_eq er]
    exact fitL_of fun y hy => by obtain ⟨i, _, rfl⟩ := List.mem_map.mp hy; rfl
  refine ⟨ft f e, ft g e', ?_⟩
  have : eqB dep S (.ref f) (.ref g) = true := by
    show eqO _ (lstAt S f) (lsOf S (.ref g)) = true
    rw [lstAt_eq e, lsOf_ref e']
    exact eqLB_refl fun y hy => by
      obtain ⟨i, _, rfl⟩ := List.mem_map.mp hy
      show (i == i) = true
      simp
  rw [this]; exact k
end M
namespace M
theorem bezI {step : Env → Sto → (Env → Sto → Prop) → Prop} {S : Sto} {mk : Nat → Nat → Int → Int → Option D → Option D → Env} (Inv : Nat → Nat → Int → Int → Prop) (hz : ∀ u b f o6 o7 nx, Inv u 0 b f → step (mk u 0 b f o6 o7) S nx)
    (hs : ∀ u v b f o6 o7 nx, 0 < v → Inv u v b f → (∀ o6 o7, nx (mk v (u % v) f (b - ((u / v : Nat) : Int) * f) o6 o7) S) → step (mk u v b f o6 o7) S nx) (hi : ∀ u v b f, 0 < v → Inv u v b f → Inv v (u % v) f (b - ((u / v : Nat) : Int) * f)) :
    ∀ (n u v : Nat) (b f : Int), v ≤ n → Inv u v b f → ∃ k, ∀ o6 o7, whileN step k (mk u v b f o6 o7) S
  | n, u, 0, b, f, _, hI => ⟨1, fun o6 o7 => hz u b f o6 o7 _ hI⟩
  | 0, u, v + 1, _, _, hv, _ => absurd hv (by omega)
  | n + 1, u, v + 1, b, f, hv, hI => by
    have hl := Nat.mod_lt u (y := v + 1) (by omega)
    obtain ⟨k, hk⟩ := bezI Inv hz hs hi n (v + 1) (u % (v + 1)) f (b - ((u / (v + 1) : Nat) : Int) * f) (by omega) (hi u (v + 1) b f (by omega) hI)
    exact ⟨k + 1, fun o6 o7 => hs u (v + 1) b f o6 o7 _ (by omega) hI hk⟩
/-- what holds in the loop of inverse -/
structure Bz (t : Int) (m u v : Nat) (b f : Int) : Prop where
  vu : v < u
  um : u ≤ m
  bnd : b.natAbs * v + f.natAbs * u ≤ m
  db : (m : Int) ∣ b * t - u
  df : (m : Int) ∣ f * t - v
  g : Nat.gcd u v = Int.gcd t m
theorem Bz.step {t : Int} {m u v : Nat} {b f : Int} (hv : 0 < v) (h : Bz t m u v b f) : Bz t m v (u % v) f (b - ((u / v : Nat) : Int) * f) := by
  obtain ⟨vu, um, bnd, db, df, g⟩ := h
  have hl := Nat.mod_lt u (y := v) hv
  have hd := Nat.div_add_mod u v
  refine ⟨hl, by omega, ?_, df, ?_, ?_⟩
  · refine Nat.le_trans ?_ bnd
    generalize u % v = r at *
    generalize u / v = q at *
    have h1 : (b - (q : Int) * f).natAbs ≤ b.natAbs + q * f.natAbs := by
      have := Int.natAbs_sub_le b ((q : Int) * f)
      rwa [Int.natAbs_mul, Int.natAbs_natCast] at this
    have h2 := Nat.mul_le_mul_right v h1
    have e : f.natAbs * u = q * f.natAbs * v + f.natAbs * r := by
      rw [← hd, Nat.mul_add, Nat.mul_comm q, Nat.mul_assoc, Nat.mul_comm q]
    rw [Nat.add_mul] at h2
    omega
  · have e : (b - ((u / v : Nat) : Int) * f) * t - ((u % v : Nat) : Int) = (b * t - u) - ((u / v : Nat) : Int) * (f * t - v) := by
      have : (u : Int) = v * ((u / v : Nat) : Int) + ((u % v : Nat) : Int) := by rw [← Int.natCast_mul, ← Int.natCast_add, hd]
      generalize ((u / v : Nat) : Int) = q at *
      generalize ((u % v : Nat) : Int) = r at *
      rw [this, Int.sub_mul, Int.mul_sub, Int.mul_assoc, Int.mul_comm q v]
      omega
    rw [e]
    exact Int.dvd_sub db (Int.dvd_trans df (Int.dvd_mul_left ..))
  · rw [← g, Nat.gcd_comm u v, Nat.gcd_rec v u, Nat.gcd_comm]
theorem bz_start {t : Int} {m : Nat} (hm : 0 < m) : Bz t m m (t % (m : Int)).toNat 0 1 := by
  have h0 := Int.emod_nonneg t (show (m : Int) ≠ 0 by omega)
  have h1 := Int.emod_lt_of_pos t (show (0 : Int) < m by omega)
  refine ⟨by omega, Nat.le_refl _, by simp, ?_, ?_, ?_⟩
  · rw [Int.zero_mul, Int.zero_sub]
    exact Int.dvd_neg.mpr (Int.dvd_refl _)
  · rw [Int.one_mul, Int.toNat_of_nonneg h0]
    exact ⟨t / m, by have := Int.mul_ediv_add_emod t m; omega⟩
  · have e : ((m : Nat) : Int).gcd (t % m) = Int.gcd t m := by rw [Int.emod_def, Int.gcd_sub_mul_left_right, Int.gcd_comm]
    rw [← e]
    show _ = Nat.gcd _ _
    rw [Int.natAbs_natCast]
    congr 1
    omega
theorem bz_end {t : Int} {m u : Nat} {b f : Int} (h : Bz t m u 0 b f) (hg : Int.gcd t m = 1) : (m : Int) ∣ b % (m : Int) * t - 1 := by
  have hu : u = 1 := by
    have := h.g
    rw [Nat.gcd_zero_right, hg] at this
    exact this
  have hb := h.db
  rw [hu] at hb
  have e : b % (m : Int) * t - 1 = (b * t - (1 : Nat)) - (m : Int) * (b / m * t) := by
    rw [Int.emod_def, Int.sub_mul, Int.mul_assoc]
    omega
  rw [e]
  exact Int.dvd_sub hb (Int.dvd_mul_right ..)
theorem bz_f {t : Int} {m u v : Nat} {b f : Int} (h : Bz t m u v b f) : f.natAbs ≤ m := by
  have := h.bnd
  have h2 : f.natAbs * 1 ≤ f.natAbs * u := Nat.mul_le_mul_left _ (by have := h.vu; omega)
  omega
/-- inverse(number, modulus) -/
def spInv : Sp := fun ds S Q _ => ∃ t m, ds = [.int t, .int m] ∧ 0 < m ∧ Bd 3000 m ∧ ∀ d : Int, 0 ≤ d → d < m → (Int.gcd t m = 1 → m ∣ d * t - 1) → Q (.int d) S
theorem gcd_div {f m : Int} (hm : 0 < m) : Int.gcd (f / ((Int.gcd f m : Nat) : Int)) (m / ((Int.gcd f m : Nat) : Int)) = 1 := by
  have h := Int.gcd_mul_left (((Int.gcd f m : Nat) : Int)) (f / ((Int.gcd f m : Nat) : Int)) (m / ((Int.gcd f m : Nat) : Int))
  rw [Int.mul_ediv_cancel' (Int.gcd_dvd_left ..), Int.mul_ediv_cancel' (Int.gcd_dvd_right ..), Int.natAbs_natCast] at h
  have g0' : 0 < Int.gcd f m := by have := gcd_pos (t := f) hm; omega
  have : Int.gcd f m * 1 = Int.gcd f m * Int.gcd (f / ((Int.gcd f m : Nat) : Int)) (m / ((Int.gcd f m : Nat) : Int)) := by omega
  exact (Nat.eq_of_mul_eq_mul_left g0' this).symm
/-- the solution by an inverse -/
theorem sol_of {A B R d : Int} (hB : 0 < B) (h : B ∣ d * A - 1) : B ∣ A * (R * d % B) - R := by
  have e : A * (R * d % B) - R = R * (d * A - 1) - B * (A * (R * d / B)) := by
    rw [Int.emod_def, Int.mul_sub, Int.mul_sub, Int.mul_one, Int.mul_comm A (R * d), Int.mul_assoc, ← Int.mul_assoc A B, Int.mul_comm A B, Int.mul_assoc B]
    omega
  rw [e]
  exact Int.dvd_sub (Int.dvd_trans h (Int.dvd_mul_left ..)) (Int.dvd_mul_right ..)
theorem sol_uniq {A B R l r : Int} (hg : Int.gcd A B = 1) (h1 : B ∣ A * l - R) (h2 : B ∣ A * r - R) : B ∣ l - r := by
  have h : B ∣ A * (l - r) := by
    have := Int.dvd_sub h1 h2
    have e : A * l - R - (A * r - R) = A * (l - r) := by rw [Int.mul_sub]; omega
    rwa [e] at this
  rw [Int.mul_comm, ← Int.dvd_mul_gcd_iff_dvd_mul, Int.gcd_comm, hg] at h
  simpa using h
/-- least_solution(factor, rest, modulus) -/
def spLeast : Sp := fun ds S Q _ => ∃ f r m, ds = [.int f, .int r, .int m] ∧ 0 < m ∧ Bd 3000 m ∧ Bd 3500 r ∧ (r % ((Int.gcd f m : Nat) : Int) ≠ 0 → Q .non S) ∧ (r % ((Int.gcd f m : Nat) : Int) = 0 → ∀ l : Int, 0 ≤ l → l < m / ((Int.gcd f m : Nat) : Int) → m / ((Int.gcd f m : Nat) : Int) ∣ f / ((Int.gcd f m : Nat) : Int) * l - r / ((Int.gcd f m : Nat) : Int) → Q (.tup [.int l, .int (m / ((Int.gcd f m : Nat) : Int))]) S)
def sg (d x : Int) : Int := if 0 < d then x else -x
def fst (d x s : Int) : Int := if 0 < d then x / s + 1 else -((-x) / s) - 1
def av (d : Int) : Int := (d.natAbs : Int)
def lnT (v o s f : Int) : D := .tup [.int v, .int o, .int s, .int f]
def lnD (x d s : Int) : D := if d = 0 then .non else lnT (av d) (sg d x % s) s (fst d x s)
def spLine : Sp := fun ds S Q _ => ∃ x d s, ds = [.int x, .int d, .int s] ∧ 0 < s ∧ Bd 1500 s ∧ Q (lnD x d s) S
def linesD (a c x y p q : Int) : D := .tup [lnD x p a, lnD y q c]
def spLines : Sp := fun ds S Q _ => ∃ a c x y p q, ds = [prD a c, shD x y p q] ∧ 0 < a ∧ 0 < c ∧ Bd 1500 a ∧ Bd 1500 c ∧ Q (linesD a c x y p q) S
/-- how many hits a line has -/
def Nn (x d s t b : Int) : Int := if d = 0 ∨ t ≤ 0 then 0 else (av d * t + sg d x % s * b) / (s * b)
def spCnt : Sp := fun ds S Q _ => ∃ x d s t b, ds = [lnD x d s, prD t b] ∧ 0 < s ∧ 0 < b ∧ Bd 1500 s ∧ Bd 1500 d ∧ Bd 1500 t ∧ Bd 1500 b ∧ Q (.int (Nn x d s t b)) S
theorem av_bd {n : Nat} {d : Int} (h : Bd n d) : Bd n (av d) := by
  show (av d).natAbs < 2 ^ n
  unfold av
  rw [Int.natAbs_natCast]; exact h
def kF (p q a c : Int) : Int := av q * a
def kM (p q a c : Int) : Int := av p * c
def kRs (x y p q a c : Int) : Int := av q * (sg p x % a) - av p * (sg q y % c)
def kG (p q a c : Int) : Int := (Int.gcd (kF p q a c) (kM p q a c) : Nat)
def IsCor (x y p q a c l : Int) : Prop := kM p q a c / kG p q a c ∣ kF p q a c / kG p q a c * l - kRs x y p q a c / kG p q a c
/-- the number of those of the class of z in 1 .. n -/
def FF (n z b : Int) : Int := (n - z) / b - (-z) / b
/-- z: how many corners there are among n hits of the first line -/
structure Cnr (x y p q a c n z : Int) : Prop where
  no : p = 0 ∨ q = 0 → z = 0
  rn : p ≠ 0 → q ≠ 0 → kRs x y p q a c % kG p q a c ≠ 0 → z = 0
  ry : p ≠ 0 → q ≠ 0 → kRs x y p q a c % kG p q a c = 0 → (n = 0 ∧ z = 0) ∨ ∃ l, IsCor x y p q a c l ∧ z = FF n l (kM p q a c / kG p q a c)
theorem av_pos {d : Int} (h : d ≠ 0) : 0 < av d := by unfold av; omega
/-- the corners of two lines -/
def spCorn : Sp := fun ds S Q _ => ∃ a c x y p q, ds = [linesD a c x y p q] ∧ 0 < a ∧ 0 < c ∧ Bd 1500 a ∧ Bd 1500 c ∧ Bd 1500 p ∧ Bd 1500 q ∧ (p = 0 ∨ q = 0 → Q .non S) ∧ (p ≠ 0 → q ≠ 0 → kRs x y p q a c % kG p q a c ≠ 0 → Q .non S) ∧ (p ≠ 0 → q ≠ 0 → kRs x y p q a c % kG p q a c = 0 → ∀ l, 0 < l → l ≤ kM p q a c / kG p q a c → IsCor x y p q a c l → Q (prD l (kM p q a c / kG p q a c)) S)
def spCc : Sp := fun ds S Q _ => ∃ n : Int, 0 ≤ n ∧ ((ds = [.non, .int n] ∧ Q (.int 0) S) ∨ ∃ l b, ds = [prD l b, .int n] ∧ 0 < l ∧ l ≤ b ∧ Bd 3000 b ∧ Q (.int (FF n l b)) S)
theorem nn_nonneg {x d s t b : Int} (hs : 0 < s) (hb : 0 < b) : 0 ≤ Nn x d s t b := by
  unfold Nn
  split
  · omega
  · rename_i h
    refine Int.ediv_nonneg ?_ (Int.le_of_lt (mulp hs hb))
    have h1 := mulp (av_pos fun z => h (.inl z)) (show 0 < t by omega)
    have h2 := Int.mul_nonneg (Int.emod_nonneg (sg d x) (show s ≠ 0 by omega)) (Int.le_of_lt hb)
    omega
/-- a table, a shot, a time: all in bounds -/
def spCo : Sp := fun ds S Q _ => ∃ a c x y p q t b, ds = [linesD a c x y p q, prD t b] ∧ Sh a c x y p q t b ∧ ∀ z, Cnr x y p q a c (Nn x p a t b) z → Q (.int (Nn x p a t b + Nn y q c t b - z)) S
def spHits : Sp := fun ds S Q _ => ∃ a c x y p q t b, ds = [prD a c, shD x y p q, prD t b] ∧ On a c x y p q t b ∧ ∀ z S', Ext S S' → Cnr x y p q a c (Nn x p a t b) z → Q (.int (Nn x p a t b + Nn y q c t b - z)) S'
def isL (ch : Nat) : Prop := ch = 87 ∨ ch = 69 ∨ ch = 83 ∨ ch = 78
def spCush : Sp := fun ds S Q _ => ∃ ch, ds = [.str [ch]] ∧ isL ch ∧ Q (.bl true) S
/-- the letter of the first hit is letters[f % 2] -/
def spLet : Sp := fun ds S Q _ => ∃ (v o s f n : Int) (g h : Nat), ds = [lnT v o s f, .str [g, h], .int n] ∧ Q (.str [if (f + n - 1) % 2 = 0 then g else h]) S
/-- how many of n hits in a row, the first one with index f, have even indexes (e) or odd ones -/
def lc (n f : Int) (e : Bool) : Int := if n = 0 then 0 else if (f % 2 = 0) = (e = true) then (n + 1) / 2 else n / 2
def spLc : Sp := fun ds S Q _ => ∃ (x d s t b : Int) (g h : Nat) (e : Bool), ds = [lnD x d s, .str [g, h], .str [if e then g else h], prD t b] ∧ g ≠ h ∧ 0 < s ∧ 0 < b ∧ Bd 1500 s ∧ Bd 1500 d ∧ Bd 1500 t ∧ Bd 1500 b ∧ Q (.int (lc (Nn x d s t b) (fst d x s) e)) S
theorem eq_ss {x y : Tx} {S : Sto} {Q : Bool → Prop} : cmpD .eq (.str x) (.str y) S Q = Q (x == y) := rfl
theorem ne_ss {x y : Tx} {S : Sto} {Q : Bool → Prop} : cmpD .ne (.str x) (.str y) S Q = Q (!(x == y)) := rfl
def cuN (a c x y p q t b : Int) (ch : Nat) : Int := if ch = 87 then lc (Nn x p a t b) (fst p x a) true else if ch = 69 then lc (Nn x p a t b) (fst p x a) false else if ch = 83 then lc (Nn y q c t b) (fst q y c) true else lc (Nn y q c t b) (fst q y c) false
def letD : D := .tup [.str [87, 69], .str [83, 78]]
def spCu : Sp := fun ds S Q _ => ∃ a c x y p q t b ch, ds = [linesD a c x y p q, .str [ch], prD t b] ∧ isL ch ∧ Sh a c x y p q t b ∧ Q (.int (cuN a c x y p q t b ch)) S
def spCount : Sp := fun ds S Q _ => ∃ a c x y p q t b ch, ds = [prD a c, shD x y p q, .str [ch], prD t b] ∧ isL ch ∧ On a c x y p q t b ∧ ∀ S', Ext S S' → Q (.int (cuN a c x y p q t b ch)) S'
end M
namespace M
/-! ### sums of whole parts -/
def sumTo (f : Nat → Int) : Nat → Int
  | 0 => 0
  | n + 1 => sumTo f n + f n
theorem sumTo_ext {f g : Nat → Int} : ∀ n, (∀ k, k < n → f k = g k) → sumTo f n = sumTo g n
  | 0, _ => rfl
  | n + 1, h => by
    show sumTo f n + f n = sumTo g n + g n
    rw [sumTo_ext n fun k hk => h k (by omega), h n (by omega)]
theorem sumTo_add {f g : Nat → Int} : ∀ n, sumTo (fun k => f k + g k) n = sumTo f n + sumTo g n
  | 0 => rfl
  | n + 1 => by
    show sumTo (fun k => f k + g k) n + (f n + g n) = (sumTo f n + f n) + (sumTo g n + g n)
    rw [sumTo_add n]; omega
theorem sumTo_sub {f g : Nat → Int} : ∀ n, sumTo (fun k => f k - g k) n = sumTo f n - sumTo g n
  | 0 => rfl
  | n + 1 => by
    show sumTo (fun k => f k - g k) n + (f n - g n) = (sumTo f n + f n) - (sumTo g n + g n)
    rw [sumTo_sub n]; omega
theorem sumTo_one {c : Int} : ∀ n : Nat, sumTo (fun _ => c) n = n * c
  | 0 => by simp [sumTo]
  | n + 1 => by
    show sumTo (fun _ => c) n + c = _
    rw [sumTo_one n, Int.natCast_add]; grind
/-- from the front -/
theorem sumTo_front {f : Nat → Int} : ∀ n, sumTo f (n + 1) = f 0 + sumTo (fun k => f (k + 1)) n
  | 0 => by show 0 + f 0 = f 0 + 0; omega
  | n + 1 => by
    show sumTo f (n + 1) + f (n + 1) = f 0 + (sumTo (fun k => f (k + 1)) n + f (n + 1))
    rw [sumTo_front n]; omega
theorem sumTo_rev {f : Nat → Int} : ∀ n, sumTo f n = sumTo (fun k => f (n - 1 - k)) n
  | 0 => rfl
  | n + 1 => by
    rw [sumTo_front (f := fun k => f (n + 1 - 1 - k))]
    have e : sumTo (fun k => f (n + 1 - 1 - (k + 1))) n = sumTo (fun k => f (n - 1 - k)) n := sumTo_ext n fun k hk => by
      congr 1; omega
    show sumTo f n + f n = f (n + 1 - 1 - 0) + _
    rw [e, ← sumTo_rev n]
    have : n + 1 - 1 - 0 = n := by omega
    rw [this]; omega
theorem sumTo_nonneg {f : Nat → Int} : ∀ n, (∀ k, k < n → 0 ≤ f k) → 0 ≤ sumTo f n
  | 0, _ => by show (0 : Int) ≤ 0; decide
  | n + 1, h => by
    have h1 := sumTo_nonneg n fun k hk => h k (by omega)
    have h2 := h n (by omega)
    show 0 ≤ sumTo f n + f n
    omega
/-- the whole parts of (a k + b) / m for k below n -/
def FS (n : Nat) (m a b : Int) : Int := sumTo (fun k => (a * k + b) / m) n
/-- of z, by its rows -/
def US (m a z : Int) : Int := sumTo (fun j => (z - m * ((j : Int) + 1)) / a) (z / m).toNat
theorem us_step {m a z : Int} (ha : 0 < a) (hm : a < m) (hz : 0 ≤ z) : US m a (z + a) = z / m + US m a z := by
  unfold US
  have m0 : 0 < m := by omega
  have q0 : 0 ≤ z / m := Int.ediv_nonneg hz (Int.le_of_lt m0)
  have e1 : z % m + m * (z / m) = z := Int.emod_add_mul_ediv z m
  have r0 := Int.emod_nonneg z (show m ≠ 0 by omega)
  have r1 := Int.emod_lt_of_pos z m0
  have term : ∀ j : Nat, (z + a - m * ((j : Int) + 1)) / a = 1 + (z - m * ((j : Int) + 1)) / a := fun j => by
    have : z + a - m * ((j : Int) + 1) = (z - m * ((j : Int) + 1)) + a * 1 := by omega
    rw [this, Int.add_mul_ediv_left _ _ (by omega)]; omega
  have body : ∀ n : Nat, sumTo (fun j => (z + a - m * ((j : Int) + 1)) / a) n = n + sumTo (fun j => (z - m * ((j : Int) + 1)) / a) n := fun n => by
    rw [sumTo_ext n fun j _ => term j, sumTo_add, sumTo_one]; omega
  obtain ⟨q, hq⟩ : ∃ q : Nat, z / m = q := ⟨(z / m).toNat, by omega⟩
  by_cases c : z % m + a < m
  · have e2 : (z + a) / m = q := by
      have : z + a = (z % m + a) + m * (q : Int) := by rw [← hq]; omega
      rw [this, Int.add_mul_ediv_left _ _ (by omega), Int.ediv_eq_zero_of_lt (by omega) c]; omega
    rw [e2, hq, body]
    simp
  · have e2 : (z + a) / m = ((q + 1 : Nat) : Int) := by
      have : z + a = (z % m + a - m) + m * ((q : Int) + 1) := by rw [← hq]; grind
      rw [this, Int.add_mul_ediv_left _ _ (by omega), Int.ediv_eq_zero_of_lt (by omega) (by omega)]; omega
    rw [e2, hq]
    show sumTo _ (q + 1) = _
    rw [body]
    have last : (z - m * ((q : Int) + 1)) / a = -1 := by
      have e3 : z - m * ((q : Int) + 1) = (z % m + a - m) + a * (-1) := by rw [← hq]; grind
      rw [e3, Int.add_mul_ediv_left _ _ (by omega), Int.ediv_eq_zero_of_lt (by omega) (by omega)]; omega
    show ((q + 1 : Nat) : Int) + (sumTo (fun j => (z - m * ((j : Int) + 1)) / a) q + (z - m * ((q : Int) + 1)) / a) = _
    rw [last]
    simp
    omega
/-- points below a line, by columns and by rows -/
theorem fs_us {m a b : Int} (ha : 0 < a) (hm : a < m) (b0 : 0 ≤ b) (b1 : b < m) : ∀ n : Nat, FS n m a b = US m a (a * n + b)
  | 0 => by
    unfold FS US
    have : (a * ((0 : Nat) : Int) + b) / m = 0 := by
      rw [Int.natCast_zero, Int.mul_zero, Int.zero_add]
      exact Int.ediv_eq_zero_of_lt b0 b1
    rw [this]; rfl
  | n + 1 => by
    have n0 : 0 ≤ a * (n : Int) := Int.mul_nonneg (Int.le_of_lt ha) (by omega)
    have h := us_step ha hm (z := a * n + b) (by omega)
    have e : a * ((n + 1 : Nat) : Int) + b = a * n + b + a := by rw [Int.natCast_add]; grind
    rw [e, h, ← fs_us ha hm b0 b1 n]
    show FS n m a b + (a * n + b) / m = _
    omega
theorem us_fs {m a z : Int} (ha : 0 < a) (hm : 0 < m) (hz : 0 ≤ z) : US m a z = FS (z / m).toNat a m (z % m) := by
  unfold US FS
  rw [sumTo_rev]
  refine sumTo_ext _ fun k hk => ?_
  have e1 : z % m + m * (z / m) = z := Int.emod_add_mul_ediv z m
  congr 1
  have e2 : (((z / m).toNat - 1 - k : Nat) : Int) + 1 = z / m - k := by omega
  rw [e2]
  have : m * (z / m - k) = m * (z / m) - m * k := by grind
  omega
/-- a turn of the loop -/
theorem fs_turn {n : Nat} {m a b : Int} (hm : 0 < m) : FS n m a b = ((n : Int) * (n - 1) / 2) * (a / m) + n * (b / m) + FS ((a % m * n + b % m) / m).toNat (a % m) m ((a % m * n + b % m) % m) := by
  have a0 := Int.emod_nonneg a (show m ≠ 0 by omega)
  have a1 := Int.emod_lt_of_pos a hm
  have b0 := Int.emod_nonneg b (show m ≠ 0 by omega)
  have b1 := Int.emod_lt_of_pos b hm
  have ea : a % m + m * (a / m) = a := Int.emod_add_mul_ediv a m
  have eb : b % m + m * (b / m) = b := Int.emod_add_mul_ediv b m
  have tri : ∀ n : Nat, sumTo (fun k => (k : Int)) n = (n : Int) * (n - 1) / 2 := by
    intro n
    induction n with
    | zero => rfl
    | succ n ih =>
      show sumTo (fun k => (k : Int)) n + (n : Int) = _
      rw [ih]
      have e : ((n + 1 : Nat) : Int) * (((n + 1 : Nat) : Int) - 1) = (n : Int) * (n - 1) + n * 2 := by rw [Int.natCast_add]; grind
      rw [e, Int.add_mul_ediv_right _ _ (by decide)]
  have mulc : ∀ (c : Int) (n : Nat), sumTo (fun k => (k : Int) * c) n = sumTo (fun k => (k : Int)) n * c := by
    intro c n
    induction n with
    | zero => simp [sumTo]
    | succ n ih =>
      show sumTo (fun k => (k : Int) * c) n + n * c = (sumTo (fun k => (k : Int)) n + n) * c
      rw [ih]; grind
  have low : FS n m a b = ((n : Int) * (n - 1) / 2) * (a / m) + n * (b / m) + FS n m (a % m) (b % m) := by
    unfold FS
    have term : ∀ k : Nat, (a * k + b) / m = (k * (a / m) + b / m) + (a % m * k + b % m) / m := fun k => by
      have : a * k + b = (a % m * k + b % m) + m * (k * (a / m) + b / m) := by
        have x1 : a * (k : Int) = a % m * k + m * (a / m) * k := by
          have : a * (k : Int) = (a % m + m * (a / m)) * k := by rw [ea]
          rw [this]; grind
        have x2 : b = b % m + m * (b / m) := eb.symm
        rw [x1]
        generalize b / m = d at *
        generalize b % m = e at *
        rw [x2]; grind
      rw [this, Int.add_mul_ediv_left _ _ (by omega)]; omega
    rw [sumTo_ext n fun k _ => term k, sumTo_add, sumTo_add, mulc, tri, sumTo_one]
  rw [low]
  congr 1
  by_cases z : a % m = 0
  · rw [z, Int.zero_mul, Int.zero_add, Int.ediv_eq_zero_of_lt b0 b1]
    show sumTo (fun k => (0 * (k : Int) + b % m) / m) n = 0
    rw [sumTo_ext (g := fun _ => 0) n fun k _ => by rw [Int.zero_mul, Int.zero_add, Int.ediv_eq_zero_of_lt b0 b1], sumTo_one]
    simp
  · have n0 : 0 ≤ a % m * (n : Int) := Int.mul_nonneg a0 (by omega)
    rw [fs_us (by omega) a1 b0 b1 n, us_fs (by omega) hm (by omega)]
end M
namespace M
def whole_sum_B0 : Ss := (.cons (.set (.v 4) (.bin .add (.bin .add (.v 4) (.bin .mul (.bin .fdiv (.bin .mul (.v 0) (.bin .sub (.v 0) (.k (.int 1)))) (.k (.int 2))) (.bin .fdiv (.v 2) (.v 1)))) (.bin .mul (.v 0) (.bin .fdiv (.v 3) (.v 1))))) (.cons (.set (.v 2) (.bin .mod (.v 2) (.v 1))) (.cons (.set (.v 5) (.bin .add (.bin .mul (.v 2) (.v 0)) (.bin .mod (.v 3) (.v 1)))) (.cons (.set (.v 0) (.bin .fdiv (.v 5) (.v 1))) (.cons (.set (.v 3) (.bin .mod (.v 5) (.v 1))) (.cons (.set (.v 6) (.v 1)) (.cons (.set (.v 1) (.v 2)) (.cons (.set (.v 2) (.v 6)) .nil))))))))
def whole_sum_S0 : St := (.while_ (.cmp .gt (.v 0) (.k (.int 0))) whole_sum_B0)
def whole_sum_A0 : Ss := (.cons (.ret (.v 4)) .nil)
def whole_sum_T : Ss := (.cons (.set (.v 4) (.k (.int 0))) (.cons whole_sum_S0 whole_sum_A0))
structure WsB (w n : Nat) (m a b : Int) : Prop where
  n0 : n < 2 ^ w
  m0 : 0 ≤ m
  m1 : Bd w m
  a1 : Bd w a
  b1 : Bd w b
  z : n ≠ 0 → 0 < m
theorem ws_next {w n : Nat} {m a b : Int} (hn : 0 < n) (h : WsB w n m a b) : WsB w ((a % m * n + b % m) / m).toNat (a % m) m ((a % m * n + b % m) % m) := by
  have m0 := h.z (by omega)
  have a0 := Int.emod_nonneg a (show m ≠ 0 by omega)
  have a1 := Int.emod_lt_of_pos a m0
  have b0 := Int.emod_nonneg b (show m ≠ 0 by omega)
  have b1 := Int.emod_lt_of_pos b m0
  have c0 := Int.emod_nonneg (a % m * n + b % m) (show m ≠ 0 by omega)
  have c1 := Int.emod_lt_of_pos (a % m * n + b % m) m0
  have n0 : 0 ≤ a % m * (n : Int) := Int.mul_nonneg a0 (by omega)
  have n1 : a % m * (n : Int) ≤ (m - 1) * n := Int.mul_le_mul_of_nonneg_right (by omega) (by omega)
  have d0 : 0 ≤ (a % m * n + b % m) / m := Int.ediv_nonneg (by omega) (Int.le_of_lt m0)
  have d1 : (a % m * n + b % m) / m ≤ n := by
    have e : (m - 1) * (n : Int) = n * m - n := by grind
    have : (a % m * n + b % m) / m < (n : Int) + 1 := Int.ediv_lt_of_lt_mul m0 (by
      have e2 : ((n : Int) + 1) * m = n * m + m := by grind
      omega)
    omega
  have w0 := h.n0
  refine ⟨by omega, a0, h.m1.le a0 (Int.le_of_lt a1), h.m1, h.m1.le c0 (Int.le_of_lt c1), fun hz => ?_⟩
  by_cases z : a % m = 0
  · exfalso
    rw [z, Int.zero_mul, Int.zero_add, Int.ediv_eq_zero_of_lt b0 b1] at hz
    exact hz rfl
  · omega
theorem ws_loop {step : Env → Sto → (Env → Sto → Prop) → Prop} {S : Sto} {mk : Nat → Int → Int → Int → Int → Option D → Option D → Env} {w : Nat} {T : Int} (hz : ∀ m a b o5 o6 nx, step (mk 0 m a b T o5 o6) S nx)
    (hs : ∀ n m a b f o5 o6 nx, 0 < n → WsB w n m a b → (∀ o5 o6, nx (mk ((a % m * n + b % m) / m).toNat (a % m) m ((a % m * n + b % m) % m) (f + ((n : Int) * (n - 1) / 2) * (a / m) + n * (b / m)) o5 o6) S) → step (mk n m a b f o5 o6) S nx) :
    ∀ (M n : Nat) (m a b f : Int), m ≤ M → WsB w n m a b → f + FS n m a b = T → ∃ k, ∀ o5 o6, whileN step k (mk n m a b f o5 o6) S := by
  intro M
  induction M with
  | zero =>
    intro n m a b f hm hB hT
    have : n = 0 := by
      rcases Nat.eq_zero_or_pos n with z | z
      · exact z
      · have := hB.z (by omega); omega
    subst this
    have : f = T := by rw [← hT]; show f = f + 0; omega
    subst this
    exact ⟨1, fun o5 o6 => hz m a b o5 o6 _⟩
  | succ M ih =>
    intro n m a b f hm hB hT
    rcases Nat.eq_zero_or_pos n with z | z
    · subst z
      have : f = T := by rw [← hT]; show f = f + 0; omega
      subst this
      exact ⟨1, fun o5 o6 => hz m a b o5 o6 _⟩
    · have m0 := hB.z (by omega)
      have a1 := Int.emod_lt_of_pos a m0
      obtain ⟨k, hk⟩ := ih _ _ _ _ (f + ((n : Int) * (n - 1) / 2) * (a / m) + n * (b / m)) (by omega) (ws_next z hB) (by
        rw [← hT, fs_turn (n := n) (a := a) (b := b) m0]; omega)
      exact ⟨k + 1, fun o5 o6 => hs n m a b f o5 o6 _ z hB hk⟩
def spWS : Sp := fun ds S Q _ => ∃ (n : Nat) (m a b : Int), ds = [.int (n : Int), .int m, .int a, .int b] ∧ 0 < m ∧ n < 2 ^ 1000 ∧ Bd 1000 m ∧ Bd 1000 a ∧ Bd 1000 b ∧ Q (.int (FS n m a b)) S
theorem txt_ws {G : Gm} {ds : List D} {S0 : Sto} {Q : VK} {X : XK} {b : Ss} (hb : b = whole_sum_T) (h : spWS ds S0 Q X) : ds.length = 4 ∧ wpSs G b (start 7 ds) S0 (kR Q X) := by
  obtain ⟨n, m, a, b0, rfl, m0, bn, bm, ba, bb, hq⟩ := h
  subst hb
  refine ⟨rfl, ?_⟩
  generalize hA : whole_sum_A0 = a0'
  simp only [whole_sum_T, whole_sum_S0, hA, wpSs, wpS, wpE, wpEs, wpC, wpAnd, wpOr, wpO, wpIt, opt_some, onI_int, onB_bl, onR_ref, arg1_one, look, joinO, start, List.map_cons, List.map_nil, List.length_cons, List.length_nil, List.replicate, List.cons_append, List.nil_append, List.append_nil, List.getElem?_cons_succ, List.getElem?_cons_zero, kcD, Nat.reduceAdd, Nat.reduceSub, br_t, br_f, br_n, asg, setAll, List.set_cons_succ, List.set_cons_zero, tgs, wipe, eq_ii, ne_ii, lt_ii, le_ii, gt_ii, ge_ii, is_n, isn_n, is_b, isn_b, add_ii, sub_ii, mul_ii, mod_ii, fdiv_ii, pow_ii, isNon, biD, intD_i, intD_b, esLen, beq_self_eq_true, ixD_tup, lsOf_new, seqD_tup, seqD_fl, slD_tup, bools, Option.map_some, true_and, ixD_fl, lenD_tup, lenD_fl, ix30, ix31, ix32, at20, at21, at30, at31, at32, List.filterMap_cons, List.filterMap_nil]
  have go := ws_loop (step := fun ρ1 S1 nx => wpE G (.cmp .gt (.v 0) (.k (.int 0))) ρ1 S1 (fun x S2 => onB x fun k => br k (wpSs G whole_sum_B0 ρ1 S2 ⟨nx, Q, fun ρ1 S1 => wpSs G whole_sum_A0 ρ1 S1 (kR Q X), fun k fs _ S' => X k fs S'⟩) (wpSs G whole_sum_A0 ρ1 S2 (kR Q X))) (fun c fs S2 => X c fs S2)) (S := S0) (mk := fun n m a b f o5 o6 => [some (.int (n : Int)), some (.int m), some (.int a), some (.int b), some (.int f), o5, o6]) (w := 1000) (T := FS n m a b0)
    (fun m a b o5 o6 nx => by
      simp only [whole_sum_A0, wpSs, wpS, wpE, wpEs, wpC, wpAnd, wpOr, wpO, wpIt, opt_some, onI_int, onB_bl, onR_ref, arg1_one, look, joinO, start, List.map_cons, List.map_nil, List.length_cons, List.length_nil, List.replicate, List.cons_append, List.nil_append, List.append_nil, List.getElem?_cons_succ, List.getElem?_cons_zero, kcD, Nat.reduceAdd, Nat.reduceSub, br_t, br_f, br_n, asg, setAll, List.set_cons_succ, List.set_cons_zero, tgs, wipe, eq_ii, ne_ii, lt_ii, le_ii, gt_ii, ge_ii, is_n, isn_n, is_b, isn_b, add_ii, sub_ii, mul_ii, mod_ii, fdiv_ii, pow_ii, isNon, biD, intD_i, intD_b, esLen, beq_self_eq_true, ixD_tup, lsOf_new, seqD_tup, seqD_fl, slD_tup, bools, Option.map_some, true_and, ixD_fl, lenD_tup, lenD_fl, ix30, ix31, ix32, at20, at21, at30, at31, at32, List.filterMap_cons, List.filterMap_nil]
      exact br_d (fun z => absurd z (by decide)) fun _ => hq)
    (fun n m a b f o5 o6 nx hn hB k => by
      have m0 := hB.z (by omega)
      have a0 := Int.emod_nonneg a (show m ≠ 0 by omega)
      have a1 := Int.emod_lt_of_pos a m0
      have bn : Bd 1000 (n : Int) := by
        show (n : Int).natAbs < 2 ^ 1000
        rw [Int.natAbs_natCast]; exact hB.n0
      have bn1 : Bd 1001 ((n : Int) - 1) := bn.sub (lt_two 8 (by decide) (by decide))
      have bnn : Bd 2001 ((n : Int) * (n - 1) / 2) := (bn.mul bn1).div
      simp only [whole_sum_B0, wpSs, wpS, wpE, wpEs, wpC, wpAnd, wpOr, wpO, wpIt, opt_some, onI_int, onB_bl, onR_ref, arg1_one, look, joinO, start, List.map_cons, List.map_nil, List.length_cons, List.length_nil, List.replicate, List.cons_append, List.nil_append, List.append_nil, List.getElem?_cons_succ, List.getElem?_cons_zero, kcD, Nat.reduceAdd, Nat.reduceSub, br_t, br_f, br_n, asg, setAll, List.set_cons_succ, List.set_cons_zero, tgs, wipe, eq_ii, ne_ii, lt_ii, le_ii, gt_ii, ge_ii, is_n, isn_n, is_b, isn_b, add_ii, sub_ii, mul_ii, mod_ii, fdiv_ii, pow_ii, isNon, biD, intD_i, intD_b, esLen, beq_self_eq_true, ixD_tup, lsOf_new, seqD_tup, seqD_fl, slD_tup, bools, Option.map_some, true_and, ixD_fl, lenD_tup, lenD_fl, ix30, ix31, ix32, at20, at21, at30, at31, at32, List.filterMap_cons, List.filterMap_nil, fdiv_pos m0, fmod_pos m0, fdiv_pos (show (0 : Int) < 2 by decide)]
      refine br_d (fun _ => ?_) fun z => absurd hn (by omega)
      refine ⟨bn.sm (by decide), bn1.sm (by decide), by decide, bd2.smd (by decide), by omega, hB.m1.smd (by decide), bnn.sm (by decide), hB.a1.div.sm (by decide), by omega, hB.m1.smd (by decide), bn.sm (by decide), hB.b1.div.sm (by decide), ?_⟩
      have e : ((((a % m * n + b % m) / m).toNat : Nat) : Int) = (a % m * n + b % m) / m := by
        have b0 := Int.emod_nonneg b (show m ≠ 0 by omega)
        have n0 : 0 ≤ a % m * (n : Int) := Int.mul_nonneg a0 (by omega)
        exact Int.toNat_of_nonneg (Int.ediv_nonneg (by omega) (Int.le_of_lt m0))
      rw [e] at k
      exact ⟨by omega, (hB.m1.le a0 (Int.le_of_lt a1)).sm (by decide), bn.sm (by decide), by omega, by omega, hB.m1.smd (by decide), by omega, k _ _⟩) m.toNat n m a b0 0 (by omega) ⟨bn, Int.le_of_lt m0, bm, ba, bb, fun _ => m0⟩ (by omega)
  obtain ⟨k, hk⟩ := go
  subst hA
  exact ⟨k, by have := hk none none; simpa only [wpSs, wpS, wpE, wpEs, wpC, wpAnd, wpOr, wpO, wpIt, opt_some, onI_int, onB_bl, onR_ref, arg1_one, look, joinO, start, List.map_cons, List.map_nil, List.length_cons, List.length_nil, List.replicate, List.cons_append, List.nil_append, List.append_nil, List.getElem?_cons_succ, List.getElem?_cons_zero, kcD, Nat.reduceAdd, Nat.reduceSub, br_t, br_f, br_n, asg, setAll, List.set_cons_succ, List.set_cons_zero, tgs, wipe, eq_ii, ne_ii, lt_ii, le_ii, gt_ii, ge_ii, is_n, isn_n, is_b, isn_b, add_ii, sub_ii, mul_ii, mod_ii, fdiv_ii, pow_ii, isNon, biD, intD_i, intD_b, esLen, beq_self_eq_true, ixD_tup, lsOf_new, seqD_tup, seqD_fl, slD_tup, bools, Option.map_some, true_and, ixD_fl, lenD_tup, lenD_fl, ix30, ix31, ix32, at20, at21, at30, at31, at32, List.filterMap_cons, List.filterMap_nil] using this⟩
end M
namespace M
def first_within_B0 : Ss := (.cons (.set (.v 6) (.bin .mul (.v 6) (.k (.int 2)))) .nil)
def first_within_S0 : St := (.while_ (.and (.cmp .lt (.v 6) (.v 5)) (.cons (.cmp .eq (.call 6 (.cons (.v 6) (.cons (.v 0) (.cons (.v 1) (.cons (.v 2) (.cons (.v 3) (.cons (.v 4) .nil))))))) (.k (.int 0))) .nil)) first_within_B0)
def first_within_B1 : Ss := (.cons (.set (.v 8) (.bin .fdiv (.bin .add (.v 7) (.v 5)) (.k (.int 2)))) (.cons (.if_ (.cmp .gt (.call 6 (.cons (.bin .add (.v 8) (.k (.int 1))) (.cons (.v 0) (.cons (.v 1) (.cons (.v 2) (.cons (.v 3) (.cons (.v 4) .nil))))))) (.k (.int 0))) (.cons (.set (.v 5) (.v 8)) .nil) (.cons (.set (.v 7) (.bin .add (.v 8) (.k (.int 1)))) .nil)) .nil))
def first_within_S1 : St := (.while_ (.cmp .lt (.v 7) (.v 5)) first_within_B1)
def first_within_A1 : Ss := (.cons (.ret (.v 7)) .nil)
def first_within_A0 : Ss := (.cons (.set (.v 7) (.bin .fdiv (.v 6) (.k (.int 2)))) (.cons (.set (.v 5) (.bi .min (.cons (.v 5) (.cons (.v 6) .nil)))) (.cons first_within_S1 first_within_A1)))
def first_within_T : Ss := (.cons (.set (.v 5) (.bin .fdiv (.v 0) (.call 1 (.cons (.v 1) (.cons (.v 0) .nil))))) (.cons (.if_ (.cmp .eq (.call 6 (.cons (.v 5) (.cons (.v 0) (.cons (.v 1) (.cons (.v 2) (.cons (.v 3) (.cons (.v 4) .nil))))))) (.k (.int 0))) (.cons (.ret (.k .non)) .nil) .nil) (.cons (.set (.v 6) (.k (.int 1))) (.cons first_within_S0 first_within_A0))))
/-- whether factor * k + start leaves lo to hi -/
def inR (m f s lo hi : Int) (k : Nat) : Bool := decide (lo ≤ (f * k + s) % m) && decide ((f * k + s) % m ≤ hi)
def cntR (m f s lo hi : Int) : Nat → Nat
  | 0 => 0
  | n + 1 => cntR m f s lo hi n + (if inR m f s lo hi n then 1 else 0)
theorem in_div {m f s lo hi : Int} (m0 : 0 < m) (l0 : 0 ≤ lo) (lh : lo ≤ hi) (h1 : hi < m) (k : Nat) : (f * k + (s - lo)) / m - (f * k + (s - hi - 1)) / m = ((if inR m f s lo hi k then 1 else 0 : Nat) : Int) := by
  have e := Int.emod_add_mul_ediv (f * k + s) m
  have r0 := Int.emod_nonneg (f * k + s) (show m ≠ 0 by omega)
  have r1 := Int.emod_lt_of_pos (f * k + s) m0
  have hin : inR m f s lo hi k = (decide (lo ≤ (f * k + s) % m) && decide ((f * k + s) % m ≤ hi)) := rfl
  rw [hin]
  generalize (f * (k : Int) + s) % m = r at *
  generalize (f * (k : Int) + s) / m = q at *
  have dz : ∀ d : Int, d ≤ hi + 1 → 0 ≤ d → (f * (k : Int) + (s - d)) / m = if d ≤ r then q else q - 1 := fun d hd d0 => by
    by_cases c : d ≤ r
    · rw [if_pos c, show f * (k : Int) + (s - d) = (r - d) + m * q by omega, Int.add_mul_ediv_left _ _ (by omega), Int.ediv_eq_zero_of_lt (by omega) (by omega)]; omega
    · rw [if_neg c, show f * (k : Int) + (s - d) = (r - d + m) + m * (q - 1) by grind, Int.add_mul_ediv_left _ _ (by omega), Int.ediv_eq_zero_of_lt (by omega) (by omega)]; omega
  rw [show s - hi - 1 = s - (hi + 1) by omega, dz lo (by omega) l0, dz (hi + 1) (by omega) (by omega)]
  by_cases c1 : lo ≤ r <;> by_cases c2 : r ≤ hi <;> simp only [c1, c2, decide_true, decide_false, Bool.and_true, Bool.and_false, Bool.true_and, Bool.false_and, if_true, if_false] <;> (try rw [if_pos (by omega)]) <;> (try rw [if_neg (by omega)]) <;> (first | omega | (simp; omega) | simp)
theorem fs_cnt {m f s lo hi : Int} (m0 : 0 < m) (l0 : 0 ≤ lo) (lh : lo ≤ hi) (h1 : hi < m) : ∀ n, FS n m f (s - lo) - FS n m f (s - hi - 1) = cntR m f s lo hi n
  | 0 => rfl
  | n + 1 => by
    have ih := fs_cnt (f := f) (s := s) m0 l0 lh h1 n
    have d := in_div (f := f) (s := s) m0 l0 lh h1 n
    show (FS n m f (s - lo) + (f * n + (s - lo)) / m) - (FS n m f (s - hi - 1) + (f * n + (s - hi - 1)) / m) = ((cntR m f s lo hi n + (if inR m f s lo hi n then 1 else 0) : Nat) : Int)
    rw [Int.natCast_add]
    omega
theorem in_none {m f s lo hi : Int} (h : hi < lo) (k : Nat) : inR m f s lo hi k = false := by
  unfold inR
  by_cases c : lo ≤ (f * k + s) % m
  · rw [decide_eq_false (show ¬ (f * k + s) % m ≤ hi by omega), Bool.and_false]
  · rw [decide_eq_false c, Bool.false_and]
theorem cnt_zero {m f s lo hi : Int} : ∀ {n}, (∀ k, k < n → inR m f s lo hi k = false) → cntR m f s lo hi n = 0
  | 0, _ => rfl
  | n + 1, h => by
    show cntR m f s lo hi n + (if inR m f s lo hi n then 1 else 0) = 0
    rw [cnt_zero fun k hk => h k (by omega), h n (by omega)]; rfl
theorem cnt_pos {m f s lo hi : Int} {k : Nat} (h : inR m f s lo hi k = true) : ∀ {n}, k < n → 0 < cntR m f s lo hi n
  | 0, hk => by omega
  | n + 1, hk => by
    show 0 < cntR m f s lo hi n + (if inR m f s lo hi n then 1 else 0)
    by_cases c : k < n
    · have := cnt_pos h c; omega
    · have : k = n := by omega
      subst this
      rw [if_pos h]; omega
theorem cnt_le {m f s lo hi : Int} : ∀ n, cntR m f s lo hi n ≤ n
  | 0 => Nat.le_refl _
  | n + 1 => by
    have := cnt_le (m := m) (f := f) (s := s) (lo := lo) (hi := hi) n
    show cntR m f s lo hi n + (if inR m f s lo hi n then 1 else 0) ≤ _
    split <;> omega
/-- the first one -/
def Fst (m f s lo hi : Int) (k0 : Nat) : Prop := inR m f s lo hi k0 = true ∧ ∀ k, k < k0 → inR m f s lo hi k = false
theorem cnt_fst {m f s lo hi : Int} {k0 : Nat} (h : Fst m f s lo hi k0) (n : Nat) : 0 < cntR m f s lo hi n ↔ k0 < n :=
  ⟨fun h1 => by
    by_cases c : k0 < n
    · exact c
    · rw [cnt_zero fun k hk => h.2 k (by omega)] at h1; omega, fun h1 => cnt_pos h.1 h1⟩
theorem fst_exists {m f s lo hi : Int} : ∀ n, (∀ k, k < n → inR m f s lo hi k = false) ∨ ∃ k0, k0 < n ∧ Fst m f s lo hi k0
  | 0 => Or.inl fun k hk => by omega
  | n + 1 => by
    rcases fst_exists (m := m) (f := f) (s := s) (lo := lo) (hi := hi) n with h | ⟨k0, h, h'⟩
    · by_cases c : inR m f s lo hi n = true
      · exact Or.inr ⟨n, by omega, c, h⟩
      · refine Or.inl fun k hk => ?_
        by_cases e : k = n
        · rw [e]; simpa using c
        · exact h k (by omega)
    · exact Or.inr ⟨k0, by omega, h'⟩
def spCW : Sp := fun ds S Q _ => ∃ (n : Nat) (m f s lo hi : Int), ds = [.int n, .int m, .int f, .int s, .int lo, .int hi] ∧ 0 < m ∧ n < 2 ^ 998 ∧ Bd 998 m ∧ Bd 998 f ∧ Bd 998 s ∧ 0 ≤ lo ∧ hi < m ∧ Q (.int (cntR m f s lo hi n : Nat)) S
theorem txt_cw {G : Gm} {ds : List D} {S0 : Sto} {Q : VK} {X : XK} {b : Ss} (hb : b = (.cons (.if_ (.cmp .gt (.v 4) (.v 5)) (.cons (.ret (.k (.int 0))) .nil) .nil) (.cons (.set (.v 6) (.call 5 (.cons (.v 0) (.cons (.v 1) (.cons (.v 2) (.cons (.bin .sub (.v 3) (.v 4)) .nil)))))) (.cons (.ret (.bin .sub (.v 6) (.call 5 (.cons (.v 0) (.cons (.v 1) (.cons (.v 2) (.cons (.bin .sub (.bin .sub (.v 3) (.v 5)) (.k (.int 1))) .nil))))))) .nil)))) (hw : G.fn 5 = spWS) (h : spCW ds S0 Q X) : ds.length = 6 ∧ wpSs G b (start 7 ds) S0 (kR Q X) := by
  obtain ⟨n, m, f, s, lo, hi, rfl, m0, bn, bm, bf, bs, l0, h1, hq⟩ := h
  subst hb
  refine ⟨rfl, ?_⟩
  simp only [wpSs, wpS, wpE, wpEs, wpC, wpAnd, wpOr, wpO, wpIt, opt_some, onI_int, onB_bl, onR_ref, arg1_one, look, joinO, start, List.map_cons, List.map_nil, List.length_cons, List.length_nil, List.replicate, List.cons_append, List.nil_append, List.append_nil, List.getElem?_cons_succ, List.getElem?_cons_zero, kcD, Nat.reduceAdd, Nat.reduceSub, br_t, br_f, br_n, asg, setAll, List.set_cons_succ, List.set_cons_zero, tgs, wipe, eq_ii, ne_ii, lt_ii, le_ii, gt_ii, ge_ii, is_n, isn_n, is_b, isn_b, add_ii, sub_ii, mul_ii, mod_ii, fdiv_ii, pow_ii, isNon, biD, intD_i, intD_b, esLen, beq_self_eq_true, ixD_tup, lsOf_new, seqD_tup, seqD_fl, slD_tup, bools, Option.map_some, true_and, ixD_fl, lenD_tup, lenD_fl, ix30, ix31, ix32, at20, at21, at30, at31, at32, List.filterMap_cons, List.filterMap_nil]
  refine br_d (fun z => ?_) fun z => ?_
  · rw [cnt_zero fun k _ => in_none (by omega) k] at hq
    exact hq
  · have lh : lo ≤ hi := by omega
    have blo : Bd 998 lo := bm.le l0 (by omega)
    have bhi : Bd 998 hi := bm.le (by omega) (by omega)
    have b1 : Bd 999 (s - lo) := bs.sub blo
    have b2 : Bd 999 (s - hi) := bs.sub bhi
    have b3 : Bd 1000 (s - hi - 1) := b2.sub (lt_two 8 (by decide) (by decide))
    have bn' : n < 2 ^ 1000 := lt_two 998 bn (by decide)
    refine call hw ⟨n, m, f, s - lo, rfl, m0, bn', bm.up (by decide), bf.up (by decide), b1.up (by decide), ?_⟩
    refine call hw ⟨n, m, f, s - hi - 1, rfl, m0, bn', bm.up (by decide), bf.up (by decide), b3, ?_⟩
    have e := fs_cnt (f := f) (s := s) m0 l0 lh h1 n
    show Q (.int (_ - _)) S0
    rw [e]
    exact hq
/-- as many numbers k as there are residues -/
def perM (m f : Int) : Nat := (m / (Int.gcd f m : Nat)).toNat
theorem gcdm_pos {f m : Int} (m0 : 0 < m) : 0 < (Int.gcd f m : Int) := by
  have : Int.gcd f m ≠ 0 := fun z => by
    have := (Int.gcd_eq_zero_iff.mp z).2
    omega
  omega
theorem perM_eq {m f : Int} (m0 : 0 < m) : m / (Int.gcd f m : Nat) = (perM m f : Int) := by
  have g0 := gcdm_pos (f := f) m0
  have : 0 ≤ m / (Int.gcd f m : Nat) := Int.ediv_nonneg (Int.le_of_lt m0) (by omega)
  unfold perM
  omega
theorem perM_pos {m f : Int} (m0 : 0 < m) : 0 < perM m f := by
  have g0 := gcdm_pos (f := f) m0
  have e := perM_eq (f := f) m0
  have : (Int.gcd f m : Int) ≤ m := Int.le_of_dvd m0 (Int.gcd_dvd_right f m)
  have h : 0 < m / (Int.gcd f m : Nat) := Int.ediv_pos_of_pos_of_dvd m0 (by omega) (Int.gcd_dvd_right f m)
  omega
theorem perM_le {m f : Int} (m0 : 0 < m) : (perM m f : Int) ≤ m := by
  have g0 := gcdm_pos (f := f) m0
  rw [← perM_eq m0]
  exact Int.ediv_le_self _ (Int.le_of_lt m0)
theorem bs0 {step : Env → Sto → (Env → Sto → Prop) → Prop} {S : Sto} {mk : Int → Int → Option D → Env} {k0 tp : Int} (hz : ∀ o nx, step (mk k0 k0 o) S nx)
    (hs : ∀ l m o nx, l < m → 0 ≤ l → l ≤ k0 → k0 ≤ m → m ≤ tp → (k0 ≤ (l + m) / 2 → ∀ o, nx (mk l ((l + m) / 2) o) S) → (¬ k0 ≤ (l + m) / 2 → ∀ o, nx (mk ((l + m) / 2 + 1) m o) S) → step (mk l m o) S nx) :
    ∀ (n : Nat) (l m : Int), m - l ≤ n → 0 ≤ l → l ≤ k0 → k0 ≤ m → m ≤ tp → ∃ k, ∀ o, whileN step k (mk l m o) S := by
  intro n
  induction n with
  | zero =>
    intro l m h1 h2 h3 h4 h5
    have e1 : l = k0 := by omega
    have e2 : m = k0 := by omega
    subst e1
    rw [e2]
    exact ⟨1, fun o => hz o _⟩
  | succ n ih =>
    intro l m h1 h2 h3 h4 h5
    by_cases c : l < m
    · by_cases d : k0 ≤ (l + m) / 2
      · obtain ⟨k, hk⟩ := ih l ((l + m) / 2) (by omega) h2 h3 d (by omega)
        exact ⟨k + 1, fun o => hs l m o _ c h2 h3 h4 h5 (fun _ => hk) fun z => absurd d z⟩
      · obtain ⟨k, hk⟩ := ih ((l + m) / 2 + 1) m (by omega) (by omega) (by omega) h4 h5
        exact ⟨k + 1, fun o => hs l m o _ c h2 h3 h4 h5 (fun z => absurd z d) fun _ => hk⟩
    · have e1 : l = k0 := by omega
      have e2 : m = k0 := by omega
      subst e1
      rw [e2]
      exact ⟨1, fun o => hz o _⟩
theorem dbl {step : Env → Sto → (Env → Sto → Prop) → Prop} {S : Sto} {mk : Nat → Env} {k0 most : Nat} (hk : k0 < most)
    (hz : ∀ b nx, 0 < b → b < 2 * most → (most ≤ b ∨ k0 < b) → b / 2 ≤ k0 → step (mk b) S nx)
    (hs : ∀ b nx, 0 < b → b < most → b ≤ k0 → nx (mk (b * 2)) S → step (mk b) S nx) :
    ∀ (n b : Nat), most - b ≤ n → 0 < b → b < 2 * most → b / 2 ≤ k0 → ∃ k, whileN step k (mk b) S := by
  intro n
  induction n with
  | zero => intro b h1 h2 h3 h4; exact ⟨1, hz b _ h2 h3 (Or.inl (by omega)) h4⟩
  | succ n ih =>
    intro b h1 h2 h3 h4
    by_cases c : b < most ∧ b ≤ k0
    · obtain ⟨k, h⟩ := ih (b * 2) (by omega) (by omega) (by omega) (by omega)
      exact ⟨k + 1, hs b _ h2 c.1 c.2 h⟩
    · exact ⟨1, hz b _ h2 h3 (by omega) h4⟩
theorem while_of {G : Gm} {c : Ex} {b : Ss} {ρ : Env} {S : Sto} {K : Kt} (h : ∃ n, whileN (fun ρ1 S1 nx => wpE G c ρ1 S1 (fun x S2 => onB x fun k => br k (wpSs G b ρ1 S2 { K with nx := nx, bk := K.nx }) (K.nx ρ1 S2)) (fun c fs S2 => K.xe c fs ρ1 S2)) n ρ S) : wpS G (.while_ c b) ρ S K := by
  simp only [wpS]
  exact h
def spFW : Sp := fun ds S Q _ => ∃ m f s lo hi : Int, ds = [.int m, .int f, .int s, .int lo, .int hi] ∧ 0 < m ∧ Bd 900 m ∧ Bd 900 f ∧ Bd 900 s ∧ 0 ≤ lo ∧ hi < m ∧ (∀ k0 : Nat, Fst m f s lo hi k0 → k0 < perM m f → Q (.int k0) S) ∧ ((∀ k, k < perM m f → inR m f s lo hi k = false) → Q .non S)
theorem txt_fw {G : Gm} {ds : List D} {S0 : Sto} {Q : VK} {X : XK} {b : Ss} (hb : b = first_within_T) (hg : G.fn 1 = spGcd) (hc : G.fn 6 = spCW) (h : spFW ds S0 Q X) : ds.length = 5 ∧ wpSs G b (start 9 ds) S0 (kR Q X) := by
  obtain ⟨m, f, s, lo, hi, rfl, m0, bm, bf, bs, l0, h1, hq, hn⟩ := h
  subst hb
  refine ⟨rfl, ?_⟩
  have g0 := gcdm_pos (f := f) m0
  have pp := perM_pos (f := f) m0
  have pl := perM_le (f := f) m0
  have bp : perM m f < 2 ^ 900 := by
    have : m.natAbs < 2 ^ 900 := bm
    omega
  have cw : ∀ {n : Nat} {S : Sto} {Q : VK} {X : XK}, n < 2 ^ 998 → Q (.int (cntR m f s lo hi n : Nat)) S → cl (G.fn 6) [.int n, .int m, .int f, .int s, .int lo, .int hi] S Q X := fun hb hq => call hc ⟨_, m, f, s, lo, hi, rfl, m0, hb, bm.up (by decide), bf.up (by decide), bs.up (by decide), l0, h1, hq⟩
  generalize hA : first_within_A0 = A0
  generalize hS : first_within_S0 = s0
  simp only [first_within_T, wpSs, wpS, wpE, wpEs, wpC, wpAnd, wpOr, wpO, wpIt, opt_some, onI_int, onB_bl, onR_ref, arg1_one, look, joinO, start, List.map_cons, List.map_nil, List.length_cons, List.length_nil, List.replicate, List.cons_append, List.nil_append, List.append_nil, List.getElem?_cons_succ, List.getElem?_cons_zero, kcD, Nat.reduceAdd, Nat.reduceSub, br_t, br_f, br_n, asg, setAll, List.set_cons_succ, List.set_cons_zero, tgs, wipe, eq_ii, ne_ii, lt_ii, le_ii, gt_ii, ge_ii, is_n, isn_n, is_b, isn_b, add_ii, sub_ii, mul_ii, mod_ii, fdiv_ii, pow_ii, isNon, biD, intD_i, intD_b, esLen, beq_self_eq_true, ixD_tup, lsOf_new, seqD_tup, seqD_fl, slD_tup, bools, Option.map_some, true_and, ixD_fl, lenD_tup, lenD_fl, ix30, ix31, ix32, at20, at21, at30, at31, at32, List.filterMap_cons, List.filterMap_nil]
  refine call hg ⟨_, _, rfl, ?_⟩
  simp only [wpSs, wpS, wpE, wpEs, wpC, wpAnd, wpOr, wpO, wpIt, opt_some, onI_int, onB_bl, onR_ref, arg1_one, look, joinO, start, List.map_cons, List.map_nil, List.length_cons, List.length_nil, List.replicate, List.cons_append, List.nil_append, List.append_nil, List.getElem?_cons_succ, List.getElem?_cons_zero, kcD, Nat.reduceAdd, Nat.reduceSub, br_t, br_f, br_n, asg, setAll, List.set_cons_succ, List.set_cons_zero, tgs, wipe, eq_ii, ne_ii, lt_ii, le_ii, gt_ii, ge_ii, is_n, isn_n, is_b, isn_b, add_ii, sub_ii, mul_ii, mod_ii, fdiv_ii, pow_ii, isNon, biD, intD_i, intD_b, esLen, beq_self_eq_true, ixD_tup, lsOf_new, seqD_tup, seqD_fl, slD_tup, bools, Option.map_some, true_and, ixD_fl, lenD_tup, lenD_fl, ix30, ix31, ix32, at20, at21, at30, at31, at32, List.filterMap_cons, List.filterMap_nil]
  have eg : (Int.gcd f m : Int) ≠ 0 := by omega
  have bg : Bd 900 (Int.gcd f m : Int) := bm.le (by omega) (Int.le_of_dvd m0 (Int.gcd_dvd_right f m))
  refine ⟨eg, bg.smd (by decide), ?_⟩
  rw [fdiv_pos g0, perM_eq m0]
  refine cw (lt_two 900 bp (by decide)) ?_
  simp only [wpSs, wpS, wpE, wpEs, wpC, wpAnd, wpOr, wpO, wpIt, opt_some, onI_int, onB_bl, onR_ref, arg1_one, look, joinO, start, List.map_cons, List.map_nil, List.length_cons, List.length_nil, List.replicate, List.cons_append, List.nil_append, List.append_nil, List.getElem?_cons_succ, List.getElem?_cons_zero, kcD, Nat.reduceAdd, Nat.reduceSub, br_t, br_f, br_n, asg, setAll, List.set_cons_succ, List.set_cons_zero, tgs, wipe, eq_ii, ne_ii, lt_ii, le_ii, gt_ii, ge_ii, is_n, isn_n, is_b, isn_b, add_ii, sub_ii, mul_ii, mod_ii, fdiv_ii, pow_ii, isNon, biD, intD_i, intD_b, esLen, beq_self_eq_true, ixD_tup, lsOf_new, seqD_tup, seqD_fl, slD_tup, bools, Option.map_some, true_and, ixD_fl, lenD_tup, lenD_fl, ix30, ix31, ix32, at20, at21, at30, at31, at32, List.filterMap_cons, List.filterMap_nil]
  rcases fst_exists (m := m) (f := f) (s := s) (lo := lo) (hi := hi) (perM m f) with h | ⟨k0, hk, hf⟩
  · rw [cnt_zero h]
    exact br_if (fun _ => hn h) fun z => absurd z (by decide)
  · have hq := hq k0 hf hk
    have c0 := (cnt_fst hf (perM m f)).mpr hk
    refine br_if (fun z => absurd (eq_of_beq z) (by omega)) fun _ => ?_
    subst hS
    refine while_of ?_
    refine dbl (mk := fun b => [some (.int m), some (.int f), some (.int s), some (.int lo), some (.int hi), some (.int (perM m f : Nat)), some (.int (b : Nat)), none, none]) hk (fun b nx b0 b1 b2 b3 => ?_) (fun b nx b0 b1 b2 h => ?_) (perM m f) 1 (by omega) (by omega) (by omega) (by omega)
    · have fin : wpSs G first_within_A0 [some (.int m), some (.int f), some (.int s), some (.int lo), some (.int hi), some (.int (perM m f : Nat)), some (.int (b : Nat)), none, none] S0 (kR Q X) := by
        generalize hA1 : first_within_A1 = A1
        generalize hS1 : first_within_S1 = s1
        simp only [first_within_A0, hA1, hS1, wpSs, wpS, wpE, wpEs, wpC, wpAnd, wpOr, wpO, wpIt, opt_some, onI_int, onB_bl, onR_ref, arg1_one, look, joinO, start, List.map_cons, List.map_nil, List.length_cons, List.length_nil, List.replicate, List.cons_append, List.nil_append, List.append_nil, List.getElem?_cons_succ, List.getElem?_cons_zero, kcD, Nat.reduceAdd, Nat.reduceSub, br_t, br_f, br_n, asg, setAll, List.set_cons_succ, List.set_cons_zero, tgs, wipe, eq_ii, ne_ii, lt_ii, le_ii, gt_ii, ge_ii, is_n, isn_n, is_b, isn_b, add_ii, sub_ii, mul_ii, mod_ii, fdiv_ii, pow_ii, isNon, biD, intD_i, intD_b, esLen, beq_self_eq_true, ixD_tup, lsOf_new, seqD_tup, seqD_fl, slD_tup, bools, Option.map_some, true_and, ixD_fl, lenD_tup, lenD_fl, ix30, ix31, ix32, at20, at21, at30, at31, at32, List.filterMap_cons, List.filterMap_nil, fdiv_pos (show (0 : Int) < 2 by decide)]
        refine ⟨by decide, bd2.smd (by decide), ?_⟩
        have mn : (if (b : Int) < (perM m f : Nat) then (b : Int) else (perM m f : Nat)) = ((min b (perM m f) : Nat) : Int) := by
          by_cases c : b < perM m f
          · rw [if_pos (by omega), Nat.min_eq_left (by omega)]
          · rw [if_neg (by omega), Nat.min_eq_right (by omega)]
        rw [mn]
        have mk0 : k0 ≤ min b (perM m f) := by omega
        have mb : min b (perM m f) ≤ perM m f := Nat.min_le_right _ _
        generalize min b (perM m f) = top at *
        subst hS1
        refine while_of ?_
        refine Exists.elim (bs0 (S := S0) (mk := fun l m' o => [some (.int m), some (.int f), some (.int s), some (.int lo), some (.int hi), some (.int m'), some (.int (b : Nat)), some (.int l), o]) (k0 := (k0 : Int)) (step := fun ρ1 S1 nx => wpE G (.cmp .lt (.v 7) (.v 5)) ρ1 S1 (fun x S2 => onB x fun k => br k (wpSs G first_within_B1 ρ1 S2 ⟨nx, Q, fun ρ1 S1 => wpSs G A1 ρ1 S1 (kR Q X), fun k fs _ S' => X k fs S'⟩) (wpSs G A1 ρ1 S2 (kR Q X))) (fun c fs S2 => X c fs S2)) ?_ ?_ top ((b : Int) / 2) (top : Int) (by omega) (by omega) (by omega) (by omega) (Int.le_refl _)) fun k hk => ⟨k, hk none⟩
        · intro o nx
          subst hA1
          simp only [first_within_A1, wpSs, wpS, wpE, wpEs, wpC, wpAnd, wpOr, wpO, wpIt, opt_some, onI_int, onB_bl, onR_ref, arg1_one, look, joinO, start, List.map_cons, List.map_nil, List.length_cons, List.length_nil, List.replicate, List.cons_append, List.nil_append, List.append_nil, List.getElem?_cons_succ, List.getElem?_cons_zero, kcD, Nat.reduceAdd, Nat.reduceSub, br_t, br_f, br_n, asg, setAll, List.set_cons_succ, List.set_cons_zero, tgs, wipe, eq_ii, ne_ii, lt_ii, le_ii, gt_ii, ge_ii, is_n, isn_n, is_b, isn_b, add_ii, sub_ii, mul_ii, mod_ii, fdiv_ii, pow_ii, isNon, biD, intD_i, intD_b, esLen, beq_self_eq_true, ixD_tup, lsOf_new, seqD_tup, seqD_fl, slD_tup, bools, Option.map_some, true_and, ixD_fl, lenD_tup, lenD_fl, ix30, ix31, ix32, at20, at21, at30, at31, at32, List.filterMap_cons, List.filterMap_nil]
          exact br_d (fun z => absurd z (by omega)) fun _ => hq
        · intro l t o nx lt l0' lk kt tt ha hb
          simp only [first_within_B1, wpSs, wpS, wpE, wpEs, wpC, wpAnd, wpOr, wpO, wpIt, opt_some, onI_int, onB_bl, onR_ref, arg1_one, look, joinO, start, List.map_cons, List.map_nil, List.length_cons, List.length_nil, List.replicate, List.cons_append, List.nil_append, List.append_nil, List.getElem?_cons_succ, List.getElem?_cons_zero, kcD, Nat.reduceAdd, Nat.reduceSub, br_t, br_f, br_n, asg, setAll, List.set_cons_succ, List.set_cons_zero, tgs, wipe, eq_ii, ne_ii, lt_ii, le_ii, gt_ii, ge_ii, is_n, isn_n, is_b, isn_b, add_ii, sub_ii, mul_ii, mod_ii, fdiv_ii, pow_ii, isNon, biD, intD_i, intD_b, esLen, beq_self_eq_true, ixD_tup, lsOf_new, seqD_tup, seqD_fl, slD_tup, bools, Option.map_some, true_and, ixD_fl, lenD_tup, lenD_fl, ix30, ix31, ix32, at20, at21, at30, at31, at32, List.filterMap_cons, List.filterMap_nil, fdiv_pos (show (0 : Int) < 2 by decide)]
          obtain ⟨q, eq⟩ : ∃ q : Nat, (l + t) / 2 = q := ⟨((l + t) / 2).toNat, by omega⟩
          rw [eq] at ha hb
          have tp : top < 2 ^ 900 := by omega
          rw [eq]
          refine br_d (fun _ => ?_) fun z => absurd lt z
          refine ⟨by decide, bd2.smd (by decide), ?_⟩
          rw [show (q : Int) + 1 = ((q + 1 : Nat) : Int) by omega]
          refine cw (by omega) ?_
          simp only [wpSs, wpS, wpE, wpEs, wpC, wpAnd, wpOr, wpO, wpIt, opt_some, onI_int, onB_bl, onR_ref, arg1_one, look, joinO, start, List.map_cons, List.map_nil, List.length_cons, List.length_nil, List.replicate, List.cons_append, List.nil_append, List.append_nil, List.getElem?_cons_succ, List.getElem?_cons_zero, kcD, Nat.reduceAdd, Nat.reduceSub, br_t, br_f, br_n, asg, setAll, List.set_cons_succ, List.set_cons_zero, tgs, wipe, eq_ii, ne_ii, lt_ii, le_ii, gt_ii, ge_ii, is_n, isn_n, is_b, isn_b, add_ii, sub_ii, mul_ii, mod_ii, fdiv_ii, pow_ii, isNon, biD, intD_i, intD_b, esLen, beq_self_eq_true, ixD_tup, lsOf_new, seqD_tup, seqD_fl, slD_tup, bools, Option.map_some, true_and, ixD_fl, lenD_tup, lenD_fl, ix30, ix31, ix32, at20, at21, at30, at31, at32, List.filterMap_cons, List.filterMap_nil]
          have cf := cnt_fst hf (q + 1)
          refine br_d (fun z => ha (by omega) _) fun z => ?_
          have hb := hb (by omega) (some (.int q))
          rw [show (q : Int) + 1 = ((q + 1 : Nat) : Int) by omega] at hb
          exact hb
      simp only [wpSs, wpS, wpE, wpEs, wpC, wpAnd, wpOr, wpO, wpIt, opt_some, onI_int, onB_bl, onR_ref, arg1_one, look, joinO, start, List.map_cons, List.map_nil, List.length_cons, List.length_nil, List.replicate, List.cons_append, List.nil_append, List.append_nil, List.getElem?_cons_succ, List.getElem?_cons_zero, kcD, Nat.reduceAdd, Nat.reduceSub, br_t, br_f, br_n, asg, setAll, List.set_cons_succ, List.set_cons_zero, tgs, wipe, eq_ii, ne_ii, lt_ii, le_ii, gt_ii, ge_ii, is_n, isn_n, is_b, isn_b, add_ii, sub_ii, mul_ii, mod_ii, fdiv_ii, pow_ii, isNon, biD, intD_i, intD_b, esLen, beq_self_eq_true, ixD_tup, lsOf_new, seqD_tup, seqD_fl, slD_tup, bools, Option.map_some, true_and, ixD_fl, lenD_tup, lenD_fl, ix30, ix31, ix32, at20, at21, at30, at31, at32, List.filterMap_cons, List.filterMap_nil]
      refine br_d (fun z => ?_) fun _ => fin
      refine cw (by omega) ?_
      simp only [wpSs, wpS, wpE, wpEs, wpC, wpAnd, wpOr, wpO, wpIt, opt_some, onI_int, onB_bl, onR_ref, arg1_one, look, joinO, start, List.map_cons, List.map_nil, List.length_cons, List.length_nil, List.replicate, List.cons_append, List.nil_append, List.append_nil, List.getElem?_cons_succ, List.getElem?_cons_zero, kcD, Nat.reduceAdd, Nat.reduceSub, br_t, br_f, br_n, asg, setAll, List.set_cons_succ, List.set_cons_zero, tgs, wipe, eq_ii, ne_ii, lt_ii, le_ii, gt_ii, ge_ii, is_n, isn_n, is_b, isn_b, add_ii, sub_ii, mul_ii, mod_ii, fdiv_ii, pow_ii, isNon, biD, intD_i, intD_b, esLen, beq_self_eq_true, ixD_tup, lsOf_new, seqD_tup, seqD_fl, slD_tup, bools, Option.map_some, true_and, ixD_fl, lenD_tup, lenD_fl, ix30, ix31, ix32, at20, at21, at30, at31, at32, List.filterMap_cons, List.filterMap_nil]
      have := (cnt_fst hf b).mpr (by omega)
      exact br_if (fun z => absurd (eq_of_beq z) (by omega)) fun _ => fin
    · simp only [first_within_B0, wpSs, wpS, wpE, wpEs, wpC, wpAnd, wpOr, wpO, wpIt, opt_some, onI_int, onB_bl, onR_ref, arg1_one, look, joinO, start, List.map_cons, List.map_nil, List.length_cons, List.length_nil, List.replicate, List.cons_append, List.nil_append, List.append_nil, List.getElem?_cons_succ, List.getElem?_cons_zero, kcD, Nat.reduceAdd, Nat.reduceSub, br_t, br_f, br_n, asg, setAll, List.set_cons_succ, List.set_cons_zero, tgs, wipe, eq_ii, ne_ii, lt_ii, le_ii, gt_ii, ge_ii, is_n, isn_n, is_b, isn_b, add_ii, sub_ii, mul_ii, mod_ii, fdiv_ii, pow_ii, isNon, biD, intD_i, intD_b, esLen, beq_self_eq_true, ixD_tup, lsOf_new, seqD_tup, seqD_fl, slD_tup, bools, Option.map_some, true_and, ixD_fl, lenD_tup, lenD_fl, ix30, ix31, ix32, at20, at21, at30, at31, at32, List.filterMap_cons, List.filterMap_nil]
      refine br_d (fun _ => ?_) fun z => absurd (show (b : Int) < (perM m f : Nat) by omega) z
      refine cw (by omega) ?_
      simp only [wpSs, wpS, wpE, wpEs, wpC, wpAnd, wpOr, wpO, wpIt, opt_some, onI_int, onB_bl, onR_ref, arg1_one, look, joinO, start, List.map_cons, List.map_nil, List.length_cons, List.length_nil, List.replicate, List.cons_append, List.nil_append, List.append_nil, List.getElem?_cons_succ, List.getElem?_cons_zero, kcD, Nat.reduceAdd, Nat.reduceSub, br_t, br_f, br_n, asg, setAll, List.set_cons_succ, List.set_cons_zero, tgs, wipe, eq_ii, ne_ii, lt_ii, le_ii, gt_ii, ge_ii, is_n, isn_n, is_b, isn_b, add_ii, sub_ii, mul_ii, mod_ii, fdiv_ii, pow_ii, isNon, biD, intD_i, intD_b, esLen, beq_self_eq_true, ixD_tup, lsOf_new, seqD_tup, seqD_fl, slD_tup, bools, Option.map_some, true_and, ixD_fl, lenD_tup, lenD_fl, ix30, ix31, ix32, at20, at21, at30, at31, at32, List.filterMap_cons, List.filterMap_nil]
      have e : cntR m f s lo hi b = 0 := cnt_zero fun k hk => hf.2 k (by omega)
      rw [e]
      refine br_if (fun _ => ?_) fun z => absurd z (by decide)
      refine ⟨sm_of 900 (by decide) (by omega), bd2.sm (by decide), h⟩
end M
namespace M
theorem low_eq {A B C E : Int} (hB : 0 < B) (hE : 0 < E) (h : A * E = C * B) : low A B = low C E := by
  rw [← low_scale (u := A) (v := B) hE, ← low_scale (u := C) (v := E) hB]
  have e1 : E * A = B * C := by grind
  rw [e1, Int.mul_comm E B]
/-- the parts of a fraction in lowest terms -/
theorem low_cmp {A B : Int} (hB : 0 < B) : ∃ m n, low A B = prD m n ∧ m * B = A * n ∧ 0 < n ∧ (∀ k, Bd k A → Bd k m) ∧ (∀ k, Bd k B → Bd k n) := by
  refine ⟨A / ((Int.gcd A B : Nat) : Int), B / ((Int.gcd A B : Nat) : Int), rfl, ?_, gdiv_pos hB, fun k h => h.div, fun k h => h.div⟩
  have h1 := Int.mul_ediv_cancel' (Int.gcd_dvd_left A B)
  have h2 := Int.mul_ediv_cancel' (Int.gcd_dvd_right A B)
  generalize A / ((Int.gcd A B : Nat) : Int) = m at *
  generalize B / ((Int.gcd A B : Nat) : Int) = n at *
  generalize ((Int.gcd A B : Nat) : Int) = g at *
  rw [← h1, ← h2]
  grind
theorem pr_inj {a b c d : Int} (h : prD a b = prD c d) : a = c ∧ b = d := by
  unfold prD at h
  injection h with h
  injection h with h1 h
  injection h with h2 _
  injection h1 with h1
  injection h2 with h2
  exact ⟨h1, h2⟩
theorem low_iff {A B C E : Int} (hB : 0 < B) (hE : 0 < E) : low A B = low C E ↔ A * E = C * B := by
  refine ⟨fun h => ?_, low_eq hB hE⟩
  obtain ⟨m, n, e1, h1, n0, _, _⟩ := low_cmp (A := A) hB
  obtain ⟨m', n', e2, h2, n0', _, _⟩ := low_cmp (A := C) hE
  rw [e1, e2] at h
  obtain ⟨rfl, rfl⟩ := pr_inj h
  refine Int.eq_of_mul_eq_mul_right (show n ≠ 0 by omega) ?_
  have e3 : A * E * n = A * n * E := by grind
  have e4 : C * B * n = C * n * B := by grind
  rw [e3, e4, ← h1, ← h2]
  grind
/-! ### a line's state behind n hits, at the time t / b -/
def lo (x d s : Int) : Int := sg d x % s
def lq (x d s : Int) : Int := sg d x / s
/-- the place on the side, over b -/
def mkN (x d s n t b : Int) : Int := if d = 0 then x * b else if (n + lq x d s) % 2 = 0 then av d * t + lo x d s * b - n * (s * b) else (n + 1) * (s * b) - (av d * t + lo x d s * b)
/-- the way -/
def dr (x d s n : Int) : Int := if (n + lq x d s) % 2 = 0 then av d else -av d
/-- the next hit is at wN / av d -/
def wN (x d s n : Int) : Int := (n + 1) * s - lo x d s
structure LI (x d s n t b : Int) : Prop where
  n0 : 0 ≤ n
  lw : d ≠ 0 → n * (s * b) ≤ av d * t + lo x d s * b
  hi : d ≠ 0 → av d * t + lo x d s * b < (n + 1) * (s * b)
theorem lo_in {x d s : Int} (hs : 0 < s) : 0 ≤ lo x d s ∧ lo x d s < s := ⟨Int.emod_nonneg _ (by omega), Int.emod_lt_of_pos _ hs⟩
theorem dr_pos {x d s n : Int} (h : d ≠ 0) : 0 < dr x d s n ↔ (n + lq x d s) % 2 = 0 := by
  have := av_pos h
  unfold dr
  split <;> omega
theorem dr_zero {x d s n : Int} : dr x d s n = 0 ↔ d = 0 := by
  unfold dr av
  split <;> omega
theorem dr_abs {x d s n : Int} : ((dr x d s n).natAbs : Int) = av d := by
  unfold dr av
  split <;> omega
theorem dr_next {x d s n : Int} : dr x d s (n + 1) = -dr x d s n := by
  unfold dr
  split <;> split <;> omega
/-- what is left to the next hit -/
theorem mk_wait {x d s n t b : Int} (h : d ≠ 0) : b * wN x d s n - av d * t = if 0 < dr x d s n then s * b - mkN x d s n t b else mkN x d s n t b := by
  unfold mkN wN
  by_cases hp : (n + lq x d s) % 2 = 0
  · rw [if_pos ((dr_pos h).mpr hp), if_neg h, if_pos hp]; grind
  · rw [if_neg (fun z => hp ((dr_pos h).mp z)), if_neg h, if_neg hp]; grind
theorem wait_pos {x d s n t b : Int} (h : d ≠ 0) (I : LI x d s n t b) : 0 < b * wN x d s n - av d * t := by
  have := I.hi h
  unfold wN
  have e : b * ((n + 1) * s - lo x d s) - av d * t = (n + 1) * (s * b) - (av d * t + lo x d s * b) := by grind
  omega
theorem mk_in {x d s n t b : Int} (hx : 0 ≤ x) (hx1 : x ≤ s) (hb : 0 < b) (hs : 0 < s) (I : LI x d s n t b) : 0 ≤ mkN x d s n t b ∧ mkN x d s n t b ≤ s * b := by
  unfold mkN
  split
  · exact ⟨Int.mul_nonneg hx (by omega), Int.mul_le_mul_of_nonneg_right hx1 (by omega)⟩
  · rename_i h
    have h1 := I.lw h
    have h2 := I.hi h
    have e : (n + 1) * (s * b) = n * (s * b) + s * b := by grind
    split <;> omega
/-- the place moves on to the time t' / b' -/
theorem mk_move {x d s n t b t' b' : Int} (n' : Int) (hn : n' = n ∨ (n' = n + 1 ∧ d ≠ 0 ∧ av d * t' + lo x d s * b' = (n + 1) * (s * b'))) : mkN x d s n' t' b' * b = mkN x d s n t b * b' + dr x d s n * (t' * b - t * b') := by
  unfold mkN
  by_cases h : d = 0
  · have : dr x d s n = 0 := dr_zero.mpr h
    rw [if_pos h, if_pos h, this]; grind
  · rw [if_neg h, if_neg h]
    rcases hn with rfl | ⟨rfl, _, e⟩
    · unfold dr
      by_cases hp : (n' + lq x d s) % 2 = 0
      · rw [if_pos hp, if_pos hp, if_pos hp]; grind
      · rw [if_neg hp, if_neg hp, if_neg hp]; grind
    · unfold dr
      by_cases hp : (n + lq x d s) % 2 = 0
      · rw [if_neg (by omega), if_pos hp, if_pos hp]; grind
      · rw [if_pos (by omega), if_neg hp, if_neg hp]; grind
/-! ### both lines -/
structure Ln where
  a : Int
  c : Int
  x : Int
  y : Int
  p : Int
  q : Int
structure St2 where
  n : Int
  m : Int
  t : Int
  b : Int
def w1 (L : Ln) (s : St2) : Int := wN L.x L.p L.a s.n
def w2 (L : Ln) (s : St2) : Int := wN L.y L.q L.c s.m
/-- is the next hit one of the first line, of the second one -/
def hit1 (L : Ln) (s : St2) : Bool := decide (L.p ≠ 0 ∧ (L.q = 0 ∨ w1 L s * av L.q ≤ w2 L s * av L.p))
def hit2 (L : Ln) (s : St2) : Bool := decide (L.q ≠ 0 ∧ (L.p = 0 ∨ w2 L s * av L.p ≤ w1 L s * av L.q))
def nxt (L : Ln) (s : St2) : St2 := ⟨if hit1 L s then s.n + 1 else s.n, if hit2 L s then s.m + 1 else s.m, if hit1 L s then w1 L s else w2 L s, if hit1 L s then av L.p else av L.q⟩
def sts (L : Ln) : Nat → St2
  | 0 => ⟨0, 0, 0, 1⟩
  | k + 1 => nxt L (sts L k)
structure OkL (L : Ln) : Prop where
  a0 : 0 < L.a
  c0 : 0 < L.c
  x0 : 0 ≤ L.x
  x1 : L.x ≤ L.a
  y0 : 0 ≤ L.y
  y1 : L.y ≤ L.c
  ne : L.p ≠ 0 ∨ L.q ≠ 0
/-- what holds of a state -/
structure SI (L : Ln) (s : St2) : Prop where
  b0 : 0 < s.b
  t0 : 0 ≤ s.t
  i1 : LI L.x L.p L.a s.n s.t s.b
  i2 : LI L.y L.q L.c s.m s.t s.b
theorem hit_some {L : Ln} (o : OkL L) (s : St2) : hit1 L s = true ∨ hit2 L s = true := by
  unfold hit1 hit2
  rw [decide_eq_true_iff, decide_eq_true_iff]
  have := o.ne
  omega
theorem st_start {L : Ln} (o : OkL L) : SI L ⟨0, 0, 0, 1⟩ := by
  have h1 := lo_in (x := L.x) (d := L.p) o.a0
  have h2 := lo_in (x := L.y) (d := L.q) o.c0
  exact ⟨by decide, by decide, ⟨by decide, fun _ => by simp; omega, fun _ => by simp; omega⟩, ⟨by decide, fun _ => by simp; omega, fun _ => by simp; omega⟩⟩
theorem wN_pos {x d s n : Int} (hs : 0 < s) (hn : 0 ≤ n) : 0 < wN x d s n := by
  have := (lo_in (x := x) (d := d) hs)
  unfold wN
  have : (n + 1) * s = n * s + s := by grind
  have := Int.mul_nonneg hn (Int.le_of_lt hs)
  omega
/-- where a line stands at a hit of its own -/
theorem li_hit {x d s n : Int} (hs : 0 < s) (hd : d ≠ 0) (hn : 0 ≤ n) : LI x d s (n + 1) (wN x d s n) (av d) ∧ av d * wN x d s n + lo x d s * av d = (n + 1) * (s * av d) := by
  have hv := av_pos hd
  have e : av d * wN x d s n + lo x d s * av d = (n + 1) * (s * av d) := by unfold wN; grind
  have := mulp hs hv
  exact ⟨⟨by omega, fun _ => by omega, fun _ => by rw [e]; grind⟩, e⟩
/-- a line that is not hit up to a time -/
theorem li_stay {x d s n t b t' b' : Int} (I : LI x d s n t b) (hb : 0 < b) (hb' : 0 < b') (h1 : t * b' ≤ t' * b) (h2 : d ≠ 0 → av d * t' + lo x d s * b' < (n + 1) * (s * b')) : LI x d s n t' b' := by
  refine ⟨I.n0, fun hd => ?_, h2⟩
  have h := I.lw hd
  have hv := av_pos hd
  have h3 : n * (s * b) * b' ≤ (av d * t + lo x d s * b) * b' := Int.mul_le_mul_of_nonneg_right h (by omega)
  have h4 : av d * (t * b') ≤ av d * (t' * b) := Int.mul_le_mul_of_nonneg_left h1 (by omega)
  have h5 : n * (s * b') * b ≤ (av d * t' + lo x d s * b') * b := by
    have e1 : n * (s * b') * b = n * (s * b) * b' := by grind
    have e2 : (av d * t' + lo x d s * b') * b = av d * (t' * b) + lo x d s * b * b' := by grind
    have e3 : (av d * t + lo x d s * b) * b' = av d * (t * b') + lo x d s * b * b' := by grind
    omega
  exact Int.le_of_mul_le_mul_right h5 hb
theorem time_le {x d s n t b : Int} (I : LI x d s n t b) (hd : d ≠ 0) : t * av d < wN x d s n * b := by
  have := I.hi hd
  unfold wN
  have e : ((n + 1) * s - lo x d s) * b = (n + 1) * (s * b) - lo x d s * b := by grind
  rw [e, Int.mul_comm t]
  omega
theorem st_next {L : Ln} (o : OkL L) {s : St2} (h : SI L s) : SI L (nxt L s) ∧ s.t * (nxt L s).b < (nxt L s).t * s.b := by
  have p1 : L.p ≠ 0 → 0 < av L.p := av_pos
  have p2 : L.q ≠ 0 → 0 < av L.q := av_pos
  have e1 := wN_pos (x := L.x) (d := L.p) o.a0 h.i1.n0
  have e2 := wN_pos (x := L.y) (d := L.q) o.c0 h.i2.n0
  have miss : ∀ {x d s n w v : Int}, 0 < v → d ≠ 0 → w * av d < wN x d s n * v → av d * w + lo x d s * v < (n + 1) * (s * v) := by
    intro x d s n w v hv hd hw
    unfold wN at hw
    have e : ((n + 1) * s - lo x d s) * v = (n + 1) * (s * v) - lo x d s * v := by grind
    rw [e, Int.mul_comm w] at hw
    omega
  rcases hit_some o s with h1 | h1
  · have h1' := h1
    unfold hit1 at h1'
    obtain ⟨hp, hq⟩ := of_decide_eq_true h1'
    have hv := p1 hp
    have tl := time_le h.i1 hp
    have L1 := li_hit (x := L.x) o.a0 hp h.i1.n0
    unfold nxt
    rw [h1]
    simp only [if_true]
    refine ⟨⟨hv, Int.le_of_lt e1, L1.1, ?_⟩, tl⟩
    by_cases h2 : hit2 L s = true
    · rw [h2]
      simp only [if_true]
      have h2' := h2
      unfold hit2 at h2'
      obtain ⟨hq', hp'⟩ := of_decide_eq_true h2'
      have eq : w1 L s * av L.q = w2 L s * av L.p := by omega
      unfold w1 w2 at eq
      have L2 := li_hit (x := L.y) o.c0 hq' h.i2.n0
      have e3 : av L.q * w1 L s + lo L.y L.q L.c * av L.p = (s.m + 1) * (L.c * av L.p) := by
        unfold w1 at *
        have : wN L.y L.q L.c s.m = (s.m + 1) * L.c - lo L.y L.q L.c := rfl
        rw [this] at eq
        rw [Int.mul_comm, eq]
        grind
      have pc := mulp o.c0 hv
      refine ⟨by have := h.i2.n0; show 0 ≤ s.m + 1; omega, fun _ => ?_, fun _ => ?_⟩
      · show (s.m + 1) * (L.c * av L.p) ≤ av L.q * w1 L s + lo L.y L.q L.c * av L.p
        omega
      · show av L.q * w1 L s + lo L.y L.q L.c * av L.p < (s.m + 1 + 1) * (L.c * av L.p)
        rw [e3]; grind
    · rw [Bool.eq_false_iff.mpr h2]
      simp only [Bool.false_eq_true, if_false]
      refine li_stay h.i2 h.b0 hv (Int.le_of_lt tl) fun hq' => miss hv hq' ?_
      unfold hit2 at h2
      rw [decide_eq_true_iff] at h2
      show w1 L s * av L.q < w2 L s * av L.p
      omega
  · have h1' := h1
    unfold hit2 at h1'
    obtain ⟨hq, hp⟩ := of_decide_eq_true h1'
    have hv := p2 hq
    have tl := time_le h.i2 hq
    have L2 := li_hit (x := L.y) o.c0 hq h.i2.n0
    by_cases h2 : hit1 L s = true
    · have h2' := h2
      unfold hit1 at h2'
      obtain ⟨hp', hq'⟩ := of_decide_eq_true h2'
      have eq : w1 L s * av L.q = w2 L s * av L.p := by omega
      have hv1 := p1 hp'
      have tl1 := time_le h.i1 hp'
      have L1 := li_hit (x := L.x) o.a0 hp' h.i1.n0
      unfold nxt
      rw [h2, h1]
      simp only [if_true]
      refine ⟨⟨hv1, Int.le_of_lt e1, L1.1, ?_⟩, tl1⟩
      have e3 : av L.q * w1 L s + lo L.y L.q L.c * av L.p = (s.m + 1) * (L.c * av L.p) := by
        have : w2 L s = (s.m + 1) * L.c - lo L.y L.q L.c := rfl
        rw [this] at eq
        rw [Int.mul_comm, eq]
        grind
      have pc := mulp o.c0 hv1
      refine ⟨by have := h.i2.n0; show 0 ≤ s.m + 1; omega, fun _ => ?_, fun _ => ?_⟩
      · show (s.m + 1) * (L.c * av L.p) ≤ av L.q * w1 L s + lo L.y L.q L.c * av L.p
        omega
      · show av L.q * w1 L s + lo L.y L.q L.c * av L.p < (s.m + 1 + 1) * (L.c * av L.p)
        rw [e3]; grind
    · unfold nxt
      rw [Bool.eq_false_iff.mpr h2, h1]
      simp only [if_true, Bool.false_eq_true, if_false]
      refine ⟨⟨hv, Int.le_of_lt e2, ?_, L2.1⟩, tl⟩
      refine li_stay h.i1 h.b0 hv (Int.le_of_lt tl) fun hp' => miss hv hp' ?_
      unfold hit1 at h2
      rw [decide_eq_true_iff] at h2
      show w2 L s * av L.p < w1 L s * av L.q
      omega
theorem st_inv {L : Ln} (o : OkL L) : ∀ k, SI L (sts L k)
  | 0 => st_start o
  | k + 1 => (st_next o (st_inv o k)).1
end M
namespace M
/-! ### _law_step -/
def wtD (e W b : Int) : D := if e = 0 then .non else low W (b * av e)
def spStep : Sp := fun ds S Q _ => ∃ a c r M1 M2 b e1 e2 W1 W2, ds = [prD a c, .ref r] ∧ S r = some (.lst [low M1 b, low M2 b, .int e1, .int e2]) ∧ 0 < a ∧ 0 < c ∧ 0 < b ∧ (e1 ≠ 0 → W1 = (if 0 < e1 then a * b - M1 else M1) ∧ 0 < W1) ∧ (e2 ≠ 0 → W2 = (if 0 < e2 then c * b - M2 else M2) ∧ 0 < W2) ∧ Bd 900 M1 ∧ Bd 900 M2 ∧ Bd 900 b ∧ Bd 900 e1 ∧ Bd 900 e2 ∧ Bd 900 a ∧ Bd 900 c ∧ ∀ r' S', Ext S S' → S r' = none → S' r' = some (.lst [wtD e1 W1 b, wtD e2 W2 b]) → Q (.ref r') S'
theorem eq_dec' {u v : D} {S : Sto} {Q : Bool → Prop} (hu : u = .non ∨ IntT 8 u) (hv : v = .non ∨ IntT 8 v) (k : ∀ B : Bool, (B = true ↔ u = v) → Q B) : cmpD .eq u v S Q := by
  have fit' : ∀ {w : D}, (w = .non ∨ IntT 8 w) → fit dep S w = true := fun h => by
    rcases h with rfl | h
    · rfl
    · exact h.fit
  have main : fit dep S u = true ∧ fit dep S v = true ∧ Q (eqB dep S u v) := by
    refine ⟨fit' hu, fit' hv, k _ ?_⟩
    rcases hu with rfl | hu
    · rcases hv with rfl | hv
      · exact ⟨fun _ => rfl, fun _ => rfl⟩
      · cases v <;> first | exact False.elim hv | exact ⟨fun h => (by cases h), fun h => (by cases h)⟩
    · rcases hv with rfl | hv
      · cases u <;> first | exact False.elim hu | exact ⟨fun h => (by cases h), fun h => (by cases h)⟩
      · exact hu.eq_iff hv
  cases u with
  | str x => rcases hu with h | h <;> first | cases h | exact False.elim h
  | _ => exact main
theorem it_low {t b : Int} : IntT 8 (low t b) := it_pr
theorem wt_it {e W b : Int} : wtD e W b = .non ∨ IntT 8 (wtD e W b) := by
  unfold wtD
  split
  · exact .inl rfl
  · exact .inr it_low
def W1 (L : Ln) (s : St2) : Int := s.b * w1 L s - av L.p * s.t
def W2 (L : Ln) (s : St2) : Int := s.b * w2 L s - av L.q * s.t
def waitD (L : Ln) (s : St2) : D := if hit1 L s then low (W1 L s) (s.b * av L.p) else low (W2 L s) (s.b * av L.q)
abbrev fD (L : Ln) (s : St2) : D := wtD L.p (W1 L s) s.b
abbrev gD (L : Ln) (s : St2) : D := wtD L.q (W2 L s) s.b
theorem non_low {t b : Int} : D.non ≠ low t b := by unfold low; intro h; cases h
theorem w_cmp {L : Ln} {s : St2} (hb : 0 < s.b) : (W1 L s * (s.b * av L.q) ≤ W2 L s * (s.b * av L.p) ↔ w1 L s * av L.q ≤ w2 L s * av L.p) := by
  have e1 : W1 L s * (s.b * av L.q) = (w1 L s * av L.q) * (s.b * s.b) - s.t * av L.p * av L.q * s.b := by unfold W1; grind
  have e2 : W2 L s * (s.b * av L.p) = (w2 L s * av L.p) * (s.b * s.b) - s.t * av L.p * av L.q * s.b := by unfold W2; grind
  have hbb := mulp hb hb
  constructor
  · intro h
    have : (w1 L s * av L.q) * (s.b * s.b) ≤ (w2 L s * av L.p) * (s.b * s.b) := by omega
    exact Int.le_of_mul_le_mul_right this hbb
  · intro h
    have := Int.mul_le_mul_of_nonneg_right h (Int.le_of_lt hbb)
    omega
theorem first_wait {L : Ln} (o : OkL L) {s : St2} (hb : 0 < s.b) : (fD L s = waitD L s ↔ hit1 L s = true) ∧ (gD L s = waitD L s ↔ hit2 L s = true) := by
  unfold fD gD wtD waitD
  have c := w_cmp (L := L) hb
  have hs := hit_some o s
  by_cases hp : L.p = 0
  · have h1 : hit1 L s = false := by unfold hit1; rw [decide_eq_false_iff_not]; omega
    have hq : L.q ≠ 0 := by have := o.ne; omega
    have h2 : hit2 L s = true := hs.resolve_left (by rw [h1]; decide)
    rw [h1, h2, if_pos hp, if_neg hq]
    exact ⟨⟨fun h => absurd h non_low, fun h => (by cases h)⟩, ⟨fun _ => rfl, fun _ => rfl⟩⟩
  · by_cases hq : L.q = 0
    · have h2 : hit2 L s = false := by unfold hit2; rw [decide_eq_false_iff_not]; omega
      have h1 : hit1 L s = true := hs.resolve_right (by rw [h2]; decide)
      rw [h1, h2, if_neg hp, if_pos hq]
      exact ⟨⟨fun _ => rfl, fun _ => rfl⟩, ⟨fun h => absurd h non_low, fun h => (by cases h)⟩⟩
    · have pv := mulp hb (av_pos hp)
      have qv := mulp hb (av_pos hq)
      rw [if_neg hp, if_neg hq]
      have i1 : hit1 L s = true ↔ w1 L s * av L.q ≤ w2 L s * av L.p := by unfold hit1; rw [decide_eq_true_iff]; omega
      have i2 : hit2 L s = true ↔ w2 L s * av L.p ≤ w1 L s * av L.q := by unfold hit2; rw [decide_eq_true_iff]; omega
      have c2 : (W2 L s * (s.b * av L.p) ≤ W1 L s * (s.b * av L.q) ↔ w2 L s * av L.p ≤ w1 L s * av L.q) := by
        have e1 : W1 L s * (s.b * av L.q) = (w1 L s * av L.q) * (s.b * s.b) - s.t * av L.p * av L.q * s.b := by unfold W1; grind
        have e2 : W2 L s * (s.b * av L.p) = (w2 L s * av L.p) * (s.b * s.b) - s.t * av L.p * av L.q * s.b := by unfold W2; grind
        have hbb := mulp hb hb
        constructor
        · intro h
          have : (w2 L s * av L.p) * (s.b * s.b) ≤ (w1 L s * av L.q) * (s.b * s.b) := by omega
          exact Int.le_of_mul_le_mul_right this hbb
        · intro h
          have := Int.mul_le_mul_of_nonneg_right h (Int.le_of_lt hbb)
          omega
      by_cases h1 : hit1 L s = true
      · rw [if_pos h1, h1, low_iff qv pv, i2]
        refine ⟨⟨fun _ => rfl, fun _ => rfl⟩, ?_⟩
        rw [i1] at h1
        constructor
        · intro h; exact c2.mp (by omega)
        · intro h
          have := c2.mpr h
          have := c.mpr h1
          omega
      · rw [if_neg h1, low_iff pv qv]
        have h2 : hit2 L s = true := hs.resolve_left h1
        refine ⟨⟨fun h => absurd (i1.mpr (c.mp (by omega))) h1, fun h => absurd h h1⟩, ⟨fun _ => h2, fun _ => rfl⟩⟩
/-- what a turn of the loop starts from -/
structure TB (L : Ln) (s : St2) : Prop where
  o : OkL L
  i : SI L s
  ba : Bd 200 L.a
  bc : Bd 200 L.c
  bx : Bd 200 L.x
  by_ : Bd 200 L.y
  bp : Bd 200 L.p
  bq : Bd 200 L.q
  bt : Bd 220 s.t
  bb : Bd 200 s.b
  bn : Bd 20 s.n
  bm : Bd 20 s.m
def ballD (L : Ln) (s : St2) : List D := [low (mkN L.x L.p L.a s.n s.t s.b) s.b, low (mkN L.y L.q L.c s.m s.t s.b) s.b, .int (dr L.x L.p L.a s.n), .int (dr L.y L.q L.c s.m)]
theorem wN_bd {x d s n : Int} (hs : 0 < s) (bs : Bd 200 s) (bn : Bd 20 n) : Bd 230 (wN x d s n) := by
  have l := lo_in (x := x) (d := d) hs
  unfold wN
  exact ((((bn.add (lt_two 1 (by decide) (by decide))).mul bs).up (show 221 ≤ 229 by decide)).sub ((bs.le l.1 (Int.le_of_lt l.2)).up (by decide)))
theorem W_bd {x d s n t b : Int} (hs : 0 < s) (bs : Bd 200 s) (bn : Bd 20 n) (bd : Bd 200 d) (bt : Bd 220 t) (bb : Bd 200 b) : Bd 440 (b * wN x d s n - av d * t) := by
  have h1 : Bd 430 (b * wN x d s n) := bb.mul (wN_bd hs bs bn)
  have h2 : Bd 420 (av d * t) := (av_bd bd).mul bt
  exact (h1.sub (h2.up (by decide))).up (by decide)
end M
namespace M
theorem wait_eq {L : Ln} {s : St2} (T : TB L s) : ∃ w v, 0 < v ∧ waitD L s = low (s.b * w - v * s.t) (s.b * v) ∧ (nxt L s).t = w ∧ (nxt L s).b = v ∧ Bd 230 w ∧ Bd 200 v := by
  unfold waitD nxt
  by_cases h : hit1 L s = true
  · refine ⟨w1 L s, av L.p, ?_, ?_⟩
    · have h' := h
      unfold hit1 at h'
      exact av_pos (of_decide_eq_true h').1
    · rw [h]
      exact ⟨rfl, rfl, rfl, wN_bd T.o.a0 T.ba T.bn, av_bd T.bp⟩
  · have h2 := (hit_some T.o s).resolve_left h
    rw [Bool.eq_false_iff.mpr h]
    refine ⟨w2 L s, av L.q, ?_, rfl, rfl, rfl, wN_bd T.o.c0 T.bc T.bm, av_bd T.bq⟩
    unfold hit2 at h2
    exact av_pos (of_decide_eq_true h2).1
def l1 (L : Ln) (s : St2) : Nat := if 0 < dr L.x L.p L.a s.n then 69 else 87
def l2 (L : Ln) (s : St2) : Nat := if 0 < dr L.y L.q L.c s.m then 78 else 83
def wordT (L : Ln) (s : St2) : Tx := (if hit1 L s then [l1 L s] else []) ++ (if hit2 L s then [l2 L s] else [])
theorem wait_it {L : Ln} {s : St2} : waitD L s = .non ∨ IntT 8 (waitD L s) := by
  unfold waitD
  split <;> exact .inr it_low
theorem add_ss {x y : Tx} {S : Sto} {Q : VK} : binD .add (.str x) (.str y) S Q = (x.length + y.length ≤ lim ∧ Q (.str (x ++ y)) S) := rfl
/-- both places over the time's bottom -/
def mk1 (L : Ln) (s : St2) : Int := mkN L.x L.p L.a s.n s.t s.b
def mk2 (L : Ln) (s : St2) : Int := mkN L.y L.q L.c s.m s.t s.b
theorem mk_bd {L : Ln} {s : St2} (T : TB L s) : Bd 400 (mk1 L s) ∧ Bd 400 (mk2 L s) := by
  have k1 := mk_in (t := s.t) T.o.x0 T.o.x1 T.i.b0 T.o.a0 T.i.i1
  have k2 := mk_in (t := s.t) T.o.y0 T.o.y1 T.i.b0 T.o.c0 T.i.i2
  exact ⟨(T.ba.mul T.bb).le k1.1 k1.2, (T.bc.mul T.bb).le k2.1 k2.2⟩
theorem mk_next {L : Ln} {s : St2} (T : TB L s) : mk1 L (nxt L s) * s.b = mk1 L s * (nxt L s).b + dr L.x L.p L.a s.n * ((nxt L s).t * s.b - s.t * (nxt L s).b) ∧ mk2 L (nxt L s) * s.b = mk2 L s * (nxt L s).b + dr L.y L.q L.c s.m * ((nxt L s).t * s.b - s.t * (nxt L s).b) := by
  have hh := hit_some T.o s
  constructor
  · refine mk_move _ ?_
    by_cases h : hit1 L s = true
    · have h' := h
      unfold hit1 at h'
      have hp := (of_decide_eq_true h').1
      right
      unfold nxt
      rw [h]
      exact ⟨rfl, hp, (li_hit (x := L.x) T.o.a0 hp T.i.i1.n0).2⟩
    · left
      unfold nxt
      rw [Bool.eq_false_iff.mpr h]
      rfl
  · refine mk_move _ ?_
    by_cases h : hit2 L s = true
    · have h' := h
      unfold hit2 at h'
      obtain ⟨hq, hp⟩ := of_decide_eq_true h'
      right
      by_cases h1 : hit1 L s = true
      · have h1' := h1
        unfold hit1 at h1'
        obtain ⟨hp', hq'⟩ := of_decide_eq_true h1'
        have eq : w1 L s * av L.q = w2 L s * av L.p := by omega
        unfold nxt
        rw [h, h1]
        refine ⟨rfl, hq, ?_⟩
        show av L.q * w1 L s + lo L.y L.q L.c * av L.p = (s.m + 1) * (L.c * av L.p)
        have : w2 L s = (s.m + 1) * L.c - lo L.y L.q L.c := rfl
        rw [this] at eq
        rw [Int.mul_comm, eq]
        grind
      · unfold nxt
        rw [h, Bool.eq_false_iff.mpr h1]
        exact ⟨rfl, hq, (li_hit (x := L.y) T.o.c0 hq T.i.i2.n0).2⟩
    · left
      unfold nxt
      rw [Bool.eq_false_iff.mpr h]
      rfl
theorem place_low {M M' b e t w v m n m' n' : Int} (hb : 0 < b) (hv : 0 < v) (n0 : 0 < n) (n0' : 0 < n') (h1 : m * b = M * n) (h2 : m' * (b * v) = (b * w - v * t) * n') (hM : M' * b = M * v + e * (w * b - t * v)) : low (m * n' + e * m' * n) (n * n') = low M' v := by
  refine low_eq (mulp n0 n0') hv ?_
  refine Int.eq_of_mul_eq_mul_left (show b ≠ 0 by omega) ?_
  have e1 : b * ((m * n' + e * m' * n) * v) = (m * b) * n' * v + e * (m' * (b * v)) * n := by grind
  have e2 : b * (M' * (n * n')) = (M' * b) * (n * n') := by grind
  rw [e1, h1, h2, e2, hM]
  grind
theorem ball_next {L : Ln} {s : St2} : ballD L (nxt L s) = [low (mk1 L (nxt L s)) (nxt L s).b, low (mk2 L (nxt L s)) (nxt L s).b, .int (if hit1 L s then -dr L.x L.p L.a s.n else dr L.x L.p L.a s.n), .int (if hit2 L s then -dr L.y L.q L.c s.m else dr L.y L.q L.c s.m)] := by
  have e1 : dr L.x L.p L.a (nxt L s).n = if hit1 L s then -dr L.x L.p L.a s.n else dr L.x L.p L.a s.n := by
    show dr L.x L.p L.a (if hit1 L s then s.n + 1 else s.n) = _
    split
    · exact dr_next
    · rfl
  have e2 : dr L.y L.q L.c (nxt L s).m = if hit2 L s then -dr L.y L.q L.c s.m else dr L.y L.q L.c s.m := by
    show dr L.y L.q L.c (if hit2 L s then s.m + 1 else s.m) = _
    split
    · exact dr_next
    · rfl
  unfold ballD
  rw [e1, e2]
  rfl
def entD (L : Ln) (s : St2) : D := .tup [low (nxt L s).t (nxt L s).b, .str (wordT L s), .tup [low (mk1 L (nxt L s)) (nxt L s).b, low (mk2 L (nxt L s)) (nxt L s).b]]
end M
namespace M
structure BL (L : Ln) : Prop where
  ba : Bd 200 L.a
  bc : Bd 200 L.c
  bx : Bd 200 L.x
  by_ : Bd 200 L.y
  bp : Bd 200 L.p
  bq : Bd 200 L.q
theorem st_cnt {L : Ln} : ∀ k : Nat, (sts L k).n ≤ k ∧ (sts L k).m ≤ k
  | 0 => ⟨by show (0 : Int) ≤ 0; decide, by show (0 : Int) ≤ 0; decide⟩
  | k + 1 => by
    have h := st_cnt (L := L) k
    show (if hit1 L (sts L k) then (sts L k).n + 1 else (sts L k).n) ≤ ((k + 1 : Nat) : Int) ∧ (if hit2 L (sts L k) then (sts L k).m + 1 else (sts L k).m) ≤ ((k + 1 : Nat) : Int)
    constructor <;> split <;> omega
theorem st_b {L : Ln} (b : BL L) : ∀ k : Nat, Bd 200 (sts L k).b
  | 0 => show Bd 200 1 from lt_two 1 (by decide) (by decide)
  | k + 1 => by
    show Bd 200 (if hit1 L (sts L k) then av L.p else av L.q)
    split
    · exact av_bd b.bp
    · exact av_bd b.bq
theorem wN_bd' {x d s n : Int} (hs : 0 < s) (bs : Bd 200 s) (hn : 0 ≤ n) (bn : n < 1000) : Bd 220 (wN x d s n) := by
  have l := lo_in (x := x) (d := d) hs
  have b1 : Bd 11 (n + 1) := bd_of' (by omega) (by omega)
  unfold wN
  exact (((b1.mul bs).up (show 211 ≤ 219 by decide)).sub ((bs.le l.1 (Int.le_of_lt l.2)).up (by decide)))
theorem st_t {L : Ln} (o : OkL L) (b : BL L) : ∀ k : Nat, k < 1000 → Bd 220 (sts L k).t
  | 0, _ => show Bd 220 0 from lt_two 1 (by decide) (by decide)
  | k + 1, hk => by
    have c := st_cnt (L := L) k
    have i := st_inv o k
    show Bd 220 (if hit1 L (sts L k) then w1 L (sts L k) else w2 L (sts L k))
    split
    · exact wN_bd' o.a0 b.ba i.i1.n0 (by omega)
    · exact wN_bd' o.c0 b.bc i.i2.n0 (by omega)
theorem st_tb {L : Ln} (o : OkL L) (b : BL L) {k : Nat} (hk : k < 1000) : TB L (sts L k) := by
  have c := st_cnt (L := L) k
  have i := st_inv o k
  exact ⟨o, i, b.ba, b.bc, b.bx, b.by_, b.bp, b.bq, st_t o b k hk, st_b b k, bd_of' i.i1.n0 (by omega), bd_of' i.i2.n0 (by omega)⟩
def ents (L : Ln) (k : Nat) : List D := (List.range k).map fun j => entD L (sts L j)
theorem ents_succ {L : Ln} {k : Nat} : ents L (k + 1) = ents L k ++ [entD L (sts L k)] := by
  unfold ents
  rw [List.range_succ, List.map_append]; rfl
theorem ents_len {L : Ln} {k : Nat} : (ents L k).length = k := by unfold ents; simp
/-- the way at the start: turned at a cushion -/
theorem dr_start {x d s : Int} (hs : 0 < s) (hx : 0 ≤ x) (hx1 : x ≤ s) : dr x d s 0 = if (0 < d ∧ x = s) ∨ (d < 0 ∧ x = 0) then -d else d := by
  unfold dr lq sg av
  by_cases h : 0 < d
  · rw [if_pos h]
    by_cases h2 : x = s
    · subst h2
      rw [Int.ediv_self (by omega), if_neg (by decide), if_pos (.inl ⟨h, rfl⟩)]
      omega
    · rw [Int.ediv_eq_zero_of_lt hx (by omega), if_pos (by decide), if_neg (by omega)]
      omega
  · rw [if_neg h]
    by_cases h2 : x = 0
    · subst h2
      have e : (-0 : Int) / s = 0 := by simp
      rw [e, if_pos (by decide)]
      by_cases h3 : d < 0
      · rw [if_pos (.inr ⟨h3, rfl⟩)]; omega
      · rw [if_neg (by omega)]; omega
    · have e : (-x) / s = -1 := by
        have : (-x) / s = (-x + s) / s - 1 := by rw [Int.add_ediv_of_dvd_right (Int.dvd_refl _), Int.ediv_self (by omega)]; omega
        rw [this, Int.ediv_eq_zero_of_lt (by omega) (by omega)]; rfl
      rw [e, if_neg (by decide), if_neg (by omega)]
      omega
theorem mk_start {x d s : Int} (hs : 0 < s) (hx : 0 ≤ x) (hx1 : x ≤ s) : mkN x d s 0 0 1 = x := by
  unfold mkN
  by_cases h0 : d = 0
  · rw [if_pos h0]; omega
  rw [if_neg h0]
  unfold lq lo sg
  by_cases h : 0 < d
  · rw [if_pos h]
    by_cases h2 : x = s
    · subst h2
      rw [Int.ediv_self (by omega), Int.emod_self, if_neg (by decide)]; simp
    · rw [Int.ediv_eq_zero_of_lt hx (by omega), Int.emod_eq_of_lt hx (by omega), if_pos (by decide)]; simp
  · rw [if_neg h]
    by_cases h2 : x = 0
    · subst h2
      have e : (-0 : Int) / s = 0 := by simp
      rw [e, if_pos (by decide)]; simp
    · have e : (-x) / s = -1 := by
        have : (-x) / s = (-x + s) / s - 1 := by rw [Int.add_ediv_of_dvd_right (Int.dvd_refl _), Int.ediv_self (by omega)]; omega
        rw [this, Int.ediv_eq_zero_of_lt (by omega) (by omega)]; rfl
      have e2 : (-x) % s = s - x := by
        rw [Int.emod_def, e]; omega
      rw [e, if_neg (by decide), e2]; simp
      omega
theorem low_one {t : Int} : low t 1 = prD t 1 := by
  unfold low
  have : Int.gcd t 1 = 1 := Int.gcd_one_right t
  rw [this]; simp
theorem br_flip {A B : Prop} {p x s : Int} (h1 : ((0 < p ∧ x = s) ∨ (p < 0 ∧ x = 0)) → A) (h2 : ¬ ((0 < p ∧ x = s) ∨ (p < 0 ∧ x = 0)) → B) : br (decide (0 < p)) (br (x == s) A (br (decide (p < 0)) (br (x == 0) A B) B)) (br (decide (p < 0)) (br (x == 0) A B) B) := by
  have N : ¬ (0 < p ∧ x = s) → br (decide (p < 0)) (br (x == 0) A B) B := fun h => br_d (fun k => br_if (fun k2 => h1 (.inr ⟨k, by simpa using k2⟩)) fun k2 => h2 fun z => z.elim h fun z => by simp at k2; omega) fun k => h2 fun z => z.elim h fun z => k z.1
  exact br_d (fun k => br_if (fun k2 => h1 (.inl ⟨k, by simpa using k2⟩)) fun k2 => N fun z => by simp at k2; omega) fun k => N fun z => k z.1
def spHL : Sp := fun ds S Q _ => ∃ a c x y p q far, ds = [prD a c, shD x y p q, .int far] ∧ OkL ⟨a, c, x, y, p, q⟩ ∧ BL ⟨a, c, x, y, p, q⟩ ∧ 0 ≤ far ∧ far ≤ 500 ∧ ∀ r S', Ext S S' → S' r = some (.lst (ents ⟨a, c, x, y, p, q⟩ far.toNat)) → Q (.ref r) S'
end M
namespace M
/-- the folded place over b -/
def fv (s t b : Int) : Int := if t % (2 * s * b) ≤ s * b then t % (2 * s * b) else 2 * s * b - t % (2 * s * b)
def spLF : Sp := fun ds S Q _ => ∃ s t b, ds = [.int s, .int t, .int b] ∧ 0 < s ∧ 0 < b ∧ Bd 1000 s ∧ Bd 1000 b ∧ Q (low (fv s t b) b) S
theorem txt_lf {G : Gm} {ds : List D} {S0 : Sto} {Q : VK} {X : XK} {b : Ss} (hb : b = (.cons (.set (.v 3) (.bin .mod (.bi .int (.cons (.v 1) .nil)) (.bin .mul (.bin .mul (.k (.int 2)) (.v 0)) (.v 2)))) (.cons (.ret (.call 26 (.cons (.ite (.cmp .le (.v 3) (.bin .mul (.v 0) (.v 2))) (.v 3) (.bin .sub (.bin .mul (.bin .mul (.k (.int 2)) (.v 0)) (.v 2)) (.v 3))) (.cons (.v 2) .nil)))) .nil))) (h1 : G.fn 26 = spLow) (h : spLF ds S0 Q X) : ds.length = 3 ∧ wpSs G b (start 4 ds) S0 (kR Q X) := by
  obtain ⟨s, t, b2, rfl, hs, hb', bs, bb, hq⟩ := h
  subst hb
  refine ⟨rfl, ?_⟩
  have p1 : 0 < 2 * s := by omega
  have p2 : 0 < 2 * s * b2 := mulp p1 hb'
  have s2 := bd2.sm (by decide)
  have ss := bs.sm (by decide)
  have s2s : sm (2 * s) := (bd2.mul bs).sm (by decide)
  have sb := bb.sm (by decide)
  simp only [wpSs, wpS, wpE, wpEs, wpC, wpAnd, wpOr, wpO, wpIt, opt_some, onI_int, onB_bl, onR_ref, arg1_one, look, joinO, start, List.map_cons, List.map_nil, List.length_cons, List.length_nil, List.replicate, List.cons_append, List.nil_append, List.append_nil, List.getElem?_cons_succ, List.getElem?_cons_zero, kcD, Nat.reduceAdd, Nat.reduceSub, br_t, br_f, br_n, asg, setAll, List.set_cons_succ, List.set_cons_zero, tgs, wipe, eq_ii, ne_ii, lt_ii, le_ii, gt_ii, ge_ii, is_n, isn_n, is_b, isn_b, add_ii, sub_ii, mul_ii, mod_ii, fdiv_ii, pow_ii, isNon, biD, intD_i, intD_b, esLen, beq_self_eq_true, ixD_tup, lsOf_new, seqD_tup, seqD_fl, slD_tup, bools, Option.map_some, true_and, ixD_fl, lenD_tup, lenD_fl, ix30, ix31, ix32, at20, at21, at30, at31, at32, List.filterMap_cons, List.filterMap_nil, fmod_pos p2]
  refine ⟨s2, ss, s2s, sb, by omega, ss, sb, br_d (fun h => call h1 ⟨_, _, rfl, hb', bb.up (by decide), ?_⟩) fun h => ⟨s2, ss, s2s, sb, call h1 ⟨_, _, rfl, hb', bb.up (by decide), ?_⟩⟩⟩
  · rw [fv, if_pos h] at hq; exact hq
  · rw [fv, if_neg h] at hq; exact hq
def spotD (a c x y p q t b : Int) : D := .tup [low (fv a (x * b + p * t) b) b, low (fv c (y * b + q * t) b) b]
def spSpot : Sp := fun ds S Q _ => ∃ a c x y p q t b, ds = [prD a c, shD x y p q, .int t, .int b] ∧ Sh a c x y p q t b ∧ Bd 900 a ∧ Bd 900 c ∧ Bd 900 b ∧ Q (spotD a c x y p q t b) S
theorem txt_spot {G : Gm} {ds : List D} {S0 : Sto} {Q : VK} {X : XK} {b : Ss} (hb : b = (.cons (.set (.tup [4, 5, 6, 7]) (.v 1)) (.cons (.set (.v 8) (.call 27 (.cons (.ix (.v 0) (.k (.int 0))) (.cons (.bin .add (.bin .mul (.v 4) (.v 3)) (.bin .mul (.v 6) (.v 2))) (.cons (.v 3) .nil))))) (.cons (.ret (.tup (.cons (.v 8) (.cons (.call 27 (.cons (.ix (.v 0) (.k (.int 1))) (.cons (.bin .add (.bin .mul (.v 5) (.v 3)) (.bin .mul (.v 7) (.v 2))) (.cons (.v 3) .nil)))) .nil)))) .nil)))) (h1 : G.fn 27 = spLF) (h : spSpot ds S0 Q X) : ds.length = 4 ∧ wpSs G b (start 9 ds) S0 (kR Q X) := by
  obtain ⟨a, c, x, y, p, q, t, b2, rfl, k, ba, bc, bb, hq⟩ := h
  subst hb
  refine ⟨rfl, ?_⟩
  simp only [wpSs, wpS, wpE, wpEs, wpC, wpAnd, wpOr, wpO, wpIt, opt_some, onI_int, onB_bl, onR_ref, arg1_one, look, joinO, start, List.map_cons, List.map_nil, List.length_cons, List.length_nil, List.replicate, List.cons_append, List.nil_append, List.append_nil, List.getElem?_cons_succ, List.getElem?_cons_zero, kcD, Nat.reduceAdd, Nat.reduceSub, br_t, br_f, br_n, asg, setAll, List.set_cons_succ, List.set_cons_zero, tgs, wipe, eq_ii, ne_ii, lt_ii, le_ii, gt_ii, ge_ii, is_n, isn_n, is_b, isn_b, add_ii, sub_ii, mul_ii, mod_ii, fdiv_ii, pow_ii, isNon, biD, intD_i, intD_b, esLen, beq_self_eq_true, ixD_tup, lsOf_new, seqD_tup, seqD_fl, slD_tup, bools, Option.map_some, true_and, ixD_fl, lenD_tup, lenD_fl, ix30, ix31, ix32, at20, at21, at30, at31, at32, List.filterMap_cons, List.filterMap_nil]
  refine ⟨k.bx.sm (by decide), k.bb.sm (by decide), k.bp.sm (by decide), k.bt.sm (by decide), call h1 ⟨a, _, b2, rfl, k.a0, k.b0, ba.up (by decide), bb.up (by decide), k.by_.sm (by decide), k.bb.sm (by decide), k.bq.sm (by decide), k.bt.sm (by decide), call h1 ⟨c, _, b2, rfl, k.c0, k.b0, bc.up (by decide), bb.up (by decide), len_lim (by decide), hq⟩⟩⟩
/-- fv is even and has 2sb as a period -/
theorem fv_neg {s t b : Int} (hm : 0 < s * b) : fv s (-t) b = fv s t b := by
  have e : 2 * s * b = 2 * (s * b) := Int.mul_assoc ..
  unfold fv
  rw [e]
  generalize s * b = A at *
  have h0 := Int.emod_nonneg t (show 2 * A ≠ 0 by omega)
  have h1 := Int.emod_lt_of_pos t (show 0 < 2 * A by omega)
  have hn : (-t) % (2 * A) = if t % (2 * A) = 0 then 0 else 2 * A - t % (2 * A) := by
    split
    · exact Int.emod_eq_zero_of_dvd ((Int.dvd_neg).mpr (Int.dvd_of_emod_eq_zero ‹_›))
    · have e2 : (-t) % (2 * A) = (2 * A - t % (2 * A)) % (2 * A) := by
        rw [Int.sub_emod, Int.emod_self, Int.emod_emod_of_dvd _ (Int.dvd_refl _), ← Int.zero_emod (2 * A), ← Int.sub_emod, Int.zero_sub]
      rw [e2, Int.emod_eq_of_lt (by omega) (by omega)]
  rw [hn]
  generalize t % (2 * A) = r at *
  split <;> split <;> (try split) <;> omega
theorem fv_per {s t b : Int} : fv s (t + 2 * s * b) b = fv s t b := by
  unfold fv
  rw [Int.add_emod_right]
theorem fv_fold {s t b : Int} : fv s t b = foldT s t b := by
  unfold fv foldT
  have e : 2 * s * b = 2 * (s * b) := Int.mul_assoc ..
  rw [e]
  generalize t % (2 * (s * b)) = r
  generalize s * b = A
  split <;> split <;> omega
/-- folded(side, number) -/
def spFolded : Sp := fun ds S Q _ => ∃ s t b, ds = [.int s, prD t b] ∧ 1 ≤ s ∧ 1 ≤ b ∧ partB (prD t b) = true ∧ Bd 1500 s ∧ Bd 1500 b ∧ ∀ S', Ext S S' → Q (low (foldT s t b) b) S'
/-- the shot at a time, or None -/
def shotD (a c x y p q t b : Int) : D := match low (foldT a (x * b + p * t) b) b, low (foldT c (y * b + q * t) b) b with
  | .tup [.int u, .int v], .tup [.int u', .int v'] => if v = 1 ∧ v' = 1 then .tup [.int u, .int u', .int (wayN a (x * b + p * t) b p), .int (wayN c (y * b + q * t) b q)] else .non
  | _, _ => .non
def spShotOf : Sp := fun ds S Q _ => ∃ a c x y p q t b, ds = [prD a c, shD x y p q, prD t b] ∧ Sh a c x y p q t b ∧ Q (shotD a c x y p q t b) S
def spShotAt : Sp := fun ds S Q _ => ∃ a c x y p q t b, ds = [prD a c, shD x y p q, prD t b] ∧ On a c x y p q t b ∧ ∀ S', Ext S S' → Q (shotD a c x y p q t b) S'
theorem way_st {x d s n t b : Int} (hs : 0 < s) (hb : 0 < b) (I : LI x d s n t b) : wayN s (x * b + d * t) b d = dr x d s n := by
  by_cases hd : d = 0
  · have e1 : dr x d s n = 0 := dr_zero.mpr hd
    rw [e1]
    unfold wayN
    subst hd
    split <;> rfl
  have p := mulp hs hb
  have h1 := I.lw hd
  have h2 := I.hi hd
  have hq := Int.mul_ediv_add_emod (sg d x) s
  have key : ∀ z : Int, z = sg d x * b + av d * t → z / (s * b) = n + lq x d s := by
    intro z hz
    have e : z = (av d * t + lo x d s * b - n * (s * b)) + (n + lq x d s) * (s * b) := by
      unfold lo lq
      generalize sg d x / s = Q at *
      generalize sg d x % s = r at *
      rw [hz, ← hq]; grind
    rw [e, Int.add_mul_ediv_right _ _ (by omega), Int.ediv_eq_zero_of_lt (by omega) (by
      have : (n + 1) * (s * b) = n * (s * b) + s * b := by grind
      omega)]
    omega
  unfold wayN cellN dr
  by_cases h : 0 < d
  · have ea : av d = d := by unfold av; omega
    have eg : sg d x = x := by unfold sg; rw [if_pos h]
    have := key (x * b + d * t) (by rw [ea, eg])
    rw [if_pos (show d > 0 from h), this, ea]
  · have ea : av d = -d := by unfold av; omega
    have eg : sg d x = -x := by unfold sg; rw [if_neg h]
    have := key (-(x * b + d * t)) (by rw [ea, eg]; grind)
    rw [if_neg (show ¬ d > 0 from h), this, ea]
    generalize n + lq x d s = m
    split <;> split <;> omega
theorem fold_st {x d s n t b : Int} (hs : 0 < s) (hb : 0 < b) (hx : 0 ≤ x) (hx1 : x ≤ s) (I : LI x d s n t b) : foldT s (x * b + d * t) b = mkN x d s n t b := by
  have p := mulp hs hb
  rw [← fv_fold]
  by_cases hd : d = 0
  · subst hd
    unfold mkN
    rw [if_pos rfl, Int.zero_mul, Int.add_zero]
    unfold fv
    have h0 := Int.mul_nonneg hx (Int.le_of_lt hb)
    have h1 := Int.mul_le_mul_of_nonneg_right hx1 (Int.le_of_lt hb)
    rw [Int.mul_assoc 2, Int.emod_eq_of_lt h0 (by omega), if_pos h1]
  have h1 := I.lw hd
  have h2 := I.hi hd
  have hq := Int.mul_ediv_add_emod (sg d x) s
  have key : fv s (sg d x * b + av d * t) b = mkN x d s n t b := by
    have e : sg d x * b + av d * t = (av d * t + lo x d s * b - n * (s * b)) + (n + lq x d s) * (s * b) := by
      unfold lo lq
      generalize sg d x / s = Q at *
      generalize sg d x % s = r at *
      rw [← hq]; grind
    have e3 : (n + 1) * (s * b) = n * (s * b) + s * b := by grind
    unfold mkN
    rw [if_neg hd, e]
    generalize av d * t + lo x d s * b = u at *
    generalize n + lq x d s = m at *
    unfold fv
    rw [Int.mul_assoc 2]
    have r0 : 0 ≤ u - n * (s * b) := by omega
    have r1 : u - n * (s * b) < s * b := by omega
    rw [e3]
    generalize n * (s * b) = N at *
    generalize s * b = A at *
    by_cases hm : m % 2 = 0
    · obtain ⟨j, rfl⟩ : ∃ j, m = 2 * j := ⟨m / 2, by omega⟩
      have e4 : u - N + 2 * j * A = (u - N) + (2 * A) * j := by grind
      rw [e4, Int.add_mul_emod_self_left, Int.emod_eq_of_lt r0 (by omega), if_pos (by omega), if_pos (by omega)]
    · obtain ⟨j, rfl⟩ : ∃ j, m = 2 * j + 1 := ⟨m / 2, by omega⟩
      have e4 : u - N + (2 * j + 1) * A = (u - N + A) + (2 * A) * j := by grind
      rw [e4, Int.add_mul_emod_self_left, Int.emod_eq_of_lt (by omega) (by omega), if_neg hm]
      split <;> omega
  rw [← key]
  by_cases h : 0 < d
  · have ea : av d = d := by unfold av; omega
    have eg : sg d x = x := by unfold sg; rw [if_pos h]
    rw [ea, eg]
  · have ea : av d = -d := by unfold av; omega
    have eg : sg d x = -x := by unfold sg; rw [if_neg h]
    rw [ea, eg, ← fv_neg p]
    congr 1
    grind
end M
namespace M
theorem compW_filt {chk : Sto → Prop} {step : D → Sto → (Option D → Sto → Prop) → Prop} {Q : VK} {f : D → Bool} {S : Sto} (hc : chk S) : ∀ {xs acc : List D}, (∀ d ∈ xs, ∀ k : Option D → Sto → Prop, k (if f d = true then some d else none) S → step d S k) → (∀ p, S p = none → Q (.ref p) (upd S p (.lst (acc ++ xs.filter f)))) → compW chk step Q xs acc S
  | [], acc, _, h => ⟨hc, fun p hp => by have := h p hp; rwa [List.filter_nil, List.append_nil] at this⟩
  | x :: xs, acc, hs, h => ⟨hc, hs x (by simp) _ (by
      by_cases hf : f x = true
      · rw [if_pos hf]
        refine compW_filt hc (fun d hd => hs d (by simp [hd])) fun p hp => ?_
        have := h p hp
        rw [List.filter_cons, if_pos hf] at this
        simpa [Option.toList] using this
      · rw [if_neg hf]
        refine compW_filt hc (fun d hd => hs d (by simp [hd])) fun p hp => ?_
        have := h p hp
        rw [List.filter_cons, if_neg hf] at this
        simpa [Option.toList] using this)⟩
/-! ### the residues of a range, folded -/
def r2l (s v hi : Int) : Int := if hi * v + 1 > (2 * s - hi) * v then hi * v + 1 else (2 * s - hi) * v
def r2h (s v lo : Int) : Int := (2 * s - lo) * v - b2i (lo == 0)
/-- a side, a speed and a range of numbers -/
structure Rg (s v lo hi : Int) : Prop where
  s0 : 0 < s
  v0 : 0 < v
  l0 : 0 ≤ lo
  lh : lo ≤ hi
  hs : hi ≤ s
  bs : Bd 400 s
  bv : Bd 400 v
theorem Rg.m0 {s v lo hi : Int} (R : Rg s v lo hi) : 0 < 2 * s * v := mulp (by have := R.s0; omega) R.v0
theorem Rg.fac {s v lo hi : Int} (R : Rg s v lo hi) : 0 ≤ lo * v ∧ lo * v ≤ hi * v ∧ hi * v ≤ s * v ∧ 0 < s * v ∧ (lo = 0 → lo * v = 0) ∧ (lo ≠ 0 → 0 < lo * v) ∧ (2 * s - hi) * v = 2 * (s * v) - hi * v ∧ (2 * s - lo) * v = 2 * (s * v) - lo * v ∧ 2 * s * v = 2 * (s * v) := by
  have v0 := R.v0
  have l0 := R.l0
  refine ⟨Int.mul_nonneg l0 (by omega), Int.mul_le_mul_of_nonneg_right R.lh (by omega), Int.mul_le_mul_of_nonneg_right R.hs (by omega), mulp R.s0 v0, fun z => by rw [z]; simp, fun z => mulp (by omega) v0, by grind, by grind, by grind⟩
theorem b2i_z (lo : Int) : b2i (lo == 0) = if lo = 0 then 1 else 0 := by
  by_cases c : lo = 0
  · subst c; rfl
  · rw [if_neg c]
    have : (lo == 0) = false := by simpa using c
    rw [this]; rfl
/-- folded it is from lo to hi -/
def inP (s v f st lo hi : Int) (k : Nat) : Bool := decide (lo * v ≤ foldT s (f * k + st) v) && decide (foldT s (f * k + st) v ≤ hi * v)
theorem in_p {s v f st lo hi : Int} (R : Rg s v lo hi) (k : Nat) : (inP s v f st lo hi k = true ↔ (inR (2 * s * v) f st (lo * v) (hi * v) k = true ∨ inR (2 * s * v) f st (r2l s v hi) (r2h s v lo) k = true)) ∧ ¬ (inR (2 * s * v) f st (lo * v) (hi * v) k = true ∧ inR (2 * s * v) f st (r2l s v hi) (r2h s v lo) k = true) := by
  have m0 := R.m0
  obtain ⟨f1, f2, f3, f4, f5, f6, f7, f8, f9⟩ := R.fac
  have r0 := Int.emod_nonneg (f * k + st) (show 2 * s * v ≠ 0 by omega)
  have r1 := Int.emod_lt_of_pos (f * k + st) m0
  unfold inP inR foldT r2l r2h
  rw [f7, f8, b2i_z]
  rw [f9] at *
  generalize (f * (k : Int) + st) % (2 * (s * v)) = r at *
  simp only [Bool.and_eq_true_iff, decide_eq_true_iff]
  have l0 := R.l0
  generalize lo * v = A at *
  generalize hi * v = B at *
  generalize s * v = N at *
  by_cases z : lo = 0
  · have f5 := f5 z
    rw [if_pos z]
    split <;> split <;> omega
  · have f6 := f6 z
    rw [if_neg z]
    split <;> split <;> omega
def rgL (s v lo hi : Int) : List D := if r2l s v hi ≤ r2h s v lo then [prD (lo * v) (hi * v), prD (r2l s v hi) (r2h s v lo)] else [prD (lo * v) (hi * v)]
def spRg : Sp := fun ds S Q _ => ∃ s v lo hi : Int, ds = [.int s, .int v, .int lo, .int hi] ∧ Rg s v lo hi ∧ ∀ p S', Ext S S' → S' p = some (.lst (rgL s v lo hi)) → Q (.ref p) S'
theorem txt_rg {G : Gm} {ds : List D} {S0 : Sto} {Q : VK} {X : XK} {b : Ss} (hb : b = (.cons (.set (.v 4) (.tup (.cons (.bin .mul (.v 2) (.v 1)) (.cons (.bin .mul (.v 3) (.v 1)) .nil)))) (.cons (.set (.v 5) (.tup (.cons (.bi .max (.cons (.bin .mul (.bin .sub (.bin .mul (.k (.int 2)) (.v 0)) (.v 3)) (.v 1)) (.cons (.bin .add (.bin .mul (.v 3) (.v 1)) (.k (.int 1))) .nil))) (.cons (.bin .sub (.bin .mul (.bin .sub (.bin .mul (.k (.int 2)) (.v 0)) (.v 2)) (.v 1)) (.bi .int (.cons (.cmp .eq (.v 2) (.k (.int 0))) .nil))) .nil)))) (.cons (.ret (.comp (.v 6) (.v 6) (.seq (.tup (.cons (.v 4) (.cons (.v 5) .nil)))) (.some (.cmp .le (.ix (.v 6) (.k (.int 0))) (.ix (.v 6) (.k (.int 1))))))) .nil)))) (h : spRg ds S0 Q X) : ds.length = 4 ∧ wpSs G b (start 7 ds) S0 (kR Q X) := by
  obtain ⟨s, v, lo, hi, rfl, R, hq⟩ := h
  subst hb
  refine ⟨rfl, ?_⟩
  obtain ⟨f1, f2, f3, f4, f5, f6, f7, f8, f9⟩ := R.fac
  have bs := R.bs
  have bv := R.bv
  have l0 := R.l0
  have lh := R.lh
  have hs := R.hs
  have blo : Bd 400 lo := bs.le l0 (by omega)
  have bhi : Bd 400 hi := bs.le (by omega) hs
  have b2s : Bd 402 (2 * s) := (bd2.mul bs).up (by decide)
  have bv' := bv.sm (show 400 ≤ 4000 by decide)
  have blo' := blo.sm (show 400 ≤ 4000 by decide)
  have bhi' := bhi.sm (show 400 ≤ 4000 by decide)
  have s1 := (b2s.sub (bhi.up (by decide))).sm (show 403 ≤ 4000 by decide)
  have s2 := (b2s.sub (blo.up (by decide))).sm (show 403 ≤ 4000 by decide)
  simp only [wpSs, wpS, wpE, wpEs, wpC, wpAnd, wpOr, wpO, wpIt, opt_some, onI_int, onB_bl, onR_ref, arg1_one, look, joinO, start, List.map_cons, List.map_nil, List.length_cons, List.length_nil, List.replicate, List.cons_append, List.nil_append, List.append_nil, List.getElem?_cons_succ, List.getElem?_cons_zero, kcD, Nat.reduceAdd, Nat.reduceSub, br_t, br_f, br_n, asg, setAll, List.set_cons_succ, List.set_cons_zero, tgs, wipe, eq_ii, ne_ii, lt_ii, le_ii, gt_ii, ge_ii, is_n, isn_n, is_b, isn_b, add_ii, sub_ii, mul_ii, mod_ii, fdiv_ii, pow_ii, isNon, biD, intD_i, intD_b, esLen, beq_self_eq_true, ixD_tup, lsOf_new, seqD_tup, seqD_fl, slD_tup, bools, Option.map_some, true_and, ixD_fl, lenD_tup, lenD_fl, ix30, ix31, ix32, at20, at21, at30, at31, at32, List.filterMap_cons, List.filterMap_nil, compW, Option.toList]
  refine ⟨blo', bv', bhi', bv', len_lim (by decide), bd2.sm (by decide), bs.sm (by decide), s1, bv', bhi', bv', bd2.sm (by decide), bs.sm (by decide), s2, bv', len_lim (by decide), len_lim (by decide), len_lim (by decide), ?_⟩
  refine br_d (fun _ => ?_) fun z => absurd f2 z
  refine br_d (fun z => ?_) fun z => ?_
  · intro r hr
    refine hq r _ (Ext.new hr) ?_
    have z' : r2l s v hi ≤ r2h s v lo := z
    rw [upd_at]
    unfold rgL
    rw [if_pos z']; rfl
  · intro r hr
    refine hq r _ (Ext.new hr) ?_
    have z' : ¬ r2l s v hi ≤ r2h s v lo := z
    rw [upd_at]
    unfold rgL
    rw [if_neg z']
theorem cmp_nil {S : Sto} {q q2 : Nat} {xs : List D} (h1 : S q = some (.lst xs)) (h2 : S q2 = some (.lst [])) (hf : fitL (fit 7 S) xs = true) {Q : Bool → Prop} (h : Q (!xs.isEmpty)) : cmpD .ne (.ref q) (.ref q2) S Q := by
  have f1 : fit dep S (.ref q) = true := by
    show optB (lstAt S q) (fitL (fit 7 S)) = true
    rw [lstAt_eq h1]; exact hf
  have f2 : fit dep S (.ref q2) = true := by
    show optB (lstAt S q2) (fitL (fit 7 S)) = true
    rw [lstAt_eq h2]; rfl
  have f3 : eqB dep S (.ref q) (.ref q2) = xs.isEmpty := by
    show eqO (eqLB (eqB 7 S)) (lstAt S q) (lsOf S (.ref q2)) = _
    rw [lstAt_eq h1, lsOf_ref h2]
    cases xs <;> rfl
  refine ⟨f1, f2, ?_⟩
  rw [f3]; exact h
def first_pass_B0 : Ss := (.cons (.ex (.mt .append (.v 6) (.cons (.call 7 (.cons (.bin .mul (.bin .mul (.k (.int 2)) (.v 0)) (.v 1)) (.cons (.v 2) (.cons (.v 3) (.cons (.v 7) (.cons (.v 8) .nil)))))) .nil))) .nil)
def first_pass_S0 : St := (.for_ (.tup [7, 8]) (.seq (.call 15 (.cons (.v 0) (.cons (.v 1) (.cons (.v 4) (.cons (.v 5) .nil)))))) first_pass_B0)
def first_pass_A0 : Ss := (.cons (.set (.v 9) (.comp (.v 10) (.v 10) (.seq (.v 6)) (.some (.cmp .isn (.v 10) (.k .non))))) (.cons (.ret (.ite (.cmp .ne (.v 9) (.lst .nil)) (.bi .min (.cons (.v 9) .nil)) (.k .non))) .nil))
def first_pass_T : Ss := (.cons (.set (.v 6) (.lst .nil)) (.cons first_pass_S0 first_pass_A0))
def optD : Option Nat → D
  | none => .non
  | some k => .int k
def Res (m f st lo hi : Int) : Option Nat → Prop
  | some k => Fst m f st lo hi k ∧ k < perM m f
  | none => ∀ k, k < perM m f → inR m f st lo hi k = false
theorem res_ex (m f st lo hi : Int) : ∃ o, Res m f st lo hi o := by
  rcases fst_exists (m := m) (f := f) (s := st) (lo := lo) (hi := hi) (perM m f) with h | ⟨k0, hk, hf⟩
  · exact ⟨none, h⟩
  · exact ⟨some k0, hf, hk⟩
theorem fst_uniq {P : Nat → Bool} {j k : Nat} (hj : P j = true ∧ ∀ i, i < j → P i = false) (hk : P k = true ∧ ∀ i, i < k → P i = false) : j = k := by
  rcases Nat.lt_trichotomy j k with h | h | h
  · have := hk.2 j h; rw [hj.1] at this; cases this
  · exact h
  · have := hj.2 k h; rw [hk.1] at this; cases this
def FstP (s v f st lo hi : Int) (k0 : Nat) : Prop := inP s v f st lo hi k0 = true ∧ ∀ k, k < k0 → inP s v f st lo hi k = false
def ResP (s v f st lo hi : Int) : Option Nat → Prop
  | some k => FstP s v f st lo hi k ∧ k < perM (2 * s * v) f
  | none => ∀ k, k < perM (2 * s * v) f → inP s v f st lo hi k = false
def omin : Option Nat → Option Nat → Option Nat
  | none, o => o
  | some k, none => some k
  | some k, some j => some (min k j)
theorem resP_of {s v f st lo hi : Int} (R : Rg s v lo hi) {o1 o2 : Option Nat} (h1 : Res (2 * s * v) f st (lo * v) (hi * v) o1) (h2 : Res (2 * s * v) f st (r2l s v hi) (r2h s v lo) o2) : ResP s v f st lo hi (omin o1 o2) := by
  have key := fun k => (in_p (f := f) (st := st) R k).1
  have kf : ∀ k, inR (2 * s * v) f st (lo * v) (hi * v) k = false → inR (2 * s * v) f st (r2l s v hi) (r2h s v lo) k = false → inP s v f st lo hi k = false := fun k e1 e2 => by
    cases h : inP s v f st lo hi k with
    | false => rfl
    | true =>
      rcases (key k).mp h with z | z
      · rw [e1] at z; cases z
      · rw [e2] at z; cases z
  cases o1 with
  | none =>
    cases o2 with
    | none => exact fun k hk => kf k (h1 k hk) (h2 k hk)
    | some j => exact ⟨⟨(key j).mpr (Or.inr h2.1.1), fun k hk => kf k (h1 k (by have := h2.2; omega)) (h2.1.2 k hk)⟩, h2.2⟩
  | some k0 =>
    cases o2 with
    | none => exact ⟨⟨(key k0).mpr (Or.inl h1.1.1), fun k hk => kf k (h1.1.2 k hk) (h2 k (by have := h1.2; omega))⟩, h1.2⟩
    | some j =>
      show FstP s v f st lo hi (min k0 j) ∧ _
      have a1 := h1.2
      have a2 := h2.2
      refine ⟨⟨?_, fun k hk => kf k (h1.1.2 k (by omega)) (h2.1.2 k (by omega))⟩, by omega⟩
      by_cases c : k0 ≤ j
      · rw [Nat.min_eq_left c]; exact (key k0).mpr (Or.inl h1.1.1)
      · rw [Nat.min_eq_right (by omega)]; exact (key j).mpr (Or.inr h2.1.1)
theorem fw_res {G : Gm} {n : Nat} (hw : G.fn n = spFW) {m f s lo hi : Int} {S : Sto} {Q : VK} {X : XK} {o : Option Nat} (hr : Res m f s lo hi o) (m0 : 0 < m) (bm : Bd 900 m) (bf : Bd 900 f) (bs : Bd 900 s) (l0 : 0 ≤ lo) (h1 : hi < m) (hq : Q (optD o) S) : cl (G.fn n) [.int m, .int f, .int s, .int lo, .int hi] S Q X := by
  refine call hw ⟨m, f, s, lo, hi, rfl, m0, bm, bf, bs, l0, h1, fun k0 h hk => ?_, fun h => ?_⟩
  · cases o with
    | none => have := hr k0 hk; rw [h.1] at this; cases this
    | some j =>
      have : k0 = j := fst_uniq h hr.1
      subst this; exact hq
  · cases o with
    | none => exact hq
    | some j => have := h j hr.2; rw [hr.1.1] at this; cases this
def spFP : Sp := fun ds S Q _ => ∃ s v f st lo hi : Int, ds = [.int s, .int v, .int f, .int st, .int lo, .int hi] ∧ Rg s v lo hi ∧ Bd 900 f ∧ Bd 900 st ∧ ∀ o S', Ext S S' → ResP s v f st lo hi o → Q (optD o) S'
theorem txt_fp {G : Gm} {ds : List D} {S0 : Sto} {Q : VK} {X : XK} {b : Ss} (hb : b = first_pass_T) (hw : G.fn 7 = spFW) (hr : G.fn 15 = spRg) (h : spFP ds S0 Q X) : ds.length = 6 ∧ wpSs G b (start 11 ds) S0 (kR Q X) := by
  obtain ⟨s, v, f, st, lo, hi, rfl, R, bf, bst, hq⟩ := h
  subst hb
  refine ⟨rfl, ?_⟩
  have m0 := R.m0
  obtain ⟨f1, f2, f3, f4, f5, f6, f7, f8, f9⟩ := R.fac
  have bs := R.bs
  have bv := R.bv
  have b2s : Bd 402 (2 * s) := (bd2.mul bs).up (by decide)
  have bm : Bd 900 (2 * s * v) := (b2s.mul bv).up (by decide)
  generalize hA : first_pass_A0 = A0
  generalize hB : first_pass_B0 = bo
  simp only [first_pass_T, first_pass_S0, hA, hB, wpSs, wpS, wpE, wpEs, wpC, wpAnd, wpOr, wpO, wpIt, opt_some, onI_int, onB_bl, onR_ref, arg1_one, look, joinO, start, List.map_cons, List.map_nil, List.length_cons, List.length_nil, List.replicate, List.cons_append, List.nil_append, List.append_nil, List.getElem?_cons_succ, List.getElem?_cons_zero, kcD, Nat.reduceAdd, Nat.reduceSub, br_t, br_f, br_n, asg, setAll, List.set_cons_succ, List.set_cons_zero, tgs, wipe, eq_ii, ne_ii, lt_ii, le_ii, gt_ii, ge_ii, is_n, isn_n, is_b, isn_b, add_ii, sub_ii, mul_ii, mod_ii, fdiv_ii, pow_ii, isNon, biD, intD_i, intD_b, esLen, beq_self_eq_true, ixD_tup, lsOf_new, seqD_tup, seqD_fl, slD_tup, bools, Option.map_some, true_and, ixD_fl, lenD_tup, lenD_fl, ix30, ix31, ix32, at20, at21, at30, at31, at32, List.filterMap_cons, List.filterMap_nil]
  refine mkL_ok (by simp) fun p hp => ?_
  have ep : (upd S0 p (.lst [])) p = some (.lst []) := upd_at
  have x1 : Ext S0 (upd S0 p (.lst [])) := Ext.new hp
  generalize upd S0 p (.lst []) = S1 at *
  refine call hr ⟨s, v, lo, hi, rfl, R, fun r S2 x2 er => ?_⟩
  simp only [seqD_ref er]
  have ep := x2 _ _ ep
  have pr : r ≠ p := fun z => by
    rw [z, ep] at er
    unfold rgL at er
    split at er <;> cases er
  obtain ⟨o1, r1⟩ := res_ex (2 * s * v) f st (lo * v) (hi * v)
  have turn : ∀ (l h : Int) (o : Option Nat) (xs : List D) (S3 : Sto) (o7 o8 o9 o10 : Option D) (nx : Env → Sto → Prop), 0 ≤ l → h < 2 * s * v → Res (2 * s * v) f st l h o → S3 p = some (.lst xs) → xs.length < 5 →
      (nx [some (.int s), some (.int v), some (.int f), some (.int st), some (.int lo), some (.int hi), some (.ref p), some (.int l), some (.int h), o9, o10] (upd S3 p (.lst (xs ++ [optD o])))) →
      wpSs G bo [some (.int s), some (.int v), some (.int f), some (.int st), some (.int lo), some (.int hi), some (.ref p), some (.int l), some (.int h), o9, o10] S3 ⟨nx, Q, fun ρ1 S1 => wpSs G A0 ρ1 S1 (kR Q X), fun k fs x S' => X k fs S'⟩ := by
    intro l h o xs S3 o7 o8 o9 o10 nx hl hh hres e3 hx hn
    subst hB
    simp only [first_pass_B0, wpSs, wpS, wpE, wpEs, wpC, wpAnd, wpOr, wpO, wpIt, opt_some, onI_int, onB_bl, onR_ref, arg1_one, look, joinO, start, List.map_cons, List.map_nil, List.length_cons, List.length_nil, List.replicate, List.cons_append, List.nil_append, List.append_nil, List.getElem?_cons_succ, List.getElem?_cons_zero, kcD, Nat.reduceAdd, Nat.reduceSub, br_t, br_f, br_n, asg, setAll, List.set_cons_succ, List.set_cons_zero, tgs, wipe, eq_ii, ne_ii, lt_ii, le_ii, gt_ii, ge_ii, is_n, isn_n, is_b, isn_b, add_ii, sub_ii, mul_ii, mod_ii, fdiv_ii, pow_ii, isNon, biD, intD_i, intD_b, esLen, beq_self_eq_true, ixD_tup, lsOf_new, seqD_tup, seqD_fl, slD_tup, bools, Option.map_some, true_and, ixD_fl, lenD_tup, lenD_fl, ix30, ix31, ix32, at20, at21, at30, at31, at32, List.filterMap_cons, List.filterMap_nil, lsOf_ref e3]
    refine ⟨bd2.sm (by decide), bs.sm (by decide), b2s.sm (by decide), bv.sm (by decide), ?_⟩
    refine fw_res hw hres m0 bm bf bst hl hh ?_
    exact append_ref e3 (by omega) hn
  have fin : ∀ (ods : List (Option Nat)) (S3 : Sto) (o7 o8 o9 o10 : Option D), ods.length ≤ 2 → S3 p = some (.lst (ods.map optD)) → Kp p S1 S3 → ResP s v f st lo hi (ods.foldl omin none) → wpSs G A0 [some (.int s), some (.int v), some (.int f), some (.int st), some (.int lo), some (.int hi), some (.ref p), o7, o8, o9, o10] S3 (kR Q X) := by
    intro ods S3 o7 o8 o9 o10 hl e3 k3 hres
    subst hA
    simp only [first_pass_A0, wpSs, wpS, wpE, wpEs, wpC, wpAnd, wpOr, wpO, wpIt, opt_some, onI_int, onB_bl, onR_ref, arg1_one, look, joinO, start, List.map_cons, List.map_nil, List.length_cons, List.length_nil, List.replicate, List.cons_append, List.nil_append, List.append_nil, List.getElem?_cons_succ, List.getElem?_cons_zero, kcD, Nat.reduceAdd, Nat.reduceSub, br_t, br_f, br_n, asg, setAll, List.set_cons_succ, List.set_cons_zero, tgs, wipe, eq_ii, ne_ii, lt_ii, le_ii, gt_ii, ge_ii, is_n, isn_n, is_b, isn_b, add_ii, sub_ii, mul_ii, mod_ii, fdiv_ii, pow_ii, isNon, biD, intD_i, intD_b, esLen, beq_self_eq_true, ixD_tup, lsOf_new, seqD_tup, seqD_fl, slD_tup, bools, Option.map_some, true_and, ixD_fl, lenD_tup, lenD_fl, ix30, ix31, ix32, at20, at21, at30, at31, at32, List.filterMap_cons, List.filterMap_nil, seqD_ref e3]
    refine ⟨Nat.le_trans (by rw [List.length_map]; exact hl) (len_lim (by decide)), compW_filt (chk := fun S' => S' p = some (.lst (ods.map optD))) (f := fun d => match d with | .non => false | _ => true) e3 (fun d hd k hk => ?_) fun q hq' => ?_⟩
    · obtain ⟨o, _, rfl⟩ := List.mem_map.mp hd
      cases o with
      | none => exact br_if (fun _ => hk) fun z => absurd z (by decide)
      | some k => exact br_if (fun z => by cases z) fun _ => hk
    · refine mkL_ok (by simp) fun q2 hq2 => ?_
      have e4 : (upd (upd S3 q (.lst (([] : List D) ++ (ods.map optD).filter fun d => match d with | .non => false | _ => true))) q2 (.lst [])) q = some (.lst ((ods.map optD).filter fun d => match d with | .non => false | _ => true)) := by
        rw [upd_off (fun z => by rw [z, upd_at] at hq2; cases hq2), upd_at]; rfl
      have e5 : (upd (upd S3 q (.lst (([] : List D) ++ (ods.map optD).filter fun d => match d with | .non => false | _ => true))) q2 (.lst [])) q2 = some (.lst []) := upd_at
      have x5 : Ext S3 (upd (upd S3 q (.lst (([] : List D) ++ (ods.map optD).filter fun d => match d with | .non => false | _ => true))) q2 (.lst [])) := (Ext.new hq').trans (Ext.new hq2)
      generalize upd (upd S3 q (.lst (([] : List D) ++ (ods.map optD).filter fun d => match d with | .non => false | _ => true))) q2 (.lst []) = S5 at *
      have x6 : Ext S0 S5 := fun a o ha => by
        have : a ≠ p := fun z => by rw [z, hp] at ha; cases ha
        exact x5 _ _ (k3 _ _ this (x1 _ _ ha))
      clear hq2 turn
      rcases ods with _ | ⟨o, _ | ⟨o', _ | ⟨o'', r⟩⟩⟩
      · exact cmp_nil e4 e5 rfl (br_if (fun z => by cases z) fun _ => hq none S5 x6 hres)
      · cases o with
        | none => exact cmp_nil e4 e5 rfl (br_if (fun z => by cases z) fun _ => hq none S5 x6 hres)
        | some k1 =>
          refine cmp_nil e4 e5 rfl ⟨fun _ => ?_, fun z => by cases z⟩
          rw [lsOf_ref e4]
          exact hq (some k1) S5 x6 hres
      · cases o with
        | none =>
          cases o' with
          | none => exact cmp_nil e4 e5 rfl (br_if (fun z => by cases z) fun _ => hq none S5 x6 hres)
          | some k2 =>
            refine cmp_nil e4 e5 rfl ⟨fun _ => ?_, fun z => by cases z⟩
            rw [lsOf_ref e4]
            exact hq (some k2) S5 x6 hres
        | some k1 =>
          cases o' with
          | none =>
            refine cmp_nil e4 e5 rfl ⟨fun _ => ?_, fun z => by cases z⟩
            rw [lsOf_ref e4]
            exact hq (some k1) S5 x6 hres
          | some k2 =>
            refine cmp_nil e4 e5 rfl ⟨fun _ => ?_, fun z => by cases z⟩
            rw [lsOf_ref e4]
            have := hq (some (min k1 k2)) S5 x6 hres
            show Q (.int (if (k2 : Int) < k1 then (k2 : Int) else k1)) S5
            by_cases c : k2 < k1
            · rw [if_pos (by omega)]
              rw [Nat.min_eq_right (by omega)] at this
              exact this
            · rw [if_neg (by omega)]
              rw [Nat.min_eq_left (by omega)] at this
              exact this
      · exact absurd hl (by simp)
  have mN : 2 * s * v = 2 * (s * v) := f9
  have hiM : hi * v < 2 * s * v := by omega
  unfold rgL at er ⊢
  by_cases z : r2l s v hi ≤ r2h s v lo
  · obtain ⟨o2, r2⟩ := res_ex (2 * s * v) f st (r2l s v hi) (r2h s v lo)
    rw [if_pos z] at er ⊢
    simp only [forW, wpSs, wpS, wpE, wpEs, wpC, wpAnd, wpOr, wpO, wpIt, opt_some, onI_int, onB_bl, onR_ref, arg1_one, look, joinO, start, List.map_cons, List.map_nil, List.length_cons, List.length_nil, List.replicate, List.cons_append, List.nil_append, List.append_nil, List.getElem?_cons_succ, List.getElem?_cons_zero, kcD, Nat.reduceAdd, Nat.reduceSub, br_t, br_f, br_n, asg, setAll, List.set_cons_succ, List.set_cons_zero, tgs, wipe, eq_ii, ne_ii, lt_ii, le_ii, gt_ii, ge_ii, is_n, isn_n, is_b, isn_b, add_ii, sub_ii, mul_ii, mod_ii, fdiv_ii, pow_ii, isNon, biD, intD_i, intD_b, esLen, beq_self_eq_true, ixD_tup, lsOf_new, seqD_tup, seqD_fl, slD_tup, bools, Option.map_some, true_and, ixD_fl, lenD_tup, lenD_fl, ix30, ix31, ix32, at20, at21, at30, at31, at32, List.filterMap_cons, List.filterMap_nil]
    refine ⟨er, turn _ _ o1 [] S2 none none none none _ f1 hiM r1 ep (by simp) ?_⟩
    have er3 : (upd S2 p (.lst (([] : List D) ++ [optD o1]))) r = some (.lst [prD (lo * v) (hi * v), prD (r2l s v hi) (r2h s v lo)]) := by rw [upd_off pr]; exact er
    have ep3 : (upd S2 p (.lst (([] : List D) ++ [optD o1]))) p = some (.lst ([optD o1])) := upd_at
    have k3 : Kp p S1 (upd S2 p (.lst (([] : List D) ++ [optD o1]))) := (x2.kp p).trans Kp.wr
    generalize upd S2 p (.lst (([] : List D) ++ [optD o1])) = S3 at *
    have hr1 : r2h s v lo < 2 * s * v := by
      unfold r2h
      rw [b2i_z, f8]
      by_cases c : lo = 0
      · rw [if_pos c]; omega
      · rw [if_neg c]; have := f6 c; omega
    have hl1 : 0 ≤ r2l s v hi := by
      unfold r2l
      rw [f7]
      split <;> omega
    refine ⟨er3, turn _ _ o2 [optD o1] S3 none none none none _ hl1 hr1 r2 ep3 (by simp) ?_⟩
    have er4 : (upd S3 p (.lst ([optD o1] ++ [optD o2]))) r = some (.lst [prD (lo * v) (hi * v), prD (r2l s v hi) (r2h s v lo)]) := by rw [upd_off pr]; exact er3
    have ep4 : (upd S3 p (.lst ([optD o1] ++ [optD o2]))) p = some (.lst ([optD o1, optD o2])) := upd_at
    have k4 : Kp p S1 (upd S3 p (.lst ([optD o1] ++ [optD o2]))) := k3.trans Kp.wr
    exact ⟨er4, fin [o1, o2] _ _ _ _ _ (by simp) ep4 k4 (resP_of R r1 r2)⟩
  · rw [if_neg z] at er ⊢
    simp only [forW, wpSs, wpS, wpE, wpEs, wpC, wpAnd, wpOr, wpO, wpIt, opt_some, onI_int, onB_bl, onR_ref, arg1_one, look, joinO, start, List.map_cons, List.map_nil, List.length_cons, List.length_nil, List.replicate, List.cons_append, List.nil_append, List.append_nil, List.getElem?_cons_succ, List.getElem?_cons_zero, kcD, Nat.reduceAdd, Nat.reduceSub, br_t, br_f, br_n, asg, setAll, List.set_cons_succ, List.set_cons_zero, tgs, wipe, eq_ii, ne_ii, lt_ii, le_ii, gt_ii, ge_ii, is_n, isn_n, is_b, isn_b, add_ii, sub_ii, mul_ii, mod_ii, fdiv_ii, pow_ii, isNon, biD, intD_i, intD_b, esLen, beq_self_eq_true, ixD_tup, lsOf_new, seqD_tup, seqD_fl, slD_tup, bools, Option.map_some, true_and, ixD_fl, lenD_tup, lenD_fl, ix30, ix31, ix32, at20, at21, at30, at31, at32, List.filterMap_cons, List.filterMap_nil]
    refine ⟨er, turn _ _ o1 [] S2 none none none none _ f1 hiM r1 ep (by simp) ?_⟩
    have er3 : (upd S2 p (.lst (([] : List D) ++ [optD o1]))) r = some (.lst [prD (lo * v) (hi * v)]) := by rw [upd_off pr]; exact er
    have ep3 : (upd S2 p (.lst (([] : List D) ++ [optD o1]))) p = some (.lst ([optD o1])) := upd_at
    have k3 : Kp p S1 (upd S2 p (.lst (([] : List D) ++ [optD o1]))) := (x2.kp p).trans Kp.wr
    have r2 : Res (2 * s * v) f st (r2l s v hi) (r2h s v lo) none := fun k _ => in_none (by omega) k
    have r3 := resP_of R r1 r2
    refine ⟨er3, fin [o1] _ _ _ _ _ (by simp) ep3 k3 ?_⟩
    cases o1 <;> exact r3
end M
namespace M
theorem dvd_cop {B A X : Int} (hg : Int.gcd A B = 1) (h : B ∣ A * X) : B ∣ X := by
  have := sol_uniq (R := 0) hg (l := X) (r := 0) (by rw [Int.sub_zero]; exact h) (by rw [Int.mul_zero, Int.sub_zero]; exact Int.dvd_zero B)
  rwa [Int.sub_zero] at this
def spLl : Sp := fun ds S Q _ => ∃ f r m, ds = [.int f, .int r, .int m] ∧ 0 < m ∧ Bd 3000 m ∧ Bd 900 r ∧ (r % ((Int.gcd f m : Nat) : Int) ≠ 0 → Q .non S) ∧ (r % ((Int.gcd f m : Nat) : Int) = 0 → ∀ l : Int, 0 ≤ l → l < m / ((Int.gcd f m : Nat) : Int) → m / ((Int.gcd f m : Nat) : Int) ∣ f / ((Int.gcd f m : Nat) : Int) * l - r / ((Int.gcd f m : Nat) : Int) → Q (.int l) S)
theorem inP_per {s v f st lo hi : Int} (m0 : 0 < 2 * s * v) (k : Nat) : inP s v f st lo hi (k + perM (2 * s * v) f) = inP s v f st lo hi k := by
  have g0 := gcdm_pos (f := f) m0
  have d1 := Int.mul_ediv_cancel' (Int.gcd_dvd_left f (2 * s * v))
  have d2 := Int.mul_ediv_cancel' (Int.gcd_dvd_right f (2 * s * v))
  rw [perM_eq m0] at d2
  have e : f * ((k + perM (2 * s * v) f : Nat) : Int) + st = (f * k + st) + (f / (Int.gcd f (2 * s * v) : Nat)) * (2 * s * v) := by
    rw [Int.natCast_add]
    generalize (perM (2 * s * v) f : Int) = w at *
    generalize f / (Int.gcd f (2 * s * v) : Nat) = u at *
    generalize ((Int.gcd f (2 * s * v) : Nat) : Int) = g at *
    have : f * (k + w) + st = f * k + st + f * w := by grind
    rw [this, ← d2]
    have : f * w = u * (g * w) := by rw [← d1]; grind
    rw [this]
  unfold inP
  rw [e]
  unfold foldT
  rw [Int.add_mul_emod_self_right]
theorem inP_never {s v f st lo hi : Int} (m0 : 0 < 2 * s * v) (h : ∀ k, k < perM (2 * s * v) f → inP s v f st lo hi k = false) : ∀ n k : Nat, k ≤ n → inP s v f st lo hi k = false := by
  have pp := perM_pos (f := f) m0
  intro n
  induction n with
  | zero => intro k hk; exact h k (by omega)
  | succ n ih =>
    intro k hk
    by_cases c : k < perM (2 * s * v) f
    · exact h k c
    · have := inP_per (f := f) (st := st) (lo := lo) (hi := hi) m0 (k - perM (2 * s * v) f)
      rw [Nat.sub_add_cancel (by omega)] at this
      rw [this]
      exact ih _ (by omega)
end M
namespace M
/-! ### when two folded numbers are equal -/
theorem fold_iff {s A B d : Int} (hm : 0 < s * d) : foldT s A d = foldT s B d ↔ (∃ z, A - B = 2 * s * d * z) ∨ ∃ z, A + B = 2 * s * d * z := by
  have e : 2 * s * d = 2 * (s * d) := by grind
  have m0 : 0 < 2 * s * d := by omega
  have ea := Int.emod_add_mul_ediv A (2 * s * d)
  have eb := Int.emod_add_mul_ediv B (2 * s * d)
  have a0 := Int.emod_nonneg A (show 2 * s * d ≠ 0 by omega)
  have a1 := Int.emod_lt_of_pos A m0
  have b0 := Int.emod_nonneg B (show 2 * s * d ≠ 0 by omega)
  have b1 := Int.emod_lt_of_pos B m0
  unfold foldT
  generalize 2 * s * d = m at *
  generalize A % m = a at *
  generalize B % m = b at *
  generalize A / m = i at *
  generalize B / m = j at *
  have lt_of : ∀ {u v : Int}, m * u < m * v → u < v := fun h => Int.lt_of_mul_lt_mul_left h (Int.le_of_lt m0)
  constructor
  · intro h
    have : a = b ∨ a = m - b := by split at h <;> split at h <;> omega
    rcases this with h | h
    · exact Or.inl ⟨i - j, by rw [Int.mul_sub]; omega⟩
    · refine Or.inr ⟨i + j + 1, ?_⟩
      have : m * (i + j + 1) = m * i + m * j + m := by grind
      omega
  · rintro (⟨z, h⟩ | ⟨z, h⟩)
    · have p1 : m * (i - j - z) < m * 1 := by
        have : m * (i - j - z) = m * i - m * j - m * z := by grind
        omega
      have p2 : m * (-1) < m * (i - j - z) := by
        have : m * (i - j - z) = m * i - m * j - m * z := by grind
        omega
      have p1 := lt_of p1
      have p2 := lt_of p2
      have : i = j + z := by omega
      have : m * i = m * j + m * z := by rw [this]; grind
      have : a = b := by omega
      rw [this]
    · have p1 : m * (i + j - z) < m * 1 := by
        have : m * (i + j - z) = m * i + m * j - m * z := by grind
        omega
      have p2 : m * (-2) < m * (i + j - z) := by
        have : m * (i + j - z) = m * i + m * j - m * z := by grind
        omega
      have p1 := lt_of p1
      have p2 := lt_of p2
      have : i + j - z = 0 ∨ i + j - z = -1 := by omega
      rcases this with q | q
      · have : m * (i + j - z) = 0 := by rw [q, Int.mul_zero]
        have : m * (i + j - z) = m * i + m * j - m * z := by grind
        have : a + b = 0 := by omega
        have : a = 0 := by omega
        have : b = 0 := by omega
        subst a b; rfl
      · have : m * (i + j - z) = -m := by rw [q]; omega
        have : m * (i + j - z) = m * i + m * j - m * z := by grind
        have : a + b = m := by omega
        split <;> split <;> omega
theorem low_inj2 {A B d : Int} (hd : 0 < d) (h : low A d = low B d) : A = B := by
  obtain ⟨m, n, e1, h1, n0, _, _⟩ := low_cmp (A := A) hd
  obtain ⟨m', n', e2, h2, n0', _, _⟩ := low_cmp (A := B) hd
  rw [e1, e2] at h
  obtain ⟨rfl, rfl⟩ := pr_inj h
  rw [h1] at h2
  exact Int.eq_of_mul_eq_mul_right (show n ≠ 0 by omega) h2
/-- way * t is the gap by twice the side -/
def Eqt (s w u t d : Int) : Prop := ∃ z : Int, w * t = (u + 2 * s * z) * d
theorem eqt_sc {s w u t d t' d' : Int} (hd : 0 < d) (e : t * d' = t' * d) (h : Eqt s w u t d) : Eqt s w u t' d' := by
  obtain ⟨z, h⟩ := h
  refine ⟨z, Int.eq_of_mul_eq_mul_right (show d ≠ 0 by omega) ?_⟩
  have e1 : w * t' * d = w * (t' * d) := by grind
  rw [e1, ← e]
  have e2 : w * (t * d') = (w * t) * d' := by grind
  rw [e2, h]; grind
theorem axis_meet {s x p x' p' t d : Int} (hs : 0 < s) (hd : 0 < d) : low (foldT s (x * d + p * t) d) d = low (foldT s (x' * d + p' * t) d) d ↔ (Eqt s (p - 1 * p') (1 * x' - x) t d ∨ Eqt s (p - -1 * p') (-1 * x' - x) t d) := by
  constructor
  · intro h
    rcases (fold_iff (mulp hs hd)).mp (low_inj2 hd h) with ⟨z, h⟩ | ⟨z, h⟩
    · exact Or.inl ⟨z, by grind⟩
    · exact Or.inr ⟨z, by grind⟩
  · intro h
    have : foldT s (x * d + p * t) d = foldT s (x' * d + p' * t) d := (fold_iff (mulp hs hd)).mpr (by
      rcases h with ⟨z, h⟩ | ⟨z, h⟩
      · exact Or.inl ⟨z, by grind⟩
      · exact Or.inr ⟨z, by grind⟩)
    rw [this]
/-! ### the least time -/
def LstP (P : Int → Int → Prop) (v : D) : Prop := (v = .non ∧ ∀ t d, 0 ≤ t → 0 < d → ¬ P t d) ∨ ∃ t d, v = prD t d ∧ partB (prD t d) = true ∧ 0 ≤ t ∧ 0 < d ∧ P t d ∧ ∀ t' d', 0 ≤ t' → 0 < d' → P t' d' → t * d' ≤ t' * d
theorem low_self' {t b : Int} (h : partB (prD t b) = true) : low t b = prD t b := by
  rw [part_of, Bool.and_eq_true_iff] at h
  have h := h.2
  have g : Int.gcd t b = 1 := by simpa using h
  unfold low
  rw [g]; simp
theorem lst_uniq {P : Int → Int → Prop} {v v' : D} (h : LstP P v) (h' : LstP P v') : v = v' := by
  rcases h with ⟨rfl, h⟩ | ⟨t, d, rfl, hp, t0, d0, h1, h2⟩
  · rcases h' with ⟨rfl, _⟩ | ⟨t, d, rfl, _, t0, d0, h1, _⟩
    · rfl
    · exact absurd h1 (h t d t0 d0)
  · rcases h' with ⟨rfl, h'⟩ | ⟨t', d', rfl, hp', t0', d0', h1', h2'⟩
    · exact absurd h1 (h' t d t0 d0)
    · have a := h2 t' d' t0' d0' h1'
      have b := h2' t d t0 d0 h1
      have e : t * d' = t' * d := by omega
      have el := low_eq d0 d0' e
      rw [low_self' hp, low_self' hp'] at el
      exact el
theorem lst_iff {P Q : Int → Int → Prop} (h : ∀ t d, 0 ≤ t → 0 < d → (P t d ↔ Q t d)) {v : D} (hv : LstP P v) : LstP Q v := by
  rcases hv with ⟨rfl, hv⟩ | ⟨t, d, rfl, hp, t0, d0, h1, h2⟩
  · exact Or.inl ⟨rfl, fun t d t0 d0 q => hv t d t0 d0 ((h t d t0 d0).mpr q)⟩
  · exact Or.inr ⟨t, d, rfl, hp, t0, d0, (h t d t0 d0).mp h1, fun t' d' t0' d0' q => h2 t' d' t0' d0' ((h t' d' t0' d0').mpr q)⟩
/-- the least of two -/
def lessD (u v : D) : Prop := ∃ t d t' d', u = prD t d ∧ v = prD t' d' ∧ t * d' ≤ t' * d
theorem lst_or {P Q : Int → Int → Prop} {u v : D} (hu : LstP P u) (hv : LstP Q v) : (u = .non → LstP (fun t d => P t d ∨ Q t d) v) ∧ (v = .non → LstP (fun t d => P t d ∨ Q t d) u) ∧ (∀ t d t' d', u = prD t d → v = prD t' d' → (t * d' ≤ t' * d → LstP (fun t d => P t d ∨ Q t d) u) ∧ (t' * d ≤ t * d' → LstP (fun t d => P t d ∨ Q t d) v)) := by
  refine ⟨fun h => ?_, fun h => ?_, fun t d t' d' e e' => ?_⟩
  · rcases hu with ⟨_, hu⟩ | ⟨t, d, e, _⟩
    · exact lst_iff (fun t d t0 d0 => ⟨Or.inr, fun z => z.resolve_left (hu t d t0 d0)⟩) hv
    · rw [e] at h; cases h
  · rcases hv with ⟨_, hv⟩ | ⟨t, d, e, _⟩
    · exact lst_iff (fun t d t0 d0 => ⟨Or.inl, fun z => z.resolve_right (hv t d t0 d0)⟩) hu
    · rw [e] at h; cases h
  · rcases hu with ⟨z, _⟩ | ⟨t1, d1, e1, p1, t10, d10, h1, m1⟩
    · rw [e] at z; cases z
    · rcases hv with ⟨z, _⟩ | ⟨t2, d2, e2, p2, t20, d20, h2, m2⟩
      · rw [e'] at z; cases z
      · rw [e] at e1
        rw [e'] at e2
        obtain ⟨rfl, rfl⟩ := pr_inj e1
        obtain ⟨rfl, rfl⟩ := pr_inj e2
        have tr : ∀ {a b c e f g : Int}, 0 < b → 0 < e → 0 < g → a * e ≤ c * b → c * g ≤ f * e → a * g ≤ f * b := fun {a b c e f g} hb he hg h1 h2 => by
          refine Int.le_of_mul_le_mul_left ?_ he
          have s1 := Int.mul_le_mul_of_nonneg_right h1 (Int.le_of_lt hg)
          have s2 := Int.mul_le_mul_of_nonneg_right h2 (Int.le_of_lt hb)
          have x1 : e * (a * g) = a * e * g := by grind
          have x2 : e * (f * b) = f * e * b := by grind
          have x3 : c * b * g = c * g * b := by grind
          omega
        refine ⟨fun hle => Or.inr ⟨t, d, e, p1, t10, d10, Or.inl h1, fun t3 d3 t30 d30 h3 => ?_⟩, fun hle => Or.inr ⟨t', d', e', p2, t20, d20, Or.inr h2, fun t3 d3 t30 d30 h3 => ?_⟩⟩
        · rcases h3 with h3 | h3
          · exact m1 t3 d3 t30 d30 h3
          · exact tr d10 d20 d30 hle (m2 t3 d3 t30 d30 h3)
        · rcases h3 with h3 | h3
          · exact tr d20 d10 d30 hle (m1 t3 d3 t30 d30 h3)
          · exact m2 t3 d3 t30 d30 h3
end M
namespace M
theorem part_low0 {t b : Int} (hb : 0 < b) : partB (low t b) = true := by
  show partB (prD (t / ((Int.gcd t b : Nat) : Int)) (b / ((Int.gcd t b : Nat) : Int))) = true
  have p := gdiv_pos (t := t) hb
  rw [part_of, gcd_div hb, decide_eq_true (by omega)]
  rfl
/-- the times of one number by a sign -/
theorem eqt_row {s w u : Int} (hs : 0 < s) (hw : 0 < w) {t d : Int} (t0 : 0 ≤ t) (d0 : 0 < d) : Eqt s w u t d ↔ ∃ i : Int, 0 ≤ i ∧ w * t = (u % (2 * s) + 2 * s * i) * d := by
  have e := Int.emod_add_mul_ediv u (2 * s)
  have r1 := Int.emod_lt_of_pos u (show 0 < 2 * s by omega)
  constructor
  · rintro ⟨z, h⟩
    refine ⟨u / (2 * s) + z, ?_, ?_⟩
    · have h0 : 0 ≤ w * t := Int.mul_nonneg (by omega) t0
      rw [h] at h0
      have h1 : 0 ≤ u + 2 * s * z := by
        rcases Int.lt_or_le (u + 2 * s * z) 0 with y | y
        · have := Int.mul_neg_of_neg_of_pos y d0; omega
        · exact y
      have h2 : u + 2 * s * z = u % (2 * s) + 2 * s * (u / (2 * s) + z) := by
        have : 2 * s * (u / (2 * s) + z) = 2 * s * (u / (2 * s)) + 2 * s * z := by grind
        omega
      rw [h2] at h1
      rcases Int.lt_or_le (u / (2 * s) + z) 0 with y | y
      · have : 2 * s * (u / (2 * s) + z) ≤ 2 * s * (-1) := Int.mul_le_mul_of_nonneg_left (by omega) (by omega)
        omega
      · exact y
    · rw [h]
      have : u + 2 * s * z = u % (2 * s) + 2 * s * (u / (2 * s) + z) := by
        have : 2 * s * (u / (2 * s) + z) = 2 * s * (u / (2 * s)) + 2 * s * z := by grind
        omega
      rw [this]
  · rintro ⟨i, _, h⟩
    refine ⟨i - u / (2 * s), ?_⟩
    rw [h]
    have : u + 2 * s * (i - u / (2 * s)) = u % (2 * s) + 2 * s * i := by
      have : 2 * s * (i - u / (2 * s)) = 2 * s * i - 2 * s * (u / (2 * s)) := by grind
      omega
    rw [this]
theorem eqt_neg {s w u t d : Int} : Eqt s (-w) (-u) t d ↔ Eqt s w u t d := by
  constructor
  · rintro ⟨z, h⟩; exact ⟨-z, by grind⟩
  · rintro ⟨z, h⟩; exact ⟨-z, by grind⟩
end M
namespace M
def least_of_B0 : Ss := (.cons (.if_ (.and (.cmp .isn (.v 2) (.k .non)) (.cons (.or (.cmp .is_ (.v 1) (.k .non)) (.cons (.call 3 (.cons (.v 2) (.cons (.v 1) .nil))) .nil)) .nil)) (.cons (.set (.v 1) (.v 2)) .nil) .nil) .nil)
def least_of_S0 : St := (.for_ (.v 2) (.seq (.v 0)) least_of_B0)
def least_of_A0 : Ss := (.cons (.ret (.v 1)) .nil)
def least_of_T : Ss := (.cons (.set (.v 1) (.k .non)) (.cons least_of_S0 least_of_A0))
def Tms (ts : List D) (U : Int → Int → Prop) : Prop := (∀ v ∈ ts, v = .non ∨ ∃ t d, v = prD t d ∧ partB (prD t d) = true ∧ 0 ≤ t ∧ 0 < d ∧ Bd 2000 t ∧ Bd 2000 d ∧ U t d) ∧ ∀ t d, 0 ≤ t → 0 < d → U t d → ∃ t' d', prD t' d' ∈ ts ∧ 0 < d' ∧ t' * d ≤ t * d'
theorem le_tr {a b c e f g : Int} (hb : 0 < b) (he : 0 < e) (hg : 0 < g) (h1 : a * e ≤ c * b) (h2 : c * g ≤ f * e) : a * g ≤ f * b := by
  refine Int.le_of_mul_le_mul_left ?_ he
  have s1 := Int.mul_le_mul_of_nonneg_right h1 (Int.le_of_lt hg)
  have s2 := Int.mul_le_mul_of_nonneg_right h2 (Int.le_of_lt hb)
  have x1 : e * (a * g) = a * e * g := by grind
  have x2 : e * (f * b) = f * e * b := by grind
  have x3 : c * b * g = c * g * b := by grind
  omega
def spLess : Sp := fun ds S Q _ => ∃ t b t2 b2, ds = [prD t b, prD t2 b2] ∧ Bd 2000 t ∧ Bd 2000 b ∧ Bd 2000 t2 ∧ Bd 2000 b2 ∧ Q (.bl (decide (t * b2 < t2 * b))) S
theorem txt_less {G : Gm} {ds : List D} {S0 : Sto} {Q : VK} {X : XK} {b : Ss} (hb : b = (.cons (.ret (.cmp .lt (.bin .mul (.ix (.v 0) (.k (.int 0))) (.ix (.v 1) (.k (.int 1)))) (.bin .mul (.ix (.v 1) (.k (.int 0))) (.ix (.v 0) (.k (.int 1)))))) .nil)) (h : spLess ds S0 Q X) : ds.length = 2 ∧ wpSs G b (start 2 ds) S0 (kR Q X) := by
  obtain ⟨t, b2, t2, b3, rfl, b1, b4, b5, b6, hq⟩ := h
  subst hb
  refine ⟨rfl, ?_⟩
  simp only [wpSs, wpS, wpE, wpEs, wpC, wpAnd, wpOr, wpO, wpIt, opt_some, onI_int, onB_bl, onR_ref, arg1_one, look, joinO, start, List.map_cons, List.map_nil, List.length_cons, List.length_nil, List.replicate, List.cons_append, List.nil_append, List.append_nil, List.getElem?_cons_succ, List.getElem?_cons_zero, kcD, Nat.reduceAdd, Nat.reduceSub, br_t, br_f, br_n, asg, setAll, List.set_cons_succ, List.set_cons_zero, tgs, wipe, eq_ii, ne_ii, lt_ii, le_ii, gt_ii, ge_ii, is_n, isn_n, is_b, isn_b, add_ii, sub_ii, mul_ii, mod_ii, fdiv_ii, pow_ii, isNon, biD, intD_i, intD_b, esLen, beq_self_eq_true, ixD_tup, lsOf_new, seqD_tup, seqD_fl, slD_tup, bools, Option.map_some, true_and, ixD_fl, lenD_tup, lenD_fl, ix30, ix31, ix32, at20, at21, at30, at31, at32, List.filterMap_cons, List.filterMap_nil]
  exact ⟨b1.sm (by decide), b6.sm (by decide), b5.sm (by decide), b4.sm (by decide), hq⟩
/-- the least of the first ones -/
def LtI (L : List D) (j : Nat) (f : D) : Prop := (f = .non ∧ ∀ i, i < j → L[i]? = some .non) ∨ ∃ t d, f = prD t d ∧ f ∈ L ∧ ∀ i t' d', i < j → L[i]? = some (prD t' d') → t * d' ≤ t' * d
theorem lt_keep {L : List D} {j : Nat} {t d : Int} {U : Int → Int → Prop} {g : D} (hg : L[j]? = some g) (hu : ∀ t' d', g = prD t' d' → t * d' ≤ t' * d) (hm : prD t d ∈ L) (h : ∀ i t' d', i < j → L[i]? = some (prD t' d') → t * d' ≤ t' * d) : LtI L (j + 1) (prD t d) := .inr ⟨t, d, rfl, hm, fun i t' d' hi he => by
  rcases Nat.lt_succ_iff_lt_or_eq.mp hi with z | rfl
  · exact h i t' d' z he
  · rw [he] at hg; injection hg with hg; exact hu t' d' hg.symm⟩
def spLeo : Sp := fun ds S Q _ => ∃ r xs U, ds = [.ref r] ∧ S r = some (.lst xs) ∧ Tms xs U ∧ ∀ d, LstP U d → (d = .non ∨ d ∈ xs) → Q d S
theorem txt_leo {G : Gm} {ds : List D} {S0 : Sto} {Q : VK} {X : XK} {b : Ss} (hb : b = least_of_T) (hl : G.fn 3 = spLess) (h : spLeo ds S0 Q X) : ds.length = 1 ∧ wpSs G b (start 3 ds) S0 (kR Q X) := by
  obtain ⟨r, xs, U, rfl, er, ht, hq⟩ := h
  subst hb
  refine ⟨rfl, ?_⟩
  generalize hA : least_of_A0 = A0
  generalize hB : least_of_B0 = bo
  simp only [least_of_T, least_of_S0, hA, hB, wpSs, wpS, wpE, wpEs, wpC, wpAnd, wpOr, wpO, wpIt, opt_some, onI_int, onB_bl, onR_ref, arg1_one, look, joinO, start, List.map_cons, List.map_nil, List.length_cons, List.length_nil, List.replicate, List.cons_append, List.nil_append, List.append_nil, List.getElem?_cons_succ, List.getElem?_cons_zero, kcD, Nat.reduceAdd, Nat.reduceSub, br_t, br_f, br_n, asg, setAll, List.set_cons_succ, List.set_cons_zero, tgs, wipe, eq_ii, ne_ii, lt_ii, le_ii, gt_ii, ge_ii, is_n, isn_n, is_b, isn_b, add_ii, sub_ii, mul_ii, mod_ii, fdiv_ii, pow_ii, isNon, biD, intD_i, intD_b, esLen, beq_self_eq_true, ixD_tup, lsOf_new, seqD_tup, seqD_fl, slD_tup, bools, Option.map_some, true_and, ixD_fl, lenD_tup, lenD_fl, ix30, ix31, ix32, at20, at21, at30, at31, at32, List.filterMap_cons, List.filterMap_nil, seqD_ref er]
  refine forW_ix (L := xs) (I := fun j ρ S => S = S0 ∧ ∃ d o, ρ = [some (.ref r), some d, o] ∧ LtI xs j d) (fun j d ρ S nx' hj hI hn => ?_) (fun ρ S hI => ?_) xs 0 _ _ rfl (by simp) ⟨rfl, .non, none, rfl, .inl ⟨rfl, fun i hi => by omega⟩⟩
  · obtain ⟨rfl, f, o, rfl, hf⟩ := hI
    refine ⟨er, ?_⟩
    have hd := List.mem_of_getElem? hj
    have go : ∀ g, LtI xs (j + 1) g → nx' [some (.ref r), some g, some d] S := fun g hg => hn _ _ ⟨rfl, g, _, rfl, hg⟩
    subst hB
    simp only [least_of_B0, wpSs, wpS, wpE, wpEs, wpC, wpAnd, wpOr, wpO, wpIt, opt_some, onI_int, onB_bl, onR_ref, arg1_one, look, joinO, start, List.map_cons, List.map_nil, List.length_cons, List.length_nil, List.replicate, List.cons_append, List.nil_append, List.append_nil, List.getElem?_cons_succ, List.getElem?_cons_zero, kcD, Nat.reduceAdd, Nat.reduceSub, br_t, br_f, br_n, asg, setAll, List.set_cons_succ, List.set_cons_zero, tgs, wipe, eq_ii, ne_ii, lt_ii, le_ii, gt_ii, ge_ii, is_n, isn_n, is_b, isn_b, add_ii, sub_ii, mul_ii, mod_ii, fdiv_ii, pow_ii, isNon, biD, intD_i, intD_b, esLen, beq_self_eq_true, ixD_tup, lsOf_new, seqD_tup, seqD_fl, slD_tup, bools, Option.map_some, true_and, ixD_fl, lenD_tup, lenD_fl, ix30, ix31, ix32, at20, at21, at30, at31, at32, List.filterMap_cons, List.filterMap_nil]
    rcases ht.1 d hd with rfl | ⟨t, b, rfl, hp, t0, b0, bt, bb, hu⟩
    · simp only [wpSs, wpS, wpE, wpEs, wpC, wpAnd, wpOr, wpO, wpIt, opt_some, onI_int, onB_bl, onR_ref, arg1_one, look, joinO, start, List.map_cons, List.map_nil, List.length_cons, List.length_nil, List.replicate, List.cons_append, List.nil_append, List.append_nil, List.getElem?_cons_succ, List.getElem?_cons_zero, kcD, Nat.reduceAdd, Nat.reduceSub, br_t, br_f, br_n, asg, setAll, List.set_cons_succ, List.set_cons_zero, tgs, wipe, eq_ii, ne_ii, lt_ii, le_ii, gt_ii, ge_ii, is_n, isn_n, is_b, isn_b, add_ii, sub_ii, mul_ii, mod_ii, fdiv_ii, pow_ii, isNon, biD, intD_i, intD_b, esLen, beq_self_eq_true, ixD_tup, lsOf_new, seqD_tup, seqD_fl, slD_tup, bools, Option.map_some, true_and, ixD_fl, lenD_tup, lenD_fl, ix30, ix31, ix32, at20, at21, at30, at31, at32, List.filterMap_cons, List.filterMap_nil]
      refine go f ?_
      rcases hf with ⟨rfl, hf⟩ | ⟨t', b', rfl, hm, hf⟩
      · exact .inl ⟨rfl, fun i hi => by
          rcases Nat.lt_succ_iff_lt_or_eq.mp hi with z | rfl
          · exact hf i z
          · exact hj⟩
      · exact lt_keep (U := U) hj (fun _ _ z => (nomatch z)) hm hf
    · simp only [wpSs, wpS, wpE, wpEs, wpC, wpAnd, wpOr, wpO, wpIt, opt_some, onI_int, onB_bl, onR_ref, arg1_one, look, joinO, start, List.map_cons, List.map_nil, List.length_cons, List.length_nil, List.replicate, List.cons_append, List.nil_append, List.append_nil, List.getElem?_cons_succ, List.getElem?_cons_zero, kcD, Nat.reduceAdd, Nat.reduceSub, br_t, br_f, br_n, asg, setAll, List.set_cons_succ, List.set_cons_zero, tgs, wipe, eq_ii, ne_ii, lt_ii, le_ii, gt_ii, ge_ii, is_n, isn_n, is_b, isn_b, add_ii, sub_ii, mul_ii, mod_ii, fdiv_ii, pow_ii, isNon, biD, intD_i, intD_b, esLen, beq_self_eq_true, ixD_tup, lsOf_new, seqD_tup, seqD_fl, slD_tup, bools, Option.map_some, true_and, ixD_fl, lenD_tup, lenD_fl, ix30, ix31, ix32, at20, at21, at30, at31, at32, List.filterMap_cons, List.filterMap_nil]
      rcases hf with ⟨rfl, hf⟩ | ⟨t', b', rfl, hm, hf⟩
      · refine br_if (fun z => ?_) fun z => by cases z
        exact go _ (lt_keep (U := U) hj (fun t' b' z => by obtain ⟨rfl, rfl⟩ := pr_inj z; exact Int.le_refl _) hd fun i t' b' hi he => by rw [hf i hi] at he; cases he)
      · refine br_if (fun z => by cases z) fun z => ?_
        rcases ht.1 _ hm with z | ⟨t1, b1, z, _, t0', b0', bt', bb', _⟩
        · cases z
        · obtain ⟨rfl, rfl⟩ := pr_inj z
          refine call hl ⟨t, b, t', b', rfl, bt, bb, bt', bb', ?_⟩
          refine br_d (fun h => ?_) fun h => ?_
          · refine go _ (lt_keep (U := U) hj (fun t' b' z => by obtain ⟨rfl, rfl⟩ := pr_inj z; exact Int.le_refl _) hd fun i t2 b2 hi he => ?_)
            rcases ht.1 _ (List.mem_of_getElem? he) with z | ⟨t3, b3, z, _, _, b30, _⟩
            · cases z
            · obtain ⟨rfl, rfl⟩ := pr_inj z
              exact le_tr b0 b0' b30 (by omega) (hf i t2 b2 hi he)
          · exact go _ (lt_keep (U := U) hj (fun t2 b2 z => by obtain ⟨rfl, rfl⟩ := pr_inj z; omega) hm hf)
  · obtain ⟨rfl, f, o, rfl, hf⟩ := hI
    refine ⟨er, ?_⟩
    subst hA
    simp only [least_of_A0, wpSs, wpS, wpE, wpEs, wpC, wpAnd, wpOr, wpO, wpIt, opt_some, onI_int, onB_bl, onR_ref, arg1_one, look, joinO, start, List.map_cons, List.map_nil, List.length_cons, List.length_nil, List.replicate, List.cons_append, List.nil_append, List.append_nil, List.getElem?_cons_succ, List.getElem?_cons_zero, kcD, Nat.reduceAdd, Nat.reduceSub, br_t, br_f, br_n, asg, setAll, List.set_cons_succ, List.set_cons_zero, tgs, wipe, eq_ii, ne_ii, lt_ii, le_ii, gt_ii, ge_ii, is_n, isn_n, is_b, isn_b, add_ii, sub_ii, mul_ii, mod_ii, fdiv_ii, pow_ii, isNon, biD, intD_i, intD_b, esLen, beq_self_eq_true, ixD_tup, lsOf_new, seqD_tup, seqD_fl, slD_tup, bools, Option.map_some, true_and, ixD_fl, lenD_tup, lenD_fl, ix30, ix31, ix32, at20, at21, at30, at31, at32, List.filterMap_cons, List.filterMap_nil]
    refine hq f ?_ (by rcases hf with ⟨rfl, _⟩ | ⟨_, _, rfl, hm, _⟩ <;> simp_all)
    have all : ∀ t' d', prD t' d' ∈ xs → ∃ i, i < xs.length ∧ xs[i]? = some (prD t' d') := fun t' d' h => by
      obtain ⟨i, hi⟩ := List.mem_iff_getElem?.mp h
      exact ⟨i, (List.getElem?_eq_some_iff.mp hi).1, hi⟩
    rcases hf with ⟨rfl, hf⟩ | ⟨t, d, rfl, hm, hf⟩
    · refine .inl ⟨rfl, fun t d t0 d0 z => ?_⟩
      obtain ⟨t', d', hm, _⟩ := ht.2 t d t0 d0 z
      obtain ⟨i, hi, he⟩ := all _ _ hm
      rw [hf i hi] at he; cases he
    · rcases ht.1 _ hm with z | ⟨t1, d1, z, hp, t0, d0, _, _, hu⟩
      · cases z
      · obtain ⟨rfl, rfl⟩ := pr_inj z
        refine .inr ⟨t, d, rfl, hp, t0, d0, hu, fun t' d' t0' d0' z => ?_⟩
        obtain ⟨t2, d2, hm2, d20, hle⟩ := ht.2 t' d' t0' d0' z
        obtain ⟨i, hi, he⟩ := all _ _ hm2
        exact le_tr d0 d20 d0' (hf i t2 d2 hi he) hle
theorem compW_map {chk : Sto → Prop} {step : D → Sto → (Option D → Sto → Prop) → Prop} {Q : VK} {f : D → D} {S : Sto} (hc : chk S) : ∀ {xs acc : List D}, (∀ d ∈ xs, ∀ k : Option D → Sto → Prop, k (some (f d)) S → step d S k) → (∀ p, S p = none → Q (.ref p) (upd S p (.lst (acc ++ xs.map f)))) → compW chk step Q xs acc S
  | [], acc, _, h => ⟨hc, fun p hp => by have := h p hp; rwa [List.map_nil, List.append_nil] at this⟩
  | x :: xs, acc, hs, h => ⟨hc, hs x (by simp) _ (compW_map hc (fun d hd => hs d (by simp [hd])) fun p hp => by
      have := h p hp
      rw [List.map_cons] at this
      simpa [Option.toList] using this)⟩
end M
namespace M
def _law_great_due_B2 : Ss := (.cons (.if_ (.cmp .ne (.v 5) (.k (.int 0))) (.cons (.set (.v 12) (.bin .mod (.bi .int (.cons (.ite (.cmp .gt (.v 5) (.k (.int 0))) (.bin .sub (.v 11) (.ix (.v 1) (.v 4))) (.bin .sub (.ix (.v 1) (.v 4)) (.v 11))) .nil)) (.bin .mul (.k (.int 2)) (.v 6)))) (.cons (.set (.v 13) (.bin .add (.bin .mul (.ix (.v 1) (.v 7)) (.bi .abs (.cons (.v 5) .nil))) (.bin .mul (.ix (.v 1) (.bin .add (.v 7) (.k (.int 2)))) (.v 12)))) (.cons (.set (.v 14) (.call 35 (.cons (.ix (.v 0) (.v 7)) (.cons (.bi .abs (.cons (.v 5) .nil)) (.cons (.bin .mul (.bin .mul (.k (.int 2)) (.v 6)) (.ix (.v 1) (.bin .add (.v 7) (.k (.int 2))))) (.cons (.v 13) (.cons (.v 8) (.cons (.v 9) .nil)))))))) (.cons (.if_ (.cmp .isn (.v 14) (.k .non)) (.cons (.set (.v 3) (.call 33 (.cons (.v 3) (.cons (.call 26 (.cons (.bin .add (.v 12) (.bin .mul (.bin .mul (.k (.int 2)) (.v 6)) (.v 14))) (.cons (.bi .abs (.cons (.v 5) .nil)) .nil))) .nil)))) .nil) .nil) .nil)))) .nil) .nil)
def _law_great_due_S2 : St := (.for_ (.v 11) (.seq (.tup (.cons (.v 10) (.cons (.neg (.v 10)) .nil)))) _law_great_due_B2)
def _law_great_due_B1 : Ss := (.cons _law_great_due_S2 .nil)
def _law_great_due_S1 : St := (.for_ (.v 10) (.seq (.sl (.v 2) (.some (.bin .mul (.k (.int 2)) (.v 4))) (.some (.bin .add (.bin .mul (.k (.int 2)) (.v 4)) (.k (.int 2)))))) _law_great_due_B1)
def _law_great_due_B0 : Ss := (.cons (.par3 5 6 7 (.ix (.v 1) (.bin .add (.v 4) (.k (.int 2)))) (.ix (.v 0) (.v 4)) (.bin .sub (.k (.int 1)) (.v 4))) (.cons (.set (.tup [8, 9]) (.sl (.v 2) (.some (.bin .mul (.k (.int 2)) (.v 7))) (.some (.bin .add (.bin .mul (.k (.int 2)) (.v 7)) (.k (.int 2)))))) (.cons _law_great_due_S1 .nil)))
def _law_great_due_S0 : St := (.for_ (.v 4) (.seq (.tup (.cons (.k (.int 0)) (.cons (.k (.int 1)) .nil)))) _law_great_due_B0)
def _law_great_due_A0 : Ss := (.cons (.ret (.v 3)) .nil)
def _law_great_due_T : Ss := (.cons (.set (.v 3) (.ite (.call 32 (.cons (.tup (.cons (.tup (.cons (.ix (.v 1) (.k (.int 0))) (.cons (.k (.int 1)) .nil))) (.cons (.tup (.cons (.ix (.v 1) (.k (.int 1))) (.cons (.k (.int 1)) .nil))) .nil))) (.cons (.v 2) .nil))) (.tup (.cons (.k (.int 0)) (.cons (.k (.int 1)) .nil))) (.k .non))) (.cons _law_great_due_S0 _law_great_due_A0))
/-! ### the lesser one -/
def TimB (v : D) : Prop := ∀ t d, v = prD t d → Bd 800 t ∧ Bd 800 d
def spSoon : Sp := fun ds S Q _ => ∃ u v P P', ds = [u, v] ∧ LstP P u ∧ LstP P' v ∧ TimB u ∧ TimB v ∧ ∀ w, LstP (fun t d => P t d ∨ P' t d) w → TimB w → Q w S
theorem txt_soon {G : Gm} {ds : List D} {S0 : Sto} {Q : VK} {X : XK} {b : Ss} (hb : b = (.cons (.if_ (.or (.cmp .is_ (.v 0) (.k .non)) (.cons (.cmp .is_ (.v 1) (.k .non)) .nil)) (.cons (.ret (.ite (.cmp .is_ (.v 0) (.k .non)) (.v 1) (.v 0))) .nil) .nil) (.cons (.ret (.ite (.cmp .le (.bin .mul (.ix (.v 0) (.k (.int 0))) (.ix (.v 1) (.k (.int 1)))) (.bin .mul (.ix (.v 1) (.k (.int 0))) (.ix (.v 0) (.k (.int 1))))) (.v 0) (.v 1))) .nil))) (h : spSoon ds S0 Q X) : ds.length = 2 ∧ wpSs G b (start 2 ds) S0 (kR Q X) := by
  obtain ⟨u, v, P, P', rfl, hu, hv, bu, bv, hq⟩ := h
  subst hb
  refine ⟨rfl, ?_⟩
  obtain ⟨k1, k2, k3⟩ := lst_or hu hv
  rcases hu with ⟨rfl, _⟩ | ⟨t, d, rfl, _, t0, d0, _⟩
  · simp only [wpSs, wpS, wpE, wpEs, wpC, wpAnd, wpOr, wpO, wpIt, opt_some, onI_int, onB_bl, onR_ref, arg1_one, look, joinO, start, List.map_cons, List.map_nil, List.length_cons, List.length_nil, List.replicate, List.cons_append, List.nil_append, List.append_nil, List.getElem?_cons_succ, List.getElem?_cons_zero, kcD, Nat.reduceAdd, Nat.reduceSub, br_t, br_f, br_n, asg, setAll, List.set_cons_succ, List.set_cons_zero, tgs, wipe, eq_ii, ne_ii, lt_ii, le_ii, gt_ii, ge_ii, is_n, isn_n, is_b, isn_b, add_ii, sub_ii, mul_ii, mod_ii, fdiv_ii, pow_ii, isNon, biD, intD_i, intD_b, esLen, beq_self_eq_true, ixD_tup, lsOf_new, seqD_tup, seqD_fl, slD_tup, bools, Option.map_some, true_and, ixD_fl, lenD_tup, lenD_fl, ix30, ix31, ix32, at20, at21, at30, at31, at32, List.filterMap_cons, List.filterMap_nil]
    exact hq _ (k1 rfl) bv
  · rcases hv with ⟨rfl, _⟩ | ⟨t', d', rfl, _, t0', d0', _⟩
    · simp only [wpSs, wpS, wpE, wpEs, wpC, wpAnd, wpOr, wpO, wpIt, opt_some, onI_int, onB_bl, onR_ref, arg1_one, look, joinO, start, List.map_cons, List.map_nil, List.length_cons, List.length_nil, List.replicate, List.cons_append, List.nil_append, List.append_nil, List.getElem?_cons_succ, List.getElem?_cons_zero, kcD, Nat.reduceAdd, Nat.reduceSub, br_t, br_f, br_n, asg, setAll, List.set_cons_succ, List.set_cons_zero, tgs, wipe, eq_ii, ne_ii, lt_ii, le_ii, gt_ii, ge_ii, is_n, isn_n, is_b, isn_b, add_ii, sub_ii, mul_ii, mod_ii, fdiv_ii, pow_ii, isNon, biD, intD_i, intD_b, esLen, beq_self_eq_true, ixD_tup, lsOf_new, seqD_tup, seqD_fl, slD_tup, bools, Option.map_some, true_and, ixD_fl, lenD_tup, lenD_fl, ix30, ix31, ix32, at20, at21, at30, at31, at32, List.filterMap_cons, List.filterMap_nil]
      exact hq _ (k2 rfl) bu
    · obtain ⟨a1, a2⟩ := bu _ _ rfl
      obtain ⟨a3, a4⟩ := bv _ _ rfl
      simp only [wpSs, wpS, wpE, wpEs, wpC, wpAnd, wpOr, wpO, wpIt, opt_some, onI_int, onB_bl, onR_ref, arg1_one, look, joinO, start, List.map_cons, List.map_nil, List.length_cons, List.length_nil, List.replicate, List.cons_append, List.nil_append, List.append_nil, List.getElem?_cons_succ, List.getElem?_cons_zero, kcD, Nat.reduceAdd, Nat.reduceSub, br_t, br_f, br_n, asg, setAll, List.set_cons_succ, List.set_cons_zero, tgs, wipe, eq_ii, ne_ii, lt_ii, le_ii, gt_ii, ge_ii, is_n, isn_n, is_b, isn_b, add_ii, sub_ii, mul_ii, mod_ii, fdiv_ii, pow_ii, isNon, biD, intD_i, intD_b, esLen, beq_self_eq_true, ixD_tup, lsOf_new, seqD_tup, seqD_fl, slD_tup, bools, Option.map_some, true_and, ixD_fl, lenD_tup, lenD_fl, ix30, ix31, ix32, at20, at21, at30, at31, at32, List.filterMap_cons, List.filterMap_nil]
      refine ⟨a1.sm (by decide), a4.sm (by decide), a3.sm (by decide), a2.sm (by decide), br_d (fun h => hq _ ((k3 _ _ _ _ rfl rfl).1 h) bu) fun h => hq _ ((k3 _ _ _ _ rfl rfl).2 (by omega)) bv⟩
/-! ### the times of two numbers -/
def sgw (w u : Int) : Int := if 0 < w then u else -u
theorem eqt_zero {s u t d : Int} (hs : 0 < s) (d0 : 0 < d) : Eqt s 0 u t d ↔ u % (2 * s) = 0 := by
  have e := Int.emod_add_mul_ediv u (2 * s)
  constructor
  · rintro ⟨z, h⟩
    rw [Int.zero_mul] at h
    have : u + 2 * s * z = 0 := by
      rcases Int.mul_eq_zero.mp h.symm with y | y
      · exact y
      · omega
    refine Int.emod_eq_zero_of_dvd ⟨-z, ?_⟩
    have : 2 * s * -z = -(2 * s * z) := by grind
    omega
  · intro h
    refine ⟨-(u / (2 * s)), ?_⟩
    have : u + 2 * s * -(u / (2 * s)) = 0 := by
      have : 2 * s * -(u / (2 * s)) = -(2 * s * (u / (2 * s))) := by grind
      omega
    rw [this, Int.zero_mul, Int.zero_mul]
theorem eqt_abs {s w u t d : Int} (hw : w ≠ 0) : Eqt s w u t d ↔ Eqt s (av w) (sgw w u) t d := by
  unfold sgw
  split
  · have : av w = w := by unfold av; omega
    rw [this]
  · have : av w = -w := by unfold av; omega
    rw [this]
    exact eqt_neg.symm
theorem lst_low {P : Int → Int → Prop} {A B : Int} (hB : 0 < B) (hA : 0 ≤ A) (h1 : ∀ t d, 0 ≤ t → 0 < d → t * B = A * d → P t d) (h2 : ∀ t d, 0 ≤ t → 0 < d → P t d → A * d ≤ t * B) : LstP P (low A B) := by
  obtain ⟨m, n, e, h, n0, _⟩ := low_cmp (A := A) hB
  have pl := part_low0 (t := A) hB
  rw [e] at pl
  have m0 : 0 ≤ m := by
    have : 0 ≤ m * B := by rw [h]; exact Int.mul_nonneg hA (by omega)
    rcases Int.lt_or_le m 0 with y | y
    · have := Int.mul_neg_of_neg_of_pos y hB; omega
    · exact y
  refine .inr ⟨m, n, e, pl, m0, n0, h1 m n m0 n0 h, fun t d t0 d0 z => ?_⟩
  refine le_tr n0 hB d0 (by omega) (h2 t d t0 d0 z)
theorem timb_low {A B : Int} (hB : 0 < B) (bA : Bd 800 A) (bB : Bd 800 B) : TimB (low A B) := by
  obtain ⟨m, n, e, h, n0, k1, k2⟩ := low_cmp (A := A) hB
  intro t d h
  rw [e] at h
  obtain ⟨rfl, rfl⟩ := pr_inj h
  exact ⟨k1 _ bA, k2 _ bB⟩
theorem lst_one {s W u : Int} (hs : 0 < s) (hW : 0 < W) : LstP (Eqt s W u) (low (u % (2 * s)) W) := by
  have r0 := Int.emod_nonneg u (show 2 * s ≠ 0 by omega)
  refine lst_low hW r0 (fun t d t0 d0 h => (eqt_row hs hW t0 d0).mpr ⟨0, by decide, ?_⟩) fun t d t0 d0 h => ?_
  · rw [Int.mul_zero, Int.add_zero, ← h, Int.mul_comm]
  · obtain ⟨i, hi, h⟩ := (eqt_row hs hW t0 d0).mp h
    rw [Int.mul_comm t, h, Int.add_mul]
    have : 0 ≤ 2 * s * i * d := Int.mul_nonneg (Int.mul_nonneg (by omega) hi) (by omega)
    omega
theorem eqt_any {s w u : Int} {t d : Int} : Eqt s w u t d ↔ ∃ z : Int, w * t = (u % (2 * s) + 2 * s * z) * d := by
  have e := Int.emod_add_mul_ediv u (2 * s)
  constructor
  · rintro ⟨z, h⟩
    refine ⟨u / (2 * s) + z, ?_⟩
    rw [h]
    have : u + 2 * s * z = u % (2 * s) + 2 * s * (u / (2 * s) + z) := by
      have : 2 * s * (u / (2 * s) + z) = 2 * s * (u / (2 * s)) + 2 * s * z := by grind
      omega
    rw [this]
  · rintro ⟨z, h⟩
    refine ⟨z - u / (2 * s), ?_⟩
    rw [h]
    have : u + 2 * s * (z - u / (2 * s)) = u % (2 * s) + 2 * s * z := by
      have : 2 * s * (z - u / (2 * s)) = 2 * s * z - 2 * s * (u / (2 * s)) := by grind
      omega
    rw [this]
/-- both rows hold at a time of the first -/
theorem two_eq {s W u s' W' u' : Int} (hW : 0 < W) {t d i : Int} (d0 : 0 < d) (h : W * t = (u % (2 * s) + 2 * s * i) * d) : Eqt s' W' u' t d ↔ ∃ z : Int, 2 * s * W' * i - (u' % (2 * s') * W - u % (2 * s) * W') = 2 * s' * W * z := by
  rw [eqt_any]
  generalize u % (2 * s) = a0 at *
  generalize u' % (2 * s') = b0
  have key : ∀ z : Int, W' * t = (b0 + 2 * s' * z) * d ↔ 2 * s * W' * i - (b0 * W - a0 * W') = 2 * s' * W * z := fun z => by
    have x1 : W * (W' * t) = W' * (W * t) := by grind
    have x2 : W' * ((a0 + 2 * s * i) * d) = (W' * (a0 + 2 * s * i)) * d := by grind
    have x3 : W * ((b0 + 2 * s' * z) * d) = (W * (b0 + 2 * s' * z)) * d := by grind
    constructor
    · intro g
      have : (W' * (a0 + 2 * s * i)) * d = (W * (b0 + 2 * s' * z)) * d := by rw [← x2, ← h, ← x1, g, x3]
      have := Int.eq_of_mul_eq_mul_right (show d ≠ 0 by omega) this
      have y1 : W' * (a0 + 2 * s * i) = a0 * W' + 2 * s * W' * i := by grind
      have y2 : W * (b0 + 2 * s' * z) = b0 * W + 2 * s' * W * z := by grind
      omega
    · intro g
      refine Int.eq_of_mul_eq_mul_left (show W ≠ 0 by omega) ?_
      rw [x1, h, x2, x3]
      have y1 : W' * (a0 + 2 * s * i) = a0 * W' + 2 * s * W' * i := by grind
      have y2 : W * (b0 + 2 * s' * z) = b0 * W + 2 * s' * W * z := by grind
      have : W' * (a0 + 2 * s * i) = W * (b0 + 2 * s' * z) := by omega
      rw [this]
  exact ⟨fun ⟨z, h⟩ => ⟨z, (key z).mp h⟩, fun ⟨z, h⟩ => ⟨z, (key z).mpr h⟩⟩
theorem lst_two_no {s W u s' W' u' : Int} (hs : 0 < s) (hW : 0 < W) (hg : (u' % (2 * s') * W - u % (2 * s) * W') % ((Int.gcd (2 * s * W') (2 * s' * W) : Nat) : Int) ≠ 0) : LstP (fun t d => Eqt s W u t d ∧ Eqt s' W' u' t d) .non := by
  refine .inl ⟨rfl, fun t d t0 d0 ⟨h1, h2⟩ => ?_⟩
  obtain ⟨i, _, h1⟩ := (eqt_row hs hW t0 d0).mp h1
  obtain ⟨z, hz⟩ := (two_eq hW d0 h1).mp h2
  refine hg (Int.emod_eq_zero_of_dvd ?_)
  have : u' % (2 * s') * W - u % (2 * s) * W' = 2 * s * W' * i - 2 * s' * W * z := by omega
  rw [this]
  exact Int.dvd_sub (Int.dvd_trans (Int.gcd_dvd_left ..) (Int.dvd_mul_right ..)) (Int.dvd_trans (Int.gcd_dvd_right ..) (Int.dvd_mul_right ..))
theorem lst_two {s W u s' W' u' k : Int} (hs : 0 < s) (hW : 0 < W) (hs' : 0 < s') (hg : (u' % (2 * s') * W - u % (2 * s) * W') % ((Int.gcd (2 * s * W') (2 * s' * W) : Nat) : Int) = 0) (k0 : 0 ≤ k) (k1 : k < 2 * s' * W / ((Int.gcd (2 * s * W') (2 * s' * W) : Nat) : Int))
    (hk : 2 * s' * W / ((Int.gcd (2 * s * W') (2 * s' * W) : Nat) : Int) ∣ 2 * s * W' / ((Int.gcd (2 * s * W') (2 * s' * W) : Nat) : Int) * k - (u' % (2 * s') * W - u % (2 * s) * W') / ((Int.gcd (2 * s * W') (2 * s' * W) : Nat) : Int)) : LstP (fun t d => Eqt s W u t d ∧ Eqt s' W' u' t d) (low (u % (2 * s) + 2 * s * k) W) := by
  have M0 : 0 < 2 * s' * W := mulp (by omega) hW
  have r0 := Int.emod_nonneg u (show 2 * s ≠ 0 by omega)
  have g0 := gcd_pos (t := 2 * s * W') M0
  have gd := gcd_div (f := 2 * s * W') M0
  have d1 := Int.mul_ediv_cancel' (Int.gcd_dvd_left (2 * s * W') (2 * s' * W))
  have d2 := Int.mul_ediv_cancel' (Int.gcd_dvd_right (2 * s * W') (2 * s' * W))
  have ex : ∀ i : Int, (∃ z : Int, 2 * s * W' * i - (u' % (2 * s') * W - u % (2 * s) * W') = 2 * s' * W * z) ↔ 2 * s' * W / ((Int.gcd (2 * s * W') (2 * s' * W) : Nat) : Int) ∣ 2 * s * W' / ((Int.gcd (2 * s * W') (2 * s' * W) : Nat) : Int) * i - (u' % (2 * s') * W - u % (2 * s) * W') / ((Int.gcd (2 * s * W') (2 * s' * W) : Nat) : Int) := fun i => by
    have d3 := Int.mul_ediv_cancel' (Int.dvd_of_emod_eq_zero hg)
    generalize ((Int.gcd (2 * s * W') (2 * s' * W) : Nat) : Int) = g at *
    generalize u' % (2 * s') * W - u % (2 * s) * W' = r at *
    generalize 2 * s * W' = f at *
    generalize 2 * s' * W = m at *
    constructor
    · rintro ⟨z, h⟩
      refine ⟨z, Int.eq_of_mul_eq_mul_left (show g ≠ 0 by omega) ?_⟩
      have x1 : g * (f / g * i - r / g) = g * (f / g) * i - g * (r / g) := by grind
      have x2 : g * (m / g * z) = g * (m / g) * z := by grind
      rw [x1, x2, d1, d2, d3, h]
    · rintro ⟨z, h⟩
      refine ⟨z, ?_⟩
      have x1 : g * (f / g * i - r / g) = g * (f / g) * i - g * (r / g) := by grind
      have x2 : g * (m / g * z) = g * (m / g) * z := by grind
      rw [h, x2, d1, d2, d3] at x1
      omega
  have a0 : 0 ≤ u % (2 * s) + 2 * s * k := by
    have := Int.mul_nonneg (show 0 ≤ 2 * s by omega) k0
    omega
  refine lst_low hW a0 (fun t d t0 d0 h => ?_) fun t d t0 d0 ⟨h1, h2⟩ => ?_
  · have h : W * t = (u % (2 * s) + 2 * s * k) * d := by rw [Int.mul_comm]; exact h
    exact ⟨(eqt_row hs hW t0 d0).mpr ⟨k, k0, h⟩, (two_eq hW d0 h).mpr ((ex k).mpr hk)⟩
  · obtain ⟨i, hi, h1⟩ := (eqt_row hs hW t0 d0).mp h1
    have hi2 := (ex i).mp ((two_eq hW d0 h1).mp h2)
    rw [Int.mul_comm t, h1]
    refine Int.mul_le_mul_of_nonneg_right ?_ (by omega)
    have hd := Int.dvd_sub hi2 hk
    generalize 2 * s' * W / ((Int.gcd (2 * s * W') (2 * s' * W) : Nat) : Int) = m at *
    generalize 2 * s * W' / ((Int.gcd (2 * s * W') (2 * s' * W) : Nat) : Int) = f at *
    have hd : m ∣ f * (i - k) := by
      have e : f * i - (u' % (2 * s') * W - u % (2 * s) * W') / ((Int.gcd (2 * s * W') (2 * s' * W) : Nat) : Int) - (f * k - (u' % (2 * s') * W - u % (2 * s) * W') / ((Int.gcd (2 * s * W') (2 * s' * W) : Nat) : Int)) = f * (i - k) := by rw [Int.mul_sub]; omega
      rwa [e] at hd
    obtain ⟨z, hz⟩ := dvd_cop gd hd
    have ki : k ≤ i := by
      rcases Int.lt_or_le z 0 with y | y
      · have : m * z ≤ m * (-1) := Int.mul_le_mul_of_nonneg_left (by omega) (by omega)
        omega
      · have := Int.mul_nonneg (show 0 ≤ m by omega) y
        omega
    have := Int.mul_le_mul_of_nonneg_left ki (show 0 ≤ 2 * s by omega)
    omega
/-! ### the text -/
theorem zip3_tup {xs ys zs : List D} {S : Sto} {R : IK} : zip3D (.tup xs) (.tup ys) (.tup zs) S R = R (zipP3 xs ys zs) (fun _ => True) S := rfl
theorem at10 {x : D} : atI [x] 0 = some x := rfl
def trD (a b c : Int) : D := .tup [.int a, .int b, .int c]
def spAg : Sp := fun ds S Q _ => ∃ a c g h w v, ds = [prD a c, prD g h, prD w v] ∧ 0 < a ∧ 0 < c ∧ Bd 150 a ∧ Bd 150 c ∧ Bd 160 g ∧ Bd 160 h ∧ Bd 160 w ∧ Bd 160 v ∧ ∀ z S', Ext S S' → LstP (fun t d => Eqt a w g t d ∧ Eqt c v h t d) z → TimB z → Q z S'
theorem tr_fit {S : Sto} {a b c : Int} : fit 7 S (trD a b c) = true := rfl
end M
namespace M
def pass_time_B0 : Ss := (.cons (.set (.v 12) (.bin .mod (.ite (.cmp .gt (.v 5) (.k (.int 0))) (.bin .sub (.v 11) (.v 4)) (.bin .sub (.v 4) (.v 11))) (.bin .mul (.k (.int 2)) (.v 6)))) (.cons (.set (.v 13) (.bi .abs (.cons (.v 5) .nil))) (.cons (.set (.v 14) (.call 16 (.cons (.v 9) (.cons (.v 13) (.cons (.bin .mul (.bin .mul (.k (.int 2)) (.v 6)) (.v 8)) (.cons (.bin .add (.bin .mul (.v 7) (.v 13)) (.bin .mul (.v 8) (.v 12))) (.cons (.v 2) (.cons (.v 3) .nil)))))))) (.cons (.if_ (.cmp .isn (.v 14) (.k .non)) (.cons (.ex (.mt .append (.v 10) (.cons (.call 2 (.cons (.bin .add (.v 12) (.bin .mul (.bin .mul (.k (.int 2)) (.v 6)) (.v 14))) (.cons (.v 13) .nil))) .nil))) .nil) .nil) .nil))))
def pass_time_S0 : St := (.for_ (.v 11) (.seq (.tup (.cons (.v 1) (.cons (.neg (.v 1)) .nil)))) pass_time_B0)
def pass_time_A0 : Ss := (.cons (.ret (.call 4 (.cons (.v 10) .nil))) .nil)
def pass_time_T : Ss := (.cons (.set (.tup [4, 5, 6, 7, 8, 9]) (.v 0)) (.cons (.if_ (.cmp .eq (.v 5) (.k (.int 0))) (.cons (.ret (.k .non)) .nil) .nil) (.cons (.set (.v 10) (.lst .nil)) (.cons pass_time_S0 pass_time_A0))))
def TimC (v : D) : Prop := ∀ t d, v = prD t d → Bd 1500 t ∧ Bd 1500 d
/-- the other number is within -/
def Inn (c y q lo hi t d : Int) : Prop := lo * d ≤ foldT c (y * d + q * t) d ∧ foldT c (y * d + q * t) d ≤ hi * d
/-- one number at an image, the other one within -/
def Psd (a x p c y q g lo hi : Int) (t d : Int) : Prop := Eqt a p (g - x) t d ∧ Inn c y q lo hi t d
theorem inn_at {c y q lo hi W A t d : Int} (hW : 0 < W) (d0 : 0 < d) (h : W * t = A * d) : Inn c y q lo hi t d ↔ Inn c y q lo hi A W := by
  have f : W * foldT c (y * d + q * t) d = d * foldT c (y * W + q * A) W := fold_scale hW d0 (by
    have : W * (y * d + q * t) = y * W * d + q * (W * t) := by grind
    rw [this, h]; grind) (by grind)
  unfold Inn
  generalize foldT c (y * d + q * t) d = F at *
  generalize foldT c (y * W + q * A) W = F' at *
  have k1 : lo * d ≤ F ↔ lo * W ≤ F' := by
    constructor
    · intro k
      have := Int.mul_le_mul_of_nonneg_left k (Int.le_of_lt hW)
      refine Int.le_of_mul_le_mul_left (a := d) ?_ d0
      have e : d * (lo * W) = W * (lo * d) := by grind
      omega
    · intro k
      have := Int.mul_le_mul_of_nonneg_left k (Int.le_of_lt d0)
      refine Int.le_of_mul_le_mul_left (a := W) ?_ hW
      have e : d * (lo * W) = W * (lo * d) := by grind
      omega
  have k2 : F ≤ hi * d ↔ F' ≤ hi * W := by
    constructor
    · intro k
      have := Int.mul_le_mul_of_nonneg_left k (Int.le_of_lt hW)
      refine Int.le_of_mul_le_mul_left (a := d) ?_ d0
      have e : d * (hi * W) = W * (hi * d) := by grind
      omega
    · intro k
      have := Int.mul_le_mul_of_nonneg_left k (Int.le_of_lt d0)
      refine Int.le_of_mul_le_mul_left (a := W) ?_ hW
      have e : d * (hi * W) = W * (hi * d) := by grind
      omega
  rw [k1, k2]
theorem inP_inn {c y q a u lo hi W : Int} {k : Nat} : inP c W (2 * a * q) (y * W + q * u) lo hi k = true ↔ Inn c y q lo hi (u + 2 * a * k) W := by
  unfold inP Inn
  have e : 2 * a * q * (k : Int) + (y * W + q * u) = y * W + q * (u + 2 * a * k) := by grind
  rw [e, Bool.and_eq_true_iff, decide_eq_true_iff, decide_eq_true_iff]
theorem psd_k {a x p c y q g lo hi u : Int} (a0 : 0 < a) (hp : p ≠ 0) (hu : u = sgw p (g - x) % (2 * a)) {t d : Int} (t0 : 0 ≤ t) (d0 : 0 < d) : Psd a x p c y q g lo hi t d ↔ ∃ k : Nat, av p * t = (u + 2 * a * k) * d ∧ inP c (av p) (2 * a * q) (y * av p + q * u) lo hi k = true := by
  have pp := av_pos hp
  unfold Psd
  rw [eqt_abs hp, eqt_row a0 pp t0 d0, ← hu]
  constructor
  · rintro ⟨⟨i, hi, h⟩, h2⟩
    refine ⟨i.toNat, by rw [Int.toNat_of_nonneg hi]; exact h, inP_inn.mpr ?_⟩
    rw [Int.toNat_of_nonneg hi]
    exact (inn_at pp d0 h).mp h2
  · rintro ⟨k, h, h2⟩
    exact ⟨⟨k, by omega, h⟩, (inn_at pp d0 h).mpr (inP_inn.mp h2)⟩
theorem psd_no {a x p c y q g lo hi u : Int} (a0 : 0 < a) (hp : p ≠ 0) (R : Rg c (av p) lo hi) (hu : u = sgw p (g - x) % (2 * a)) (h : ResP c (av p) (2 * a * q) (y * av p + q * u) lo hi none) {t d : Int} (t0 : 0 ≤ t) (d0 : 0 < d) : ¬ Psd a x p c y q g lo hi t d := fun z => by
  obtain ⟨k, _, hk⟩ := (psd_k a0 hp hu t0 d0).mp z
  have := inP_never R.m0 h k k (Nat.le_refl _)
  rw [hk] at this; cases this
theorem psd_yes {a x p c y q g lo hi u : Int} (a0 : 0 < a) (hp : p ≠ 0) (hu : u = sgw p (g - x) % (2 * a)) {k : Nat} (h : FstP c (av p) (2 * a * q) (y * av p + q * u) lo hi k) : LstP (Psd a x p c y q g lo hi) (low (u + 2 * a * k) (av p)) := by
  have pp := av_pos hp
  have u0 : 0 ≤ u := by rw [hu]; exact Int.emod_nonneg _ (by omega)
  have s0 : 0 ≤ 2 * a * (k : Int) := Int.mul_nonneg (by omega) (by omega)
  refine lst_low pp (by omega) (fun t d t0 d0 e => (psd_k a0 hp hu t0 d0).mpr ⟨k, by rw [Int.mul_comm]; exact e, h.1⟩) fun t d t0 d0 z => ?_
  obtain ⟨j, e, hj⟩ := (psd_k a0 hp hu t0 d0).mp z
  have kj : k ≤ j := by
    rcases Nat.lt_or_ge j k with w | w
    · rw [h.2 j w] at hj; cases hj
    · exact w
  have : 2 * a * (k : Int) ≤ 2 * a * j := Int.mul_le_mul_of_nonneg_left (by omega) (by omega)
  rw [Int.mul_comm t, e]
  exact Int.mul_le_mul_of_nonneg_right (by omega) (by omega)
theorem tms_nil {U : Int → Int → Prop} (h : ∀ t d, 0 ≤ t → 0 < d → ¬ U t d) : Tms [] U := ⟨fun v hv => (by cases hv), fun t d t0 d0 z => absurd z (h t d t0 d0)⟩
theorem tms_one {U : Int → Int → Prop} {v : D} (h : LstP U v) (hb : TimC v) : Tms [v] U := by
  refine ⟨fun w hw => ?_, fun t d t0 d0 z => ?_⟩
  · rw [List.mem_singleton.mp hw]
    rcases h with ⟨rfl, _⟩ | ⟨t, d, rfl, hp, t0, d0, h1, _⟩
    · exact .inl rfl
    · obtain ⟨b1, b2⟩ := hb t d rfl
      exact .inr ⟨t, d, rfl, hp, t0, d0, b1.up (by decide), b2.up (by decide), h1⟩
  · rcases h with ⟨rfl, h⟩ | ⟨t', d', rfl, hp, t0', d0', h1, h2⟩
    · exact absurd z (h t d t0 d0)
    · exact ⟨t', d', List.mem_singleton.mpr rfl, d0', h2 t d t0 d0 z⟩
theorem tms_app {xs ys : List D} {U V : Int → Int → Prop} (h : Tms xs U) (k : Tms ys V) : Tms (xs ++ ys) (fun t d => U t d ∨ V t d) := by
  refine ⟨fun v hv => ?_, fun t d t0 d0 z => ?_⟩
  · rcases List.mem_append.mp hv with hv | hv
    · rcases h.1 v hv with e | ⟨t, d, a, b, c, e, f, g, i⟩
      · exact .inl e
      · exact .inr ⟨t, d, a, b, c, e, f, g, .inl i⟩
    · rcases k.1 v hv with e | ⟨t, d, a, b, c, e, f, g, i⟩
      · exact .inl e
      · exact .inr ⟨t, d, a, b, c, e, f, g, .inr i⟩
  · rcases z with z | z
    · obtain ⟨t', d', a, b, c⟩ := h.2 t d t0 d0 z
      exact ⟨t', d', List.mem_append.mpr (.inl a), b, c⟩
    · obtain ⟨t', d', a, b, c⟩ := k.2 t d t0 d0 z
      exact ⟨t', d', List.mem_append.mpr (.inr a), b, c⟩
theorem tms_iff {xs : List D} {U V : Int → Int → Prop} (h : Tms xs U) (e : ∀ t d, 0 ≤ t → 0 < d → (U t d ↔ V t d)) : Tms xs V := by
  refine ⟨fun v hv => ?_, fun t d t0 d0 z => h.2 t d t0 d0 ((e t d t0 d0).mpr z)⟩
  rcases h.1 v hv with z | ⟨t, d, a, b, c, f, g, i, j⟩
  · exact .inl z
  · exact .inr ⟨t, d, a, b, c, f, g, i, (e t d c f).mp j⟩
/-! ### the axes -/
def axD (x p a y q c : Int) : D := .tup [.int x, .int p, .int a, .int y, .int q, .int c]
def spAx : Sp := fun ds S Q _ => ∃ a c x y p q i, ds = [prD a c, shD x y p q, .int i] ∧ (i = 0 ∨ i = 1) ∧ Q (if i = 0 then axD x p a y q c else axD y q c x p a) S
theorem txt_ax {G : Gm} {ds : List D} {S0 : Sto} {Q : VK} {X : XK} {b : Ss} (hb : b = (.cons (.set (.v 3) (.bin .sub (.k (.int 1)) (.v 2))) (.cons (.ret (.tup (.cons (.ix (.v 1) (.v 2)) (.cons (.ix (.v 1) (.bin .add (.v 2) (.k (.int 2)))) (.cons (.ix (.v 0) (.v 2)) (.cons (.ix (.v 1) (.v 3)) (.cons (.ix (.v 1) (.bin .add (.v 3) (.k (.int 2)))) (.cons (.ix (.v 0) (.v 3)) .nil)))))))) .nil))) (h : spAx ds S0 Q X) : ds.length = 3 ∧ wpSs G b (start 4 ds) S0 (kR Q X) := by
  obtain ⟨a, c, x, y, p, q, i, rfl, hi, hq⟩ := h
  subst hb
  refine ⟨rfl, ?_⟩
  rcases hi with rfl | rfl
  · simp only [wpSs, wpS, wpE, wpEs, wpC, wpAnd, wpOr, wpO, wpIt, opt_some, onI_int, onB_bl, onR_ref, arg1_one, look, joinO, start, List.map_cons, List.map_nil, List.length_cons, List.length_nil, List.replicate, List.cons_append, List.nil_append, List.append_nil, List.getElem?_cons_succ, List.getElem?_cons_zero, kcD, Nat.reduceAdd, Nat.reduceSub, br_t, br_f, br_n, asg, setAll, List.set_cons_succ, List.set_cons_zero, tgs, wipe, eq_ii, ne_ii, lt_ii, le_ii, gt_ii, ge_ii, is_n, isn_n, is_b, isn_b, add_ii, sub_ii, mul_ii, mod_ii, fdiv_ii, pow_ii, isNon, biD, intD_i, intD_b, esLen, beq_self_eq_true, ixD_tup, lsOf_new, seqD_tup, seqD_fl, slD_tup, bools, Option.map_some, true_and, ixD_fl, lenD_tup, lenD_fl, ix30, ix31, ix32, at20, at21, at30, at31, at32, List.filterMap_cons, List.filterMap_nil]
    refine ⟨len_lim (by decide), hq⟩
  · simp only [wpSs, wpS, wpE, wpEs, wpC, wpAnd, wpOr, wpO, wpIt, opt_some, onI_int, onB_bl, onR_ref, arg1_one, look, joinO, start, List.map_cons, List.map_nil, List.length_cons, List.length_nil, List.replicate, List.cons_append, List.nil_append, List.append_nil, List.getElem?_cons_succ, List.getElem?_cons_zero, kcD, Nat.reduceAdd, Nat.reduceSub, br_t, br_f, br_n, asg, setAll, List.set_cons_succ, List.set_cons_zero, tgs, wipe, eq_ii, ne_ii, lt_ii, le_ii, gt_ii, ge_ii, is_n, isn_n, is_b, isn_b, add_ii, sub_ii, mul_ii, mod_ii, fdiv_ii, pow_ii, isNon, biD, intD_i, intD_b, esLen, beq_self_eq_true, ixD_tup, lsOf_new, seqD_tup, seqD_fl, slD_tup, bools, Option.map_some, true_and, ixD_fl, lenD_tup, lenD_fl, ix30, ix31, ix32, at20, at21, at30, at31, at32, List.filterMap_cons, List.filterMap_nil]
    refine ⟨len_lim (by decide), hq⟩
/-! ### when one number is at a goal -/
def Sd (a x p c y q g lo hi : Int) (t d : Int) : Prop := p ≠ 0 ∧ (Psd a x p c y q g lo hi t d ∨ Psd a x p c y q (-g) lo hi t d)
def spPT : Sp := fun ds S Q _ => ∃ x p a y q c g lo hi, ds = [axD x p a y q c, .int g, .int lo, .int hi] ∧ 0 < a ∧ Bd 200 x ∧ Bd 200 p ∧ Bd 200 a ∧ Bd 200 y ∧ Bd 200 q ∧ Bd 200 c ∧ Bd 200 g ∧ 0 < c ∧ 0 ≤ lo ∧ lo ≤ hi ∧ hi ≤ c ∧ ∀ d S', Ext S S' → LstP (Sd a x p c y q g lo hi) d → TimC d → Q d S'
def pt_tail : Ss := (.cons (.set (.v 13) (.bi .abs (.cons (.v 5) .nil))) (.cons (.set (.v 14) (.call 16 (.cons (.v 9) (.cons (.v 13) (.cons (.bin .mul (.bin .mul (.k (.int 2)) (.v 6)) (.v 8)) (.cons (.bin .add (.bin .mul (.v 7) (.v 13)) (.bin .mul (.v 8) (.v 12))) (.cons (.v 2) (.cons (.v 3) .nil)))))))) (.cons (.if_ (.cmp .isn (.v 14) (.k .non)) (.cons (.ex (.mt .append (.v 10) (.cons (.call 2 (.cons (.bin .add (.v 12) (.bin .mul (.bin .mul (.k (.int 2)) (.v 6)) (.v 14))) (.cons (.v 13) .nil))) .nil))) .nil) .nil) .nil)))
def pt_head (t : Ss) : Ss := (.cons (.set (.v 12) (.bin .mod (.ite (.cmp .gt (.v 5) (.k (.int 0))) (.bin .sub (.v 11) (.v 4)) (.bin .sub (.v 4) (.v 11))) (.bin .mul (.k (.int 2)) (.v 6)))) t)
theorem pt_cut : pass_time_B0 = pt_head pt_tail := rfl
theorem txt_pt {G : Gm} {ds : List D} {S0 : Sto} {Q : VK} {X : XK} {b : Ss} (hb : b = pass_time_T) (h2 : G.fn 2 = spFrac) (h4' : G.fn 4 = spLeo) (hf : G.fn 16 = spFP) (h : spPT ds S0 Q X) : ds.length = 4 ∧ wpSs G b (start 15 ds) S0 (kR Q X) := by
  obtain ⟨x, p, a, y, q, c, g, lo, hi, rfl, a0, bx, bp, ba, by_, bq, bc, bg, c0, l0, lh, hc, hq⟩ := h
  subst hb
  refine ⟨rfl, ?_⟩
  generalize hA : pass_time_A0 = A0
  generalize hB : pass_time_B0 = bo
  simp only [pass_time_T, pass_time_S0, hA, hB, wpSs, wpS, wpE, wpEs, wpC, wpAnd, wpOr, wpO, wpIt, opt_some, onI_int, onB_bl, onR_ref, arg1_one, look, joinO, start, List.map_cons, List.map_nil, List.length_cons, List.length_nil, List.replicate, List.cons_append, List.nil_append, List.append_nil, List.getElem?_cons_succ, List.getElem?_cons_zero, kcD, Nat.reduceAdd, Nat.reduceSub, br_t, br_f, br_n, asg, setAll, List.set_cons_succ, List.set_cons_zero, tgs, wipe, eq_ii, ne_ii, lt_ii, le_ii, gt_ii, ge_ii, is_n, isn_n, is_b, isn_b, add_ii, sub_ii, mul_ii, mod_ii, fdiv_ii, pow_ii, isNon, biD, intD_i, intD_b, esLen, beq_self_eq_true, ixD_tup, lsOf_new, seqD_tup, seqD_fl, slD_tup, bools, Option.map_some, true_and, ixD_fl, lenD_tup, lenD_fl, ix30, ix31, ix32, at20, at21, at30, at31, at32, List.filterMap_cons, List.filterMap_nil, axD]
  by_cases hp : p = 0
  · exact br_if (fun _ => hq .non S0 Ext.refl (.inl ⟨rfl, fun t d _ _ z => z.1 hp⟩) fun _ _ z => by cases z) fun z => by rw [hp] at z; cases z
  have pp := av_pos hp
  refine br_if (fun z => absurd (by simpa using z) hp) fun _ => ?_
  refine mkL_ok (by simp) fun r hr => ?_
  have er : (upd S0 r (.lst [])) r = some (.lst []) := upd_at
  have x1 : Ext S0 (upd S0 r (.lst [])) := Ext.new hr
  generalize upd S0 r (.lst []) = S1 at *
  have R : Rg c (av p) lo hi := ⟨c0, pp, l0, lh, hc, bc.up (by decide), (av_bd bp).up (by decide)⟩
  have turn : ∀ (i : Int) (xs : List D) (S3 : Sto) (o12 o13 o14 : Option D) (nx : Env → Sto → Prop), Bd 201 i → S3 r = some (.lst xs) → xs.length < 5 →
      (∀ xs' S4 o12 o13 o14, Kp r S3 S4 → S4 r = some (.lst (xs ++ xs')) → xs'.length ≤ 1 → (∀ v ∈ xs', TimC v) → Tms xs' (Psd a x p c y q i lo hi) → nx [some (axD x p a y q c), some (.int g), some (.int lo), some (.int hi), some (.int x), some (.int p), some (.int a), some (.int y), some (.int q), some (.int c), some (.ref r), some (.int i), o12, o13, o14] S4) →
      wpSs G bo [some (axD x p a y q c), some (.int g), some (.int lo), some (.int hi), some (.int x), some (.int p), some (.int a), some (.int y), some (.int q), some (.int c), some (.ref r), some (.int i), o12, o13, o14] S3 ⟨nx, Q, fun ρ1 S1 => wpSs G A0 ρ1 S1 (kR Q X), fun k fs x S' => X k fs S'⟩ := by
    intro i xs S3 o12 o13 o14 nx bi e3 hx hn
    have a20 : 0 < 2 * a := by omega
    have b2a : Bd 202 (2 * a) := (bd2.mul ba).up (by decide)
    have s2 := bd2.sm (show 2 ≤ 4000 by decide)
    have sa := ba.sm (show 200 ≤ 4000 by decide)
    have core : ∀ u : Int, 0 ≤ u → u < 2 * a → u = sgw p (i - x) % (2 * a) → wpSs G pt_tail [some (axD x p a y q c), some (.int g), some (.int lo), some (.int hi), some (.int x), some (.int p), some (.int a), some (.int y), some (.int q), some (.int c), some (.ref r), some (.int i), some (.int u), o13, o14] S3 ⟨nx, Q, fun ρ1 S1 => wpSs G A0 ρ1 S1 (kR Q X), fun k fs x S' => X k fs S'⟩ := by
      intro u u0 u1 hu
      have bu : Bd 202 u := b2a.le u0 (by omega)
      have bst : Bd 403 (y * av p + q * u) := ((by_.mul (av_bd bp)).up (show 400 ≤ 402 by decide)).add ((bq.mul bu).up (show 402 ≤ 402 by decide))
      simp only [pt_tail, wpSs, wpS, wpE, wpEs, wpC, wpAnd, wpOr, wpO, wpIt, opt_some, onI_int, onB_bl, onR_ref, arg1_one, look, joinO, start, List.map_cons, List.map_nil, List.length_cons, List.length_nil, List.replicate, List.cons_append, List.nil_append, List.append_nil, List.getElem?_cons_succ, List.getElem?_cons_zero, kcD, Nat.reduceAdd, Nat.reduceSub, br_t, br_f, br_n, asg, setAll, List.set_cons_succ, List.set_cons_zero, tgs, wipe, eq_ii, ne_ii, lt_ii, le_ii, gt_ii, ge_ii, is_n, isn_n, is_b, isn_b, add_ii, sub_ii, mul_ii, mod_ii, fdiv_ii, pow_ii, isNon, biD, intD_i, intD_b, esLen, beq_self_eq_true, ixD_tup, lsOf_new, seqD_tup, seqD_fl, slD_tup, bools, Option.map_some, true_and, ixD_fl, lenD_tup, lenD_fl, ix30, ix31, ix32, at20, at21, at30, at31, at32, List.filterMap_cons, List.filterMap_nil, abs_ite]
      refine ⟨s2, sa, b2a.sm (by decide), bq.sm (by decide), by_.sm (by decide), (av_bd bp).sm (by decide), bq.sm (by decide), bu.sm (by decide), ?_⟩
      refine call hf ⟨c, av p, _, _, lo, hi, rfl, R, (b2a.mul bq).up (by decide), bst.up (by decide), fun o S5 x5 ho => ?_⟩
      have e5 := x5 _ _ e3
      cases o with
      | none =>
        refine br_if (fun _ => ?_) fun z => by cases z
        exact hn [] S5 _ _ _ (x5.kp r) (by rw [List.append_nil]; exact e5) (by simp) (by simp) (tms_nil fun t d t0 d0 => psd_no a0 hp R hu ho t0 d0)
      | some k =>
        refine br_if (fun z => by cases z) fun _ => ?_
        rw [lsOf_ref e5]
        simp only [optD, wpSs, wpS, wpE, wpEs, wpC, wpAnd, wpOr, wpO, wpIt, opt_some, onI_int, onB_bl, onR_ref, arg1_one, look, joinO, start, List.map_cons, List.map_nil, List.length_cons, List.length_nil, List.replicate, List.cons_append, List.nil_append, List.append_nil, List.getElem?_cons_succ, List.getElem?_cons_zero, kcD, Nat.reduceAdd, Nat.reduceSub, br_t, br_f, br_n, asg, setAll, List.set_cons_succ, List.set_cons_zero, tgs, wipe, eq_ii, ne_ii, lt_ii, le_ii, gt_ii, ge_ii, is_n, isn_n, is_b, isn_b, add_ii, sub_ii, mul_ii, mod_ii, fdiv_ii, pow_ii, isNon, biD, intD_i, intD_b, esLen, beq_self_eq_true, ixD_tup, lsOf_new, seqD_tup, seqD_fl, slD_tup, bools, Option.map_some, true_and, ixD_fl, lenD_tup, lenD_fl, ix30, ix31, ix32, at20, at21, at30, at31, at32, List.filterMap_cons, List.filterMap_nil]
        have kb := ho.2
        have pl := perM_le (f := 2 * a * q) R.m0
        have bM : Bd 602 (2 * c * av p) := (((bd2.mul bc).mul (av_bd bp))).up (by decide)
        have bk : Bd 602 (k : Int) := bM.le (by omega) (by omega)
        have b2ak : Bd 804 (2 * a * k) := b2a.mul bk
        have bt : Bd 805 (u + 2 * a * k) := (bu.up (by decide)).add b2ak
        refine ⟨s2, sa, b2a.sm (by decide), bk.sm (by decide), ?_⟩
        refine call h2 ⟨_, _, rfl, pp, (av_bd bp).up (by decide), ?_⟩
        refine append_ref e5 (by omega) ?_
        have tc : TimC (low (u + 2 * a * k) (av p)) := fun t b e => by
          obtain ⟨t', b', eu, h1, b0, bt', bb⟩ := low_cmp (A := u + 2 * a * k) pp
          rw [eu] at e
          obtain ⟨rfl, rfl⟩ := pr_inj e
          exact ⟨(bt' _ bt).up (by decide), (bb _ (av_bd bp)).up (by decide)⟩
        refine hn [low (u + 2 * a * k) (av p)] _ _ _ _ ((x5.kp r).trans Kp.wr) upd_at (by simp) (fun d hd => ?_) (tms_one (psd_yes a0 hp hu ho.1) tc)
        rw [List.mem_singleton] at hd
        subst hd
        exact tc
    subst hB
    rw [pt_cut]
    generalize pt_tail = tl at *
    simp only [pt_head, wpSs, wpS, wpE, wpEs, wpC, wpAnd, wpOr, wpO, wpIt, opt_some, onI_int, onB_bl, onR_ref, arg1_one, look, joinO, start, List.map_cons, List.map_nil, List.length_cons, List.length_nil, List.replicate, List.cons_append, List.nil_append, List.append_nil, List.getElem?_cons_succ, List.getElem?_cons_zero, kcD, Nat.reduceAdd, Nat.reduceSub, br_t, br_f, br_n, asg, setAll, List.set_cons_succ, List.set_cons_zero, tgs, wipe, eq_ii, ne_ii, lt_ii, le_ii, gt_ii, ge_ii, is_n, isn_n, is_b, isn_b, add_ii, sub_ii, mul_ii, mod_ii, fdiv_ii, pow_ii, isNon, biD, intD_i, intD_b, esLen, beq_self_eq_true, ixD_tup, lsOf_new, seqD_tup, seqD_fl, slD_tup, bools, Option.map_some, true_and, ixD_fl, lenD_tup, lenD_fl, ix30, ix31, ix32, at20, at21, at30, at31, at32, List.filterMap_cons, List.filterMap_nil, fmod_pos a20]
    have m0 : ∀ w : Int, 0 ≤ w % (2 * a) ∧ w % (2 * a) < 2 * a := fun w => ⟨Int.emod_nonneg _ (by omega), Int.emod_lt_of_pos _ a20⟩
    refine br_d (fun z => ?_) fun z => ?_
    · exact ⟨s2, sa, by omega, core _ (m0 _).1 (m0 _).2 (by unfold sgw; rw [if_pos z])⟩
    · exact ⟨s2, sa, by omega, core _ (m0 _).1 (m0 _).2 (by unfold sgw; rw [if_neg z, Int.neg_sub])⟩
  simp only [forW, wpSs, wpS, wpE, wpEs, wpC, wpAnd, wpOr, wpO, wpIt, opt_some, onI_int, onB_bl, onR_ref, arg1_one, look, joinO, start, List.map_cons, List.map_nil, List.length_cons, List.length_nil, List.replicate, List.cons_append, List.nil_append, List.append_nil, List.getElem?_cons_succ, List.getElem?_cons_zero, kcD, Nat.reduceAdd, Nat.reduceSub, br_t, br_f, br_n, asg, setAll, List.set_cons_succ, List.set_cons_zero, tgs, wipe, eq_ii, ne_ii, lt_ii, le_ii, gt_ii, ge_ii, is_n, isn_n, is_b, isn_b, add_ii, sub_ii, mul_ii, mod_ii, fdiv_ii, pow_ii, isNon, biD, intD_i, intD_b, esLen, beq_self_eq_true, ixD_tup, lsOf_new, seqD_tup, seqD_fl, slD_tup, bools, Option.map_some, true_and, ixD_fl, lenD_tup, lenD_fl, ix30, ix31, ix32, at20, at21, at30, at31, at32, List.filterMap_cons, List.filterMap_nil]
  refine ⟨len_lim (by decide), turn g [] S1 none none none _ (bg.up (by decide)) er (by simp) fun xs1 S4 o12 o13 o14 k4 e4 l4 c4 h4 => ?_⟩
  refine turn (-g) _ S4 _ _ _ _ (bg.neg.up (by decide)) e4 (by simp; omega) fun xs2 S5 o12 o13 o14 k5 e5 l5 c5 h5 => ?_
  subst hA
  simp only [pass_time_A0, wpSs, wpS, wpE, wpEs, wpC, wpAnd, wpOr, wpO, wpIt, opt_some, onI_int, onB_bl, onR_ref, arg1_one, look, joinO, start, List.map_cons, List.map_nil, List.length_cons, List.length_nil, List.replicate, List.cons_append, List.nil_append, List.append_nil, List.getElem?_cons_succ, List.getElem?_cons_zero, kcD, Nat.reduceAdd, Nat.reduceSub, br_t, br_f, br_n, asg, setAll, List.set_cons_succ, List.set_cons_zero, tgs, wipe, eq_ii, ne_ii, lt_ii, le_ii, gt_ii, ge_ii, is_n, isn_n, is_b, isn_b, add_ii, sub_ii, mul_ii, mod_ii, fdiv_ii, pow_ii, isNon, biD, intD_i, intD_b, esLen, beq_self_eq_true, ixD_tup, lsOf_new, seqD_tup, seqD_fl, slD_tup, bools, Option.map_some, true_and, ixD_fl, lenD_tup, lenD_fl, ix30, ix31, ix32, at20, at21, at30, at31, at32, List.filterMap_cons, List.filterMap_nil]
  have all : Tms ([] ++ xs1 ++ xs2) (Sd a x p c y q g lo hi) := by
    rw [List.nil_append]
    exact tms_iff (tms_app h4 h5) fun t d _ _ => ⟨fun z => ⟨hp, z⟩, fun z => z.2⟩
  refine call h4' ⟨r, _, _, rfl, e5, all, fun d hd hm => ?_⟩
  refine hq d S5 (fun o oo ho => ?_) hd ?_
  · have : o ≠ r := fun z => by rw [z, hr] at ho; cases ho
    exact k5 _ _ this (k4 _ _ this (x1 _ _ ho))
  · rcases hm with rfl | hm
    · intro _ _ z; cases z
    · rw [List.nil_append] at hm
      rcases List.mem_append.mp hm with z | z
      · exact c4 d z
      · exact c5 d z
end M
namespace M
/-! ### the first time in a box -/
def boxD (l r lo hi : Int) : D := .tup [.int l, .int r, .int lo, .int hi]
structure OkB (a c l r lo hi : Int) : Prop where
  l0 : 0 ≤ l
  lr : l ≤ r
  ra : r ≤ a
  o0 : 0 ≤ lo
  oh : lo ≤ hi
  hc : hi ≤ c
def Edg (a c x y p q l r lo hi : Int) (t d : Int) : Prop := (Sd a x p c y q l lo hi t d ∨ Sd a x p c y q r lo hi t d) ∨ (Sd c y q a x p lo l r t d ∨ Sd c y q a x p hi l r t d)
def Wst (x y l r lo hi : Int) : Prop := l ≤ x ∧ x ≤ r ∧ lo ≤ y ∧ y ≤ hi
def BoxT (a c x y p q l r lo hi : Int) (t d : Int) : Prop := (Wst x y l r lo hi ∧ t = 0) ∨ Edg a c x y p q l r lo hi t d
def spBT : Sp := fun ds S Q _ => ∃ a c x y p q l r lo hi, ds = [prD a c, shD x y p q, boxD l r lo hi] ∧ OkL ⟨a, c, x, y, p, q⟩ ∧ BL ⟨a, c, x, y, p, q⟩ ∧ OkB a c l r lo hi ∧ ∀ d S', Ext S S' → LstP (BoxT a c x y p q l r lo hi) d → TimC d → Q d S'
def bt_tail : Ss := (.cons (.set (.tup [7, 8]) (.tup (.cons (.call 17 (.cons (.v 0) (.cons (.v 1) (.cons (.k (.int 0)) .nil)))) (.cons (.call 17 (.cons (.v 0) (.cons (.v 1) (.cons (.k (.int 1)) .nil)))) .nil)))) (.cons (.set (.v 9) (.comp (.call 18 (.cons (.v 7) (.cons (.v 10) (.cons (.v 5) (.cons (.v 6) .nil))))) (.v 10) (.seq (.tup (.cons (.v 3) (.cons (.v 4) .nil)))) .none)) (.cons (.ret (.call 4 (.cons (.lst (.star (.v 9) (.star (.comp (.call 18 (.cons (.v 8) (.cons (.v 10) (.cons (.v 3) (.cons (.v 4) .nil))))) (.v 10) (.seq (.tup (.cons (.v 5) (.cons (.v 6) .nil)))) .none) .nil))) .nil))) .nil)))
def bt_head (t : Ss) : Ss := (.cons (.set (.tup [3, 4, 5, 6]) (.v 2)) (.cons (.if_ (.and (.chain .le .le (.v 3) (.ix (.v 1) (.k (.int 0))) (.v 4)) (.cons (.chain .le .le (.v 5) (.ix (.v 1) (.k (.int 1))) (.v 6)) .nil)) (.cons (.ret (.tup (.cons (.k (.int 0)) (.cons (.k (.int 1)) .nil)))) .nil) .nil) t))
theorem txt_bt {G : Gm} {ds : List D} {S0 : Sto} {Q : VK} {X : XK} {b : Ss} (hb : b = bt_head bt_tail) (h4 : G.fn 4 = spLeo) (ha : G.fn 17 = spAx) (hp : G.fn 18 = spPT) (h : spBT ds S0 Q X) : ds.length = 3 ∧ wpSs G b (start 11 ds) S0 (kR Q X) := by
  obtain ⟨a, c, x, y, p, q, l, r, lo, hi, rfl, o, bl, ob, hq⟩ := h
  subst hb
  refine ⟨rfl, ?_⟩
  have core : ¬ Wst x y l r lo hi → wpSs G bt_tail [some (prD a c), some (shD x y p q), some (boxD l r lo hi), some (.int l), some (.int r), some (.int lo), some (.int hi), none, none, none, none] S0 (kR Q X) := by
    intro hw
    simp only [bt_tail, wpSs, wpS, wpE, wpEs, wpC, wpAnd, wpOr, wpO, wpIt, opt_some, onI_int, onB_bl, onR_ref, arg1_one, look, joinO, start, List.map_cons, List.map_nil, List.length_cons, List.length_nil, List.replicate, List.cons_append, List.nil_append, List.append_nil, List.getElem?_cons_succ, List.getElem?_cons_zero, kcD, Nat.reduceAdd, Nat.reduceSub, br_t, br_f, br_n, asg, setAll, List.set_cons_succ, List.set_cons_zero, tgs, wipe, eq_ii, ne_ii, lt_ii, le_ii, gt_ii, ge_ii, is_n, isn_n, is_b, isn_b, add_ii, sub_ii, mul_ii, mod_ii, fdiv_ii, pow_ii, isNon, biD, intD_i, intD_b, esLen, beq_self_eq_true, ixD_tup, lsOf_new, seqD_tup, seqD_fl, slD_tup, bools, Option.map_some, true_and, ixD_fl, lenD_tup, lenD_fl, ix30, ix31, ix32, at20, at21, at30, at31, at32, List.filterMap_cons, List.filterMap_nil]
    refine call ha ⟨a, c, x, y, p, q, 0, rfl, Or.inl rfl, ?_⟩
    refine call ha ⟨a, c, x, y, p, q, 1, rfl, Or.inr rfl, ?_⟩
    have ba : Bd 200 a := bl.ba
    have bc : Bd 200 c := bl.bc
    have l0 := ob.l0
    have lr := ob.lr
    have ra := ob.ra
    have o0 := ob.o0
    have oh := ob.oh
    have hc := ob.hc
    have a0 : 0 < a := o.a0
    have c0 : 0 < c := o.c0
    have bl' : Bd 200 l := ba.le l0 (by omega)
    have br' : Bd 200 r := ba.le (by omega) ra
    have blo : Bd 200 lo := bc.le o0 (by omega)
    have bhi : Bd 200 hi := bc.le (by omega) hc
    have p1 : ∀ (g : Int) (S : Sto) (k : VK) (X : XK), Bd 200 g → (∀ d S', Ext S S' → LstP (Sd a x p c y q g lo hi) d → TimC d → k d S') → cl (G.fn 18) [axD x p a y q c, .int g, .int lo, .int hi] S k X := fun g S k X hg hk =>
      call hp ⟨x, p, a, y, q, c, g, lo, hi, rfl, a0, bl.bx, bl.bp, ba, bl.by_, bl.bq, bc, hg, c0, o0, oh, hc, hk⟩
    have p2 : ∀ (g : Int) (S : Sto) (k : VK) (X : XK), Bd 200 g → (∀ d S', Ext S S' → LstP (Sd c y q a x p g l r) d → TimC d → k d S') → cl (G.fn 18) [axD y q c x p a, .int g, .int l, .int r] S k X := fun g S k X hg hk =>
      call hp ⟨y, q, c, x, p, a, g, l, r, rfl, c0, bl.by_, bl.bq, bc, bl.bx, bl.bp, ba, hg, a0, l0, lr, ra, hk⟩
    have l2 : 2 ≤ lim := len_lim (by decide)
    simp only [compW, if_true, show ¬ ((1 : Int) = 0) by decide, if_false]
    refine ⟨l2, l2, l2, trivial, p1 l S0 _ _ bl' fun d1 S1 x1 h1 b1 => ⟨trivial, p1 r S1 _ _ br' fun d2 S2 x2 h2 b2 => ⟨trivial, fun f hf => ?_⟩⟩⟩
    have ef : (upd S2 f (.lst ([] ++ (some d1).toList ++ (some d2).toList))) f = some (.lst [d1, d2]) := upd_at
    have xf : Ext S2 (upd S2 f (.lst ([] ++ (some d1).toList ++ (some d2).toList))) := Ext.new hf
    generalize upd S2 f (.lst ([] ++ (some d1).toList ++ (some d2).toList)) = S3 at *
    rw [sqOf_ref ef]
    refine ⟨l2, l2, trivial, p2 lo S3 _ _ blo fun d3 S4 x4 h3 b3 => ⟨trivial, p2 hi S4 _ _ bhi fun d4 S5 x5 h4' b4 => ⟨trivial, fun f2 hf2 => ?_⟩⟩⟩
    have ef2 : (upd S5 f2 (.lst ([] ++ (some d3).toList ++ (some d4).toList))) f2 = some (.lst [d3, d4]) := upd_at
    have xf2 : Ext S5 (upd S5 f2 (.lst ([] ++ (some d3).toList ++ (some d4).toList))) := Ext.new hf2
    generalize upd S5 f2 (.lst ([] ++ (some d3).toList ++ (some d4).toList)) = S6 at *
    rw [sqOf_ref ef2, opt_some]
    refine mkL_ok (by simp) fun f3 hf3 => ?_
    have xx := (((((x1.trans x2).trans xf).trans x4).trans x5).trans xf2).trans (Ext.new (o := .lst ([d1, d2] ++ [d3, d4])) hf3)
    have all : ∀ d ∈ [d1, d2] ++ [d3, d4], TimC d := fun d hd => by
      simp only [List.cons_append, List.nil_append, List.mem_cons, List.not_mem_nil, or_false] at hd
      rcases hd with rfl | rfl | rfl | rfl
      · exact b1
      · exact b2
      · exact b3
      · exact b4
    have tm : Tms ([d1, d2] ++ [d3, d4]) (BoxT a c x y p q l r lo hi) := tms_iff (tms_app (tms_app (xs := [d1]) (ys := [d2]) (tms_one h1 b1) (tms_one h2 b2)) (tms_app (xs := [d3]) (ys := [d4]) (tms_one h3 b3) (tms_one h4' b4))) fun t d _ _ => ⟨fun z => .inr z, fun z => z.resolve_left fun w => hw w.1⟩
    refine call h4 ⟨f3, _, _, rfl, upd_at, tm, fun d hd hm => hq d _ xx hd ?_⟩
    rcases hm with rfl | hm
    · intro _ _ z; cases z
    · exact all d hm
  generalize bt_tail = tl at *
  have l2 : 2 ≤ lim := len_lim (by decide)
  simp only [bt_head, wpSs, wpS, wpE, wpEs, wpC, wpAnd, wpOr, wpO, wpIt, opt_some, onI_int, onB_bl, onR_ref, arg1_one, look, joinO, start, List.map_cons, List.map_nil, List.length_cons, List.length_nil, List.replicate, List.cons_append, List.nil_append, List.append_nil, List.getElem?_cons_succ, List.getElem?_cons_zero, kcD, Nat.reduceAdd, Nat.reduceSub, br_t, br_f, br_n, asg, setAll, List.set_cons_succ, List.set_cons_zero, tgs, wipe, eq_ii, ne_ii, lt_ii, le_ii, gt_ii, ge_ii, is_n, isn_n, is_b, isn_b, add_ii, sub_ii, mul_ii, mod_ii, fdiv_ii, pow_ii, isNon, biD, intD_i, intD_b, esLen, beq_self_eq_true, ixD_tup, lsOf_new, seqD_tup, seqD_fl, slD_tup, bools, Option.map_some, true_and, ixD_fl, lenD_tup, lenD_fl, ix30, ix31, ix32, at20, at21, at30, at31, at32, List.filterMap_cons, List.filterMap_nil, boxD, at40, at41]
  have fin : Wst x y l r lo hi → Q (prD 0 1) S0 := fun w => hq (prD 0 1) S0 Ext.refl (.inr ⟨0, 1, rfl, rfl, by decide, by decide, .inl ⟨w, rfl⟩, fun t d t0 d0 _ => by omega⟩) fun t d e => by
    obtain ⟨rfl, rfl⟩ := pr_inj e
    exact ⟨(show Int.natAbs 0 < 2 ^ 1500 by decide), (show Int.natAbs 1 < 2 ^ 1500 by decide)⟩
  exact br_d (fun z1 => br_d (fun z2 => br_d (fun z3 => br_d (fun z4 => ⟨l2, fin ⟨z1, z2, z3, z4⟩⟩) fun z => core fun w => z w.2.2.2) fun z => core fun w => z w.2.2.1) fun z => core fun w => z w.2.1) fun z => core fun w => z w.1
end M
namespace M
def _law_marks_B2 : Ss := (.cons (.ex (.mt .append (.v 7) (.cons (.v 12) .nil))) (.cons (.set (.v 12) (.bin .add (.v 12) (.bin .mul (.bin .mul (.k (.int 2)) (.v 6)) (.v 8)))) .nil))
def _law_marks_S2 : St := (.while_ (.cmp .le (.v 12) (.v 4)) _law_marks_B2)
def _law_marks_B1 : Ss := (.cons (.set (.v 11) (.ite (.cmp .gt (.v 5) (.k (.int 0))) (.bin .sub (.v 10) (.ix (.v 1) (.v 2))) (.bin .sub (.ix (.v 1) (.v 2)) (.v 10)))) (.cons (.set (.v 12) (.bin .mul (.bin .mod (.bi .int (.cons (.v 11) .nil)) (.bin .mul (.k (.int 2)) (.v 6))) (.v 8))) (.cons _law_marks_S2 .nil)))
def _law_marks_S1 : St := (.for_ (.v 10) (.seq (.tup (.cons (.v 9) (.cons (.neg (.v 9)) .nil)))) _law_marks_B1)
def _law_marks_B0 : Ss := (.cons _law_marks_S1 .nil)
def _law_marks_S0 : St := (.for_ (.v 9) (.seq (.v 3)) _law_marks_B0)
def _law_marks_A0 : Ss := (.cons (.ret (.v 7)) .nil)
def _law_marks_T : Ss := (.cons (.par3 5 6 7 (.ix (.v 1) (.bin .add (.v 2) (.k (.int 2)))) (.ix (.v 0) (.v 2)) (.lst .nil)) (.cons (.if_ (.cmp .eq (.v 5) (.k (.int 0))) (.cons (.ret (.lst .nil)) .nil) .nil) (.cons (.set (.v 8) (.bi .max (.cons (.k (.int 1)) (.cons (.bi .abs (.cons (.ix (.v 1) (.bin .sub (.k (.int 3)) (.v 2))) .nil)) .nil)))) (.cons _law_marks_S0 _law_marks_A0))))
def _law_round_B0 : Ss := (.cons (.par 5 6 (.v 6) (.bin .mod (.bi .int (.cons (.v 5) .nil)) (.v 6))) .nil)
def _law_round_S0 : St := (.while_ (.cmp .ne (.v 6) (.k (.int 0))) _law_round_B0)
def _law_round_A0 : Ss := (.cons (.ret (.bin .mul (.bin .fdiv (.ix (.v 4) (.k (.int 0))) (.v 5)) (.ix (.v 4) (.neg (.k (.int 1)))))) .nil)
def _law_round_T : Ss := (.cons (.par 2 3 (.bi .max (.cons (.k (.int 1)) (.cons (.bi .abs (.cons (.ix (.v 1) (.k (.int 2))) .nil)) .nil))) (.bi .max (.cons (.k (.int 1)) (.cons (.bi .abs (.cons (.ix (.v 1) (.k (.int 3))) .nil)) .nil)))) (.cons (.set (.v 4) (.comp (.bin .mul (.bin .mul (.k (.int 2)) (.v 7)) (.v 8)) (.tup [7, 8, 9]) (.seq (.tup (.cons (.tup (.cons (.ix (.v 0) (.k (.int 0))) (.cons (.v 3) (.cons (.ix (.v 1) (.k (.int 2))) .nil)))) (.cons (.tup (.cons (.ix (.v 0) (.k (.int 1))) (.cons (.v 2) (.cons (.ix (.v 1) (.k (.int 3))) .nil)))) .nil)))) (.some (.cmp .ne (.v 9) (.k (.int 0)))))) (.cons (.par 5 6 (.ix (.v 4) (.k (.int 0))) (.ix (.v 4) (.neg (.k (.int 1))))) (.cons _law_round_S0 _law_round_A0))))
/-! ### a round, in parts -/
def mx (v : Int) : Int := if (v.natAbs : Int) > 1 then (v.natAbs : Int) else 1
theorem mx_pos (v : Int) : 0 < mx v := by unfold mx; split <;> omega
theorem mx_av {v : Int} (h : v ≠ 0) : mx v = av v := by unfold mx av; split <;> omega
theorem mx_zero : mx 0 = 1 := rfl
theorem mx_le {v : Int} {n : Int} (h : (v.natAbs : Int) ≤ n) (h1 : 1 ≤ n) : mx v ≤ n := by unfold mx; split <;> omega
theorem mx_bd {n : Nat} {v : Int} (h : Bd n v) (hn : 1 ≤ n) : Bd n (mx v) := by
  unfold mx
  split
  · show Int.natAbs _ < 2 ^ n
    rw [Int.natAbs_natCast]; exact h
  · exact (show Bd 1 1 by show Int.natAbs 1 < 2 ^ 1; decide).up hn
theorem max_mx (v : Int) : (if (v.natAbs : Int) > 1 then (v.natAbs : Int) else 1) = mx v := rfl
structure Rnd (a c p q R : Int) : Prop where
  r0 : 0 < R
  hx : p ≠ 0 → ∃ e, R = 2 * a * mx q * e ∧ 0 < e ∧ e ≤ c * mx p
  hy : q ≠ 0 → ∃ e, R = 2 * c * mx p * e ∧ 0 < e ∧ e ≤ a * mx q
theorem rn_part {m n : Int} (m0 : 0 < m) (n0 : 0 < n) : 2 * m / ((Int.gcd (2 * m) (2 * n) : Nat) : Int) * (2 * n) = 2 * m * (2 * n / ((Int.gcd (2 * m) (2 * n) : Nat) : Int)) ∧ 2 * m / ((Int.gcd (2 * m) (2 * n) : Nat) : Int) * (2 * n) = 2 * n * (2 * m / ((Int.gcd (2 * m) (2 * n) : Nat) : Int)) ∧ (0 < 2 * n / ((Int.gcd (2 * m) (2 * n) : Nat) : Int) ∧ 2 * n / ((Int.gcd (2 * m) (2 * n) : Nat) : Int) ≤ n) ∧ 0 < 2 * m / ((Int.gcd (2 * m) (2 * n) : Nat) : Int) ∧ 2 * m / ((Int.gcd (2 * m) (2 * n) : Nat) : Int) ≤ m := by
  have p2 : 0 < 2 * n := by omega
  have g0 := gcd_pos (t := 2 * m) p2
  have d1 := Int.mul_ediv_cancel' (Int.gcd_dvd_left (2 * m) (2 * n))
  have d2 := Int.mul_ediv_cancel' (Int.gcd_dvd_right (2 * m) (2 * n))
  have dv : (2 : Int) ∣ ((Int.gcd (2 * m) (2 * n) : Nat) : Int) := Int.dvd_coe_gcd (Int.dvd_mul_right ..) (Int.dvd_mul_right ..)
  generalize ((Int.gcd (2 * m) (2 * n) : Nat) : Int) = g at *
  have le : ∀ k : Int, 0 < k → g * (2 * k / g) = 2 * k → 0 < 2 * k / g ∧ 2 * k / g ≤ k := fun k k0 h => by
    have h0 : 0 < 2 * k / g := by
      have : 0 < g * (2 * k / g) := by omega
      exact Int.pos_of_mul_pos_right this g0
    refine ⟨h0, ?_⟩
    obtain ⟨w, rfl⟩ := dv
    have w0 : 0 < w := by omega
    have : w * (2 * k / (2 * w)) = k := by
      have : 2 * w * (2 * k / (2 * w)) = 2 * (w * (2 * k / (2 * w))) := by grind
      omega
    have : 1 * (2 * k / (2 * w)) ≤ w * (2 * k / (2 * w)) := Int.mul_le_mul_of_nonneg_right (by omega) (by omega)
    omega
  refine ⟨?_, by grind, le n n0 d2, le m m0 d1⟩
  generalize 2 * m / g = u at *
  generalize 2 * n / g = v at *
  rw [← d1, ← d2]; grind
def spRn : Sp := fun ds S Q _ => ∃ a c x y p q, ds = [prD a c, shD x y p q] ∧ 0 < a ∧ 0 < c ∧ Bd 60 a ∧ Bd 60 c ∧ Bd 60 p ∧ Bd 60 q ∧ (p ≠ 0 ∨ q ≠ 0) ∧ ∀ R S', Ext S S' → Rnd a c p q R → Q (.int R) S'
theorem at1n {x : D} : atI [x] (-1) = some x := rfl
theorem at2n {x y : D} : atI [x, y] (-1) = some y := rfl
theorem at1z {x : D} : atI [x] 0 = some x := rfl
theorem rn_while {G : Gm} {m n : Int} (m0 : 0 < m) (n0 : 0 < n) (bm : Bd 200 m) {S : Sto} {Q : VK} {X : XK} {o0 o1 o2 o3 o7 o8 o9 : Option D} {r : Nat} {xs : List D} (er : S r = some (.lst xs)) (h0 : atI xs 0 = some (.int m)) (h1 : atI xs (-1) = some (.int n)) (bn : Bd 200 n) (hq : Q (.int (m / ((Int.gcd m n : Nat) : Int) * n)) S) : wpSs G (.cons _law_round_S0 _law_round_A0) [o0, o1, o2, o3, some (.ref r), some (.int m), some (.int n), o7, o8, o9] S (kR Q X) := by
  obtain ⟨A, rfl⟩ : ∃ A : Nat, m = A := ⟨m.toNat, by omega⟩
  obtain ⟨C, rfl⟩ : ∃ C : Nat, n = C := ⟨n.toNat, by omega⟩
  have g0 := gcd_pos (t := (A : Int)) n0
  have hs : smd ((Int.gcd (A : Int) (C : Int) : Nat) : Int) := (gcd_bd bn n0).smd (by decide)
  have eg : Int.gcd (A : Int) (C : Int) = Nat.gcd A C := rfl
  rw [eg] at hs g0 hq
  simp only [_law_round_S0, wpSs, wpS, wpE, wpEs, wpC, wpAnd, wpOr, wpO, wpIt, opt_some, onI_int, onB_bl, onR_ref, arg1_one, look, joinO, start, List.map_cons, List.map_nil, List.length_cons, List.length_nil, List.replicate, List.cons_append, List.nil_append, List.append_nil, List.getElem?_cons_succ, List.getElem?_cons_zero, kcD, Nat.reduceAdd, Nat.reduceSub, br_t, br_f, br_n, asg, setAll, List.set_cons_succ, List.set_cons_zero, tgs, wipe, eq_ii, ne_ii, lt_ii, le_ii, gt_ii, ge_ii, is_n, isn_n, is_b, isn_b, add_ii, sub_ii, mul_ii, mod_ii, fdiv_ii, pow_ii, isNon, biD, intD_i, intD_b, esLen, beq_self_eq_true, ixD_tup, lsOf_new, seqD_tup, seqD_fl, slD_tup, bools, Option.map_some, true_and, ixD_fl, lenD_tup, lenD_fl, ix30, ix31, ix32, at20, at21, at30, at31, at32, List.filterMap_cons, List.filterMap_nil]
  refine euclid (mk := fun u v => [o0, o1, o2, o3, some (.ref r), some (.int (u : Int)), some (.int (v : Int)), o7, o8, o9]) (g := Nat.gcd A C) (fun u nx e => ?_) (fun u v nx hv k => ?_) _ _ _ (Nat.le_refl _) rfl
  · subst e
    simp only [_law_round_A0, wpSs, wpS, wpE, wpEs, wpC, wpAnd, wpOr, wpO, wpIt, opt_some, onI_int, onB_bl, onR_ref, arg1_one, look, joinO, start, List.map_cons, List.map_nil, List.length_cons, List.length_nil, List.replicate, List.cons_append, List.nil_append, List.append_nil, List.getElem?_cons_succ, List.getElem?_cons_zero, kcD, Nat.reduceAdd, Nat.reduceSub, br_t, br_f, br_n, asg, setAll, List.set_cons_succ, List.set_cons_zero, tgs, wipe, eq_ii, ne_ii, lt_ii, le_ii, gt_ii, ge_ii, is_n, isn_n, is_b, isn_b, add_ii, sub_ii, mul_ii, mod_ii, fdiv_ii, pow_ii, isNon, biD, intD_i, intD_b, esLen, beq_self_eq_true, ixD_tup, lsOf_new, seqD_tup, seqD_fl, slD_tup, bools, Option.map_some, true_and, ixD_fl, lenD_tup, lenD_fl, ix30, ix31, ix32, at20, at21, at30, at31, at32, List.filterMap_cons, List.filterMap_nil, ixD_ref er, h0, h1, fdiv_pos g0, Int.natCast_zero]
    exact ⟨by omega, hs, bm.div.sm (by decide), bn.sm (by decide), hq⟩
  · have hb : ((v : Int) == 0) = false := by simp; omega
    have hf : Int.fmod (u : Int) (v : Int) = ((u % v : Nat) : Int) := by rw [fmod_pos (by omega)]; rfl
    simp only [_law_round_B0, wpSs, wpS, wpE, wpEs, wpC, wpAnd, wpOr, wpO, wpIt, opt_some, onI_int, onB_bl, onR_ref, arg1_one, look, joinO, start, List.map_cons, List.map_nil, List.length_cons, List.length_nil, List.replicate, List.cons_append, List.nil_append, List.append_nil, List.getElem?_cons_succ, List.getElem?_cons_zero, kcD, Nat.reduceAdd, Nat.reduceSub, br_t, br_f, br_n, asg, setAll, List.set_cons_succ, List.set_cons_zero, tgs, wipe, eq_ii, ne_ii, lt_ii, le_ii, gt_ii, ge_ii, is_n, isn_n, is_b, isn_b, add_ii, sub_ii, mul_ii, mod_ii, fdiv_ii, pow_ii, isNon, biD, intD_i, intD_b, esLen, beq_self_eq_true, ixD_tup, lsOf_new, seqD_tup, seqD_fl, slD_tup, bools, Option.map_some, true_and, ixD_fl, lenD_tup, lenD_fl, ix30, ix31, ix32, at20, at21, at30, at31, at32, List.filterMap_cons, List.filterMap_nil, hb, hf]
    exact ⟨by omega, k⟩
theorem txt_rn {G : Gm} {ds : List D} {S0 : Sto} {Q : VK} {X : XK} {b : Ss} (hb : b = _law_round_T) (h : spRn ds S0 Q X) : ds.length = 2 ∧ wpSs G b (start 10 ds) S0 (kR Q X) := by
  obtain ⟨a, c, x, y, p, q, rfl, a0, c0, ba, bc, bp, bq, hpq, hq⟩ := h
  subst hb
  refine ⟨rfl, ?_⟩
  generalize hA : _law_round_A0 = A0
  generalize hS : _law_round_S0 = s0
  have l3 : 3 ≤ lim := len_lim (by decide)
  have l2 : 2 ≤ lim := len_lim (by decide)
  have s2 := bd2.sm (show 2 ≤ 4000 by decide)
  have mA := mx_bd bp (by decide)
  have mB := mx_bd bq (by decide)
  have pA := mx_pos p
  have pB := mx_pos q
  have b2a : Bd 62 (2 * a) := bd2.mul ba
  have b2c : Bd 62 (2 * c) := bd2.mul bc
  have bX : Bd 122 (2 * a * mx q) := b2a.mul mB
  have bY : Bd 122 (2 * c * mx p) := b2c.mul mA
  have pX : 0 < 2 * a * mx q := mulp (by omega) pB
  have pY : 0 < 2 * c * mx p := mulp (by omega) pA
  simp only [_law_round_T, hA, hS, wpSs, wpS, wpE, wpEs, wpC, wpAnd, wpOr, wpO, wpIt, opt_some, onI_int, onB_bl, onR_ref, arg1_one, look, joinO, start, List.map_cons, List.map_nil, List.length_cons, List.length_nil, List.replicate, List.cons_append, List.nil_append, List.append_nil, List.getElem?_cons_succ, List.getElem?_cons_zero, kcD, Nat.reduceAdd, Nat.reduceSub, br_t, br_f, br_n, asg, setAll, List.set_cons_succ, List.set_cons_zero, tgs, wipe, eq_ii, ne_ii, lt_ii, le_ii, gt_ii, ge_ii, is_n, isn_n, is_b, isn_b, add_ii, sub_ii, mul_ii, mod_ii, fdiv_ii, pow_ii, isNon, biD, intD_i, intD_b, esLen, beq_self_eq_true, ixD_tup, lsOf_new, seqD_tup, seqD_fl, slD_tup, bools, Option.map_some, true_and, ixD_fl, lenD_tup, lenD_fl, ix30, ix31, ix32, at20, at21, at30, at31, at32, List.filterMap_cons, List.filterMap_nil, abs_ite, at42, at43, max_mx, compW, Option.toList]
  have sa := ba.sm (show 60 ≤ 4000 by decide)
  have sc := bc.sm (show 60 ≤ 4000 by decide)
  have sA := mA.sm (show 60 ≤ 4000 by decide)
  have sB := mB.sm (show 60 ≤ 4000 by decide)
  subst hA hS
  by_cases hp : p = 0
  · have hq0 : q ≠ 0 := hpq.resolve_left fun z => z hp
    subst hp
    refine ⟨l3, l3, l2, l2, br_if (fun _ => ?_) fun z => by cases z⟩
    refine br_if (fun z => absurd (by simpa using z) hq0) fun _ => ?_
    refine ⟨s2, sc, b2c.sm (by decide), sA, fun r hr => ?_⟩
    simp only [List.nil_append, ixD_ref upd_at, at1z, at1n, opt_some]
    refine rn_while pY pY (bY.up (by decide)) upd_at rfl rfl (bY.up (by decide)) (hq _ _ (Ext.new hr) ⟨?_, fun z => absurd rfl z, fun _ => ⟨1, ?_, by decide, ?_⟩⟩)
    · rw [Int.gcd_self]
      have : ((2 * c * mx 0).natAbs : Int) = 2 * c * mx 0 := by omega
      rw [this, Int.ediv_self (by omega), Int.one_mul]; exact pY
    · rw [Int.gcd_self]
      have : ((2 * c * mx 0).natAbs : Int) = 2 * c * mx 0 := by omega
      rw [this, Int.ediv_self (by omega), Int.one_mul, Int.mul_one]
    · have := mulp a0 pB; omega
  · by_cases hq0 : q = 0
    · subst hq0
      refine ⟨l3, l3, l2, l2, br_if (fun z => absurd (by simpa using z) hp) fun _ => ?_⟩
      refine ⟨s2, sa, b2a.sm (by decide), sB, br_if (fun _ => ?_) fun z => by cases z⟩
      refine fun r hr => ?_
      simp only [List.nil_append, ixD_ref upd_at, at1z, at1n, opt_some]
      refine rn_while pX pX (bX.up (by decide)) upd_at rfl rfl (bX.up (by decide)) (hq _ _ (Ext.new hr) ⟨?_, fun _ => ⟨1, ?_, by decide, ?_⟩, fun z => absurd rfl z⟩)
      · rw [Int.gcd_self]
        have : ((2 * a * mx 0).natAbs : Int) = 2 * a * mx 0 := by omega
        rw [this, Int.ediv_self (by omega), Int.one_mul]; exact pX
      · rw [Int.gcd_self]
        have : ((2 * a * mx 0).natAbs : Int) = 2 * a * mx 0 := by omega
        rw [this, Int.ediv_self (by omega), Int.one_mul, Int.mul_one]
      · have := mulp c0 pA; omega
    · refine ⟨l3, l3, l2, l2, br_if (fun z => absurd (by simpa using z) hp) fun _ => ?_⟩
      refine ⟨s2, sa, b2a.sm (by decide), sB, br_if (fun z => absurd (by simpa using z) hq0) fun _ => ?_⟩
      refine ⟨s2, sc, b2c.sm (by decide), sA, fun r hr => ?_⟩
      simp only [List.nil_append, List.cons_append, ixD_ref upd_at, at20, at2n, opt_some]
      obtain ⟨e1, e2, ⟨u0, u1⟩, v0, v1⟩ := rn_part (m := a * mx q) (n := c * mx p) (mulp a0 pB) (mulp c0 pA)
      have xa : 2 * (a * mx q) = 2 * a * mx q := by grind
      have xc : 2 * (c * mx p) = 2 * c * mx p := by grind
      rw [xa, xc] at e1 e2 u0 u1 v0 v1
      refine rn_while pX pY (bX.up (by decide)) upd_at rfl rfl (bY.up (by decide)) (hq _ _ (Ext.new hr) ⟨?_, fun _ => ⟨_, e1, u0, u1⟩, fun _ => ⟨_, e2, v0, v1⟩⟩)
      rw [e1]
      exact mulp pX u0
end M
namespace M
def MI (R : Int) (is : List Int) : Prop := ∀ v ∈ is, 0 ≤ v ∧ v ≤ R
def mkStep (G : Gm) (K : Kt) : Env → Sto → (Env → Sto → Prop) → Prop := fun ρ1 S1 nx => wpE G (.cmp .le (.v 12) (.v 4)) ρ1 S1 (fun x S2 => onB x fun k => br k (wpSs G _law_marks_B2 ρ1 S2 { K with nx := nx, bk := K.nx }) (K.nx ρ1 S2)) (fun c fs S2 => K.xe c fs ρ1 S2)
theorem mk_while {G : Gm} {R s m : Int} (hs : 0 < s) (hm : 0 < m) (bs : Bd 200 s) (bm : Bd 200 m) {K : Kt} {r : Nat} {o0 o1 o2 o3 o5 o9 o10 o11 : Option D} :
    ∀ (n : Nat) (at_ : Int) (is : List Int) (S : Sto), R - at_ < 2 * s * m * n → 0 ≤ at_ → S r = some (.lst (is.map .int)) → is.length + n < 990 → MI R is →
      (∀ at' S' is', Kp r S S' → S' r = some (.lst (is'.map .int)) → (∀ v ∈ is, v ∈ is') → MI R is' → (∀ k : Int, 0 ≤ k → at_ + 2 * s * m * k ≤ R → at_ + 2 * s * m * k ∈ is') → is'.length ≤ is.length + n → (∀ v ∈ is', v ∈ is ∨ ∃ k : Int, 0 ≤ k ∧ v = at_ + 2 * s * m * k) → K.nx [o0, o1, o2, o3, some (.int R), o5, some (.int s), some (.ref r), some (.int m), o9, o10, o11, some (.int at')] S') →
      ∃ j, whileN (mkStep G K) j [o0, o1, o2, o3, some (.int R), o5, some (.int s), some (.ref r), some (.int m), o9, o10, o11, some (.int at_)] S := by
  have ss := bs.sm (show 200 ≤ 4000 by decide)
  have smm := bm.sm (show 200 ≤ 4000 by decide)
  have s2 := bd2.sm (show 2 ≤ 4000 by decide)
  have b2s : Bd 202 (2 * s) := bd2.mul bs
  have T0 : 0 < 2 * s * m := mulp (by omega) hm
  intro n
  induction n with
  | zero =>
    intro at_ is S h t0 e hl hT kk
    rw [Int.natCast_zero, Int.mul_zero] at h
    refine ⟨1, ?_⟩
    show mkStep G K _ S _
    simp only [mkStep, wpSs, wpS, wpE, wpEs, wpC, wpAnd, wpOr, wpO, wpIt, opt_some, onI_int, onB_bl, onR_ref, arg1_one, look, joinO, start, List.map_cons, List.map_nil, List.length_cons, List.length_nil, List.replicate, List.cons_append, List.nil_append, List.append_nil, List.getElem?_cons_succ, List.getElem?_cons_zero, kcD, Nat.reduceAdd, Nat.reduceSub, br_t, br_f, br_n, asg, setAll, List.set_cons_succ, List.set_cons_zero, tgs, wipe, eq_ii, ne_ii, lt_ii, le_ii, gt_ii, ge_ii, is_n, isn_n, is_b, isn_b, add_ii, sub_ii, mul_ii, mod_ii, fdiv_ii, pow_ii, isNon, biD, intD_i, intD_b, esLen, beq_self_eq_true, ixD_tup, lsOf_new, seqD_tup, seqD_fl, slD_tup, bools, Option.map_some, true_and, ixD_fl, lenD_tup, lenD_fl, ix30, ix31, ix32, at20, at21, at30, at31, at32, List.filterMap_cons, List.filterMap_nil]
    refine br_d (fun z => by omega) fun _ => kk _ _ is Kp.refl e (fun v h => h) hT (fun k k0 hk => ?_) (by omega) (fun v h => .inl h)
    have := Int.mul_nonneg (Int.le_of_lt T0) k0
    omega
  | succ n ih =>
    intro at_ is S h t0 e hl hT kk
    by_cases hc : at_ ≤ R
    · have em : (is ++ [at_]).map D.int = is.map D.int ++ [D.int at_] := by simp
      obtain ⟨j, hj⟩ := ih (at_ + 2 * s * m) (is ++ [at_]) (upd S r (.lst (is.map .int ++ [.int at_]))) (by
        have h : R - at_ < 2 * s * m * ((n : Int) + 1) := h
        have : 2 * s * m * ((n : Int) + 1) = 2 * s * m * n + 2 * s * m := by grind
        omega) (by omega) (by rw [upd_at, em]) (by simp; omega) (fun v hv => by
        rcases List.mem_append.mp hv with hv | hv
        · exact hT v hv
        · rw [List.mem_singleton.mp hv]; exact ⟨t0, hc⟩) (fun at' S' is' k1 e1 h1 h2 h3 h4 h5 => kk at' S' is' (Kp.wr.trans k1) e1 (fun v hv => h1 v (List.mem_append.mpr (.inl hv))) h2 (fun k k0 hk => by
          rcases Int.lt_or_le 0 k with z | z
          · have e3 : 2 * s * m * (k - 1) = 2 * s * m * k - 2 * s * m := by grind
            have := h3 (k - 1) (by omega) (by omega)
            have e2 : at_ + 2 * s * m + 2 * s * m * (k - 1) = at_ + 2 * s * m * k := by omega
            rwa [e2] at this
          · have : k = 0 := by omega
            subst this
            rw [Int.mul_zero, Int.add_zero]
            exact h1 _ (List.mem_append.mpr (.inr (List.mem_singleton.mpr rfl)))) (by simp at h4; omega) (fun v hv => by
          rcases h5 v hv with z | ⟨k, k0, z⟩
          · rcases List.mem_append.mp z with z | z
            · exact .inl z
            · exact .inr ⟨0, by decide, by rw [List.mem_singleton.mp z]; simp⟩
          · exact .inr ⟨k + 1, by omega, by rw [z]; grind⟩))
      refine ⟨j + 1, ?_⟩
      show mkStep G K _ S (whileN (mkStep G K) j)
      generalize whileN (mkStep G K) j = nx at *
      simp only [mkStep, wpSs, wpS, wpE, wpEs, wpC, wpAnd, wpOr, wpO, wpIt, opt_some, onI_int, onB_bl, onR_ref, arg1_one, look, joinO, start, List.map_cons, List.map_nil, List.length_cons, List.length_nil, List.replicate, List.cons_append, List.nil_append, List.append_nil, List.getElem?_cons_succ, List.getElem?_cons_zero, kcD, Nat.reduceAdd, Nat.reduceSub, br_t, br_f, br_n, asg, setAll, List.set_cons_succ, List.set_cons_zero, tgs, wipe, eq_ii, ne_ii, lt_ii, le_ii, gt_ii, ge_ii, is_n, isn_n, is_b, isn_b, add_ii, sub_ii, mul_ii, mod_ii, fdiv_ii, pow_ii, isNon, biD, intD_i, intD_b, esLen, beq_self_eq_true, ixD_tup, lsOf_new, seqD_tup, seqD_fl, slD_tup, bools, Option.map_some, true_and, ixD_fl, lenD_tup, lenD_fl, ix30, ix31, ix32, at20, at21, at30, at31, at32, List.filterMap_cons, List.filterMap_nil]
      refine br_d (fun _ => ?_) fun z => absurd hc z
      simp only [_law_marks_B2, wpSs, wpS, wpE, wpEs, wpC, wpAnd, wpOr, wpO, wpIt, opt_some, onI_int, onB_bl, onR_ref, arg1_one, look, joinO, start, List.map_cons, List.map_nil, List.length_cons, List.length_nil, List.replicate, List.cons_append, List.nil_append, List.append_nil, List.getElem?_cons_succ, List.getElem?_cons_zero, kcD, Nat.reduceAdd, Nat.reduceSub, br_t, br_f, br_n, asg, setAll, List.set_cons_succ, List.set_cons_zero, tgs, wipe, eq_ii, ne_ii, lt_ii, le_ii, gt_ii, ge_ii, is_n, isn_n, is_b, isn_b, add_ii, sub_ii, mul_ii, mod_ii, fdiv_ii, pow_ii, isNon, biD, intD_i, intD_b, esLen, beq_self_eq_true, ixD_tup, lsOf_new, seqD_tup, seqD_fl, slD_tup, bools, Option.map_some, true_and, ixD_fl, lenD_tup, lenD_fl, ix30, ix31, ix32, at20, at21, at30, at31, at32, List.filterMap_cons, List.filterMap_nil, lsOf_ref e]
      exact append_ref e (by simp; omega) ⟨s2, ss, b2s.sm (by decide), smm, hj⟩
    · refine ⟨1, ?_⟩
      show mkStep G K _ S _
      simp only [mkStep, wpSs, wpS, wpE, wpEs, wpC, wpAnd, wpOr, wpO, wpIt, opt_some, onI_int, onB_bl, onR_ref, arg1_one, look, joinO, start, List.map_cons, List.map_nil, List.length_cons, List.length_nil, List.replicate, List.cons_append, List.nil_append, List.append_nil, List.getElem?_cons_succ, List.getElem?_cons_zero, kcD, Nat.reduceAdd, Nat.reduceSub, br_t, br_f, br_n, asg, setAll, List.set_cons_succ, List.set_cons_zero, tgs, wipe, eq_ii, ne_ii, lt_ii, le_ii, gt_ii, ge_ii, is_n, isn_n, is_b, isn_b, add_ii, sub_ii, mul_ii, mod_ii, fdiv_ii, pow_ii, isNon, biD, intD_i, intD_b, esLen, beq_self_eq_true, ixD_tup, lsOf_new, seqD_tup, seqD_fl, slD_tup, bools, Option.map_some, true_and, ixD_fl, lenD_tup, lenD_fl, ix30, ix31, ix32, at20, at21, at30, at31, at32, List.filterMap_cons, List.filterMap_nil]
      refine br_d (fun z => absurd z hc) fun _ => kk _ _ is Kp.refl e (fun v h => h) hT (fun k k0 hk => ?_) (by omega) (fun v h => .inl h)
      have := Int.mul_nonneg (Int.le_of_lt T0) k0
      omega
/-- the times of an image are among some -/
def CovM (st w s m R : Int) (is : List Int) (i : Int) : Prop := ∀ k : Int, 0 ≤ k → sgw w (i - st) % (2 * s) * m + 2 * s * m * k ≤ R → sgw w (i - st) % (2 * s) * m + 2 * s * m * k ∈ is
def SnM (st w s m i v : Int) : Prop := ∃ k : Int, 0 ≤ k ∧ v = sgw w (i - st) % (2 * s) * m + 2 * s * m * k
theorem mk_turn {G : Gm} {st w s m R e i : Int} (hs : 0 < s) (hm : 0 < m) (bs : Bd 200 s) (bm : Bd 200 m) (hR : R = 2 * s * m * e) (e0 : 0 < e) (e1 : e ≤ 200) {ax : Int} {roll : List D} (h1 : atI roll ax = some (.int st)) {K : Kt} {r : Nat} {o0 o3 o9 o11 o12 : Option D} {is : List Int} {S : Sto} (er : S r = some (.lst (is.map .int))) (hl : is.length < 700) (hT : MI R is)
    (kk : ∀ o11 o12 S' is', Kp r S S' → S' r = some (.lst (is'.map .int)) → (∀ v ∈ is, v ∈ is') → MI R is' → CovM st w s m R is' i → (is'.length : Int) ≤ is.length + (e + 1) → (∀ v ∈ is', v ∈ is ∨ SnM st w s m i v) → K.nx [o0, some (.tup roll), some (.int ax), o3, some (.int R), some (.int w), some (.int s), some (.ref r), some (.int m), o9, some (.int i), o11, o12] S') :
    wpSs G _law_marks_B1 [o0, some (.tup roll), some (.int ax), o3, some (.int R), some (.int w), some (.int s), some (.ref r), some (.int m), o9, some (.int i), o11, o12] S K := by
  have p2 : 0 < 2 * s := by omega
  have s2 := bd2.sm (show 2 ≤ 4000 by decide)
  have ss := bs.sm (show 200 ≤ 4000 by decide)
  have smm := bm.sm (show 200 ≤ 4000 by decide)
  have b2s : Bd 202 (2 * s) := bd2.mul bs
  have T0 : 0 < 2 * s * m := mulp p2 hm
  have run : ∀ (g : Int), g = sgw w (i - st) → ∃ j, whileN (mkStep G K) j [o0, some (.tup roll), some (.int ax), o3, some (.int R), some (.int w), some (.int s), some (.ref r), some (.int m), o9, some (.int i), some (.int g), some (.int (g % (2 * s) * m))] S := fun g hg => by
    have r0 := Int.emod_nonneg g (show 2 * s ≠ 0 by omega)
    have g0 : 0 ≤ g % (2 * s) * m := Int.mul_nonneg r0 (by omega)
    refine mk_while hs hm bs bm (e + 1).toNat _ is S ?_ g0 er (by omega) hT fun at' S' is' k1 e1 g1 g2 g3 g4 g5 => kk _ _ S' is' k1 e1 g1 g2 (by unfold CovM; rw [← hg]; exact g3) (by omega) (by unfold SnM; rw [← hg]; exact g5)
    rw [Int.toNat_of_nonneg (by omega), hR]
    have : 2 * s * m * (e + 1) = 2 * s * m * e + 2 * s * m := by grind
    omega
  have bmod : ∀ g : Int, sm (g % (2 * s)) := fun g => (b2s.mod p2).sm (by decide)
  simp only [_law_marks_B1, _law_marks_S2, wpSs, wpS, wpE, wpEs, wpC, wpAnd, wpOr, wpO, wpIt, opt_some, onI_int, onB_bl, onR_ref, arg1_one, look, joinO, start, List.map_cons, List.map_nil, List.length_cons, List.length_nil, List.replicate, List.cons_append, List.nil_append, List.append_nil, List.getElem?_cons_succ, List.getElem?_cons_zero, kcD, Nat.reduceAdd, Nat.reduceSub, br_t, br_f, br_n, asg, setAll, List.set_cons_succ, List.set_cons_zero, tgs, wipe, eq_ii, ne_ii, lt_ii, le_ii, gt_ii, ge_ii, is_n, isn_n, is_b, isn_b, add_ii, sub_ii, mul_ii, mod_ii, fdiv_ii, pow_ii, isNon, biD, intD_i, intD_b, esLen, beq_self_eq_true, ixD_tup, lsOf_new, seqD_tup, seqD_fl, slD_tup, bools, Option.map_some, true_and, ixD_fl, lenD_tup, lenD_fl, ix30, ix31, ix32, at20, at21, at30, at31, at32, List.filterMap_cons, List.filterMap_nil, h1, fmod_pos p2]
  refine br_d (fun hp => ?_) fun hp => ?_
  · exact ⟨s2, ss, by omega, bmod _, smm, while_of (run _ (by unfold sgw; rw [if_pos hp]))⟩
  · exact ⟨s2, ss, by omega, bmod _, smm, while_of (run _ (by unfold sgw; rw [if_neg hp, Int.neg_sub]))⟩
theorem CovM.up {st w s m R i : Int} {is js : List Int} (h : CovM st w s m R is i) (k : ∀ v ∈ is, v ∈ js) : CovM st w s m R js i := fun j j0 hj => k _ (h j j0 hj)
def spMk : Sp := fun ds S Q _ => ∃ (desk roll : List D) (ax st w s w' : Int) (gs : List Int) (R e : Int), ds = [.tup desk, .tup roll, .int ax, .tup (gs.map .int), .int R] ∧ atI roll (ax + 2) = some (.int w) ∧ atI desk ax = some (.int s) ∧ atI roll (3 - ax) = some (.int w') ∧ atI roll ax = some (.int st) ∧ 0 < s ∧ Bd 200 s ∧ Bd 200 w' ∧ (w ≠ 0 → R = 2 * s * mx w' * e ∧ 0 < e ∧ e ≤ 150) ∧ gs.length ≤ 2 ∧
  ∀ r is S', Ext S S' → S' r = some (.lst (is.map .int)) → MI R is → (w = 0 → is = []) → (w ≠ 0 → ∀ g ∈ gs, CovM st w s (mx w') R is g ∧ CovM st w s (mx w') R is (-g)) → (w ≠ 0 → (is.length : Int) ≤ gs.length * (2 * (e + 1))) → (∀ v ∈ is, ∃ g ∈ gs, SnM st w s (mx w') g v ∨ SnM st w s (mx w') (-g) v) → Q (.ref r) S'
theorem txt_mk {G : Gm} {ds : List D} {S0 : Sto} {Q : VK} {X : XK} {b : Ss} (hb : b = _law_marks_T) (h : spMk ds S0 Q X) : ds.length = 5 ∧ wpSs G b (start 13 ds) S0 (kR Q X) := by
  obtain ⟨desk, roll, ax, st, w, s, w', gs, R, e, rfl, h1, h2, h3, h4, s0, bs, bw, hR, hg, hq⟩ := h
  subst hb
  refine ⟨rfl, ?_⟩
  generalize hA : _law_marks_A0 = A0
  generalize hB : _law_marks_B1 = bo
  simp only [_law_marks_T, _law_marks_S0, _law_marks_B0, _law_marks_S1, hA, hB, wpSs, wpS, wpE, wpEs, wpC, wpAnd, wpOr, wpO, wpIt, opt_some, onI_int, onB_bl, onR_ref, arg1_one, look, joinO, start, List.map_cons, List.map_nil, List.length_cons, List.length_nil, List.replicate, List.cons_append, List.nil_append, List.append_nil, List.getElem?_cons_succ, List.getElem?_cons_zero, kcD, Nat.reduceAdd, Nat.reduceSub, br_t, br_f, br_n, asg, setAll, List.set_cons_succ, List.set_cons_zero, tgs, wipe, eq_ii, ne_ii, lt_ii, le_ii, gt_ii, ge_ii, is_n, isn_n, is_b, isn_b, add_ii, sub_ii, mul_ii, mod_ii, fdiv_ii, pow_ii, isNon, biD, intD_i, intD_b, esLen, beq_self_eq_true, ixD_tup, lsOf_new, seqD_tup, seqD_fl, slD_tup, bools, Option.map_some, true_and, ixD_fl, lenD_tup, lenD_fl, ix30, ix31, ix32, at20, at21, at30, at31, at32, List.filterMap_cons, List.filterMap_nil, abs_ite, h1, h2, h3, max_mx]
  refine mkL_ok (by simp) fun r hr => ?_
  have er : (upd S0 r (.lst [])) r = some (.lst []) := upd_at
  have x1 : Ext S0 (upd S0 r (.lst [])) := Ext.new hr
  have ext : ∀ S', Kp r (upd S0 r (.lst [])) S' → Ext S0 S' := fun S' k z o e => k z o (ne_new e hr) (x1 z o e)
  generalize upd S0 r (.lst []) = S1 at *
  by_cases hw : w = 0
  · refine br_if (fun _ => mkL_ok (by simp) fun q hq' => ?_) fun z => absurd hw (by simpa using z)
    exact hq q [] _ (x1.trans (Ext.new hq')) upd_at (fun v hv => by cases hv) (fun _ => rfl) (fun z => absurd hw z) (fun z => absurd hw z) (fun v hv => by cases hv)
  · refine br_if (fun z => absurd (by simpa using z) hw) fun _ => ?_
    obtain ⟨hR, e0, e1⟩ := hR hw
    have hm := mx_pos w'
    have bm : Bd 200 (mx w') := mx_bd bw (by decide)
    refine forW_ix (L := gs.map .int) (I := fun j ρ S => ∃ o9 o10 o11 o12 is, ρ = [some (.tup desk), some (.tup roll), some (.int ax), some (.tup (gs.map .int)), some (.int R), some (.int w), some (.int s), some (.ref r), some (.int (mx w')), o9, o10, o11, o12] ∧ Kp r S1 S ∧ S r = some (.lst (is.map .int)) ∧ MI R is ∧ (is.length : Int) ≤ j * (2 * (e + 1)) ∧ (∀ j' g, j' < j → gs[j']? = some g → CovM st w s (mx w') R is g ∧ CovM st w s (mx w') R is (-g)) ∧ ∀ v ∈ is, ∃ g ∈ gs, SnM st w s (mx w') g v ∨ SnM st w s (mx w') (-g) v) (fun j d ρ S nx' hj hI hn => ?_) (fun ρ S hI => ?_) _ 0 _ _ rfl (by simp) ⟨_, _, _, _, [], rfl, Kp.refl, er, fun v hv => (by cases hv), by simp, (fun j' g hj => by omega), fun v hv => (by cases hv)⟩
    · obtain ⟨o9, o10, o11, o12, is, rfl, k1, er1, hT, hl, hC, hS⟩ := hI
      refine ⟨trivial, ?_⟩
      rw [List.getElem?_map] at hj
      obtain ⟨g, hgj, rfl⟩ := Option.map_eq_some_iff.mp hj
      have jl : j < gs.length := (List.getElem?_eq_some_iff.mp hgj).1
      have j2 : (j : Int) * (2 * (e + 1)) ≤ 1 * (2 * (e + 1)) := Int.mul_le_mul_of_nonneg_right (by omega) (by omega)
      simp only [wpSs, wpS, wpE, wpEs, wpC, wpAnd, wpOr, wpO, wpIt, opt_some, onI_int, onB_bl, onR_ref, arg1_one, look, joinO, start, List.map_cons, List.map_nil, List.length_cons, List.length_nil, List.replicate, List.cons_append, List.nil_append, List.append_nil, List.getElem?_cons_succ, List.getElem?_cons_zero, kcD, Nat.reduceAdd, Nat.reduceSub, br_t, br_f, br_n, asg, setAll, List.set_cons_succ, List.set_cons_zero, tgs, wipe, eq_ii, ne_ii, lt_ii, le_ii, gt_ii, ge_ii, is_n, isn_n, is_b, isn_b, add_ii, sub_ii, mul_ii, mod_ii, fdiv_ii, pow_ii, isNon, biD, intD_i, intD_b, esLen, beq_self_eq_true, ixD_tup, lsOf_new, seqD_tup, seqD_fl, slD_tup, bools, Option.map_some, true_and, ixD_fl, lenD_tup, lenD_fl, ix30, ix31, ix32, at20, at21, at30, at31, at32, List.filterMap_cons, List.filterMap_nil, forW]
      refine ⟨len_lim (by decide), ?_⟩
      subst hB
      refine mk_turn s0 hm bs bm hR e0 (by omega) h4 er1 (by omega) hT fun o11 o12 S2 is2 k2 er2 i2 t2 c2 l2 n2 => ?_
      refine mk_turn s0 hm bs bm hR e0 (by omega) h4 er2 (by omega) t2 fun o11 o12 S3 is3 k3 er3 i3 t3 c3 l3 n3 => ?_
      refine hn _ _ ⟨_, _, _, _, is3, rfl, (k1.trans k2).trans k3, er3, t3, ?_, (fun j' g' hj' hg' => ?_), fun v hv => ?_⟩
      · have : ((j + 1 : Nat) : Int) * (2 * (e + 1)) = j * (2 * (e + 1)) + 2 * (e + 1) := by
          rw [Int.natCast_add]; show ((j : Int) + 1) * (2 * (e + 1)) = _; grind
        omega
      · rcases Nat.lt_succ_iff_lt_or_eq.mp hj' with z | rfl
        · obtain ⟨a1, a2⟩ := hC j' g' z hg'
          exact ⟨a1.up fun v h => i3 _ (i2 _ h), a2.up fun v h => i3 _ (i2 _ h)⟩
        · rw [hgj] at hg'; injection hg' with hg'; subst hg'
          exact ⟨c2.up i3, c3⟩
      · have gm := List.mem_of_getElem? hgj
        rcases n3 v hv with z | z
        · rcases n2 v z with z | z
          · exact hS v z
          · exact ⟨g, gm, .inl z⟩
        · exact ⟨g, gm, .inr z⟩
    · obtain ⟨o9, o10, o11, o12, is, rfl, k1, er1, hT, hl, hC, hS⟩ := hI
      refine ⟨trivial, ?_⟩
      subst hA
      simp only [_law_marks_A0, wpSs, wpS, wpE, wpEs, wpC, wpAnd, wpOr, wpO, wpIt, opt_some, onI_int, onB_bl, onR_ref, arg1_one, look, joinO, start, List.map_cons, List.map_nil, List.length_cons, List.length_nil, List.replicate, List.cons_append, List.nil_append, List.append_nil, List.getElem?_cons_succ, List.getElem?_cons_zero, kcD, Nat.reduceAdd, Nat.reduceSub, br_t, br_f, br_n, asg, setAll, List.set_cons_succ, List.set_cons_zero, tgs, wipe, eq_ii, ne_ii, lt_ii, le_ii, gt_ii, ge_ii, is_n, isn_n, is_b, isn_b, add_ii, sub_ii, mul_ii, mod_ii, fdiv_ii, pow_ii, isNon, biD, intD_i, intD_b, esLen, beq_self_eq_true, ixD_tup, lsOf_new, seqD_tup, seqD_fl, slD_tup, bools, Option.map_some, true_and, ixD_fl, lenD_tup, lenD_fl, ix30, ix31, ix32, at20, at21, at30, at31, at32, List.filterMap_cons, List.filterMap_nil]
      refine hq r is S (ext S k1) er1 hT (fun z => absurd z hw) (fun _ g hg' => ?_) (fun _ => by rw [List.length_map] at hl; exact hl) hS
      obtain ⟨j', hj'⟩ := List.mem_iff_getElem?.mp hg'
      refine hC j' g ?_ hj'
      rw [List.length_map]
      exact (List.getElem?_eq_some_iff.mp hj').1
end M
namespace M
/-- the ball is at a spot -/
def AtG (a c x y p q gx gy : Int) (t d : Int) : Prop := (Eqt a p (gx - x) t d ∨ Eqt a p (-gx - x) t d) ∧ (Eqt c q (gy - y) t d ∨ Eqt c q (-gy - y) t d)
theorem fold_in {s g d : Int} (hs : 0 < s) (hd : 0 < d) (g0 : 0 ≤ g) (g1 : g ≤ s) : foldT s (g * d) d = g * d := by
  have m0 := mulp hs hd
  have e : 2 * s * d = 2 * (s * d) := Int.mul_assoc ..
  have u0 : 0 ≤ g * d := Int.mul_nonneg g0 (by omega)
  have u1 : g * d ≤ s * d := Int.mul_le_mul_of_nonneg_right g1 (by omega)
  unfold foldT
  rw [e, Int.emod_eq_of_lt u0 (by omega)]
  split <;> omega
theorem at_fold {s x p g t d : Int} (hs : 0 < s) (hd : 0 < d) (g0 : 0 ≤ g) (g1 : g ≤ s) : foldT s (x * d + p * t) d = g * d ↔ (Eqt s p (g - x) t d ∨ Eqt s p (-g - x) t d) := by
  rw [← fold_in hs hd g0 g1, fold_iff (mulp hs hd)]
  constructor
  · rintro (⟨z, h⟩ | ⟨z, h⟩)
    · exact .inl ⟨z, by grind⟩
    · exact .inr ⟨z, by grind⟩
  · rintro (⟨z, h⟩ | ⟨z, h⟩)
    · exact .inl ⟨z, by grind⟩
    · exact .inr ⟨z, by grind⟩
theorem inn_spot {c y q g t d : Int} (hc : 0 < c) (hd : 0 < d) (g0 : 0 ≤ g) (g1 : g ≤ c) : Inn c y q g g t d ↔ (Eqt c q (g - y) t d ∨ Eqt c q (-g - y) t d) := by
  rw [← at_fold hc hd g0 g1]
  unfold Inn
  omega
structure OkG (a c gx gy : Int) : Prop where
  x0 : 0 ≤ gx
  x1 : gx ≤ a
  y0 : 0 ≤ gy
  y1 : gy ≤ c
theorem eqt_now {s w d : Int} (u : Int) (h : u = 0) : Eqt s w u 0 d := ⟨0, by rw [h]; simp⟩
theorem at_x {a c x y p q gx gy t d : Int} (hc : 0 < c) (hd : 0 < d) (g : OkG a c gx gy) (hp : p ≠ 0) : AtG a c x y p q gx gy t d ↔ Sd a x p c y q gx gy gy t d := by
  unfold AtG Sd Psd
  rw [inn_spot hc hd g.y0 g.y1, ← or_and_right]
  exact ⟨fun z => ⟨hp, z⟩, fun z => z.2⟩
theorem at_y {a c x y p q gx gy t d : Int} (ha : 0 < a) (hd : 0 < d) (g : OkG a c gx gy) (hq : q ≠ 0) : AtG a c x y p q gx gy t d ↔ Sd c y q a x p gy gx gx t d := by
  unfold AtG Sd Psd
  rw [inn_spot ha hd g.x0 g.x1, ← or_and_right]
  exact ⟨fun z => ⟨hq, z.2, z.1⟩, fun z => ⟨z.2.2, z.2.1⟩⟩
theorem box_spot {a c x y p q gx gy t d : Int} (o : OkL ⟨a, c, x, y, p, q⟩) (hd : 0 < d) (g : OkG a c gx gy) : BoxT a c x y p q gx gx gy gy t d ↔ AtG a c x y p q gx gy t d := by
  have a0 : 0 < a := o.a0
  have c0 : 0 < c := o.c0
  constructor
  · rintro (⟨⟨h1, h2, h3, h4⟩, rfl⟩ | ((h | h) | (h | h)))
    · exact ⟨.inl (eqt_now _ (by omega)), .inl (eqt_now _ (by omega))⟩
    · exact (at_x c0 hd g h.1).mpr h
    · exact (at_x c0 hd g h.1).mpr h
    · exact (at_y a0 hd g h.1).mpr h
    · exact (at_y a0 hd g h.1).mpr h
  · intro h
    rcases o.ne with hp | hq
    · exact .inr (.inl (.inl ((at_x c0 hd g hp).mp h)))
    · exact .inr (.inr (.inl ((at_y a0 hd g hq).mp h)))
theorem at_sc {a c x y p q gx gy t d t' d' : Int} (hd : 0 < d) (e : t * d' = t' * d) (h : AtG a c x y p q gx gy t d) : AtG a c x y p q gx gy t' d' :=
  ⟨h.1.imp (eqt_sc hd e) (eqt_sc hd e), h.2.imp (eqt_sc hd e) (eqt_sc hd e)⟩
/-! ### there is a least time -/
theorem min_ex (P : Nat → Bool) : (∀ k, P k = false) ∨ ∃ k, P k = true ∧ ∀ j, j < k → P j = false := by
  have h : ∀ n, (∀ k, k < n → P k = false) ∨ ∃ k, P k = true ∧ ∀ j, j < k → P j = false := by
    intro n
    induction n with
    | zero => exact .inl fun k hk => by omega
    | succ n ih =>
      rcases ih with ih | ih
      · cases hn : P n with
        | true => exact .inr ⟨n, hn, ih⟩
        | false =>
          refine .inl fun k hk => ?_
          rcases Nat.lt_succ_iff_lt_or_eq.mp hk with z | rfl
          · exact ih k z
          · exact hn
      · exact .inr ih
  by_cases z : ∀ k, P k = false
  · exact .inl z
  · have ⟨k, hk⟩ := Classical.not_forall.mp z
    rcases h (k + 1) with w | w
    · exact absurd (w k (by omega)) hk
    · exact .inr w
theorem psd_ex {a x p c y q g lo hi : Int} (a0 : 0 < a) (hp : p ≠ 0) : ∃ v, LstP (Psd a x p c y q g lo hi) v := by
  rcases min_ex (inP c (av p) (2 * a * q) (y * av p + q * (sgw p (g - x) % (2 * a))) lo hi) with h | ⟨k, h⟩
  · refine ⟨.non, .inl ⟨rfl, fun t d t0 d0 z => ?_⟩⟩
    obtain ⟨k, _, hk⟩ := (psd_k a0 hp rfl t0 d0).mp z
    rw [h k] at hk; cases hk
  · exact ⟨_, psd_yes a0 hp rfl h⟩
theorem or_ex {P Q : Int → Int → Prop} (h : ∃ v, LstP P v) (k : ∃ v, LstP Q v) : ∃ v, LstP (fun t d => P t d ∨ Q t d) v := by
  obtain ⟨u, hu⟩ := h
  obtain ⟨v, hv⟩ := k
  obtain ⟨k1, k2, k3⟩ := lst_or hu hv
  rcases hu with ⟨rfl, _⟩ | ⟨t, d, rfl, _⟩
  · exact ⟨_, k1 rfl⟩
  · rcases hv with ⟨rfl, _⟩ | ⟨t', d', rfl, _⟩
    · exact ⟨_, k2 rfl⟩
    · by_cases z : t * d' ≤ t' * d
      · exact ⟨_, (k3 _ _ _ _ rfl rfl).1 z⟩
      · exact ⟨_, (k3 _ _ _ _ rfl rfl).2 (by omega)⟩
theorem sd_ex {a x p c y q g lo hi : Int} (a0 : 0 < a) : ∃ v, LstP (Sd a x p c y q g lo hi) v := by
  by_cases hp : p = 0
  · exact ⟨.non, .inl ⟨rfl, fun t d _ _ z => z.1 hp⟩⟩
  · obtain ⟨v, hv⟩ := or_ex (psd_ex (a := a) (x := x) (p := p) (c := c) (y := y) (q := q) (g := g) (lo := lo) (hi := hi) a0 hp) (psd_ex (a := a) (x := x) (p := p) (c := c) (y := y) (q := q) (g := -g) (lo := lo) (hi := hi) a0 hp)
    exact ⟨v, lst_iff (fun t d _ _ => ⟨fun z => ⟨hp, z⟩, fun z => z.2⟩) hv⟩
/-! ### the first one of sorted times -/
theorem srt_first {P : Int → Int → Prop} {is js : List Int} {bot : Int} {v : D} (b0 : 0 < bot) (perm : js.Perm is) (pw : js.Pairwise (· ≤ ·)) (hP : ∀ {t d t' d' : Int}, 0 < d → 0 < d' → t * d' = t' * d → P t d → P t' d') (hv : LstP P v) (nn : ∀ top ∈ is, 0 ≤ top) (cov : ∀ t d, v = prD t d → 0 ≤ t → 0 < d → P t d → ∃ top ∈ is, top * d = t * bot) :
    (∀ (j : Nat) (top : Int), js[j]? = some top → P top bot → (∀ (i : Nat) (top' : Int), i < j → js[i]? = some top' → ¬ P top' bot) → low top bot = v) ∧ ((∀ top ∈ js, ¬ P top bot) → v = .non) := by
  constructor
  · intro j top hj hp hn
    have h0 := nn top (perm.mem_iff.mp (List.mem_of_getElem? hj))
    rcases hv with ⟨rfl, h⟩ | ⟨t, d, rfl, hl, t0, d0, h1, h2⟩
    · exact absurd hp (h top bot h0 b0)
    · obtain ⟨tp, hm, e⟩ := cov t d rfl t0 d0 h1
      obtain ⟨i, hi⟩ := List.mem_iff_getElem?.mp (perm.mem_iff.mpr hm)
      have ij : j ≤ i := by
        rcases Nat.lt_or_ge i j with z | z
        · exact absurd (hP d0 b0 e.symm h1) (hn i tp z hi)
        · exact z
      have le : top ≤ tp := by
        rcases Nat.lt_or_ge j i with z | z
        · obtain ⟨lj, ej⟩ := List.getElem?_eq_some_iff.mp hj
          obtain ⟨li, ei⟩ := List.getElem?_eq_some_iff.mp hi
          have := (List.pairwise_iff_getElem.mp pw) j i lj li z
          rw [ej, ei] at this
          exact this
        · have : i = j := by omega
          subst this
          rw [hj] at hi; injection hi with hi; omega
      have a1 := h2 top bot h0 b0 hp
      have a2 := Int.mul_le_mul_of_nonneg_right le (Int.le_of_lt d0)
      have : top * d = t * bot := by omega
      rw [low_eq b0 d0 this, low_self' hl]
  · intro hn
    rcases hv with ⟨rfl, h⟩ | ⟨t, d, rfl, hl, t0, d0, h1, h2⟩
    · rfl
    · obtain ⟨tp, hm, e⟩ := cov t d rfl t0 d0 h1
      exact absurd (hP d0 b0 e.symm h1) (hn tp (perm.mem_iff.mpr hm))
/-! ### rounds -/
theorem mul_rnd {a c p q R : Int} (h : Rnd a c p q R) : (∃ w, p * R = 2 * a * w * (mx p * mx q)) ∧ ∃ w, q * R = 2 * c * w * (mx p * mx q) := by
  have key : ∀ {p : Int}, p ≠ 0 → p = mx p ∨ p = -mx p := fun {p} h => by
    rw [mx_av h]; unfold av; omega
  constructor
  · by_cases hp : p = 0
    · exact ⟨0, by rw [hp]; simp⟩
    · obtain ⟨e, he, _⟩ := h.hx hp
      rcases key hp with k | k
      · exact ⟨e, by rw [he]; generalize mx p = A at *; rw [k]; grind⟩
      · exact ⟨-e, by rw [he]; generalize mx p = A at *; rw [k]; grind⟩
  · by_cases hq : q = 0
    · exact ⟨0, by rw [hq]; simp⟩
    · obtain ⟨e, he, _⟩ := h.hy hq
      rcases key hq with k | k
      · exact ⟨e, by rw [he]; generalize mx q = B at *; rw [k]; grind⟩
      · exact ⟨-e, by rw [he]; generalize mx q = B at *; rw [k]; grind⟩
theorem eqt_rnd {s w u t d R bot v : Int} (hv : w * R = 2 * s * v * bot) (h : Eqt s w u t d) : Eqt s w u (t * bot - R * d) (d * bot) := by
  obtain ⟨z, h⟩ := h
  refine ⟨z - v, ?_⟩
  have : w * (t * bot - R * d) = w * t * bot - w * R * d := by grind
  rw [this, h, hv]; grind
theorem le_rnd {P : Int → Int → Prop} {R bot t d : Int} (R0 : 0 < R) (b0 : 0 < bot) (sh : ∀ t d, P t d → P (t * bot - R * d) (d * bot)) (t0 : 0 ≤ t) (d0 : 0 < d) (h : P t d) (mn : ∀ t' d', 0 ≤ t' → 0 < d' → P t' d' → t * d' ≤ t' * d) : t * bot ≤ R * d := by
  rcases Int.lt_or_le (R * d) (t * bot) with z | z
  · have := mn (t * bot - R * d) (d * bot) (by omega) (mulp d0 b0) (sh t d h)
    have e : t * (d * bot) = t * bot * d := by grind
    rw [e] at this
    have := Int.le_of_mul_le_mul_right this d0
    have := mulp R0 d0
    omega
  · exact z
theorem top_cov {s st w m R i t d : Int} {is : List Int} (hs : 0 < s) (hw : w ≠ 0) (hm : 0 < m) (cv : CovM st w s m R is i) (t0 : 0 ≤ t) (d0 : 0 < d) (h : Eqt s w (i - st) t d) (le : t * (av w * m) ≤ R * d) : ∃ top ∈ is, top * d = t * (av w * m) := by
  have pw := av_pos hw
  obtain ⟨k, k0, hk⟩ := (eqt_row hs pw t0 d0).mp ((eqt_abs hw).mp h)
  have e : (sgw w (i - st) % (2 * s) * m + 2 * s * m * k) * d = t * (av w * m) := by
    have : (sgw w (i - st) % (2 * s) * m + 2 * s * m * k) * d = (sgw w (i - st) % (2 * s) + 2 * s * k) * d * m := by grind
    rw [this, ← hk]; grind
  exact ⟨_, cv k k0 (Int.le_of_mul_le_mul_right (by rw [e]; exact le) d0), e⟩
end M
namespace M
/-! ### the least multiple in a range of residues -/
def RcV (R f lo hi : Int) : Option Nat → Prop
  | none => ∀ k, inR R f 0 lo hi k = false
  | some k => Fst R f 0 lo hi k
theorem in_zero {R f lo hi : Int} (k : Nat) : inR R f 0 lo hi k = true ↔ lo ≤ (f % R * k) % R ∧ (f % R * k) % R ≤ hi := by
  unfold inR
  rw [Int.add_zero, Bool.and_eq_true_iff, decide_eq_true_iff, decide_eq_true_iff]
  have : f * (k : Int) % R = f % R * k % R := by
    rw [Int.mul_emod f, Int.mul_emod (f % R) (k : Int), Int.emod_emod_of_dvd _ (Int.dvd_refl R)]
  rw [this]
theorem not_true {b : Bool} (h : b = true → False) : b = false := by
  cases b with
  | false => rfl
  | true => exact (h rfl).elim
theorem rc_zero {R f hi : Int} (hR : 0 < R) (h : 0 ≤ hi) : RcV R f 0 hi (some 0) := by
  refine ⟨(in_zero 0).mpr ?_, fun k hk => by omega⟩
  rw [Int.natCast_zero, Int.mul_zero, Int.zero_emod]
  omega
theorem rc_none {R f lo hi : Int} (l0 : 0 < lo) (hf : f % R = 0) : RcV R f lo hi none := fun k => not_true fun h => by
  have := (in_zero k).mp h
  rw [hf, Int.zero_mul, Int.zero_emod] at this
  omega
theorem ceil_of {u v : Int} (hv : 0 < v) : u ≤ v * ((u + v - 1) / v) ∧ v * ((u + v - 1) / v) < u + v := by
  have e := Int.emod_add_mul_ediv (u + v - 1) v
  have h1 := Int.emod_nonneg (u + v - 1) (show v ≠ 0 by omega)
  have h2 := Int.emod_lt_of_pos (u + v - 1) hv
  omega
theorem lt_of_mul {v a b : Int} (hv : 0 < v) (h : v * a < v * b) : a < b := Int.lt_of_mul_lt_mul_left h (Int.le_of_lt hv)
theorem rc_few {R f lo hi : Int} (l0 : 0 < lo) (hh : hi < R) (hR : 0 < R) (hf : 0 < f % R) (h : f % R * ((lo + f % R - 1) / (f % R)) ≤ hi) : 0 ≤ (lo + f % R - 1) / (f % R) ∧ RcV R f lo hi (some ((lo + f % R - 1) / (f % R)).toNat) := by
  obtain ⟨c1, c2⟩ := ceil_of (u := lo) hf
  have q0 : 0 ≤ (lo + f % R - 1) / (f % R) := Int.ediv_nonneg (by omega) (by omega)
  refine ⟨q0, (in_zero _).mpr ?_, fun k hk => not_true fun h' => ?_⟩
  · rw [Int.toNat_of_nonneg q0, Int.emod_eq_of_lt (by omega) (by omega)]
    omega
  · have := (in_zero k).mp h'
    have k1 : f % R * ((k : Int) + 1) ≤ f % R * ((lo + f % R - 1) / (f % R)) := Int.mul_le_mul_of_nonneg_left (by omega) (by omega)
    have k2 : f % R * ((k : Int) + 1) = f % R * k + f % R := by grind
    have k3 : 0 ≤ f % R * (k : Int) := Int.mul_nonneg (by omega) (by omega)
    rw [Int.emod_eq_of_lt k3 (by omega)] at this
    omega
theorem rc_down {R f lo hi : Int} (l0 : 0 < lo) (lh : lo ≤ hi) (hh : hi < R) (hf : 0 < f % R) (h : ¬ f % R * ((lo + f % R - 1) / (f % R)) ≤ hi) :
    0 ≤ (-hi) % (f % R) ∧ (-hi) % (f % R) ≤ (-lo) % (f % R) ∧ (-lo) % (f % R) < f % R ∧ ∀ o, RcV (f % R) (R % (f % R)) ((-hi) % (f % R)) ((-lo) % (f % R)) o → RcV R f lo hi (o.map fun m : Nat => ((lo + R * (m : Int) + f % R - 1) / (f % R)).toNat) ∧ ∀ m, o = some m → 0 ≤ (lo + R * (m : Int) + f % R - 1) / (f % R) := by
  have hR : 0 < R := by omega
  obtain ⟨c1, c2⟩ := ceil_of (u := lo) hf
  have in0 : ∀ k : Nat, inR R f 0 lo hi k = true ↔ lo ≤ (f % R * k) % R ∧ (f % R * k) % R ≤ hi := fun k => in_zero k
  have fR : f % R < R := Int.emod_lt_of_pos _ hR
  generalize f % R = g at *
  generalize (lo + g - 1) / g = few at *
  have e1 : (-lo) % g = g * few - lo := by
    have : -lo = (g * few - lo) + g * (-few) := by grind
    rw [this, Int.add_mul_emod_self_left, Int.emod_eq_of_lt (by omega) (by omega)]
  have e2 : (-hi) % g = g * few - hi := by
    have : -hi = (g * few - hi) + g * (-few) := by grind
    rw [this, Int.add_mul_emod_self_left, Int.emod_eq_of_lt (by omega) (by omega)]
  have in1 : ∀ m : Nat, inR g (R % g) 0 ((-hi) % g) ((-lo) % g) m = true ↔ (-hi) % g ≤ (R * m) % g ∧ (R * m) % g ≤ (-lo) % g := fun m => by
    rw [in_zero, Int.emod_emod_of_dvd _ (Int.dvd_refl g)]
    have : R % g * (m : Int) % g = R * m % g := by
      rw [Int.mul_emod (R % g), Int.emod_emod_of_dvd _ (Int.dvd_refl g), ← Int.mul_emod]
    rw [this]
  rw [e1, e2] at in1
  -- what a hit says of the rounds
  have back : ∀ k : Nat, inR R f 0 lo hi k = true → ∃ m : Nat, inR g (R % g) 0 (g * few - hi) (g * few - lo) m = true ∧ lo + R * m ≤ g * k := by
    intro k hk
    obtain ⟨h1, h2⟩ := (in0 k).mp hk
    have ed := Int.emod_add_mul_ediv (g * (k : Int)) R
    have q0 : 0 ≤ g * (k : Int) / R := Int.ediv_nonneg (Int.mul_nonneg (by omega) (by omega)) (by omega)
    refine ⟨(g * (k : Int) / R).toNat, (in1 _).mpr ?_, by rw [Int.toNat_of_nonneg q0]; omega⟩
    rw [Int.toNat_of_nonneg q0]
    generalize g * (k : Int) / R = m at *
    generalize g * (k : Int) % R = x at *
    have : R * m = (g * few - x) + g * (k - few) := by
      have : g * ((k : Int) - few) = g * k - g * few := by grind
      omega
    rw [this, Int.add_mul_emod_self_left, Int.emod_eq_of_lt (by omega) (by omega)]
    omega
  rw [e1, e2]
  refine ⟨by omega, by omega, by omega, fun o ho => ?_⟩
  cases o with
  | none =>
    refine ⟨fun k => not_true fun hk => ?_, fun m hm => by cases hm⟩
    obtain ⟨m, hm, _⟩ := back k hk
    have := ho m
    rw [hm] at this; cases this
  | some m =>
    obtain ⟨h1, h2⟩ := ho
    have Rm : 0 ≤ R * (m : Int) := Int.mul_nonneg (by omega) (by omega)
    obtain ⟨d1, d2⟩ := ceil_of (u := lo + R * m) hf
    have q0 : 0 ≤ (lo + R * (m : Int) + g - 1) / g := Int.ediv_nonneg (by omega) (by omega)
    have hm := (in1 m).mp h1
    refine ⟨?_, fun m' hm' => by injection hm' with hm'; subst hm'; exact q0⟩
    show Fst R f 0 lo hi ((lo + R * (m : Int) + g - 1) / g).toNat
    have ed := Int.emod_add_mul_ediv (R * (m : Int)) g
    generalize (lo + R * (m : Int) + g - 1) / g = K at *
    -- g K = R m + x
    have hx : g * K = R * m + (g * few - (R * m) % g) := by
      -- both are multiples of g within one g
      have m1 : g * (K - (R * m / g) - few) < g * 1 := by
        have : g * (K - (R * m / g) - few) = g * K - g * (R * m / g) - g * few := by grind
        omega
      have m2 : g * (-1) < g * (K - (R * m / g) - few) := by
        have : g * (K - (R * m / g) - few) = g * K - g * (R * m / g) - g * few := by grind
        omega
      have a1 := lt_of_mul hf m1
      have a2 := lt_of_mul hf m2
      have : K = R * m / g + few := by omega
      rw [this]
      have : g * (R * m / g + few) = g * (R * m / g) + g * few := by grind
      omega
    have K0 : 0 ≤ K := q0
    refine ⟨(in0 _).mpr ?_, fun k hk => not_true fun hk' => ?_⟩
    · have ec : ((K.toNat : Nat) : Int) = K := Int.toNat_of_nonneg K0
      show lo ≤ g * ((K.toNat : Nat) : Int) % R ∧ g * ((K.toNat : Nat) : Int) % R ≤ hi
      rw [ec, hx]
      have : R * (m : Int) + (g * few - R * m % g) = (g * few - R * m % g) + R * m := by omega
      rw [this, Int.add_mul_emod_self_left, Int.emod_eq_of_lt (by omega) (by omega)]
      omega
    · have hk : k < K.toNat := hk
      obtain ⟨m', hm', hle⟩ := back k hk'
      have mm : m ≤ m' := by
        rcases Nat.lt_or_ge m' m with z | z
        · have := h2 m' z
          rw [hm'] at this; cases this
        · exact z
      have : R * (m : Int) ≤ R * m' := Int.mul_le_mul_of_nonneg_left (by omega) (by omega)
      have : g * ((k : Int) + 1) ≤ g * K := Int.mul_le_mul_of_nonneg_left (by omega) (by omega)
      have : g * ((k : Int) + 1) = g * k + g := by grind
      omega
theorem fst_lt {R f lo hi : Int} {k : Nat} (hR : 0 < R) (h : Fst R f 0 lo hi k) : (k : Int) < R := by
  rcases Int.lt_or_le (k : Int) R with z | z
  · exact z
  · have h1 := h.2 (k - R.toNat) (by omega)
    have : inR R f 0 lo hi (k - R.toNat) = inR R f 0 lo hi k := by
      unfold inR
      have e : f * (k : Int) + 0 = (f * ((k - R.toNat : Nat) : Int) + 0) + f * R := by
        have : (k : Int) = ((k - R.toNat : Nat) : Int) + R := by omega
        rw [this]
        have : ((k - R.toNat : Nat) : Int) + R - R = ((k - R.toNat : Nat) : Int) := by omega
        grind
      rw [e, Int.add_mul_emod_self_right]
    rw [this, h.1] at h1; cases h1
def fibZ : Nat → Int
  | 0 => 0
  | 1 => 1
  | n + 2 => fibZ (n + 1) + fibZ n
theorem fib_s (n : Nat) : fibZ (n + 2) = fibZ (n + 1) + fibZ n := rfl
theorem fib_150 : (2 : Int) ^ 102 < fibZ 150 := by decide
def spRchF : Nat → Sp
  | 0 => fun _ _ _ _ => False
  | m + 1 => fun ds S Q _ => ∃ f R lo hi : Int, ds = [.int f, .int R, .int lo, .int hi] ∧ 0 ≤ lo ∧ lo ≤ hi ∧ hi < R ∧ Bd 300 R ∧ (f % R < fibZ (m + 1) ∨ R < fibZ (m + 2)) ∧ ∀ o, RcV R f lo hi o → Q (optD o) S
theorem txt_rch {G : Gm} (m : Nat) {ds : List D} {S0 : Sto} {Q : VK} {X : XK} {b : Ss} (hb : b = (.cons (.if_ (.cmp .eq (.v 2) (.k (.int 0))) (.cons (.ret (.k (.int 0))) .nil) .nil) (.cons (.set (.v 0) (.bin .mod (.bi .int (.cons (.v 0) .nil)) (.v 1))) (.cons (.if_ (.cmp .eq (.v 0) (.k (.int 0))) (.cons (.ret (.k .non)) .nil) .nil) (.cons (.set (.v 4) (.bin .fdiv (.bin .sub (.bin .add (.v 2) (.v 0)) (.k (.int 1))) (.v 0))) (.cons (.if_ (.cmp .le (.bin .mul (.v 0) (.v 4)) (.v 3)) (.cons (.ret (.v 4)) .nil) .nil) (.cons (.par 5 6 (.bin .mod (.bi .int (.cons (.neg (.v 3)) .nil)) (.v 0)) (.bin .mod (.bi .int (.cons (.neg (.v 2)) .nil)) (.v 0))) (.cons (.set (.v 7) (.call 34 (.cons (.bin .mod (.bi .int (.cons (.v 1) .nil)) (.v 0)) (.cons (.v 0) (.cons (.v 5) (.cons (.v 6) .nil)))))) (.cons (.if_ (.cmp .is_ (.v 7) (.k .non)) (.cons (.ret (.k .non)) .nil) .nil) (.cons (.ret (.bin .fdiv (.bin .sub (.bin .add (.bin .add (.v 2) (.bin .mul (.v 1) (.v 7))) (.v 0)) (.k (.int 1))) (.v 0))) .nil)))))))))) (h1 : G.fn 34 = spRchF m) (h : spRchF (m + 1) ds S0 Q X) : ds.length = 4 ∧ wpSs G b (start 8 ds) S0 (kR Q X) := by
  obtain ⟨f, R, lo, hi, rfl, l0, lh, hh, bR, hm, hq⟩ := h
  subst hb
  refine ⟨rfl, ?_⟩
  have R0 : 0 < R := by omega
  have g0 := Int.emod_nonneg f (show R ≠ 0 by omega)
  have gR := Int.emod_lt_of_pos f R0
  have bg : Bd 300 (f % R) := bR.mod R0
  simp only [wpSs, wpS, wpE, wpEs, wpC, wpAnd, wpOr, wpO, wpIt, opt_some, onI_int, onB_bl, onR_ref, arg1_one, look, joinO, start, List.map_cons, List.map_nil, List.length_cons, List.length_nil, List.replicate, List.cons_append, List.nil_append, List.append_nil, List.getElem?_cons_succ, List.getElem?_cons_zero, kcD, Nat.reduceAdd, Nat.reduceSub, br_t, br_f, br_n, asg, setAll, List.set_cons_succ, List.set_cons_zero, tgs, wipe, eq_ii, ne_ii, lt_ii, le_ii, gt_ii, ge_ii, is_n, isn_n, is_b, isn_b, add_ii, sub_ii, mul_ii, mod_ii, fdiv_ii, pow_ii, isNon, biD, intD_i, intD_b, esLen, beq_self_eq_true, ixD_tup, lsOf_new, seqD_tup, seqD_fl, slD_tup, bools, Option.map_some, true_and, ixD_fl, lenD_tup, lenD_fl, ix30, ix31, ix32, at20, at21, at30, at31, at32, List.filterMap_cons, List.filterMap_nil, fmod_pos R0]
  refine br_if (fun z => ?_) fun z => ?_
  · have z : lo = 0 := by simpa using z
    subst z
    exact hq (some 0) (rc_zero R0 (by omega))
  have z : lo ≠ 0 := by simpa using z
  refine ⟨by omega, br_if (fun y => ?_) fun y => ?_⟩
  · have y : f % R = 0 := by simpa using y
    exact hq none (rc_none (by omega) y)
  have y : f % R ≠ 0 := by simpa using y
  have gp : 0 < f % R := by omega
  simp only [fdiv_pos gp, fmod_pos gp]
  obtain ⟨c1, c2⟩ := ceil_of (u := lo) gp
  have blo : Bd 300 lo := bR.le l0 (by omega)
  have bhi : Bd 300 hi := bR.le (by omega) (by omega)
  have bfew : Bd 302 ((lo + f % R - 1) / (f % R)) := (((blo.add bg).sub (lt_two 1 (by decide) (by decide)))).div
  refine ⟨by omega, bg.smd (by decide), bg.sm (by decide), bfew.sm (by decide), br_d (fun w => ?_) fun w => ?_⟩
  · obtain ⟨q0, hv⟩ := rc_few (by omega) hh R0 gp w
    have := hq _ hv
    show Q (.int ((lo + f % R - 1) / (f % R))) S0
    have e : optD (some ((lo + f % R - 1) / (f % R)).toNat) = .int ((lo + f % R - 1) / (f % R)) := by
      show D.int (((((lo + f % R - 1) / (f % R)).toNat : Nat)) : Int) = _
      rw [Int.toNat_of_nonneg q0]
    rw [e] at this
    exact this
  · obtain ⟨d1, d2, d3, dn⟩ := rc_down (by omega) lh hh gp w
    refine ⟨by omega, by omega, by omega, ?_⟩
    have r0 := Int.emod_nonneg R (show f % R ≠ 0 by omega)
    have r1 := Int.emod_lt_of_pos R gp
    have gap : f % R + R % (f % R) ≤ R := by
      have e := Int.emod_add_mul_ediv R (f % R)
      have q1 : 1 ≤ R / (f % R) := by
        rcases Int.lt_or_le (R / (f % R)) 1 with z | z
        · have q0 : 0 ≤ R / (f % R) := Int.ediv_nonneg (by omega) (by omega)
          have : R / (f % R) = 0 := by omega
          rw [this, Int.mul_zero] at e
          omega
        · exact z
      have : f % R * 1 ≤ f % R * (R / (f % R)) := Int.mul_le_mul_of_nonneg_left q1 (by omega)
      omega
    cases m with
    | zero =>
      have f1 : fibZ 1 = 1 := rfl
      have f2 : fibZ 2 = 1 := rfl
      rw [show (0 + 1 : Nat) = 1 from rfl, show (0 + 2 : Nat) = 2 from rfl, f1, f2] at hm
      omega
    | succ m =>
      refine call h1 ⟨_, _, _, _, rfl, d1, d2, d3, bg, ?_, fun o ho => ?_⟩
      · rw [Int.emod_emod_of_dvd _ (Int.dvd_refl _)]
        have e1 := fib_s (m + 1)
        rw [show m + 1 + 2 = m + 3 from rfl, show m + 1 + 1 = m + 2 from rfl] at hm e1
        omega
      · obtain ⟨hv, hp⟩ := dn o ho
        cases o with
        | none => exact br_if (fun _ => hq none hv) fun z => by cases z
        | some k =>
          have kl := fst_lt gp ho
          have bk : Bd 300 (k : Int) := bg.le (by omega) (by omega)
          have q0 := hp k rfl
          refine br_if (fun z => by cases z) fun _ => ?_
          simp only [optD, mul_ii, add_ii, sub_ii, fdiv_ii]
          rw [fdiv_pos gp]
          refine ⟨bR.sm (by decide), bk.sm (by decide), by omega, bg.smd (by decide), ?_⟩
          have hv := hq _ hv
          have e : optD (Option.map (fun m : Nat => ((lo + R * (m : Int) + f % R - 1) / (f % R)).toNat) (some k)) = .int ((lo + R * (k : Int) + f % R - 1) / (f % R)) := by
            show D.int ((((lo + R * (k : Int) + f % R - 1) / (f % R)).toNat : Nat) : Int) = _
            rw [Int.toNat_of_nonneg q0]
          rw [e] at hv
          exact hv
end M
namespace M
def _law_pass_B0 : Ss := (.cons (.set (.v 11) (.bin .mod (.bi .int (.cons (.bin .sub (.bin .mul (.v 8) (.v 1)) (.v 3)) .nil)) (.v 6))) (.cons (.set (.v 12) (.bin .mod (.bi .int (.cons (.bin .sub (.bin .mul (.v 9) (.v 1)) (.v 3)) .nil)) (.v 6))) (.cons (.ex (.mt .append (.v 7) (.cons (.ite (.cmp .le (.v 11) (.v 12)) (.call 34 (.cons (.v 2) (.cons (.v 6) (.cons (.v 11) (.cons (.v 12) .nil))))) (.k (.int 0))) .nil))) .nil)))
def _law_pass_S0 : St := (.for_ (.tup [8, 9]) (.seq (.tup (.cons (.tup (.cons (.v 4) (.cons (.v 5) .nil))) (.cons (.tup (.cons (.bin .sub (.bin .mul (.k (.int 2)) (.v 0)) (.v 5)) (.cons (.bin .sub (.bin .mul (.k (.int 2)) (.v 0)) (.v 4)) .nil))) .nil)))) _law_pass_B0)
def _law_pass_A0 : Ss := (.cons (.set (.v 10) (.comp (.v 13) (.v 13) (.seq (.v 7)) (.some (.cmp .isn (.v 13) (.k .non))))) (.cons (.ret (.ite (.cmp .ne (.v 10) (.lst .nil)) (.bi .min (.cons (.v 10) .nil)) (.k .non))) .nil))
def _law_pass_T : Ss := (.cons (.par 6 7 (.bin .mul (.bin .mul (.k (.int 2)) (.v 0)) (.v 1)) (.lst .nil)) (.cons _law_pass_S0 _law_pass_A0))
def spRch : Sp := fun ds S Q X => ∃ m, m < 150 ∧ spRchF m ds S Q X
def PV (s v f st lo hi : Int) : Option Nat → Prop
  | none => ∀ k, inP s v f st lo hi k = false
  | some k => FstP s v f st lo hi k
def hitC (m f st l h : Int) (k : Nat) : Prop := ∃ z : Int, l ≤ f * k + st - m * z ∧ f * k + st - m * z ≤ h
def FC (m f st l h : Int) : Option Nat → Prop
  | none => ∀ k, ¬ hitC m f st l h k
  | some k => hitC m f st l h k ∧ ∀ j, j < k → ¬ hitC m f st l h j
theorem fc_rc {m f st l h : Int} (m0 : 0 < m) (lh : l ≤ h) (hm : h - l < m) (hab : (l - st) % m ≤ (h - st) % m) {o : Option Nat} (ho : RcV m f ((l - st) % m) ((h - st) % m) o) : FC m f st l h o := by
  have ea := Int.emod_add_mul_ediv (l - st) m
  have eb := Int.emod_add_mul_ediv (h - st) m
  have a0 := Int.emod_nonneg (l - st) (show m ≠ 0 by omega)
  have a1 := Int.emod_lt_of_pos (l - st) m0
  have b0 := Int.emod_nonneg (h - st) (show m ≠ 0 by omega)
  have b1 := Int.emod_lt_of_pos (h - st) m0
  have key : ∀ k : Nat, hitC m f st l h k ↔ inR m f 0 ((l - st) % m) ((h - st) % m) k = true := by
    intro k
    unfold inR
    rw [Int.add_zero, Bool.and_eq_true_iff, decide_eq_true_iff, decide_eq_true_iff]
    have er := Int.emod_add_mul_ediv (f * (k : Int)) m
    have r0 := Int.emod_nonneg (f * (k : Int)) (show m ≠ 0 by omega)
    have r1 := Int.emod_lt_of_pos (f * (k : Int)) m0
    generalize (l - st) % m = a at *
    generalize (h - st) % m = b at *
    generalize (l - st) / m = qa at *
    generalize (h - st) / m = qb at *
    generalize f * (k : Int) % m = r at *
    generalize f * (k : Int) / m = w at *
    have q1 : m * (qb - qa) < m * 1 := by
      have : m * (qb - qa) = m * qb - m * qa := by grind
      omega
    have q2 : m * (-1) < m * (qb - qa) := by
      have : m * (qb - qa) = m * qb - m * qa := by grind
      omega
    have q1 := lt_of_mul m0 q1
    have q2 := lt_of_mul m0 q2
    have qq : qb = qa := by omega
    subst qq
    constructor
    · rintro ⟨z, h1, h2⟩
      have p1 : m * (w - z - qb) < m * 1 := by
        have : m * (w - z - qb) = m * w - m * z - m * qb := by grind
        omega
      have p2 : m * (-1) < m * (w - z - qb) := by
        have : m * (w - z - qb) = m * w - m * z - m * qb := by grind
        omega
      have p1 := lt_of_mul m0 p1
      have p2 := lt_of_mul m0 p2
      have : w = z + qb := by omega
      have : m * w = m * z + m * qb := by rw [this]; grind
      omega
    · rintro ⟨h1, h2⟩
      refine ⟨w - qb, ?_, ?_⟩
      · have : m * (w - qb) = m * w - m * qb := by grind
        omega
      · have : m * (w - qb) = m * w - m * qb := by grind
        omega
  cases o with
  | none => exact fun k hk => by have := ho k; rw [(key k).mp hk] at this; cases this
  | some k => exact ⟨(key k).mpr ho.1, fun j hj hk => by have := ho.2 j hj; rw [(key j).mp hk] at this; cases this⟩
theorem fc_zero {m f st l h : Int} (m0 : 0 < m) (hab : ¬ (l - st) % m ≤ (h - st) % m) (lh : l ≤ h) : FC m f st l h (some 0) := by
  have ea := Int.emod_add_mul_ediv (l - st) m
  have eb := Int.emod_add_mul_ediv (h - st) m
  have a1 := Int.emod_lt_of_pos (l - st) m0
  have b0 := Int.emod_nonneg (h - st) (show m ≠ 0 by omega)
  refine ⟨⟨-((h - st) / m), ?_, ?_⟩, fun j hj => by omega⟩
  · rw [Int.natCast_zero, Int.mul_zero]
    generalize (l - st) % m = a at *
    generalize (h - st) % m = b at *
    generalize (l - st) / m = qa at *
    generalize (h - st) / m = qb at *
    have p : m * qa < m * qb := by omega
    have p := lt_of_mul m0 p
    have : m * (qa + 1) ≤ m * qb := Int.mul_le_mul_of_nonneg_left (by omega) (by omega)
    have : m * (qa + 1) = m * qa + m := by grind
    have : m * -qb = -(m * qb) := by grind
    omega
  · rw [Int.natCast_zero, Int.mul_zero]
    have : m * -((h - st) / m) = -(m * ((h - st) / m)) := by grind
    omega
theorem inP_hit {s v f st lo hi : Int} (R : Rg s v lo hi) (k : Nat) : inP s v f st lo hi k = true ↔ (hitC (2 * s * v) f st (lo * v) (hi * v) k ∨ hitC (2 * s * v) f st ((2 * s - hi) * v) ((2 * s - lo) * v) k) := by
  have m0 := R.m0
  obtain ⟨f1, f2, f3, f4, f5, f6, f7, f8, f9⟩ := R.fac
  have er := Int.emod_add_mul_ediv (f * k + st) (2 * s * v)
  have r0 := Int.emod_nonneg (f * k + st) (show 2 * s * v ≠ 0 by omega)
  have r1 := Int.emod_lt_of_pos (f * k + st) m0
  unfold inP hitC foldT
  rw [f7, f8, Bool.and_eq_true_iff, decide_eq_true_iff, decide_eq_true_iff]
  rw [f9] at *
  generalize f * (k : Int) + st = u at *
  generalize u % (2 * (s * v)) = r at *
  generalize u / (2 * (s * v)) = w at *
  generalize lo * v = A at *
  generalize hi * v = B at *
  generalize s * v = N at *
  constructor
  · intro h
    by_cases c : 2 * N - r < r
    · rw [if_pos c] at h
      exact Or.inr ⟨w, by omega, by omega⟩
    · rw [if_neg c] at h
      exact Or.inl ⟨w, by omega, by omega⟩
  · have m0 : 0 < 2 * N := by omega
    have sp : ∀ z : Int, 2 * N * w - 2 * N * z = 2 * N * (w - z) := fun z => by grind
    rintro (⟨z, h1, h2⟩ | ⟨z, h1, h2⟩)
    · have p1 : 2 * N * (w - z) < 2 * N * 1 := by rw [← sp]; omega
      have p2 : 2 * N * (-1) < 2 * N * (w - z) := by rw [← sp]; omega
      have p1 := lt_of_mul m0 p1
      have p2 := lt_of_mul m0 p2
      have : w = z := by omega
      subst this
      split <;> omega
    · have p1 : 2 * N * (w - z) < 2 * N * 2 := by rw [← sp]; omega
      have p2 : 2 * N * (-1) < 2 * N * (w - z) := by rw [← sp]; omega
      have p1 := lt_of_mul m0 p1
      have p2 := lt_of_mul m0 p2
      have : w - z = 0 ∨ w - z = 1 := by omega
      rcases this with e | e
      · have : 2 * N * (w - z) = 0 := by rw [e, Int.mul_zero]
        rw [← sp] at this
        split <;> omega
      · have : 2 * N * (w - z) = 2 * N := by rw [e, Int.mul_one]
        rw [← sp] at this
        split <;> omega
theorem pv_of {s v f st lo hi : Int} (R : Rg s v lo hi) {o1 o2 : Option Nat} (h1 : FC (2 * s * v) f st (lo * v) (hi * v) o1) (h2 : FC (2 * s * v) f st ((2 * s - hi) * v) ((2 * s - lo) * v) o2) : PV s v f st lo hi (omin o1 o2) := by
  have key := fun k => inP_hit (f := f) (st := st) R k
  have kf : ∀ k, ¬ hitC (2 * s * v) f st (lo * v) (hi * v) k → ¬ hitC (2 * s * v) f st ((2 * s - hi) * v) ((2 * s - lo) * v) k → inP s v f st lo hi k = false := fun k e1 e2 => not_true fun h => by
    rcases (key k).mp h with z | z
    · exact e1 z
    · exact e2 z
  cases o1 with
  | none =>
    cases o2 with
    | none => exact fun k => kf k (h1 k) (h2 k)
    | some j => exact ⟨(key j).mpr (Or.inr h2.1), fun k hk => kf k (h1 k) (h2.2 k hk)⟩
  | some k0 =>
    cases o2 with
    | none => exact ⟨(key k0).mpr (Or.inl h1.1), fun k hk => kf k (h1.2 k hk) (h2 k)⟩
    | some j =>
      show FstP s v f st lo hi (min k0 j)
      refine ⟨?_, fun k hk => kf k (h1.2 k (by omega)) (h2.2 k (by omega))⟩
      by_cases c : k0 ≤ j
      · rw [Nat.min_eq_left c]; exact (key k0).mpr (Or.inl h1.1)
      · rw [Nat.min_eq_right (by omega)]; exact (key j).mpr (Or.inr h2.1)
theorem pv_uniq {s v f st lo hi : Int} {o o' : Option Nat} (h : PV s v f st lo hi o) (h' : PV s v f st lo hi o') : o = o' := by
  cases o with
  | none =>
    cases o' with
    | none => rfl
    | some k => have := h k; rw [h'.1] at this; cases this
  | some k =>
    cases o' with
    | none => have := h' k; rw [h.1] at this; cases this
    | some j => rw [fst_uniq h h']
theorem rc_ex {R f lo hi : Int} (hR : 0 < R) : ∃ o, RcV R f lo hi o := by
  by_cases c : ∃ n, inR R f 0 lo hi n = true
  · obtain ⟨n, hn⟩ := c
    rcases fst_exists (m := R) (f := f) (s := 0) (lo := lo) (hi := hi) (n + 1) with h | ⟨k0, _, h⟩
    · have := h n (by omega); rw [hn] at this; cases this
    · exact ⟨some k0, h⟩
  · exact ⟨none, fun k => not_true fun h => c ⟨k, h⟩⟩
theorem rc_uniq {R f lo hi : Int} {o o' : Option Nat} (h : RcV R f lo hi o) (h' : RcV R f lo hi o') : o = o' := by
  cases o with
  | none =>
    cases o' with
    | none => rfl
    | some k => have := h k; rw [h'.1] at this; cases this
  | some k =>
    cases o' with
    | none => have := h' k; rw [h.1] at this; cases this
    | some j => rw [fst_uniq h h']
def spLP : Sp := fun ds S Q _ => ∃ s v f st lo hi : Int, ds = [.int s, .int v, .int f, .int st, .int lo, .int hi] ∧ Rg s v lo hi ∧ (2 * s * v < 2 ^ 102) ∧ ∀ o S', Ext S S' → PV s v f st lo hi o → Q (optD o) S'
theorem txt_lp {G : Gm} {ds : List D} {S0 : Sto} {Q : VK} {X : XK} {b : Ss} (hb : b = _law_pass_T) (hr : G.fn 34 = spRch) (h : spLP ds S0 Q X) : ds.length = 6 ∧ wpSs G b (start 14 ds) S0 (kR Q X) := by
  obtain ⟨s, v, f, st, lo, hi, rfl, R, bM, hq⟩ := h
  subst hb
  refine ⟨rfl, ?_⟩
  have m0 := R.m0
  obtain ⟨f1, f2, f3, f4, f5, f6, f7, f8, f9⟩ := R.fac
  have bs := R.bs
  have bv := R.bv
  have l0 := R.l0
  have lh := R.lh
  have hs := R.hs
  have s0 := R.s0
  have v0 := R.v0
  have b2s : Bd 402 (2 * s) := (bd2.mul bs).up (by decide)
  have sv := bv.sm (show 400 ≤ 4000 by decide)
  have s2 := bd2.sm (show 2 ≤ 4000 by decide)
  have ss := bs.sm (show 400 ≤ 4000 by decide)
  have l2 : 2 ≤ lim := len_lim (by decide)
  generalize hA : _law_pass_A0 = A0
  generalize hB : _law_pass_B0 = bo
  simp only [_law_pass_T, _law_pass_S0, hA, hB, wpSs, wpS, wpE, wpEs, wpC, wpAnd, wpOr, wpO, wpIt, opt_some, onI_int, onB_bl, onR_ref, arg1_one, look, joinO, start, List.map_cons, List.map_nil, List.length_cons, List.length_nil, List.replicate, List.cons_append, List.nil_append, List.append_nil, List.getElem?_cons_succ, List.getElem?_cons_zero, kcD, Nat.reduceAdd, Nat.reduceSub, br_t, br_f, br_n, asg, setAll, List.set_cons_succ, List.set_cons_zero, tgs, wipe, eq_ii, ne_ii, lt_ii, le_ii, gt_ii, ge_ii, is_n, isn_n, is_b, isn_b, add_ii, sub_ii, mul_ii, mod_ii, fdiv_ii, pow_ii, isNon, biD, intD_i, intD_b, esLen, beq_self_eq_true, ixD_tup, lsOf_new, seqD_tup, seqD_fl, slD_tup, bools, Option.map_some, true_and, ixD_fl, lenD_tup, lenD_fl, ix30, ix31, ix32, at20, at21, at30, at31, at32, List.filterMap_cons, List.filterMap_nil]
  refine ⟨s2, ss, b2s.sm (by decide), sv, mkL_ok (by simp) fun p hp => ?_⟩
  have ep : (upd S0 p (.lst [])) p = some (.lst []) := upd_at
  have x1 : Ext S0 (upd S0 p (.lst [])) := Ext.new hp
  generalize upd S0 p (.lst []) = S1 at *
  have turn : ∀ (l h : Int) (xs : List D) (S3 : Sto) (o10 o11 o12 o13 : Option D) (nx : Env → Sto → Prop), Bd 402 l → Bd 402 h → l ≤ h → h * v - l * v < 2 * s * v → S3 p = some (.lst xs) → xs.length < 5 →
      (∀ o o11 o12 o13, FC (2 * s * v) f st (l * v) (h * v) o → nx [some (.int s), some (.int v), some (.int f), some (.int st), some (.int lo), some (.int hi), some (.int (2 * s * v)), some (.ref p), some (.int l), some (.int h), o10, o11, o12, o13] (upd S3 p (.lst (xs ++ [optD o])))) →
      wpSs G bo [some (.int s), some (.int v), some (.int f), some (.int st), some (.int lo), some (.int hi), some (.int (2 * s * v)), some (.ref p), some (.int l), some (.int h), o10, o11, o12, o13] S3 ⟨nx, Q, fun ρ1 S1 => wpSs G A0 ρ1 S1 (kR Q X), fun k fs x S' => X k fs S'⟩ := by
    intro l h xs S3 o10 o11 o12 o13 nx bl bh lh hw e3 hx hn
    subst hB
    have lv : l * v ≤ h * v := Int.mul_le_mul_of_nonneg_right lh (by omega)
    have a0 := Int.emod_nonneg (l * v - st) (show 2 * s * v ≠ 0 by omega)
    have b1 := Int.emod_lt_of_pos (h * v - st) m0
    simp only [_law_pass_B0, wpSs, wpS, wpE, wpEs, wpC, wpAnd, wpOr, wpO, wpIt, opt_some, onI_int, onB_bl, onR_ref, arg1_one, look, joinO, start, List.map_cons, List.map_nil, List.length_cons, List.length_nil, List.replicate, List.cons_append, List.nil_append, List.append_nil, List.getElem?_cons_succ, List.getElem?_cons_zero, kcD, Nat.reduceAdd, Nat.reduceSub, br_t, br_f, br_n, asg, setAll, List.set_cons_succ, List.set_cons_zero, tgs, wipe, eq_ii, ne_ii, lt_ii, le_ii, gt_ii, ge_ii, is_n, isn_n, is_b, isn_b, add_ii, sub_ii, mul_ii, mod_ii, fdiv_ii, pow_ii, isNon, biD, intD_i, intD_b, esLen, beq_self_eq_true, ixD_tup, lsOf_new, seqD_tup, seqD_fl, slD_tup, bools, Option.map_some, true_and, ixD_fl, lenD_tup, lenD_fl, ix30, ix31, ix32, at20, at21, at30, at31, at32, List.filterMap_cons, List.filterMap_nil, fmod_pos m0, lsOf_ref e3]
    refine ⟨bl.sm (by decide), sv, by omega, bh.sm (by decide), sv, by omega, br_d (fun z => ?_) fun z => ?_⟩
    · obtain ⟨o, ho⟩ := rc_ex (R := 2 * s * v) (f := f) (lo := (l * v - st) % (2 * s * v)) (hi := (h * v - st) % (2 * s * v)) m0
      have fm := Int.emod_lt_of_pos f m0
      have fm0 := Int.emod_nonneg f (show 2 * s * v ≠ 0 by omega)
      refine call hr ⟨149, by decide, f, 2 * s * v, _, _, rfl, a0, z, b1, ?_, ?_, fun o' ho' => ?_⟩
      · show (2 * s * v).natAbs < 2 ^ 300
        omega
      · exact Or.inr (Int.lt_trans bM fib_150)
      · refine append_ref e3 (by omega) ?_
        exact hn _ _ _ _ (fc_rc m0 lv hw z ho')
    · refine append_ref e3 (by omega) ?_
      exact hn (some 0) _ _ _ (fc_zero m0 z lv)
  have fin : ∀ (ods : List (Option Nat)) (S3 : Sto) (o8 o9 o10 o11 o12 o13 : Option D), ods.length ≤ 2 → S3 p = some (.lst (ods.map optD)) → Kp p S1 S3 → PV s v f st lo hi (ods.foldl omin none) → wpSs G A0 [some (.int s), some (.int v), some (.int f), some (.int st), some (.int lo), some (.int hi), some (.int (2 * s * v)), some (.ref p), o8, o9, o10, o11, o12, o13] S3 (kR Q X) := by
    intro ods S3 o8 o9 o10 o11 o12 o13 hl e3 k3 hres
    subst hA
    simp only [_law_pass_A0, wpSs, wpS, wpE, wpEs, wpC, wpAnd, wpOr, wpO, wpIt, opt_some, onI_int, onB_bl, onR_ref, arg1_one, look, joinO, start, List.map_cons, List.map_nil, List.length_cons, List.length_nil, List.replicate, List.cons_append, List.nil_append, List.append_nil, List.getElem?_cons_succ, List.getElem?_cons_zero, kcD, Nat.reduceAdd, Nat.reduceSub, br_t, br_f, br_n, asg, setAll, List.set_cons_succ, List.set_cons_zero, tgs, wipe, eq_ii, ne_ii, lt_ii, le_ii, gt_ii, ge_ii, is_n, isn_n, is_b, isn_b, add_ii, sub_ii, mul_ii, mod_ii, fdiv_ii, pow_ii, isNon, biD, intD_i, intD_b, esLen, beq_self_eq_true, ixD_tup, lsOf_new, seqD_tup, seqD_fl, slD_tup, bools, Option.map_some, true_and, ixD_fl, lenD_tup, lenD_fl, ix30, ix31, ix32, at20, at21, at30, at31, at32, List.filterMap_cons, List.filterMap_nil, seqD_ref e3]
    refine ⟨Nat.le_trans (by rw [List.length_map]; exact hl) (len_lim (by decide)), compW_filt (chk := fun S' => S' p = some (.lst (ods.map optD))) (f := fun d => match d with | .non => false | _ => true) e3 (fun d hd k hk => ?_) fun q hq' => ?_⟩
    · obtain ⟨o, _, rfl⟩ := List.mem_map.mp hd
      cases o with
      | none => exact br_if (fun _ => hk) fun z => absurd z (by decide)
      | some k => exact br_if (fun z => by cases z) fun _ => hk
    · refine mkL_ok (by simp) fun q2 hq2 => ?_
      have e4 : (upd (upd S3 q (.lst (([] : List D) ++ (ods.map optD).filter fun d => match d with | .non => false | _ => true))) q2 (.lst [])) q = some (.lst ((ods.map optD).filter fun d => match d with | .non => false | _ => true)) := by
        rw [upd_off (fun z => by rw [z, upd_at] at hq2; cases hq2), upd_at]; rfl
      have e5 : (upd (upd S3 q (.lst (([] : List D) ++ (ods.map optD).filter fun d => match d with | .non => false | _ => true))) q2 (.lst [])) q2 = some (.lst []) := upd_at
      have x5 : Ext S3 (upd (upd S3 q (.lst (([] : List D) ++ (ods.map optD).filter fun d => match d with | .non => false | _ => true))) q2 (.lst [])) := (Ext.new hq').trans (Ext.new hq2)
      generalize upd (upd S3 q (.lst (([] : List D) ++ (ods.map optD).filter fun d => match d with | .non => false | _ => true))) q2 (.lst []) = S5 at *
      have x6 : Ext S0 S5 := fun a o ha => by
        have : a ≠ p := fun z => by rw [z, hp] at ha; cases ha
        exact x5 _ _ (k3 _ _ this (x1 _ _ ha))
      clear hq2 turn
      rcases ods with _ | ⟨o, _ | ⟨o', _ | ⟨o'', r⟩⟩⟩
      · exact cmp_nil e4 e5 rfl (br_if (fun z => by cases z) fun _ => hq none S5 x6 hres)
      · cases o with
        | none => exact cmp_nil e4 e5 rfl (br_if (fun z => by cases z) fun _ => hq none S5 x6 hres)
        | some k1 =>
          refine cmp_nil e4 e5 rfl ⟨fun _ => ?_, fun z => by cases z⟩
          rw [lsOf_ref e4]
          exact hq (some k1) S5 x6 hres
      · cases o with
        | none =>
          cases o' with
          | none => exact cmp_nil e4 e5 rfl (br_if (fun z => by cases z) fun _ => hq none S5 x6 hres)
          | some k2 =>
            refine cmp_nil e4 e5 rfl ⟨fun _ => ?_, fun z => by cases z⟩
            rw [lsOf_ref e4]
            exact hq (some k2) S5 x6 hres
        | some k1 =>
          cases o' with
          | none =>
            refine cmp_nil e4 e5 rfl ⟨fun _ => ?_, fun z => by cases z⟩
            rw [lsOf_ref e4]
            exact hq (some k1) S5 x6 hres
          | some k2 =>
            refine cmp_nil e4 e5 rfl ⟨fun _ => ?_, fun z => by cases z⟩
            rw [lsOf_ref e4]
            have := hq (some (min k1 k2)) S5 x6 hres
            show Q (.int (if (k2 : Int) < k1 then (k2 : Int) else k1)) S5
            by_cases c : k2 < k1
            · rw [if_pos (by omega)]
              rw [Nat.min_eq_right (by omega)] at this
              exact this
            · rw [if_neg (by omega)]
              rw [Nat.min_eq_left (by omega)] at this
              exact this
      · exact absurd hl (by simp)
  have blo : Bd 402 lo := (bs.le l0 (by omega)).up (by decide)
  have bhi : Bd 402 hi := (bs.le (by omega) hs).up (by decide)
  have e1 : (2 * s - lo) * v - (2 * s - hi) * v < 2 * s * v := by rw [f7, f8]; omega
  simp only [forW, asg, setAll, List.set_cons_succ, List.set_cons_zero, true_and]
  refine ⟨l2, s2, ss, s2, ss, l2, l2, rfl, turn lo hi [] S1 none none none none _ blo bhi lh (by omega) ep (by simp) fun o1 o11 o12 o13 h1 => ?_⟩
  have ep3 : (upd S1 p (.lst (([] : List D) ++ [optD o1]))) p = some (.lst ([optD o1])) := upd_at
  have k3 : Kp p S1 (upd S1 p (.lst (([] : List D) ++ [optD o1]))) := Kp.wr
  generalize upd S1 p (.lst (([] : List D) ++ [optD o1])) = S3 at *
  refine ⟨rfl, turn (2 * s - hi) (2 * s - lo) [optD o1] S3 none o11 o12 o13 _ ?_ ?_ (by omega) e1 ep3 (by simp) fun o2 o11 o12 o13 h2 => ?_⟩
  · exact b2s.le (by omega) (by omega)
  · exact b2s.le (by omega) (by omega)
  exact fin [o1, o2] _ _ _ _ _ _ _ (by simp) upd_at (k3.trans Kp.wr) (pv_of R h1 h2)
end M
namespace M
theorem intB_ok' {i lo hi : Int} (h0 : lo ≤ i) (h1 : i ≤ hi) : intB (.int i) (some lo) (some hi) = true := by simp [intB, h0, h1]
def spIr : Sp := fun ds S Q _ => ∃ l h s : Int, ds = [.int l, .int h, .int s] ∧ 0 ≤ l ∧ l ≤ h ∧ h ≤ s ∧ Q (.bl true) S
theorem txt_ir {G : Gm} {ds : List D} {S0 : Sto} {Q : VK} {X : XK} {b : Ss} (hb : b = (.cons (.ret (.and (.call 0 (.cons (.v 0) (.cons (.k (.int 0)) (.cons (.v 2) .nil)))) (.cons (.call 0 (.cons (.v 1) (.cons (.k (.int 0)) (.cons (.v 2) .nil)))) (.cons (.cmp .le (.v 0) (.v 1)) .nil)))) .nil)) (h0 : G.fn 0 = spInt) (h : spIr ds S0 Q X) : ds.length = 3 ∧ wpSs G b (start 3 ds) S0 (kR Q X) := by
  obtain ⟨l, h, s, rfl, l0, lh, hs, hq⟩ := h
  subst hb
  refine ⟨rfl, ?_⟩
  simp only [wpSs, wpS, wpE, wpEs, wpC, wpAnd, wpOr, wpO, wpIt, opt_some, onI_int, onB_bl, onR_ref, arg1_one, look, joinO, start, List.map_cons, List.map_nil, List.length_cons, List.length_nil, List.replicate, List.cons_append, List.nil_append, List.append_nil, List.getElem?_cons_succ, List.getElem?_cons_zero, kcD, Nat.reduceAdd, Nat.reduceSub, br_t, br_f, br_n, asg, setAll, List.set_cons_succ, List.set_cons_zero, tgs, wipe, eq_ii, ne_ii, lt_ii, le_ii, gt_ii, ge_ii, is_n, isn_n, is_b, isn_b, add_ii, sub_ii, mul_ii, mod_ii, fdiv_ii, pow_ii, isNon, biD, intD_i, intD_b, esLen, beq_self_eq_true, ixD_tup, lsOf_new, seqD_tup, seqD_fl, slD_tup, bools, Option.map_some, true_and, ixD_fl, lenD_tup, lenD_fl, ix30, ix31, ix32, at20, at21, at30, at31, at32, List.filterMap_cons, List.filterMap_nil]
  refine call h0 ⟨.int l, some 0, some s, rfl, trivial, ?_⟩
  rw [intB_ok' l0 (by omega)]
  simp only [wpSs, wpS, wpE, wpEs, wpC, wpAnd, wpOr, wpO, wpIt, opt_some, onI_int, onB_bl, onR_ref, arg1_one, look, joinO, start, List.map_cons, List.map_nil, List.length_cons, List.length_nil, List.replicate, List.cons_append, List.nil_append, List.append_nil, List.getElem?_cons_succ, List.getElem?_cons_zero, kcD, Nat.reduceAdd, Nat.reduceSub, br_t, br_f, br_n, asg, setAll, List.set_cons_succ, List.set_cons_zero, tgs, wipe, eq_ii, ne_ii, lt_ii, le_ii, gt_ii, ge_ii, is_n, isn_n, is_b, isn_b, add_ii, sub_ii, mul_ii, mod_ii, fdiv_ii, pow_ii, isNon, biD, intD_i, intD_b, esLen, beq_self_eq_true, ixD_tup, lsOf_new, seqD_tup, seqD_fl, slD_tup, bools, Option.map_some, true_and, ixD_fl, lenD_tup, lenD_fl, ix30, ix31, ix32, at20, at21, at30, at31, at32, List.filterMap_cons, List.filterMap_nil]
  refine call h0 ⟨.int h, some 0, some s, rfl, trivial, ?_⟩
  rw [intB_ok' (by omega) hs]
  simp only [wpSs, wpS, wpE, wpEs, wpC, wpAnd, wpOr, wpO, wpIt, opt_some, onI_int, onB_bl, onR_ref, arg1_one, look, joinO, start, List.map_cons, List.map_nil, List.length_cons, List.length_nil, List.replicate, List.cons_append, List.nil_append, List.append_nil, List.getElem?_cons_succ, List.getElem?_cons_zero, kcD, Nat.reduceAdd, Nat.reduceSub, br_t, br_f, br_n, asg, setAll, List.set_cons_succ, List.set_cons_zero, tgs, wipe, eq_ii, ne_ii, lt_ii, le_ii, gt_ii, ge_ii, is_n, isn_n, is_b, isn_b, add_ii, sub_ii, mul_ii, mod_ii, fdiv_ii, pow_ii, isNon, biD, intD_i, intD_b, esLen, beq_self_eq_true, ixD_tup, lsOf_new, seqD_tup, seqD_fl, slD_tup, bools, Option.map_some, true_and, ixD_fl, lenD_tup, lenD_fl, ix30, ix31, ix32, at20, at21, at30, at31, at32, List.filterMap_cons, List.filterMap_nil, decide_eq_true lh]
  exact hq
def spIb : Sp := fun ds S Q _ => ∃ a c l r lo hi, ds = [prD a c, boxD l r lo hi] ∧ OkB a c l r lo hi ∧ Q (.bl true) S
theorem txt_ib {G : Gm} {ds : List D} {S0 : Sto} {Q : VK} {X : XK} {b : Ss} (hb : b = (.cons (.if_ (.or (.not (.isi (.v 1) .tuple)) (.cons (.cmp .ne (.bi .len (.cons (.v 1) .nil)) (.k (.int 4))) .nil)) (.cons (.ret (.k (.bl false))) .nil) .nil) (.cons (.ret (.and (.call 13 (.cons (.ix (.v 1) (.k (.int 0))) (.cons (.ix (.v 1) (.k (.int 1))) (.cons (.ix (.v 0) (.k (.int 0))) .nil)))) (.cons (.call 13 (.cons (.ix (.v 1) (.k (.int 2))) (.cons (.ix (.v 1) (.k (.int 3))) (.cons (.ix (.v 0) (.k (.int 1))) .nil)))) .nil))) .nil))) (h0 : G.fn 13 = spIr) (h : spIb ds S0 Q X) : ds.length = 2 ∧ wpSs G b (start 2 ds) S0 (kR Q X) := by
  obtain ⟨a, c, l, r, lo, hi, rfl, g, hq⟩ := h
  subst hb
  refine ⟨rfl, ?_⟩
  have t1 : isTy S0 (.tup [.int l, .int r, .int lo, .int hi]) .tuple = some true := rfl
  simp only [wpSs, wpS, wpE, wpEs, wpC, wpAnd, wpOr, wpO, wpIt, opt_some, onI_int, onB_bl, onR_ref, arg1_one, look, joinO, start, List.map_cons, List.map_nil, List.length_cons, List.length_nil, List.replicate, List.cons_append, List.nil_append, List.append_nil, List.getElem?_cons_succ, List.getElem?_cons_zero, kcD, Nat.reduceAdd, Nat.reduceSub, br_t, br_f, br_n, asg, setAll, List.set_cons_succ, List.set_cons_zero, tgs, wipe, eq_ii, ne_ii, lt_ii, le_ii, gt_ii, ge_ii, is_n, isn_n, is_b, isn_b, add_ii, sub_ii, mul_ii, mod_ii, fdiv_ii, pow_ii, isNon, biD, intD_i, intD_b, esLen, beq_self_eq_true, ixD_tup, lsOf_new, seqD_tup, seqD_fl, slD_tup, bools, Option.map_some, true_and, ixD_fl, lenD_tup, lenD_fl, ix30, ix31, ix32, at20, at21, at30, at31, at32, List.filterMap_cons, List.filterMap_nil, boxD, t1, at40, at41, at42, at43]
  refine br_if (fun _ => ?_) fun z => by simp at z
  refine call h0 ⟨l, r, a, rfl, g.l0, g.lr, g.ra, ?_⟩
  simp only [wpSs, wpS, wpE, wpEs, wpC, wpAnd, wpOr, wpO, wpIt, opt_some, onI_int, onB_bl, onR_ref, arg1_one, look, joinO, start, List.map_cons, List.map_nil, List.length_cons, List.length_nil, List.replicate, List.cons_append, List.nil_append, List.append_nil, List.getElem?_cons_succ, List.getElem?_cons_zero, kcD, Nat.reduceAdd, Nat.reduceSub, br_t, br_f, br_n, asg, setAll, List.set_cons_succ, List.set_cons_zero, tgs, wipe, eq_ii, ne_ii, lt_ii, le_ii, gt_ii, ge_ii, is_n, isn_n, is_b, isn_b, add_ii, sub_ii, mul_ii, mod_ii, fdiv_ii, pow_ii, isNon, biD, intD_i, intD_b, esLen, beq_self_eq_true, ixD_tup, lsOf_new, seqD_tup, seqD_fl, slD_tup, bools, Option.map_some, true_and, ixD_fl, lenD_tup, lenD_fl, ix30, ix31, ix32, at20, at21, at30, at31, at32, List.filterMap_cons, List.filterMap_nil]
  exact call h0 ⟨lo, hi, c, rfl, g.o0, g.oh, g.hc, hq⟩
def spFB : Sp := fun ds S Q _ => ∃ a c x y p q l r lo hi, ds = [prD a c, shD x y p q, boxD l r lo hi] ∧ OkL ⟨a, c, x, y, p, q⟩ ∧ BL ⟨a, c, x, y, p, q⟩ ∧ OkB a c l r lo hi ∧ rollB a c (shD x y p q) = true ∧ ∀ d S', Ext S S' → LstP (BoxT a c x y p q l r lo hi) d → TimC d → Q d S'
theorem txt_fb {G : Gm} {ds : List D} {S0 : Sto} {Q : VK} {X : XK} {b : Ss} (hb : b = (.cons (.ex (.call 12 (.cons (.v 0) (.cons (.v 1) .nil)))) (.cons (.if_ (.not (.call 14 (.cons (.v 0) (.cons (.v 2) .nil)))) (.cons .nev .nil) .nil) (.cons (.ret (.call 19 (.cons (.v 0) (.cons (.v 1) (.cons (.v 2) .nil))))) .nil)))) (h1 : G.fn 12 = spCkShot) (h2 : G.fn 14 = spIb) (h3 : G.fn 19 = spBT) (h : spFB ds S0 Q X) : ds.length = 3 ∧ wpSs G b (start 3 ds) S0 (kR Q X) := by
  obtain ⟨a, c, x, y, p, q, l, r, lo, hi, rfl, o, bl, g, hr, hq⟩ := h
  subst hb
  refine ⟨rfl, ?_⟩
  have a0 : 0 < a := o.a0
  have c0 : 0 < c := o.c0
  simp only [wpSs, wpS, wpE, wpEs, wpC, wpAnd, wpOr, wpO, wpIt, opt_some, onI_int, onB_bl, onR_ref, arg1_one, look, joinO, start, List.map_cons, List.map_nil, List.length_cons, List.length_nil, List.replicate, List.cons_append, List.nil_append, List.append_nil, List.getElem?_cons_succ, List.getElem?_cons_zero, kcD, Nat.reduceAdd, Nat.reduceSub, br_t, br_f, br_n, asg, setAll, List.set_cons_succ, List.set_cons_zero, tgs, wipe, eq_ii, ne_ii, lt_ii, le_ii, gt_ii, ge_ii, is_n, isn_n, is_b, isn_b, add_ii, sub_ii, mul_ii, mod_ii, fdiv_ii, pow_ii, isNon, biD, intD_i, intD_b, esLen, beq_self_eq_true, ixD_tup, lsOf_new, seqD_tup, seqD_fl, slD_tup, bools, Option.map_some, true_and, ixD_fl, lenD_tup, lenD_fl, ix30, ix31, ix32, at20, at21, at30, at31, at32, List.filterMap_cons, List.filterMap_nil]
  refine call h1 ⟨a, c, _, rfl, a0, c0, vl_sh, hr, fun S1 k1 => ?_⟩
  refine call h2 ⟨a, c, l, r, lo, hi, rfl, g, ?_⟩
  simp only [wpSs, wpS, wpE, wpEs, wpC, wpAnd, wpOr, wpO, wpIt, opt_some, onI_int, onB_bl, onR_ref, arg1_one, look, joinO, start, List.map_cons, List.map_nil, List.length_cons, List.length_nil, List.replicate, List.cons_append, List.nil_append, List.append_nil, List.getElem?_cons_succ, List.getElem?_cons_zero, kcD, Nat.reduceAdd, Nat.reduceSub, br_t, br_f, br_n, asg, setAll, List.set_cons_succ, List.set_cons_zero, tgs, wipe, eq_ii, ne_ii, lt_ii, le_ii, gt_ii, ge_ii, is_n, isn_n, is_b, isn_b, add_ii, sub_ii, mul_ii, mod_ii, fdiv_ii, pow_ii, isNon, biD, intD_i, intD_b, esLen, beq_self_eq_true, ixD_tup, lsOf_new, seqD_tup, seqD_fl, slD_tup, bools, Option.map_some, true_and, ixD_fl, lenD_tup, lenD_fl, ix30, ix31, ix32, at20, at21, at30, at31, at32, List.filterMap_cons, List.filterMap_nil]
  exact call h3 ⟨a, c, x, y, p, q, l, r, lo, hi, rfl, o, bl, g, fun d S2 k2 hd bd => hq d S2 (k1.trans k2) hd bd⟩
/-! ### within -/
def InB (a c x y p q l r lo hi : Int) (t d : Int) : Prop := Inn a x p l r t d ∧ Inn c y q lo hi t d
instance {a c x y p q l r lo hi t d : Int} : Decidable (InB a c x y p q l r lo hi t d) := by unfold InB Inn; infer_instance
def spWi : Sp := fun ds S Q _ => ∃ m n m' n' l r lo hi, ds = [.tup [prD m n, prD m' n'], boxD l r lo hi] ∧ Bd 2000 n ∧ Bd 2000 n' ∧ Bd 2000 l ∧ Bd 2000 r ∧ Bd 2000 lo ∧ Bd 2000 hi ∧ ∀ S', Ext S S' → Q (.bl (decide ((l * n ≤ m ∧ m ≤ r * n) ∧ lo * n' ≤ m' ∧ m' ≤ hi * n'))) S'
theorem txt_wi {G : Gm} {ds : List D} {S0 : Sto} {Q : VK} {X : XK} {b : Ss} (hb : b = (.cons (.for_ (.tup [2, 3, 4]) (.seq (.tup (.cons (.tup (.cons (.ix (.v 0) (.k (.int 0))) (.cons (.ix (.v 1) (.k (.int 0))) (.cons (.ix (.v 1) (.k (.int 1))) .nil)))) (.cons (.tup (.cons (.ix (.v 0) (.k (.int 1))) (.cons (.ix (.v 1) (.k (.int 2))) (.cons (.ix (.v 1) (.k (.int 3))) .nil)))) .nil)))) (.cons (.if_ (.not (.chain .le .le (.bin .mul (.v 3) (.ix (.v 2) (.k (.int 1)))) (.ix (.v 2) (.k (.int 0))) (.bin .mul (.v 4) (.ix (.v 2) (.k (.int 1)))))) (.cons (.ret (.k (.bl false))) .nil) .nil) .nil)) (.cons (.ret (.k (.bl true))) .nil))) (h : spWi ds S0 Q X) : ds.length = 2 ∧ wpSs G b (start 5 ds) S0 (kR Q X) := by
  obtain ⟨m, n, m', n', l, r, lo, hi, rfl, b1, b2, b3, b4, b5, b6, hq⟩ := h
  subst hb
  refine ⟨rfl, ?_⟩
  have l2 : 2 ≤ lim := len_lim (by decide)
  have l3 : 3 ≤ lim := len_lim (by decide)
  have s1 := b1.sm (show 2000 ≤ 4000 by decide)
  have s2 := b2.sm (show 2000 ≤ 4000 by decide)
  have s3 := b3.sm (show 2000 ≤ 4000 by decide)
  have s4 := b4.sm (show 2000 ≤ 4000 by decide)
  have s5 := b5.sm (show 2000 ≤ 4000 by decide)
  have s6 := b6.sm (show 2000 ≤ 4000 by decide)
  have hq := hq S0 Ext.refl
  simp only [wpSs, wpS, wpE, wpEs, wpC, wpAnd, wpOr, wpO, wpIt, opt_some, onI_int, onB_bl, onR_ref, arg1_one, look, joinO, start, List.map_cons, List.map_nil, List.length_cons, List.length_nil, List.replicate, List.cons_append, List.nil_append, List.append_nil, List.getElem?_cons_succ, List.getElem?_cons_zero, kcD, Nat.reduceAdd, Nat.reduceSub, br_t, br_f, br_n, asg, setAll, List.set_cons_succ, List.set_cons_zero, tgs, wipe, eq_ii, ne_ii, lt_ii, le_ii, gt_ii, ge_ii, is_n, isn_n, is_b, isn_b, add_ii, sub_ii, mul_ii, mod_ii, fdiv_ii, pow_ii, isNon, biD, intD_i, intD_b, esLen, beq_self_eq_true, ixD_tup, lsOf_new, seqD_tup, seqD_fl, slD_tup, bools, Option.map_some, true_and, ixD_fl, lenD_tup, lenD_fl, ix30, ix31, ix32, at20, at21, at30, at31, at32, List.filterMap_cons, List.filterMap_nil, boxD, forW, at40, at41, at42, at43]
  have no : ¬ ((l * n ≤ m ∧ m ≤ r * n) ∧ lo * n' ≤ m' ∧ m' ≤ hi * n') → Q (.bl false) S0 := fun z => by rw [decide_eq_false z] at hq; exact hq
  refine ⟨l3, l3, l2, s3, s1, br_d (fun z1 => ⟨s4, s1, br_d (fun z2 => ⟨s5, s2, br_d (fun z3 => ⟨s6, s2, br_d (fun z4 => ?_) fun z => no fun w => z w.2.2⟩) fun z => no fun w => z w.2.1⟩) fun z => no fun w => z w.1.2⟩) fun z => no fun w => z w.1.1⟩
  rw [decide_eq_true ⟨⟨z1, z2⟩, z3, z4⟩] at hq
  exact hq
/-- within, said of the place -/
theorem low_in {F d l r : Int} (hd : 0 < d) : ∃ m n, low F d = prD m n ∧ (∀ k, Bd k d → Bd k n) ∧ ((l * n ≤ m ∧ m ≤ r * n) ↔ (l * d ≤ F ∧ F ≤ r * d)) := by
  obtain ⟨m, n, e, h, n0, _, hn⟩ := low_cmp (A := F) hd
  refine ⟨m, n, e, hn, ?_⟩
  have k : ∀ i : Int, i * n * d = i * d * n := fun i => by grind
  have c1 : l * n ≤ m ↔ l * d ≤ F := by
    constructor
    · intro z
      refine Int.le_of_mul_le_mul_right ?_ n0
      rw [← h, ← k]; exact Int.mul_le_mul_of_nonneg_right z (by omega)
    · intro z
      refine Int.le_of_mul_le_mul_right ?_ hd
      rw [h, k]; exact Int.mul_le_mul_of_nonneg_right z (by omega)
  have c2 : m ≤ r * n ↔ F ≤ r * d := by
    constructor
    · intro z
      refine Int.le_of_mul_le_mul_right ?_ n0
      rw [← h, ← k]; exact Int.mul_le_mul_of_nonneg_right z (by omega)
    · intro z
      refine Int.le_of_mul_le_mul_right ?_ hd
      rw [h, k]; exact Int.mul_le_mul_of_nonneg_right z (by omega)
  rw [c1, c2]
theorem wi_call {G : Gm} (h : G.fn 32 = spWi) {a c x y p q l r lo hi t d : Int} (d0 : 0 < d) (bd : Bd 1500 d) (bl : Bd 1500 l ∧ Bd 1500 r ∧ Bd 1500 lo ∧ Bd 1500 hi) {S : Sto} {Q : VK} {X : XK} (k : ∀ S', Ext S S' → Q (.bl (decide (InB a c x y p q l r lo hi t d))) S') : cl (G.fn 32) [spotD a c x y p q t d, boxD l r lo hi] S Q X := by
  obtain ⟨b1, b2, b3, b4⟩ := bl
  obtain ⟨m, n, e, hn, h1⟩ := low_in (F := fv a (x * d + p * t) d) (l := l) (r := r) d0
  obtain ⟨m', n', e', hn', h2⟩ := low_in (F := fv c (y * d + q * t) d) (l := lo) (r := hi) d0
  unfold spotD
  rw [e, e']
  refine call h ⟨m, n, m', n', l, r, lo, hi, rfl, (hn _ bd).up (by decide), (hn' _ bd).up (by decide), b1.up (by decide), b2.up (by decide), b3.up (by decide), b4.up (by decide), fun S' k' => ?_⟩
  have e3 : decide ((l * n ≤ m ∧ m ≤ r * n) ∧ lo * n' ≤ m' ∧ m' ≤ hi * n') = decide (InB a c x y p q l r lo hi t d) := by
    rw [decide_eq_decide, h1, h2, fv_fold, fv_fold]
    exact Iff.rfl
  rw [e3]
  exact k S' k'
end M
namespace M
def _law_due_B0 : Ss := (.cons (.if_ (.call 32 (.cons (.call 28 (.cons (.v 0) (.cons (.v 1) (.cons (.v 6) (.cons (.v 3) .nil))))) (.cons (.v 2) .nil))) (.cons (.ret (.call 26 (.cons (.v 6) (.cons (.v 3) .nil)))) .nil) .nil) .nil)
def _law_due_S0 : St := (.for_ (.v 6) (.seq (.bi .sorted (.cons (.v 5) .nil))) _law_due_B0)
def _law_due_A0 : Ss := (.cons (.ret (.k .non)) .nil)
def _law_due_T : Ss := (.cons (.set (.v 3) (.bin .mul (.bi .max (.cons (.k (.int 1)) (.cons (.bi .abs (.cons (.ix (.v 1) (.k (.int 2))) .nil)) .nil))) (.bi .max (.cons (.k (.int 1)) (.cons (.bi .abs (.cons (.ix (.v 1) (.k (.int 3))) .nil)) .nil))))) (.cons (.set (.v 4) (.call 29 (.cons (.v 0) (.cons (.v 1) .nil)))) (.cons (.set (.v 5) (.bin .add (.bin .add (.lst (.cons (.k (.int 0)) .nil)) (.call 30 (.cons (.v 0) (.cons (.v 1) (.cons (.k (.int 0)) (.cons (.sl (.v 2) .none (.some (.k (.int 2)))) (.cons (.v 4) .nil))))))) (.call 30 (.cons (.v 0) (.cons (.v 1) (.cons (.k (.int 1)) (.cons (.sl (.v 2) (.some (.k (.int 2))) .none) (.cons (.v 4) .nil)))))))) (.cons _law_due_S0 _law_due_A0))))
theorem inn_sc {c y q lo hi t d t' d' : Int} (hd : 0 < d) (hd' : 0 < d') (e : t * d' = t' * d) : Inn c y q lo hi t d ↔ Inn c y q lo hi t' d' := inn_at hd' hd (by rw [← e, Int.mul_comm])
theorem inn_rnd {c y q lo hi t d R bot w : Int} (b0 : 0 < bot) (d0 : 0 < d) (hw : q * R = 2 * c * w * bot) : Inn c y q lo hi t d ↔ Inn c y q lo hi (t * bot - R * d) (d * bot) := by
  rw [inn_sc d0 (mulp d0 b0) (show t * (d * bot) = t * bot * d by grind)]
  unfold Inn
  have e : y * (d * bot) + q * (t * bot - R * d) = (y * (d * bot) + q * (t * bot)) + (-w) * (2 * c * (d * bot)) := by
    have : q * (t * bot - R * d) = q * (t * bot) - q * R * d := by grind
    rw [this, hw]; grind
  have f : foldT c (y * (d * bot) + q * (t * bot - R * d)) (d * bot) = foldT c (y * (d * bot) + q * (t * bot)) (d * bot) := by
    rw [e]
    unfold foldT
    rw [Int.add_mul_emod_self_right]
  rw [f]
theorem psd_sc {a x p c y q g lo hi t d t' d' : Int} (hd : 0 < d) (hd' : 0 < d') (e : t * d' = t' * d) (h : Psd a x p c y q g lo hi t d) : Psd a x p c y q g lo hi t' d' := ⟨eqt_sc hd e h.1, (inn_sc hd hd' e).mp h.2⟩
theorem sd_sc {a x p c y q g lo hi t d t' d' : Int} (hd : 0 < d) (hd' : 0 < d') (e : t * d' = t' * d) (h : Sd a x p c y q g lo hi t d) : Sd a x p c y q g lo hi t' d' := ⟨h.1, h.2.imp (psd_sc hd hd' e) (psd_sc hd hd' e)⟩
theorem box_sc {a c x y p q l r lo hi t d t' d' : Int} (hd : 0 < d) (hd' : 0 < d') (e : t * d' = t' * d) (h : BoxT a c x y p q l r lo hi t d) : BoxT a c x y p q l r lo hi t' d' := by
  rcases h with ⟨h, rfl⟩ | ((h | h) | (h | h))
  · refine .inl ⟨h, ?_⟩
    rw [Int.zero_mul] at e
    rcases Int.mul_eq_zero.mp e.symm with z | z
    · exact z
    · omega
  · exact .inr (.inl (.inl (sd_sc hd hd' e h)))
  · exact .inr (.inl (.inr (sd_sc hd hd' e h)))
  · exact .inr (.inr (.inl (sd_sc hd hd' e h)))
  · exact .inr (.inr (.inr (sd_sc hd hd' e h)))
theorem sd_rnd {a x p c y q g lo hi t d R bot v w : Int} (b0 : 0 < bot) (d0 : 0 < d) (hv : p * R = 2 * a * v * bot) (hw : q * R = 2 * c * w * bot) (h : Sd a x p c y q g lo hi t d) : Sd a x p c y q g lo hi (t * bot - R * d) (d * bot) :=
  ⟨h.1, h.2.imp (fun z => ⟨eqt_rnd hv z.1, (inn_rnd b0 d0 hw).mp z.2⟩) fun z => ⟨eqt_rnd hv z.1, (inn_rnd b0 d0 hw).mp z.2⟩⟩
theorem edg_rnd {a c x y p q l r lo hi t d R bot v w : Int} (b0 : 0 < bot) (d0 : 0 < d) (hv : p * R = 2 * a * v * bot) (hw : q * R = 2 * c * w * bot) (h : Edg a c x y p q l r lo hi t d) : Edg a c x y p q l r lo hi (t * bot - R * d) (d * bot) :=
  h.imp (fun z => z.imp (sd_rnd b0 d0 hv hw) (sd_rnd b0 d0 hv hw)) fun z => z.imp (sd_rnd b0 d0 hw hv) (sd_rnd b0 d0 hw hv)
theorem sd_in {a x p c y q g lo hi l r t d : Int} (a0 : 0 < a) (d0 : 0 < d) (g0 : 0 ≤ g) (g1 : g ≤ a) (h1 : l ≤ g) (h2 : g ≤ r) (h : Sd a x p c y q g lo hi t d) : Inn a x p l r t d ∧ Inn c y q lo hi t d := by
  have e : foldT a (x * d + p * t) d = g * d := (at_fold a0 d0 g0 g1).mpr (h.2.imp (fun z => z.1) fun z => z.1)
  have h3 : Inn c y q lo hi t d := h.2.elim (fun z => z.2) fun z => z.2
  refine ⟨?_, h3⟩
  unfold Inn
  rw [e]
  exact ⟨Int.mul_le_mul_of_nonneg_right h1 (by omega), Int.mul_le_mul_of_nonneg_right h2 (by omega)⟩
theorem now_in {a x p l r d : Int} (a0 : 0 < a) (d0 : 0 < d) (x0 : 0 ≤ x) (x1 : x ≤ a) : Inn a x p l r 0 d ↔ (l ≤ x ∧ x ≤ r) := by
  unfold Inn
  rw [Int.mul_zero, Int.add_zero, fold_in a0 d0 x0 x1]
  exact ⟨fun ⟨h1, h2⟩ => ⟨Int.le_of_mul_le_mul_right h1 d0, Int.le_of_mul_le_mul_right h2 d0⟩, fun ⟨h1, h2⟩ => ⟨Int.mul_le_mul_of_nonneg_right h1 (by omega), Int.mul_le_mul_of_nonneg_right h2 (by omega)⟩⟩
theorem now_box {a c x y p q l r lo hi d : Int} (o : OkL ⟨a, c, x, y, p, q⟩) (d0 : 0 < d) : InB a c x y p q l r lo hi 0 d ↔ Wst x y l r lo hi := by
  unfold InB Wst
  rw [now_in (show 0 < a from o.a0) d0 (show 0 ≤ x from o.x0) (show x ≤ a from o.x1), now_in (show 0 < c from o.c0) d0 (show 0 ≤ y from o.y0) (show y ≤ c from o.y1), and_assoc]
theorem box_in {a c x y p q l r lo hi t d : Int} (o : OkL ⟨a, c, x, y, p, q⟩) (b : OkB a c l r lo hi) (d0 : 0 < d) (h : BoxT a c x y p q l r lo hi t d) : InB a c x y p q l r lo hi t d := by
  have a0 : 0 < a := o.a0
  have c0 : 0 < c := o.c0
  have := b.l0; have := b.lr; have := b.ra; have := b.o0; have := b.oh; have := b.hc
  rcases h with ⟨h, rfl⟩ | ((h | h) | (h | h))
  · exact (now_box o d0).mpr h
  · exact sd_in a0 d0 b.l0 (by omega) (by omega) (by omega) h
  · exact sd_in a0 d0 (by omega) (by omega) (by omega) (by omega) h
  · exact (sd_in c0 d0 b.o0 (by omega) (by omega) (by omega) h).symm
  · exact (sd_in c0 d0 (by omega) (by omega) (by omega) (by omega) h).symm
theorem wst_ex (x y l r lo hi : Int) : ∃ v, LstP (fun t _ => Wst x y l r lo hi ∧ t = 0) v := by
  by_cases h : Wst x y l r lo hi
  · exact ⟨prD 0 1, .inr ⟨0, 1, rfl, rfl, by decide, by decide, ⟨h, rfl⟩, fun t d t0 d0 _ => by omega⟩⟩
  · exact ⟨.non, .inl ⟨rfl, fun t d _ _ z => h z.1⟩⟩
theorem box_ex {a c x y p q l r lo hi : Int} (a0 : 0 < a) (c0 : 0 < c) : ∃ v, LstP (BoxT a c x y p q l r lo hi) v := or_ex (wst_ex x y l r lo hi) (or_ex (or_ex (sd_ex a0) (sd_ex a0)) (or_ex (sd_ex c0) (sd_ex c0)))
theorem le_rnd' {P : Int → Int → Prop} {R bot t d : Int} (R0 : 0 < R) (b0 : 0 < bot) (d0 : 0 < d) (sh : P (t * bot - R * d) (d * bot)) (mn : ∀ t' d', 0 ≤ t' → 0 < d' → P t' d' → t * d' ≤ t' * d) : t * bot ≤ R * d := by
  rcases Int.lt_or_le (R * d) (t * bot) with z | z
  · have := mn (t * bot - R * d) (d * bot) (by omega) (mulp d0 b0) sh
    have e : t * (d * bot) = t * bot * d := by grind
    rw [e] at this
    have := Int.le_of_mul_le_mul_right this d0
    have := mulp R0 d0
    omega
  · exact z
theorem sn_eqt {st w s m i v : Int} (hs : 0 < s) (hw : w ≠ 0) (hm : 0 < m) (v0 : 0 ≤ v) (h : SnM st w s m i v) : Eqt s w (i - st) v (av w * m) := by
  obtain ⟨k, k0, h⟩ := h
  have pw := av_pos hw
  refine (eqt_abs hw).mpr ((eqt_row hs pw v0 (mulp pw hm)).mpr ⟨k, k0, ?_⟩)
  rw [h]; grind
theorem intsD_map : ∀ {is : List Int}, intsD (is.map .int) = some is
  | [] => rfl
  | i :: is => by
    show (intsD (is.map .int)).map (i :: ·) = _
    rw [intsD_map]; rfl
def spDue : Sp := fun ds S Q _ => ∃ a c x y p q l r lo hi, ds = [prD a c, shD x y p q, boxD l r lo hi] ∧ OkL ⟨a, c, x, y, p, q⟩ ∧ BL ⟨a, c, x, y, p, q⟩ ∧ OkB a c l r lo hi ∧ a ≤ 8 ∧ c ≤ 20 ∧ p.natAbs ≤ 6 ∧ q.natAbs ≤ 6 ∧ ∀ v S', Ext S S' → LstP (BoxT a c x y p q l r lo hi) v → Q v S'
theorem txt_due {G : Gm} {ds : List D} {S0 : Sto} {Q : VK} {X : XK} {b : Ss} (hb : b = _law_due_T) (h1 : G.fn 26 = spLow) (h2 : G.fn 28 = spSpot) (h3 : G.fn 29 = spRn) (h4 : G.fn 30 = spMk) (h5 : G.fn 32 = spWi) (h : spDue ds S0 Q X) : ds.length = 3 ∧ wpSs G b (start 7 ds) S0 (kR Q X) := by
  obtain ⟨a, c, x, y, p, q, l, r, lo, hi, rfl, o, bl, g, a8, c20, p6, q6, hq⟩ := h
  subst hb
  refine ⟨rfl, ?_⟩
  have a0 : 0 < a := o.a0
  have c0 : 0 < c := o.c0
  have x0 : 0 ≤ x := o.x0
  have y0 : 0 ≤ y := o.y0
  have := g.l0; have := g.lr; have := g.ra; have := g.o0; have := g.oh; have := g.hc
  have sml : ∀ {i : Int}, i.natAbs ≤ 20 → Bd 60 i := fun h => lt_two 5 (by omega) (by decide)
  have bp := sml (i := p) (by omega)
  have bq := sml (i := q) (by omega)
  have ba := sml (i := a) (by omega)
  have bc := sml (i := c) (by omega)
  have bbx : Bd 1500 l ∧ Bd 1500 r ∧ Bd 1500 lo ∧ Bd 1500 hi := ⟨(sml (by omega)).up (by decide), (sml (by omega)).up (by decide), (sml (by omega)).up (by decide), (sml (by omega)).up (by decide)⟩
  have pA := mx_pos p
  have pB := mx_pos q
  have b0 : 0 < mx p * mx q := mulp pA pB
  have mA : mx p ≤ 6 := mx_le (by omega) (by decide)
  have mB : mx q ≤ 6 := mx_le (by omega) (by decide)
  have bA : Bd 60 (mx p) := mx_bd bp (by decide)
  have bB : Bd 60 (mx q) := mx_bd bq (by decide)
  have bb : Bd 120 (mx p * mx q) := bA.mul bB
  have sA := bA.sm (show 60 ≤ 4000 by decide)
  have sB := bB.sm (show 60 ≤ 4000 by decide)
  obtain ⟨v, hv⟩ := box_ex (x := x) (y := y) (p := p) (q := q) (l := l) (r := r) (lo := lo) (hi := hi) a0 c0
  generalize hA : _law_due_A0 = A0
  generalize hB : _law_due_B0 = bo
  have cut1 : cut [D.int l, .int r, .int lo, .int hi] none (some 2) = [.int l, .int r] := rfl
  have cut2 : cut [D.int l, .int r, .int lo, .int hi] (some 2) none = [.int lo, .int hi] := rfl
  have eA : ∀ {e m n : Int}, e ≤ m * n → m ≤ 20 → 0 ≤ m → n ≤ 6 → 0 ≤ n → e ≤ 120 := fun {e m n} h h1 h2 h3 h4 => by
    have := Int.mul_le_mul h1 h3 h4 (by decide)
    omega
  have rb : ∀ {s m e : Int}, 0 < s → s ≤ 20 → 0 < m → m ≤ 6 → 0 < e → e ≤ 120 → Bd 200 (2 * s * m * e) := fun {s m e} a b c d f g => by
    have b1 : Bd 60 s := sml (by omega)
    have b2 : Bd 60 m := sml (by omega)
    have b3 : Bd 60 e := lt_two 8 (by omega) (by decide)
    exact (((bd2.mul b1).mul b2).mul b3).up (by decide)
  simp only [_law_due_T, _law_due_S0, hA, hB, wpSs, wpS, wpE, wpEs, wpC, wpAnd, wpOr, wpO, wpIt, opt_some, onI_int, onB_bl, onR_ref, arg1_one, look, joinO, start, List.map_cons, List.map_nil, List.length_cons, List.length_nil, List.replicate, List.cons_append, List.nil_append, List.append_nil, List.getElem?_cons_succ, List.getElem?_cons_zero, kcD, Nat.reduceAdd, Nat.reduceSub, br_t, br_f, br_n, asg, setAll, List.set_cons_succ, List.set_cons_zero, tgs, wipe, eq_ii, ne_ii, lt_ii, le_ii, gt_ii, ge_ii, is_n, isn_n, is_b, isn_b, add_ii, sub_ii, mul_ii, mod_ii, fdiv_ii, pow_ii, isNon, biD, intD_i, intD_b, esLen, beq_self_eq_true, ixD_tup, lsOf_new, seqD_tup, seqD_fl, slD_tup, bools, Option.map_some, true_and, ixD_fl, lenD_tup, lenD_fl, ix30, ix31, ix32, at20, at21, at30, at31, at32, List.filterMap_cons, List.filterMap_nil, abs_ite, at42, at43, max_mx, boxD, slD_tup, cut1, cut2]
  refine ⟨sA, sB, call h3 ⟨a, c, x, y, p, q, rfl, a0, c0, ba, bc, bp, bq, o.ne, fun R S1 k1 hR => ?_⟩⟩
  try simp only [wpSs, wpS, wpE, wpEs, wpC, wpAnd, wpOr, wpO, wpIt, opt_some, onI_int, onB_bl, onR_ref, arg1_one, look, joinO, start, List.map_cons, List.map_nil, List.length_cons, List.length_nil, List.replicate, List.cons_append, List.nil_append, List.append_nil, List.getElem?_cons_succ, List.getElem?_cons_zero, kcD, Nat.reduceAdd, Nat.reduceSub, br_t, br_f, br_n, asg, setAll, List.set_cons_succ, List.set_cons_zero, tgs, wipe, eq_ii, ne_ii, lt_ii, le_ii, gt_ii, ge_ii, is_n, isn_n, is_b, isn_b, add_ii, sub_ii, mul_ii, mod_ii, fdiv_ii, pow_ii, isNon, biD, intD_i, intD_b, esLen, beq_self_eq_true, ixD_tup, lsOf_new, seqD_tup, seqD_fl, slD_tup, bools, Option.map_some, true_and, ixD_fl, lenD_tup, lenD_fl, ix30, ix31, ix32, at20, at21, at30, at31, at32, List.filterMap_cons, List.filterMap_nil]
  have bR : Bd 200 R := by
    rcases o.ne with hp | hq0
    · obtain ⟨e, he, e0, e1⟩ := hR.hx hp
      rw [he]; exact rb a0 (by omega) pB mB e0 (eA e1 (by omega) (by omega) mA (by omega))
    · obtain ⟨e, he, e0, e1⟩ := hR.hy hq0
      rw [he]; exact rb c0 (by omega) pA mA e0 (eA e1 (by omega) (by omega) mB (by omega))
  obtain ⟨ex, hex⟩ : ∃ e, p ≠ 0 → R = 2 * a * mx q * e ∧ 0 < e ∧ e ≤ 120 := by
    by_cases hp : p = 0
    · exact ⟨0, fun z => absurd hp z⟩
    · obtain ⟨e, he, e0, e1⟩ := hR.hx hp
      exact ⟨e, fun _ => ⟨he, e0, eA e1 (by omega) (by omega) mA (by omega)⟩⟩
  obtain ⟨ey, hey⟩ : ∃ e, q ≠ 0 → R = 2 * c * mx p * e ∧ 0 < e ∧ e ≤ 48 := by
    by_cases hp : q = 0
    · exact ⟨0, fun z => absurd hp z⟩
    · obtain ⟨e, he, e0, e1⟩ := hR.hy hp
      refine ⟨e, fun _ => ⟨he, e0, ?_⟩⟩
      have := Int.mul_le_mul a8 mB (by omega) (by decide)
      omega
  refine mkL_ok (by simp) fun z hz => ?_
  have ez : (upd S1 z (.lst [.int 0])) z = some (.lst [.int 0]) := upd_at
  have kz : Ext S1 (upd S1 z (.lst [.int 0])) := Ext.new hz
  generalize upd S1 z (.lst [.int 0]) = S2 at *
  refine call h4 ⟨_, _, 0, x, p, a, q, [l, r], R, ex, rfl, rfl, rfl, rfl, rfl, a0, ba.up (by decide), bq.up (by decide), fun w => ⟨(hex w).1, (hex w).2.1, by have := (hex w).2.2; omega⟩, by simp, fun f0 is0 S3 k3 e3 mi0 n0 c0' l0 s0 => ?_⟩
  refine add_ref (k3 _ _ ez) e3 (mkL_ok (by
    simp
    by_cases w : p = 0
    · rw [n0 w]; simp
    · have q1 := l0 w; have q2 := (hex w).2.2; simp at q1; omega) fun f1 hf1 => ?_)
  have ef1 : (upd S3 f1 (.lst ([.int 0] ++ is0.map .int))) f1 = some (.lst ([.int 0] ++ is0.map .int)) := upd_at
  have k4 : Ext S3 (upd S3 f1 (.lst ([.int 0] ++ is0.map .int))) := Ext.new hf1
  generalize upd S3 f1 (.lst ([.int 0] ++ is0.map .int)) = S4 at *
  try simp only [wpSs, wpS, wpE, wpEs, wpC, wpAnd, wpOr, wpO, wpIt, opt_some, onI_int, onB_bl, onR_ref, arg1_one, look, joinO, start, List.map_cons, List.map_nil, List.length_cons, List.length_nil, List.replicate, List.cons_append, List.nil_append, List.append_nil, List.getElem?_cons_succ, List.getElem?_cons_zero, kcD, Nat.reduceAdd, Nat.reduceSub, br_t, br_f, br_n, asg, setAll, List.set_cons_succ, List.set_cons_zero, tgs, wipe, eq_ii, ne_ii, lt_ii, le_ii, gt_ii, ge_ii, is_n, isn_n, is_b, isn_b, add_ii, sub_ii, mul_ii, mod_ii, fdiv_ii, pow_ii, isNon, biD, intD_i, intD_b, esLen, beq_self_eq_true, ixD_tup, lsOf_new, seqD_tup, seqD_fl, slD_tup, bools, Option.map_some, true_and, ixD_fl, lenD_tup, lenD_fl, ix30, ix31, ix32, at20, at21, at30, at31, at32, List.filterMap_cons, List.filterMap_nil]
  refine call h4 ⟨_, _, 1, y, q, c, p, [lo, hi], R, ey, rfl, rfl, rfl, rfl, rfl, c0, bc.up (by decide), bp.up (by decide), fun w => ⟨(hey w).1, (hey w).2.1, by have := (hey w).2.2; omega⟩, by simp, fun f2 is1 S5 k5 e5 mi1 n1 c1' l1 s1 => ?_⟩
  have len : 1 + is0.length + is1.length ≤ 700 := by
    have h0 : is0.length ≤ 484 := by
      by_cases w : p = 0
      · rw [n0 w]; simp
      · have q1 := l0 w; have q2 := (hex w).2.2; simp at q1; omega
    have h1 : is1.length ≤ 196 := by
      by_cases w : q = 0
      · rw [n1 w]; simp
      · have q1 := l1 w; have q2 := (hey w).2.2; simp at q1; omega
    omega
  refine add_ref (k5 _ _ ef1) e5 (mkL_ok (by simp; omega) fun f3 hf3 => ?_)
  have em : ([.int 0] ++ is0.map D.int) ++ is1.map D.int = ((0 :: is0) ++ is1).map D.int := by simp
  rw [em]
  have ef3 : (upd S5 f3 (.lst (((0 :: is0) ++ is1).map .int))) f3 = some (.lst (((0 :: is0) ++ is1).map .int)) := upd_at
  have x6 : Ext S0 (upd S5 f3 (.lst (((0 :: is0) ++ is1).map .int))) := ((((k1.trans kz).trans k3).trans k4).trans k5).trans (Ext.new hf3)
  generalize upd S5 f3 (.lst (((0 :: is0) ++ is1).map .int)) = S6 at *
  have mi : MI R ((0 :: is0) ++ is1) := fun w hw => by
    rcases List.mem_append.mp hw with hw | hw
    · rcases List.mem_cons.mp hw with rfl | hw
      · exact ⟨by decide, by have := hR.r0; omega⟩
      · exact mi0 w hw
    · exact mi1 w hw
  obtain ⟨⟨w1, hw1⟩, w2, hw2⟩ := mul_rnd hR
  have cov : ∀ t d, v = prD t d → 0 ≤ t → 0 < d → BoxT a c x y p q l r lo hi t d → ∃ top ∈ (0 :: is0) ++ is1, top * d = t * (mx p * mx q) := by
    intro t d ev t0 d0 h
    have hmin : ∀ t' d', 0 ≤ t' → 0 < d' → BoxT a c x y p q l r lo hi t' d' → t * d' ≤ t' * d := by
      rcases hv with ⟨z, _⟩ | ⟨t1, d1, z, _, _, _, _, z2⟩
      · rw [ev] at z; cases z
      · rw [ev] at z; obtain ⟨rfl, rfl⟩ := pr_inj z; exact z2
    rcases h with ⟨_, rfl⟩ | h
    · exact ⟨0, by simp, by rw [Int.zero_mul, Int.zero_mul]⟩
    have le : t * (mx p * mx q) ≤ R * d := le_rnd' hR.r0 b0 d0 (.inr (edg_rnd b0 d0 hw1 hw2 h)) hmin
    have ax : ∀ gg, gg = l ∨ gg = r → Sd a x p c y q gg lo hi t d → ∃ top ∈ (0 :: is0) ++ is1, top * d = t * (mx p * mx q) := fun gg hg ⟨hp, z⟩ => by
      obtain ⟨c1, c2⟩ := c0' hp gg (by rcases hg with rfl | rfl <;> simp)
      have eb : mx p * mx q = av p * mx q := by rw [mx_av hp]
      rw [eb] at le ⊢
      obtain ⟨top, hm, e⟩ := z.elim (fun z => top_cov a0 hp pB c1 t0 d0 z.1 le) fun z => top_cov a0 hp pB c2 t0 d0 z.1 le
      exact ⟨top, by simp [hm], e⟩
    have ay : ∀ gg, gg = lo ∨ gg = hi → Sd c y q a x p gg l r t d → ∃ top ∈ (0 :: is0) ++ is1, top * d = t * (mx p * mx q) := fun gg hg ⟨hp, z⟩ => by
      obtain ⟨c1, c2⟩ := c1' hp gg (by rcases hg with rfl | rfl <;> simp)
      have eb : mx p * mx q = av q * mx p := by rw [mx_av hp, Int.mul_comm]
      rw [eb] at le ⊢
      obtain ⟨top, hm, e⟩ := z.elim (fun z => top_cov c0 hp pA c1 t0 d0 z.1 le) fun z => top_cov c0 hp pA c2 t0 d0 z.1 le
      exact ⟨top, by simp [hm], e⟩
    exact h.elim (fun z => z.elim (ax l (.inl rfl)) (ax r (.inr rfl))) fun z => z.elim (ay lo (.inl rfl)) (ay hi (.inr rfl))
  have snd : ∀ top ∈ (0 :: is0) ++ is1, (InB a c x y p q l r lo hi top (mx p * mx q) ↔ BoxT a c x y p q l r lo hi top (mx p * mx q)) := by
    intro top ht
    refine ⟨fun h => ?_, box_in o g b0⟩
    have tm := (mi top ht).1
    rcases List.mem_append.mp ht with ht | ht
    · rcases List.mem_cons.mp ht with rfl | ht
      · exact .inl ⟨(now_box o b0).mp h, rfl⟩
      · have hp : p ≠ 0 := fun w => by rw [n0 w] at ht; cases ht
        obtain ⟨gg, hg, hs⟩ := s0 top ht
        have eb : mx p * mx q = av p * mx q := by rw [mx_av hp]
        rw [eb] at h ⊢
        have sd : Sd a x p c y q gg lo hi top (av p * mx q) := ⟨hp, hs.imp (fun z => ⟨sn_eqt a0 hp pB tm z, h.2⟩) fun z => ⟨sn_eqt a0 hp pB tm z, h.2⟩⟩
        simp only [List.mem_cons, List.not_mem_nil, or_false] at hg
        rcases hg with rfl | rfl
        · exact .inr (.inl (.inl sd))
        · exact .inr (.inl (.inr sd))
    · have hp : q ≠ 0 := fun w => by rw [n1 w] at ht; cases ht
      obtain ⟨gg, hg, hs⟩ := s1 top ht
      have eb : mx p * mx q = av q * mx p := by rw [mx_av hp, Int.mul_comm]
      rw [eb] at h ⊢
      have sd : Sd c y q a x p gg l r top (av q * mx p) := ⟨hp, hs.imp (fun z => ⟨sn_eqt c0 hp pA tm z, h.1⟩) fun z => ⟨sn_eqt c0 hp pA tm z, h.1⟩⟩
      simp only [List.mem_cons, List.not_mem_nil, or_false] at hg
      rcases hg with rfl | rfl
      · exact .inr (.inr (.inl sd))
      · exact .inr (.inr (.inr sd))
  generalize (0 :: is0) ++ is1 = is at *
  simp only [biD, arg1, lsOf_ref ef3, opt_some, intsD_map]
  intro js perm pw f hf
  have ef : (upd S6 f (.lst (js.map .int))) f = some (.lst (js.map .int)) := upd_at
  have x7 : Ext S0 (upd S6 f (.lst (js.map .int))) := x6.trans (Ext.new hf)
  generalize upd S6 f (.lst (js.map .int)) = S7 at *
  obtain ⟨q1, q2⟩ := srt_first b0 perm pw (fun hd hd' e h => box_sc hd hd' e h) hv (fun top h => (mi top h).1) cov
  rw [seqD_ref ef]
  refine forW_ix (L := js.map .int) (I := fun j ρ S => Ext S7 S ∧ ∃ o6, ρ = [some (prD a c), some (shD x y p q), some (boxD l r lo hi), some (.int (mx p * mx q)), some (.int R), some (.ref f3), o6] ∧ ∀ i top', i < j → js[i]? = some top' → ¬ BoxT a c x y p q l r lo hi top' (mx p * mx q)) (fun j d ρ S nx' hj hI hn => ?_) (fun ρ S hI => ?_) _ 0 _ _ rfl (by simp) ⟨Ext.refl, _, rfl, fun i _ hi => by omega⟩
  · obtain ⟨xs, o6, rfl, hno⟩ := hI
    refine ⟨xs _ _ ef, ?_⟩
    rw [List.getElem?_map] at hj
    obtain ⟨top, htop, rfl⟩ := Option.map_eq_some_iff.mp hj
    have tmm := perm.mem_iff.mp (List.mem_of_getElem? htop)
    have tm := mi top tmm
    have bt : Bd 200 top := bR.le tm.1 tm.2
    have sh : Sh a c x y p q top (mx p * mx q) := ⟨by omega, by omega, by omega, ba.up (by decide), bc.up (by decide), (show Bd 200 x from bl.bx).up (by decide), (show Bd 200 y from bl.by_).up (by decide), bp.up (by decide), bq.up (by decide), bt.up (by decide), bb.up (by decide)⟩
    subst hB
    simp only [_law_due_B0, wpSs, wpS, wpE, wpEs, wpC, wpAnd, wpOr, wpO, wpIt, opt_some, onI_int, onB_bl, onR_ref, arg1_one, look, joinO, start, List.map_cons, List.map_nil, List.length_cons, List.length_nil, List.replicate, List.cons_append, List.nil_append, List.append_nil, List.getElem?_cons_succ, List.getElem?_cons_zero, kcD, Nat.reduceAdd, Nat.reduceSub, br_t, br_f, br_n, asg, setAll, List.set_cons_succ, List.set_cons_zero, tgs, wipe, eq_ii, ne_ii, lt_ii, le_ii, gt_ii, ge_ii, is_n, isn_n, is_b, isn_b, add_ii, sub_ii, mul_ii, mod_ii, fdiv_ii, pow_ii, isNon, biD, intD_i, intD_b, esLen, beq_self_eq_true, ixD_tup, lsOf_new, seqD_tup, seqD_fl, slD_tup, bools, Option.map_some, true_and, ixD_fl, lenD_tup, lenD_fl, ix30, ix31, ix32, at20, at21, at30, at31, at32, List.filterMap_cons, List.filterMap_nil]
    refine call h2 ⟨a, c, x, y, p, q, top, _, rfl, sh, ba.up (by decide), bc.up (by decide), bb.up (by decide), ?_⟩
    try simp only [wpSs, wpS, wpE, wpEs, wpC, wpAnd, wpOr, wpO, wpIt, opt_some, onI_int, onB_bl, onR_ref, arg1_one, look, joinO, start, List.map_cons, List.map_nil, List.length_cons, List.length_nil, List.replicate, List.cons_append, List.nil_append, List.append_nil, List.getElem?_cons_succ, List.getElem?_cons_zero, kcD, Nat.reduceAdd, Nat.reduceSub, br_t, br_f, br_n, asg, setAll, List.set_cons_succ, List.set_cons_zero, tgs, wipe, eq_ii, ne_ii, lt_ii, le_ii, gt_ii, ge_ii, is_n, isn_n, is_b, isn_b, add_ii, sub_ii, mul_ii, mod_ii, fdiv_ii, pow_ii, isNon, biD, intD_i, intD_b, esLen, beq_self_eq_true, ixD_tup, lsOf_new, seqD_tup, seqD_fl, slD_tup, bools, Option.map_some, true_and, ixD_fl, lenD_tup, lenD_fl, ix30, ix31, ix32, at20, at21, at30, at31, at32, List.filterMap_cons, List.filterMap_nil]
    refine wi_call h5 b0 (bb.up (by decide)) bbx fun S8 k8 => ?_
    simp only [wpSs, wpS, wpE, wpEs, wpC, wpAnd, wpOr, wpO, wpIt, opt_some, onI_int, onB_bl, onR_ref, arg1_one, look, joinO, start, List.map_cons, List.map_nil, List.length_cons, List.length_nil, List.replicate, List.cons_append, List.nil_append, List.append_nil, List.getElem?_cons_succ, List.getElem?_cons_zero, kcD, Nat.reduceAdd, Nat.reduceSub, br_t, br_f, br_n, asg, setAll, List.set_cons_succ, List.set_cons_zero, tgs, wipe, eq_ii, ne_ii, lt_ii, le_ii, gt_ii, ge_ii, is_n, isn_n, is_b, isn_b, add_ii, sub_ii, mul_ii, mod_ii, fdiv_ii, pow_ii, isNon, biD, intD_i, intD_b, esLen, beq_self_eq_true, ixD_tup, lsOf_new, seqD_tup, seqD_fl, slD_tup, bools, Option.map_some, true_and, ixD_fl, lenD_tup, lenD_fl, ix30, ix31, ix32, at20, at21, at30, at31, at32, List.filterMap_cons, List.filterMap_nil]
    refine br_d (fun z => ?_) fun z => ?_
    · have z := (snd top tmm).mp z
      try simp only [wpSs, wpS, wpE, wpEs, wpC, wpAnd, wpOr, wpO, wpIt, opt_some, onI_int, onB_bl, onR_ref, arg1_one, look, joinO, start, List.map_cons, List.map_nil, List.length_cons, List.length_nil, List.replicate, List.cons_append, List.nil_append, List.append_nil, List.getElem?_cons_succ, List.getElem?_cons_zero, kcD, Nat.reduceAdd, Nat.reduceSub, br_t, br_f, br_n, asg, setAll, List.set_cons_succ, List.set_cons_zero, tgs, wipe, eq_ii, ne_ii, lt_ii, le_ii, gt_ii, ge_ii, is_n, isn_n, is_b, isn_b, add_ii, sub_ii, mul_ii, mod_ii, fdiv_ii, pow_ii, isNon, biD, intD_i, intD_b, esLen, beq_self_eq_true, ixD_tup, lsOf_new, seqD_tup, seqD_fl, slD_tup, bools, Option.map_some, true_and, ixD_fl, lenD_tup, lenD_fl, ix30, ix31, ix32, at20, at21, at30, at31, at32, List.filterMap_cons, List.filterMap_nil]
      refine call h1 ⟨_, _, rfl, b0, bb.up (by decide), ?_⟩
      rw [q1 j top htop z hno]
      exact hq v _ ((x7.trans xs).trans k8) hv
    · refine hn _ _ ⟨xs.trans k8, _, rfl, fun i top' hi he => ?_⟩
      rcases Nat.lt_succ_iff_lt_or_eq.mp hi with w | rfl
      · exact hno i top' w he
      · rw [htop] at he; injection he with he; rw [← he]; exact fun w => z ((snd top tmm).mpr w)
  · obtain ⟨xs, o6, rfl, hno⟩ := hI
    refine ⟨xs _ _ ef, ?_⟩
    subst hA
    simp only [_law_due_A0, wpSs, wpS, wpE, wpEs, wpC, wpAnd, wpOr, wpO, wpIt, opt_some, onI_int, onB_bl, onR_ref, arg1_one, look, joinO, start, List.map_cons, List.map_nil, List.length_cons, List.length_nil, List.replicate, List.cons_append, List.nil_append, List.append_nil, List.getElem?_cons_succ, List.getElem?_cons_zero, kcD, Nat.reduceAdd, Nat.reduceSub, br_t, br_f, br_n, asg, setAll, List.set_cons_succ, List.set_cons_zero, tgs, wipe, eq_ii, ne_ii, lt_ii, le_ii, gt_ii, ge_ii, is_n, isn_n, is_b, isn_b, add_ii, sub_ii, mul_ii, mod_ii, fdiv_ii, pow_ii, isNon, biD, intD_i, intD_b, esLen, beq_self_eq_true, ixD_tup, lsOf_new, seqD_tup, seqD_fl, slD_tup, bools, Option.map_some, true_and, ixD_fl, lenD_tup, lenD_fl, ix30, ix31, ix32, at20, at21, at30, at31, at32, List.filterMap_cons, List.filterMap_nil]
    have e := q2 fun top ht => by
      obtain ⟨i, hi⟩ := List.mem_iff_getElem?.mp ht
      exact hno i top (by rw [List.length_map]; exact (List.getElem?_eq_some_iff.mp hi).1) hi
    subst e
    exact hq _ _ (x7.trans xs) hv
end M
namespace M
def _law_edges_B0 : Ss := (.cons (.set (.v 4) (.ix (.lst (.cons (.k (.int 0)) (.cons (.call 22 (.cons (.v 0) (.cons (.bin .add (.v 3) (.k (.int 1))) .nil))) (.cons (.call 22 (.cons (.v 0) (.cons (.bin .add (.v 3) (.k (.int 1))) .nil))) .nil)))) (.call 22 (.cons (.v 0) (.cons (.k (.int 3)) .nil))))) (.cons (.set (.v 5) (.ix (.lst (.cons (.k (.int 0)) (.cons (.k (.int 1)) (.cons (.v 3) (.cons (.call 22 (.cons (.v 0) (.cons (.bin .add (.v 3) (.k (.int 1))) .nil))) .nil))))) (.call 22 (.cons (.v 0) (.cons (.k (.int 4)) .nil))))) (.cons (.set (.v 2) (.bin .add (.v 2) (.lst (.cons (.v 4) (.cons (.bi .min (.cons (.v 3) (.cons (.bin .add (.v 4) (.v 5)) .nil))) .nil))))) .nil)))
def _law_edges_S0 : St := (.for_ (.v 3) (.seq (.v 1)) _law_edges_B0)
def _law_edges_A0 : Ss := (.cons (.ret (.bi .tuple (.cons (.v 2) .nil))) .nil)
def _law_edges_T : Ss := (.cons (.set (.v 2) (.lst .nil)) (.cons _law_edges_S0 _law_edges_A0))
theorem at1x {a b c : D} {d : Int} (h0 : 0 ≤ d) (h1 : d < 3) : ∃ x, atI [a, b, c] d = some x ∧ (x = a ∨ x = b ∨ x = c) := by
  have : d = 0 ∨ d = 1 ∨ d = 2 := by omega
  rcases this with rfl | rfl | rfl
  · exact ⟨a, rfl, .inl rfl⟩
  · exact ⟨b, rfl, .inr (.inl rfl)⟩
  · exact ⟨c, rfl, .inr (.inr rfl)⟩
theorem at1y {a b c e : D} {d : Int} (h0 : 0 ≤ d) (h1 : d < 4) : ∃ x, atI [a, b, c, e] d = some x ∧ (x = a ∨ x = b ∨ x = c ∨ x = e) := by
  have : d = 0 ∨ d = 1 ∨ d = 2 ∨ d = 3 := by omega
  rcases this with rfl | rfl | rfl | rfl
  · exact ⟨a, rfl, .inl rfl⟩
  · exact ⟨b, rfl, .inr (.inl rfl)⟩
  · exact ⟨c, rfl, .inr (.inr (.inl rfl))⟩
  · exact ⟨e, rfl, .inr (.inr (.inr rfl))⟩
theorem ed_turn {G : Gm} (h1 : G.fn 22 = spDraw) {w n : Nat} {s : Int} (s0 : 1 ≤ s) (s1 : s < 2 ^ 100) {S : Sto} {K : Kt} {r : Nat} {xs : List D} {o1 o4 o5 : Option D} (hw : Well n S w) (hn : n + 10 < 2 ^ 58) (hr : r ≠ w) (er : S r = some (.lst xs)) (hl : xs.length < 10)
    (kk : ∀ o4 o5 r' u v S', Well (n + 5) S' w → Kp w S S' → r' ≠ w → S' r' = some (.lst (xs ++ [.int u, .int v])) → 0 ≤ u → u ≤ v → v ≤ s → K.nx [some (.ref w), o1, some (.ref r'), some (.int s), o4, o5] S') :
    wpSs G _law_edges_B0 [some (.ref w), o1, some (.ref r), some (.int s), o4, o5] S K := by
  have s3 : s + 1 < 2 ^ 3000 := by
    have : (2 : Int) ^ 100 + 1 < 2 ^ 3000 := by decide
    generalize (2 : Int) ^ 100 = A at *
    generalize (2 : Int) ^ 3000 = C at *
    omega
  simp only [_law_edges_B0, wpSs, wpS, wpE, wpEs, wpC, wpAnd, wpOr, wpO, wpIt, opt_some, onI_int, onB_bl, onR_ref, arg1_one, look, joinO, start, List.map_cons, List.map_nil, List.length_cons, List.length_nil, List.replicate, List.cons_append, List.nil_append, List.append_nil, List.getElem?_cons_succ, List.getElem?_cons_zero, kcD, Nat.reduceAdd, Nat.reduceSub, br_t, br_f, br_n, asg, setAll, List.set_cons_succ, List.set_cons_zero, tgs, wipe, eq_ii, ne_ii, lt_ii, le_ii, gt_ii, ge_ii, is_n, isn_n, is_b, isn_b, add_ii, sub_ii, mul_ii, mod_ii, fdiv_ii, pow_ii, isNon, biD, intD_i, intD_b, esLen, beq_self_eq_true, ixD_tup, lsOf_new, seqD_tup, seqD_fl, slD_tup, bools, Option.map_some, true_and, ixD_fl, lenD_tup, lenD_fl, ix30, ix31, ix32, at20, at21, at30, at31, at32, List.filterMap_cons, List.filterMap_nil]
  refine call h1 ⟨w, s + 1, n, rfl, by omega, s3, hw, by omega, fun d1 S1 d10 d11 w1 k1 => ?_⟩
  try simp only [wpSs, wpS, wpE, wpEs, wpC, wpAnd, wpOr, wpO, wpIt, opt_some, onI_int, onB_bl, onR_ref, arg1_one, look, joinO, start, List.map_cons, List.map_nil, List.length_cons, List.length_nil, List.replicate, List.cons_append, List.nil_append, List.append_nil, List.getElem?_cons_succ, List.getElem?_cons_zero, kcD, Nat.reduceAdd, Nat.reduceSub, br_t, br_f, br_n, asg, setAll, List.set_cons_succ, List.set_cons_zero, tgs, wipe, eq_ii, ne_ii, lt_ii, le_ii, gt_ii, ge_ii, is_n, isn_n, is_b, isn_b, add_ii, sub_ii, mul_ii, mod_ii, fdiv_ii, pow_ii, isNon, biD, intD_i, intD_b, esLen, beq_self_eq_true, ixD_tup, lsOf_new, seqD_tup, seqD_fl, slD_tup, bools, Option.map_some, true_and, ixD_fl, lenD_tup, lenD_fl, ix30, ix31, ix32, at20, at21, at30, at31, at32, List.filterMap_cons, List.filterMap_nil]
  refine call h1 ⟨w, s + 1, _, rfl, by omega, s3, w1, by omega, fun d2 S2 d20 d21 w2 k2 => ?_⟩
  try simp only [wpSs, wpS, wpE, wpEs, wpC, wpAnd, wpOr, wpO, wpIt, opt_some, onI_int, onB_bl, onR_ref, arg1_one, look, joinO, start, List.map_cons, List.map_nil, List.length_cons, List.length_nil, List.replicate, List.cons_append, List.nil_append, List.append_nil, List.getElem?_cons_succ, List.getElem?_cons_zero, kcD, Nat.reduceAdd, Nat.reduceSub, br_t, br_f, br_n, asg, setAll, List.set_cons_succ, List.set_cons_zero, tgs, wipe, eq_ii, ne_ii, lt_ii, le_ii, gt_ii, ge_ii, is_n, isn_n, is_b, isn_b, add_ii, sub_ii, mul_ii, mod_ii, fdiv_ii, pow_ii, isNon, biD, intD_i, intD_b, esLen, beq_self_eq_true, ixD_tup, lsOf_new, seqD_tup, seqD_fl, slD_tup, bools, Option.map_some, true_and, ixD_fl, lenD_tup, lenD_fl, ix30, ix31, ix32, at20, at21, at30, at31, at32, List.filterMap_cons, List.filterMap_nil]
  refine mkL_ok (by simp) fun f hf => ?_
  have ef : (upd S2 f (.lst [.int 0, .int d1, .int d2])) f = some (.lst [.int 0, .int d1, .int d2]) := upd_at
  have w3 := w2.ext (Ext.new (o := .lst [.int 0, .int d1, .int d2]) hf)
  have k3 : Kp w S2 (upd S2 f (.lst [.int 0, .int d1, .int d2])) := (Ext.new hf).kp w
  have hfw : f ≠ w := fun z => by obtain ⟨o, e⟩ := w2.some; rw [z, e] at hf; cases hf
  generalize upd S2 f (.lst [.int 0, .int d1, .int d2]) = S3 at *
  refine call h1 ⟨w, 3, _, rfl, by decide, by decide, w3, by omega, fun d3 S4 d30 d31 w4 k4 => ?_⟩
  obtain ⟨x, ex, hx⟩ := at1x (a := .int 0) (b := .int d1) (c := .int d2) d30 d31
  have ef := k4 _ _ hfw ef
  simp only [ixD_ref ef, ex, opt_some]
  obtain ⟨lw, rfl, lw0, lw1⟩ : ∃ lw : Int, x = .int lw ∧ 0 ≤ lw ∧ lw ≤ s := by
    rcases hx with rfl | rfl | rfl
    · exact ⟨0, rfl, by omega, by omega⟩
    · exact ⟨d1, rfl, by omega, by omega⟩
    · exact ⟨d2, rfl, by omega, by omega⟩
  try simp only [wpSs, wpS, wpE, wpEs, wpC, wpAnd, wpOr, wpO, wpIt, opt_some, onI_int, onB_bl, onR_ref, arg1_one, look, joinO, start, List.map_cons, List.map_nil, List.length_cons, List.length_nil, List.replicate, List.cons_append, List.nil_append, List.append_nil, List.getElem?_cons_succ, List.getElem?_cons_zero, kcD, Nat.reduceAdd, Nat.reduceSub, br_t, br_f, br_n, asg, setAll, List.set_cons_succ, List.set_cons_zero, tgs, wipe, eq_ii, ne_ii, lt_ii, le_ii, gt_ii, ge_ii, is_n, isn_n, is_b, isn_b, add_ii, sub_ii, mul_ii, mod_ii, fdiv_ii, pow_ii, isNon, biD, intD_i, intD_b, esLen, beq_self_eq_true, ixD_tup, lsOf_new, seqD_tup, seqD_fl, slD_tup, bools, Option.map_some, true_and, ixD_fl, lenD_tup, lenD_fl, ix30, ix31, ix32, at20, at21, at30, at31, at32, List.filterMap_cons, List.filterMap_nil]
  refine call h1 ⟨w, s + 1, _, rfl, by omega, s3, w4, by omega, fun d5 S5 d50 d51 w5 k5 => ?_⟩
  try simp only [wpSs, wpS, wpE, wpEs, wpC, wpAnd, wpOr, wpO, wpIt, opt_some, onI_int, onB_bl, onR_ref, arg1_one, look, joinO, start, List.map_cons, List.map_nil, List.length_cons, List.length_nil, List.replicate, List.cons_append, List.nil_append, List.append_nil, List.getElem?_cons_succ, List.getElem?_cons_zero, kcD, Nat.reduceAdd, Nat.reduceSub, br_t, br_f, br_n, asg, setAll, List.set_cons_succ, List.set_cons_zero, tgs, wipe, eq_ii, ne_ii, lt_ii, le_ii, gt_ii, ge_ii, is_n, isn_n, is_b, isn_b, add_ii, sub_ii, mul_ii, mod_ii, fdiv_ii, pow_ii, isNon, biD, intD_i, intD_b, esLen, beq_self_eq_true, ixD_tup, lsOf_new, seqD_tup, seqD_fl, slD_tup, bools, Option.map_some, true_and, ixD_fl, lenD_tup, lenD_fl, ix30, ix31, ix32, at20, at21, at30, at31, at32, List.filterMap_cons, List.filterMap_nil]
  refine mkL_ok (by simp) fun f2 hf2 => ?_
  have ef2 : (upd S5 f2 (.lst [.int 0, .int 1, .int s, .int d5])) f2 = some (.lst [.int 0, .int 1, .int s, .int d5]) := upd_at
  have w6 := w5.ext (Ext.new (o := .lst [.int 0, .int 1, .int s, .int d5]) hf2)
  have k6 : Kp w S5 (upd S5 f2 (.lst [.int 0, .int 1, .int s, .int d5])) := (Ext.new hf2).kp w
  have hfw2 : f2 ≠ w := fun z => by obtain ⟨o, e⟩ := w5.some; rw [z, e] at hf2; cases hf2
  generalize upd S5 f2 (.lst [.int 0, .int 1, .int s, .int d5]) = S6 at *
  refine call h1 ⟨w, 4, _, rfl, by decide, by decide, w6, by omega, fun d6 S7 d60 d61 w7 k7 => ?_⟩
  obtain ⟨y, ey, hy⟩ := at1y (a := .int 0) (b := .int 1) (c := .int s) (e := .int d5) d60 d61
  have ef2 := k7 _ _ hfw2 ef2
  simp only [ixD_ref ef2, ey, opt_some]
  obtain ⟨wd, rfl, wd0⟩ : ∃ wd : Int, y = .int wd ∧ 0 ≤ wd := by
    rcases hy with rfl | rfl | rfl | rfl
    · exact ⟨0, rfl, by omega⟩
    · exact ⟨1, rfl, by omega⟩
    · exact ⟨s, rfl, by omega⟩
    · exact ⟨d5, rfl, by omega⟩
  simp only [wpSs, wpS, wpE, wpEs, wpC, wpAnd, wpOr, wpO, wpIt, opt_some, onI_int, onB_bl, onR_ref, arg1_one, look, joinO, start, List.map_cons, List.map_nil, List.length_cons, List.length_nil, List.replicate, List.cons_append, List.nil_append, List.append_nil, List.getElem?_cons_succ, List.getElem?_cons_zero, kcD, Nat.reduceAdd, Nat.reduceSub, br_t, br_f, br_n, asg, setAll, List.set_cons_succ, List.set_cons_zero, tgs, wipe, eq_ii, ne_ii, lt_ii, le_ii, gt_ii, ge_ii, is_n, isn_n, is_b, isn_b, add_ii, sub_ii, mul_ii, mod_ii, fdiv_ii, pow_ii, isNon, biD, intD_i, intD_b, esLen, beq_self_eq_true, ixD_tup, lsOf_new, seqD_tup, seqD_fl, slD_tup, bools, Option.map_some, true_and, ixD_fl, lenD_tup, lenD_fl, ix30, ix31, ix32, at20, at21, at30, at31, at32, List.filterMap_cons, List.filterMap_nil]
  have kall : Kp w S S7 := (((((k1.trans k2).trans k3).trans k4).trans k5).trans k6).trans k7
  have er7 := kall _ _ hr er
  obtain ⟨m, hm⟩ : ∃ m, (if lw + wd < s then lw + wd else s) = m := ⟨_, rfl⟩
  rw [hm]
  have m0 : lw ≤ m ∧ m ≤ s := by
    rw [← hm]; split <;> omega
  refine mkL_ok (by simp) fun f3 hf3 => ?_
  have er8 := Ext.new (o := .lst [.int lw, .int m]) hf3 _ _ er7
  refine add_ref er8 upd_at (mkL_ok (by simp; omega) fun f4 hf4 => ?_)
  have w9 := w7.ext ((Ext.new (o := .lst [.int lw, .int m]) hf3).trans (Ext.new (o := .lst (xs ++ [.int lw, .int m])) hf4))
  refine kk _ _ f4 lw m _ (w9.le (by omega)) (kall.trans (((Ext.new hf3).trans (Ext.new hf4)).kp w)) (fun z => ?_) upd_at lw0 m0.1 m0.2
  obtain ⟨o, e⟩ := (w7.ext (Ext.new (o := .lst [.int lw, .int m]) hf3)).some
  rw [z, e] at hf4; cases hf4
def spEd : Sp := fun ds S Q _ => ∃ (w : Nat) (a c : Int) (n : Nat), ds = [.ref w, prD a c] ∧ 1 ≤ a ∧ a < 2 ^ 100 ∧ 1 ≤ c ∧ c < 2 ^ 100 ∧ Well n S w ∧ n + 20 < 2 ^ 58 ∧ ∀ l r lo hi S', OkB a c l r lo hi → Well (n + 10) S' w → Kp w S S' → Q (boxD l r lo hi) S'
theorem txt_ed {G : Gm} {ds : List D} {S0 : Sto} {Q : VK} {X : XK} {b : Ss} (hb : b = _law_edges_T) (h1 : G.fn 22 = spDraw) (h : spEd ds S0 Q X) : ds.length = 2 ∧ wpSs G b (start 6 ds) S0 (kR Q X) := by
  obtain ⟨w, a, c, n, rfl, a0, a1, c0, c1, hw, hn, hq⟩ := h
  subst hb
  refine ⟨rfl, ?_⟩
  generalize hA : _law_edges_A0 = A0
  generalize hB : _law_edges_B0 = bo
  simp only [_law_edges_T, _law_edges_S0, hA, hB, wpSs, wpS, wpE, wpEs, wpC, wpAnd, wpOr, wpO, wpIt, opt_some, onI_int, onB_bl, onR_ref, arg1_one, look, joinO, start, List.map_cons, List.map_nil, List.length_cons, List.length_nil, List.replicate, List.cons_append, List.nil_append, List.append_nil, List.getElem?_cons_succ, List.getElem?_cons_zero, kcD, Nat.reduceAdd, Nat.reduceSub, br_t, br_f, br_n, asg, setAll, List.set_cons_succ, List.set_cons_zero, tgs, wipe, eq_ii, ne_ii, lt_ii, le_ii, gt_ii, ge_ii, is_n, isn_n, is_b, isn_b, add_ii, sub_ii, mul_ii, mod_ii, fdiv_ii, pow_ii, isNon, biD, intD_i, intD_b, esLen, beq_self_eq_true, ixD_tup, lsOf_new, seqD_tup, seqD_fl, slD_tup, bools, Option.map_some, true_and, ixD_fl, lenD_tup, lenD_fl, ix30, ix31, ix32, at20, at21, at30, at31, at32, List.filterMap_cons, List.filterMap_nil, forW]
  refine mkL_ok (by simp) fun r hr => ?_
  have hrw : r ≠ w := fun z => by obtain ⟨o, e⟩ := hw.some; rw [z, e] at hr; cases hr
  have er : (upd S0 r (.lst [])) r = some (.lst []) := upd_at
  have w1 := hw.ext (Ext.new (o := .lst []) hr)
  have k1 : Kp w S0 (upd S0 r (.lst [])) := (Ext.new hr).kp w
  generalize upd S0 r (.lst []) = S1 at *
  subst hB
  refine ed_turn h1 a0 a1 w1 (by omega) hrw er (by simp) fun o4 o5 r2 u v S2 w2 k2 hr2 e2 u0 uv v1 => ?_
  refine ed_turn h1 c0 c1 w2 (by omega) hr2 e2 (by simp) fun o4 o5 r3 u' v' S3 w3 k3 hr3 e3 u0' uv' v1' => ?_
  subst hA
  simp only [_law_edges_A0, wpSs, wpS, wpE, wpEs, wpC, wpAnd, wpOr, wpO, wpIt, opt_some, onI_int, onB_bl, onR_ref, arg1_one, look, joinO, start, List.map_cons, List.map_nil, List.length_cons, List.length_nil, List.replicate, List.cons_append, List.nil_append, List.append_nil, List.getElem?_cons_succ, List.getElem?_cons_zero, kcD, Nat.reduceAdd, Nat.reduceSub, br_t, br_f, br_n, asg, setAll, List.set_cons_succ, List.set_cons_zero, tgs, wipe, eq_ii, ne_ii, lt_ii, le_ii, gt_ii, ge_ii, is_n, isn_n, is_b, isn_b, add_ii, sub_ii, mul_ii, mod_ii, fdiv_ii, pow_ii, isNon, biD, intD_i, intD_b, esLen, beq_self_eq_true, ixD_tup, lsOf_new, seqD_tup, seqD_fl, slD_tup, bools, Option.map_some, true_and, ixD_fl, lenD_tup, lenD_fl, ix30, ix31, ix32, at20, at21, at30, at31, at32, List.filterMap_cons, List.filterMap_nil, sqOf_ref e3]
  exact hq u v u' v' S3 ⟨u0, uv, v1, u0', uv', v1'⟩ (w3.le (by omega)) ((k1.trans k2).trans k3)
end M
namespace M
theorem inP_lt {s v f st lo hi : Int} {k : Nat} (m0 : 0 < 2 * s * v) (h : FstP s v f st lo hi k) : k < perM (2 * s * v) f := by
  rcases Nat.lt_or_ge k (perM (2 * s * v) f) with z | z
  · exact z
  · have pp := perM_pos (f := f) m0
    have e := inP_per (f := f) (st := st) (lo := lo) (hi := hi) m0 (k - perM (2 * s * v) f)
    rw [Nat.sub_add_cancel z, h.1] at e
    have := h.2 (k - perM (2 * s * v) f) (by omega)
    rw [this] at e; cases e
def gd_tail : Ss := (.cons (.set (.v 13) (.bin .add (.bin .mul (.ix (.v 1) (.v 7)) (.bi .abs (.cons (.v 5) .nil))) (.bin .mul (.ix (.v 1) (.bin .add (.v 7) (.k (.int 2)))) (.v 12)))) (.cons (.set (.v 14) (.call 35 (.cons (.ix (.v 0) (.v 7)) (.cons (.bi .abs (.cons (.v 5) .nil)) (.cons (.bin .mul (.bin .mul (.k (.int 2)) (.v 6)) (.ix (.v 1) (.bin .add (.v 7) (.k (.int 2))))) (.cons (.v 13) (.cons (.v 8) (.cons (.v 9) .nil)))))))) (.cons (.if_ (.cmp .isn (.v 14) (.k .non)) (.cons (.set (.v 3) (.call 33 (.cons (.v 3) (.cons (.call 26 (.cons (.bin .add (.v 12) (.bin .mul (.bin .mul (.k (.int 2)) (.v 6)) (.v 14))) (.cons (.bi .abs (.cons (.v 5) .nil)) .nil))) .nil)))) .nil) .nil) .nil)))
def gd_head (t : Ss) : Ss := (.cons (.set (.v 12) (.bin .mod (.bi .int (.cons (.ite (.cmp .gt (.v 5) (.k (.int 0))) (.bin .sub (.v 11) (.ix (.v 1) (.v 4))) (.bin .sub (.ix (.v 1) (.v 4)) (.v 11))) .nil)) (.bin .mul (.k (.int 2)) (.v 6)))) t)
theorem gd_cut : _law_great_due_B2 = .cons (.if_ (.cmp .ne (.v 5) (.k (.int 0))) (gd_head gd_tail) .nil) .nil := rfl
theorem gd_turn {G : Gm} (h1 : G.fn 33 = spSoon) (h2 : G.fn 35 = spLP) (h3 : G.fn 26 = spLow) {st w s mt mw ms lo hi i : Int} {ax mx' : Int} {desk put : List D} (e1 : atI put ax = some (.int st)) (e2 : atI put mx' = some (.int mt)) (e3 : atI put (mx' + 2) = some (.int mw)) (e4 : atI desk mx' = some (.int ms)) (s0 : 0 < s) (m0 : 0 < ms) (l0 : 0 ≤ lo) (lh : lo ≤ hi) (hs : hi ≤ ms) (bs : Bd 40 s) (bm : Bd 40 ms) (bw : Bd 40 w) (bmw : Bd 40 mw) (bmt : Bd 40 mt) {S : Sto} {K : Kt} {U : Int → Int → Prop} {u : D} (hu : LstP U u) (bu : TimB u) {o2 o10 o12 o13 o14 : Option D}
    (kk : ∀ S' z o12 o13 o14, Ext S S' → LstP (fun t d => U t d ∨ (w ≠ 0 ∧ Psd s st w ms mt mw i lo hi t d)) z → TimB z → K.nx [some (.tup desk), some (.tup put), o2, some z, some (.int ax), some (.int w), some (.int s), some (.int mx'), some (.int lo), some (.int hi), o10, some (.int i), o12, o13, o14] S') :
    wpSs G _law_great_due_B2 [some (.tup desk), some (.tup put), o2, some u, some (.int ax), some (.int w), some (.int s), some (.int mx'), some (.int lo), some (.int hi), o10, some (.int i), o12, o13, o14] S K := by
  have p2 : 0 < 2 * s := by omega
  have s2 := bd2.sm (show 2 ≤ 4000 by decide)
  have ss := bs.sm (show 40 ≤ 4000 by decide)
  rw [gd_cut]
  simp only [wpSs, wpS, wpE, wpEs, wpC, wpAnd, wpOr, wpO, wpIt, opt_some, onI_int, onB_bl, onR_ref, arg1_one, look, joinO, start, List.map_cons, List.map_nil, List.length_cons, List.length_nil, List.replicate, List.cons_append, List.nil_append, List.append_nil, List.getElem?_cons_succ, List.getElem?_cons_zero, kcD, Nat.reduceAdd, Nat.reduceSub, br_t, br_f, br_n, asg, setAll, List.set_cons_succ, List.set_cons_zero, tgs, wipe, eq_ii, ne_ii, lt_ii, le_ii, gt_ii, ge_ii, is_n, isn_n, is_b, isn_b, add_ii, sub_ii, mul_ii, mod_ii, fdiv_ii, pow_ii, isNon, biD, intD_i, intD_b, esLen, beq_self_eq_true, ixD_tup, lsOf_new, seqD_tup, seqD_fl, slD_tup, bools, Option.map_some, true_and, ixD_fl, lenD_tup, lenD_fl, ix30, ix31, ix32, at20, at21, at30, at31, at32, List.filterMap_cons, List.filterMap_nil]
  by_cases hw : w = 0
  · refine br_if (fun _ => ?_) fun z => absurd hw (by simpa using z)
    exact kk S u _ _ _ Ext.refl (lst_iff (fun t d _ _ => ⟨.inl, fun z => z.resolve_right fun y => y.1 hw⟩) hu) bu
  · refine br_if (fun z => absurd (by simpa using z) hw) fun _ => ?_
    have pw := av_pos hw
    have bav : Bd 40 (av w) := av_bd bw
    have b2s : Bd 42 (2 * s) := bd2.mul bs
    have R : Rg ms (av w) lo hi := ⟨m0, pw, l0, lh, hs, bm.up (by decide), bav.up (by decide)⟩
    have main : ∀ (g : Int), g = sgw w (i - st) → wpSs G gd_tail [some (.tup desk), some (.tup put), o2, some u, some (.int ax), some (.int w), some (.int s), some (.int mx'), some (.int lo), some (.int hi), o10, some (.int i), some (.int (g % (2 * s))), o13, o14] S K := by
      intro g hg
      have r0 := Int.emod_nonneg g (show 2 * s ≠ 0 by omega)
      have r1 := Int.emod_lt_of_pos g p2
      have bgm : Bd 42 (g % (2 * s)) := b2s.mod p2
      have bS : Bd 84 (mt * av w + mw * (g % (2 * s))) := ((bmt.mul bav).up (show 40 + 40 ≤ 83 by decide)).add ((bmw.mul bgm).up (by decide))
      have bring : 2 * ms * av w < 2 ^ 102 := by
        have := (bd2.mul bm).mul bav
        have h : (2 * ms * av w).natAbs < 2 ^ 82 := this.up (by decide)
        have e : ((2 ^ 82 : Nat) : Int) < (2 : Int) ^ 102 := by decide
        omega
      simp only [gd_tail, wpSs, wpS, wpE, wpEs, wpC, wpAnd, wpOr, wpO, wpIt, opt_some, onI_int, onB_bl, onR_ref, arg1_one, look, joinO, start, List.map_cons, List.map_nil, List.length_cons, List.length_nil, List.replicate, List.cons_append, List.nil_append, List.append_nil, List.getElem?_cons_succ, List.getElem?_cons_zero, kcD, Nat.reduceAdd, Nat.reduceSub, br_t, br_f, br_n, asg, setAll, List.set_cons_succ, List.set_cons_zero, tgs, wipe, eq_ii, ne_ii, lt_ii, le_ii, gt_ii, ge_ii, is_n, isn_n, is_b, isn_b, add_ii, sub_ii, mul_ii, mod_ii, fdiv_ii, pow_ii, isNon, biD, intD_i, intD_b, esLen, beq_self_eq_true, ixD_tup, lsOf_new, seqD_tup, seqD_fl, slD_tup, bools, Option.map_some, true_and, ixD_fl, lenD_tup, lenD_fl, ix30, ix31, ix32, at20, at21, at30, at31, at32, List.filterMap_cons, List.filterMap_nil, abs_ite, e1, e2, e3, e4]
      refine ⟨bmt.sm (by decide), bav.sm (by decide), bmw.sm (by decide), bgm.sm (by decide), s2, ss, b2s.sm (by decide), bmw.sm (by decide), ?_⟩
      refine call h2 ⟨ms, av w, 2 * s * mw, mt * av w + mw * (g % (2 * s)), lo, hi, rfl, R, bring, fun o S5 x5 ho => ?_⟩
      cases o with
      | none =>
        refine br_if (fun _ => ?_) fun z => by cases z
        refine kk S5 u _ _ _ x5 (lst_iff (fun t d t0 d0 => ⟨.inl, fun z => z.resolve_right fun y => ?_⟩) hu) bu
        obtain ⟨k, _, hk⟩ := (psd_k s0 hw rfl t0 d0).mp y.2
        rw [← hg] at hk
        have := ho k
        rw [hk] at this; cases this
      | some k =>
        refine br_if (fun z => by cases z) fun _ => ?_
        have kb := inP_lt R.m0 ho
        have pl := perM_le (f := 2 * s * mw) R.m0
        have bM : Bd 90 (2 * ms * av w) := ((bd2.mul bm).mul bav).up (by decide)
        have bk : Bd 90 (k : Int) := bM.le (by omega) (by omega)
        have bt : Bd 140 (g % (2 * s) + 2 * s * k) := (bgm.up (show 42 ≤ 139 by decide)).add ((b2s.mul bk).up (by decide))
        simp only [optD, wpSs, wpS, wpE, wpEs, wpC, wpAnd, wpOr, wpO, wpIt, opt_some, onI_int, onB_bl, onR_ref, arg1_one, look, joinO, start, List.map_cons, List.map_nil, List.length_cons, List.length_nil, List.replicate, List.cons_append, List.nil_append, List.append_nil, List.getElem?_cons_succ, List.getElem?_cons_zero, kcD, Nat.reduceAdd, Nat.reduceSub, br_t, br_f, br_n, asg, setAll, List.set_cons_succ, List.set_cons_zero, tgs, wipe, eq_ii, ne_ii, lt_ii, le_ii, gt_ii, ge_ii, is_n, isn_n, is_b, isn_b, add_ii, sub_ii, mul_ii, mod_ii, fdiv_ii, pow_ii, isNon, biD, intD_i, intD_b, esLen, beq_self_eq_true, ixD_tup, lsOf_new, seqD_tup, seqD_fl, slD_tup, bools, Option.map_some, true_and, ixD_fl, lenD_tup, lenD_fl, ix30, ix31, ix32, at20, at21, at30, at31, at32, List.filterMap_cons, List.filterMap_nil]
        refine ⟨s2, ss, b2s.sm (by decide), bk.sm (by decide), call h3 ⟨_, _, rfl, pw, bav.up (by decide), ?_⟩⟩
        have ls := psd_yes (a := s) (x := st) (p := w) (c := ms) (y := mt) (q := mw) (g := i) (lo := lo) (hi := hi) (u := g % (2 * s)) s0 hw (by rw [hg]) ho
        refine call h1 ⟨u, _, _, _, rfl, hu, ls, bu, timb_low pw (bt.up (by decide)) (bav.up (by decide)), fun z hz bz => ?_⟩
        exact kk S5 z _ _ _ x5 (lst_iff (fun t d _ _ => ⟨fun y => y.imp id fun y => ⟨hw, y⟩, fun y => y.imp id fun y => y.2⟩) hz) bz
    generalize gd_tail = tl at *
    simp only [gd_head, wpSs, wpS, wpE, wpEs, wpC, wpAnd, wpOr, wpO, wpIt, opt_some, onI_int, onB_bl, onR_ref, arg1_one, look, joinO, start, List.map_cons, List.map_nil, List.length_cons, List.length_nil, List.replicate, List.cons_append, List.nil_append, List.append_nil, List.getElem?_cons_succ, List.getElem?_cons_zero, kcD, Nat.reduceAdd, Nat.reduceSub, br_t, br_f, br_n, asg, setAll, List.set_cons_succ, List.set_cons_zero, tgs, wipe, eq_ii, ne_ii, lt_ii, le_ii, gt_ii, ge_ii, is_n, isn_n, is_b, isn_b, add_ii, sub_ii, mul_ii, mod_ii, fdiv_ii, pow_ii, isNon, biD, intD_i, intD_b, esLen, beq_self_eq_true, ixD_tup, lsOf_new, seqD_tup, seqD_fl, slD_tup, bools, Option.map_some, true_and, ixD_fl, lenD_tup, lenD_fl, ix30, ix31, ix32, at20, at21, at30, at31, at32, List.filterMap_cons, List.filterMap_nil, e1, fmod_pos p2]
    refine br_d (fun z => ?_) fun z => ?_
    · exact ⟨s2, ss, by omega, main _ (by unfold sgw; rw [if_pos z])⟩
    · exact ⟨s2, ss, by omega, main _ (by unfold sgw; rw [if_neg z, Int.neg_sub])⟩
theorem gd_axis {G : Gm} (h1 : G.fn 33 = spSoon) (h2 : G.fn 35 = spLP) (h3 : G.fn 26 = spLow) {st w s mt mw ms lo hi g1 g2 : Int} {ax : Int} {desk put box : List D} (hx : ax = 0 ∨ ax = 1) (e0 : atI put (ax + 2) = some (.int w)) (e5 : atI desk ax = some (.int s)) (e1 : atI put ax = some (.int st)) (e2 : atI put (1 - ax) = some (.int mt)) (e3 : atI put (1 - ax + 2) = some (.int mw)) (e4 : atI desk (1 - ax) = some (.int ms)) (c1 : cut box (some (2 * (1 - ax))) (some (2 * (1 - ax) + 2)) = [.int lo, .int hi]) (c2 : cut box (some (2 * ax)) (some (2 * ax + 2)) = [.int g1, .int g2]) (s0 : 0 < s) (m0 : 0 < ms) (l0 : 0 ≤ lo) (lh : lo ≤ hi) (hs : hi ≤ ms) (bs : Bd 40 s) (bm : Bd 40 ms) (bw : Bd 40 w) (bmw : Bd 40 mw) (bmt : Bd 40 mt) {S : Sto} {K : Kt} {U : Int → Int → Prop} {u : D} (hu : LstP U u) (bu : TimB u) {o5 o6 o7 o8 o9 o10 o11 o12 o13 o14 : Option D}
    (kk : ∀ S' z o5 o6 o7 o8 o9 o10 o11 o12 o13 o14, Ext S S' → LstP (fun t d => U t d ∨ (Sd s st w ms mt mw g1 lo hi t d ∨ Sd s st w ms mt mw g2 lo hi t d)) z → TimB z → K.nx [some (.tup desk), some (.tup put), some (.tup box), some z, some (.int ax), o5, o6, o7, o8, o9, o10, o11, o12, o13, o14] S') :
    wpSs G _law_great_due_B0 [some (.tup desk), some (.tup put), some (.tup box), some u, some (.int ax), o5, o6, o7, o8, o9, o10, o11, o12, o13, o14] S K := by
  have s2 := bd2.sm (show 2 ≤ 4000 by decide)
  have sa : sm ax := by rcases hx with rfl | rfl <;> exact sm_of 1 (by decide) (by decide)
  have sb : sm (1 - ax) := by rcases hx with rfl | rfl <;> exact sm_of 1 (by decide) (by decide)
  have l2 : 2 ≤ lim := len_lim (by decide)
  generalize hB : _law_great_due_B2 = bo
  simp only [_law_great_due_B0, _law_great_due_S1, _law_great_due_B1, _law_great_due_S2, hB, wpSs, wpS, wpE, wpEs, wpC, wpAnd, wpOr, wpO, wpIt, opt_some, onI_int, onB_bl, onR_ref, arg1_one, look, joinO, start, List.map_cons, List.map_nil, List.length_cons, List.length_nil, List.replicate, List.cons_append, List.nil_append, List.append_nil, List.getElem?_cons_succ, List.getElem?_cons_zero, kcD, Nat.reduceAdd, Nat.reduceSub, br_t, br_f, br_n, asg, setAll, List.set_cons_succ, List.set_cons_zero, tgs, wipe, eq_ii, ne_ii, lt_ii, le_ii, gt_ii, ge_ii, is_n, isn_n, is_b, isn_b, add_ii, sub_ii, mul_ii, mod_ii, fdiv_ii, pow_ii, isNon, biD, intD_i, intD_b, esLen, beq_self_eq_true, ixD_tup, lsOf_new, seqD_tup, seqD_fl, slD_tup, bools, Option.map_some, true_and, ixD_fl, lenD_tup, lenD_fl, ix30, ix31, ix32, at20, at21, at30, at31, at32, List.filterMap_cons, List.filterMap_nil, forW, e0, e5, slD_tup, c1, c2]
  subst hB
  refine ⟨s2, sb, s2, sb, s2, sa, s2, sa, l2, ?_⟩
  refine gd_turn h1 h2 h3 e1 e2 e3 e4 s0 m0 l0 lh hs bs bm bw bmw bmt hu bu fun S1 z1 o12 o13 o14 k1 u1 b1 => ?_
  refine gd_turn h1 h2 h3 e1 e2 e3 e4 s0 m0 l0 lh hs bs bm bw bmw bmt u1 b1 fun S2 z2 o12 o13 o14 k2 u2 b2 => ?_
  refine ⟨l2, ?_⟩
  refine gd_turn h1 h2 h3 e1 e2 e3 e4 s0 m0 l0 lh hs bs bm bw bmw bmt u2 b2 fun S3 z3 o12 o13 o14 k3 u3 b3 => ?_
  refine gd_turn h1 h2 h3 e1 e2 e3 e4 s0 m0 l0 lh hs bs bm bw bmw bmt u3 b3 fun S4 z4 o12 o13 o14 k4 u4 b4 => ?_
  refine kk S4 z4 _ _ _ _ _ _ _ _ _ _ (((k1.trans k2).trans k3).trans k4) (lst_iff (fun t d _ _ => ?_) u4) b4
  simp only [Sd, and_or_left, or_assoc]
def spGD : Sp := fun ds S Q _ => ∃ a c x y p q l r lo hi, ds = [prD a c, shD x y p q, boxD l r lo hi] ∧ OkL ⟨a, c, x, y, p, q⟩ ∧ OkB a c l r lo hi ∧ Bd 40 a ∧ Bd 40 c ∧ Bd 40 x ∧ Bd 40 y ∧ Bd 40 p ∧ Bd 40 q ∧ ∀ v S', Ext S S' → LstP (BoxT a c x y p q l r lo hi) v → TimB v → Q v S'
theorem txt_gd {G : Gm} {ds : List D} {S0 : Sto} {Q : VK} {X : XK} {b : Ss} (hb : b = _law_great_due_T) (h1 : G.fn 33 = spSoon) (h2 : G.fn 35 = spLP) (h3 : G.fn 26 = spLow) (h4 : G.fn 32 = spWi) (h : spGD ds S0 Q X) : ds.length = 3 ∧ wpSs G b (start 15 ds) S0 (kR Q X) := by
  obtain ⟨a, c, x, y, p, q, l, r, lo, hi, rfl, o, g, ba, bc, bx, by_, bp, bq, hq⟩ := h
  subst hb
  refine ⟨rfl, ?_⟩
  have a0 : 0 < a := o.a0
  have c0 : 0 < c := o.c0
  have := g.l0; have := g.lr; have := g.ra; have := g.o0; have := g.oh; have := g.hc
  have l2 : 2 ≤ lim := len_lim (by decide)
  have b1 : Bd 1 1 := by show Int.natAbs 1 < 2 ^ 1; decide
  have bl : Bd 1000 l := (ba.le g.l0 (by omega)).up (by decide)
  have br' : Bd 1000 r := (ba.le (by omega) g.ra).up (by decide)
  have blo : Bd 1000 lo := (bc.le g.o0 (by omega)).up (by decide)
  have bhi : Bd 1000 hi := (bc.le (by omega) g.hc).up (by decide)
  have rest : ∀ u S1, Ext S0 S1 → LstP (fun t _ => Wst x y l r lo hi ∧ t = 0) u → TimB u → wpSs G (.cons _law_great_due_S0 _law_great_due_A0) [some (prD a c), some (shD x y p q), some (boxD l r lo hi), some u, none, none, none, none, none, none, none, none, none, none, none] S1 (kR Q X) := by
    intro u S1 k1 hu bu
    generalize hB : _law_great_due_B0 = bo
    generalize hA : _law_great_due_A0 = A0
    simp only [_law_great_due_S0, hB, wpSs, wpS, wpE, wpEs, wpC, wpAnd, wpOr, wpO, wpIt, opt_some, onI_int, onB_bl, onR_ref, arg1_one, look, joinO, start, List.map_cons, List.map_nil, List.length_cons, List.length_nil, List.replicate, List.cons_append, List.nil_append, List.append_nil, List.getElem?_cons_succ, List.getElem?_cons_zero, kcD, Nat.reduceAdd, Nat.reduceSub, br_t, br_f, br_n, asg, setAll, List.set_cons_succ, List.set_cons_zero, tgs, wipe, eq_ii, ne_ii, lt_ii, le_ii, gt_ii, ge_ii, is_n, isn_n, is_b, isn_b, add_ii, sub_ii, mul_ii, mod_ii, fdiv_ii, pow_ii, isNon, biD, intD_i, intD_b, esLen, beq_self_eq_true, ixD_tup, lsOf_new, seqD_tup, seqD_fl, slD_tup, bools, Option.map_some, true_and, ixD_fl, lenD_tup, lenD_fl, ix30, ix31, ix32, at20, at21, at30, at31, at32, List.filterMap_cons, List.filterMap_nil, forW]
    refine ⟨l2, ?_⟩
    subst hB
    refine gd_axis (box := [.int l, .int r, .int lo, .int hi]) (desk := [.int a, .int c]) (put := [.int x, .int y, .int p, .int q]) (ax := 0) h1 h2 h3 (.inl rfl) (by rfl) (by rfl) (by rfl) (by rfl) (by rfl) (by rfl) (by rfl) (by rfl) a0 c0 g.o0 g.oh g.hc ba bc bp bq by_ hu bu fun S2 z o5 o6 o7 o8 o9 o10 o11 o12 o13 o14 k2 hz bz => ?_
    refine gd_axis (box := [.int l, .int r, .int lo, .int hi]) (desk := [.int a, .int c]) (put := [.int x, .int y, .int p, .int q]) (ax := 1) h1 h2 h3 (.inr rfl) (by rfl) (by rfl) (by rfl) (by rfl) (by rfl) (by rfl) (by rfl) (by rfl) c0 a0 g.l0 g.lr g.ra bc ba bq bp bx hz bz fun S3 z' o5 o6 o7 o8 o9 o10 o11 o12 o13 o14 k3 hz' bz' => ?_
    subst hA
    simp only [_law_great_due_A0, wpSs, wpS, wpE, wpEs, wpC, wpAnd, wpOr, wpO, wpIt, opt_some, onI_int, onB_bl, onR_ref, arg1_one, look, joinO, start, List.map_cons, List.map_nil, List.length_cons, List.length_nil, List.replicate, List.cons_append, List.nil_append, List.append_nil, List.getElem?_cons_succ, List.getElem?_cons_zero, kcD, Nat.reduceAdd, Nat.reduceSub, br_t, br_f, br_n, asg, setAll, List.set_cons_succ, List.set_cons_zero, tgs, wipe, eq_ii, ne_ii, lt_ii, le_ii, gt_ii, ge_ii, is_n, isn_n, is_b, isn_b, add_ii, sub_ii, mul_ii, mod_ii, fdiv_ii, pow_ii, isNon, biD, intD_i, intD_b, esLen, beq_self_eq_true, ixD_tup, lsOf_new, seqD_tup, seqD_fl, slD_tup, bools, Option.map_some, true_and, ixD_fl, lenD_tup, lenD_fl, ix30, ix31, ix32, at20, at21, at30, at31, at32, List.filterMap_cons, List.filterMap_nil]
    refine hq z' S3 ((k1.trans k2).trans k3) (lst_iff (fun t d _ _ => ?_) hz') bz'
    simp only [BoxT, Edg, or_assoc]
  generalize hR : (.cons _law_great_due_S0 _law_great_due_A0 : Ss) = rs at *
  simp only [_law_great_due_T, hR, wpSs, wpS, wpE, wpEs, wpC, wpAnd, wpOr, wpO, wpIt, opt_some, onI_int, onB_bl, onR_ref, arg1_one, look, joinO, start, List.map_cons, List.map_nil, List.length_cons, List.length_nil, List.replicate, List.cons_append, List.nil_append, List.append_nil, List.getElem?_cons_succ, List.getElem?_cons_zero, kcD, Nat.reduceAdd, Nat.reduceSub, br_t, br_f, br_n, asg, setAll, List.set_cons_succ, List.set_cons_zero, tgs, wipe, eq_ii, ne_ii, lt_ii, le_ii, gt_ii, ge_ii, is_n, isn_n, is_b, isn_b, add_ii, sub_ii, mul_ii, mod_ii, fdiv_ii, pow_ii, isNon, biD, intD_i, intD_b, esLen, beq_self_eq_true, ixD_tup, lsOf_new, seqD_tup, seqD_fl, slD_tup, bools, Option.map_some, true_and, ixD_fl, lenD_tup, lenD_fl, ix30, ix31, ix32, at20, at21, at30, at31, at32, List.filterMap_cons, List.filterMap_nil, at40, at41]
  refine ⟨l2, l2, l2, call h4 ⟨x, 1, y, 1, l, r, lo, hi, rfl, b1.up (by decide), b1.up (by decide), bl.up (by decide), br'.up (by decide), blo.up (by decide), bhi.up (by decide), fun S1 k1 => ?_⟩⟩
  simp only [wpSs, wpS, wpE, wpEs, wpC, wpAnd, wpOr, wpO, wpIt, opt_some, onI_int, onB_bl, onR_ref, arg1_one, look, joinO, start, List.map_cons, List.map_nil, List.length_cons, List.length_nil, List.replicate, List.cons_append, List.nil_append, List.append_nil, List.getElem?_cons_succ, List.getElem?_cons_zero, kcD, Nat.reduceAdd, Nat.reduceSub, br_t, br_f, br_n, asg, setAll, List.set_cons_succ, List.set_cons_zero, tgs, wipe, eq_ii, ne_ii, lt_ii, le_ii, gt_ii, ge_ii, is_n, isn_n, is_b, isn_b, add_ii, sub_ii, mul_ii, mod_ii, fdiv_ii, pow_ii, isNon, biD, intD_i, intD_b, esLen, beq_self_eq_true, ixD_tup, lsOf_new, seqD_tup, seqD_fl, slD_tup, bools, Option.map_some, true_and, ixD_fl, lenD_tup, lenD_fl, ix30, ix31, ix32, at20, at21, at30, at31, at32, List.filterMap_cons, List.filterMap_nil]
  refine br_d (fun z => ⟨l2, rest _ S1 k1 (.inr ⟨0, 1, rfl, rfl, by decide, by decide, ⟨⟨by omega, by omega, by omega, by omega⟩, rfl⟩, fun t d t0 d0 _ => by omega⟩) fun t d e => ?_⟩) fun z => rest _ S1 k1 (.inl ⟨rfl, fun t d _ _ w => z ?_⟩) (fun _ _ w => by cases w)
  · obtain ⟨rfl, rfl⟩ := pr_inj e
    exact ⟨(show Int.natAbs 0 < 2 ^ 800 by decide), (show Int.natAbs 1 < 2 ^ 800 by decide)⟩
  · obtain ⟨w1, w2, w3, w4⟩ := w.1
    exact ⟨⟨by omega, by omega⟩, by omega, by omega⟩
end M
namespace M
def _law_small_right_B0 : Ss := (.cons (.set (.v 5) (.call 31 (.cons (.v 0) (.cons (.v 1) .nil)))) (.cons (.par 6 7 (.rep (.lst (.cons (.v 1) (.cons (.v 2) (.cons (.v 5) .nil))))) (.call 36 (.cons (.v 1) (.cons (.v 2) (.cons (.v 5) .nil))))) (.cons (.if_ (.not (.call 23 (.cons (.lst (.cons (.call 20 (.cons (.v 1) (.cons (.v 2) (.cons (.v 5) .nil)))) (.cons (.call 37 (.cons (.v 1) (.cons (.v 2) (.cons (.v 5) .nil)))) .nil))) (.cons (.lst (.cons (.v 7) (.cons (.v 7) .nil))) .nil)))) (.cons (.ret (.k (.bl false))) .nil) .nil) (.cons (.if_ (.not (.call 23 (.cons (.callk 20 .nil (.cons (.v 5) (.cons (.v 2) (.cons (.v 1) .nil))) [2, 1, 0]) (.cons (.v 7) .nil)))) (.cons (.ret (.k (.bl false))) .nil) .nil) (.cons (.set (.v 8) (.tup (.cons (.bin .mul (.ix (.v 2) (.k (.int 0))) (.v 3)) (.cons (.bin .mul (.ix (.v 2) (.k (.int 1))) (.v 3)) (.cons (.ix (.v 2) (.k (.int 2))) (.cons (.ix (.v 2) (.k (.int 3))) .nil)))))) (.cons (.set (.v 9) (.bi .tuple (.cons (.comp (.bin .mul (.v 11) (.v 3)) (.v 11) (.seq (.v 5)) .none) .nil))) (.cons (.set (.v 10) (.call 20 (.cons (.tup (.cons (.bin .mul (.ix (.v 1) (.k (.int 0))) (.v 3)) (.cons (.bin .mul (.ix (.v 1) (.k (.int 1))) (.v 3)) .nil))) (.cons (.v 8) (.cons (.v 9) .nil))))) (.cons (.if_ (.not (.call 23 (.cons (.v 10) (.cons (.ite (.cmp .is_ (.v 7) (.k .non)) (.k .non) (.call 26 (.cons (.bin .mul (.ix (.v 7) (.k (.int 0))) (.v 3)) (.cons (.ix (.v 7) (.k (.int 1))) .nil)))) .nil)))) (.cons (.ret (.k (.bl false))) .nil) .nil) (.cons (.if_ (.cmp .ne (.rep (.lst (.cons (.v 1) (.cons (.v 2) (.cons (.v 5) .nil))))) (.v 6)) (.cons (.ret (.k (.bl false))) .nil) .nil) .nil)))))))))
def _law_small_right_S0 : St := (.for_ (.v 4) (.rng (.k (.int 3))) _law_small_right_B0)
def _law_small_right_A0 : Ss := (.cons (.ret (.k (.bl true))) .nil)
def _law_small_right_T : Ss := (.cons (.set (.v 1) (.call 24 (.cons (.v 0) (.cons (.k (.int 8)) .nil)))) (.cons (.set (.tup [2, 3]) (.tup (.cons (.call 25 (.cons (.v 0) (.cons (.v 1) (.cons (.k (.int 6)) .nil)))) (.cons (.bin .pow (.k (.int 10)) (.k (.int 8))) .nil)))) (.cons _law_small_right_S0 _law_small_right_A0)))
theorem smr_bd {n : Nat} {i : Int} (h : Bd n i) (hn : n ≤ 1900) : smr i := smr_of n hn h
theorem repb {S : Sto} {l : Nat} {a c x y p q g1 g2 g3 g4 : Int} (e : S l = some (.lst [prD a c, shD x y p q, boxD g1 g2 g3 g4])) (ba : Bd 150 a) (bc : Bd 150 c) (bx : Bd 150 x) (by_ : Bd 150 y) (bp : Bd 150 p) (bq : Bd 150 q) (b1 : Bd 150 g1) (b2 : Bd 150 g2) (b3 : Bd 150 g3) (b4 : Bd 150 g4) : fitD S (.ref l) ∧ szR dep S (.ref l) ≤ lim := by
  have f : ∀ {i : Int} {m : Nat}, Bd 150 i → fitR (m + 1) S (.int i) := fun h => smr_bd h (by decide)
  refine ⟨.inr ?_, ?_⟩
  · show opt (lstAt S l) _
    rw [lstAt_eq e]
    intro v hv
    simp only [List.mem_cons, List.not_mem_nil, or_false] at hv
    rcases hv with rfl | rfl | rfl
    all_goals
      intro z hz
      simp only [List.mem_cons, List.not_mem_nil, or_false] at hz
    · rcases hz with rfl | rfl
      · exact f ba
      · exact f bc
    · rcases hz with rfl | rfl | rfl | rfl
      · exact f bx
      · exact f by_
      · exact f bp
      · exact f bq
    · rcases hz with rfl | rfl | rfl | rfl
      · exact f b1
      · exact f b2
      · exact f b3
      · exact f b4
  · rw [szR_lst e]
    show 19058 ≤ lim
    decide
theorem rep_same {S S' : Sto} {l l' : Nat} {a c x y p q g1 g2 g3 g4 : Int} (e : S l = some (.lst [prD a c, shD x y p q, boxD g1 g2 g3 g4])) (e' : S' l' = some (.lst [prD a c, shD x y p q, boxD g1 g2 g3 g4])) : toQ dep S (.ref l) = toQ dep S' (.ref l') := by
  rw [toQ_lst e, toQ_lst e']
  rfl
theorem ne_str_self {x : Tx} {S : Sto} {Q : Bool → Prop} (k : Q false) : cmpD .ne (.str x) (.str x) S Q := by
  show Q (!(x == x))
  rw [beq_self_eq_true]
  exact k
theorem sm_lst {m : Nat} {P : Int → Int → Prop} {v : D} {S : Sto} (h : LstP P v) : Sm (m + 2) S v v := by
  rcases h with ⟨rfl, _⟩ | ⟨t, d, rfl, _⟩
  · trivial
  · exact sm_pr
/-! ### greater tables -/
theorem eqt_big {s w u t d L : Int} {u' : Int} (h : u' = u * L) : Eqt (s * L) w u' t d ↔ Eqt s w u t (L * d) := by
  subst h
  constructor
  · rintro ⟨z, h⟩; exact ⟨z, by rw [h]; grind⟩
  · rintro ⟨z, h⟩; exact ⟨z, by rw [h]; grind⟩
theorem fold_big {c A d L : Int} : foldT (c * L) A d = foldT c A (L * d) := by
  unfold foldT
  have : 2 * (c * L) * d = 2 * c * (L * d) := by grind
  rw [this]
theorem inn_big {c y q lo hi t d L : Int} : Inn (c * L) (y * L) q (lo * L) (hi * L) t d ↔ Inn c y q lo hi t (L * d) := by
  unfold Inn
  rw [fold_big, show y * L * d = y * (L * d) by grind, show lo * L * d = lo * (L * d) by grind, show hi * L * d = hi * (L * d) by grind]
theorem psd_big {a x p c y q g lo hi t d L g' : Int} (h : g' = g * L) : Psd (a * L) (x * L) p (c * L) (y * L) q g' (lo * L) (hi * L) t d ↔ Psd a x p c y q g lo hi t (L * d) := by
  unfold Psd
  rw [eqt_big (u := g - x) (by rw [h]; grind), inn_big]
theorem sd_big {a x p c y q g lo hi t d L : Int} : Sd (a * L) (x * L) p (c * L) (y * L) q (g * L) (lo * L) (hi * L) t d ↔ Sd a x p c y q g lo hi t (L * d) := by
  unfold Sd
  rw [psd_big rfl, psd_big (g := -g) (by grind)]
theorem wst_big {x y l r lo hi L : Int} (L0 : 0 < L) : Wst (x * L) (y * L) (l * L) (r * L) (lo * L) (hi * L) ↔ Wst x y l r lo hi := by
  have k : ∀ {u v : Int}, u * L ≤ v * L ↔ u ≤ v := fun {u v} => ⟨fun h => Int.le_of_mul_le_mul_right h L0, fun h => Int.mul_le_mul_of_nonneg_right h (by omega)⟩
  unfold Wst
  rw [k, k, k, k]
theorem box_big {a c x y p q l r lo hi t d L : Int} (L0 : 0 < L) : BoxT (a * L) (c * L) (x * L) (y * L) p q (l * L) (r * L) (lo * L) (hi * L) t d ↔ BoxT a c x y p q l r lo hi t (L * d) := by
  unfold BoxT Edg
  rw [wst_big L0, sd_big, sd_big, sd_big, sd_big]
theorem lst_big {P P' : Int → Int → Prop} {L : Int} (L0 : 0 < L) (h : ∀ t d, P' t d ↔ P t (L * d)) (hP : ∀ {t d t' d' : Int}, 0 < d → 0 < d' → t * d' = t' * d → P t d → P t' d') {v : D} (hv : LstP P v) : (v = .non → LstP P' .non) ∧ ∀ t d, v = prD t d → 0 < d ∧ LstP P' (low (t * L) d) := by
  rcases hv with ⟨rfl, hv⟩ | ⟨t, d, rfl, hl, t0, d0, h1, h2⟩
  · exact ⟨fun _ => .inl ⟨rfl, fun t d t0 d0 z => hv t (L * d) t0 (mulp L0 d0) ((h t d).mp z)⟩, fun t d z => (by cases z)⟩
  · refine ⟨fun z => (by cases z), fun t' d' z => ?_⟩
    obtain ⟨rfl, rfl⟩ := pr_inj z
    refine ⟨d0, lst_low d0 (Int.mul_nonneg t0 (by omega)) (fun t' d' t0' d0' e => (h t' d').mpr (hP d0 (mulp L0 d0') (by rw [e]; grind) h1)) fun t' d' t0' d0' z => ?_⟩
    have := h2 t' (L * d') t0' (mulp L0 d0') ((h t' d').mp z)
    have e : t * L * d' = t * (L * d') := by grind
    rw [e]; exact this
theorem on_of {a c x y p q : Int} (h : 0 ≤ x ∧ x ≤ a ∧ 0 ≤ y ∧ y ≤ c) (hpq : p ≠ 0 ∨ q ≠ 0) : rollB a c (shD x y p q) = true := by
  obtain ⟨u0, u1, v0, v1⟩ := h
  show ((decide (0 ≤ x) && decide (0 ≤ y) && !(p == 0 && q == 0)) && (decide (x ≤ a) && decide (y ≤ c))) = true
  have h1 : (p == 0 && q == 0) = false := by
    rcases hpq with h | h
    · rw [beq_eq_false_iff_ne.mpr h]; rfl
    · rw [beq_eq_false_iff_ne.mpr h, Bool.and_false]
  rw [h1, decide_eq_true u0, decide_eq_true v0, decide_eq_true u1, decide_eq_true v1]
  rfl
def spSR : Sp := fun ds S Q _ => ∃ (w n : Nat), ds = [.ref w] ∧ Well n S w ∧ n + 60 < 2 ^ 57 ∧ ∀ S', Q (.bl true) S'
theorem sr_turn {G : Gm} (h1 : G.fn 31 = spEd) (h2 : G.fn 36 = spDue) (h3 : G.fn 23 = spSm) (h4 : G.fn 20 = spFB) (h5 : G.fn 26 = spLow) (h6 : G.fn 37 = spGD) {a c x y p q : Int} (a0 : 1 ≤ a) (a1 : a ≤ 8) (c0 : 1 ≤ c) (c1 : c ≤ 20) (hb : 0 ≤ x ∧ x ≤ a ∧ 0 ≤ y ∧ y ≤ c) (hpq : p ≠ 0 ∨ q ≠ 0) (p6 : p.natAbs ≤ 6) (q6 : q.natAbs ≤ 6) {S : Sto} {K : Kt} {w n : Nat} (hw : Well n S w) (hn : n + 20 < 2 ^ 57) {o4 o5 o6 o7 o8 o9 o10 o11 : Option D}
    (kk : ∀ S' o5 o6 o7 o8 o9 o10 o11, Well (n + 10) S' w → K.nx [some (.ref w), some (prD a c), some (shD x y p q), some (.int 100000000), o4, o5, o6, o7, o8, o9, o10, o11] S') :
    wpSs G _law_small_right_B0 [some (.ref w), some (prD a c), some (shD x y p q), some (.int 100000000), o4, o5, o6, o7, o8, o9, o10, o11] S K := by
  have sml : ∀ {i : Int}, i.natAbs ≤ 20 → Bd 100 i := fun h => lt_two 5 (by omega) (by decide)
  have sm40 : ∀ {i : Int}, i.natAbs ≤ 20 → Bd 40 i := fun h => lt_two 5 (by omega) (by decide)
  have ba := sml (i := a) (by omega)
  have bc := sml (i := c) (by omega)
  have bx := sml (i := x) (by omega)
  have by_ := sml (i := y) (by omega)
  have bp := sml (i := p) (by omega)
  have bq := sml (i := q) (by omega)
  have bL : Bd 30 100000000 := by show Int.natAbs 100000000 < 2 ^ 30; decide
  have sL := bL.sm (show 30 ≤ 4000 by decide)
  have o : OkL ⟨a, c, x, y, p, q⟩ := ⟨(by show 0 < a; omega), (by show 0 < c; omega), hb.1, hb.2.1, hb.2.2.1, hb.2.2.2, hpq⟩
  have bl : BL ⟨a, c, x, y, p, q⟩ := ⟨ba.up (by decide), bc.up (by decide), bx.up (by decide), by_.up (by decide), bp.up (by decide), bq.up (by decide)⟩
  simp only [_law_small_right_B0, wpSs, wpS, wpE, wpEs, wpC, wpAnd, wpOr, wpO, wpIt, opt_some, onI_int, onB_bl, onR_ref, arg1_one, look, joinO, start, List.map_cons, List.map_nil, List.length_cons, List.length_nil, List.replicate, List.cons_append, List.nil_append, List.append_nil, List.getElem?_cons_succ, List.getElem?_cons_zero, kcD, Nat.reduceAdd, Nat.reduceSub, br_t, br_f, br_n, asg, setAll, List.set_cons_succ, List.set_cons_zero, tgs, wipe, eq_ii, ne_ii, lt_ii, le_ii, gt_ii, ge_ii, is_n, isn_n, is_b, isn_b, add_ii, sub_ii, mul_ii, mod_ii, fdiv_ii, pow_ii, isNon, biD, intD_i, intD_b, esLen, beq_self_eq_true, ixD_tup, lsOf_new, seqD_tup, seqD_fl, slD_tup, bools, Option.map_some, true_and, ixD_fl, lenD_tup, lenD_fl, ix30, ix31, ix32, at20, at21, at30, at31, at32, List.filterMap_cons, List.filterMap_nil]
  refine call h1 ⟨w, a, c, n, rfl, a0, Int.lt_of_le_of_lt a1 (by decide), c0, Int.lt_of_le_of_lt c1 (by decide), hw, by omega, fun gl gr gu gv S1 g w1 k1 => ?_⟩
  have := g.l0; have := g.lr; have := g.ra; have := g.o0; have := g.oh; have := g.hc
  have bg1 := sml (i := gl) (by omega)
  have bg2 := sml (i := gr) (by omega)
  have bg3 := sml (i := gu) (by omega)
  have bg4 := sml (i := gv) (by omega)
  have rp : ∀ {S : Sto} {l : Nat}, S l = some (.lst [prD a c, shD x y p q, boxD gl gr gu gv]) → fitD S (.ref l) ∧ szR dep S (.ref l) ≤ lim := fun e => repb e (ba.up (by decide)) (bc.up (by decide)) (bx.up (by decide)) (by_.up (by decide)) (bp.up (by decide)) (bq.up (by decide)) (bg1.up (by decide)) (bg2.up (by decide)) (bg3.up (by decide)) (bg4.up (by decide))
  try simp only [wpSs, wpS, wpE, wpEs, wpC, wpAnd, wpOr, wpO, wpIt, opt_some, onI_int, onB_bl, onR_ref, arg1_one, look, joinO, start, List.map_cons, List.map_nil, List.length_cons, List.length_nil, List.replicate, List.cons_append, List.nil_append, List.append_nil, List.getElem?_cons_succ, List.getElem?_cons_zero, kcD, Nat.reduceAdd, Nat.reduceSub, br_t, br_f, br_n, asg, setAll, List.set_cons_succ, List.set_cons_zero, tgs, wipe, eq_ii, ne_ii, lt_ii, le_ii, gt_ii, ge_ii, is_n, isn_n, is_b, isn_b, add_ii, sub_ii, mul_ii, mod_ii, fdiv_ii, pow_ii, isNon, biD, intD_i, intD_b, esLen, beq_self_eq_true, ixD_tup, lsOf_new, seqD_tup, seqD_fl, slD_tup, bools, Option.map_some, true_and, ixD_fl, lenD_tup, lenD_fl, ix30, ix31, ix32, at20, at21, at30, at31, at32, List.filterMap_cons, List.filterMap_nil]
  refine mkL_ok (by simp) fun l hl => ?_
  have w2 := w1.ext (Ext.new (o := .lst [prD a c, shD x y p q, boxD gl gr gu gv]) hl)
  have e2 : (upd S1 l (.lst [prD a c, shD x y p q, boxD gl gr gu gv])) l = some (.lst [prD a c, shD x y p q, boxD gl gr gu gv]) := upd_at
  generalize upd S1 l (.lst [prD a c, shD x y p q, boxD gl gr gu gv]) = S2 at *
  obtain ⟨f1, f2⟩ := rp e2
  refine ⟨f1, f2, ?_⟩
  refine call h2 ⟨a, c, x, y, p, q, gl, gr, gu, gv, rfl, o, bl, g, a1, c1, p6, q6, fun v S3 k3 hv => ?_⟩
  have w3 := w2.ext k3
  try simp only [wpSs, wpS, wpE, wpEs, wpC, wpAnd, wpOr, wpO, wpIt, opt_some, onI_int, onB_bl, onR_ref, arg1_one, look, joinO, start, List.map_cons, List.map_nil, List.length_cons, List.length_nil, List.replicate, List.cons_append, List.nil_append, List.append_nil, List.getElem?_cons_succ, List.getElem?_cons_zero, kcD, Nat.reduceAdd, Nat.reduceSub, br_t, br_f, br_n, asg, setAll, List.set_cons_succ, List.set_cons_zero, tgs, wipe, eq_ii, ne_ii, lt_ii, le_ii, gt_ii, ge_ii, is_n, isn_n, is_b, isn_b, add_ii, sub_ii, mul_ii, mod_ii, fdiv_ii, pow_ii, isNon, biD, intD_i, intD_b, esLen, beq_self_eq_true, ixD_tup, lsOf_new, seqD_tup, seqD_fl, slD_tup, bools, Option.map_some, true_and, ixD_fl, lenD_tup, lenD_fl, ix30, ix31, ix32, at20, at21, at30, at31, at32, List.filterMap_cons, List.filterMap_nil]
  refine call h4 ⟨a, c, x, y, p, q, gl, gr, gu, gv, rfl, o, bl, g, on_of hb hpq, fun v1 S4 k4 hv1 bv1 => ?_⟩
  have e1 := lst_uniq hv1 hv
  subst e1
  try simp only [wpSs, wpS, wpE, wpEs, wpC, wpAnd, wpOr, wpO, wpIt, opt_some, onI_int, onB_bl, onR_ref, arg1_one, look, joinO, start, List.map_cons, List.map_nil, List.length_cons, List.length_nil, List.replicate, List.cons_append, List.nil_append, List.append_nil, List.getElem?_cons_succ, List.getElem?_cons_zero, kcD, Nat.reduceAdd, Nat.reduceSub, br_t, br_f, br_n, asg, setAll, List.set_cons_succ, List.set_cons_zero, tgs, wipe, eq_ii, ne_ii, lt_ii, le_ii, gt_ii, ge_ii, is_n, isn_n, is_b, isn_b, add_ii, sub_ii, mul_ii, mod_ii, fdiv_ii, pow_ii, isNon, biD, intD_i, intD_b, esLen, beq_self_eq_true, ixD_tup, lsOf_new, seqD_tup, seqD_fl, slD_tup, bools, Option.map_some, true_and, ixD_fl, lenD_tup, lenD_fl, ix30, ix31, ix32, at20, at21, at30, at31, at32, List.filterMap_cons, List.filterMap_nil]
  refine call h6 ⟨a, c, x, y, p, q, gl, gr, gu, gv, rfl, o, g, sm40 (by omega), sm40 (by omega), sm40 (by omega), sm40 (by omega), sm40 (by omega), sm40 (by omega), fun v2 S5 k5 hv2 _ => ?_⟩
  have e3 := lst_uniq hv2 hv
  subst e3
  try simp only [wpSs, wpS, wpE, wpEs, wpC, wpAnd, wpOr, wpO, wpIt, opt_some, onI_int, onB_bl, onR_ref, arg1_one, look, joinO, start, List.map_cons, List.map_nil, List.length_cons, List.length_nil, List.replicate, List.cons_append, List.nil_append, List.append_nil, List.getElem?_cons_succ, List.getElem?_cons_zero, kcD, Nat.reduceAdd, Nat.reduceSub, br_t, br_f, br_n, asg, setAll, List.set_cons_succ, List.set_cons_zero, tgs, wipe, eq_ii, ne_ii, lt_ii, le_ii, gt_ii, ge_ii, is_n, isn_n, is_b, isn_b, add_ii, sub_ii, mul_ii, mod_ii, fdiv_ii, pow_ii, isNon, biD, intD_i, intD_b, esLen, beq_self_eq_true, ixD_tup, lsOf_new, seqD_tup, seqD_fl, slD_tup, bools, Option.map_some, true_and, ixD_fl, lenD_tup, lenD_fl, ix30, ix31, ix32, at20, at21, at30, at31, at32, List.filterMap_cons, List.filterMap_nil]
  refine mkL_ok (by simp) fun f hf => ?_
  try simp only [wpSs, wpS, wpE, wpEs, wpC, wpAnd, wpOr, wpO, wpIt, opt_some, onI_int, onB_bl, onR_ref, arg1_one, look, joinO, start, List.map_cons, List.map_nil, List.length_cons, List.length_nil, List.replicate, List.cons_append, List.nil_append, List.append_nil, List.getElem?_cons_succ, List.getElem?_cons_zero, kcD, Nat.reduceAdd, Nat.reduceSub, br_t, br_f, br_n, asg, setAll, List.set_cons_succ, List.set_cons_zero, tgs, wipe, eq_ii, ne_ii, lt_ii, le_ii, gt_ii, ge_ii, is_n, isn_n, is_b, isn_b, add_ii, sub_ii, mul_ii, mod_ii, fdiv_ii, pow_ii, isNon, biD, intD_i, intD_b, esLen, beq_self_eq_true, ixD_tup, lsOf_new, seqD_tup, seqD_fl, slD_tup, bools, Option.map_some, true_and, ixD_fl, lenD_tup, lenD_fl, ix30, ix31, ix32, at20, at21, at30, at31, at32, List.filterMap_cons, List.filterMap_nil]
  refine mkL_ok (by simp) fun g' hg => ?_
  have hfg : f ≠ g' := ne_new upd_at hg
  refine call h3 ⟨11, by decide, _, _, rfl, sm_lists (m := 10) (by rw [upd_off hfg, upd_at]) upd_at (sm_lst hv), fun S6 k6 => ?_⟩
  have w6 := w3.ext ((((k4.trans k5).trans (Ext.new hf)).trans (Ext.new hg)).trans k6)
  try simp only [wpSs, wpS, wpE, wpEs, wpC, wpAnd, wpOr, wpO, wpIt, opt_some, onI_int, onB_bl, onR_ref, arg1_one, look, joinO, start, List.map_cons, List.map_nil, List.length_cons, List.length_nil, List.replicate, List.cons_append, List.nil_append, List.append_nil, List.getElem?_cons_succ, List.getElem?_cons_zero, kcD, Nat.reduceAdd, Nat.reduceSub, br_t, br_f, br_n, asg, setAll, List.set_cons_succ, List.set_cons_zero, tgs, wipe, eq_ii, ne_ii, lt_ii, le_ii, gt_ii, ge_ii, is_n, isn_n, is_b, isn_b, add_ii, sub_ii, mul_ii, mod_ii, fdiv_ii, pow_ii, isNon, biD, intD_i, intD_b, esLen, beq_self_eq_true, ixD_tup, lsOf_new, seqD_tup, seqD_fl, slD_tup, bools, Option.map_some, true_and, ixD_fl, lenD_tup, lenD_fl, ix30, ix31, ix32, at20, at21, at30, at31, at32, List.filterMap_cons, List.filterMap_nil]
  refine call h4 ⟨a, c, x, y, p, q, gl, gr, gu, gv, rfl, o, bl, g, on_of hb hpq, fun v3 S6b k6b hv3 _ => ?_⟩
  have e5 := lst_uniq hv3 hv
  subst e5
  try simp only [wpSs, wpS, wpE, wpEs, wpC, wpAnd, wpOr, wpO, wpIt, opt_some, onI_int, onB_bl, onR_ref, arg1_one, look, joinO, start, List.map_cons, List.map_nil, List.length_cons, List.length_nil, List.replicate, List.cons_append, List.nil_append, List.append_nil, List.getElem?_cons_succ, List.getElem?_cons_zero, kcD, Nat.reduceAdd, Nat.reduceSub, br_t, br_f, br_n, asg, setAll, List.set_cons_succ, List.set_cons_zero, tgs, wipe, eq_ii, ne_ii, lt_ii, le_ii, gt_ii, ge_ii, is_n, isn_n, is_b, isn_b, add_ii, sub_ii, mul_ii, mod_ii, fdiv_ii, pow_ii, isNon, biD, intD_i, intD_b, esLen, beq_self_eq_true, ixD_tup, lsOf_new, seqD_tup, seqD_fl, slD_tup, bools, Option.map_some, true_and, ixD_fl, lenD_tup, lenD_fl, ix30, ix31, ix32, at20, at21, at30, at31, at32, List.filterMap_cons, List.filterMap_nil]
  refine call h3 ⟨11, by decide, _, _, rfl, sm_lst (m := 9) hv, fun S6c k6c => ?_⟩
  have w6 := w6.ext (k6b.trans k6c)
  simp only [wpSs, wpS, wpE, wpEs, wpC, wpAnd, wpOr, wpO, wpIt, opt_some, onI_int, onB_bl, onR_ref, arg1_one, look, joinO, start, List.map_cons, List.map_nil, List.length_cons, List.length_nil, List.replicate, List.cons_append, List.nil_append, List.append_nil, List.getElem?_cons_succ, List.getElem?_cons_zero, kcD, Nat.reduceAdd, Nat.reduceSub, br_t, br_f, br_n, asg, setAll, List.set_cons_succ, List.set_cons_zero, tgs, wipe, eq_ii, ne_ii, lt_ii, le_ii, gt_ii, ge_ii, is_n, isn_n, is_b, isn_b, add_ii, sub_ii, mul_ii, mod_ii, fdiv_ii, pow_ii, isNon, biD, intD_i, intD_b, esLen, beq_self_eq_true, ixD_tup, lsOf_new, seqD_tup, seqD_fl, slD_tup, bools, Option.map_some, true_and, ixD_fl, lenD_tup, lenD_fl, ix30, ix31, ix32, at20, at21, at30, at31, at32, List.filterMap_cons, List.filterMap_nil, at40, at41, at42, at43, boxD, compW, Option.toList]
  have sx := bx.sm (show 100 ≤ 4000 by decide)
  have sy := by_.sm (show 100 ≤ 4000 by decide)
  have sa := ba.sm (show 100 ≤ 4000 by decide)
  have sc := bc.sm (show 100 ≤ 4000 by decide)
  have sg1 := bg1.sm (show 100 ≤ 4000 by decide)
  have sg2 := bg2.sm (show 100 ≤ 4000 by decide)
  have sg3 := bg3.sm (show 100 ≤ 4000 by decide)
  have sg4 := bg4.sm (show 100 ≤ 4000 by decide)
  have up : ∀ {i j : Int}, i ≤ j → i * 100000000 ≤ j * 100000000 := fun h => Int.mul_le_mul_of_nonneg_right h (by decide)
  have nn : ∀ {i : Int}, 0 ≤ i → 0 ≤ i * 100000000 := fun h => Int.mul_nonneg h (by decide)
  have hb2 : 0 ≤ x * 100000000 ∧ x * 100000000 ≤ a * 100000000 ∧ 0 ≤ y * 100000000 ∧ y * 100000000 ≤ c * 100000000 := ⟨nn hb.1, up hb.2.1, nn hb.2.2.1, up hb.2.2.2⟩
  have o2 : OkL ⟨a * 100000000, c * 100000000, x * 100000000, y * 100000000, p, q⟩ := ⟨(by show 0 < a * 100000000; omega), (by show 0 < c * 100000000; omega), hb2.1, hb2.2.1, hb2.2.2.1, hb2.2.2.2, hpq⟩
  have bl2 : BL ⟨a * 100000000, c * 100000000, x * 100000000, y * 100000000, p, q⟩ := ⟨(ba.mul bL).up (by decide), (bc.mul bL).up (by decide), (bx.mul bL).up (by decide), (by_.mul bL).up (by decide), bp.up (by decide), bq.up (by decide)⟩
  have g2 : OkB (a * 100000000) (c * 100000000) (gl * 100000000) (gr * 100000000) (gu * 100000000) (gv * 100000000) := ⟨nn g.l0, up g.lr, up g.ra, nn g.o0, up g.oh, up g.hc⟩
  refine ⟨sx, sL, sy, sL, len_lim (by decide), len_lim (by decide), sg1, sL, sg2, sL, sg3, sL, sg4, sL, fun f5 hf5 => ?_⟩
  have w7 := w6.ext (Ext.new (o := .lst [.int (gl * 100000000), .int (gr * 100000000), .int (gu * 100000000), .int (gv * 100000000)]) hf5)
  rw [sqOf_ref upd_at, opt_some]
  generalize upd S6c f5 (.lst [.int (gl * 100000000), .int (gr * 100000000), .int (gu * 100000000), .int (gv * 100000000)]) = S6d at *
  refine ⟨sa, sL, sc, sL, len_lim (by decide), ?_⟩
  refine call h4 ⟨a * 100000000, c * 100000000, x * 100000000, y * 100000000, p, q, gl * 100000000, gr * 100000000, gu * 100000000, gv * 100000000, rfl, o2, bl2, g2, on_of hb2 hpq, fun u S7 k7 hu bu => ?_⟩
  try simp only [wpSs, wpS, wpE, wpEs, wpC, wpAnd, wpOr, wpO, wpIt, opt_some, onI_int, onB_bl, onR_ref, arg1_one, look, joinO, start, List.map_cons, List.map_nil, List.length_cons, List.length_nil, List.replicate, List.cons_append, List.nil_append, List.append_nil, List.getElem?_cons_succ, List.getElem?_cons_zero, kcD, Nat.reduceAdd, Nat.reduceSub, br_t, br_f, br_n, asg, setAll, List.set_cons_succ, List.set_cons_zero, tgs, wipe, eq_ii, ne_ii, lt_ii, le_ii, gt_ii, ge_ii, is_n, isn_n, is_b, isn_b, add_ii, sub_ii, mul_ii, mod_ii, fdiv_ii, pow_ii, isNon, biD, intD_i, intD_b, esLen, beq_self_eq_true, ixD_tup, lsOf_new, seqD_tup, seqD_fl, slD_tup, bools, Option.map_some, true_and, ixD_fl, lenD_tup, lenD_fl, ix30, ix31, ix32, at20, at21, at30, at31, at32, List.filterMap_cons, List.filterMap_nil]
  obtain ⟨b1, b2⟩ := lst_big (P' := BoxT (a * 100000000) (c * 100000000) (x * 100000000) (y * 100000000) p q (gl * 100000000) (gr * 100000000) (gu * 100000000) (gv * 100000000)) (show (0 : Int) < 100000000 by decide) (fun t d => box_big (by decide)) (fun hd hd' e h => box_sc hd hd' e h) hv
  have fin : ∀ S8, Ext S7 S8 → ∀ (l2 : Nat), S8 l2 = none → fitD (upd S8 l2 (.lst [prD a c, shD x y p q, boxD gl gr gu gv])) (.ref l2) ∧ szR dep (upd S8 l2 (.lst [prD a c, shD x y p q, boxD gl gr gu gv])) (.ref l2) ≤ lim ∧ cmpD .ne (.str (G.rp (toQ dep (upd S8 l2 (.lst [prD a c, shD x y p q, boxD gl gr gu gv])) (.ref l2)))) (.str (G.rp (toQ dep S2 (.ref l)))) (upd S8 l2 (.lst [prD a c, shD x y p q, boxD gl gr gu gv])) (fun k => br k (K.rt (.bl false) (upd S8 l2 (.lst [prD a c, shD x y p q, boxD gl gr gu gv]))) (K.nx [some (.ref w), some (prD a c), some (shD x y p q), some (.int 100000000), o4, some (boxD gl gr gu gv), some (.str (G.rp (toQ dep S2 (.ref l)))), some v3, some (shD (x * 100000000) (y * 100000000) p q), some (boxD (gl * 100000000) (gr * 100000000) (gu * 100000000) (gv * 100000000)), some u, o11] (upd S8 l2 (.lst [prD a c, shD x y p q, boxD gl gr gu gv])))) := by
    intro S8 k8 l2 hl2
    obtain ⟨f1, f2⟩ := rp (S := upd S8 l2 (.lst [prD a c, shD x y p q, boxD gl gr gu gv])) (l := l2) upd_at
    refine ⟨f1, f2, ?_⟩
    rw [rep_same e2 (S' := upd S8 l2 (.lst [prD a c, shD x y p q, boxD gl gr gu gv])) (l' := l2) upd_at]
    exact ne_str_self (br_f.mpr (kk _ _ _ _ _ _ _ _ ((w7.ext (k7.trans k8)).ext (Ext.new hl2))))
  have hv' := hv
  rcases hv with ⟨rfl, _⟩ | ⟨t, d, rfl, _⟩
  · have e4 := lst_uniq hu (b1 rfl)
    subst e4
    refine br_if (fun _ => ?_) fun z => by cases z
    refine call h3 ⟨11, by decide, _, _, rfl, sm_lst (m := 9) hu, fun S8 k8 => ?_⟩
    simp only [wpSs, wpS, wpE, wpEs, wpC, wpAnd, wpOr, wpO, wpIt, opt_some, onI_int, onB_bl, onR_ref, arg1_one, look, joinO, start, List.map_cons, List.map_nil, List.length_cons, List.length_nil, List.replicate, List.cons_append, List.nil_append, List.append_nil, List.getElem?_cons_succ, List.getElem?_cons_zero, kcD, Nat.reduceAdd, Nat.reduceSub, br_t, br_f, br_n, asg, setAll, List.set_cons_succ, List.set_cons_zero, tgs, wipe, eq_ii, ne_ii, lt_ii, le_ii, gt_ii, ge_ii, is_n, isn_n, is_b, isn_b, add_ii, sub_ii, mul_ii, mod_ii, fdiv_ii, pow_ii, isNon, biD, intD_i, intD_b, esLen, beq_self_eq_true, ixD_tup, lsOf_new, seqD_tup, seqD_fl, slD_tup, bools, Option.map_some, true_and, ixD_fl, lenD_tup, lenD_fl, ix30, ix31, ix32, at20, at21, at30, at31, at32, List.filterMap_cons, List.filterMap_nil]
    exact mkL_ok (by simp) fun l2 hl2 => fin S8 k8 l2 hl2
  · obtain ⟨d0, hb3⟩ := b2 t d rfl
    have e4 := lst_uniq hu hb3
    subst e4
    obtain ⟨bt, bd⟩ := bv1 t d rfl
    refine br_if (fun z => by cases z) fun _ => ?_
    try simp only [wpSs, wpS, wpE, wpEs, wpC, wpAnd, wpOr, wpO, wpIt, opt_some, onI_int, onB_bl, onR_ref, arg1_one, look, joinO, start, List.map_cons, List.map_nil, List.length_cons, List.length_nil, List.replicate, List.cons_append, List.nil_append, List.append_nil, List.getElem?_cons_succ, List.getElem?_cons_zero, kcD, Nat.reduceAdd, Nat.reduceSub, br_t, br_f, br_n, asg, setAll, List.set_cons_succ, List.set_cons_zero, tgs, wipe, eq_ii, ne_ii, lt_ii, le_ii, gt_ii, ge_ii, is_n, isn_n, is_b, isn_b, add_ii, sub_ii, mul_ii, mod_ii, fdiv_ii, pow_ii, isNon, biD, intD_i, intD_b, esLen, beq_self_eq_true, ixD_tup, lsOf_new, seqD_tup, seqD_fl, slD_tup, bools, Option.map_some, true_and, ixD_fl, lenD_tup, lenD_fl, ix30, ix31, ix32, at20, at21, at30, at31, at32, List.filterMap_cons, List.filterMap_nil]
    refine ⟨bt.sm (by decide), sL, call h5 ⟨_, _, rfl, d0, bd.up (by decide), ?_⟩⟩
    refine call h3 ⟨11, by decide, _, _, rfl, sm_lst (m := 9) hu, fun S8 k8 => ?_⟩
    simp only [wpSs, wpS, wpE, wpEs, wpC, wpAnd, wpOr, wpO, wpIt, opt_some, onI_int, onB_bl, onR_ref, arg1_one, look, joinO, start, List.map_cons, List.map_nil, List.length_cons, List.length_nil, List.replicate, List.cons_append, List.nil_append, List.append_nil, List.getElem?_cons_succ, List.getElem?_cons_zero, kcD, Nat.reduceAdd, Nat.reduceSub, br_t, br_f, br_n, asg, setAll, List.set_cons_succ, List.set_cons_zero, tgs, wipe, eq_ii, ne_ii, lt_ii, le_ii, gt_ii, ge_ii, is_n, isn_n, is_b, isn_b, add_ii, sub_ii, mul_ii, mod_ii, fdiv_ii, pow_ii, isNon, biD, intD_i, intD_b, esLen, beq_self_eq_true, ixD_tup, lsOf_new, seqD_tup, seqD_fl, slD_tup, bools, Option.map_some, true_and, ixD_fl, lenD_tup, lenD_fl, ix30, ix31, ix32, at20, at21, at30, at31, at32, List.filterMap_cons, List.filterMap_nil]
    exact mkL_ok (by simp) fun l2 hl2 => fin S8 k8 l2 hl2
end M
namespace M
def _law_great_right_B0 : Ss := (.cons (.par 6 7 (.call 22 (.cons (.v 0) (.cons (.bin .add (.v 4) (.k (.int 1))) .nil))) (.ix (.lst (.cons (.k (.int 1)) (.cons (.bin .pow (.k (.int 10)) (.k (.int 4))) (.cons (.bin .pow (.k (.int 10)) (.k (.int 8))) .nil)))) (.call 22 (.cons (.v 0) (.cons (.k (.int 3)) .nil))))) (.cons (.set (.v 3) (.bin .add (.v 3) (.lst (.cons (.v 6) (.cons (.bi .min (.cons (.v 4) (.cons (.bin .add (.v 6) (.call 22 (.cons (.v 0) (.cons (.v 7) .nil)))) .nil))) .nil))))) .nil))
def _law_great_right_S0 : St := (.for_ (.v 4) (.seq (.v 1)) _law_great_right_B0)
def _law_great_right_A0 : Ss := (.cons (.set (.v 5) (.bi .tuple (.cons (.v 3) .nil))) (.cons (.ret (.call 23 (.cons (.call 20 (.cons (.v 1) (.cons (.v 2) (.cons (.v 5) .nil)))) (.cons (.call 37 (.cons (.v 1) (.cons (.v 2) (.cons (.v 5) .nil)))) .nil)))) .nil))
def _law_great_right_T : Ss := (.cons (.set (.v 1) (.tup (.cons (.bin .add (.k (.int 1)) (.call 22 (.cons (.v 0) (.cons (.bin .pow (.k (.int 10)) (.k (.int 9))) .nil)))) (.cons (.bin .add (.k (.int 1)) (.call 22 (.cons (.v 0) (.cons (.bin .pow (.k (.int 10)) (.k (.int 9))) .nil)))) .nil)))) (.cons (.par 2 3 (.call 25 (.cons (.v 0) (.cons (.v 1) (.cons (.bin .pow (.k (.int 10)) (.k (.int 9))) .nil)))) (.lst .nil)) (.cons _law_great_right_S0 _law_great_right_A0)))
theorem txt_sr {G : Gm} {ds : List D} {S0 : Sto} {Q : VK} {X : XK} {b : Ss} (hb : b = _law_small_right_T) (h1 : G.fn 31 = spEd) (h2 : G.fn 36 = spDue) (h3 : G.fn 23 = spSm) (h4 : G.fn 20 = spFB) (h5 : G.fn 26 = spLow) (h6 : G.fn 37 = spGD) (h7 : G.fn 24 = spDesk) (h8 : G.fn 25 = spRoll) (h : spSR ds S0 Q X) : ds.length = 1 ∧ wpSs G b (start 12 ds) S0 (kR Q X) := by
  obtain ⟨w, n, rfl, hw, hn, hq⟩ := h
  subst hb
  refine ⟨rfl, ?_⟩
  generalize hA : _law_small_right_A0 = A0
  generalize hB : _law_small_right_B0 = bo
  have e8 : (10 : Int) ^ Int.toNat 8 = 100000000 := by decide
  simp only [_law_small_right_T, _law_small_right_S0, hA, hB, wpSs, wpS, wpE, wpEs, wpC, wpAnd, wpOr, wpO, wpIt, opt_some, onI_int, onB_bl, onR_ref, arg1_one, look, joinO, start, List.map_cons, List.map_nil, List.length_cons, List.length_nil, List.replicate, List.cons_append, List.nil_append, List.append_nil, List.getElem?_cons_succ, List.getElem?_cons_zero, kcD, Nat.reduceAdd, Nat.reduceSub, br_t, br_f, br_n, asg, setAll, List.set_cons_succ, List.set_cons_zero, tgs, wipe, eq_ii, ne_ii, lt_ii, le_ii, gt_ii, ge_ii, is_n, isn_n, is_b, isn_b, add_ii, sub_ii, mul_ii, mod_ii, fdiv_ii, pow_ii, isNon, biD, intD_i, intD_b, esLen, beq_self_eq_true, ixD_tup, lsOf_new, seqD_tup, seqD_fl, slD_tup, bools, Option.map_some, true_and, ixD_fl, lenD_tup, lenD_fl, ix30, ix31, ix32, at20, at21, at30, at31, at32, List.filterMap_cons, List.filterMap_nil, e8]
  refine call h7 ⟨w, 8, n, rfl, by decide, by decide, hw, by omega, fun a c S1 a0 a1 c0 c1 w1 k1 => ?_⟩
  try simp only [wpSs, wpS, wpE, wpEs, wpC, wpAnd, wpOr, wpO, wpIt, opt_some, onI_int, onB_bl, onR_ref, arg1_one, look, joinO, start, List.map_cons, List.map_nil, List.length_cons, List.length_nil, List.replicate, List.cons_append, List.nil_append, List.append_nil, List.getElem?_cons_succ, List.getElem?_cons_zero, kcD, Nat.reduceAdd, Nat.reduceSub, br_t, br_f, br_n, asg, setAll, List.set_cons_succ, List.set_cons_zero, tgs, wipe, eq_ii, ne_ii, lt_ii, le_ii, gt_ii, ge_ii, is_n, isn_n, is_b, isn_b, add_ii, sub_ii, mul_ii, mod_ii, fdiv_ii, pow_ii, isNon, biD, intD_i, intD_b, esLen, beq_self_eq_true, ixD_tup, lsOf_new, seqD_tup, seqD_fl, slD_tup, bools, Option.map_some, true_and, ixD_fl, lenD_tup, lenD_fl, ix30, ix31, ix32, at20, at21, at30, at31, at32, List.filterMap_cons, List.filterMap_nil]
  refine call h8 ⟨w, a, c, 6, _, rfl, by decide, by decide, a0, Int.lt_of_le_of_lt a1 (by decide), c0, Int.lt_of_le_of_lt c1 (by decide), w1, by omega, fun x y p q S2 x0 x1 y0 y1 hpq p0 p1 q0 q1 w2 k2 => ?_⟩
  have s10 : sm 10 := sm_of 8 (by decide) (by decide)
  try simp only [wpSs, wpS, wpE, wpEs, wpC, wpAnd, wpOr, wpO, wpIt, opt_some, onI_int, onB_bl, onR_ref, arg1_one, look, joinO, start, List.map_cons, List.map_nil, List.length_cons, List.length_nil, List.replicate, List.cons_append, List.nil_append, List.append_nil, List.getElem?_cons_succ, List.getElem?_cons_zero, kcD, Nat.reduceAdd, Nat.reduceSub, br_t, br_f, br_n, asg, setAll, List.set_cons_succ, List.set_cons_zero, tgs, wipe, eq_ii, ne_ii, lt_ii, le_ii, gt_ii, ge_ii, is_n, isn_n, is_b, isn_b, add_ii, sub_ii, mul_ii, mod_ii, fdiv_ii, pow_ii, isNon, biD, intD_i, intD_b, esLen, beq_self_eq_true, ixD_tup, lsOf_new, seqD_tup, seqD_fl, slD_tup, bools, Option.map_some, true_and, ixD_fl, lenD_tup, lenD_fl, ix30, ix31, ix32, at20, at21, at30, at31, at32, List.filterMap_cons, List.filterMap_nil]
  refine ⟨s10, by decide, by decide, len_lim (by decide), ?_⟩
  have turn : ∀ (S : Sto) (m : Nat) (o4 o5 o6 o7 o8 o9 o10 o11 : Option D) (K : Kt), Well m S w → m + 20 < 2 ^ 57 → (∀ S' o5 o6 o7 o8 o9 o10 o11, Well (m + 10) S' w → K.nx [some (.ref w), some (prD a c), some (shD x y p q), some (.int 100000000), o4, o5, o6, o7, o8, o9, o10, o11] S') → wpSs G bo [some (.ref w), some (prD a c), some (shD x y p q), some (.int 100000000), o4, o5, o6, o7, o8, o9, o10, o11] S K := by
    intro S m o4 o5 o6 o7 o8 o9 o10 o11 K hw hm kk
    subst hB
    exact sr_turn h1 h2 h3 h4 h5 h6 a0 a1 c0 (by omega) ⟨x0, x1, y0, y1⟩ hpq (by omega) (by omega) hw hm kk
  refine ⟨by decide, by decide, by decide, by decide, ?_⟩
  refine rng_ok (fun i ρ S' => ∃ o4 o5 o6 o7 o8 o9 o10 o11, ρ = [some (.ref w), some (prD a c), some (shD x y p q), some (.int 100000000), o4, o5, o6, o7, o8, o9, o10, o11] ∧ Well (n + 12 + 10 * i) S' w) ⟨_, _, _, _, _, _, _, _, rfl, w2.le (by omega)⟩ ?_ ?_
  · rintro i ρ S3 nx' hlt ⟨o4, o5, o6, o7, o8, o9, o10, o11, rfl, w3⟩ hnx
    refine ⟨trivial, ?_⟩
    have hlt : (i : Int) < 3 := by omega
    exact turn S3 _ _ _ _ _ _ _ _ _ _ w3 (by omega) fun S' o5 o6 o7 o8 o9 o10 o11 w4 => hnx _ _ ⟨_, _, _, _, _, _, _, _, rfl, w4.le (by omega)⟩
  · rintro ρ S3 ⟨o4, o5, o6, o7, o8, o9, o10, o11, rfl, w3⟩
    refine ⟨trivial, ?_⟩
    subst hA
    simp only [_law_small_right_A0, wpSs, wpS, wpE, wpEs, wpC, wpAnd, wpOr, wpO, wpIt, opt_some, onI_int, onB_bl, onR_ref, arg1_one, look, joinO, start, List.map_cons, List.map_nil, List.length_cons, List.length_nil, List.replicate, List.cons_append, List.nil_append, List.append_nil, List.getElem?_cons_succ, List.getElem?_cons_zero, kcD, Nat.reduceAdd, Nat.reduceSub, br_t, br_f, br_n, asg, setAll, List.set_cons_succ, List.set_cons_zero, tgs, wipe, eq_ii, ne_ii, lt_ii, le_ii, gt_ii, ge_ii, is_n, isn_n, is_b, isn_b, add_ii, sub_ii, mul_ii, mod_ii, fdiv_ii, pow_ii, isNon, biD, intD_i, intD_b, esLen, beq_self_eq_true, ixD_tup, lsOf_new, seqD_tup, seqD_fl, slD_tup, bools, Option.map_some, true_and, ixD_fl, lenD_tup, lenD_fl, ix30, ix31, ix32, at20, at21, at30, at31, at32, List.filterMap_cons, List.filterMap_nil]
    exact hq _
/-! ### great tables -/
theorem ge_turn {G : Gm} (h1 : G.fn 22 = spDraw) {w n : Nat} {s : Int} (s0 : 1 ≤ s) (s1 : s ≤ 1000000000) {S : Sto} {K : Kt} {r : Nat} {xs : List D} {o1 o2 o5 o6 o7 : Option D} (hw : Well n S w) (hn : n + 10 < 2 ^ 58) (hr : r ≠ w) (er : S r = some (.lst xs)) (hl : xs.length < 10)
    (kk : ∀ o6 o7 r' u v S', Well (n + 5) S' w → r' ≠ w → S' r' = some (.lst (xs ++ [.int u, .int v])) → 0 ≤ u → u ≤ v → v ≤ s → K.nx [some (.ref w), o1, o2, some (.ref r'), some (.int s), o5, o6, o7] S') :
    wpSs G _law_great_right_B0 [some (.ref w), o1, o2, some (.ref r), some (.int s), o5, o6, o7] S K := by
  have s10 : sm 10 := sm_of 8 (by decide) (by decide)
  have e4 : (10 : Int) ^ Int.toNat 4 = 10000 := by decide
  have e8 : (10 : Int) ^ Int.toNat 8 = 100000000 := by decide
  simp only [_law_great_right_B0, wpSs, wpS, wpE, wpEs, wpC, wpAnd, wpOr, wpO, wpIt, opt_some, onI_int, onB_bl, onR_ref, arg1_one, look, joinO, start, List.map_cons, List.map_nil, List.length_cons, List.length_nil, List.replicate, List.cons_append, List.nil_append, List.append_nil, List.getElem?_cons_succ, List.getElem?_cons_zero, kcD, Nat.reduceAdd, Nat.reduceSub, br_t, br_f, br_n, asg, setAll, List.set_cons_succ, List.set_cons_zero, tgs, wipe, eq_ii, ne_ii, lt_ii, le_ii, gt_ii, ge_ii, is_n, isn_n, is_b, isn_b, add_ii, sub_ii, mul_ii, mod_ii, fdiv_ii, pow_ii, isNon, biD, intD_i, intD_b, esLen, beq_self_eq_true, ixD_tup, lsOf_new, seqD_tup, seqD_fl, slD_tup, bools, Option.map_some, true_and, ixD_fl, lenD_tup, lenD_fl, ix30, ix31, ix32, at20, at21, at30, at31, at32, List.filterMap_cons, List.filterMap_nil, e4, e8]
  refine call h1 ⟨w, s + 1, n, rfl, by omega, Int.lt_of_le_of_lt (show s + 1 ≤ 2000000000 by omega) (by decide), hw, by omega, fun d1 S1 d10 d11 w1 k1 => ?_⟩
  try simp only [wpSs, wpS, wpE, wpEs, wpC, wpAnd, wpOr, wpO, wpIt, opt_some, onI_int, onB_bl, onR_ref, arg1_one, look, joinO, start, List.map_cons, List.map_nil, List.length_cons, List.length_nil, List.replicate, List.cons_append, List.nil_append, List.append_nil, List.getElem?_cons_succ, List.getElem?_cons_zero, kcD, Nat.reduceAdd, Nat.reduceSub, br_t, br_f, br_n, asg, setAll, List.set_cons_succ, List.set_cons_zero, tgs, wipe, eq_ii, ne_ii, lt_ii, le_ii, gt_ii, ge_ii, is_n, isn_n, is_b, isn_b, add_ii, sub_ii, mul_ii, mod_ii, fdiv_ii, pow_ii, isNon, biD, intD_i, intD_b, esLen, beq_self_eq_true, ixD_tup, lsOf_new, seqD_tup, seqD_fl, slD_tup, bools, Option.map_some, true_and, ixD_fl, lenD_tup, lenD_fl, ix30, ix31, ix32, at20, at21, at30, at31, at32, List.filterMap_cons, List.filterMap_nil]
  refine ⟨s10, by decide, by decide, s10, by decide, by decide, mkL_ok (by simp) fun f hf => ?_⟩
  have ef : (upd S1 f (.lst [.int 1, .int 10000, .int 100000000])) f = some (.lst [.int 1, .int 10000, .int 100000000]) := upd_at
  have w3 := w1.ext (Ext.new (o := .lst [.int 1, .int 10000, .int 100000000]) hf)
  have k3 : Kp w S1 (upd S1 f (.lst [.int 1, .int 10000, .int 100000000])) := (Ext.new hf).kp w
  have hfw : f ≠ w := fun z => by obtain ⟨o, e⟩ := w1.some; rw [z, e] at hf; cases hf
  generalize upd S1 f (.lst [.int 1, .int 10000, .int 100000000]) = S3 at *
  refine call h1 ⟨w, 3, _, rfl, by decide, by decide, w3, by omega, fun d3 S4 d30 d31 w4 k4 => ?_⟩
  obtain ⟨x, ex, hx⟩ := at1x (a := .int 1) (b := .int 10000) (c := .int 100000000) d30 d31
  have ef := k4 _ _ hfw ef
  simp only [ixD_ref ef, ex, opt_some]
  obtain ⟨m, rfl, m0, m1⟩ : ∃ m : Int, x = .int m ∧ 1 ≤ m ∧ m ≤ 100000000 := by
    rcases hx with rfl | rfl | rfl
    · exact ⟨1, rfl, by omega, by omega⟩
    · exact ⟨10000, rfl, by omega, by omega⟩
    · exact ⟨100000000, rfl, by omega, by omega⟩
  try simp only [wpSs, wpS, wpE, wpEs, wpC, wpAnd, wpOr, wpO, wpIt, opt_some, onI_int, onB_bl, onR_ref, arg1_one, look, joinO, start, List.map_cons, List.map_nil, List.length_cons, List.length_nil, List.replicate, List.cons_append, List.nil_append, List.append_nil, List.getElem?_cons_succ, List.getElem?_cons_zero, kcD, Nat.reduceAdd, Nat.reduceSub, br_t, br_f, br_n, asg, setAll, List.set_cons_succ, List.set_cons_zero, tgs, wipe, eq_ii, ne_ii, lt_ii, le_ii, gt_ii, ge_ii, is_n, isn_n, is_b, isn_b, add_ii, sub_ii, mul_ii, mod_ii, fdiv_ii, pow_ii, isNon, biD, intD_i, intD_b, esLen, beq_self_eq_true, ixD_tup, lsOf_new, seqD_tup, seqD_fl, slD_tup, bools, Option.map_some, true_and, ixD_fl, lenD_tup, lenD_fl, ix30, ix31, ix32, at20, at21, at30, at31, at32, List.filterMap_cons, List.filterMap_nil]
  refine call h1 ⟨w, m, _, rfl, m0, Int.lt_of_le_of_lt m1 (by decide), w4, by omega, fun d5 S5 d50 d51 w5 k5 => ?_⟩
  simp only [wpSs, wpS, wpE, wpEs, wpC, wpAnd, wpOr, wpO, wpIt, opt_some, onI_int, onB_bl, onR_ref, arg1_one, look, joinO, start, List.map_cons, List.map_nil, List.length_cons, List.length_nil, List.replicate, List.cons_append, List.nil_append, List.append_nil, List.getElem?_cons_succ, List.getElem?_cons_zero, kcD, Nat.reduceAdd, Nat.reduceSub, br_t, br_f, br_n, asg, setAll, List.set_cons_succ, List.set_cons_zero, tgs, wipe, eq_ii, ne_ii, lt_ii, le_ii, gt_ii, ge_ii, is_n, isn_n, is_b, isn_b, add_ii, sub_ii, mul_ii, mod_ii, fdiv_ii, pow_ii, isNon, biD, intD_i, intD_b, esLen, beq_self_eq_true, ixD_tup, lsOf_new, seqD_tup, seqD_fl, slD_tup, bools, Option.map_some, true_and, ixD_fl, lenD_tup, lenD_fl, ix30, ix31, ix32, at20, at21, at30, at31, at32, List.filterMap_cons, List.filterMap_nil]
  have kall : Kp w S S5 := ((k1.trans k3).trans k4).trans k5
  have er7 := kall _ _ hr er
  obtain ⟨v, hv⟩ : ∃ v, (if d1 + d5 < s then d1 + d5 else s) = v := ⟨_, rfl⟩
  rw [hv]
  have v0 : d1 ≤ v ∧ v ≤ s := by
    rw [← hv]; split <;> omega
  refine mkL_ok (by simp) fun f3 hf3 => ?_
  have er8 := Ext.new (o := .lst [.int d1, .int v]) hf3 _ _ er7
  refine add_ref er8 upd_at (mkL_ok (by simp; omega) fun f4 hf4 => ?_)
  have w9 := w5.ext ((Ext.new (o := .lst [.int d1, .int v]) hf3).trans (Ext.new (o := .lst (xs ++ [.int d1, .int v])) hf4))
  refine kk _ _ f4 d1 v _ (w9.le (by omega)) (fun z => ?_) upd_at d10 v0.1 v0.2
  obtain ⟨o, e⟩ := (w5.ext (Ext.new (o := .lst [.int d1, .int v]) hf3)).some
  rw [z, e] at hf4; cases hf4
theorem txt_gr {G : Gm} {ds : List D} {S0 : Sto} {Q : VK} {X : XK} {b : Ss} (hb : b = _law_great_right_T) (h1 : G.fn 22 = spDraw) (h2 : G.fn 25 = spRoll) (h3 : G.fn 23 = spSm) (h4 : G.fn 20 = spFB) (h6 : G.fn 37 = spGD) (h : spSR ds S0 Q X) : ds.length = 1 ∧ wpSs G b (start 8 ds) S0 (kR Q X) := by
  obtain ⟨w, n, rfl, hw, hn, hq⟩ := h
  subst hb
  refine ⟨rfl, ?_⟩
  generalize hA : _law_great_right_A0 = A0
  generalize hB : _law_great_right_B0 = bo
  have e9 : (10 : Int) ^ Int.toNat 9 = 1000000000 := by decide
  have s10 : sm 10 := sm_of 8 (by decide) (by decide)
  simp only [_law_great_right_T, _law_great_right_S0, hA, hB, wpSs, wpS, wpE, wpEs, wpC, wpAnd, wpOr, wpO, wpIt, opt_some, onI_int, onB_bl, onR_ref, arg1_one, look, joinO, start, List.map_cons, List.map_nil, List.length_cons, List.length_nil, List.replicate, List.cons_append, List.nil_append, List.append_nil, List.getElem?_cons_succ, List.getElem?_cons_zero, kcD, Nat.reduceAdd, Nat.reduceSub, br_t, br_f, br_n, asg, setAll, List.set_cons_succ, List.set_cons_zero, tgs, wipe, eq_ii, ne_ii, lt_ii, le_ii, gt_ii, ge_ii, is_n, isn_n, is_b, isn_b, add_ii, sub_ii, mul_ii, mod_ii, fdiv_ii, pow_ii, isNon, biD, intD_i, intD_b, esLen, beq_self_eq_true, ixD_tup, lsOf_new, seqD_tup, seqD_fl, slD_tup, bools, Option.map_some, true_and, ixD_fl, lenD_tup, lenD_fl, ix30, ix31, ix32, at20, at21, at30, at31, at32, List.filterMap_cons, List.filterMap_nil, e9]
  refine ⟨s10, by decide, by decide, ?_⟩
  refine call h1 ⟨w, 1000000000, n, rfl, by decide, by decide, hw, by omega, fun u S1 u0 u1 w1 k1 => ?_⟩
  try simp only [wpSs, wpS, wpE, wpEs, wpC, wpAnd, wpOr, wpO, wpIt, opt_some, onI_int, onB_bl, onR_ref, arg1_one, look, joinO, start, List.map_cons, List.map_nil, List.length_cons, List.length_nil, List.replicate, List.cons_append, List.nil_append, List.append_nil, List.getElem?_cons_succ, List.getElem?_cons_zero, kcD, Nat.reduceAdd, Nat.reduceSub, br_t, br_f, br_n, asg, setAll, List.set_cons_succ, List.set_cons_zero, tgs, wipe, eq_ii, ne_ii, lt_ii, le_ii, gt_ii, ge_ii, is_n, isn_n, is_b, isn_b, add_ii, sub_ii, mul_ii, mod_ii, fdiv_ii, pow_ii, isNon, biD, intD_i, intD_b, esLen, beq_self_eq_true, ixD_tup, lsOf_new, seqD_tup, seqD_fl, slD_tup, bools, Option.map_some, true_and, ixD_fl, lenD_tup, lenD_fl, ix30, ix31, ix32, at20, at21, at30, at31, at32, List.filterMap_cons, List.filterMap_nil]
  refine ⟨s10, by decide, by decide, ?_⟩
  refine call h1 ⟨w, 1000000000, _, rfl, by decide, by decide, w1, by omega, fun v S2 v0 v1 w2 k2 => ?_⟩
  try simp only [wpSs, wpS, wpE, wpEs, wpC, wpAnd, wpOr, wpO, wpIt, opt_some, onI_int, onB_bl, onR_ref, arg1_one, look, joinO, start, List.map_cons, List.map_nil, List.length_cons, List.length_nil, List.replicate, List.cons_append, List.nil_append, List.append_nil, List.getElem?_cons_succ, List.getElem?_cons_zero, kcD, Nat.reduceAdd, Nat.reduceSub, br_t, br_f, br_n, asg, setAll, List.set_cons_succ, List.set_cons_zero, tgs, wipe, eq_ii, ne_ii, lt_ii, le_ii, gt_ii, ge_ii, is_n, isn_n, is_b, isn_b, add_ii, sub_ii, mul_ii, mod_ii, fdiv_ii, pow_ii, isNon, biD, intD_i, intD_b, esLen, beq_self_eq_true, ixD_tup, lsOf_new, seqD_tup, seqD_fl, slD_tup, bools, Option.map_some, true_and, ixD_fl, lenD_tup, lenD_fl, ix30, ix31, ix32, at20, at21, at30, at31, at32, List.filterMap_cons, List.filterMap_nil]
  obtain ⟨a, ha⟩ : ∃ a, 1 + u = a := ⟨_, rfl⟩
  obtain ⟨c, hc⟩ : ∃ c, 1 + v = c := ⟨_, rfl⟩
  rw [ha, hc]
  have a0 : 1 ≤ a := by omega
  have c0 : 1 ≤ c := by omega
  have a1 : a ≤ 1000000000 := by omega
  have c1 : c ≤ 1000000000 := by omega
  refine ⟨len_lim (by decide), s10, by decide, by decide, ?_⟩
  refine call h2 ⟨w, a, c, 1000000000, _, rfl, by decide, by decide, a0, Int.lt_of_le_of_lt a1 (by decide), c0, Int.lt_of_le_of_lt c1 (by decide), w2, by omega, fun x y p q S3 x0 x1 y0 y1 hpq p0 p1 q0 q1 w3 k3 => ?_⟩
  have big : ∀ {i : Int}, -1000000000 ≤ i → i ≤ 1000000000 → Bd 40 i := fun h1 h2 => lt_two 35 (by omega) (by decide)
  have ba := big (i := a) (by omega) a1
  have bc := big (i := c) (by omega) c1
  have bx := big (i := x) (by omega) (by omega)
  have by_ := big (i := y) (by omega) (by omega)
  have bp := big (i := p) (by omega) (by omega)
  have bq := big (i := q) (by omega) (by omega)
  refine mkL_ok (by simp) fun r hr => ?_
  have hrw : r ≠ w := fun z => by obtain ⟨o, e⟩ := w3.some; rw [z, e] at hr; cases hr
  have er : (upd S3 r (.lst [])) r = some (.lst []) := upd_at
  have w4 := w3.ext (Ext.new (o := .lst []) hr)
  generalize upd S3 r (.lst []) = S4 at *
  simp only [wpSs, wpS, wpE, wpEs, wpC, wpAnd, wpOr, wpO, wpIt, opt_some, onI_int, onB_bl, onR_ref, arg1_one, look, joinO, start, List.map_cons, List.map_nil, List.length_cons, List.length_nil, List.replicate, List.cons_append, List.nil_append, List.append_nil, List.getElem?_cons_succ, List.getElem?_cons_zero, kcD, Nat.reduceAdd, Nat.reduceSub, br_t, br_f, br_n, asg, setAll, List.set_cons_succ, List.set_cons_zero, tgs, wipe, eq_ii, ne_ii, lt_ii, le_ii, gt_ii, ge_ii, is_n, isn_n, is_b, isn_b, add_ii, sub_ii, mul_ii, mod_ii, fdiv_ii, pow_ii, isNon, biD, intD_i, intD_b, esLen, beq_self_eq_true, ixD_tup, lsOf_new, seqD_tup, seqD_fl, slD_tup, bools, Option.map_some, true_and, ixD_fl, lenD_tup, lenD_fl, ix30, ix31, ix32, at20, at21, at30, at31, at32, List.filterMap_cons, List.filterMap_nil, forW]
  subst hB
  refine ge_turn h1 a0 a1 w4 (by omega) hrw er (by simp) fun o6 o7 r2 l1 r1 S5 w5 hr2 e2 l0 lr1 ra => ?_
  refine ge_turn h1 c0 c1 w5 (by omega) hr2 e2 (by simp) fun o6 o7 r3 lo hi S6 w6 hr3 e3 o0 oh hc' => ?_
  subst hA
  simp only [_law_great_right_A0, wpSs, wpS, wpE, wpEs, wpC, wpAnd, wpOr, wpO, wpIt, opt_some, onI_int, onB_bl, onR_ref, arg1_one, look, joinO, start, List.map_cons, List.map_nil, List.length_cons, List.length_nil, List.replicate, List.cons_append, List.nil_append, List.append_nil, List.getElem?_cons_succ, List.getElem?_cons_zero, kcD, Nat.reduceAdd, Nat.reduceSub, br_t, br_f, br_n, asg, setAll, List.set_cons_succ, List.set_cons_zero, tgs, wipe, eq_ii, ne_ii, lt_ii, le_ii, gt_ii, ge_ii, is_n, isn_n, is_b, isn_b, add_ii, sub_ii, mul_ii, mod_ii, fdiv_ii, pow_ii, isNon, biD, intD_i, intD_b, esLen, beq_self_eq_true, ixD_tup, lsOf_new, seqD_tup, seqD_fl, slD_tup, bools, Option.map_some, true_and, ixD_fl, lenD_tup, lenD_fl, ix30, ix31, ix32, at20, at21, at30, at31, at32, List.filterMap_cons, List.filterMap_nil, sqOf_ref e3]
  have g : OkB a c l1 r1 lo hi := ⟨l0, lr1, ra, o0, oh, hc'⟩
  have o : OkL ⟨a, c, x, y, p, q⟩ := ⟨(by show 0 < a; omega), (by show 0 < c; omega), x0, x1, y0, y1, hpq⟩
  have bl : BL ⟨a, c, x, y, p, q⟩ := ⟨ba.up (by decide), bc.up (by decide), bx.up (by decide), by_.up (by decide), bp.up (by decide), bq.up (by decide)⟩
  refine call h4 ⟨a, c, x, y, p, q, l1, r1, lo, hi, rfl, o, bl, g, on_of ⟨x0, x1, y0, y1⟩ hpq, fun z S9 k9 hz bz => ?_⟩
  try simp only [wpSs, wpS, wpE, wpEs, wpC, wpAnd, wpOr, wpO, wpIt, opt_some, onI_int, onB_bl, onR_ref, arg1_one, look, joinO, start, List.map_cons, List.map_nil, List.length_cons, List.length_nil, List.replicate, List.cons_append, List.nil_append, List.append_nil, List.getElem?_cons_succ, List.getElem?_cons_zero, kcD, Nat.reduceAdd, Nat.reduceSub, br_t, br_f, br_n, asg, setAll, List.set_cons_succ, List.set_cons_zero, tgs, wipe, eq_ii, ne_ii, lt_ii, le_ii, gt_ii, ge_ii, is_n, isn_n, is_b, isn_b, add_ii, sub_ii, mul_ii, mod_ii, fdiv_ii, pow_ii, isNon, biD, intD_i, intD_b, esLen, beq_self_eq_true, ixD_tup, lsOf_new, seqD_tup, seqD_fl, slD_tup, bools, Option.map_some, true_and, ixD_fl, lenD_tup, lenD_fl, ix30, ix31, ix32, at20, at21, at30, at31, at32, List.filterMap_cons, List.filterMap_nil]
  refine call h6 ⟨a, c, x, y, p, q, l1, r1, lo, hi, rfl, o, g, ba, bc, bx, by_, bp, bq, fun z' S10 k10 hz' _ => ?_⟩
  have e := lst_uniq hz' hz
  subst e
  exact call h3 ⟨11, by decide, _, _, rfl, sm_lst (m := 9) hz, fun S11 _ => hq S11⟩
end M
namespace M
def law_B0 : Ss := (.cons (.if_ (.not (.call 38 (.cons (.call 21 (.cons (.v 0) (.cons (.v 1) .nil))) .nil))) (.cons (.ret (.k (.bl false))) .nil) .nil) .nil)
def law_S0 : St := (.for_ (.v 1) (.rng (.bi .max (.cons (.k (.int 5)) (.cons (.bi .min (.cons (.k (.int 10)) (.cons (.bi .len (.cons (.v 0) .nil)) .nil))) .nil)))) law_B0)
def law_A0 : Ss := (.cons (.if_ (.not (.call 39 (.cons (.call 21 (.cons (.v 0) (.cons (.k (.int 0)) .nil))) .nil))) (.cons (.ret (.k (.bl false))) .nil) .nil) (.cons (.set (.tup [2, 3, 4]) (.tup (.cons (.tup (.cons (.k (.int 4)) (.cons (.k (.int 2)) .nil))) (.cons (.tup (.cons (.k (.int 1)) (.cons (.k (.int 0)) (.cons (.k (.int 1)) (.cons (.k (.int 1)) .nil))))) (.cons (.bin .pow (.k (.int 10)) (.k (.int 9))) .nil))))) (.cons (.set (.v 5) (.comp (.call 20 (.cons (.v 2) (.cons (.v 3) (.cons (.v 6) .nil)))) (.v 6) (.seq (.tup (.cons (.tup (.cons (.k (.int 2)) (.cons (.k (.int 3)) (.cons (.k (.int 0)) (.cons (.k (.int 1)) .nil))))) (.cons (.tup (.cons (.k (.int 0)) (.cons (.k (.int 4)) (.cons (.k (.int 0)) (.cons (.k (.int 2)) .nil))))) (.cons (.tup (.cons (.k (.int 3)) (.cons (.k (.int 4)) (.cons (.k (.int 2)) (.cons (.k (.int 2)) .nil))))) (.cons (.tup (.cons (.k (.int 0)) (.cons (.k (.int 0)) (.cons (.k (.int 2)) (.cons (.k (.int 2)) .nil))))) .nil)))))) .none)) (.cons (.ex (.mt .append (.v 5) (.cons (.call 20 (.cons (.tup (.cons (.v 4) (.cons (.k (.int 5)) .nil))) (.cons (.tup (.cons (.k (.int 0)) (.cons (.k (.int 0)) (.cons (.v 4) (.cons (.k (.int 1)) .nil))))) (.cons (.tup (.cons (.bin .sub (.v 4) (.k (.int 1))) (.cons (.v 4) (.cons (.k (.int 2)) (.cons (.k (.int 3)) .nil))))) .nil)))) .nil))) (.cons (.ex (.mt .append (.v 5) (.cons (.call 20 (.cons (.tup (.cons (.v 4) (.cons (.v 4) .nil))) (.cons (.tup (.cons (.k (.int 7)) (.cons (.k (.int 0)) (.cons (.k (.int 0)) (.cons (.k (.int 3)) .nil))))) (.cons (.tup (.cons (.k (.int 7)) (.cons (.k (.int 9)) (.cons (.bin .sub (.v 4) (.k (.int 1))) (.cons (.v 4) .nil))))) .nil)))) .nil))) (.cons (.ret (.call 23 (.cons (.v 5) (.cons (.lst (.cons (.tup (.cons (.k (.int 1)) (.cons (.k (.int 1)) .nil))) (.cons (.tup (.cons (.k (.int 0)) (.cons (.k (.int 1)) .nil))) (.cons (.tup (.cons (.k (.int 2)) (.cons (.k (.int 1)) .nil))) (.cons (.k .non) (.cons (.tup (.cons (.bin .sub (.bin .mul (.k (.int 3)) (.v 4)) (.k (.int 1))) (.cons (.v 4) .nil))) (.cons (.tup (.cons (.bin .fdiv (.v 4) (.k (.int 3))) (.cons (.k (.int 1)) .nil))) .nil))))))) .nil)))) .nil))))))
def law_T : Ss := (.cons law_S0 law_A0)
theorem part_one (M : Int) : partB (prD M 1) = true := by
  rw [← low_one]; exact part_low0 (by decide)
theorem fold_id {s A d : Int} (hs : 0 < s) (hd : 0 < d) (h0 : 0 ≤ A) (h1 : A ≤ s * d) : foldT s A d = A := by
  have m0 := mulp hs hd
  have e : 2 * s * d = 2 * (s * d) := Int.mul_assoc ..
  unfold foldT
  rw [e, Int.emod_eq_of_lt h0 (by omega)]
  split <;> omega
theorem fold_per {s A d : Int} (j : Int) : foldT s (A + j * (2 * s * d)) d = foldT s A d := by
  unfold foldT
  rw [Int.add_mul_emod_self_right]
theorem ls1 : LstP (BoxT 4 2 1 0 1 1 2 3 0 1) (prD 1 1) := .inr ⟨1, 1, rfl, part_one _, by decide, by decide, .inr (.inl (.inl ⟨by decide, .inl ⟨⟨0, by decide⟩, by unfold Inn; decide⟩⟩)), fun t d t0 d0 z => by
  have z := (box_in ⟨by decide, by decide, by decide, by decide, by decide, by decide, .inl (by decide)⟩ ⟨by decide, by decide, by decide, by decide, by decide, by decide⟩ d0 z).1.1
  rcases Int.lt_or_le t d with h | h
  · rw [fold_id (by decide) d0 (by omega) (by omega)] at z; omega
  · omega⟩
theorem ls2 : LstP (BoxT 4 2 1 0 1 1 0 4 0 2) (prD 0 1) := .inr ⟨0, 1, rfl, part_one _, by decide, by decide, .inl ⟨by unfold Wst; decide, rfl⟩, fun t d t0 d0 z => by omega⟩
theorem ls3 : LstP (BoxT 4 2 1 0 1 1 3 4 2 2) (prD 2 1) := .inr ⟨2, 1, rfl, part_one _, by decide, by decide, .inr (.inr (.inl ⟨by decide, .inl ⟨⟨0, by decide⟩, by unfold Inn; decide⟩⟩)), fun t d t0 d0 z => by
  have z := (box_in ⟨by decide, by decide, by decide, by decide, by decide, by decide, .inl (by decide)⟩ ⟨by decide, by decide, by decide, by decide, by decide, by decide⟩ d0 z).2.1
  rcases Int.lt_or_le t (2 * d) with h | h
  · rw [fold_id (by decide) d0 (by omega) (by omega)] at z; omega
  · omega⟩
theorem ls4 : LstP (BoxT 4 2 1 0 1 1 0 0 2 2) .non := .inl ⟨rfl, fun t d t0 d0 z => by
  have z := (box_spot ⟨by decide, by decide, by decide, by decide, by decide, by decide, .inl (by decide)⟩ d0 ⟨by decide, by decide, by decide, by decide⟩).mp z
  have key : ∀ {u v : Int}, 1 * t = u * d → 1 * t = v * d → u = v := fun h1 h2 => Int.eq_of_mul_eq_mul_right (show d ≠ 0 by omega) (by rw [← h1, h2])
  obtain ⟨h1, h2⟩ := z
  rcases h1 with ⟨z, h1⟩ | ⟨z, h1⟩ <;> rcases h2 with ⟨z', h2⟩ | ⟨z', h2⟩
  all_goals
    have := key h1 h2
    omega⟩
theorem ls5 : LstP (BoxT 1000000000 5 0 0 1000000000 1 999999999 1000000000 2 3) (prD 2999999999 1000000000) := .inr ⟨2999999999, 1000000000, rfl, by decide, by decide, by decide, .inr (.inl (.inl ⟨by decide, .inl ⟨⟨1, by decide⟩, by unfold Inn; decide⟩⟩)), fun t d t0 d0 z => by
  have z := box_in ⟨by decide, by decide, by decide, by decide, by decide, by decide, .inl (by decide)⟩ ⟨by decide, by decide, by decide, by decide, by decide, by decide⟩ d0 z
  rcases Int.lt_or_le (1000000000 * t) (2999999999 * d) with h | h
  · have z1 := z.1.1
    have z2 := z.2.1
    rw [fold_id (by decide) d0 (by omega) (by omega)] at z2
    have e : (0 : Int) * d + 1000000000 * t = (1000000000 * t - 2000000000 * d) + 1 * (2 * 1000000000 * d) := by omega
    rw [e, fold_per, fold_id (by decide) d0 (by omega) (by omega)] at z1
    omega
  · omega⟩
theorem ls6 : LstP (BoxT 1000000000 1000000000 7 0 0 3 7 9 999999999 1000000000) (prD 333333333 1) := .inr ⟨333333333, 1, rfl, part_one _, by decide, by decide, .inr (.inr (.inl ⟨by decide, .inl ⟨⟨0, by decide⟩, by unfold Inn; decide⟩⟩)), fun t d t0 d0 z => by
  have z := (box_in ⟨by decide, by decide, by decide, by decide, by decide, by decide, .inr (by decide)⟩ ⟨by decide, by decide, by decide, by decide, by decide, by decide⟩ d0 z).2.1
  rcases Int.lt_or_le (3 * t) (999999999 * d) with h | h
  · rw [fold_id (by decide) d0 (by omega) (by omega)] at z; omega
  · omega⟩
theorem fb_at {G : Gm} (h4 : G.fn 20 = spFB) {a c x y p q l r lo hi : Int} {v : D} {S0 : Sto} {Q : VK} {X : XK} (hv : LstP (BoxT a c x y p q l r lo hi) v) (ha : 0 < a ∧ a ≤ 1000000000) (hc : 0 < c ∧ c ≤ 1000000000) (hb : 0 ≤ x ∧ x ≤ a ∧ 0 ≤ y ∧ y ≤ c) (hpq : p ≠ 0 ∨ q ≠ 0) (hd : p.natAbs ≤ 1000000001 ∧ q.natAbs ≤ 1000000001) (g : (0 ≤ l ∧ l ≤ r ∧ r ≤ a) ∧ 0 ≤ lo ∧ lo ≤ hi ∧ hi ≤ c) (k : ∀ S', Ext S0 S' → Q v S') : cl (G.fn 20) [prD a c, shD x y p q, boxD l r lo hi] S0 Q X := by
  have big : ∀ {i : Int}, i.natAbs ≤ 1000000001 → Bd 200 i := fun h => lt_two 40 (by omega) (by decide)
  exact call h4 ⟨a, c, x, y, p, q, l, r, lo, hi, rfl, ⟨ha.1, hc.1, hb.1, hb.2.1, hb.2.2.1, hb.2.2.2, hpq⟩, ⟨big (i := a) (by omega), big (i := c) (by omega), big (i := x) (by omega), big (i := y) (by omega), big hd.1, big hd.2⟩, ⟨g.1.1, g.1.2.1, g.1.2.2, g.2.1, g.2.2.1, g.2.2.2⟩, on_of hb hpq, fun w S' e hw _ => by rw [lst_uniq hw hv]; exact k S' e⟩
def spLaw : Sp := fun ds S Q _ => ∃ ns : List Int, ds = [.fl (ns.map .int)] ∧ ns.length ≤ 63 ∧ ∀ S', Q (.bl true) S'
theorem law_ok {G : Gm} {ds : List D} {S0 : Sto} {Q : VK} {X : XK} {b : Ss} (hb : b = law_T) (h1 : G.fn 21 = spWell) (h2 : G.fn 38 = spSR) (h3 : G.fn 39 = spSR) (h4 : G.fn 23 = spSm) (h5 : G.fn 20 = spFB) (h : spLaw ds S0 Q X) : ds.length = 1 ∧ wpSs G b (start 7 ds) S0 (kR Q X) := by
  obtain ⟨ns, rfl, hl, hq⟩ := h
  subst hb
  refine ⟨rfl, ?_⟩
  have l2 : 2 ≤ lim := len_lim (by decide)
  have l4 : 4 ≤ lim := len_lim (by decide)
  have e9 : (10 : Int) ^ Int.toNat 9 = 1000000000 := by decide
  have e91 : (1000000000 : Int) - 1 = 999999999 := by decide
  have s10 : sm 10 := sm_of 8 (by decide) (by decide)
  have last : ∀ (o1 : Option D) (S : Sto), wpSs G law_A0 [some (.fl (ns.map .int)), o1, none, none, none, none, none] S (kR Q X) := by
    intro o1 S
    simp only [law_A0, wpSs, wpS, wpE, wpEs, wpC, wpAnd, wpOr, wpO, wpIt, opt_some, onI_int, onB_bl, onR_ref, arg1_one, look, joinO, start, List.map_cons, List.map_nil, List.length_cons, List.length_nil, List.replicate, List.cons_append, List.nil_append, List.append_nil, List.getElem?_cons_succ, List.getElem?_cons_zero, kcD, Nat.reduceAdd, Nat.reduceSub, br_t, br_f, br_n, asg, setAll, List.set_cons_succ, List.set_cons_zero, tgs, wipe, eq_ii, ne_ii, lt_ii, le_ii, gt_ii, ge_ii, is_n, isn_n, is_b, isn_b, add_ii, sub_ii, mul_ii, mod_ii, fdiv_ii, pow_ii, isNon, biD, intD_i, intD_b, esLen, beq_self_eq_true, ixD_tup, lsOf_new, seqD_tup, seqD_fl, slD_tup, bools, Option.map_some, true_and, ixD_fl, lenD_tup, lenD_fl, ix30, ix31, ix32, at20, at21, at30, at31, at32, List.filterMap_cons, List.filterMap_nil, e9]
    refine call h1 ⟨ns, _, rfl, by decide, by decide, fun w hp S3 x3 hw => ?_⟩
    try simp only [wpSs, wpS, wpE, wpEs, wpC, wpAnd, wpOr, wpO, wpIt, opt_some, onI_int, onB_bl, onR_ref, arg1_one, look, joinO, start, List.map_cons, List.map_nil, List.length_cons, List.length_nil, List.replicate, List.cons_append, List.nil_append, List.append_nil, List.getElem?_cons_succ, List.getElem?_cons_zero, kcD, Nat.reduceAdd, Nat.reduceSub, br_t, br_f, br_n, asg, setAll, List.set_cons_succ, List.set_cons_zero, tgs, wipe, eq_ii, ne_ii, lt_ii, le_ii, gt_ii, ge_ii, is_n, isn_n, is_b, isn_b, add_ii, sub_ii, mul_ii, mod_ii, fdiv_ii, pow_ii, isNon, biD, intD_i, intD_b, esLen, beq_self_eq_true, ixD_tup, lsOf_new, seqD_tup, seqD_fl, slD_tup, bools, Option.map_some, true_and, ixD_fl, lenD_tup, lenD_fl, ix30, ix31, ix32, at20, at21, at30, at31, at32, List.filterMap_cons, List.filterMap_nil]
    refine call h3 ⟨w, 0, rfl, hw, by decide, fun S4 => ?_⟩
    simp only [wpSs, wpS, wpE, wpEs, wpC, wpAnd, wpOr, wpO, wpIt, opt_some, onI_int, onB_bl, onR_ref, arg1_one, look, joinO, start, List.map_cons, List.map_nil, List.length_cons, List.length_nil, List.replicate, List.cons_append, List.nil_append, List.append_nil, List.getElem?_cons_succ, List.getElem?_cons_zero, kcD, Nat.reduceAdd, Nat.reduceSub, br_t, br_f, br_n, asg, setAll, List.set_cons_succ, List.set_cons_zero, tgs, wipe, eq_ii, ne_ii, lt_ii, le_ii, gt_ii, ge_ii, is_n, isn_n, is_b, isn_b, add_ii, sub_ii, mul_ii, mod_ii, fdiv_ii, pow_ii, isNon, biD, intD_i, intD_b, esLen, beq_self_eq_true, ixD_tup, lsOf_new, seqD_tup, seqD_fl, slD_tup, bools, Option.map_some, true_and, ixD_fl, lenD_tup, lenD_fl, ix30, ix31, ix32, at20, at21, at30, at31, at32, List.filterMap_cons, List.filterMap_nil, compW, Option.toList]
    refine ⟨l2, l4, s10, by decide, by decide, len_lim (by decide), l4, l4, l4, l4, len_lim (by decide), len_lim (by decide), ?_⟩
    refine fb_at h5 ls1 (by decide) (by decide) (by decide) (by decide) (by decide) (by decide) fun S5 k5 => ?_
    refine fb_at h5 ls2 (by decide) (by decide) (by decide) (by decide) (by decide) (by decide) fun S6 k6 => ?_
    refine fb_at h5 ls3 (by decide) (by decide) (by decide) (by decide) (by decide) (by decide) fun S7 k7 => ?_
    refine fb_at h5 ls4 (by decide) (by decide) (by decide) (by decide) (by decide) (by decide) fun S8 k8 => ?_
    intro f hf
    have ef : (upd S8 f (.lst [prD 1 1, prD 0 1, prD 2 1, .non])) f = some (.lst [prD 1 1, prD 0 1, prD 2 1, .non]) := upd_at
    generalize upd S8 f (.lst [prD 1 1, prD 0 1, prD 2 1, .non]) = S9 at *
    rw [e91]
    refine ⟨l2, l4, l4, fb_at h5 ls5 (by decide) (by decide) (by decide) (by decide) (by decide) (by decide) fun S10 k10 => ?_⟩
    refine append_ref (k10 _ _ ef) (by simp) ?_
    rw [lsOf_ref upd_at]
    refine ⟨l2, l4, l4, fb_at h5 ls6 (by decide) (by decide) (by decide) (by decide) (by decide) (by decide) fun S11 k11 => ?_⟩
    refine append_ref (k11 _ _ upd_at) (by simp) ?_
    have e3 : (3 : Int) * 1000000000 - 1 = 2999999999 := by decide
    have e4 : Int.fdiv 1000000000 3 = 333333333 := by decide
    rw [e3, e4]
    have b3 : Bd 2 3 := by show Int.natAbs 3 < 2 ^ 2; decide
    have bL : Bd 30 1000000000 := by show Int.natAbs 1000000000 < 2 ^ 30; decide
    refine ⟨l2, l2, l2, b3.sm (by decide), bL.sm (by decide), l2, by decide, b3.smd (by decide), l2, mkL_ok (by simp) fun g hg => ?_⟩
    have hfg : f ≠ g := ne_new upd_at hg
    refine call h4 ⟨11, by decide, _, _, rfl, ⟨[prD 1 1, prD 0 1, prD 2 1, .non, prD 2999999999 1000000000, prD 333333333 1], by rw [upd_off hfg, upd_at]; rfl, upd_at, by simp, fun y hy => ?_⟩, fun S' _ => hq S'⟩
    simp only [List.mem_cons, List.not_mem_nil, or_false] at hy
    rcases hy with rfl | rfl | rfl | rfl | rfl | rfl <;> first | exact sm_pr | trivial
  simp only [law_T, law_S0]
  simp only [wpSs, wpS, wpE, wpEs, wpC, wpAnd, wpOr, wpO, wpIt, opt_some, onI_int, onB_bl, onR_ref, arg1_one, look, joinO, start, List.map_cons, List.map_nil, List.length_cons, List.length_nil, List.replicate, List.cons_append, List.nil_append, List.append_nil, List.getElem?_cons_succ, List.getElem?_cons_zero, kcD, Nat.reduceAdd, Nat.reduceSub, br_t, br_f, br_n, asg, setAll, List.set_cons_succ, List.set_cons_zero, tgs, wipe, eq_ii, ne_ii, lt_ii, le_ii, gt_ii, ge_ii, is_n, isn_n, is_b, isn_b, add_ii, sub_ii, mul_ii, mod_ii, fdiv_ii, pow_ii, isNon, biD, intD_i, intD_b, esLen, beq_self_eq_true, ixD_tup, lsOf_new, seqD_tup, seqD_fl, slD_tup, bools, Option.map_some, true_and, ixD_fl, lenD_tup, lenD_fl, ix30, ix31, ix32, at20, at21, at30, at31, at32, List.filterMap_cons, List.filterMap_nil, List.length_map] at last ⊢
  have hn : ∀ c : Int, 0 ≤ c → c ≤ 63 → (if (if c < 10 then c else 10) > 5 then (if c < 10 then c else 10) else 5) ≤ 10 ∧ 1 ≤ (if (if c < 10 then c else 10) > 5 then (if c < 10 then c else 10) else 5) := fun c h0 h1 => by split <;> (try split) <;> omega
  obtain ⟨hj, hj0⟩ := hn ns.length (by omega) (by omega)
  generalize (if (if ((ns.length : Nat) : Int) < 10 then ((ns.length : Nat) : Int) else 10) > 5 then (if ((ns.length : Nat) : Int) < 10 then ((ns.length : Nat) : Int) else 10) else 5) = j at *
  refine ⟨by omega, by omega, by omega, by omega, ?_⟩
  refine rng_ok (fun _ ρ S' => ∃ o1, ρ = [some (.fl (ns.map .int)), o1, none, none, none, none, none]) ⟨_, rfl⟩ ?_ ?_
  · rintro i ρ S2 nx' hlt ⟨o1, rfl⟩ hnx
    refine ⟨trivial, ?_⟩
    simp only [law_B0, wpSs, wpS, wpE, wpEs, wpC, wpAnd, wpOr, wpO, wpIt, opt_some, onI_int, onB_bl, onR_ref, arg1_one, look, joinO, start, List.map_cons, List.map_nil, List.length_cons, List.length_nil, List.replicate, List.cons_append, List.nil_append, List.append_nil, List.getElem?_cons_succ, List.getElem?_cons_zero, kcD, Nat.reduceAdd, Nat.reduceSub, br_t, br_f, br_n, asg, setAll, List.set_cons_succ, List.set_cons_zero, tgs, wipe, eq_ii, ne_ii, lt_ii, le_ii, gt_ii, ge_ii, is_n, isn_n, is_b, isn_b, add_ii, sub_ii, mul_ii, mod_ii, fdiv_ii, pow_ii, isNon, biD, intD_i, intD_b, esLen, beq_self_eq_true, ixD_tup, lsOf_new, seqD_tup, seqD_fl, slD_tup, bools, Option.map_some, true_and, ixD_fl, lenD_tup, lenD_fl, ix30, ix31, ix32, at20, at21, at30, at31, at32, List.filterMap_cons, List.filterMap_nil]
    refine call h1 ⟨ns, _, rfl, by omega, by omega, fun w hp S3 x3 hw => ?_⟩
    try simp only [wpSs, wpS, wpE, wpEs, wpC, wpAnd, wpOr, wpO, wpIt, opt_some, onI_int, onB_bl, onR_ref, arg1_one, look, joinO, start, List.map_cons, List.map_nil, List.length_cons, List.length_nil, List.replicate, List.cons_append, List.nil_append, List.append_nil, List.getElem?_cons_succ, List.getElem?_cons_zero, kcD, Nat.reduceAdd, Nat.reduceSub, br_t, br_f, br_n, asg, setAll, List.set_cons_succ, List.set_cons_zero, tgs, wipe, eq_ii, ne_ii, lt_ii, le_ii, gt_ii, ge_ii, is_n, isn_n, is_b, isn_b, add_ii, sub_ii, mul_ii, mod_ii, fdiv_ii, pow_ii, isNon, biD, intD_i, intD_b, esLen, beq_self_eq_true, ixD_tup, lsOf_new, seqD_tup, seqD_fl, slD_tup, bools, Option.map_some, true_and, ixD_fl, lenD_tup, lenD_fl, ix30, ix31, ix32, at20, at21, at30, at31, at32, List.filterMap_cons, List.filterMap_nil]
    refine call h2 ⟨w, 0, rfl, hw, by decide, fun S4 => ?_⟩
    simp only [wpSs, wpS, wpE, wpEs, wpC, wpAnd, wpOr, wpO, wpIt, opt_some, onI_int, onB_bl, onR_ref, arg1_one, look, joinO, start, List.map_cons, List.map_nil, List.length_cons, List.length_nil, List.replicate, List.cons_append, List.nil_append, List.append_nil, List.getElem?_cons_succ, List.getElem?_cons_zero, kcD, Nat.reduceAdd, Nat.reduceSub, br_t, br_f, br_n, asg, setAll, List.set_cons_succ, List.set_cons_zero, tgs, wipe, eq_ii, ne_ii, lt_ii, le_ii, gt_ii, ge_ii, is_n, isn_n, is_b, isn_b, add_ii, sub_ii, mul_ii, mod_ii, fdiv_ii, pow_ii, isNon, biD, intD_i, intD_b, esLen, beq_self_eq_true, ixD_tup, lsOf_new, seqD_tup, seqD_fl, slD_tup, bools, Option.map_some, true_and, ixD_fl, lenD_tup, lenD_fl, ix30, ix31, ix32, at20, at21, at30, at31, at32, List.filterMap_cons, List.filterMap_nil]
    exact hnx _ _ ⟨_, rfl⟩
  · rintro ρ S2 ⟨o1, rfl⟩
    exact ⟨trivial, last _ _⟩
end M
namespace K14.A
/-- is_integer: value, least, most -/
def b0 : M.Ss := (.cons (.if_ (.or (.not (.isi (.v 0) .int)) (.cons (.isi (.v 0) .bool) .nil)) (.cons (.ret (.k (.bl false))) .nil) .nil) (.cons (.ret (.and (.or (.cmp .is_ (.v 1) (.k .non)) (.cons (.cmp .le (.v 1) (.v 0)) .nil)) (.cons (.or (.cmp .is_ (.v 2) (.k .non)) (.cons (.cmp .le (.v 0) (.v 2)) .nil)) .nil))) .nil))
/-- divisor: one, other, here, there, rest -/
def b1 : M.Ss := (.cons (.par 2 3 (.bi .abs (.cons (.v 0) .nil)) (.bi .abs (.cons (.v 1) .nil))) (.cons (.while_ (.cmp .ne (.v 3) (.k (.int 0))) (.cons (.set (.v 4) (.bin .mod (.v 2) (.v 3))) (.cons (.set (.v 2) (.v 3)) (.cons (.set (.v 3) (.v 4)) .nil)))) (.cons (.ret (.v 2)) .nil)))
/-- fraction: top, bottom, common -/
def b2 : M.Ss := (.cons (.set (.v 2) (.ite (.cmp .gt (.v 1) (.k (.int 0))) (.call 1 (.cons (.v 0) (.cons (.v 1) .nil))) (.neg (.call 1 (.cons (.v 0) (.cons (.v 1) .nil)))))) (.cons (.ret (.tup (.cons (.bin .fdiv (.v 0) (.v 2)) (.cons (.bin .fdiv (.v 1) (.v 2)) .nil)))) .nil))
/-- is_less: one, other -/
def b3 : M.Ss := (.cons (.ret (.cmp .lt (.bin .mul (.ix (.v 0) (.k (.int 0))) (.ix (.v 1) (.k (.int 1)))) (.bin .mul (.ix (.v 1) (.k (.int 0))) (.ix (.v 0) (.k (.int 1)))))) .nil)
/-- least_of: times, found, time -/
def b4 : M.Ss := (.cons (.set (.v 1) (.k .non)) (.cons (.for_ (.v 2) (.seq (.v 0)) (.cons (.if_ (.and (.cmp .isn (.v 2) (.k .non)) (.cons (.or (.cmp .is_ (.v 1) (.k .non)) (.cons (.call 3 (.cons (.v 2) (.cons (.v 1) .nil))) .nil)) .nil)) (.cons (.set (.v 1) (.v 2)) .nil) .nil) .nil)) (.cons (.ret (.v 1)) .nil)))
/-- whole_sum: many, modulus, factor, start, found, top, rest -/
def b5 : M.Ss := (.cons (.set (.v 4) (.k (.int 0))) (.cons (.while_ (.cmp .gt (.v 0) (.k (.int 0))) (.cons (.set (.v 4) (.bin .add (.bin .add (.v 4) (.bin .mul (.bin .fdiv (.bin .mul (.v 0) (.bin .sub (.v 0) (.k (.int 1)))) (.k (.int 2))) (.bin .fdiv (.v 2) (.v 1)))) (.bin .mul (.v 0) (.bin .fdiv (.v 3) (.v 1))))) (.cons (.set (.v 2) (.bin .mod (.v 2) (.v 1))) (.cons (.set (.v 5) (.bin .add (.bin .mul (.v 2) (.v 0)) (.bin .mod (.v 3) (.v 1)))) (.cons (.set (.v 0) (.bin .fdiv (.v 5) (.v 1))) (.cons (.set (.v 3) (.bin .mod (.v 5) (.v 1))) (.cons (.set (.v 6) (.v 1)) (.cons (.set (.v 1) (.v 2)) (.cons (.set (.v 2) (.v 6)) .nil))))))))) (.cons (.ret (.v 4)) .nil)))
/-- count_within: many, modulus, factor, start, low, high, upper -/
def b6 : M.Ss := (.cons (.if_ (.cmp .gt (.v 4) (.v 5)) (.cons (.ret (.k (.int 0))) .nil) .nil) (.cons (.set (.v 6) (.call 5 (.cons (.v 0) (.cons (.v 1) (.cons (.v 2) (.cons (.bin .sub (.v 3) (.v 4)) .nil)))))) (.cons (.ret (.bin .sub (.v 6) (.call 5 (.cons (.v 0) (.cons (.v 1) (.cons (.v 2) (.cons (.bin .sub (.bin .sub (.v 3) (.v 5)) (.k (.int 1))) .nil))))))) .nil)))
/-- first_within: modulus, factor, start, low, high, most, bound, least, middle -/
def b7 : M.Ss := (.cons (.set (.v 5) (.bin .fdiv (.v 0) (.call 1 (.cons (.v 1) (.cons (.v 0) .nil))))) (.cons (.if_ (.cmp .eq (.call 6 (.cons (.v 5) (.cons (.v 0) (.cons (.v 1) (.cons (.v 2) (.cons (.v 3) (.cons (.v 4) .nil))))))) (.k (.int 0))) (.cons (.ret (.k .non)) .nil) .nil) (.cons (.set (.v 6) (.k (.int 1))) (.cons (.while_ (.and (.cmp .lt (.v 6) (.v 5)) (.cons (.cmp .eq (.call 6 (.cons (.v 6) (.cons (.v 0) (.cons (.v 1) (.cons (.v 2) (.cons (.v 3) (.cons (.v 4) .nil))))))) (.k (.int 0))) .nil)) (.cons (.set (.v 6) (.bin .mul (.v 6) (.k (.int 2)))) .nil)) (.cons (.set (.v 7) (.bin .fdiv (.v 6) (.k (.int 2)))) (.cons (.set (.v 5) (.bi .min (.cons (.v 5) (.cons (.v 6) .nil)))) (.cons (.while_ (.cmp .lt (.v 7) (.v 5)) (.cons (.set (.v 8) (.bin .fdiv (.bin .add (.v 7) (.v 5)) (.k (.int 2)))) (.cons (.if_ (.cmp .gt (.call 6 (.cons (.bin .add (.v 8) (.k (.int 1))) (.cons (.v 0) (.cons (.v 1) (.cons (.v 2) (.cons (.v 3) (.cons (.v 4) .nil))))))) (.k (.int 0))) (.cons (.set (.v 5) (.v 8)) .nil) (.cons (.set (.v 7) (.bin .add (.v 8) (.k (.int 1)))) .nil)) .nil))) (.cons (.ret (.v 7)) .nil))))))))
/-- are_table: value, side -/
def b8 : M.Ss := (.cons (.ret (.and (.isi (.v 0) .tuple) (.cons (.cmp .eq (.bi .len (.cons (.v 0) .nil)) (.k (.int 2))) (.cons (.bi .all (.cons (.comp (.call 0 (.cons (.v 1) (.cons (.k (.int 1)) (.cons (.k .non) .nil)))) (.v 1) (.seq (.v 0)) .none) .nil)) .nil)))) .nil)
/-- is_free_shot: value, one -/
def b9 : M.Ss := (.cons (.if_ (.or (.not (.isi (.v 0) .tuple)) (.cons (.cmp .ne (.bi .len (.cons (.v 0) .nil)) (.k (.int 4))) (.cons (.not (.bi .all (.cons (.comp (.call 0 (.cons (.v 1) (.cons (.k .non) (.cons (.k .non) .nil)))) (.v 1) (.seq (.v 0)) .none) .nil))) .nil))) (.cons (.ret (.k (.bl false))) .nil) .nil) (.cons (.ret (.and (.cmp .ge (.ix (.v 0) (.k (.int 0))) (.k (.int 0))) (.cons (.cmp .ge (.ix (.v 0) (.k (.int 1))) (.k (.int 0))) (.cons (.cmp .ne (.sl (.v 0) (.some (.k (.int 2))) .none) (.tup (.cons (.k (.int 0)) (.cons (.k (.int 0)) .nil)))) .nil)))) .nil))
/-- is_shot_on: table, value -/
def b10 : M.Ss := (.cons (.ret (.and (.call 9 (.cons (.v 1) .nil)) (.cons (.cmp .le (.ix (.v 1) (.k (.int 0))) (.ix (.v 0) (.k (.int 0)))) (.cons (.cmp .le (.ix (.v 1) (.k (.int 1))) (.ix (.v 0) (.k (.int 1)))) .nil)))) .nil)
/-- check_table: table -/
def b11 : M.Ss := (.cons (.if_ (.not (.call 8 (.cons (.v 0) .nil))) (.cons .nev .nil) .nil) .nil)
/-- check_shot: table, shot -/
def b12 : M.Ss := (.cons (.ex (.call 11 (.cons (.v 0) .nil))) (.cons (.if_ (.not (.call 10 (.cons (.v 0) (.cons (.v 1) .nil)))) (.cons .nev .nil) .nil) .nil))
/-- is_range: low, high, side -/
def b13 : M.Ss := (.cons (.ret (.and (.call 0 (.cons (.v 0) (.cons (.k (.int 0)) (.cons (.v 2) .nil)))) (.cons (.call 0 (.cons (.v 1) (.cons (.k (.int 0)) (.cons (.v 2) .nil)))) (.cons (.cmp .le (.v 0) (.v 1)) .nil)))) .nil)
/-- is_box: table, value -/
def b14 : M.Ss := (.cons (.if_ (.or (.not (.isi (.v 1) .tuple)) (.cons (.cmp .ne (.bi .len (.cons (.v 1) .nil)) (.k (.int 4))) .nil)) (.cons (.ret (.k (.bl false))) .nil) .nil) (.cons (.ret (.and (.call 13 (.cons (.ix (.v 1) (.k (.int 0))) (.cons (.ix (.v 1) (.k (.int 1))) (.cons (.ix (.v 0) (.k (.int 0))) .nil)))) (.cons (.call 13 (.cons (.ix (.v 1) (.k (.int 2))) (.cons (.ix (.v 1) (.k (.int 3))) (.cons (.ix (.v 0) (.k (.int 1))) .nil)))) .nil))) .nil))
/-- ranges: side, speed, low, high, first, second, one -/
def b15 : M.Ss := (.cons (.set (.v 4) (.tup (.cons (.bin .mul (.v 2) (.v 1)) (.cons (.bin .mul (.v 3) (.v 1)) .nil)))) (.cons (.set (.v 5) (.tup (.cons (.bi .max (.cons (.bin .mul (.bin .sub (.bin .mul (.k (.int 2)) (.v 0)) (.v 3)) (.v 1)) (.cons (.bin .add (.bin .mul (.v 3) (.v 1)) (.k (.int 1))) .nil))) (.cons (.bin .sub (.bin .mul (.bin .sub (.bin .mul (.k (.int 2)) (.v 0)) (.v 2)) (.v 1)) (.bi .int (.cons (.cmp .eq (.v 2) (.k (.int 0))) .nil))) .nil)))) (.cons (.ret (.comp (.v 6) (.v 6) (.seq (.tup (.cons (.v 4) (.cons (.v 5) .nil)))) (.some (.cmp .le (.ix (.v 6) (.k (.int 0))) (.ix (.v 6) (.k (.int 1))))))) .nil)))
/-- first_pass: side, speed, factor, start, low, high, found, least, most, some, number -/
def b16 : M.Ss := (.cons (.set (.v 6) (.lst .nil)) (.cons (.for_ (.tup [7, 8]) (.seq (.call 15 (.cons (.v 0) (.cons (.v 1) (.cons (.v 4) (.cons (.v 5) .nil)))))) (.cons (.ex (.mt .append (.v 6) (.cons (.call 7 (.cons (.bin .mul (.bin .mul (.k (.int 2)) (.v 0)) (.v 1)) (.cons (.v 2) (.cons (.v 3) (.cons (.v 7) (.cons (.v 8) .nil)))))) .nil))) .nil)) (.cons (.set (.v 9) (.comp (.v 10) (.v 10) (.seq (.v 6)) (.some (.cmp .isn (.v 10) (.k .non))))) (.cons (.ret (.ite (.cmp .ne (.v 9) (.lst .nil)) (.bi .min (.cons (.v 9) .nil)) (.k .non))) .nil))))
/-- axis_of: table, shot, spot, mate -/
def b17 : M.Ss := (.cons (.set (.v 3) (.bin .sub (.k (.int 1)) (.v 2))) (.cons (.ret (.tup (.cons (.ix (.v 1) (.v 2)) (.cons (.ix (.v 1) (.bin .add (.v 2) (.k (.int 2)))) (.cons (.ix (.v 0) (.v 2)) (.cons (.ix (.v 1) (.v 3)) (.cons (.ix (.v 1) (.bin .add (.v 3) (.k (.int 2)))) (.cons (.ix (.v 0) (.v 3)) .nil)))))))) .nil))
/-- pass_time: axis, goal, low, high, start, way, side, mate, mate_way, mate_side, found, image, first, speed, number -/
def b18 : M.Ss := (.cons (.set (.tup [4, 5, 6, 7, 8, 9]) (.v 0)) (.cons (.if_ (.cmp .eq (.v 5) (.k (.int 0))) (.cons (.ret (.k .non)) .nil) .nil) (.cons (.set (.v 10) (.lst .nil)) (.cons (.for_ (.v 11) (.seq (.tup (.cons (.v 1) (.cons (.neg (.v 1)) .nil)))) (.cons (.set (.v 12) (.bin .mod (.ite (.cmp .gt (.v 5) (.k (.int 0))) (.bin .sub (.v 11) (.v 4)) (.bin .sub (.v 4) (.v 11))) (.bin .mul (.k (.int 2)) (.v 6)))) (.cons (.set (.v 13) (.bi .abs (.cons (.v 5) .nil))) (.cons (.set (.v 14) (.call 16 (.cons (.v 9) (.cons (.v 13) (.cons (.bin .mul (.bin .mul (.k (.int 2)) (.v 6)) (.v 8)) (.cons (.bin .add (.bin .mul (.v 7) (.v 13)) (.bin .mul (.v 8) (.v 12))) (.cons (.v 2) (.cons (.v 3) .nil)))))))) (.cons (.if_ (.cmp .isn (.v 14) (.k .non)) (.cons (.ex (.mt .append (.v 10) (.cons (.call 2 (.cons (.bin .add (.v 12) (.bin .mul (.bin .mul (.k (.int 2)) (.v 6)) (.v 14))) (.cons (.v 13) .nil))) .nil))) .nil) .nil) .nil))))) (.cons (.ret (.call 4 (.cons (.v 10) .nil))) .nil)))))
/-- box_time: table, shot, box, left, right, low, high, first, second, found, goal -/
def b19 : M.Ss := (.cons (.set (.tup [3, 4, 5, 6]) (.v 2)) (.cons (.if_ (.and (.chain .le .le (.v 3) (.ix (.v 1) (.k (.int 0))) (.v 4)) (.cons (.chain .le .le (.v 5) (.ix (.v 1) (.k (.int 1))) (.v 6)) .nil)) (.cons (.ret (.tup (.cons (.k (.int 0)) (.cons (.k (.int 1)) .nil)))) .nil) .nil) (.cons (.set (.tup [7, 8]) (.tup (.cons (.call 17 (.cons (.v 0) (.cons (.v 1) (.cons (.k (.int 0)) .nil)))) (.cons (.call 17 (.cons (.v 0) (.cons (.v 1) (.cons (.k (.int 1)) .nil)))) .nil)))) (.cons (.set (.v 9) (.comp (.call 18 (.cons (.v 7) (.cons (.v 10) (.cons (.v 5) (.cons (.v 6) .nil))))) (.v 10) (.seq (.tup (.cons (.v 3) (.cons (.v 4) .nil)))) .none)) (.cons (.ret (.call 4 (.cons (.lst (.star (.v 9) (.star (.comp (.call 18 (.cons (.v 8) (.cons (.v 10) (.cons (.v 3) (.cons (.v 4) .nil))))) (.v 10) (.seq (.tup (.cons (.v 5) (.cons (.v 6) .nil)))) .none) .nil))) .nil))) .nil)))))
/-- first_in_box: table, shot, box -/
def b20 : M.Ss := (.cons (.ex (.call 12 (.cons (.v 0) (.cons (.v 1) .nil)))) (.cons (.if_ (.not (.call 14 (.cons (.v 0) (.cons (.v 2) .nil)))) (.cons .nev .nil) .nil) (.cons (.ret (.call 19 (.cons (.v 0) (.cons (.v 1) (.cons (.v 2) .nil))))) .nil)))
/-- _law_well: script, at, cell -/
def b21 : M.Ss := (.cons (.set (.v 2) (.ite (.cmp .lt (.v 1) (.bi .len (.cons (.v 0) .nil))) (.ix (.v 0) (.v 1)) (.k (.int 0)))) (.cons (.ret (.lst (.cons (.bi .max (.cons (.k (.int 0)) (.cons (.bin .sub (.bi .abs (.cons (.v 2) .nil)) (.bin .pow (.k (.int 10)) (.k (.int 18)))) .nil))) (.cons (.bin .add (.bin .add (.bin .mul (.bin .mod (.bi .int (.cons (.v 2) .nil)) (.bin .add (.bin .pow (.k (.int 10)) (.k (.int 37))) (.k (.int 151)))) (.k (.int 103))) (.bin .mul (.k (.int 71)) (.v 1))) (.k (.int 43))) (.cons (.k (.int 0)) .nil))))) .nil))
/-- _law_draw: well, most, blend, digit -/
def b22 : M.Ss := (.cons (.if_ (.cmp .gt (.ix (.v 0) (.k (.int 0))) (.k (.int 0))) (.cons (.set (.v 3) (.bin .mod (.bi .int (.cons (.ix (.v 0) (.k (.int 0))) .nil)) (.v 1))) (.cons (.six (.v 0) (.k (.int 0)) (.bin .fdiv (.ix (.v 0) (.k (.int 0))) (.v 1))) (.cons (.ret (.v 3)) .nil))) .nil) (.cons (.six (.v 0) (.k (.int 2)) (.bin .add (.ix (.v 0) (.k (.int 2))) (.k (.int 1)))) (.cons (.set (.v 2) (.bin .mod (.bin .pow (.bi .int (.cons (.bin .add (.ix (.v 0) (.k (.int 1))) (.bin .mul (.k (.int 961748941)) (.ix (.v 0) (.k (.int 2))))) .nil)) (.k (.int 3))) (.bin .add (.bin .pow (.k (.int 10)) (.k (.int 41))) (.k (.int 109))))) (.cons (.set (.v 2) (.bin .mod (.bin .pow (.bi .int (.cons (.bin .add (.v 2) (.bin .mul (.k (.int 217645199)) (.ix (.v 0) (.k (.int 2))))) .nil)) (.k (.int 3))) (.bin .add (.bin .pow (.k (.int 10)) (.k (.int 39))) (.k (.int 3))))) (.cons (.ret (.bin .mod (.bi .int (.cons (.bin .fdiv (.v 2) (.k (.int 1048576))) .nil)) (.v 1))) .nil)))))
/-- _law_same: found, due, k -/
def b23 : M.Ss := (.cons (.if_ (.or (.isi (.v 0) .bool) (.cons (.isi (.v 1) .bool) .nil)) (.cons (.ret (.and (.isi (.v 0) .bool) (.cons (.isi (.v 1) .bool) (.cons (.cmp .eq (.v 0) (.v 1)) .nil)))) .nil) .nil) (.cons (.if_ (.cmp .ne (.isi (.v 0) .list) (.isi (.v 1) .list)) (.cons (.ret (.k (.bl false))) .nil) .nil) (.cons (.if_ (.and (.isi2 (.v 0) .list .tuple) (.cons (.isi2 (.v 1) .list .tuple) .nil)) (.cons (.if_ (.cmp .ne (.bi .len (.cons (.v 0) .nil)) (.bi .len (.cons (.v 1) .nil))) (.cons (.ret (.k (.bl false))) .nil) .nil) (.cons (.ret (.cmp .eq (.comp (.v 2) (.v 2) (.rng (.bi .len (.cons (.v 1) .nil))) (.some (.not (.call 23 (.cons (.ix (.v 0) (.v 2)) (.cons (.ix (.v 1) (.v 2)) .nil)))))) (.lst .nil))) .nil)) .nil) (.cons (.ret (.and (.cmp .eq (.v 0) (.v 1)) (.cons (.cmp .eq (.isi (.v 0) .int) (.isi (.v 1) .int)) .nil))) .nil))))
/-- _law_desk: well, most, wide, tall -/
def b24 : M.Ss := (.cons (.set (.v 2) (.bin .add (.k (.int 1)) (.call 22 (.cons (.v 0) (.cons (.v 1) .nil))))) (.cons (.set (.v 3) (.ix (.lst (.cons (.bin .add (.k (.int 1)) (.call 22 (.cons (.v 0) (.cons (.v 1) .nil)))) (.cons (.v 2) (.cons (.bin .mul (.v 2) (.k (.int 2))) (.cons (.bin .add (.k (.int 1)) (.call 22 (.cons (.v 0) (.cons (.k (.int 4)) .nil)))) .nil))))) (.call 22 (.cons (.v 0) (.cons (.k (.int 4)) .nil))))) (.cons (.ret (.tup (.cons (.v 2) (.cons (.v 3) .nil)))) .nil)))
/-- _law_roll: well, desk, most, x, y, p, q -/
def b25 : M.Ss := (.cons (.set (.v 3) (.ix (.lst (.cons (.k (.int 0)) (.cons (.ix (.v 1) (.k (.int 0))) (.cons (.call 22 (.cons (.v 0) (.cons (.bin .add (.ix (.v 1) (.k (.int 0))) (.k (.int 1))) .nil))) .nil)))) (.bi .min (.cons (.k (.int 2)) (.cons (.call 22 (.cons (.v 0) (.cons (.k (.int 5)) .nil))) .nil))))) (.cons (.set (.v 4) (.ix (.lst (.cons (.k (.int 0)) (.cons (.ix (.v 1) (.k (.int 1))) (.cons (.call 22 (.cons (.v 0) (.cons (.bin .add (.ix (.v 1) (.k (.int 1))) (.k (.int 1))) .nil))) .nil)))) (.bi .min (.cons (.k (.int 2)) (.cons (.call 22 (.cons (.v 0) (.cons (.k (.int 5)) .nil))) .nil))))) (.cons (.par 5 6 (.bin .sub (.call 22 (.cons (.v 0) (.cons (.bin .add (.bin .mul (.k (.int 2)) (.v 2)) (.k (.int 1))) .nil))) (.v 2)) (.bin .sub (.call 22 (.cons (.v 0) (.cons (.bin .add (.bin .mul (.k (.int 2)) (.v 2)) (.k (.int 1))) .nil))) (.v 2))) (.cons (.if_ (.cmp .eq (.call 22 (.cons (.v 0) (.cons (.k (.int 8)) .nil))) (.k (.int 0))) (.cons (.set (.v 5) (.k (.int 0))) .nil) (.cons (.if_ (.cmp .eq (.call 22 (.cons (.v 0) (.cons (.k (.int 8)) .nil))) (.k (.int 0))) (.cons (.set (.v 6) (.k (.int 0))) .nil) .nil) .nil)) (.cons (.ret (.ite (.cmp .ne (.tup (.cons (.v 5) (.cons (.v 6) .nil))) (.tup (.cons (.k (.int 0)) (.cons (.k (.int 0)) .nil)))) (.tup (.cons (.v 3) (.cons (.v 4) (.cons (.v 5) (.cons (.v 6) .nil))))) (.tup (.cons (.v 3) (.cons (.v 4) (.cons (.k (.int 1)) (.cons (.k (.int 1)) .nil))))))) .nil)))))
/-- _law_low: top, bottom, a, b -/
def b26 : M.Ss := (.cons (.par 2 3 (.bi .abs (.cons (.v 0) .nil)) (.bi .abs (.cons (.v 1) .nil))) (.cons (.while_ (.cmp .ne (.v 3) (.k (.int 0))) (.cons (.par 2 3 (.v 3) (.bin .mod (.bi .int (.cons (.v 2) .nil)) (.v 3))) .nil)) (.cons (.ret (.ite (.cmp .gt (.v 1) (.k (.int 0))) (.tup (.cons (.bin .fdiv (.v 0) (.v 2)) (.cons (.bin .fdiv (.v 1) (.v 2)) .nil))) (.tup (.cons (.bin .fdiv (.neg (.v 0)) (.v 2)) (.cons (.bin .fdiv (.neg (.v 1)) (.v 2)) .nil))))) .nil)))
/-- _law_fold: edge, top, bottom, rest -/
def b27 : M.Ss := (.cons (.set (.v 3) (.bin .mod (.bi .int (.cons (.v 1) .nil)) (.bin .mul (.bin .mul (.k (.int 2)) (.v 0)) (.v 2)))) (.cons (.ret (.call 26 (.cons (.ite (.cmp .le (.v 3) (.bin .mul (.v 0) (.v 2))) (.v 3) (.bin .sub (.bin .mul (.bin .mul (.k (.int 2)) (.v 0)) (.v 2)) (.v 3))) (.cons (.v 2) .nil)))) .nil))
/-- _law_spot: desk, shot_here, top, bottom, x, y, p, q, first -/
def b28 : M.Ss := (.cons (.set (.tup [4, 5, 6, 7]) (.v 1)) (.cons (.set (.v 8) (.call 27 (.cons (.ix (.v 0) (.k (.int 0))) (.cons (.bin .add (.bin .mul (.v 4) (.v 3)) (.bin .mul (.v 6) (.v 2))) (.cons (.v 3) .nil))))) (.cons (.ret (.tup (.cons (.v 8) (.cons (.call 27 (.cons (.ix (.v 0) (.k (.int 1))) (.cons (.bin .add (.bin .mul (.v 5) (.v 3)) (.bin .mul (.v 7) (.v 2))) (.cons (.v 3) .nil)))) .nil)))) .nil)))
/-- _law_round: desk, roll, a, b, some, one, two, edge, mate, way -/
def b29 : M.Ss := (.cons (.par 2 3 (.bi .max (.cons (.k (.int 1)) (.cons (.bi .abs (.cons (.ix (.v 1) (.k (.int 2))) .nil)) .nil))) (.bi .max (.cons (.k (.int 1)) (.cons (.bi .abs (.cons (.ix (.v 1) (.k (.int 3))) .nil)) .nil)))) (.cons (.set (.v 4) (.comp (.bin .mul (.bin .mul (.k (.int 2)) (.v 7)) (.v 8)) (.tup [7, 8, 9]) (.seq (.tup (.cons (.tup (.cons (.ix (.v 0) (.k (.int 0))) (.cons (.v 3) (.cons (.ix (.v 1) (.k (.int 2))) .nil)))) (.cons (.tup (.cons (.ix (.v 0) (.k (.int 1))) (.cons (.v 2) (.cons (.ix (.v 1) (.k (.int 3))) .nil)))) .nil)))) (.some (.cmp .ne (.v 9) (.k (.int 0)))))) (.cons (.par 5 6 (.ix (.v 4) (.k (.int 0))) (.ix (.v 4) (.neg (.k (.int 1))))) (.cons (.while_ (.cmp .ne (.v 6) (.k (.int 0))) (.cons (.par 5 6 (.v 6) (.bin .mod (.bi .int (.cons (.v 5) .nil)) (.v 6))) .nil)) (.cons (.ret (.bin .mul (.bin .fdiv (.ix (.v 4) (.k (.int 0))) (.v 5)) (.ix (.v 4) (.neg (.k (.int 1)))))) .nil)))))
/-- _law_marks: desk, roll, axis, goals, most, way, edge, found, part_here, goal, image, gap, at -/
def b30 : M.Ss := (.cons (.par3 5 6 7 (.ix (.v 1) (.bin .add (.v 2) (.k (.int 2)))) (.ix (.v 0) (.v 2)) (.lst .nil)) (.cons (.if_ (.cmp .eq (.v 5) (.k (.int 0))) (.cons (.ret (.lst .nil)) .nil) .nil) (.cons (.set (.v 8) (.bi .max (.cons (.k (.int 1)) (.cons (.bi .abs (.cons (.ix (.v 1) (.bin .sub (.k (.int 3)) (.v 2))) .nil)) .nil)))) (.cons (.for_ (.v 9) (.seq (.v 3)) (.cons (.for_ (.v 10) (.seq (.tup (.cons (.v 9) (.cons (.neg (.v 9)) .nil)))) (.cons (.set (.v 11) (.ite (.cmp .gt (.v 5) (.k (.int 0))) (.bin .sub (.v 10) (.ix (.v 1) (.v 2))) (.bin .sub (.ix (.v 1) (.v 2)) (.v 10)))) (.cons (.set (.v 12) (.bin .mul (.bin .mod (.bi .int (.cons (.v 11) .nil)) (.bin .mul (.k (.int 2)) (.v 6))) (.v 8))) (.cons (.while_ (.cmp .le (.v 12) (.v 4)) (.cons (.ex (.mt .append (.v 7) (.cons (.v 12) .nil))) (.cons (.set (.v 12) (.bin .add (.v 12) (.bin .mul (.bin .mul (.k (.int 2)) (.v 6)) (.v 8)))) .nil))) .nil)))) .nil)) (.cons (.ret (.v 7)) .nil)))))
/-- _law_edges: well, desk, found, edge, low, wide -/
def b31 : M.Ss := (.cons (.set (.v 2) (.lst .nil)) (.cons (.for_ (.v 3) (.seq (.v 1)) (.cons (.set (.v 4) (.ix (.lst (.cons (.k (.int 0)) (.cons (.call 22 (.cons (.v 0) (.cons (.bin .add (.v 3) (.k (.int 1))) .nil))) (.cons (.call 22 (.cons (.v 0) (.cons (.bin .add (.v 3) (.k (.int 1))) .nil))) .nil)))) (.call 22 (.cons (.v 0) (.cons (.k (.int 3)) .nil))))) (.cons (.set (.v 5) (.ix (.lst (.cons (.k (.int 0)) (.cons (.k (.int 1)) (.cons (.v 3) (.cons (.call 22 (.cons (.v 0) (.cons (.bin .add (.v 3) (.k (.int 1))) .nil))) .nil))))) (.call 22 (.cons (.v 0) (.cons (.k (.int 4)) .nil))))) (.cons (.set (.v 2) (.bin .add (.v 2) (.lst (.cons (.v 4) (.cons (.bi .min (.cons (.v 3) (.cons (.bin .add (.v 4) (.v 5)) .nil))) .nil))))) .nil)))) (.cons (.ret (.bi .tuple (.cons (.v 2) .nil))) .nil)))
/-- _law_within: place, room, mark, low, high -/
def b32 : M.Ss := (.cons (.for_ (.tup [2, 3, 4]) (.seq (.tup (.cons (.tup (.cons (.ix (.v 0) (.k (.int 0))) (.cons (.ix (.v 1) (.k (.int 0))) (.cons (.ix (.v 1) (.k (.int 1))) .nil)))) (.cons (.tup (.cons (.ix (.v 0) (.k (.int 1))) (.cons (.ix (.v 1) (.k (.int 2))) (.cons (.ix (.v 1) (.k (.int 3))) .nil)))) .nil)))) (.cons (.if_ (.not (.chain .le .le (.bin .mul (.v 3) (.ix (.v 2) (.k (.int 1)))) (.ix (.v 2) (.k (.int 0))) (.bin .mul (.v 4) (.ix (.v 2) (.k (.int 1)))))) (.cons (.ret (.k (.bl false))) .nil) .nil) .nil)) (.cons (.ret (.k (.bl true))) .nil))
/-- _law_sooner: one, two -/
def b33 : M.Ss := (.cons (.if_ (.or (.cmp .is_ (.v 0) (.k .non)) (.cons (.cmp .is_ (.v 1) (.k .non)) .nil)) (.cons (.ret (.ite (.cmp .is_ (.v 0) (.k .non)) (.v 1) (.v 0))) .nil) .nil) (.cons (.ret (.ite (.cmp .le (.bin .mul (.ix (.v 0) (.k (.int 0))) (.ix (.v 1) (.k (.int 1)))) (.bin .mul (.ix (.v 1) (.k (.int 0))) (.ix (.v 0) (.k (.int 1))))) (.v 0) (.v 1))) .nil))
/-- _law_reach: factor, ring, low, high, few, low_here, high_here, rounds_here -/
def b34 : M.Ss := (.cons (.if_ (.cmp .eq (.v 2) (.k (.int 0))) (.cons (.ret (.k (.int 0))) .nil) .nil) (.cons (.set (.v 0) (.bin .mod (.bi .int (.cons (.v 0) .nil)) (.v 1))) (.cons (.if_ (.cmp .eq (.v 0) (.k (.int 0))) (.cons (.ret (.k .non)) .nil) .nil) (.cons (.set (.v 4) (.bin .fdiv (.bin .sub (.bin .add (.v 2) (.v 0)) (.k (.int 1))) (.v 0))) (.cons (.if_ (.cmp .le (.bin .mul (.v 0) (.v 4)) (.v 3)) (.cons (.ret (.v 4)) .nil) .nil) (.cons (.par 5 6 (.bin .mod (.bi .int (.cons (.neg (.v 3)) .nil)) (.v 0)) (.bin .mod (.bi .int (.cons (.neg (.v 2)) .nil)) (.v 0))) (.cons (.set (.v 7) (.call 34 (.cons (.bin .mod (.bi .int (.cons (.v 1) .nil)) (.v 0)) (.cons (.v 0) (.cons (.v 5) (.cons (.v 6) .nil)))))) (.cons (.if_ (.cmp .is_ (.v 7) (.k .non)) (.cons (.ret (.k .non)) .nil) .nil) (.cons (.ret (.bin .fdiv (.bin .sub (.bin .add (.bin .add (.v 2) (.bin .mul (.v 1) (.v 7))) (.v 0)) (.k (.int 1))) (.v 0))) .nil)))))))))
/-- _law_pass: edge, speed, factor, start, low, high, ring, found, first, last, some, a, b, k -/
def b35 : M.Ss := (.cons (.par 6 7 (.bin .mul (.bin .mul (.k (.int 2)) (.v 0)) (.v 1)) (.lst .nil)) (.cons (.for_ (.tup [8, 9]) (.seq (.tup (.cons (.tup (.cons (.v 4) (.cons (.v 5) .nil))) (.cons (.tup (.cons (.bin .sub (.bin .mul (.k (.int 2)) (.v 0)) (.v 5)) (.cons (.bin .sub (.bin .mul (.k (.int 2)) (.v 0)) (.v 4)) .nil))) .nil)))) (.cons (.set (.v 11) (.bin .mod (.bi .int (.cons (.bin .sub (.bin .mul (.v 8) (.v 1)) (.v 3)) .nil)) (.v 6))) (.cons (.set (.v 12) (.bin .mod (.bi .int (.cons (.bin .sub (.bin .mul (.v 9) (.v 1)) (.v 3)) .nil)) (.v 6))) (.cons (.ex (.mt .append (.v 7) (.cons (.ite (.cmp .le (.v 11) (.v 12)) (.call 34 (.cons (.v 2) (.cons (.v 6) (.cons (.v 11) (.cons (.v 12) .nil))))) (.k (.int 0))) .nil))) .nil)))) (.cons (.set (.v 10) (.comp (.v 13) (.v 13) (.seq (.v 7)) (.some (.cmp .isn (.v 13) (.k .non))))) (.cons (.ret (.ite (.cmp .ne (.v 10) (.lst .nil)) (.bi .min (.cons (.v 10) .nil)) (.k .non))) .nil))))
/-- _law_due: desk, put, room, bottom, most, times, top -/
def b36 : M.Ss := (.cons (.set (.v 3) (.bin .mul (.bi .max (.cons (.k (.int 1)) (.cons (.bi .abs (.cons (.ix (.v 1) (.k (.int 2))) .nil)) .nil))) (.bi .max (.cons (.k (.int 1)) (.cons (.bi .abs (.cons (.ix (.v 1) (.k (.int 3))) .nil)) .nil))))) (.cons (.set (.v 4) (.call 29 (.cons (.v 0) (.cons (.v 1) .nil)))) (.cons (.set (.v 5) (.bin .add (.bin .add (.lst (.cons (.k (.int 0)) .nil)) (.call 30 (.cons (.v 0) (.cons (.v 1) (.cons (.k (.int 0)) (.cons (.sl (.v 2) .none (.some (.k (.int 2)))) (.cons (.v 4) .nil))))))) (.call 30 (.cons (.v 0) (.cons (.v 1) (.cons (.k (.int 1)) (.cons (.sl (.v 2) (.some (.k (.int 2))) .none) (.cons (.v 4) .nil)))))))) (.cons (.for_ (.v 6) (.seq (.bi .sorted (.cons (.v 5) .nil))) (.cons (.if_ (.call 32 (.cons (.call 28 (.cons (.v 0) (.cons (.v 1) (.cons (.v 6) (.cons (.v 3) .nil))))) (.cons (.v 2) .nil))) (.cons (.ret (.call 26 (.cons (.v 6) (.cons (.v 3) .nil)))) .nil) .nil) .nil)) (.cons (.ret (.k .non)) .nil)))))
/-- _law_great_due: desk, put, room, found, axis, way, edge, mate, low, high, goal, image, gap, start, k -/
def b37 : M.Ss := (.cons (.set (.v 3) (.ite (.call 32 (.cons (.tup (.cons (.tup (.cons (.ix (.v 1) (.k (.int 0))) (.cons (.k (.int 1)) .nil))) (.cons (.tup (.cons (.ix (.v 1) (.k (.int 1))) (.cons (.k (.int 1)) .nil))) .nil))) (.cons (.v 2) .nil))) (.tup (.cons (.k (.int 0)) (.cons (.k (.int 1)) .nil))) (.k .non))) (.cons (.for_ (.v 4) (.seq (.tup (.cons (.k (.int 0)) (.cons (.k (.int 1)) .nil)))) (.cons (.par3 5 6 7 (.ix (.v 1) (.bin .add (.v 4) (.k (.int 2)))) (.ix (.v 0) (.v 4)) (.bin .sub (.k (.int 1)) (.v 4))) (.cons (.set (.tup [8, 9]) (.sl (.v 2) (.some (.bin .mul (.k (.int 2)) (.v 7))) (.some (.bin .add (.bin .mul (.k (.int 2)) (.v 7)) (.k (.int 2)))))) (.cons (.for_ (.v 10) (.seq (.sl (.v 2) (.some (.bin .mul (.k (.int 2)) (.v 4))) (.some (.bin .add (.bin .mul (.k (.int 2)) (.v 4)) (.k (.int 2)))))) (.cons (.for_ (.v 11) (.seq (.tup (.cons (.v 10) (.cons (.neg (.v 10)) .nil)))) (.cons (.if_ (.cmp .ne (.v 5) (.k (.int 0))) (.cons (.set (.v 12) (.bin .mod (.bi .int (.cons (.ite (.cmp .gt (.v 5) (.k (.int 0))) (.bin .sub (.v 11) (.ix (.v 1) (.v 4))) (.bin .sub (.ix (.v 1) (.v 4)) (.v 11))) .nil)) (.bin .mul (.k (.int 2)) (.v 6)))) (.cons (.set (.v 13) (.bin .add (.bin .mul (.ix (.v 1) (.v 7)) (.bi .abs (.cons (.v 5) .nil))) (.bin .mul (.ix (.v 1) (.bin .add (.v 7) (.k (.int 2)))) (.v 12)))) (.cons (.set (.v 14) (.call 35 (.cons (.ix (.v 0) (.v 7)) (.cons (.bi .abs (.cons (.v 5) .nil)) (.cons (.bin .mul (.bin .mul (.k (.int 2)) (.v 6)) (.ix (.v 1) (.bin .add (.v 7) (.k (.int 2))))) (.cons (.v 13) (.cons (.v 8) (.cons (.v 9) .nil)))))))) (.cons (.if_ (.cmp .isn (.v 14) (.k .non)) (.cons (.set (.v 3) (.call 33 (.cons (.v 3) (.cons (.call 26 (.cons (.bin .add (.v 12) (.bin .mul (.bin .mul (.k (.int 2)) (.v 6)) (.v 14))) (.cons (.bi .abs (.cons (.v 5) .nil)) .nil))) .nil)))) .nil) .nil) .nil)))) .nil) .nil)) .nil)) .nil)))) (.cons (.ret (.v 3)) .nil)))
/-- _law_small_right: well, desk, put, large, lap, room, before, due, far, wide, found, mark -/
def b38 : M.Ss := (.cons (.set (.v 1) (.call 24 (.cons (.v 0) (.cons (.k (.int 8)) .nil)))) (.cons (.set (.tup [2, 3]) (.tup (.cons (.call 25 (.cons (.v 0) (.cons (.v 1) (.cons (.k (.int 6)) .nil)))) (.cons (.bin .pow (.k (.int 10)) (.k (.int 8))) .nil)))) (.cons (.for_ (.v 4) (.rng (.k (.int 3))) (.cons (.set (.v 5) (.call 31 (.cons (.v 0) (.cons (.v 1) .nil)))) (.cons (.par 6 7 (.rep (.lst (.cons (.v 1) (.cons (.v 2) (.cons (.v 5) .nil))))) (.call 36 (.cons (.v 1) (.cons (.v 2) (.cons (.v 5) .nil))))) (.cons (.if_ (.not (.call 23 (.cons (.lst (.cons (.call 20 (.cons (.v 1) (.cons (.v 2) (.cons (.v 5) .nil)))) (.cons (.call 37 (.cons (.v 1) (.cons (.v 2) (.cons (.v 5) .nil)))) .nil))) (.cons (.lst (.cons (.v 7) (.cons (.v 7) .nil))) .nil)))) (.cons (.ret (.k (.bl false))) .nil) .nil) (.cons (.if_ (.not (.call 23 (.cons (.callk 20 .nil (.cons (.v 5) (.cons (.v 2) (.cons (.v 1) .nil))) [2, 1, 0]) (.cons (.v 7) .nil)))) (.cons (.ret (.k (.bl false))) .nil) .nil) (.cons (.set (.v 8) (.tup (.cons (.bin .mul (.ix (.v 2) (.k (.int 0))) (.v 3)) (.cons (.bin .mul (.ix (.v 2) (.k (.int 1))) (.v 3)) (.cons (.ix (.v 2) (.k (.int 2))) (.cons (.ix (.v 2) (.k (.int 3))) .nil)))))) (.cons (.set (.v 9) (.bi .tuple (.cons (.comp (.bin .mul (.v 11) (.v 3)) (.v 11) (.seq (.v 5)) .none) .nil))) (.cons (.set (.v 10) (.call 20 (.cons (.tup (.cons (.bin .mul (.ix (.v 1) (.k (.int 0))) (.v 3)) (.cons (.bin .mul (.ix (.v 1) (.k (.int 1))) (.v 3)) .nil))) (.cons (.v 8) (.cons (.v 9) .nil))))) (.cons (.if_ (.not (.call 23 (.cons (.v 10) (.cons (.ite (.cmp .is_ (.v 7) (.k .non)) (.k .non) (.call 26 (.cons (.bin .mul (.ix (.v 7) (.k (.int 0))) (.v 3)) (.cons (.ix (.v 7) (.k (.int 1))) .nil)))) .nil)))) (.cons (.ret (.k (.bl false))) .nil) .nil) (.cons (.if_ (.cmp .ne (.rep (.lst (.cons (.v 1) (.cons (.v 2) (.cons (.v 5) .nil))))) (.v 6)) (.cons (.ret (.k (.bl false))) .nil) .nil) .nil)))))))))) (.cons (.ret (.k (.bl true))) .nil))))
/-- _law_great_right: well, desk, put, found, edge, room, low, most -/
def b39 : M.Ss := (.cons (.set (.v 1) (.tup (.cons (.bin .add (.k (.int 1)) (.call 22 (.cons (.v 0) (.cons (.bin .pow (.k (.int 10)) (.k (.int 9))) .nil)))) (.cons (.bin .add (.k (.int 1)) (.call 22 (.cons (.v 0) (.cons (.bin .pow (.k (.int 10)) (.k (.int 9))) .nil)))) .nil)))) (.cons (.par 2 3 (.call 25 (.cons (.v 0) (.cons (.v 1) (.cons (.bin .pow (.k (.int 10)) (.k (.int 9))) .nil)))) (.lst .nil)) (.cons (.for_ (.v 4) (.seq (.v 1)) (.cons (.par 6 7 (.call 22 (.cons (.v 0) (.cons (.bin .add (.v 4) (.k (.int 1))) .nil))) (.ix (.lst (.cons (.k (.int 1)) (.cons (.bin .pow (.k (.int 10)) (.k (.int 4))) (.cons (.bin .pow (.k (.int 10)) (.k (.int 8))) .nil)))) (.call 22 (.cons (.v 0) (.cons (.k (.int 3)) .nil))))) (.cons (.set (.v 3) (.bin .add (.v 3) (.lst (.cons (.v 6) (.cons (.bi .min (.cons (.v 4) (.cons (.bin .add (.v 6) (.call 22 (.cons (.v 0) (.cons (.v 7) .nil)))) .nil))) .nil))))) .nil))) (.cons (.set (.v 5) (.bi .tuple (.cons (.v 3) .nil))) (.cons (.ret (.call 23 (.cons (.call 20 (.cons (.v 1) (.cons (.v 2) (.cons (.v 5) .nil)))) (.cons (.call 37 (.cons (.v 1) (.cons (.v 2) (.cons (.v 5) .nil)))) .nil)))) .nil)))))
/-- law: script, at, desk, put, far, found, room -/
def b40 : M.Ss := (.cons (.for_ (.v 1) (.rng (.bi .max (.cons (.k (.int 5)) (.cons (.bi .min (.cons (.k (.int 10)) (.cons (.bi .len (.cons (.v 0) .nil)) .nil))) .nil)))) (.cons (.if_ (.not (.call 38 (.cons (.call 21 (.cons (.v 0) (.cons (.v 1) .nil))) .nil))) (.cons (.ret (.k (.bl false))) .nil) .nil) .nil)) (.cons (.if_ (.not (.call 39 (.cons (.call 21 (.cons (.v 0) (.cons (.k (.int 0)) .nil))) .nil))) (.cons (.ret (.k (.bl false))) .nil) .nil) (.cons (.set (.tup [2, 3, 4]) (.tup (.cons (.tup (.cons (.k (.int 4)) (.cons (.k (.int 2)) .nil))) (.cons (.tup (.cons (.k (.int 1)) (.cons (.k (.int 0)) (.cons (.k (.int 1)) (.cons (.k (.int 1)) .nil))))) (.cons (.bin .pow (.k (.int 10)) (.k (.int 9))) .nil))))) (.cons (.set (.v 5) (.comp (.call 20 (.cons (.v 2) (.cons (.v 3) (.cons (.v 6) .nil)))) (.v 6) (.seq (.tup (.cons (.tup (.cons (.k (.int 2)) (.cons (.k (.int 3)) (.cons (.k (.int 0)) (.cons (.k (.int 1)) .nil))))) (.cons (.tup (.cons (.k (.int 0)) (.cons (.k (.int 4)) (.cons (.k (.int 0)) (.cons (.k (.int 2)) .nil))))) (.cons (.tup (.cons (.k (.int 3)) (.cons (.k (.int 4)) (.cons (.k (.int 2)) (.cons (.k (.int 2)) .nil))))) (.cons (.tup (.cons (.k (.int 0)) (.cons (.k (.int 0)) (.cons (.k (.int 2)) (.cons (.k (.int 2)) .nil))))) .nil)))))) .none)) (.cons (.ex (.mt .append (.v 5) (.cons (.call 20 (.cons (.tup (.cons (.v 4) (.cons (.k (.int 5)) .nil))) (.cons (.tup (.cons (.k (.int 0)) (.cons (.k (.int 0)) (.cons (.v 4) (.cons (.k (.int 1)) .nil))))) (.cons (.tup (.cons (.bin .sub (.v 4) (.k (.int 1))) (.cons (.v 4) (.cons (.k (.int 2)) (.cons (.k (.int 3)) .nil))))) .nil)))) .nil))) (.cons (.ex (.mt .append (.v 5) (.cons (.call 20 (.cons (.tup (.cons (.v 4) (.cons (.v 4) .nil))) (.cons (.tup (.cons (.k (.int 7)) (.cons (.k (.int 0)) (.cons (.k (.int 0)) (.cons (.k (.int 3)) .nil))))) (.cons (.tup (.cons (.k (.int 7)) (.cons (.k (.int 9)) (.cons (.bin .sub (.v 4) (.k (.int 1))) (.cons (.v 4) .nil))))) .nil)))) .nil))) (.cons (.ret (.call 23 (.cons (.v 5) (.cons (.lst (.cons (.tup (.cons (.k (.int 1)) (.cons (.k (.int 1)) .nil))) (.cons (.tup (.cons (.k (.int 0)) (.cons (.k (.int 1)) .nil))) (.cons (.tup (.cons (.k (.int 2)) (.cons (.k (.int 1)) .nil))) (.cons (.k .non) (.cons (.tup (.cons (.bin .sub (.bin .mul (.k (.int 3)) (.v 4)) (.k (.int 1))) (.cons (.v 4) .nil))) (.cons (.tup (.cons (.bin .fdiv (.v 4) (.k (.int 3))) (.cons (.k (.int 1)) .nil))) .nil))))))) .nil)))) .nil)))))))
def con : Nat → M.D
  | _ => .non
end K14.A
namespace K14.P
open M
def fuel : Nat → M.Sp := spSame
theorem fuel0 (ds : List M.D) (S : M.Sto) (Q : M.VK) (X : M.XK) : ¬ fuel 0 ds S Q X := fun ⟨_, _, _, h, _⟩ => h
def fuel2 : Nat → M.Sp := spRchF
theorem fuel20 (ds : List M.D) (S : M.Sto) (Q : M.VK) (X : M.XK) : ¬ fuel2 0 ds S Q X := fun h => h
def sp : Nat → M.Sp
  | 0 => spInt | 1 => spGcd | 2 => spFrac | 3 => spLess | 4 => spLeo | 5 => spWS | 6 => spCW | 7 => spFW | 8 => spTab | 9 => spFree | 10 => spOn | 11 => spCheck | 12 => spCkShot | 13 => spIr | 14 => spIb | 15 => spRg | 16 => spFP | 17 => spAx | 18 => spPT | 19 => spBT | 20 => spFB | 21 => spWell | 22 => spDraw | 23 => spSm | 24 => spDesk | 25 => spRoll | 26 => spLow | 27 => spLF | 28 => spSpot | 29 => spRn | 30 => spMk | 31 => spEd | 32 => spWi | 33 => spSoon | 34 => spRch | 35 => spLP | 36 => spDue | 37 => spGD | 38 => spSR | 39 => spSR | 40 => spLaw
  | _ => fun _ _ _ _ => False
def con := A.con
theorem body0 (G : M.Gm) (hG : G.fn = M.upto 0 sp) (hc : G.con = con) : ∀ ds S0 Q X, sp 0 ds S0 Q X → ds.length = 3 ∧ M.wpSs G A.b0 (M.start 3 ds) S0 ⟨fun _ S' => Q .non S', Q, fun _ _ => False, fun k fs _ S' => X k fs S'⟩ := fun ds S0 Q X h => txt_int (b := A.b0) rfl  h
theorem body1 (G : M.Gm) (hG : G.fn = M.upto 1 sp) (hc : G.con = con) : ∀ ds S0 Q X, sp 1 ds S0 Q X → ds.length = 2 ∧ M.wpSs G A.b1 (M.start 5 ds) S0 ⟨fun _ S' => Q .non S', Q, fun _ _ => False, fun k fs _ S' => X k fs S'⟩ := fun ds S0 Q X h => txt_gcd (b := A.b1) rfl  h
theorem body2 (G : M.Gm) (hG : G.fn = M.upto 2 sp) (hc : G.con = con) : ∀ ds S0 Q X, sp 2 ds S0 Q X → ds.length = 2 ∧ M.wpSs G A.b2 (M.start 3 ds) S0 ⟨fun _ S' => Q .non S', Q, fun _ _ => False, fun k fs _ S' => X k fs S'⟩ := fun ds S0 Q X h => txt_frac (b := A.b2) rfl ((upto_at hG (by decide)).trans (rfl : sp 1 = _)) h
theorem body3 (G : M.Gm) (hG : G.fn = M.upto 3 sp) (hc : G.con = con) : ∀ ds S0 Q X, sp 3 ds S0 Q X → ds.length = 2 ∧ M.wpSs G A.b3 (M.start 2 ds) S0 ⟨fun _ S' => Q .non S', Q, fun _ _ => False, fun k fs _ S' => X k fs S'⟩ := fun ds S0 Q X h => txt_less (b := A.b3) rfl  h
theorem body4 (G : M.Gm) (hG : G.fn = M.upto 4 sp) (hc : G.con = con) : ∀ ds S0 Q X, sp 4 ds S0 Q X → ds.length = 1 ∧ M.wpSs G A.b4 (M.start 3 ds) S0 ⟨fun _ S' => Q .non S', Q, fun _ _ => False, fun k fs _ S' => X k fs S'⟩ := fun ds S0 Q X h => txt_leo (b := A.b4) rfl ((upto_at hG (by decide)).trans (rfl : sp 3 = _)) h
theorem body5 (G : M.Gm) (hG : G.fn = M.upto 5 sp) (hc : G.con = con) : ∀ ds S0 Q X, sp 5 ds S0 Q X → ds.length = 4 ∧ M.wpSs G A.b5 (M.start 7 ds) S0 ⟨fun _ S' => Q .non S', Q, fun _ _ => False, fun k fs _ S' => X k fs S'⟩ := fun ds S0 Q X h => txt_ws (b := A.b5) rfl  h
theorem body6 (G : M.Gm) (hG : G.fn = M.upto 6 sp) (hc : G.con = con) : ∀ ds S0 Q X, sp 6 ds S0 Q X → ds.length = 6 ∧ M.wpSs G A.b6 (M.start 7 ds) S0 ⟨fun _ S' => Q .non S', Q, fun _ _ => False, fun k fs _ S' => X k fs S'⟩ := fun ds S0 Q X h => txt_cw (b := A.b6) rfl ((upto_at hG (by decide)).trans (rfl : sp 5 = _)) h
theorem body7 (G : M.Gm) (hG : G.fn = M.upto 7 sp) (hc : G.con = con) : ∀ ds S0 Q X, sp 7 ds S0 Q X → ds.length = 5 ∧ M.wpSs G A.b7 (M.start 9 ds) S0 ⟨fun _ S' => Q .non S', Q, fun _ _ => False, fun k fs _ S' => X k fs S'⟩ := fun ds S0 Q X h => txt_fw (b := A.b7) rfl ((upto_at hG (by decide)).trans (rfl : sp 1 = _)) ((upto_at hG (by decide)).trans (rfl : sp 6 = _)) h
theorem body8 (G : M.Gm) (hG : G.fn = M.upto 8 sp) (hc : G.con = con) : ∀ ds S0 Q X, sp 8 ds S0 Q X → ds.length = 1 ∧ M.wpSs G A.b8 (M.start 2 ds) S0 ⟨fun _ S' => Q .non S', Q, fun _ _ => False, fun k fs _ S' => X k fs S'⟩ := fun ds S0 Q X h => txt_tab (b := A.b8) rfl ((upto_at hG (by decide)).trans (rfl : sp 0 = _)) h
theorem body9 (G : M.Gm) (hG : G.fn = M.upto 9 sp) (hc : G.con = con) : ∀ ds S0 Q X, sp 9 ds S0 Q X → ds.length = 1 ∧ M.wpSs G A.b9 (M.start 2 ds) S0 ⟨fun _ S' => Q .non S', Q, fun _ _ => False, fun k fs _ S' => X k fs S'⟩ := fun ds S0 Q X h => txt_free (b := A.b9) rfl ((upto_at hG (by decide)).trans (rfl : sp 0 = _)) h
theorem body10 (G : M.Gm) (hG : G.fn = M.upto 10 sp) (hc : G.con = con) : ∀ ds S0 Q X, sp 10 ds S0 Q X → ds.length = 2 ∧ M.wpSs G A.b10 (M.start 2 ds) S0 ⟨fun _ S' => Q .non S', Q, fun _ _ => False, fun k fs _ S' => X k fs S'⟩ := fun ds S0 Q X h => txt_on (b := A.b10) rfl ((upto_at hG (by decide)).trans (rfl : sp 9 = _)) h
theorem body11 (G : M.Gm) (hG : G.fn = M.upto 11 sp) (hc : G.con = con) : ∀ ds S0 Q X, sp 11 ds S0 Q X → ds.length = 1 ∧ M.wpSs G A.b11 (M.start 1 ds) S0 ⟨fun _ S' => Q .non S', Q, fun _ _ => False, fun k fs _ S' => X k fs S'⟩ := fun ds S0 Q X h => txt_check (b := A.b11) rfl ((upto_at hG (by decide)).trans (rfl : sp 8 = _)) h
theorem body12 (G : M.Gm) (hG : G.fn = M.upto 12 sp) (hc : G.con = con) : ∀ ds S0 Q X, sp 12 ds S0 Q X → ds.length = 2 ∧ M.wpSs G A.b12 (M.start 2 ds) S0 ⟨fun _ S' => Q .non S', Q, fun _ _ => False, fun k fs _ S' => X k fs S'⟩ := fun ds S0 Q X h => txt_ckshot (b := A.b12) rfl ((upto_at hG (by decide)).trans (rfl : sp 11 = _)) ((upto_at hG (by decide)).trans (rfl : sp 10 = _)) h
theorem body13 (G : M.Gm) (hG : G.fn = M.upto 13 sp) (hc : G.con = con) : ∀ ds S0 Q X, sp 13 ds S0 Q X → ds.length = 3 ∧ M.wpSs G A.b13 (M.start 3 ds) S0 ⟨fun _ S' => Q .non S', Q, fun _ _ => False, fun k fs _ S' => X k fs S'⟩ := fun ds S0 Q X h => txt_ir (b := A.b13) rfl ((upto_at hG (by decide)).trans (rfl : sp 0 = _)) h
theorem body14 (G : M.Gm) (hG : G.fn = M.upto 14 sp) (hc : G.con = con) : ∀ ds S0 Q X, sp 14 ds S0 Q X → ds.length = 2 ∧ M.wpSs G A.b14 (M.start 2 ds) S0 ⟨fun _ S' => Q .non S', Q, fun _ _ => False, fun k fs _ S' => X k fs S'⟩ := fun ds S0 Q X h => txt_ib (b := A.b14) rfl ((upto_at hG (by decide)).trans (rfl : sp 13 = _)) h
theorem body15 (G : M.Gm) (hG : G.fn = M.upto 15 sp) (hc : G.con = con) : ∀ ds S0 Q X, sp 15 ds S0 Q X → ds.length = 4 ∧ M.wpSs G A.b15 (M.start 7 ds) S0 ⟨fun _ S' => Q .non S', Q, fun _ _ => False, fun k fs _ S' => X k fs S'⟩ := fun ds S0 Q X h => txt_rg (b := A.b15) rfl  h
theorem body16 (G : M.Gm) (hG : G.fn = M.upto 16 sp) (hc : G.con = con) : ∀ ds S0 Q X, sp 16 ds S0 Q X → ds.length = 6 ∧ M.wpSs G A.b16 (M.start 11 ds) S0 ⟨fun _ S' => Q .non S', Q, fun _ _ => False, fun k fs _ S' => X k fs S'⟩ := fun ds S0 Q X h => txt_fp (b := A.b16) rfl ((upto_at hG (by decide)).trans (rfl : sp 7 = _)) ((upto_at hG (by decide)).trans (rfl : sp 15 = _)) h
theorem body17 (G : M.Gm) (hG : G.fn = M.upto 17 sp) (hc : G.con = con) : ∀ ds S0 Q X, sp 17 ds S0 Q X → ds.length = 3 ∧ M.wpSs G A.b17 (M.start 4 ds) S0 ⟨fun _ S' => Q .non S', Q, fun _ _ => False, fun k fs _ S' => X k fs S'⟩ := fun ds S0 Q X h => txt_ax (b := A.b17) rfl  h
theorem body18 (G : M.Gm) (hG : G.fn = M.upto 18 sp) (hc : G.con = con) : ∀ ds S0 Q X, sp 18 ds S0 Q X → ds.length = 4 ∧ M.wpSs G A.b18 (M.start 15 ds) S0 ⟨fun _ S' => Q .non S', Q, fun _ _ => False, fun k fs _ S' => X k fs S'⟩ := fun ds S0 Q X h => txt_pt (b := A.b18) rfl ((upto_at hG (by decide)).trans (rfl : sp 2 = _)) ((upto_at hG (by decide)).trans (rfl : sp 4 = _)) ((upto_at hG (by decide)).trans (rfl : sp 16 = _)) h
theorem body19 (G : M.Gm) (hG : G.fn = M.upto 19 sp) (hc : G.con = con) : ∀ ds S0 Q X, sp 19 ds S0 Q X → ds.length = 3 ∧ M.wpSs G A.b19 (M.start 11 ds) S0 ⟨fun _ S' => Q .non S', Q, fun _ _ => False, fun k fs _ S' => X k fs S'⟩ := fun ds S0 Q X h => txt_bt (b := A.b19) rfl ((upto_at hG (by decide)).trans (rfl : sp 4 = _)) ((upto_at hG (by decide)).trans (rfl : sp 17 = _)) ((upto_at hG (by decide)).trans (rfl : sp 18 = _)) h
theorem body20 (G : M.Gm) (hG : G.fn = M.upto 20 sp) (hc : G.con = con) : ∀ ds S0 Q X, sp 20 ds S0 Q X → ds.length = 3 ∧ M.wpSs G A.b20 (M.start 3 ds) S0 ⟨fun _ S' => Q .non S', Q, fun _ _ => False, fun k fs _ S' => X k fs S'⟩ := fun ds S0 Q X h => txt_fb (b := A.b20) rfl ((upto_at hG (by decide)).trans (rfl : sp 12 = _)) ((upto_at hG (by decide)).trans (rfl : sp 14 = _)) ((upto_at hG (by decide)).trans (rfl : sp 19 = _)) h
theorem body21 (G : M.Gm) (hG : G.fn = M.upto 21 sp) (hc : G.con = con) : ∀ ds S0 Q X, sp 21 ds S0 Q X → ds.length = 2 ∧ M.wpSs G A.b21 (M.start 3 ds) S0 ⟨fun _ S' => Q .non S', Q, fun _ _ => False, fun k fs _ S' => X k fs S'⟩ := fun ds S0 Q X h => txt_well (b := A.b21) rfl  h
theorem body22 (G : M.Gm) (hG : G.fn = M.upto 22 sp) (hc : G.con = con) : ∀ ds S0 Q X, sp 22 ds S0 Q X → ds.length = 2 ∧ M.wpSs G A.b22 (M.start 4 ds) S0 ⟨fun _ S' => Q .non S', Q, fun _ _ => False, fun k fs _ S' => X k fs S'⟩ := fun ds S0 Q X h => txt_draw (b := A.b22) rfl  h
theorem body23 (m : Nat) (G : M.Gm) (hG : G.fn = fun i => if i = 23 then fuel m else M.upto 23 sp i) (hc : G.con = con) : ∀ ds S0 Q X, fuel (m + 1) ds S0 Q X → ds.length = 2 ∧ M.wpSs G A.b23 (M.start 3 ds) S0 ⟨fun _ S' => Q .non S', Q, fun _ _ => False, fun k fs _ S' => X k fs S'⟩ := fun ds S0 Q X h => txt_same m (b := A.b23) rfl (by rw [hG]; rfl)  h
theorem body24 (G : M.Gm) (hG : G.fn = M.upto 24 sp) (hc : G.con = con) : ∀ ds S0 Q X, sp 24 ds S0 Q X → ds.length = 2 ∧ M.wpSs G A.b24 (M.start 4 ds) S0 ⟨fun _ S' => Q .non S', Q, fun _ _ => False, fun k fs _ S' => X k fs S'⟩ := fun ds S0 Q X h => txt_desk (b := A.b24) rfl ((upto_at hG (by decide)).trans (rfl : sp 22 = _)) h
theorem body25 (G : M.Gm) (hG : G.fn = M.upto 25 sp) (hc : G.con = con) : ∀ ds S0 Q X, sp 25 ds S0 Q X → ds.length = 3 ∧ M.wpSs G A.b25 (M.start 7 ds) S0 ⟨fun _ S' => Q .non S', Q, fun _ _ => False, fun k fs _ S' => X k fs S'⟩ := fun ds S0 Q X h => txt_roll (b := A.b25) rfl ((upto_at hG (by decide)).trans (rfl : sp 22 = _)) h
theorem body26 (G : M.Gm) (hG : G.fn = M.upto 26 sp) (hc : G.con = con) : ∀ ds S0 Q X, sp 26 ds S0 Q X → ds.length = 2 ∧ M.wpSs G A.b26 (M.start 4 ds) S0 ⟨fun _ S' => Q .non S', Q, fun _ _ => False, fun k fs _ S' => X k fs S'⟩ := fun ds S0 Q X h => txt_low (b := A.b26) rfl  h
theorem body27 (G : M.Gm) (hG : G.fn = M.upto 27 sp) (hc : G.con = con) : ∀ ds S0 Q X, sp 27 ds S0 Q X → ds.length = 3 ∧ M.wpSs G A.b27 (M.start 4 ds) S0 ⟨fun _ S' => Q .non S', Q, fun _ _ => False, fun k fs _ S' => X k fs S'⟩ := fun ds S0 Q X h => txt_lf (b := A.b27) rfl ((upto_at hG (by decide)).trans (rfl : sp 26 = _)) h
theorem body28 (G : M.Gm) (hG : G.fn = M.upto 28 sp) (hc : G.con = con) : ∀ ds S0 Q X, sp 28 ds S0 Q X → ds.length = 4 ∧ M.wpSs G A.b28 (M.start 9 ds) S0 ⟨fun _ S' => Q .non S', Q, fun _ _ => False, fun k fs _ S' => X k fs S'⟩ := fun ds S0 Q X h => txt_spot (b := A.b28) rfl ((upto_at hG (by decide)).trans (rfl : sp 27 = _)) h
theorem body29 (G : M.Gm) (hG : G.fn = M.upto 29 sp) (hc : G.con = con) : ∀ ds S0 Q X, sp 29 ds S0 Q X → ds.length = 2 ∧ M.wpSs G A.b29 (M.start 10 ds) S0 ⟨fun _ S' => Q .non S', Q, fun _ _ => False, fun k fs _ S' => X k fs S'⟩ := fun ds S0 Q X h => txt_rn (b := A.b29) rfl  h
theorem body30 (G : M.Gm) (hG : G.fn = M.upto 30 sp) (hc : G.con = con) : ∀ ds S0 Q X, sp 30 ds S0 Q X → ds.length = 5 ∧ M.wpSs G A.b30 (M.start 13 ds) S0 ⟨fun _ S' => Q .non S', Q, fun _ _ => False, fun k fs _ S' => X k fs S'⟩ := fun ds S0 Q X h => txt_mk (b := A.b30) rfl  h
theorem body31 (G : M.Gm) (hG : G.fn = M.upto 31 sp) (hc : G.con = con) : ∀ ds S0 Q X, sp 31 ds S0 Q X → ds.length = 2 ∧ M.wpSs G A.b31 (M.start 6 ds) S0 ⟨fun _ S' => Q .non S', Q, fun _ _ => False, fun k fs _ S' => X k fs S'⟩ := fun ds S0 Q X h => txt_ed (b := A.b31) rfl ((upto_at hG (by decide)).trans (rfl : sp 22 = _)) h
theorem body32 (G : M.Gm) (hG : G.fn = M.upto 32 sp) (hc : G.con = con) : ∀ ds S0 Q X, sp 32 ds S0 Q X → ds.length = 2 ∧ M.wpSs G A.b32 (M.start 5 ds) S0 ⟨fun _ S' => Q .non S', Q, fun _ _ => False, fun k fs _ S' => X k fs S'⟩ := fun ds S0 Q X h => txt_wi (b := A.b32) rfl  h
theorem body33 (G : M.Gm) (hG : G.fn = M.upto 33 sp) (hc : G.con = con) : ∀ ds S0 Q X, sp 33 ds S0 Q X → ds.length = 2 ∧ M.wpSs G A.b33 (M.start 2 ds) S0 ⟨fun _ S' => Q .non S', Q, fun _ _ => False, fun k fs _ S' => X k fs S'⟩ := fun ds S0 Q X h => txt_soon (b := A.b33) rfl  h
theorem body34 (m : Nat) (G : M.Gm) (hG : G.fn = fun i => if i = 34 then fuel2 m else M.upto 34 sp i) (hc : G.con = con) : ∀ ds S0 Q X, fuel2 (m + 1) ds S0 Q X → ds.length = 4 ∧ M.wpSs G A.b34 (M.start 8 ds) S0 ⟨fun _ S' => Q .non S', Q, fun _ _ => False, fun k fs _ S' => X k fs S'⟩ := fun ds S0 Q X h => txt_rch m (b := A.b34) rfl (by rw [hG]; rfl)  h
theorem body35 (G : M.Gm) (hG : G.fn = M.upto 35 sp) (hc : G.con = con) : ∀ ds S0 Q X, sp 35 ds S0 Q X → ds.length = 6 ∧ M.wpSs G A.b35 (M.start 14 ds) S0 ⟨fun _ S' => Q .non S', Q, fun _ _ => False, fun k fs _ S' => X k fs S'⟩ := fun ds S0 Q X h => txt_lp (b := A.b35) rfl ((upto_at hG (by decide)).trans (rfl : sp 34 = _)) h
theorem body36 (G : M.Gm) (hG : G.fn = M.upto 36 sp) (hc : G.con = con) : ∀ ds S0 Q X, sp 36 ds S0 Q X → ds.length = 3 ∧ M.wpSs G A.b36 (M.start 7 ds) S0 ⟨fun _ S' => Q .non S', Q, fun _ _ => False, fun k fs _ S' => X k fs S'⟩ := fun ds S0 Q X h => txt_due (b := A.b36) rfl ((upto_at hG (by decide)).trans (rfl : sp 26 = _)) ((upto_at hG (by decide)).trans (rfl : sp 28 = _)) ((upto_at hG (by decide)).trans (rfl : sp 29 = _)) ((upto_at hG (by decide)).trans (rfl : sp 30 = _)) ((upto_at hG (by decide)).trans (rfl : sp 32 = _)) h
theorem body37 (G : M.Gm) (hG : G.fn = M.upto 37 sp) (hc : G.con = con) : ∀ ds S0 Q X, sp 37 ds S0 Q X → ds.length = 3 ∧ M.wpSs G A.b37 (M.start 15 ds) S0 ⟨fun _ S' => Q .non S', Q, fun _ _ => False, fun k fs _ S' => X k fs S'⟩ := fun ds S0 Q X h => txt_gd (b := A.b37) rfl ((upto_at hG (by decide)).trans (rfl : sp 33 = _)) ((upto_at hG (by decide)).trans (rfl : sp 35 = _)) ((upto_at hG (by decide)).trans (rfl : sp 26 = _)) ((upto_at hG (by decide)).trans (rfl : sp 32 = _)) h
theorem body38 (G : M.Gm) (hG : G.fn = M.upto 38 sp) (hc : G.con = con) : ∀ ds S0 Q X, sp 38 ds S0 Q X → ds.length = 1 ∧ M.wpSs G A.b38 (M.start 12 ds) S0 ⟨fun _ S' => Q .non S', Q, fun _ _ => False, fun k fs _ S' => X k fs S'⟩ := fun ds S0 Q X h => txt_sr (b := A.b38) rfl ((upto_at hG (by decide)).trans (rfl : sp 31 = _)) ((upto_at hG (by decide)).trans (rfl : sp 36 = _)) ((upto_at hG (by decide)).trans (rfl : sp 23 = _)) ((upto_at hG (by decide)).trans (rfl : sp 20 = _)) ((upto_at hG (by decide)).trans (rfl : sp 26 = _)) ((upto_at hG (by decide)).trans (rfl : sp 37 = _)) ((upto_at hG (by decide)).trans (rfl : sp 24 = _)) ((upto_at hG (by decide)).trans (rfl : sp 25 = _)) h
theorem body39 (G : M.Gm) (hG : G.fn = M.upto 39 sp) (hc : G.con = con) : ∀ ds S0 Q X, sp 39 ds S0 Q X → ds.length = 1 ∧ M.wpSs G A.b39 (M.start 8 ds) S0 ⟨fun _ S' => Q .non S', Q, fun _ _ => False, fun k fs _ S' => X k fs S'⟩ := fun ds S0 Q X h => txt_gr (b := A.b39) rfl ((upto_at hG (by decide)).trans (rfl : sp 22 = _)) ((upto_at hG (by decide)).trans (rfl : sp 25 = _)) ((upto_at hG (by decide)).trans (rfl : sp 23 = _)) ((upto_at hG (by decide)).trans (rfl : sp 20 = _)) ((upto_at hG (by decide)).trans (rfl : sp 37 = _)) h
theorem body40 (G : M.Gm) (hG : G.fn = M.upto 40 sp) (hc : G.con = con) : ∀ ds S0 Q X, sp 40 ds S0 Q X → ds.length = 1 ∧ M.wpSs G A.b40 (M.start 7 ds) S0 ⟨fun _ S' => Q .non S', Q, fun _ _ => False, fun k fs _ S' => X k fs S'⟩ := fun ds S0 Q X h => law_ok (b := A.b40) rfl ((upto_at hG (by decide)).trans (rfl : sp 21 = _)) ((upto_at hG (by decide)).trans (rfl : sp 38 = _)) ((upto_at hG (by decide)).trans (rfl : sp 39 = _)) ((upto_at hG (by decide)).trans (rfl : sp 23 = _)) ((upto_at hG (by decide)).trans (rfl : sp 20 = _)) h
end K14.P
namespace K14
open PySem PySem.Spec PyProof.Rows L2
abbrev pw : Program := PySem.Challenge.pw_cushionshots_k14_first_times_in_boxes
def top (i : Nat) : Stmt := pw.main.body.getD i (.Pass ⟨0, 0, 0, 0⟩)
def T : Snd.Tb := { fns := ((["is_integer", "divisor", "fraction", "is_less", "least_of", "whole_sum", "count_within", "first_within", "are_table", "is_free_shot", "is_shot_on", "check_table", "check_shot", "is_range", "is_box", "ranges", "first_pass", "axis_of", "pass_time", "box_time"] : List Str) ++ (["first_in_box", "_law_well", "_law_draw", "_law_same", "_law_desk", "_law_roll", "_law_low", "_law_fold", "_law_spot", "_law_round", "_law_marks", "_law_edges", "_law_within", "_law_sooner", "_law_reach", "_law_pass", "_law_due", "_law_great_due", "_law_small_right", "_law_great_right"] : List Str) ++ (["law"] : List Str)), cons := [], cls := ["ShotError", "InvalidTable", "InvalidShot", "InvalidBox"], bts := ["abs", "all", "bool", "int", "isinstance", "len", "list", "max", "min", "range", "repr", "sorted", "tuple"], kws := [(20, 0, ["box", "shot", "table"], [2, 1, 0])] }
def n0 : List Str := ["value", "least", "most"]
theorem ck0 : Snd.chkSs T n0 A.b0 (defScope (top 6)) (defBody (top 6)) = true := by kernel_rfl
def n1 : List Str := ["one", "other", "here", "there", "rest"]
theorem ck1 : Snd.chkSs T n1 A.b1 (defScope (top 7)) (defBody (top 7)) = true := by kernel_rfl
def n2 : List Str := ["top", "bottom", "common"]
theorem ck2 : Snd.chkSs T n2 A.b2 (defScope (top 8)) (defBody (top 8)) = true := by kernel_rfl
def n3 : List Str := ["one", "other"]
theorem ck3 : Snd.chkSs T n3 A.b3 (defScope (top 9)) (defBody (top 9)) = true := by kernel_rfl
def n4 : List Str := ["times", "found", "time"]
theorem ck4 : Snd.chkSs T n4 A.b4 (defScope (top 10)) (defBody (top 10)) = true := by kernel_rfl
def n5 : List Str := ["many", "modulus", "factor", "start", "found", "top", "rest"]
theorem ck5 : Snd.chkSs T n5 A.b5 (defScope (top 11)) (defBody (top 11)) = true := by kernel_rfl
def n6 : List Str := ["many", "modulus", "factor", "start", "low", "high", "upper"]
theorem ck6 : Snd.chkSs T n6 A.b6 (defScope (top 12)) (defBody (top 12)) = true := by kernel_rfl
def n7 : List Str := ["modulus", "factor", "start", "low", "high", "most", "bound", "least", "middle"]
theorem ck7 : Snd.chkSs T n7 A.b7 (defScope (top 13)) (defBody (top 13)) = true := by kernel_rfl
def n8 : List Str := ["value", "side"]
theorem ck8 : Snd.chkSs T n8 A.b8 (defScope (top 15)) (defBody (top 15)) = true := by kernel_rfl
def n9 : List Str := ["value", "one"]
theorem ck9 : Snd.chkSs T n9 A.b9 (defScope (top 16)) (defBody (top 16)) = true := by kernel_rfl
def n10 : List Str := ["table", "value"]
theorem ck10 : Snd.chkSs T n10 A.b10 (defScope (top 17)) (defBody (top 17)) = true := by kernel_rfl
def n11 : List Str := ["table"]
theorem ck11 : Snd.chkSs T n11 A.b11 (defScope (top 18)) (defBody (top 18)) = true := by kernel_rfl
def n12 : List Str := ["table", "shot"]
theorem ck12 : Snd.chkSs T n12 A.b12 (defScope (top 19)) (defBody (top 19)) = true := by kernel_rfl
def n13 : List Str := ["low", "high", "side"]
theorem ck13 : Snd.chkSs T n13 A.b13 (defScope (top 21)) (defBody (top 21)) = true := by kernel_rfl
def n14 : List Str := ["table", "value"]
theorem ck14 : Snd.chkSs T n14 A.b14 (defScope (top 22)) (defBody (top 22)) = true := by kernel_rfl
def n15 : List Str := ["side", "speed", "low", "high", "first", "second", "one"]
theorem ck15 : Snd.chkSs T n15 A.b15 (defScope (top 23)) (defBody (top 23)) = true := by kernel_rfl
def n16 : List Str := ["side", "speed", "factor", "start", "low", "high", "found", "least", "most", "some", "number"]
theorem ck16 : Snd.chkSs T n16 A.b16 (defScope (top 24)) (defBody (top 24)) = true := by kernel_rfl
def n17 : List Str := ["table", "shot", "spot", "mate"]
theorem ck17 : Snd.chkSs T n17 A.b17 (defScope (top 25)) (defBody (top 25)) = true := by kernel_rfl
def n18 : List Str := ["axis", "goal", "low", "high", "start", "way", "side", "mate", "mate_way", "mate_side", "found", "image", "first", "speed", "number"]
theorem ck18 : Snd.chkSs T n18 A.b18 (defScope (top 26)) (defBody (top 26)) = true := by kernel_rfl
def n19 : List Str := ["table", "shot", "box", "left", "right", "low", "high", "first", "second", "found", "goal"]
theorem ck19 : Snd.chkSs T n19 A.b19 (defScope (top 27)) (defBody (top 27)) = true := by kernel_rfl
def n20 : List Str := ["table", "shot", "box"]
theorem ck20 : Snd.chkSs T n20 A.b20 (defScope (top 28)) (defBody (top 28)) = true := by kernel_rfl
def n21 : List Str := ["script", "at", "cell"]
theorem ck21 : Snd.chkSs T n21 A.b21 (defScope (top 30)) (defBody (top 30)) = true := by kernel_rfl
def n22 : List Str := ["well", "most", "blend", "digit"]
theorem ck22 : Snd.chkSs T n22 A.b22 (defScope (top 31)) (defBody (top 31)) = true := by kernel_rfl
def n23 : List Str := ["found", "due", "k"]
theorem ck23 : Snd.chkSs T n23 A.b23 (defScope (top 32)) (defBody (top 32)) = true := by kernel_rfl
def n24 : List Str := ["well", "most", "wide", "tall"]
theorem ck24 : Snd.chkSs T n24 A.b24 (defScope (top 33)) (defBody (top 33)) = true := by kernel_rfl
def n25 : List Str := ["well", "desk", "most", "x", "y", "p", "q"]
theorem ck25 : Snd.chkSs T n25 A.b25 (defScope (top 34)) (defBody (top 34)) = true := by kernel_rfl
def n26 : List Str := ["top", "bottom", "a", "b"]
theorem ck26 : Snd.chkSs T n26 A.b26 (defScope (top 35)) (defBody (top 35)) = true := by kernel_rfl
def n27 : List Str := ["edge", "top", "bottom", "rest"]
theorem ck27 : Snd.chkSs T n27 A.b27 (defScope (top 36)) (defBody (top 36)) = true := by kernel_rfl
def n28 : List Str := ["desk", "shot_here", "top", "bottom", "x", "y", "p", "q", "first"]
theorem ck28 : Snd.chkSs T n28 A.b28 (defScope (top 37)) (defBody (top 37)) = true := by kernel_rfl
def n29 : List Str := ["desk", "roll", "a", "b", "some", "one", "two", "edge", "mate", "way"]
theorem ck29 : Snd.chkSs T n29 A.b29 (defScope (top 38)) (defBody (top 38)) = true := by kernel_rfl
def n30 : List Str := ["desk", "roll", "axis", "goals", "most", "way", "edge", "found", "part_here", "goal", "image", "gap", "at"]
theorem ck30 : Snd.chkSs T n30 A.b30 (defScope (top 39)) (defBody (top 39)) = true := by kernel_rfl
def n31 : List Str := ["well", "desk", "found", "edge", "low", "wide"]
theorem ck31 : Snd.chkSs T n31 A.b31 (defScope (top 40)) (defBody (top 40)) = true := by kernel_rfl
def n32 : List Str := ["place", "room", "mark", "low", "high"]
theorem ck32 : Snd.chkSs T n32 A.b32 (defScope (top 41)) (defBody (top 41)) = true := by kernel_rfl
def n33 : List Str := ["one", "two"]
theorem ck33 : Snd.chkSs T n33 A.b33 (defScope (top 42)) (defBody (top 42)) = true := by kernel_rfl
def n34 : List Str := ["factor", "ring", "low", "high", "few", "low_here", "high_here", "rounds_here"]
theorem ck34 : Snd.chkSs T n34 A.b34 (defScope (top 43)) (defBody (top 43)) = true := by kernel_rfl
def n35 : List Str := ["edge", "speed", "factor", "start", "low", "high", "ring", "found", "first", "last", "some", "a", "b", "k"]
theorem ck35 : Snd.chkSs T n35 A.b35 (defScope (top 44)) (defBody (top 44)) = true := by kernel_rfl
def n36 : List Str := ["desk", "put", "room", "bottom", "most", "times", "top"]
theorem ck36 : Snd.chkSs T n36 A.b36 (defScope (top 45)) (defBody (top 45)) = true := by kernel_rfl
def n37 : List Str := ["desk", "put", "room", "found", "axis", "way", "edge", "mate", "low", "high", "goal", "image", "gap", "start", "k"]
theorem ck37 : Snd.chkSs T n37 A.b37 (defScope (top 46)) (defBody (top 46)) = true := by kernel_rfl
def n38 : List Str := ["well", "desk", "put", "large", "lap", "room", "before", "due", "far", "wide", "found", "mark"]
theorem ck38 : Snd.chkSs T n38 A.b38 (defScope (top 47)) (defBody (top 47)) = true := by kernel_rfl
def n39 : List Str := ["well", "desk", "put", "found", "edge", "room", "low", "most"]
theorem ck39 : Snd.chkSs T n39 A.b39 (defScope (top 48)) (defBody (top 48)) = true := by kernel_rfl
def n40 : List Str := ["script", "at", "desk", "put", "far", "found", "room"]
theorem ck40 : Snd.chkSs T n40 A.b40 (defScope (top 49)) (defBody (top 49)) = true := by kernel_rfl
def dd (x : Str) (i : Nat) : He.DefD := ⟨(x, none), x, x, defArgs (top i), defBody (top i), defScope (top i), [], []⟩
def fnl : List He.DefD := [dd "is_integer" 6, dd "divisor" 7, dd "fraction" 8, dd "is_less" 9, dd "least_of" 10, dd "whole_sum" 11, dd "count_within" 12, dd "first_within" 13, dd "are_table" 15, dd "is_free_shot" 16, dd "is_shot_on" 17, dd "check_table" 18, dd "check_shot" 19, dd "is_range" 21, dd "is_box" 22, dd "ranges" 23, dd "first_pass" 24, dd "axis_of" 25, dd "pass_time" 26, dd "box_time" 27, dd "first_in_box" 28, dd "_law_well" 30, dd "_law_draw" 31, dd "_law_same" 32, dd "_law_desk" 33, dd "_law_roll" 34, dd "_law_low" 35, dd "_law_fold" 36, dd "_law_spot" 37, dd "_law_round" 38, dd "_law_marks" 39, dd "_law_edges" 40, dd "_law_within" 41, dd "_law_sooner" 42, dd "_law_reach" 43, dd "_law_pass" 44, dd "_law_due" 45, dd "_law_great_due" 46, dd "_law_small_right" 47, dd "_law_great_right" 48, dd "law" 49]
def fal : List He.Fa := [.glo "is_integer", .glo "divisor", .glo "fraction", .glo "is_less", .glo "least_of", .glo "whole_sum", .glo "count_within", .glo "first_within", .glo "are_table", .glo "is_free_shot", .glo "is_shot_on", .glo "check_table", .glo "check_shot", .glo "is_range", .glo "is_box", .glo "ranges", .glo "first_pass", .glo "axis_of", .glo "pass_time", .glo "box_time", .glo "first_in_box", .glo "_law_well", .glo "_law_draw", .glo "_law_same", .glo "_law_desk", .glo "_law_roll", .glo "_law_low", .glo "_law_fold", .glo "_law_spot", .glo "_law_round", .glo "_law_marks", .glo "_law_edges", .glo "_law_within", .glo "_law_sooner", .glo "_law_reach", .glo "_law_pass", .glo "_law_due", .glo "_law_great_due", .glo "_law_small_right", .glo "_law_great_right", .glo "law", .free "abs", .free "all", .free "bool", .free "int", .free "isinstance", .free "len", .free "list", .free "max", .free "min", .free "range", .free "repr", .free "sorted", .free "tuple"]
def loose0 : List Str := ["ShotError", "InvalidTable", "InvalidShot", "InvalidBox", "is_integer", "divisor", "fraction", "is_less", "least_of", "whole_sum", "count_within", "first_within", "are_table", "is_free_shot", "is_shot_on", "check_table", "check_shot", "is_range", "is_box", "ranges"]
def loose1 : List Str := ["first_pass", "axis_of", "pass_time", "box_time", "first_in_box", "_law_well", "_law_draw", "_law_same", "_law_desk", "_law_roll", "_law_low", "_law_fold", "_law_spot", "_law_round", "_law_marks", "_law_edges", "_law_within", "_law_sooner", "_law_reach", "_law_pass"]
def loose2 : List Str := ["_law_due", "_law_great_due", "_law_small_right", "_law_great_right"]
def loose : List Str := loose0 ++ loose1 ++ loose2
abbrev rowL : PySem.W.OpenRow := PySem.W.OpenLaw.row PySem.Challenge.rw_cushionshots_k14_first_times_in_boxes
def cl : List (Str × M.D) := []
abbrev hk : PySem.W.Hook := Snd.hookE 2 cl fal fnl
def ob (s : PySem.W.SharedT) : He.AlD := Snd.obsE cl fal fnl (He.frG (HandSHeadRun.getT s) (He.asD (HandSHeadRun.getT s) 2))
theorem ob_eq (s : PySem.W.SharedT) : ob s = hk.obs s.abs := Snd.obsE_eq (HandSHeadRun.getT_eq s)
theorem run (w : World) : HandSHeadRun.RunEq rowL (PySem.W.view rowL.prog [49]) hk ob 12000 loose w := by
  intro os
  kernel_rfl
theorem sc0 : FnScope n0 ["value", "least", "most"] (defScope (top 6)) := ⟨rfl, rfl, rfl, by decide +kernel, rfl, by decide +kernel, by decide +kernel⟩
theorem sc1 : FnScope n1 ["one", "other"] (defScope (top 7)) := ⟨rfl, rfl, rfl, by decide +kernel, rfl, by decide +kernel, by decide +kernel⟩
theorem sc2 : FnScope n2 ["top", "bottom"] (defScope (top 8)) := ⟨rfl, rfl, rfl, by decide +kernel, rfl, by decide +kernel, by decide +kernel⟩
theorem sc3 : FnScope n3 ["one", "other"] (defScope (top 9)) := ⟨rfl, rfl, rfl, by decide +kernel, rfl, by decide +kernel, by decide +kernel⟩
theorem sc4 : FnScope n4 ["times"] (defScope (top 10)) := ⟨rfl, rfl, rfl, by decide +kernel, rfl, by decide +kernel, by decide +kernel⟩
theorem sc5 : FnScope n5 ["many", "modulus", "factor", "start"] (defScope (top 11)) := ⟨rfl, rfl, rfl, by decide +kernel, rfl, by decide +kernel, by decide +kernel⟩
theorem sc6 : FnScope n6 ["many", "modulus", "factor", "start", "low", "high"] (defScope (top 12)) := ⟨rfl, rfl, rfl, by decide +kernel, rfl, by decide +kernel, by decide +kernel⟩
theorem sc7 : FnScope n7 ["modulus", "factor", "start", "low", "high"] (defScope (top 13)) := ⟨rfl, rfl, rfl, by decide +kernel, rfl, by decide +kernel, by decide +kernel⟩
theorem sc8 : FnScope n8 ["value"] (defScope (top 15)) := ⟨rfl, rfl, rfl, by decide +kernel, rfl, by decide +kernel, by decide +kernel⟩
theorem sc9 : FnScope n9 ["value"] (defScope (top 16)) := ⟨rfl, rfl, rfl, by decide +kernel, rfl, by decide +kernel, by decide +kernel⟩
theorem sc10 : FnScope n10 ["table", "value"] (defScope (top 17)) := ⟨rfl, rfl, rfl, by decide +kernel, rfl, by decide +kernel, by decide +kernel⟩
theorem sc11 : FnScope n11 ["table"] (defScope (top 18)) := ⟨rfl, rfl, rfl, by decide +kernel, rfl, by decide +kernel, by decide +kernel⟩
theorem sc12 : FnScope n12 ["table", "shot"] (defScope (top 19)) := ⟨rfl, rfl, rfl, by decide +kernel, rfl, by decide +kernel, by decide +kernel⟩
theorem sc13 : FnScope n13 ["low", "high", "side"] (defScope (top 21)) := ⟨rfl, rfl, rfl, by decide +kernel, rfl, by decide +kernel, by decide +kernel⟩
theorem sc14 : FnScope n14 ["table", "value"] (defScope (top 22)) := ⟨rfl, rfl, rfl, by decide +kernel, rfl, by decide +kernel, by decide +kernel⟩
theorem sc15 : FnScope n15 ["side", "speed", "low", "high"] (defScope (top 23)) := ⟨rfl, rfl, rfl, by decide +kernel, rfl, by decide +kernel, by decide +kernel⟩
theorem sc16 : FnScope n16 ["side", "speed", "factor", "start", "low", "high"] (defScope (top 24)) := ⟨rfl, rfl, rfl, by decide +kernel, rfl, by decide +kernel, by decide +kernel⟩
theorem sc17 : FnScope n17 ["table", "shot", "spot"] (defScope (top 25)) := ⟨rfl, rfl, rfl, by decide +kernel, rfl, by decide +kernel, by decide +kernel⟩
theorem sc18 : FnScope n18 ["axis", "goal", "low", "high"] (defScope (top 26)) := ⟨rfl, rfl, rfl, by decide +kernel, rfl, by decide +kernel, by decide +kernel⟩
theorem sc19 : FnScope n19 ["table", "shot", "box"] (defScope (top 27)) := ⟨rfl, rfl, rfl, by decide +kernel, rfl, by decide +kernel, by decide +kernel⟩
theorem sc20 : FnScope n20 ["table", "shot", "box"] (defScope (top 28)) := ⟨rfl, rfl, rfl, by decide +kernel, rfl, by decide +kernel, by decide +kernel⟩
theorem sc21 : FnScope n21 ["script", "at"] (defScope (top 30)) := ⟨rfl, rfl, rfl, by decide +kernel, rfl, by decide +kernel, by decide +kernel⟩
theorem sc22 : FnScope n22 ["well", "most"] (defScope (top 31)) := ⟨rfl, rfl, rfl, by decide +kernel, rfl, by decide +kernel, by decide +kernel⟩
theorem sc23 : FnScope n23 ["found", "due"] (defScope (top 32)) := ⟨rfl, rfl, rfl, by decide +kernel, rfl, by decide +kernel, by decide +kernel⟩
theorem sc24 : FnScope n24 ["well", "most"] (defScope (top 33)) := ⟨rfl, rfl, rfl, by decide +kernel, rfl, by decide +kernel, by decide +kernel⟩
theorem sc25 : FnScope n25 ["well", "desk", "most"] (defScope (top 34)) := ⟨rfl, rfl, rfl, by decide +kernel, rfl, by decide +kernel, by decide +kernel⟩
theorem sc26 : FnScope n26 ["top", "bottom"] (defScope (top 35)) := ⟨rfl, rfl, rfl, by decide +kernel, rfl, by decide +kernel, by decide +kernel⟩
theorem sc27 : FnScope n27 ["edge", "top", "bottom"] (defScope (top 36)) := ⟨rfl, rfl, rfl, by decide +kernel, rfl, by decide +kernel, by decide +kernel⟩
theorem sc28 : FnScope n28 ["desk", "shot_here", "top", "bottom"] (defScope (top 37)) := ⟨rfl, rfl, rfl, by decide +kernel, rfl, by decide +kernel, by decide +kernel⟩
theorem sc29 : FnScope n29 ["desk", "roll"] (defScope (top 38)) := ⟨rfl, rfl, rfl, by decide +kernel, rfl, by decide +kernel, by decide +kernel⟩
theorem sc30 : FnScope n30 ["desk", "roll", "axis", "goals", "most"] (defScope (top 39)) := ⟨rfl, rfl, rfl, by decide +kernel, rfl, by decide +kernel, by decide +kernel⟩
theorem sc31 : FnScope n31 ["well", "desk"] (defScope (top 40)) := ⟨rfl, rfl, rfl, by decide +kernel, rfl, by decide +kernel, by decide +kernel⟩
theorem sc32 : FnScope n32 ["place", "room"] (defScope (top 41)) := ⟨rfl, rfl, rfl, by decide +kernel, rfl, by decide +kernel, by decide +kernel⟩
theorem sc33 : FnScope n33 ["one", "two"] (defScope (top 42)) := ⟨rfl, rfl, rfl, by decide +kernel, rfl, by decide +kernel, by decide +kernel⟩
theorem sc34 : FnScope n34 ["factor", "ring", "low", "high"] (defScope (top 43)) := ⟨rfl, rfl, rfl, by decide +kernel, rfl, by decide +kernel, by decide +kernel⟩
theorem sc35 : FnScope n35 ["edge", "speed", "factor", "start", "low", "high"] (defScope (top 44)) := ⟨rfl, rfl, rfl, by decide +kernel, rfl, by decide +kernel, by decide +kernel⟩
theorem sc36 : FnScope n36 ["desk", "put", "room"] (defScope (top 45)) := ⟨rfl, rfl, rfl, by decide +kernel, rfl, by decide +kernel, by decide +kernel⟩
theorem sc37 : FnScope n37 ["desk", "put", "room"] (defScope (top 46)) := ⟨rfl, rfl, rfl, by decide +kernel, rfl, by decide +kernel, by decide +kernel⟩
theorem sc38 : FnScope n38 ["well"] (defScope (top 47)) := ⟨rfl, rfl, rfl, by decide +kernel, rfl, by decide +kernel, by decide +kernel⟩
theorem sc39 : FnScope n39 ["well"] (defScope (top 48)) := ⟨rfl, rfl, rfl, by decide +kernel, rfl, by decide +kernel, by decide +kernel⟩
theorem sc40 : FnScope n40 ["script"] (defScope (top 49)) := ⟨rfl, rfl, rfl, by decide +kernel, rfl, by decide +kernel, by decide +kernel⟩
section
variable {Pg : Program} {w : World} {K : PySem.W.Frag} {mg : Str → Option Value} {base : Heap}
abbrev Fn (K : PySem.W.Frag) (x : Str) (i : Nat) (fd : FuncData) : Prop := FunD K x x (defArgs (top i)) (defBody (top i)) (defScope (top i)) [] [] (He.ga K x) fd
theorem kw0 {fd : FuncData} (F : Fn K "first_in_box" 28 fd) : Snd.KB K fd ["table", "shot", "box"] 0 ["box", "shot", "table"] [2, 1, 0] := Snd.kb_of F fun _ _ _ _ _ _ us ws h1 h2 => match us, ws, h1, h2 with | [], [_, _, _], _, _ => rfl
theorem df0 {fd : FuncData} (F : Fn K "is_integer" 6 fd) (g : mg "is_integer" = some (.ref (He.ga K "is_integer"))) : Snd.Def K mg T 0 "is_integer" (He.ga K "is_integer") fd ["value", "least", "most"] := ⟨g, F.kp, F.bindsN fun _ _ _ _ _ _ us hl => match us, hl with | [_, _, _], _ => rfl, fun m ks perm h => by
    have h : (0, m, ks, perm) ∈ T.kws := h
    unfold T at h
    simp only [List.mem_cons, Prod.mk.injEq, List.not_mem_nil, or_false] at h
    obtain ⟨h0, h1, h2, h3⟩ := h
    exact absurd h0 (by decide)⟩
theorem df1 {fd : FuncData} (F : Fn K "divisor" 7 fd) (g : mg "divisor" = some (.ref (He.ga K "divisor"))) : Snd.Def K mg T 1 "divisor" (He.ga K "divisor") fd ["one", "other"] := ⟨g, F.kp, F.bindsN fun _ _ _ _ _ _ us hl => match us, hl with | [_, _], _ => rfl, fun m ks perm h => by
    have h : (1, m, ks, perm) ∈ T.kws := h
    unfold T at h
    simp only [List.mem_cons, Prod.mk.injEq, List.not_mem_nil, or_false] at h
    obtain ⟨h0, h1, h2, h3⟩ := h
    exact absurd h0 (by decide)⟩
theorem df2 {fd : FuncData} (F : Fn K "fraction" 8 fd) (g : mg "fraction" = some (.ref (He.ga K "fraction"))) : Snd.Def K mg T 2 "fraction" (He.ga K "fraction") fd ["top", "bottom"] := ⟨g, F.kp, F.bindsN fun _ _ _ _ _ _ us hl => match us, hl with | [_, _], _ => rfl, fun m ks perm h => by
    have h : (2, m, ks, perm) ∈ T.kws := h
    unfold T at h
    simp only [List.mem_cons, Prod.mk.injEq, List.not_mem_nil, or_false] at h
    obtain ⟨h0, h1, h2, h3⟩ := h
    exact absurd h0 (by decide)⟩
theorem df3 {fd : FuncData} (F : Fn K "is_less" 9 fd) (g : mg "is_less" = some (.ref (He.ga K "is_less"))) : Snd.Def K mg T 3 "is_less" (He.ga K "is_less") fd ["one", "other"] := ⟨g, F.kp, F.bindsN fun _ _ _ _ _ _ us hl => match us, hl with | [_, _], _ => rfl, fun m ks perm h => by
    have h : (3, m, ks, perm) ∈ T.kws := h
    unfold T at h
    simp only [List.mem_cons, Prod.mk.injEq, List.not_mem_nil, or_false] at h
    obtain ⟨h0, h1, h2, h3⟩ := h
    exact absurd h0 (by decide)⟩
theorem df4 {fd : FuncData} (F : Fn K "least_of" 10 fd) (g : mg "least_of" = some (.ref (He.ga K "least_of"))) : Snd.Def K mg T 4 "least_of" (He.ga K "least_of") fd ["times"] := ⟨g, F.kp, F.bindsN fun _ _ _ _ _ _ us hl => match us, hl with | [_], _ => rfl, fun m ks perm h => by
    have h : (4, m, ks, perm) ∈ T.kws := h
    unfold T at h
    simp only [List.mem_cons, Prod.mk.injEq, List.not_mem_nil, or_false] at h
    obtain ⟨h0, h1, h2, h3⟩ := h
    exact absurd h0 (by decide)⟩
theorem df5 {fd : FuncData} (F : Fn K "whole_sum" 11 fd) (g : mg "whole_sum" = some (.ref (He.ga K "whole_sum"))) : Snd.Def K mg T 5 "whole_sum" (He.ga K "whole_sum") fd ["many", "modulus", "factor", "start"] := ⟨g, F.kp, F.bindsN fun _ _ _ _ _ _ us hl => match us, hl with | [_, _, _, _], _ => rfl, fun m ks perm h => by
    have h : (5, m, ks, perm) ∈ T.kws := h
    unfold T at h
    simp only [List.mem_cons, Prod.mk.injEq, List.not_mem_nil, or_false] at h
    obtain ⟨h0, h1, h2, h3⟩ := h
    exact absurd h0 (by decide)⟩
theorem df6 {fd : FuncData} (F : Fn K "count_within" 12 fd) (g : mg "count_within" = some (.ref (He.ga K "count_within"))) : Snd.Def K mg T 6 "count_within" (He.ga K "count_within") fd ["many", "modulus", "factor", "start", "low", "high"] := ⟨g, F.kp, F.bindsN fun _ _ _ _ _ _ us hl => match us, hl with | [_, _, _, _, _, _], _ => rfl, fun m ks perm h => by
    have h : (6, m, ks, perm) ∈ T.kws := h
    unfold T at h
    simp only [List.mem_cons, Prod.mk.injEq, List.not_mem_nil, or_false] at h
    obtain ⟨h0, h1, h2, h3⟩ := h
    exact absurd h0 (by decide)⟩
theorem df7 {fd : FuncData} (F : Fn K "first_within" 13 fd) (g : mg "first_within" = some (.ref (He.ga K "first_within"))) : Snd.Def K mg T 7 "first_within" (He.ga K "first_within") fd ["modulus", "factor", "start", "low", "high"] := ⟨g, F.kp, F.bindsN fun _ _ _ _ _ _ us hl => match us, hl with | [_, _, _, _, _], _ => rfl, fun m ks perm h => by
    have h : (7, m, ks, perm) ∈ T.kws := h
    unfold T at h
    simp only [List.mem_cons, Prod.mk.injEq, List.not_mem_nil, or_false] at h
    obtain ⟨h0, h1, h2, h3⟩ := h
    exact absurd h0 (by decide)⟩
theorem df8 {fd : FuncData} (F : Fn K "are_table" 15 fd) (g : mg "are_table" = some (.ref (He.ga K "are_table"))) : Snd.Def K mg T 8 "are_table" (He.ga K "are_table") fd ["value"] := ⟨g, F.kp, F.bindsN fun _ _ _ _ _ _ us hl => match us, hl with | [_], _ => rfl, fun m ks perm h => by
    have h : (8, m, ks, perm) ∈ T.kws := h
    unfold T at h
    simp only [List.mem_cons, Prod.mk.injEq, List.not_mem_nil, or_false] at h
    obtain ⟨h0, h1, h2, h3⟩ := h
    exact absurd h0 (by decide)⟩
theorem df9 {fd : FuncData} (F : Fn K "is_free_shot" 16 fd) (g : mg "is_free_shot" = some (.ref (He.ga K "is_free_shot"))) : Snd.Def K mg T 9 "is_free_shot" (He.ga K "is_free_shot") fd ["value"] := ⟨g, F.kp, F.bindsN fun _ _ _ _ _ _ us hl => match us, hl with | [_], _ => rfl, fun m ks perm h => by
    have h : (9, m, ks, perm) ∈ T.kws := h
    unfold T at h
    simp only [List.mem_cons, Prod.mk.injEq, List.not_mem_nil, or_false] at h
    obtain ⟨h0, h1, h2, h3⟩ := h
    exact absurd h0 (by decide)⟩
theorem df10 {fd : FuncData} (F : Fn K "is_shot_on" 17 fd) (g : mg "is_shot_on" = some (.ref (He.ga K "is_shot_on"))) : Snd.Def K mg T 10 "is_shot_on" (He.ga K "is_shot_on") fd ["table", "value"] := ⟨g, F.kp, F.bindsN fun _ _ _ _ _ _ us hl => match us, hl with | [_, _], _ => rfl, fun m ks perm h => by
    have h : (10, m, ks, perm) ∈ T.kws := h
    unfold T at h
    simp only [List.mem_cons, Prod.mk.injEq, List.not_mem_nil, or_false] at h
    obtain ⟨h0, h1, h2, h3⟩ := h
    exact absurd h0 (by decide)⟩
theorem df11 {fd : FuncData} (F : Fn K "check_table" 18 fd) (g : mg "check_table" = some (.ref (He.ga K "check_table"))) : Snd.Def K mg T 11 "check_table" (He.ga K "check_table") fd ["table"] := ⟨g, F.kp, F.bindsN fun _ _ _ _ _ _ us hl => match us, hl with | [_], _ => rfl, fun m ks perm h => by
    have h : (11, m, ks, perm) ∈ T.kws := h
    unfold T at h
    simp only [List.mem_cons, Prod.mk.injEq, List.not_mem_nil, or_false] at h
    obtain ⟨h0, h1, h2, h3⟩ := h
    exact absurd h0 (by decide)⟩
theorem df12 {fd : FuncData} (F : Fn K "check_shot" 19 fd) (g : mg "check_shot" = some (.ref (He.ga K "check_shot"))) : Snd.Def K mg T 12 "check_shot" (He.ga K "check_shot") fd ["table", "shot"] := ⟨g, F.kp, F.bindsN fun _ _ _ _ _ _ us hl => match us, hl with | [_, _], _ => rfl, fun m ks perm h => by
    have h : (12, m, ks, perm) ∈ T.kws := h
    unfold T at h
    simp only [List.mem_cons, Prod.mk.injEq, List.not_mem_nil, or_false] at h
    obtain ⟨h0, h1, h2, h3⟩ := h
    exact absurd h0 (by decide)⟩
theorem df13 {fd : FuncData} (F : Fn K "is_range" 21 fd) (g : mg "is_range" = some (.ref (He.ga K "is_range"))) : Snd.Def K mg T 13 "is_range" (He.ga K "is_range") fd ["low", "high", "side"] := ⟨g, F.kp, F.bindsN fun _ _ _ _ _ _ us hl => match us, hl with | [_, _, _], _ => rfl, fun m ks perm h => by
    have h : (13, m, ks, perm) ∈ T.kws := h
    unfold T at h
    simp only [List.mem_cons, Prod.mk.injEq, List.not_mem_nil, or_false] at h
    obtain ⟨h0, h1, h2, h3⟩ := h
    exact absurd h0 (by decide)⟩
theorem df14 {fd : FuncData} (F : Fn K "is_box" 22 fd) (g : mg "is_box" = some (.ref (He.ga K "is_box"))) : Snd.Def K mg T 14 "is_box" (He.ga K "is_box") fd ["table", "value"] := ⟨g, F.kp, F.bindsN fun _ _ _ _ _ _ us hl => match us, hl with | [_, _], _ => rfl, fun m ks perm h => by
    have h : (14, m, ks, perm) ∈ T.kws := h
    unfold T at h
    simp only [List.mem_cons, Prod.mk.injEq, List.not_mem_nil, or_false] at h
    obtain ⟨h0, h1, h2, h3⟩ := h
    exact absurd h0 (by decide)⟩
theorem df15 {fd : FuncData} (F : Fn K "ranges" 23 fd) (g : mg "ranges" = some (.ref (He.ga K "ranges"))) : Snd.Def K mg T 15 "ranges" (He.ga K "ranges") fd ["side", "speed", "low", "high"] := ⟨g, F.kp, F.bindsN fun _ _ _ _ _ _ us hl => match us, hl with | [_, _, _, _], _ => rfl, fun m ks perm h => by
    have h : (15, m, ks, perm) ∈ T.kws := h
    unfold T at h
    simp only [List.mem_cons, Prod.mk.injEq, List.not_mem_nil, or_false] at h
    obtain ⟨h0, h1, h2, h3⟩ := h
    exact absurd h0 (by decide)⟩
theorem df16 {fd : FuncData} (F : Fn K "first_pass" 24 fd) (g : mg "first_pass" = some (.ref (He.ga K "first_pass"))) : Snd.Def K mg T 16 "first_pass" (He.ga K "first_pass") fd ["side", "speed", "factor", "start", "low", "high"] := ⟨g, F.kp, F.bindsN fun _ _ _ _ _ _ us hl => match us, hl with | [_, _, _, _, _, _], _ => rfl, fun m ks perm h => by
    have h : (16, m, ks, perm) ∈ T.kws := h
    unfold T at h
    simp only [List.mem_cons, Prod.mk.injEq, List.not_mem_nil, or_false] at h
    obtain ⟨h0, h1, h2, h3⟩ := h
    exact absurd h0 (by decide)⟩
theorem df17 {fd : FuncData} (F : Fn K "axis_of" 25 fd) (g : mg "axis_of" = some (.ref (He.ga K "axis_of"))) : Snd.Def K mg T 17 "axis_of" (He.ga K "axis_of") fd ["table", "shot", "spot"] := ⟨g, F.kp, F.bindsN fun _ _ _ _ _ _ us hl => match us, hl with | [_, _, _], _ => rfl, fun m ks perm h => by
    have h : (17, m, ks, perm) ∈ T.kws := h
    unfold T at h
    simp only [List.mem_cons, Prod.mk.injEq, List.not_mem_nil, or_false] at h
    obtain ⟨h0, h1, h2, h3⟩ := h
    exact absurd h0 (by decide)⟩
theorem df18 {fd : FuncData} (F : Fn K "pass_time" 26 fd) (g : mg "pass_time" = some (.ref (He.ga K "pass_time"))) : Snd.Def K mg T 18 "pass_time" (He.ga K "pass_time") fd ["axis", "goal", "low", "high"] := ⟨g, F.kp, F.bindsN fun _ _ _ _ _ _ us hl => match us, hl with | [_, _, _, _], _ => rfl, fun m ks perm h => by
    have h : (18, m, ks, perm) ∈ T.kws := h
    unfold T at h
    simp only [List.mem_cons, Prod.mk.injEq, List.not_mem_nil, or_false] at h
    obtain ⟨h0, h1, h2, h3⟩ := h
    exact absurd h0 (by decide)⟩
theorem df19 {fd : FuncData} (F : Fn K "box_time" 27 fd) (g : mg "box_time" = some (.ref (He.ga K "box_time"))) : Snd.Def K mg T 19 "box_time" (He.ga K "box_time") fd ["table", "shot", "box"] := ⟨g, F.kp, F.bindsN fun _ _ _ _ _ _ us hl => match us, hl with | [_, _, _], _ => rfl, fun m ks perm h => by
    have h : (19, m, ks, perm) ∈ T.kws := h
    unfold T at h
    simp only [List.mem_cons, Prod.mk.injEq, List.not_mem_nil, or_false] at h
    obtain ⟨h0, h1, h2, h3⟩ := h
    exact absurd h0 (by decide)⟩
theorem df20 {fd : FuncData} (F : Fn K "first_in_box" 28 fd) (g : mg "first_in_box" = some (.ref (He.ga K "first_in_box"))) : Snd.Def K mg T 20 "first_in_box" (He.ga K "first_in_box") fd ["table", "shot", "box"] := ⟨g, F.kp, F.bindsN fun _ _ _ _ _ _ us hl => match us, hl with | [_, _, _], _ => rfl, fun m ks perm h => by
    have h : (20, m, ks, perm) ∈ T.kws := h
    unfold T at h
    simp only [List.mem_cons, Prod.mk.injEq, List.not_mem_nil, or_false] at h
    obtain ⟨h0, h1, h2, h3⟩ := h
    subst h1 h2 h3; exact kw0 F⟩
theorem df21 {fd : FuncData} (F : Fn K "_law_well" 30 fd) (g : mg "_law_well" = some (.ref (He.ga K "_law_well"))) : Snd.Def K mg T 21 "_law_well" (He.ga K "_law_well") fd ["script", "at"] := ⟨g, F.kp, F.bindsN fun _ _ _ _ _ _ us hl => match us, hl with | [_, _], _ => rfl, fun m ks perm h => by
    have h : (21, m, ks, perm) ∈ T.kws := h
    unfold T at h
    simp only [List.mem_cons, Prod.mk.injEq, List.not_mem_nil, or_false] at h
    obtain ⟨h0, h1, h2, h3⟩ := h
    exact absurd h0 (by decide)⟩
theorem df22 {fd : FuncData} (F : Fn K "_law_draw" 31 fd) (g : mg "_law_draw" = some (.ref (He.ga K "_law_draw"))) : Snd.Def K mg T 22 "_law_draw" (He.ga K "_law_draw") fd ["well", "most"] := ⟨g, F.kp, F.bindsN fun _ _ _ _ _ _ us hl => match us, hl with | [_, _], _ => rfl, fun m ks perm h => by
    have h : (22, m, ks, perm) ∈ T.kws := h
    unfold T at h
    simp only [List.mem_cons, Prod.mk.injEq, List.not_mem_nil, or_false] at h
    obtain ⟨h0, h1, h2, h3⟩ := h
    exact absurd h0 (by decide)⟩
theorem df23 {fd : FuncData} (F : Fn K "_law_same" 32 fd) (g : mg "_law_same" = some (.ref (He.ga K "_law_same"))) : Snd.Def K mg T 23 "_law_same" (He.ga K "_law_same") fd ["found", "due"] := ⟨g, F.kp, F.bindsN fun _ _ _ _ _ _ us hl => match us, hl with | [_, _], _ => rfl, fun m ks perm h => by
    have h : (23, m, ks, perm) ∈ T.kws := h
    unfold T at h
    simp only [List.mem_cons, Prod.mk.injEq, List.not_mem_nil, or_false] at h
    obtain ⟨h0, h1, h2, h3⟩ := h
    exact absurd h0 (by decide)⟩
theorem df24 {fd : FuncData} (F : Fn K "_law_desk" 33 fd) (g : mg "_law_desk" = some (.ref (He.ga K "_law_desk"))) : Snd.Def K mg T 24 "_law_desk" (He.ga K "_law_desk") fd ["well", "most"] := ⟨g, F.kp, F.bindsN fun _ _ _ _ _ _ us hl => match us, hl with | [_, _], _ => rfl, fun m ks perm h => by
    have h : (24, m, ks, perm) ∈ T.kws := h
    unfold T at h
    simp only [List.mem_cons, Prod.mk.injEq, List.not_mem_nil, or_false] at h
    obtain ⟨h0, h1, h2, h3⟩ := h
    exact absurd h0 (by decide)⟩
theorem df25 {fd : FuncData} (F : Fn K "_law_roll" 34 fd) (g : mg "_law_roll" = some (.ref (He.ga K "_law_roll"))) : Snd.Def K mg T 25 "_law_roll" (He.ga K "_law_roll") fd ["well", "desk", "most"] := ⟨g, F.kp, F.bindsN fun _ _ _ _ _ _ us hl => match us, hl with | [_, _, _], _ => rfl, fun m ks perm h => by
    have h : (25, m, ks, perm) ∈ T.kws := h
    unfold T at h
    simp only [List.mem_cons, Prod.mk.injEq, List.not_mem_nil, or_false] at h
    obtain ⟨h0, h1, h2, h3⟩ := h
    exact absurd h0 (by decide)⟩
theorem df26 {fd : FuncData} (F : Fn K "_law_low" 35 fd) (g : mg "_law_low" = some (.ref (He.ga K "_law_low"))) : Snd.Def K mg T 26 "_law_low" (He.ga K "_law_low") fd ["top", "bottom"] := ⟨g, F.kp, F.bindsN fun _ _ _ _ _ _ us hl => match us, hl with | [_, _], _ => rfl, fun m ks perm h => by
    have h : (26, m, ks, perm) ∈ T.kws := h
    unfold T at h
    simp only [List.mem_cons, Prod.mk.injEq, List.not_mem_nil, or_false] at h
    obtain ⟨h0, h1, h2, h3⟩ := h
    exact absurd h0 (by decide)⟩
theorem df27 {fd : FuncData} (F : Fn K "_law_fold" 36 fd) (g : mg "_law_fold" = some (.ref (He.ga K "_law_fold"))) : Snd.Def K mg T 27 "_law_fold" (He.ga K "_law_fold") fd ["edge", "top", "bottom"] := ⟨g, F.kp, F.bindsN fun _ _ _ _ _ _ us hl => match us, hl with | [_, _, _], _ => rfl, fun m ks perm h => by
    have h : (27, m, ks, perm) ∈ T.kws := h
    unfold T at h
    simp only [List.mem_cons, Prod.mk.injEq, List.not_mem_nil, or_false] at h
    obtain ⟨h0, h1, h2, h3⟩ := h
    exact absurd h0 (by decide)⟩
theorem df28 {fd : FuncData} (F : Fn K "_law_spot" 37 fd) (g : mg "_law_spot" = some (.ref (He.ga K "_law_spot"))) : Snd.Def K mg T 28 "_law_spot" (He.ga K "_law_spot") fd ["desk", "shot_here", "top", "bottom"] := ⟨g, F.kp, F.bindsN fun _ _ _ _ _ _ us hl => match us, hl with | [_, _, _, _], _ => rfl, fun m ks perm h => by
    have h : (28, m, ks, perm) ∈ T.kws := h
    unfold T at h
    simp only [List.mem_cons, Prod.mk.injEq, List.not_mem_nil, or_false] at h
    obtain ⟨h0, h1, h2, h3⟩ := h
    exact absurd h0 (by decide)⟩
theorem df29 {fd : FuncData} (F : Fn K "_law_round" 38 fd) (g : mg "_law_round" = some (.ref (He.ga K "_law_round"))) : Snd.Def K mg T 29 "_law_round" (He.ga K "_law_round") fd ["desk", "roll"] := ⟨g, F.kp, F.bindsN fun _ _ _ _ _ _ us hl => match us, hl with | [_, _], _ => rfl, fun m ks perm h => by
    have h : (29, m, ks, perm) ∈ T.kws := h
    unfold T at h
    simp only [List.mem_cons, Prod.mk.injEq, List.not_mem_nil, or_false] at h
    obtain ⟨h0, h1, h2, h3⟩ := h
    exact absurd h0 (by decide)⟩
theorem df30 {fd : FuncData} (F : Fn K "_law_marks" 39 fd) (g : mg "_law_marks" = some (.ref (He.ga K "_law_marks"))) : Snd.Def K mg T 30 "_law_marks" (He.ga K "_law_marks") fd ["desk", "roll", "axis", "goals", "most"] := ⟨g, F.kp, F.bindsN fun _ _ _ _ _ _ us hl => match us, hl with | [_, _, _, _, _], _ => rfl, fun m ks perm h => by
    have h : (30, m, ks, perm) ∈ T.kws := h
    unfold T at h
    simp only [List.mem_cons, Prod.mk.injEq, List.not_mem_nil, or_false] at h
    obtain ⟨h0, h1, h2, h3⟩ := h
    exact absurd h0 (by decide)⟩
theorem df31 {fd : FuncData} (F : Fn K "_law_edges" 40 fd) (g : mg "_law_edges" = some (.ref (He.ga K "_law_edges"))) : Snd.Def K mg T 31 "_law_edges" (He.ga K "_law_edges") fd ["well", "desk"] := ⟨g, F.kp, F.bindsN fun _ _ _ _ _ _ us hl => match us, hl with | [_, _], _ => rfl, fun m ks perm h => by
    have h : (31, m, ks, perm) ∈ T.kws := h
    unfold T at h
    simp only [List.mem_cons, Prod.mk.injEq, List.not_mem_nil, or_false] at h
    obtain ⟨h0, h1, h2, h3⟩ := h
    exact absurd h0 (by decide)⟩
theorem df32 {fd : FuncData} (F : Fn K "_law_within" 41 fd) (g : mg "_law_within" = some (.ref (He.ga K "_law_within"))) : Snd.Def K mg T 32 "_law_within" (He.ga K "_law_within") fd ["place", "room"] := ⟨g, F.kp, F.bindsN fun _ _ _ _ _ _ us hl => match us, hl with | [_, _], _ => rfl, fun m ks perm h => by
    have h : (32, m, ks, perm) ∈ T.kws := h
    unfold T at h
    simp only [List.mem_cons, Prod.mk.injEq, List.not_mem_nil, or_false] at h
    obtain ⟨h0, h1, h2, h3⟩ := h
    exact absurd h0 (by decide)⟩
theorem df33 {fd : FuncData} (F : Fn K "_law_sooner" 42 fd) (g : mg "_law_sooner" = some (.ref (He.ga K "_law_sooner"))) : Snd.Def K mg T 33 "_law_sooner" (He.ga K "_law_sooner") fd ["one", "two"] := ⟨g, F.kp, F.bindsN fun _ _ _ _ _ _ us hl => match us, hl with | [_, _], _ => rfl, fun m ks perm h => by
    have h : (33, m, ks, perm) ∈ T.kws := h
    unfold T at h
    simp only [List.mem_cons, Prod.mk.injEq, List.not_mem_nil, or_false] at h
    obtain ⟨h0, h1, h2, h3⟩ := h
    exact absurd h0 (by decide)⟩
theorem df34 {fd : FuncData} (F : Fn K "_law_reach" 43 fd) (g : mg "_law_reach" = some (.ref (He.ga K "_law_reach"))) : Snd.Def K mg T 34 "_law_reach" (He.ga K "_law_reach") fd ["factor", "ring", "low", "high"] := ⟨g, F.kp, F.bindsN fun _ _ _ _ _ _ us hl => match us, hl with | [_, _, _, _], _ => rfl, fun m ks perm h => by
    have h : (34, m, ks, perm) ∈ T.kws := h
    unfold T at h
    simp only [List.mem_cons, Prod.mk.injEq, List.not_mem_nil, or_false] at h
    obtain ⟨h0, h1, h2, h3⟩ := h
    exact absurd h0 (by decide)⟩
theorem df35 {fd : FuncData} (F : Fn K "_law_pass" 44 fd) (g : mg "_law_pass" = some (.ref (He.ga K "_law_pass"))) : Snd.Def K mg T 35 "_law_pass" (He.ga K "_law_pass") fd ["edge", "speed", "factor", "start", "low", "high"] := ⟨g, F.kp, F.bindsN fun _ _ _ _ _ _ us hl => match us, hl with | [_, _, _, _, _, _], _ => rfl, fun m ks perm h => by
    have h : (35, m, ks, perm) ∈ T.kws := h
    unfold T at h
    simp only [List.mem_cons, Prod.mk.injEq, List.not_mem_nil, or_false] at h
    obtain ⟨h0, h1, h2, h3⟩ := h
    exact absurd h0 (by decide)⟩
theorem df36 {fd : FuncData} (F : Fn K "_law_due" 45 fd) (g : mg "_law_due" = some (.ref (He.ga K "_law_due"))) : Snd.Def K mg T 36 "_law_due" (He.ga K "_law_due") fd ["desk", "put", "room"] := ⟨g, F.kp, F.bindsN fun _ _ _ _ _ _ us hl => match us, hl with | [_, _, _], _ => rfl, fun m ks perm h => by
    have h : (36, m, ks, perm) ∈ T.kws := h
    unfold T at h
    simp only [List.mem_cons, Prod.mk.injEq, List.not_mem_nil, or_false] at h
    obtain ⟨h0, h1, h2, h3⟩ := h
    exact absurd h0 (by decide)⟩
theorem df37 {fd : FuncData} (F : Fn K "_law_great_due" 46 fd) (g : mg "_law_great_due" = some (.ref (He.ga K "_law_great_due"))) : Snd.Def K mg T 37 "_law_great_due" (He.ga K "_law_great_due") fd ["desk", "put", "room"] := ⟨g, F.kp, F.bindsN fun _ _ _ _ _ _ us hl => match us, hl with | [_, _, _], _ => rfl, fun m ks perm h => by
    have h : (37, m, ks, perm) ∈ T.kws := h
    unfold T at h
    simp only [List.mem_cons, Prod.mk.injEq, List.not_mem_nil, or_false] at h
    obtain ⟨h0, h1, h2, h3⟩ := h
    exact absurd h0 (by decide)⟩
theorem df38 {fd : FuncData} (F : Fn K "_law_small_right" 47 fd) (g : mg "_law_small_right" = some (.ref (He.ga K "_law_small_right"))) : Snd.Def K mg T 38 "_law_small_right" (He.ga K "_law_small_right") fd ["well"] := ⟨g, F.kp, F.bindsN fun _ _ _ _ _ _ us hl => match us, hl with | [_], _ => rfl, fun m ks perm h => by
    have h : (38, m, ks, perm) ∈ T.kws := h
    unfold T at h
    simp only [List.mem_cons, Prod.mk.injEq, List.not_mem_nil, or_false] at h
    obtain ⟨h0, h1, h2, h3⟩ := h
    exact absurd h0 (by decide)⟩
theorem df39 {fd : FuncData} (F : Fn K "_law_great_right" 48 fd) (g : mg "_law_great_right" = some (.ref (He.ga K "_law_great_right"))) : Snd.Def K mg T 39 "_law_great_right" (He.ga K "_law_great_right") fd ["well"] := ⟨g, F.kp, F.bindsN fun _ _ _ _ _ _ us hl => match us, hl with | [_], _ => rfl, fun m ks perm h => by
    have h : (39, m, ks, perm) ∈ T.kws := h
    unfold T at h
    simp only [List.mem_cons, Prod.mk.injEq, List.not_mem_nil, or_false] at h
    obtain ⟨h0, h1, h2, h3⟩ := h
    exact absurd h0 (by decide)⟩
theorem df40 {fd : FuncData} (F : Fn K "law" 49 fd) (g : mg "law" = some (.ref (He.ga K "law"))) : Snd.Def K mg T 40 "law" (He.ga K "law") fd ["script"] := ⟨g, F.kp, F.bindsN fun _ _ _ _ _ _ us hl => match us, hl with | [_], _ => rfl, fun m ks perm h => by
    have h : (40, m, ks, perm) ∈ T.kws := h
    unfold T at h
    simp only [List.mem_cons, Prod.mk.injEq, List.not_mem_nil, or_false] at h
    obtain ⟨h0, h1, h2, h3⟩ := h
    exact absurd h0 (by decide)⟩
/-- what the head tells -/
theorem all (h : Heap) (X : K.In h) (G : h.Ns mainGlobals mg) (c : He.SaysD fal fnl K) (cc : Snd.consK cl K = true) : Snd.Law ⟨K, mg, T, Snd.stage P.sp P.con 40⟩ Pg w base 200 := by
  obtain ⟨fd0, F0⟩ := c.def_ 0 (d := dd "is_integer" 6) rfl
  obtain ⟨fd1, F1⟩ := c.def_ 1 (d := dd "divisor" 7) rfl
  obtain ⟨fd2, F2⟩ := c.def_ 2 (d := dd "fraction" 8) rfl
  obtain ⟨fd3, F3⟩ := c.def_ 3 (d := dd "is_less" 9) rfl
  obtain ⟨fd4, F4⟩ := c.def_ 4 (d := dd "least_of" 10) rfl
  obtain ⟨fd5, F5⟩ := c.def_ 5 (d := dd "whole_sum" 11) rfl
  obtain ⟨fd6, F6⟩ := c.def_ 6 (d := dd "count_within" 12) rfl
  obtain ⟨fd7, F7⟩ := c.def_ 7 (d := dd "first_within" 13) rfl
  obtain ⟨fd8, F8⟩ := c.def_ 8 (d := dd "are_table" 15) rfl
  obtain ⟨fd9, F9⟩ := c.def_ 9 (d := dd "is_free_shot" 16) rfl
  obtain ⟨fd10, F10⟩ := c.def_ 10 (d := dd "is_shot_on" 17) rfl
  obtain ⟨fd11, F11⟩ := c.def_ 11 (d := dd "check_table" 18) rfl
  obtain ⟨fd12, F12⟩ := c.def_ 12 (d := dd "check_shot" 19) rfl
  obtain ⟨fd13, F13⟩ := c.def_ 13 (d := dd "is_range" 21) rfl
  obtain ⟨fd14, F14⟩ := c.def_ 14 (d := dd "is_box" 22) rfl
  obtain ⟨fd15, F15⟩ := c.def_ 15 (d := dd "ranges" 23) rfl
  obtain ⟨fd16, F16⟩ := c.def_ 16 (d := dd "first_pass" 24) rfl
  obtain ⟨fd17, F17⟩ := c.def_ 17 (d := dd "axis_of" 25) rfl
  obtain ⟨fd18, F18⟩ := c.def_ 18 (d := dd "pass_time" 26) rfl
  obtain ⟨fd19, F19⟩ := c.def_ 19 (d := dd "box_time" 27) rfl
  obtain ⟨fd20, F20⟩ := c.def_ 20 (d := dd "first_in_box" 28) rfl
  obtain ⟨fd21, F21⟩ := c.def_ 21 (d := dd "_law_well" 30) rfl
  obtain ⟨fd22, F22⟩ := c.def_ 22 (d := dd "_law_draw" 31) rfl
  obtain ⟨fd23, F23⟩ := c.def_ 23 (d := dd "_law_same" 32) rfl
  obtain ⟨fd24, F24⟩ := c.def_ 24 (d := dd "_law_desk" 33) rfl
  obtain ⟨fd25, F25⟩ := c.def_ 25 (d := dd "_law_roll" 34) rfl
  obtain ⟨fd26, F26⟩ := c.def_ 26 (d := dd "_law_low" 35) rfl
  obtain ⟨fd27, F27⟩ := c.def_ 27 (d := dd "_law_fold" 36) rfl
  obtain ⟨fd28, F28⟩ := c.def_ 28 (d := dd "_law_spot" 37) rfl
  obtain ⟨fd29, F29⟩ := c.def_ 29 (d := dd "_law_round" 38) rfl
  obtain ⟨fd30, F30⟩ := c.def_ 30 (d := dd "_law_marks" 39) rfl
  obtain ⟨fd31, F31⟩ := c.def_ 31 (d := dd "_law_edges" 40) rfl
  obtain ⟨fd32, F32⟩ := c.def_ 32 (d := dd "_law_within" 41) rfl
  obtain ⟨fd33, F33⟩ := c.def_ 33 (d := dd "_law_sooner" 42) rfl
  obtain ⟨fd34, F34⟩ := c.def_ 34 (d := dd "_law_reach" 43) rfl
  obtain ⟨fd35, F35⟩ := c.def_ 35 (d := dd "_law_pass" 44) rfl
  obtain ⟨fd36, F36⟩ := c.def_ 36 (d := dd "_law_due" 45) rfl
  obtain ⟨fd37, F37⟩ := c.def_ 37 (d := dd "_law_great_due" 46) rfl
  obtain ⟨fd38, F38⟩ := c.def_ 38 (d := dd "_law_small_right" 47) rfl
  obtain ⟨fd39, F39⟩ := c.def_ 39 (d := dd "_law_great_right" 48) rfl
  obtain ⟨fd40, F40⟩ := c.def_ 40 (d := dd "law" 49) rfl
  have bts : ∀ x ∈ T.bts, mg x = none := fun x hx => by
    unfold T at hx
    simp only [List.mem_cons, List.not_mem_nil, or_false] at hx
    rcases hx with rfl | rfl | rfl | rfl | rfl | rfl | rfl | rfl | rfl | rfl | rfl | rfl | rfl
    · exact He.free_ok X G (c.fact 41 (f := .free "abs") rfl)
    · exact He.free_ok X G (c.fact 42 (f := .free "all") rfl)
    · exact He.free_ok X G (c.fact 43 (f := .free "bool") rfl)
    · exact He.free_ok X G (c.fact 44 (f := .free "int") rfl)
    · exact He.free_ok X G (c.fact 45 (f := .free "isinstance") rfl)
    · exact He.free_ok X G (c.fact 46 (f := .free "len") rfl)
    · exact He.free_ok X G (c.fact 47 (f := .free "list") rfl)
    · exact He.free_ok X G (c.fact 48 (f := .free "max") rfl)
    · exact He.free_ok X G (c.fact 49 (f := .free "min") rfl)
    · exact He.free_ok X G (c.fact 50 (f := .free "range") rfl)
    · exact He.free_ok X G (c.fact 51 (f := .free "repr") rfl)
    · exact He.free_ok X G (c.fact 52 (f := .free "sorted") rfl)
    · exact He.free_ok X G (c.fact 53 (f := .free "tuple") rfl)
  have cns : ∀ n x, T.cons[n]? = some x → ∃ u v, mg x = some u ∧ RelV v u ∧ ∀ H, Snd.RelD K H (P.con n) v := fun n x h => by
    match n, h with
    | k + 0, h => cases h
  refine Snd.chain (fun n => n + (if 23 < n then 11 else 0) + (if 34 < n then 149 else 0)) (fun n => if n = 23 then 12 else if n = 34 then 150 else 1) (fun m n h => by (try dsimp only); (repeat' split) <;> omega) bts cns (fun n x h => ?_) 40
  match n, h with
  | 0, h => obtain rfl : "is_integer" = x := Option.some.inj h; exact ⟨_, fd0, _, (df0 F0 (He.glo_ok X G (c.fact 0 (f := .glo "is_integer") rfl))), fun k L => Snd.fn_ok L F0 sc0 ck0 (P.body0 (Snd.stage P.sp P.con 0) rfl rfl)⟩
  | 1, h => obtain rfl : "divisor" = x := Option.some.inj h; exact ⟨_, fd1, _, (df1 F1 (He.glo_ok X G (c.fact 1 (f := .glo "divisor") rfl))), fun k L => Snd.fn_ok L F1 sc1 ck1 (P.body1 (Snd.stage P.sp P.con 1) rfl rfl)⟩
  | 2, h => obtain rfl : "fraction" = x := Option.some.inj h; exact ⟨_, fd2, _, (df2 F2 (He.glo_ok X G (c.fact 2 (f := .glo "fraction") rfl))), fun k L => Snd.fn_ok L F2 sc2 ck2 (P.body2 (Snd.stage P.sp P.con 2) rfl rfl)⟩
  | 3, h => obtain rfl : "is_less" = x := Option.some.inj h; exact ⟨_, fd3, _, (df3 F3 (He.glo_ok X G (c.fact 3 (f := .glo "is_less") rfl))), fun k L => Snd.fn_ok L F3 sc3 ck3 (P.body3 (Snd.stage P.sp P.con 3) rfl rfl)⟩
  | 4, h => obtain rfl : "least_of" = x := Option.some.inj h; exact ⟨_, fd4, _, (df4 F4 (He.glo_ok X G (c.fact 4 (f := .glo "least_of") rfl))), fun k L => Snd.fn_ok L F4 sc4 ck4 (P.body4 (Snd.stage P.sp P.con 4) rfl rfl)⟩
  | 5, h => obtain rfl : "whole_sum" = x := Option.some.inj h; exact ⟨_, fd5, _, (df5 F5 (He.glo_ok X G (c.fact 5 (f := .glo "whole_sum") rfl))), fun k L => Snd.fn_ok L F5 sc5 ck5 (P.body5 (Snd.stage P.sp P.con 5) rfl rfl)⟩
  | 6, h => obtain rfl : "count_within" = x := Option.some.inj h; exact ⟨_, fd6, _, (df6 F6 (He.glo_ok X G (c.fact 6 (f := .glo "count_within") rfl))), fun k L => Snd.fn_ok L F6 sc6 ck6 (P.body6 (Snd.stage P.sp P.con 6) rfl rfl)⟩
  | 7, h => obtain rfl : "first_within" = x := Option.some.inj h; exact ⟨_, fd7, _, (df7 F7 (He.glo_ok X G (c.fact 7 (f := .glo "first_within") rfl))), fun k L => Snd.fn_ok L F7 sc7 ck7 (P.body7 (Snd.stage P.sp P.con 7) rfl rfl)⟩
  | 8, h => obtain rfl : "are_table" = x := Option.some.inj h; exact ⟨_, fd8, _, (df8 F8 (He.glo_ok X G (c.fact 8 (f := .glo "are_table") rfl))), fun k L => Snd.fn_ok L F8 sc8 ck8 (P.body8 (Snd.stage P.sp P.con 8) rfl rfl)⟩
  | 9, h => obtain rfl : "is_free_shot" = x := Option.some.inj h; exact ⟨_, fd9, _, (df9 F9 (He.glo_ok X G (c.fact 9 (f := .glo "is_free_shot") rfl))), fun k L => Snd.fn_ok L F9 sc9 ck9 (P.body9 (Snd.stage P.sp P.con 9) rfl rfl)⟩
  | 10, h => obtain rfl : "is_shot_on" = x := Option.some.inj h; exact ⟨_, fd10, _, (df10 F10 (He.glo_ok X G (c.fact 10 (f := .glo "is_shot_on") rfl))), fun k L => Snd.fn_ok L F10 sc10 ck10 (P.body10 (Snd.stage P.sp P.con 10) rfl rfl)⟩
  | 11, h => obtain rfl : "check_table" = x := Option.some.inj h; exact ⟨_, fd11, _, (df11 F11 (He.glo_ok X G (c.fact 11 (f := .glo "check_table") rfl))), fun k L => Snd.fn_ok L F11 sc11 ck11 (P.body11 (Snd.stage P.sp P.con 11) rfl rfl)⟩
  | 12, h => obtain rfl : "check_shot" = x := Option.some.inj h; exact ⟨_, fd12, _, (df12 F12 (He.glo_ok X G (c.fact 12 (f := .glo "check_shot") rfl))), fun k L => Snd.fn_ok L F12 sc12 ck12 (P.body12 (Snd.stage P.sp P.con 12) rfl rfl)⟩
  | 13, h => obtain rfl : "is_range" = x := Option.some.inj h; exact ⟨_, fd13, _, (df13 F13 (He.glo_ok X G (c.fact 13 (f := .glo "is_range") rfl))), fun k L => Snd.fn_ok L F13 sc13 ck13 (P.body13 (Snd.stage P.sp P.con 13) rfl rfl)⟩
  | 14, h => obtain rfl : "is_box" = x := Option.some.inj h; exact ⟨_, fd14, _, (df14 F14 (He.glo_ok X G (c.fact 14 (f := .glo "is_box") rfl))), fun k L => Snd.fn_ok L F14 sc14 ck14 (P.body14 (Snd.stage P.sp P.con 14) rfl rfl)⟩
  | 15, h => obtain rfl : "ranges" = x := Option.some.inj h; exact ⟨_, fd15, _, (df15 F15 (He.glo_ok X G (c.fact 15 (f := .glo "ranges") rfl))), fun k L => Snd.fn_ok L F15 sc15 ck15 (P.body15 (Snd.stage P.sp P.con 15) rfl rfl)⟩
  | 16, h => obtain rfl : "first_pass" = x := Option.some.inj h; exact ⟨_, fd16, _, (df16 F16 (He.glo_ok X G (c.fact 16 (f := .glo "first_pass") rfl))), fun k L => Snd.fn_ok L F16 sc16 ck16 (P.body16 (Snd.stage P.sp P.con 16) rfl rfl)⟩
  | 17, h => obtain rfl : "axis_of" = x := Option.some.inj h; exact ⟨_, fd17, _, (df17 F17 (He.glo_ok X G (c.fact 17 (f := .glo "axis_of") rfl))), fun k L => Snd.fn_ok L F17 sc17 ck17 (P.body17 (Snd.stage P.sp P.con 17) rfl rfl)⟩
  | 18, h => obtain rfl : "pass_time" = x := Option.some.inj h; exact ⟨_, fd18, _, (df18 F18 (He.glo_ok X G (c.fact 18 (f := .glo "pass_time") rfl))), fun k L => Snd.fn_ok L F18 sc18 ck18 (P.body18 (Snd.stage P.sp P.con 18) rfl rfl)⟩
  | 19, h => obtain rfl : "box_time" = x := Option.some.inj h; exact ⟨_, fd19, _, (df19 F19 (He.glo_ok X G (c.fact 19 (f := .glo "box_time") rfl))), fun k L => Snd.fn_ok L F19 sc19 ck19 (P.body19 (Snd.stage P.sp P.con 19) rfl rfl)⟩
  | 20, h => obtain rfl : "first_in_box" = x := Option.some.inj h; exact ⟨_, fd20, _, (df20 F20 (He.glo_ok X G (c.fact 20 (f := .glo "first_in_box") rfl))), fun k L => Snd.fn_ok L F20 sc20 ck20 (P.body20 (Snd.stage P.sp P.con 20) rfl rfl)⟩
  | 21, h => obtain rfl : "_law_well" = x := Option.some.inj h; exact ⟨_, fd21, _, (df21 F21 (He.glo_ok X G (c.fact 21 (f := .glo "_law_well") rfl))), fun k L => Snd.fn_ok L F21 sc21 ck21 (P.body21 (Snd.stage P.sp P.con 21) rfl rfl)⟩
  | 22, h => obtain rfl : "_law_draw" = x := Option.some.inj h; exact ⟨_, fd22, _, (df22 F22 (He.glo_ok X G (c.fact 22 (f := .glo "_law_draw") rfl))), fun k L => Snd.fn_ok L F22 sc22 ck22 (P.body22 (Snd.stage P.sp P.con 22) rfl rfl)⟩
  | 23, h => obtain rfl : "_law_same" = x := Option.some.inj h; exact ⟨_, fd23, _, (df23 F23 (He.glo_ok X G (c.fact 23 (f := .glo "_law_same") rfl))), fun k L => Snd.rec_all (c := ⟨K, mg, T, Snd.stage P.sp P.con 23⟩) (B := 12) (Snd.rec_fn L (df23 F23 (He.glo_ok X G (c.fact 23 (f := .glo "_law_same") rfl))) rfl P.fuel P.fuel0 fun m k L => Snd.fn_ok L F23 sc23 ck23 (P.body23 m _ rfl rfl))⟩
  | 24, h => obtain rfl : "_law_desk" = x := Option.some.inj h; exact ⟨_, fd24, _, (df24 F24 (He.glo_ok X G (c.fact 24 (f := .glo "_law_desk") rfl))), fun k L => Snd.fn_ok L F24 sc24 ck24 (P.body24 (Snd.stage P.sp P.con 24) rfl rfl)⟩
  | 25, h => obtain rfl : "_law_roll" = x := Option.some.inj h; exact ⟨_, fd25, _, (df25 F25 (He.glo_ok X G (c.fact 25 (f := .glo "_law_roll") rfl))), fun k L => Snd.fn_ok L F25 sc25 ck25 (P.body25 (Snd.stage P.sp P.con 25) rfl rfl)⟩
  | 26, h => obtain rfl : "_law_low" = x := Option.some.inj h; exact ⟨_, fd26, _, (df26 F26 (He.glo_ok X G (c.fact 26 (f := .glo "_law_low") rfl))), fun k L => Snd.fn_ok L F26 sc26 ck26 (P.body26 (Snd.stage P.sp P.con 26) rfl rfl)⟩
  | 27, h => obtain rfl : "_law_fold" = x := Option.some.inj h; exact ⟨_, fd27, _, (df27 F27 (He.glo_ok X G (c.fact 27 (f := .glo "_law_fold") rfl))), fun k L => Snd.fn_ok L F27 sc27 ck27 (P.body27 (Snd.stage P.sp P.con 27) rfl rfl)⟩
  | 28, h => obtain rfl : "_law_spot" = x := Option.some.inj h; exact ⟨_, fd28, _, (df28 F28 (He.glo_ok X G (c.fact 28 (f := .glo "_law_spot") rfl))), fun k L => Snd.fn_ok L F28 sc28 ck28 (P.body28 (Snd.stage P.sp P.con 28) rfl rfl)⟩
  | 29, h => obtain rfl : "_law_round" = x := Option.some.inj h; exact ⟨_, fd29, _, (df29 F29 (He.glo_ok X G (c.fact 29 (f := .glo "_law_round") rfl))), fun k L => Snd.fn_ok L F29 sc29 ck29 (P.body29 (Snd.stage P.sp P.con 29) rfl rfl)⟩
  | 30, h => obtain rfl : "_law_marks" = x := Option.some.inj h; exact ⟨_, fd30, _, (df30 F30 (He.glo_ok X G (c.fact 30 (f := .glo "_law_marks") rfl))), fun k L => Snd.fn_ok L F30 sc30 ck30 (P.body30 (Snd.stage P.sp P.con 30) rfl rfl)⟩
  | 31, h => obtain rfl : "_law_edges" = x := Option.some.inj h; exact ⟨_, fd31, _, (df31 F31 (He.glo_ok X G (c.fact 31 (f := .glo "_law_edges") rfl))), fun k L => Snd.fn_ok L F31 sc31 ck31 (P.body31 (Snd.stage P.sp P.con 31) rfl rfl)⟩
  | 32, h => obtain rfl : "_law_within" = x := Option.some.inj h; exact ⟨_, fd32, _, (df32 F32 (He.glo_ok X G (c.fact 32 (f := .glo "_law_within") rfl))), fun k L => Snd.fn_ok L F32 sc32 ck32 (P.body32 (Snd.stage P.sp P.con 32) rfl rfl)⟩
  | 33, h => obtain rfl : "_law_sooner" = x := Option.some.inj h; exact ⟨_, fd33, _, (df33 F33 (He.glo_ok X G (c.fact 33 (f := .glo "_law_sooner") rfl))), fun k L => Snd.fn_ok L F33 sc33 ck33 (P.body33 (Snd.stage P.sp P.con 33) rfl rfl)⟩
  | 34, h => obtain rfl : "_law_reach" = x := Option.some.inj h; exact ⟨_, fd34, _, (df34 F34 (He.glo_ok X G (c.fact 34 (f := .glo "_law_reach") rfl))), fun k L => Snd.rec_all (c := ⟨K, mg, T, Snd.stage P.sp P.con 34⟩) (B := 150) (Snd.rec_fn L (df34 F34 (He.glo_ok X G (c.fact 34 (f := .glo "_law_reach") rfl))) rfl P.fuel2 P.fuel20 fun m k L => Snd.fn_ok L F34 sc34 ck34 (P.body34 m _ rfl rfl))⟩
  | 35, h => obtain rfl : "_law_pass" = x := Option.some.inj h; exact ⟨_, fd35, _, (df35 F35 (He.glo_ok X G (c.fact 35 (f := .glo "_law_pass") rfl))), fun k L => Snd.fn_ok L F35 sc35 ck35 (P.body35 (Snd.stage P.sp P.con 35) rfl rfl)⟩
  | 36, h => obtain rfl : "_law_due" = x := Option.some.inj h; exact ⟨_, fd36, _, (df36 F36 (He.glo_ok X G (c.fact 36 (f := .glo "_law_due") rfl))), fun k L => Snd.fn_ok L F36 sc36 ck36 (P.body36 (Snd.stage P.sp P.con 36) rfl rfl)⟩
  | 37, h => obtain rfl : "_law_great_due" = x := Option.some.inj h; exact ⟨_, fd37, _, (df37 F37 (He.glo_ok X G (c.fact 37 (f := .glo "_law_great_due") rfl))), fun k L => Snd.fn_ok L F37 sc37 ck37 (P.body37 (Snd.stage P.sp P.con 37) rfl rfl)⟩
  | 38, h => obtain rfl : "_law_small_right" = x := Option.some.inj h; exact ⟨_, fd38, _, (df38 F38 (He.glo_ok X G (c.fact 38 (f := .glo "_law_small_right") rfl))), fun k L => Snd.fn_ok L F38 sc38 ck38 (P.body38 (Snd.stage P.sp P.con 38) rfl rfl)⟩
  | 39, h => obtain rfl : "_law_great_right" = x := Option.some.inj h; exact ⟨_, fd39, _, (df39 F39 (He.glo_ok X G (c.fact 39 (f := .glo "_law_great_right") rfl))), fun k L => Snd.fn_ok L F39 sc39 ck39 (P.body39 (Snd.stage P.sp P.con 39) rfl rfl)⟩
  | 40, h => obtain rfl : "law" = x := Option.some.inj h; exact ⟨_, fd40, _, (df40 F40 (He.glo_ok X G (c.fact 40 (f := .glo "law") rfl))), fun k L => Snd.fn_ok L F40 sc40 ck40 (P.body40 (Snd.stage P.sp P.con 40) rfl rfl)⟩
  | k + 41, h => cases h
end
/-- the law's def -/
theorem last {Pg : Program} {w : World} {K : PySem.W.Frag} {h : Heap} {mg : Str → Option Value} {f : Addr} (X : K.In h) (G : h.Ns mainGlobals mg) (hf : mg ("law" : Str) = some (.ref f)) (c : He.SaysD fal fnl K) (cc : Snd.consK cl K = true) :
    ∃ fd : FuncData, (∀ (s : Shared) (v : Value), BindsTo s fd ⟨[v], []⟩ [("script", v)]) ∧ ∀ base : Heap, Snd.FnG Pg w K mg base 201 f fd ["script"] (Snd.lift ⟨K, mg, T, Snd.stage P.sp P.con 40⟩ (M.cl (P.sp 40))) := by
  obtain ⟨fd, F⟩ := c.def_ 40 (d := dd "law" 49) rfl
  have e := hf.symm.trans (He.glo_ok X G (c.fact 40 (f := .glo "law") rfl))
  cases e
  have b := FunD.bindsA (ps := ["script"]) F fun _ _ _ _ _ _ us hl => match us, hl with | [_], _ => rfl
  refine ⟨fd, fun s v => b s [v] rfl, fun base => ?_⟩
  exact Snd.fn_ok (all h X G c cc) F sc40 ck40 (P.body40 (Snd.stage P.sp P.con 40) rfl rfl)
end K14
open PySem PySem.W PySem.Calls PyProof.Rows
theorem PySem.Challenge.cw_cushionshots_k14_first_times_in_boxes_holds : PySem.Challenge.rw_cushionshots_k14_first_times_in_boxes.Holds := by
  w_on; o_law
  refine HandSHeadRun.head_any (r := OpenLaw.row PySem.Challenge.rw_cushionshots_k14_first_times_in_boxes) (q := view (OpenLaw.row PySem.Challenge.rw_cushionshots_k14_first_times_in_boxes).prog [49]) (H := K14.hk) (ob := K14.ob) (M := 12000) (loose := K14.loose) (d := HandSHeadRun.topDef (OpenLaw.row PySem.Challenge.rw_cushionshots_k14_first_times_in_boxes).prog 49) (kwd := []) K14.ob_eq
    (by kernel_rfl) (fun s => by kernel_rfl) K14.run (by kernel_rfl) (by kernel_rfl) (by kernel_rfl) (by rfl) (by first | assumption | decide +kernel) (by decide +kernel) ⟨rfl, rfl, rfl, rfl, rfl, by decide +kernel⟩ ?hw ?hc
  case hw => w_witness2
  case hc =>
    refine Snd.walkG (l := PySem.Challenge.rw_cushionshots_k14_first_times_in_boxes) (n := 63) (k := 201) (x := "script") (sp := K14.P.sp 40) rfl (by decide) (by kernel_rfl) ⟨rfl, by decide, by decide⟩ (fun ns h => ⟨ns, rfl, h, fun _ => rfl⟩) ?F
    intro w mg fa h Y G hmg0
    obtain ⟨K, KX, c⟩ := Y
    obtain ⟨c, cc⟩ := Snd.obsE_says c
    have hmg : mg ("law" : PySem.Str) = some (.ref fa) := by
      have e : (HandSHeadRun.topDef (OpenLaw.row PySem.Challenge.rw_cushionshots_k14_first_times_in_boxes).prog 49).name = ("law" : PySem.Str) := by kernel_rfl
      rw [← e]
      exact hmg0
    obtain ⟨fd, hb, hF⟩ := K14.last (Pg := PySem.Challenge.rw_cushionshots_k14_first_times_in_boxes.prog) (w := w) KX G hmg c cc
    exact ⟨K, fd, K14.T, _, KX, hb, fun base _ _ => hF base⟩
