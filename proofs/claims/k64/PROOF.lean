import PyProof.Rows.All
import Wide.All
import OpenK.AllK
import Wide.FinOn
import HandS.Base
import HandS.Call
import HandS.List
import HandS.Comp
import HandS.Exc
import HandS.Words
import HandS.Iter
import HandS.Zip
import HandS.IsInst
import HandS.Deep
import HandS.TupAny
import HandS.Style
import HandS.Text
import HandS.Wide
import HandS.Codes
import HandS.Conv
import KE.KTupSum
import KE.KStar
import PyProof.ReprRoads
import PyProof.ReprLen
import PyProof.FitsInt
import KE.GoesMore
import HandS.ExcOwn
import HandS.NoneIn
import HandS.Ends
import HandS.HeadEnd
import HandS.Defaults
import HandS.HeadHook2
import HandS.HeadHook1
import HandS.Head0
import HandS.Head1
import HandS.Head2
import PySem.Challenge.RW_cushionshots_k64_whole_hits_and_places
set_option Elab.async false
set_option linter.all false
set_option maxRecDepth 100000
set_option maxHeartbeats 0
set_option exponentiation.threshold 10000
/-! Mini: a small language of data, with weakest preconditions. -/
namespace M
abbrev Tx := List Nat
/-- data: a tuple by value, a list by its place in the store; fl: a list that is never written -/
inductive D where
  | non | bl (b : Bool) | int (i : Int) | str (x : Tx) | tup (xs : List D) | fl (xs : List D) | ref (a : Nat) | xn (c : Nat) (fs : List D)
inductive O where
  | lst (xs : List D) | dic
abbrev Sto := Nat → Option O
def upd (S : Sto) (a : Nat) (o : O) : Sto := fun b => if b = a then some o else S b
abbrev Env := List (Option D)
abbrev VK := D → Sto → Prop
abbrev XK := Nat → List D → Sto → Prop
abbrev Sp := List D → Sto → VK → XK → Prop
/-- the greatest length -/
def lim : Nat := 16777216
/-- what a number may be that is multiplied -/
def big : Nat := 2 ^ 4000
def bigd : Nat := 2 ^ 8500
def sm (i : Int) : Prop := i.natAbs < big
def smd (i : Int) : Prop := i.natAbs < bigd
def br (b : Bool) (A B : Prop) : Prop := (b = true → A) ∧ (b = false → B)
inductive Bo where | add | sub | mul | fdiv | mod | pow
  deriving DecidableEq
inductive Co where | eq | ne | lt | le | gt | ge | is_ | isn | in_ | nin
  deriving DecidableEq
inductive Bi where | len | abs | int | min | max | all | any | sum | list | tuple | str
  deriving DecidableEq
inductive Ty where | int | bool | tuple | list | str
  deriving DecidableEq
inductive Mt where | append | extend | count | index | pop
  deriving DecidableEq
inductive Kc where | non | bl (b : Bool) | int (i : Int) | str (x : Tx)
  deriving DecidableEq
inductive Tg where | v (i : Nat) | tup (is : List Nat)
  deriving DecidableEq
mutual
inductive Ex where
  | v (i : Nat)
  | k (c : Kc)
  | g (n : Nat)
  | bin (o : Bo) (a b : Ex)
  | neg (a : Ex)
  | not (a : Ex)
  | cmp (o : Co) (a b : Ex)
  | chain (o p : Co) (a b c : Ex)
  | and (a : Ex) (r : Es)
  | or (a : Ex) (r : Es)
  | ite (c a b : Ex)
  | tup (es : Es)
  | lst (es : Es)
  | ix (a i : Ex)
  | sl (a : Ex) (lo hi : Oe)
  | rev (a : Ex)
  | call (f : Nat) (es : Es)
  | callk (f : Nat) (es ks : Es) (perm : List Nat)
  | rep (a : Ex)
  | bi (b : Bi) (es : Es)
  | mt (m : Mt) (a : Ex) (es : Es)
  | isi (a : Ex) (t : Ty)
  | isi2 (a : Ex) (t u : Ty)
  | isx (a : Ex) (c : Nat)
  | dic
  | comp (e : Ex) (t : Tg) (it : It) (c : Oe)
inductive Es where
  | nil | cons (e : Ex) (r : Es) | star (e : Ex) (r : Es)
inductive Oe where
  | none | some (e : Ex)
inductive It where
  | seq (e : Ex) | rng (e : Ex) | rng2 (a b : Ex) | zip (a b : Ex) | enum (e : Ex)
end
mutual
inductive St where
  | set (t : Tg) (e : Ex)
  | par (i j : Nat) (a b : Ex)
  | par3 (i j l : Nat) (a b c : Ex)
  | nev
  | six (a i e : Ex)
  | ex (e : Ex)
  | ret (e : Ex)
  | retn
  | if_ (c : Ex) (a b : Ss)
  | while_ (c : Ex) (b : Ss)
  | for_ (t : Tg) (it : It) (b : Ss)
  | brk
  | pass
  | raise (c : Nat) (es : Es)
  | try_ (b : Ss) (c i : Nat) (h : Ss)
inductive Ss where
  | nil | cons (s : St) (r : Ss)
end
/-! ### what the pieces do -/
def onB : D → (Bool → Prop) → Prop
  | .bl b, P => P b
  | _, _ => False
def onI : D → (Int → Prop) → Prop
  | .int i, P => P i
  | _, _ => False
def onC1 : Tx → (Nat → Prop) → Prop
  | [c], P => P c
  | _, _ => False
/-- one sign -/
def onC : D → (Nat → Prop) → Prop
  | .str a, P => onC1 a P
  | _, _ => False
def isNon : D → Bool
  | .non => true
  | _ => false
def b2i (b : Bool) : Int := if b then 1 else 0
def opt {α : Type} : Option α → (α → Prop) → Prop
  | some a, P => P a
  | none, _ => False
def optB {α : Type} : Option α → (α → Bool) → Bool
  | some a, P => P a
  | none, _ => false
def joinO {α : Type} : Option (Option α) → Option α
  | some (some a) => some a
  | _ => none
def look (ρ : Env) (i : Nat) : Option D := joinO ρ[i]?
def lstO : Option O → Option (List D)
  | some (.lst xs) => some xs
  | _ => none
/-- the list at a -/
def lstAt (S : Sto) (a : Nat) : Option (List D) := lstO (S a)
def lsOf (S : Sto) : D → Option (List D)
  | .ref a => lstAt S a
  | .fl xs => some xs
  | _ => none
def sqOf (S : Sto) : D → Option (List D)
  | .ref a => lstAt S a
  | .fl xs => some xs
  | .tup xs => some xs
  | _ => none
/-- are all of these data that == tells of -/
def fitL (ok : D → Bool) : List D → Bool
  | [] => true
  | x :: xs => ok x && fitL ok xs
def fit : Nat → Sto → D → Bool
  | 0, _, _ => false
  | n + 1, S, d => (match d with
    | .non => true | .bl _ => true | .int _ => true | .str x => x.all (fun c => decide (c < 1114112))
    | .tup xs => fitL (fit n S) xs
    | .fl xs => fitL (fit n S) xs
    | .ref a => optB (lstAt S a) (fitL (fit n S))
    | .xn _ _ => false)
def eqLB (eq : D → D → Bool) : List D → List D → Bool
  | [], [] => true
  | x :: xs, y :: ys => eq x y && eqLB eq xs ys
  | _, _ => false
def eqO (eq : List D → List D → Bool) : Option (List D) → Option (List D) → Bool
  | some xs, some ys => eq xs ys
  | _, _ => false
def eqB : Nat → Sto → D → D → Bool
  | 0, _, _, _ => false
  | n + 1, S, x, y => (match x, y with
    | .non, .non => true
    | .bl a, .bl b => a == b
    | .bl a, .int j => b2i a == j
    | .int i, .bl b => i == b2i b
    | .int i, .int j => i == j
    | .str a, .str b => a == b
    | .tup xs, .tup ys => eqLB (eqB n S) xs ys
    | .ref a, y => eqO (eqLB (eqB n S)) (lstAt S a) (lsOf S y)
    | .fl xs, y => eqO (eqLB (eqB n S)) (some xs) (lsOf S y)
    | _, _ => false)
/-- the locals at the entry -/
def start (n : Nat) (ds : List D) : Env := ds.map some ++ List.replicate (n - ds.length) none
abbrev dep : Nat := 8
def ixN (n : Nat) (i : Int) : Option Nat := if 0 ≤ i then (if i < n then some i.toNat else none) else if -(n : Int) ≤ i then some (i + n).toNat else none
def atI {α : Type} (xs : List α) (i : Int) : Option α := (ixN xs.length i).bind fun j => xs[j]?
def sIx (n d : Nat) : Option Int → Nat
  | none => d
  | some v => if v < 0 then (v + n).toNat else min v.toNat n
def cut {α : Type} (xs : List α) (lo hi : Option Int) : List α := (xs.drop (sIx xs.length 0 lo)).take (sIx xs.length xs.length hi - sIx xs.length 0 lo)
/-- a new list -/
def mkL (xs : List D) (S : Sto) (Q : VK) : Prop := xs.length ≤ lim ∧ ∀ p, S p = none → Q (.ref p) (upd S p (.lst xs))
def binD : Bo → D → D → Sto → VK → Prop
  | .add, x, y, S, Q => (match x, y with
    | .int i, .int j => Q (.int (i + j)) S
    | .str a, .str b => a.length + b.length ≤ lim ∧ Q (.str (a ++ b)) S
    | .tup a, .tup b => a.length + b.length ≤ lim ∧ Q (.tup (a ++ b)) S
    | .ref a, .ref b => opt (lstAt S a) fun xs => opt (lstAt S b) fun ys => mkL (xs ++ ys) S Q
    | _, _ => False)
  | .sub, x, y, S, Q => onI x fun i => onI y fun j => Q (.int (i - j)) S
  | .mul, x, y, S, Q => (match x, y with
    | .int i, .int j => sm i ∧ sm j ∧ Q (.int (i * j)) S
    | .ref a, .int k => opt (lstAt S a) fun xs => 0 ≤ k ∧ k < 1000 ∧ mkL ((List.replicate k.toNat xs).flatten) S Q
    | _, _ => False)
  | .fdiv, x, y, S, Q => onI x fun i => onI y fun j => j ≠ 0 ∧ smd j ∧ Q (.int (i.fdiv j)) S
  | .mod, x, y, S, Q => onI x fun i => onI y fun j => j ≠ 0 ∧ Q (.int (i.fmod j)) S
  | .pow, x, y, S, Q => onI x fun i => onI y fun j => sm i ∧ 0 ≤ j ∧ j ≤ 1000 ∧ Q (.int (i ^ j.toNat)) S
def inB (S : Sto) (x : D) (ys : List D) : Bool := ys.any fun y => eqB dep S y x
def cmpD : Co → D → D → Sto → (Bool → Prop) → Prop
  | .lt, x, y, _, Q => onI x fun i => onI y fun j => Q (decide (i < j))
  | .le, x, y, _, Q => onI x fun i => onI y fun j => Q (decide (i ≤ j))
  | .gt, x, y, _, Q => onI x fun i => onI y fun j => Q (decide (j < i))
  | .ge, x, y, _, Q => onI x fun i => onI y fun j => Q (decide (j ≤ i))
  | .eq, x, y, S, Q => (match x, y with
    | .str a, .str b => Q (a == b)
    | x, y => fit dep S x = true ∧ fit dep S y = true ∧ Q (eqB dep S x y))
  | .ne, x, y, S, Q => (match x, y with
    | .str a, .str b => Q (!(a == b))
    | x, y => fit dep S x = true ∧ fit dep S y = true ∧ Q (!eqB dep S x y))
  | .is_, x, y, _, Q => (match y with
    | .non => Q (isNon x)
    | .bl b => onB x fun a => Q (a == b)
    | _ => False)
  | .isn, x, y, _, Q => (match y with
    | .non => Q (!isNon x)
    | .bl b => onB x fun a => Q (!(a == b))
    | _ => False)
  | .in_, x, y, S, Q => (match y with
    | .str b => onC x fun c => Q (b.contains c)
    | y => opt (sqOf S y) fun ys => fit dep S x = true ∧ fitL (fit dep S) ys = true ∧ Q (inB S x ys))
  | .nin, x, y, S, Q => (match y with
    | .str b => onC x fun c => Q (!b.contains c)
    | y => opt (sqOf S y) fun ys => fit dep S x = true ∧ fitL (fit dep S) ys = true ∧ Q (!inB S x ys))
def ixD (x i : D) (S : Sto) (Q : VK) : Prop := match i with
  | .int k => (match x with
    | .str a => a.length ≤ lim ∧ opt (atI a k) fun c => Q (.str [c]) S
    | x => opt (sqOf S x) fun xs => opt (atI xs k) fun d => Q d S)
  | _ => False
def slD (x : D) (lo hi : Option Int) (S : Sto) (Q : VK) : Prop := match x with
  | .str a => a.length ≤ lim ∧ Q (.str (cut a lo hi)) S
  | .tup xs => Q (.tup (cut xs lo hi)) S
  | x => opt (lsOf S x) fun xs => ∀ p, S p = none → Q (.ref p) (upd S p (.lst (cut xs lo hi)))
def revD (x : D) (S : Sto) (Q : VK) : Prop := match x with
  | .tup xs => Q (.tup xs.reverse) S
  | x => opt (lsOf S x) fun xs => ∀ p, S p = none → Q (.ref p) (upd S p (.lst xs.reverse))
def intsD : List D → Option (List Int)
  | [] => some []
  | .int i :: r => (intsD r).map (i :: ·)
  | _ => none
def bools : List D → Option (List Bool)
  | [] => some []
  | .bl i :: r => (bools r).map (i :: ·)
  | _ => none
def minL : Int → List Int → Int
  | m, [] => m
  | m, i :: r => minL (if i < m then i else m) r
def maxL : Int → List Int → Int
  | m, [] => m
  | m, i :: r => maxL (if m < i then i else m) r
/-- decimal digits -/
def txI (i : Int) : Tx := (toString i).toList.map Char.toNat
def arg1 : List D → (D → Prop) → Prop
  | [x], P => P x
  | _, _ => False
def lenD (x : D) (S : Sto) (Q : VK) : Prop := match x with
  | .str a => a.length ≤ lim ∧ Q (.int a.length) S
  | x => opt (sqOf S x) fun xs => Q (.int xs.length) S
def onCons : List Int → (Int → List Int → Prop) → Prop
  | i :: r, P => P i r
  | [], _ => False
def intD (x : D) (S : Sto) (Q : VK) : Prop := match x with
  | .int i => Q (.int i) S
  | .bl b => Q (.int (b2i b)) S
  | _ => False
def biD : Bi → List D → Sto → VK → Prop
  | .len, ds, S, Q => arg1 ds fun x => lenD x S Q
  | .abs, ds, S, Q => arg1 ds fun x => onI x fun i => Q (.int (if i < 0 then -i else i)) S
  | .int, ds, S, Q => arg1 ds fun x => intD x S Q
  | .min, ds, S, Q => (match ds with
    | [x] => opt (lsOf S x) fun xs => opt (intsD xs) fun is => onCons is fun i r => Q (.int (minL i r)) S
    | [x, y] => onI x fun i => onI y fun j => Q (.int (if j < i then j else i)) S
    | _ => False)
  | .max, ds, S, Q => (match ds with
    | [x] => opt (lsOf S x) fun xs => opt (intsD xs) fun is => onCons is fun i r => Q (.int (maxL i r)) S
    | [x, y] => onI x fun i => onI y fun j => Q (.int (if j > i then j else i)) S
    | _ => False)
  | .all, ds, S, Q => arg1 ds fun x => opt (lsOf S x) fun xs => opt (bools xs) fun bs => Q (.bl (bs.all id)) S
  | .any, ds, S, Q => arg1 ds fun x => opt (lsOf S x) fun xs => opt (bools xs) fun bs => Q (.bl (bs.any id)) S
  | .sum, ds, S, Q => arg1 ds fun x => opt (sqOf S x) fun xs => opt (intsD xs) fun is => Q (.int is.sum) S
  | .list, ds, S, Q => arg1 ds fun x => opt (sqOf S x) fun xs => ∀ p, S p = none → Q (.ref p) (upd S p (.lst xs))
  | .tuple, ds, S, Q => arg1 ds fun x => opt (sqOf S x) fun xs => Q (.tup xs) S
  | .str, ds, S, Q => arg1 ds fun x => onI x fun i => i.natAbs.log2 < 1920 ∧ Q (.str (txI i)) S
/-- o.m(..) -/
def onR : D → (Nat → Prop) → Prop
  | .ref a, P => P a
  | _, _ => False
def mtD : Mt → D → List D → Sto → VK → Prop
  | .append, x, ds, S, Q => onR x fun a => arg1 ds fun d => opt (lstAt S a) fun xs => xs.length < lim ∧ Q .non (upd S a (.lst (xs ++ [d])))
  | .extend, x, ds, S, Q => onR x fun a => arg1 ds fun y => onR y fun b => opt (lstAt S a) fun xs => opt (lstAt S b) fun ys => xs.length + ys.length ≤ lim ∧ Q .non (upd S a (.lst (xs ++ ys)))
  | .pop, x, ds, S, Q => onR x fun a => (match ds with
    | [] => opt (lstAt S a) fun xs => opt xs[xs.length - 1]? fun d => Q d (upd S a (.lst xs.dropLast))
    | _ => False)
  | .count, _, _, _, _ => False
  | .index, _, _, _, _ => False
def tyO : Option O → Ty → Option Bool
  | some (.lst _), t => some (decide (t = .list))
  | some .dic, _ => some false
  | none, _ => none
def isTy (S : Sto) : D → Ty → Option Bool
  | .non, _ => some false
  | .bl _, t => some (decide (t = .bool) || decide (t = .int))
  | .int _, t => some (decide (t = .int))
  | .str _, t => some (decide (t = .str))
  | .tup _, t => some (decide (t = .tuple))
  | .fl _, t => some (decide (t = .list))
  | .ref a, t => tyO (S a) t
  | .xn _ _, _ => none
def kcD : Kc → D
  | .non => .non | .bl b => .bl b | .int i => .int i | .str x => .str x
def setAll : List Nat → List D → Env → Env
  | i :: is, d :: ds, ρ => setAll is ds (ρ.set i (some d))
  | _, _, ρ => ρ
def asg (t : Tg) (d : D) (S : Sto) (ρ : Env) (Q : Env → Prop) : Prop := match t with
  | .v i => Q (ρ.set i (some d))
  | .tup is => (match d with
    | .tup xs => xs.length = is.length ∧ Q (setAll is xs ρ)
    | d => opt (lsOf S d) fun xs => xs.length = is.length ∧ Q (setAll is xs ρ))
def tgs : Tg → List Nat
  | .v i => [i]
  | .tup is => is
def wipe (ρ : Env) : List Nat → Env
  | [] => ρ
  | i :: is => (wipe ρ is).set i none
/-- o[i] = d -/
def sixD (x i d : D) (S : Sto) (Q : Sto → Prop) : Prop := onR x fun a => onI i fun k => opt (lstAt S a) fun xs => opt (ixN xs.length k) fun j => Q (upd S a (.lst (xs.set j d)))
/-- what is walked -/
abbrev IK := List D → (Sto → Prop) → Sto → Prop
def seqD (x : D) (S : Sto) (R : IK) : Prop := match x with
  | .ref a => opt (lstAt S a) fun xs => R xs (fun S' => S' a = some (.lst xs)) S
  | .fl xs => R xs (fun _ => True) S
  | .tup xs => R xs (fun _ => True) S
  | .str a => R (a.map fun c => .str [c]) (fun _ => True) S
  | _ => False
def zipP (xs ys : List D) : List D := (xs.zip ys).map fun p => .tup [p.1, p.2]
def zipD (x y : D) (S : Sto) (R : IK) : Prop := match x, y with
  | .tup xs, .tup ys => R (zipP xs ys) (fun _ => True) S
  | .str a, .tup ys => R (zipP (a.map fun c => .str [c]) ys) (fun _ => True) S
  | x, y => opt (lsOf S x) fun xs => opt (lsOf S y) fun ys => R (zipP xs ys) (fun S' => lsOf S' x = some xs ∧ lsOf S' y = some ys) S
def rngD (lo hi : Int) (S : Sto) (R : IK) : Prop := -(2 ^ 62) ≤ lo ∧ lo < 2 ^ 62 ∧ -(2 ^ 62) ≤ hi ∧ hi < 2 ^ 62 ∧ R ((List.range (hi - lo).toNat).map fun i => .int (lo + (i : Nat))) (fun _ => True) S
def enumL : Nat → List D → List D
  | _, [] => []
  | n, d :: ds => .tup [.int n, d] :: enumL (n + 1) ds
def enumD (x : D) (S : Sto) (R : IK) : Prop := opt (lsOf S x) fun xs => R (enumL 0 xs) (fun S' => lsOf S' x = some xs) S
def forW (chk : Sto → Prop) (step : D → Env → Sto → (Env → Sto → Prop) → Prop) (nx : Env → Sto → Prop) : List D → Env → Sto → Prop
  | [], ρ, S => chk S ∧ nx ρ S
  | d :: ds, ρ, S => chk S ∧ step d ρ S (forW chk step nx ds)
def whileN (step : Env → Sto → (Env → Sto → Prop) → Prop) : Nat → Env → Sto → Prop
  | 0, _, _ => False
  | n + 1, ρ, S => step ρ S (whileN step n)
def compW (chk : Sto → Prop) (step : D → Sto → (Option D → Sto → Prop) → Prop) (Q : VK) : List D → List D → Sto → Prop
  | [], acc, S => chk S ∧ ∀ p, S p = none → Q (.ref p) (upd S p (.lst acc))
  | d :: ds, acc, S => chk S ∧ step d S fun r S1 => compW chk step Q ds (acc ++ r.toList) S1
/-- a promise, with more wanted than it says -/
def cl (sp : Sp) : Sp := fun ds S Q X => ∃ (Q0 : VK) (X0 : XK), sp ds S Q0 X0 ∧ (∀ d S, Q0 d S → Q d S) ∧ (∀ c fs S, X0 c fs S → X c fs S)
theorem cl_of {sp : Sp} {ds : List D} {S : Sto} {Q : VK} {X : XK} (h : sp ds S Q X) : cl sp ds S Q X := ⟨Q, X, h, fun _ _ x => x, fun _ _ _ x => x⟩
/-- what a text of a value tells -/
inductive P where
  | non | bl (b : Bool) | int (i : Int) | str (x : Tx) | tup (xs : List P) | lst (xs : List P) | dic
def toQ : Nat → Sto → D → P
  | 0, _, _ => .non
  | n + 1, S, d => (match d with
    | .non => .non
    | .bl b => .bl b
    | .int i => .int i
    | .str x => .str x
    | .tup xs => .tup (xs.map (toQ n S))
    | .fl xs => .lst (xs.map (toQ n S))
    | .ref a => (match S a with
      | some (.lst xs) => .lst (xs.map (toQ n S))
      | _ => .dic)
    | .xn _ _ => .non)
def bigr : Nat := 2 ^ 1900
def smr (i : Int) : Prop := i.natAbs < bigr
def fitR : Nat → Sto → D → Prop
  | 0, _, _ => False
  | n + 1, S, d => (match d with
    | .non => True
    | .bl _ => True
    | .int i => smr i
    | .str x => ∀ c ∈ x, c < 1114112
    | .tup xs => ∀ y ∈ xs, fitR n S y
    | .fl xs => ∀ y ∈ xs, fitR n S y
    | .ref a => opt (lstAt S a) fun xs => ∀ y ∈ xs, fitR n S y
    | .xn _ _ => False)
def isDic : Option O → Prop
  | some .dic => True
  | _ => False
def isDicD (S : Sto) : D → Prop
  | .ref a => isDic (S a)
  | _ => False
def fitD (S : Sto) (d : D) : Prop := isDicD S d ∨ fitR dep S d
def sumN : List Nat → Nat
  | [] => 0
  | a :: r => a + sumN r
/-- no text of the value is longer -/
def szR : Nat → Sto → D → Nat
  | 0, _, _ => 0
  | n + 1, S, d => (match d with
    | .non => 4
    | .bl _ => 5
    | .int _ => 1902
    | .str x => 10 * x.length + 2
    | .tup xs => sumN (xs.map fun y => szR n S y + 2) + 3
    | .fl xs => sumN (xs.map fun y => szR n S y + 2) + 3
    | .ref a => (match S a with
      | some (.lst xs) => sumN (xs.map fun y => szR n S y + 2) + 3
      | _ => 2)
    | .xn _ _ => 0)
structure Gm where
  fn : Nat → Sp
  con : Nat → D
  sub : Nat → Nat → Bool
  rp : P → Tx
def esLen : Es → Nat
  | .nil => 0
  | .cons _ r => esLen r + 1
  | .star _ r => esLen r + 1
/-- the promises of the defs below n -/
def upto (n : Nat) (sp : Nat → Sp) : Nat → Sp := fun i => if i < n then sp i else fun _ _ _ _ => False
def X0 : XK := fun _ _ _ => False
mutual
def wpE (G : Gm) : Ex → Env → Sto → VK → XK → Prop
  | .v i, ρ, S, Q, _ => opt (look ρ i) fun d => Q d S
  | .k c, _, S, Q, _ => Q (kcD c) S
  | .g n, _, S, Q, _ => Q (G.con n) S
  | .bin o a b, ρ, S, Q, X => wpE G a ρ S (fun x S1 => wpE G b ρ S1 (fun y S2 => binD o x y S2 Q) X) X
  | .neg a, ρ, S, Q, X => wpE G a ρ S (fun x S1 => onI x fun i => Q (.int (-i)) S1) X
  | .not a, ρ, S, Q, X => wpE G a ρ S (fun x S1 => onB x fun b => Q (.bl (!b)) S1) X
  | .cmp o a b, ρ, S, Q, X => wpE G a ρ S (fun x S1 => wpE G b ρ S1 (fun y S2 => cmpD o x y S2 fun c => Q (.bl c) S2) X) X
  | .chain o p a b c, ρ, S, Q, X => wpE G a ρ S (fun x S1 => wpE G b ρ S1 (fun y S2 => cmpD o x y S2 fun k => br k (wpE G c ρ S2 (fun z S3 => cmpD p y z S3 fun k' => Q (.bl k') S3) X) (Q (.bl false) S2)) X) X
  | .and a r, ρ, S, Q, X => wpE G a ρ S (fun x S1 => onB x fun b => br b (wpAnd G r ρ S1 Q X) (Q (.bl false) S1)) X
  | .or a r, ρ, S, Q, X => wpE G a ρ S (fun x S1 => onB x fun b => br b (Q (.bl true) S1) (wpOr G r ρ S1 Q X)) X
  | .ite c a b, ρ, S, Q, X => wpE G c ρ S (fun x S1 => onB x fun k => br k (wpE G a ρ S1 Q X) (wpE G b ρ S1 Q X)) X
  | .tup es, ρ, S, Q, X => wpEs G es ρ S (fun ds S1 => ds.length ≤ lim ∧ Q (.tup ds) S1) X
  | .lst es, ρ, S, Q, X => wpEs G es ρ S (fun ds S1 => mkL ds S1 Q) X
  | .ix a i, ρ, S, Q, X => wpE G a ρ S (fun x S1 => wpE G i ρ S1 (fun y S2 => ixD x y S2 Q) X) X
  | .sl a lo hi, ρ, S, Q, X => wpE G a ρ S (fun x S1 => wpO G lo ρ S1 (fun l S2 => wpO G hi ρ S2 (fun h S3 => slD x l h S3 Q) X) X) X
  | .rev a, ρ, S, Q, X => wpE G a ρ S (fun x S1 => revD x S1 Q) X
  | .call f es, ρ, S, Q, X => wpEs G es ρ S (fun ds S1 => cl (G.fn f) ds S1 Q X) X
  | .callk f es ks perm, ρ, S, Q, X => wpEs G es ρ S (fun ds S1 => wpEs G ks ρ S1 (fun ws S2 => ds.length = esLen es ∧ ws.length = esLen ks ∧ cl (G.fn f) (perm.filterMap fun i => (ds ++ ws)[i]?) S2 Q X) X) X
  | .rep a, ρ, S, Q, X => wpE G a ρ S (fun x S1 => fitD S1 x ∧ szR dep S1 x ≤ lim ∧ Q (.str (G.rp (toQ dep S1 x))) S1) X
  | .bi b es, ρ, S, Q, X => wpEs G es ρ S (fun ds S1 => biD b ds S1 Q) X
  | .mt m a es, ρ, S, Q, X => wpE G a ρ S (fun x S1 => opt (lsOf S1 x) fun _ => wpEs G es ρ S1 (fun ds S2 => mtD m x ds S2 Q) X) X
  | .isi a t, ρ, S, Q, X => wpE G a ρ S (fun x S1 => opt (isTy S1 x t) fun b => Q (.bl b) S1) X
  | .isi2 a t u, ρ, S, Q, X => wpE G a ρ S (fun x S1 => opt (isTy S1 x t) fun b => opt (isTy S1 x u) fun d => Q (.bl (b || d)) S1) X
  | .isx a c, ρ, S, Q, X => wpE G a ρ S (fun x S1 => match x with | .xn k _ => Q (.bl (G.sub k c)) S1 | _ => False) X
  | .dic, _, S, Q, _ => ∀ p, S p = none → Q (.ref p) (upd S p .dic)
  | .comp e t it c, ρ, S, Q, X => wpIt G it ρ S (fun items chk S1 => items.length ≤ lim ∧ compW chk (fun d S2 k => asg t d S2 (wipe ρ (tgs t)) fun ρ2 => wpC G c ρ2 S2 (fun b S3 => br b (wpE G e ρ2 S3 (fun x S4 => k (some x) S4) X0) (k none S3))) Q items [] S1) X
def wpC (G : Gm) : Oe → Env → Sto → (Bool → Sto → Prop) → Prop
  | .none, _, S, Q => Q true S
  | .some e, ρ, S, Q => wpE G e ρ S (fun x S1 => onB x fun b => Q b S1) X0
def wpO (G : Gm) : Oe → Env → Sto → (Option Int → Sto → Prop) → XK → Prop
  | .none, _, S, Q, _ => Q none S
  | .some e, ρ, S, Q, X => wpE G e ρ S (fun x S1 => onI x fun i => Q (some i) S1) X
def wpAnd (G : Gm) : Es → Env → Sto → VK → XK → Prop
  | .cons e r, ρ, S, Q, X => wpE G e ρ S (fun x S1 => match r with
    | .nil => Q x S1
    | _ => (onB x fun b => br b (wpAnd G r ρ S1 Q X) (Q (.bl false) S1))) X
  | _, _, _, _, _ => False
def wpOr (G : Gm) : Es → Env → Sto → VK → XK → Prop
  | .cons e r, ρ, S, Q, X => wpE G e ρ S (fun x S1 => match r with
    | .nil => Q x S1
    | _ => (onB x fun b => br b (Q (.bl true) S1) (wpOr G r ρ S1 Q X))) X
  | _, _, _, _, _ => False
def wpEs (G : Gm) : Es → Env → Sto → (List D → Sto → Prop) → XK → Prop
  | .nil, _, S, Q, _ => Q [] S
  | .cons e r, ρ, S, Q, X => wpE G e ρ S (fun x S1 => wpEs G r ρ S1 (fun ds S2 => Q (x :: ds) S2) X) X
  | .star e r, ρ, S, Q, X => wpE G e ρ S (fun x S1 => opt (sqOf S1 x) fun xs => wpEs G r ρ S1 (fun ds S2 => Q (xs ++ ds) S2) X) X
def wpIt (G : Gm) : It → Env → Sto → IK → XK → Prop
  | .seq e, ρ, S, R, X => wpE G e ρ S (fun x S1 => seqD x S1 R) X
  | .rng e, ρ, S, R, X => wpE G e ρ S (fun x S1 => onI x fun j => rngD 0 j S1 R) X
  | .rng2 a b, ρ, S, R, X => wpE G a ρ S (fun x S1 => wpE G b ρ S1 (fun y S2 => onI x fun i => onI y fun j => rngD i j S2 R) X) X
  | .zip a b, ρ, S, R, X => wpE G a ρ S (fun x S1 => wpE G b ρ S1 (fun y S2 => zipD x y S2 R) X) X
  | .enum e, ρ, S, R, X => wpE G e ρ S (fun x S1 => enumD x S1 R) X
end
structure Kt where
  nx : Env → Sto → Prop
  rt : VK
  bk : Env → Sto → Prop
  xe : Nat → List D → Env → Sto → Prop
mutual
def wpS (G : Gm) : St → Env → Sto → Kt → Prop
  | .set t e, ρ, S, K => wpE G e ρ S (fun x S1 => asg t x S1 ρ fun ρ1 => K.nx ρ1 S1) (fun c fs S1 => K.xe c fs ρ S1)
  | .par i j a b, ρ, S, K => wpE G a ρ S (fun x S1 => wpE G b ρ S1 (fun y S2 => K.nx ((ρ.set i (some x)).set j (some y)) S2) (fun c fs S2 => K.xe c fs ρ S2)) (fun c fs S1 => K.xe c fs ρ S1)
  | .par3 i j l a b c, ρ, S, K => wpE G a ρ S (fun x S1 => wpE G b ρ S1 (fun y S2 => wpE G c ρ S2 (fun z S3 => K.nx (((ρ.set i (some x)).set j (some y)).set l (some z)) S3) (fun c fs S3 => K.xe c fs ρ S3)) (fun c fs S2 => K.xe c fs ρ S2)) (fun c fs S1 => K.xe c fs ρ S1)
  | .nev, _, _, _ => False
  | .six a i e, ρ, S, K => wpE G e ρ S (fun x S1 => wpE G a ρ S1 (fun o S2 => wpE G i ρ S2 (fun y S3 => sixD o y x S3 fun S4 => K.nx ρ S4) (fun c fs S3 => K.xe c fs ρ S3)) (fun c fs S2 => K.xe c fs ρ S2)) (fun c fs S1 => K.xe c fs ρ S1)
  | .ex e, ρ, S, K => wpE G e ρ S (fun _ S1 => K.nx ρ S1) (fun c fs S1 => K.xe c fs ρ S1)
  | .ret e, ρ, S, K => wpE G e ρ S K.rt (fun c fs S1 => K.xe c fs ρ S1)
  | .retn, _, S, K => K.rt .non S
  | .if_ c a b, ρ, S, K => wpE G c ρ S (fun x S1 => onB x fun k => br k (wpSs G a ρ S1 K) (wpSs G b ρ S1 K)) (fun c fs S1 => K.xe c fs ρ S1)
  | .while_ c b, ρ, S, K => ∃ n, whileN (fun ρ1 S1 nx => wpE G c ρ1 S1 (fun x S2 => onB x fun k => br k (wpSs G b ρ1 S2 { K with nx := nx, bk := K.nx }) (K.nx ρ1 S2)) (fun c fs S2 => K.xe c fs ρ1 S2)) n ρ S
  | .for_ t it b, ρ, S, K => wpIt G it ρ S (fun items chk S1 => forW chk (fun d ρ1 S2 nx => asg t d S2 ρ1 fun ρ2 => wpSs G b ρ2 S2 { K with nx := nx, bk := K.nx }) K.nx items ρ S1) (fun c fs S1 => K.xe c fs ρ S1)
  | .brk, ρ, S, K => K.bk ρ S
  | .pass, ρ, S, K => K.nx ρ S
  | .raise c es, ρ, S, K => wpEs G es ρ S (fun ds S1 => K.xe c ds ρ S1) (fun c fs S1 => K.xe c fs ρ S1)
  | .try_ b c i h, ρ, S, K => wpSs G b ρ S { K with xe := fun k fs ρ1 S1 => br (G.sub k c) (wpSs G h (ρ1.set i (some (.xn k fs))) S1 { nx := fun ρ2 S2 => K.nx (ρ2.set i none) S2, rt := K.rt, bk := fun ρ2 S2 => K.bk (ρ2.set i none) S2, xe := fun _ _ _ _ => False }) (K.xe k fs ρ1 S1) }
def wpSs (G : Gm) : Ss → Env → Sto → Kt → Prop
  | .nil, ρ, S, K => K.nx ρ S
  | .cons s r, ρ, S, K => wpS G s ρ S { K with nx := fun ρ1 S1 => wpSs G r ρ1 S1 K }
end
end M
namespace Snd
open PySem PySem.Spec PyProof.Rows L2
abbrev Frag := PySem.W.Frag
abbrev Sl := L2.St
def stx (x : M.Tx) : Str := ⟨x.toArray⟩
/-- a list that is never written -/
def SqF (K : Frag) (H : Hp) (a : Addr) (xs : List V) : Prop :=
  (∃ o, H a = some (.frz o (.lst xs))) ∨
    ∃ (o : Obj) (its : Array Value) (n : Nat), K.lookup a = some o ∧ o.cls = .type "list" ∧ o.dict = none ∧ o.data = .seq its n ∧ its.size ≤ sizeLine ∧ Vals xs its.toList
theorem SqF.sq {K : Frag} {H : Hp} {a : Addr} {xs : List V} (h : SqF K H a xs) : SqL K H a xs := by
  rcases h with ⟨o, h⟩ | h
  · exact .inl (.inr ⟨o, h⟩)
  · exact .inr h
mutual
inductive RelD (K : Frag) (H : Hp) : M.D → V → Prop
  | non : RelD K H .non .non
  | bl (b : Bool) : RelD K H (.bl b) (.bl b)
  | int (i : Int) : RelD K H (.int i) (.int i)
  | str (x : M.Tx) : RelD K H (.str x) (.str (stx x))
  | tup {a : Addr} {ds : List M.D} {vs : List V} : SqT K H a vs → RelDs K H ds vs → RelD K H (.tup ds) (.ref a)
  | fl {a : Addr} {ds : List M.D} {vs : List V} : SqF K H a vs → RelDs K H ds vs → RelD K H (.fl ds) (.ref a)
  | ref (a : Addr) : RelD K H (.ref a) (.ref a)
inductive RelDs (K : Frag) (H : Hp) : List M.D → List V → Prop
  | nil : RelDs K H [] []
  | cons {d : M.D} {v : V} {ds : List M.D} {vs : List V} : RelD K H d v → RelDs K H ds vs → RelDs K H (d :: ds) (v :: vs)
end
def RelO (K : Frag) (H : Hp) (a : Addr) : M.O → Prop
  | .lst ds => ∃ vs, H a = some (.lst vs) ∧ RelDs K H ds vs
  | .dic => H a = some (.dK [])
def RelS (K : Frag) (H : Hp) (S : M.Sto) : Prop := ∀ a o, S a = some o → RelO K H a o
/-- what was tracked and not in the store is as it was -/
def Fr (S : M.Sto) (H : Hp) (S' : M.Sto) (H' : Hp) : Prop := ∀ a o, H a = some o → S a = none → H' a = some o ∧ S' a = none
section
variable {K : Frag} {H H' H2 : Hp} {S S' S2 : M.Sto}
theorem Fr.refl : Fr S H S H := fun _ _ h n => ⟨h, n⟩
theorem Fr.trans (a : Fr S H S' H') (b : Fr S' H' S2 H2) : Fr S H S2 H2 := fun c o h n => let ⟨h1, n1⟩ := a c o h n; b c o h1 n1
theorem RelS.none (r : RelS K H S) {a : Addr} (h : H a = none) : S a = none := by
  cases e : S a with
  | none => rfl
  | some o =>
    have q := r a o e
    cases o with
    | lst ds => obtain ⟨vs, q, _⟩ := q; rw [h] at q; cases q
    | dic => have q' : H a = _ := q; rw [h] at q'; cases q'
theorem RelS.tup (r : RelS K H S) {a : Addr} {vs : List V} (h : H a = some (.tup vs)) : S a = .none := by
  cases e : S a with
  | none => rfl
  | some o =>
    have q := r a o e
    cases o with
    | lst ds => obtain ⟨vs, q, _⟩ := q; rw [h] at q; cases q
    | dic => have q' : H a = _ := q; rw [h] at q'; cases q'
theorem RelS.frz (r : RelS K H S) {a : Addr} {ob : Obj} {u : HO} (h : H a = some (.frz ob u)) : S a = .none := by
  cases e : S a with
  | none => rfl
  | some o =>
    have q := r a o e
    cases o with
    | lst ds => obtain ⟨vs, q, _⟩ := q; rw [h] at q; cases q
    | dic => have q' : H a = _ := q; rw [h] at q'; cases q'
theorem sqt_mono (r : RelS K H S) (f : Fr S H S' H') {a : Addr} {vs : List V} (h : SqT K H a vs) : SqT K H' a vs := by
  rcases h with (h | ⟨o, h⟩) | h
  · exact .inl (.inl (f _ _ h (r.tup h)).1)
  · exact .inl (.inr ⟨o, (f _ _ h (r.frz h)).1⟩)
  · exact .inr h
theorem sqf_mono (r : RelS K H S) (f : Fr S H S' H') {a : Addr} {vs : List V} (h : SqF K H a vs) : SqF K H' a vs := by
  rcases h with ⟨o, h⟩ | h
  · exact .inl ⟨o, (f _ _ h (r.frz h)).1⟩
  · exact .inr h
mutual
theorem RelD.mono (r : RelS K H S) (f : Fr S H S' H') : ∀ {d : M.D} {v : V}, RelD K H d v → RelD K H' d v
  | _, _, .non => .non
  | _, _, .bl b => .bl b
  | _, _, .int i => .int i
  | _, _, .str x => .str x
  | _, _, .tup h t => .tup (sqt_mono r f h) (RelDs.mono r f t)
  | _, _, .fl h t => .fl (sqf_mono r f h) (RelDs.mono r f t)
  | _, _, .ref a => .ref a
theorem RelDs.mono (r : RelS K H S) (f : Fr S H S' H') : ∀ {ds : List M.D} {vs : List V}, RelDs K H ds vs → RelDs K H' ds vs
  | _, _, .nil => .nil
  | _, _, .cons h t => .cons (RelD.mono r f h) (RelDs.mono r f t)
end
theorem RelDs.length : ∀ {ds : List M.D} {vs : List V}, RelDs K H ds vs → ds.length = vs.length
  | _, _, .nil => rfl
  | _, _, .cons _ t => by rw [List.length_cons, List.length_cons, RelDs.length t]
theorem RelDs.get : ∀ {ds : List M.D} {vs : List V} {i : Nat} {d : M.D}, RelDs K H ds vs → ds[i]? = some d → ∃ v, vs[i]? = some v ∧ RelD K H d v
  | _, _, _, _, .nil, e => by simp at e
  | _, _, 0, d, .cons h _, e => by simp at e; subst e; exact ⟨_, rfl, h⟩
  | _, _, i + 1, d, .cons _ t, e => by
    obtain ⟨v, h1, h2⟩ := RelDs.get (i := i) t (by simpa using e)
    exact ⟨v, by simpa using h1, h2⟩
theorem RelDs.get' : ∀ {ds : List M.D} {vs : List V} {i : Nat} {v : V}, RelDs K H ds vs → vs[i]? = some v → ∃ d, ds[i]? = some d ∧ RelD K H d v
  | _, _, _, _, .nil, e => by simp at e
  | _, _, 0, d, .cons h _, e => by simp at e; subst e; exact ⟨_, rfl, h⟩
  | _, _, i + 1, d, .cons _ t, e => by
    obtain ⟨v, h1, h2⟩ := RelDs.get' (i := i) t (by simpa using e)
    exact ⟨v, by simpa using h1, h2⟩
theorem RelDs.append : ∀ {ds es : List M.D} {vs us : List V}, RelDs K H ds vs → RelDs K H es us → RelDs K H (ds ++ es) (vs ++ us)
  | _, _, _, _, .nil, s => s
  | _, _, _, _, .cons h t, s => .cons h (RelDs.append t s)
theorem RelDs.take : ∀ {ds : List M.D} {vs : List V} (n : Nat), RelDs K H ds vs → RelDs K H (ds.take n) (vs.take n)
  | _, _, 0, _ => .nil
  | _, _, _ + 1, .nil => .nil
  | _, _, n + 1, .cons h t => .cons h (RelDs.take n t)
theorem RelDs.drop : ∀ {ds : List M.D} {vs : List V} (n : Nat), RelDs K H ds vs → RelDs K H (ds.drop n) (vs.drop n)
  | _, _, 0, h => h
  | _, _, _ + 1, .nil => .nil
  | _, _, n + 1, .cons _ t => RelDs.drop n t
theorem RelDs.set : ∀ {ds : List M.D} {vs : List V} {d : M.D} {v : V} (i : Nat), RelD K H d v → RelDs K H ds vs → RelDs K H (ds.set i d) (vs.set i v)
  | _, _, _, _, _, _, .nil => .nil
  | _, _, _, _, 0, q, .cons _ t => .cons q t
  | _, _, _, _, i + 1, q, .cons h t => .cons h (RelDs.set i q t)
theorem RelDs.reverse {ds : List M.D} {vs : List V} (h : RelDs K H ds vs) : RelDs K H ds.reverse vs.reverse := by
  induction ds generalizing vs with
  | nil => cases h; exact .nil
  | cons d ds ih =>
    cases h with
    | cons a b =>
      rw [List.reverse_cons, List.reverse_cons]
      exact (ih b).append (.cons a .nil)
theorem RelDs.dropLast {ds : List M.D} {vs : List V} (h : RelDs K H ds vs) : RelDs K H ds.dropLast vs.dropLast := by
  rw [List.dropLast_eq_take, List.dropLast_eq_take, h.length]
  exact h.take _
theorem RelDs.rep {ds : List M.D} {vs : List V} (h : RelDs K H ds vs) : ∀ k : Nat, RelDs K H (List.replicate k ds).flatten (List.replicate k vs).flatten
  | 0 => .nil
  | k + 1 => by
    rw [List.replicate_succ, List.replicate_succ, List.flatten_cons, List.flatten_cons]
    exact h.append (RelDs.rep h k)
end
/-! ### slots -/
def RelE (K : Frag) (H : Hp) (ρ : M.Env) (σ : Sl) : Prop := ∀ (i : Nat) (d : M.D), ρ[i]? = some (some d) → ∃ v, σ[i]? = some (some v) ∧ RelD K H d v
section
variable {K : Frag} {H H' : Hp} {S S' : M.Sto} {ρ : M.Env} {σ : Sl}
theorem RelE.mono (h : RelE K H ρ σ) (r : RelS K H S) (f : Fr S H S' H') : RelE K H' ρ σ := fun i d e => let ⟨v, h1, h2⟩ := h i d e; ⟨v, h1, h2.mono r f⟩
theorem RelE.set (h : RelE K H ρ σ) (hl : ρ.length = σ.length) {d : M.D} {v : V} (q : RelD K H d v) (i : Nat) : RelE K H (ρ.set i (some d)) (σ.set i (some v)) := fun j e hj => by
  by_cases hi : i = j
  · subst hi
    by_cases hlt : i < ρ.length
    · rw [List.getElem?_set_self hlt] at hj
      cases hj
      exact ⟨v, List.getElem?_set_self (by omega), q⟩
    · rw [List.getElem?_eq_none (by simpa using hlt)] at hj; cases hj
  · rw [List.getElem?_set_ne hi] at hj
    obtain ⟨w, h1, h2⟩ := h j e hj
    exact ⟨w, by rw [List.getElem?_set_ne hi]; exact h1, h2⟩
theorem RelE.unset (h : RelE K H ρ σ) (i : Nat) : RelE K H (ρ.set i none) (σ.set i none) := fun j e hj => by
  by_cases hi : i = j
  · subst hi
    by_cases hlt : i < ρ.length
    · rw [List.getElem?_set_self hlt] at hj; cases hj
    · rw [List.getElem?_eq_none (by simpa using hlt)] at hj; cases hj
  · rw [List.getElem?_set_ne hi] at hj
    obtain ⟨w, h1, h2⟩ := h j e hj
    exact ⟨w, by rw [List.getElem?_set_ne hi]; exact h1, h2⟩
theorem RelE.wipe (h : RelE K H ρ σ) : ∀ is : List Nat, RelE K H (M.wipe ρ is) (L2.wipe σ is)
  | [] => h
  | i :: is => (RelE.wipe h is).unset i
theorem wipe_len (ρ : M.Env) : ∀ is : List Nat, (M.wipe ρ is).length = ρ.length
  | [] => rfl
  | i :: is => by show ((M.wipe ρ is).set i none).length = _; rw [List.length_set, wipe_len ρ is]
end
/-! ### exceptions -/
/-- text's tables: defs, constants, classes by number -/
structure Tb where
  fns : List Str
  cons : List Str
  cls : List Str
  /-- free names of the built-ins -/
  bts : List Str
  /-- calls with names: the def, how many positional values, the names, the values' places -/
  kws : List (Nat × Nat × List Str × List Nat)
/-- an exception of the class c with the fields fs -/
def RelX (K : Frag) (mg : Str → Option Value) (T : Tb) (c : Nat) (fs : List M.D) (cls : Value) (d : Option Addr) (H : Hp) : Prop :=
  fs = [] ∧ d = none ∧ ∃ x C, T.cls[c]? = some x ∧ mg x = some (.ref C) ∧ cls = .ref C
/-! ### the readings -/
structure Cn where
  K : Frag
  mg : Str → Option Value
  T : Tb
  G : M.Gm
/-- wished of a value -/
def OkV (K : Frag) (S : M.Sto) (H : Hp) (Qd : M.VK) (Q : VK) : Prop := ∀ d S' v H', Fr S H S' H' → RelS K H' S' → RelD K H' d v → Qd d S' → Q v H'
def OkX (c : Cn) (S : M.Sto) (H : Hp) (Xd : M.XK) (W : Value → Option Addr → Hp → Prop) : Prop := ∀ k fs S' H' cls d, Fr S H S' H' → RelS c.K H' S' → RelX c.K c.mg c.T k fs cls d H' → Xd k fs S' → W cls d H'
def tE (c : Cn) (W : WX) (e : M.Ex) : TE := fun σ H Q => ∃ ρ S Qd Xd, ρ.length = σ.length ∧ RelE c.K H ρ σ ∧ RelS c.K H S ∧ M.wpE c.G e ρ S Qd Xd ∧ OkV c.K S H Qd Q ∧ OkX c S H Xd fun cls d H' => W cls d σ H'
def OkL (K : Frag) (S : M.Sto) (H : Hp) (Qd : List M.D → M.Sto → Prop) (Q : List V → Hp → Prop) : Prop := ∀ ds S' vs H', Fr S H S' H' → RelS K H' S' → RelDs K H' ds vs → Qd ds S' → Q vs H'
def tEs (c : Cn) (W : WX) (es : M.Es) : TA := fun σ H Q => ∃ ρ S Qd Xd, ρ.length = σ.length ∧ RelE c.K H ρ σ ∧ RelS c.K H S ∧ M.wpEs c.G es ρ S Qd Xd ∧ OkL c.K S H Qd Q ∧ OkX c S H Xd fun cls d H' => W cls d σ H'
/-- a def's promise -/
def lift (c : Cn) (sp : M.Sp) : L2.Sp := fun vs H Q E => ∃ ds S Qd Xd, RelDs c.K H ds vs ∧ RelS c.K H S ∧ sp ds S Qd Xd ∧ OkV c.K S H Qd Q ∧ OkX c S H Xd E
section
variable {K : Frag} {S S' : M.Sto} {H H' : Hp}
theorem OkV.after {Qd : M.VK} {Q : VK} (h : OkV K S H Qd Q) (f : Fr S H S' H') : OkV K S' H' Qd Q := fun d S2 v H2 f2 r2 rd q => h d S2 v H2 (f.trans f2) r2 rd q
theorem OkL.after {Qd : List M.D → M.Sto → Prop} {Q : List V → Hp → Prop} (h : OkL K S H Qd Q) (f : Fr S H S' H') : OkL K S' H' Qd Q := fun d S2 v H2 f2 r2 rd q => h d S2 v H2 (f.trans f2) r2 rd q
theorem OkX.after {c : Cn} {Xd : M.XK} {W : Value → Option Addr → Hp → Prop} (h : OkX c S H Xd W) (f : Fr S H S' H') : OkX c S' H' Xd W := fun k fs S2 H2 cls d f2 r2 rx q => h k fs S2 H2 cls d (f.trans f2) r2 rx q
end
theorem PE.imp {X : Cx} {e : Expr} {t t' : TE} (h : PE X e t) (i : ∀ σ H Q, t' σ H Q → t σ H Q) : PE X e t' := ⟨fun pins s σ H Q I q => h.run pins s σ H Q I (i σ H Q q)⟩
theorem PT.imp {X : Cx} {e : Expr} {t t' : TT} (h : PT X e t) (i : ∀ σ H Q, t' σ H Q → t σ H Q) : PT X e t' := ⟨fun pins s σ H Q I q => h.run pins s σ H Q I (i σ H Q q)⟩
theorem PA.imp {X : Cx} {e : List Expr} {t t' : TA} (h : PA X e t) (i : ∀ σ H Q, t' σ H Q → t σ H Q) : PA X e t' := ⟨fun pos pins s σ H Q I q => h.run pos pins s σ H Q I (i σ H Q q)⟩
end Snd
namespace Snd
open PySem PySem.Spec PyProof.Rows L2
/-! ### the heap grows -/
section
variable {K : Frag} {S : M.Sto} {H : Hp} {p : Addr} {o : HO}
theorem Fr.laid (hp : H p = none) : Fr S H S (L2.upd H p o) := fun a ob h n => ⟨by rw [L2.upd_ne (ne_of_none h hp)]; exact h, n⟩
theorem mupd_same {S : M.Sto} {a : Nat} {o : M.O} : M.upd S a o a = some o := by unfold M.upd; rw [if_pos rfl]
theorem mupd_ne {S : M.Sto} {a b : Nat} {o : M.O} (h : b ≠ a) : M.upd S a o b = S b := by unfold M.upd; rw [if_neg h]
theorem Fr.laidS {mo : M.O} (hp : H p = none) : Fr S H (M.upd S p mo) (L2.upd H p o) := fun a ob h n =>
  have ne := ne_of_none h hp
  ⟨by rw [L2.upd_ne ne]; exact h, by rw [mupd_ne ne]; exact n⟩
theorem RelO.mono {S' : M.Sto} {H' : Hp} (r : RelS K H S) (f : Fr S H S' H') {a : Addr} {mo : M.O} (h : RelO K H a mo) (k : ∀ ob, H a = some ob → H' a = some ob) : RelO K H' a mo := by
  cases mo with
  | lst ds => obtain ⟨vs, h1, h2⟩ := h; exact ⟨vs, k _ h1, h2.mono r f⟩
  | dic => exact k _ h
theorem RelS.there (r : RelS K H S) {a : Addr} {mo : M.O} (h : S a = some mo) : ∃ ob, H a = some ob := by
  have q := r a mo h
  cases mo with
  | lst ds => obtain ⟨vs, h1, _⟩ := q; exact ⟨_, h1⟩
  | dic => exact ⟨_, q⟩
theorem RelS.laid (r : RelS K H S) (hp : H p = Option.none) : RelS K (L2.upd H p o) S := fun a mo h => by
  obtain ⟨ob, hb⟩ := r.there h
  exact (r a mo h).mono r (Fr.laid hp) fun ob h1 => by rw [L2.upd_ne (ne_of_none h1 hp)]; exact h1
theorem RelS.lst (r : RelS K H S) (hp : H p = Option.none) {ds : List M.D} {vs : List V} (h : RelDs K H ds vs) : RelS K (L2.upd H p (.lst vs)) (M.upd S p (.lst ds)) := fun a mo e => by
  have f : Fr S H (M.upd S p (.lst ds)) (L2.upd H p (.lst vs)) := Fr.laidS hp
  by_cases ha : a = p
  · subst ha
    rw [mupd_same] at e
    cases e
    exact ⟨vs, L2.upd_same, h.mono r f⟩
  · rw [mupd_ne ha] at e
    exact (r a mo e).mono r f fun ob h1 => by rw [L2.upd_ne ha]; exact h1
theorem RelS.dic (r : RelS K H S) (hp : H p = Option.none) : RelS K (L2.upd H p (.dK [])) (M.upd S p .dic) := fun a mo e => by
  have f : Fr S H (M.upd S p .dic) (L2.upd H p (.dK [])) := Fr.laidS hp
  by_cases ha : a = p
  · subst ha
    rw [mupd_same] at e
    cases e
    exact L2.upd_same
  · rw [mupd_ne ha] at e
    exact (r a mo e).mono r f fun ob h1 => by rw [L2.upd_ne ha]; exact h1
/-- a list of the store is written -/
theorem Fr.wr {xs : List M.D} {a : Addr} {mo : M.O} (h : S a = some (.lst xs)) : Fr S H (M.upd S a mo) (L2.upd H a o) := fun b ob hb n => by
  have ne : b ≠ a := fun z => by rw [z, h] at n; cases n
  exact ⟨by rw [L2.upd_ne ne]; exact hb, by rw [mupd_ne ne]; exact n⟩
theorem RelS.wr (r : RelS K H S) {xs ds : List M.D} {vs : List V} {a : Addr} (h : S a = some (.lst xs)) (hd : RelDs K H ds vs) : RelS K (L2.upd H a (.lst vs)) (M.upd S a (.lst ds)) := fun b mo e => by
  have f : Fr S H (M.upd S a (.lst ds)) (L2.upd H a (.lst vs)) := Fr.wr h
  by_cases hb : b = a
  · subst hb
    rw [mupd_same] at e
    cases e
    exact ⟨vs, L2.upd_same, hd.mono r f⟩
  · rw [mupd_ne hb] at e
    exact (r b mo e).mono r f fun ob h1 => by rw [L2.upd_ne hb]; exact h1
end
section
variable {K : Frag} {S : M.Sto} {H : Hp} {Qd : M.VK} {Q : VK}
theorem OkV.same (h : OkV K S H Qd Q) (r : RelS K H S) {d : M.D} {v : V} (rd : RelD K H d v) (q : Qd d S) : Q v H := h d S v H Fr.refl r rd q
/-- a new tuple -/
theorem OkV.newT (h : OkV K S H Qd Q) (r : RelS K H S) {ds : List M.D} {vs : List V} (rd : RelDs K H ds vs) (q : Qd (.tup ds) S) : ∀ p, H p = none → Q (.ref p) (L2.upd H p (.tup vs)) := fun p hp =>
  h _ _ _ _ (Fr.laid hp) (r.laid hp) (.tup (SqT.of L2.upd_same) (rd.mono r (Fr.laid hp))) q
/-- a new list -/
theorem OkV.newL (h : OkV K S H Qd Q) (r : RelS K H S) {ds : List M.D} {vs : List V} (rd : RelDs K H ds vs) (q : ∀ p, S p = none → Qd (.ref p) (M.upd S p (.lst ds))) : ∀ p, H p = none → Q (.ref p) (L2.upd H p (.lst vs)) := fun p hp =>
  h _ _ _ _ (Fr.laidS hp) (r.lst hp rd) (.ref p) (q p (r.none hp))
end
theorem stx_len (x : M.Tx) : (stx x).length = x.length := by
  show x.toArray.size = _
  simp
theorem stx_app (x y : M.Tx) : stx x ++ stx y = stx (x ++ y) := by
  show Str.append _ _ = _
  unfold Str.append stx
  simp
theorem stx_cps (x : M.Tx) : (stx x).cps.toList = x := by unfold stx; simp
theorem stx_inj {x y : M.Tx} : stx x = stx y ↔ x = y := by
  constructor
  · intro h
    have := congrArg (fun z : Str => z.cps.toList) h
    simpa [stx] using this
  · rintro rfl; rfl
theorem lim_eq : M.lim = sizeLine := by rw [sizeLine_eq]; rfl
theorem log_lt {x n : Nat} (h0 : 0 < n) (h : x < 2 ^ n) : x.log2 < n := by
  by_cases h1 : x = 0
  · subst h1
    rw [Nat.log2_zero]
    exact h0
  · exact (Nat.log2_lt h1).mpr h
theorem sm_log {i : Int} (h : M.sm i) : i.natAbs.log2 < 4000 := by
  unfold M.sm M.big at h
  exact log_lt (Nat.succ_pos _) h
theorem smd_log {i : Int} (h : M.smd i) : i.natAbs.log2 < 8500 := by
  unfold M.smd M.bigd at h
  exact log_lt (Nat.succ_pos _) h
theorem opt_of {α : Type} {o : Option α} {P : α → Prop} (h : M.opt o P) : ∃ a, o = some a ∧ P a := by
  cases o with
  | none => exact False.elim h
  | some a => exact ⟨a, rfl, h⟩
theorem onI_of {d : M.D} {P : Int → Prop} (h : M.onI d P) : ∃ i, d = .int i ∧ P i := by
  cases d with
  | int i => exact ⟨i, rfl, h⟩
  | _ => exact False.elim h
theorem onB_of {d : M.D} {P : Bool → Prop} (h : M.onB d P) : ∃ i, d = .bl i ∧ P i := by
  cases d with
  | bl i => exact ⟨i, rfl, h⟩
  | _ => exact False.elim h
theorem onR_of {d : M.D} {P : Nat → Prop} (h : M.onR d P) : ∃ i, d = .ref i ∧ P i := by
  cases d with
  | ref i => exact ⟨i, rfl, h⟩
  | _ => exact False.elim h
theorem lstAt_some {S : M.Sto} {a : Nat} {xs : List M.D} (h : M.lstAt S a = some xs) : S a = some (.lst xs) := by
  unfold M.lstAt at h
  cases e : S a with
  | none => rw [e] at h; cases h
  | some o =>
    rw [e] at h
    cases o with
    | dic => cases h
    | lst ys => cases h; rfl
theorem lstAt_of {S : M.Sto} {a : Nat} {xs : List M.D} (h : S a = some (.lst xs)) : M.lstAt S a = some xs := by
  unfold M.lstAt
  rw [h] <;> rfl
theorem RelS.at {K : Frag} {H : Hp} {S : M.Sto} (r : RelS K H S) {a : Nat} {xs : List M.D} (h : M.lstAt S a = some xs) : ∃ vs, H a = some (.lst vs) ∧ RelDs K H xs vs := r a _ (lstAt_some h)
/-- a list, by value or of the store, to be read -/
theorem lsOf_rel {K : Frag} {H : Hp} {S : M.Sto} (r : RelS K H S) {d : M.D} {v : V} {xs : List M.D} (rd : RelD K H d v) (h : M.lsOf S d = some xs) : ∃ a vs, v = .ref a ∧ SqL K H a vs ∧ RelDs K H xs vs := by
  cases rd with
  | ref a => obtain ⟨vs, h1, h2⟩ := r.at h; exact ⟨a, vs, rfl, SqL.of h1, h2⟩
  | fl h1 h2 => cases h; exact ⟨_, _, rfl, h1.sq, h2⟩
  | _ => cases h
theorem sqOf_rel {K : Frag} {H : Hp} {S : M.Sto} (r : RelS K H S) {d : M.D} {v : V} {xs : List M.D} (rd : RelD K H d v) (h : M.sqOf S d = some xs) : ∃ a vs, v = .ref a ∧ (SqL K H a vs ∨ SqT K H a vs) ∧ RelDs K H xs vs := by
  cases rd with
  | ref a => obtain ⟨vs, h1, h2⟩ := r.at h; exact ⟨a, vs, rfl, .inl (SqL.of h1), h2⟩
  | fl h1 h2 => cases h; exact ⟨_, _, rfl, .inl h1.sq, h2⟩
  | tup h1 h2 => cases h; exact ⟨_, _, rfl, .inr h1, h2⟩
  | _ => cases h
/-! ### two-place operators -/
def rB (K : Frag) (o : M.Bo) : R2 := fun v u H Q => ∃ x y S Qd, RelS K H S ∧ RelD K H x v ∧ RelD K H y u ∧ M.binD o x y S Qd ∧ OkV K S H Qd Q
def boOk : M.Bo → Operator → Bool
  | .add, .Add => true | .sub, .Sub => true | .mul, .Mult => true | .fdiv, .FloorDiv => true | .mod, .Mod => true | .pow, .Pow => true
  | _, _ => false
section
variable {X : Cx}
theorem ob_add : OpR X (binaryOp .Add) (rB X.K .add) := by
  intro pins s σ H v u vv uu Q I rv ru h
  obtain ⟨x, y, S, Qd, r, rx, ry, w, hq⟩ := h
  cases rx with
  | int i =>
    cases ry with
    | int j => exact op_add pins s σ H _ _ vv uu Q I rv ru ⟨i, j, rfl, rfl, hq.same r (.int _) w⟩
    | _ => exact False.elim w
  | str a =>
    cases ry with
    | str b =>
      obtain ⟨hz, w⟩ := w
      exact op_add_str pins s σ H _ _ vv uu Q I rv ru ⟨_, _, rfl, rfl, by rw [stx_len, stx_len, ← lim_eq]; exact hz, by rw [stx_app]; exact hq.same r (.str _) w⟩
    | _ => exact False.elim w
  | tup hs hd =>
    cases ry with
    | tup hs2 hd2 =>
      obtain ⟨hz, w⟩ := w
      refine op_catA pins s σ H _ _ vv uu Q I rv ru ⟨_, _, _, _, rfl, rfl, hs, hs2, by rw [← hd.length, ← hd2.length, ← lim_eq]; exact hz, fun e => ?_, fun _ e => ?_, fun _ _ => hq.newT r (hd.append hd2) w⟩
      · subst e
        cases hd
        exact hq.same r (.tup hs2 hd2) w
      · subst e
        cases hd2
        rw [List.append_nil] at w
        exact hq.same r (.tup hs hd) w
    | _ => exact False.elim w
  | ref a =>
    cases ry with
    | ref b =>
      obtain ⟨xs, e1, w⟩ := opt_of w
      obtain ⟨ys, e2, hz, w⟩ := opt_of w
      obtain ⟨vs, h1, d1⟩ := r.at e1
      obtain ⟨us, h2, d2⟩ := r.at e2
      refine op_cat pins s σ H _ _ vv uu Q I rv ru ⟨a, b, vs, us, rfl, rfl, h1, h2, ?_, hq.newL r (d1.append d2) w⟩
      rw [← d1.length, ← d2.length, ← lim_eq, ← List.length_append]
      exact hz
    | _ => exact False.elim w
  | _ => exact False.elim w
theorem ob_sub : OpR X (binaryOp .Sub) (rB X.K .sub) := by
  intro pins s σ H v u vv uu Q I rv ru h
  obtain ⟨x, y, S, Qd, r, rx, ry, w, hq⟩ := h
  obtain ⟨i, rfl, w⟩ := onI_of w
  obtain ⟨j, rfl, w⟩ := onI_of w
  cases rx
  cases ry
  exact op_sub pins s σ H _ _ vv uu Q I rv ru ⟨i, j, rfl, rfl, hq.same r (.int _) w⟩
theorem ob_mul : OpR X (binaryOp .Mult) (rB X.K .mul) := by
  intro pins s σ H v u vv uu Q I rv ru h
  obtain ⟨x, y, S, Qd, r, rx, ry, w, hq⟩ := h
  cases rx with
  | int i =>
    cases ry with
    | int j =>
      obtain ⟨s1, s2, w⟩ := w
      have l1 := sm_log s1
      have l2 := sm_log s2
      exact op_mulW pins s σ H _ _ vv uu Q I rv ru ⟨i, j, rfl, rfl, by show _ + _ < 1000000; omega, hq.same r (.int _) w⟩
    | _ => exact False.elim w
  | ref a =>
    cases ry with
    | int k =>
      obtain ⟨xs, e1, k0, k1, hz, w⟩ := opt_of w
      obtain ⟨vs, h1, d1⟩ := r.at e1
      refine op_rep pins s σ H _ _ vv uu Q I rv ru ⟨a, k, vs, rfl, rfl, h1, by omega, by omega, ?_, hq.newL r (d1.rep _) w⟩
      rw [List.length_flatten, List.map_replicate, List.sum_replicate_nat] at hz
      rw [← d1.length, ← lim_eq, Nat.mul_comm]
      exact hz
    | _ => exact False.elim w
  | _ => exact False.elim w
theorem ob_fdiv : OpR X (binaryOp .FloorDiv) (rB X.K .fdiv) := by
  intro pins s σ H v u vv uu Q I rv ru h
  obtain ⟨x, y, S, Qd, r, rx, ry, w, hq⟩ := h
  obtain ⟨i, rfl, w⟩ := onI_of w
  obtain ⟨j, rfl, w⟩ := onI_of w
  cases rx
  cases ry
  obtain ⟨s1, s2, w⟩ := w
  obtain ⟨t, rfl⟩ := rv
  obtain ⟨t', rfl⟩ := ru
  have l2 := smd_log s2
  exact floordiv_int s1 ⟨.int (i.fdiv j), H, I.tok _, ⟨_, rfl⟩, hq.same r (.int _) w⟩ (.inl (PyProof.noPylong_of_log2 (by omega)))
theorem ob_mod : OpR X (binaryOp .Mod) (rB X.K .mod) := by
  intro pins s σ H v u vv uu Q I rv ru h
  obtain ⟨x, y, S, Qd, r, rx, ry, w, hq⟩ := h
  obtain ⟨i, rfl, w⟩ := onI_of w
  obtain ⟨j, rfl, w⟩ := onI_of w
  cases rx
  cases ry
  obtain ⟨s1, w⟩ := w
  exact op_modN pins s σ H _ _ vv uu Q I rv ru ⟨i, j, rfl, rfl, s1, hq.same r (.int _) w⟩
theorem ob_pow : OpR X (binaryOp .Pow) (rB X.K .pow) := by
  intro pins s σ H v u vv uu Q I rv ru h
  obtain ⟨x, y, S, Qd, r, rx, ry, w, hq⟩ := h
  obtain ⟨i, rfl, w⟩ := onI_of w
  obtain ⟨j, rfl, w⟩ := onI_of w
  cases rx
  cases ry
  obtain ⟨s1, s2, s3, w⟩ := w
  obtain ⟨t, rfl⟩ := rv
  obtain ⟨t', rfl⟩ := ru
  have l1 := sm_log s1
  have b : (Builtin.Int.intBits i : Int) ≤ 4001 := by
    unfold Builtin.Int.intBits
    split <;> omega
  refine PyProof.Rows.pow_int s2 ?_ ⟨.int (i ^ j.toNat), H, I.tok _, ⟨_, rfl⟩, hq.same r (.int _) w⟩
  have : (Builtin.Int.intBits i : Int) * j ≤ 4001 * 1000 := by
    refine Int.le_trans (Int.mul_le_mul_of_nonneg_right b s2) ?_
    omega
  omega
theorem ob_all : ∀ {o : M.Bo} {p : Operator} (h : boOk o p = true), OpR X (binaryOp p) (rB X.K o)
  | .add, .Add, _ => ob_add
  | .sub, .Sub, _ => ob_sub
  | .mul, .Mult, _ => ob_mul
  | .fdiv, .FloorDiv, _ => ob_fdiv
  | .mod, .Mod, _ => ob_mod
  | .pow, .Pow, _ => ob_pow
end
end Snd
namespace Snd
open PySem PySem.Spec PyProof.Rows L2
/-! ### == of data -/
def toP : Nat → M.Sto → M.D → PyData
  | 0, _, _ => .none
  | n + 1, S, d => (match d with
    | .non => .none
    | .bl b => .bool b
    | .int i => .int i
    | .str x => .str (stx x)
    | .tup xs => .tuple (xs.map (toP n S))
    | .fl xs => .list (xs.map (toP n S))
    | .ref a => .list (((M.lstAt S a).getD []).map (toP n S))
    | .xn _ _ => .none)
theorem optB_of {α : Type} {o : Option α} {P : α → Bool} (h : M.optB o P = true) : ∃ a, o = some a ∧ P a = true := by
  cases o with
  | none => cases h
  | some a => exact ⟨a, rfl, h⟩
theorem depthAll_le {n : Nat} {f : M.D → PyData} (h : ∀ d, (f d).depth ≤ n) : ∀ xs : List M.D, PyData.depthAll (xs.map f) ≤ n
  | [] => Nat.zero_le _
  | x :: xs => by
    rw [List.map_cons]
    unfold PyData.depthAll
    exact Nat.max_le.mpr ⟨h x, depthAll_le h xs⟩
theorem toP_depth : ∀ (n : Nat) (S : M.Sto) (d : M.D), (toP n S d).depth ≤ n
  | 0, _, _ => by simp [toP, PyData.depth]
  | n + 1, S, d => by
    unfold toP
    have ih := toP_depth n S
    cases d with
    | tup xs => simp only [PyData.depth]; have := depthAll_le ih xs; omega
    | fl xs => simp only [PyData.depth]; have := depthAll_le ih xs; omega
    | ref a => simp only [PyData.depth]; have := depthAll_le ih ((M.lstAt S a).getD []); omega
    | _ => simp [PyData.depth]
theorem canAll {f : M.D → PyData} {ok : M.D → Bool} (h : ∀ d, ok d = true → (f d).canLay0 = true) : ∀ {xs : List M.D}, M.fitL ok xs = true → PyData.canLayAll0 (xs.map f) = true
  | [], _ => by simp [PyData.canLayAll0]
  | x :: xs, e => by
    unfold M.fitL at e
    obtain ⟨e1, e2⟩ := Bool.and_eq_true_iff.mp e
    rw [List.map_cons]
    unfold PyData.canLayAll0
    rw [h x e1, canAll h e2]
    rfl
theorem fit_lay : ∀ {n : Nat} {S : M.Sto} {d : M.D}, M.fit n S d = true → (toP n S d).canLay0 = true
  | 0, _, _, h => by simp [M.fit] at h
  | n + 1, S, d, h => by
    unfold M.fit at h
    unfold toP
    have ih : ∀ d, M.fit n S d = true → (toP n S d).canLay0 = true := fun d => fit_lay
    cases d with
    | tup xs => simp only [PyData.canLay0]; exact canAll ih h
    | fl xs => simp only [PyData.canLay0]; exact canAll ih h
    | ref a =>
      obtain ⟨xs, e, h⟩ := optB_of h
      simp only [PyData.canLay0, e, Option.getD_some]; exact canAll ih h
    | str x =>
      simp only [PyData.canLay0, PyData.strOk, stx]
      simpa using h
    | xn c fs => cases h
    | _ => simp [PyData.canLay0]
section
variable {K : Frag} {H : Hp} {S : M.Sto}
theorem dpAll {f : M.D → PyData} {ok : M.D → Bool} (h : ∀ d v, ok d = true → RelD K H d v → Dp K H v (f d)) : ∀ {xs : List M.D} {vs : List V}, M.fitL ok xs = true → RelDs K H xs vs → DpAll K H vs (xs.map f)
  | [], _, _, .nil => .nil
  | x :: xs, _, e, .cons a b => by
    unfold M.fitL at e
    obtain ⟨e1, e2⟩ := Bool.and_eq_true_iff.mp e
    exact .cons (h x _ e1 a) (dpAll h e2 b)
theorem fit_dp (r : RelS K H S) : ∀ {n : Nat} {d : M.D} {v : V}, M.fit n S d = true → RelD K H d v → Dp K H v (toP n S d)
  | 0, _, _, h, _ => by simp [M.fit] at h
  | n + 1, d, v, h, rd => by
    unfold M.fit at h
    unfold toP
    have ih : ∀ d v, M.fit n S d = true → RelD K H d v → Dp K H v (toP n S d) := fun d v => fit_dp r
    cases rd with
    | non => exact .non
    | bl b => exact .bl b
    | int i => exact .int i
    | str x => exact .str _
    | tup hs hd => exact .tup hs (dpAll ih h hd)
    | fl hs hd => exact .lst hs.sq (dpAll ih h hd)
    | ref a =>
      obtain ⟨xs, e, h⟩ := optB_of h
      obtain ⟨vs, h1, h2⟩ := r.at e
      simp only [e, Option.getD_some]
      exact .lst (SqL.of h1) (dpAll ih h h2)
theorem eqLB_ok {f : M.D → PyData} {ok : M.D → Bool} {eq : M.D → M.D → Bool} (h : ∀ x y, ok x = true → ok y = true → eq x y = PyData.eqv (f x) (f y)) :
    ∀ xs ys : List M.D, M.fitL ok xs = true → M.fitL ok ys = true → M.eqLB eq xs ys = PyData.eqvAll (xs.map f) (ys.map f)
  | [], [], _, _ => by simp [M.eqLB, PyData.eqvAll]
  | [], _ :: _, _, _ => by simp [M.eqLB, PyData.eqvAll]
  | _ :: _, [], _, _ => by simp [M.eqLB, PyData.eqvAll]
  | x :: xs, y :: ys, h1, h2 => by
    unfold M.fitL at h1 h2
    obtain ⟨a1, a2⟩ := Bool.and_eq_true_iff.mp h1
    obtain ⟨b1, b2⟩ := Bool.and_eq_true_iff.mp h2
    simp only [M.eqLB, List.map_cons, PyData.eqvAll, h x y a1 b1, eqLB_ok h xs ys a2 b2]
theorem stx_beq (x y : M.Tx) : (stx x == stx y) = (x == y) := by
  rw [Bool.eq_iff_iff]
  simp [stx_inj]
/-- a list of the store reads like one by value -/
theorem ref_fl {n : Nat} {a : Nat} {xs : List M.D} (e : M.lstAt S a = some xs) : toP (n + 1) S (.ref a) = toP (n + 1) S (.fl xs) ∧ M.fit (n + 1) S (.ref a) = M.fit (n + 1) S (.fl xs) ∧ (∀ y, M.eqB (n + 1) S (.ref a) y = M.eqB (n + 1) S (.fl xs) y) ∧ ∀ y, M.eqB (n + 1) S y (.ref a) = M.eqB (n + 1) S y (.fl xs) := by
  refine ⟨?_, ?_, fun y => ?_, fun y => ?_⟩
  · show PyData.list (((M.lstAt S a).getD []).map (toP n S)) = PyData.list (xs.map (toP n S))
    rw [e] <;> rfl
  · show M.optB (M.lstAt S a) (M.fitL (M.fit n S)) = M.fitL (M.fit n S) xs
    rw [e] <;> rfl
  · have q : M.eqO (M.eqLB (M.eqB n S)) (M.lstAt S a) (M.lsOf S y) = M.eqO (M.eqLB (M.eqB n S)) (some xs) (M.lsOf S y) := by rw [e]
    cases y <;> exact q
  · cases y <;> first
      | rfl
      | (rename_i b; exact (show M.eqO (M.eqLB (M.eqB n S)) (M.lstAt S b) (M.lstAt S a) = M.eqO (M.eqLB (M.eqB n S)) (M.lstAt S b) (some xs) by rw [e]))
      | (rename_i ys; exact (show M.eqO (M.eqLB (M.eqB n S)) (some ys) (M.lstAt S a) = M.eqO (M.eqLB (M.eqB n S)) (some ys) (some xs) by rw [e]))
theorem fit_ref {n : Nat} {a : Nat} (h : M.fit (n + 1) S (.ref a) = true) : ∃ xs, M.lstAt S a = some xs := let ⟨xs, e, _⟩ := optB_of h; ⟨xs, e⟩
theorem eqv_tl {xs ys : List PyData} : PyData.eqv (.tuple xs) (.list ys) = false ∧ PyData.eqv (.list xs) (.tuple ys) = false := by
  constructor <;> simp [PyData.eqv]
theorem eqB_ok (S : M.Sto) (n : Nat) : ∀ (x y : M.D), M.fit n S x = true → M.fit n S y = true → M.eqB n S x y = PyData.eqv (toP n S x) (toP n S y) := by
  induction n with
  | zero => intro _ _ h _; simp [M.fit] at h
  | succ n ih =>
    have main : ∀ (x y : M.D), (∀ a, x ≠ .ref a) → (∀ a, y ≠ .ref a) → M.fit (n + 1) S x = true → M.fit (n + 1) S y = true → M.eqB (n + 1) S x y = PyData.eqv (toP (n + 1) S x) (toP (n + 1) S y) := by
      intro x y nx ny h1 h2
      cases x <;> cases y <;> first
        | exact absurd rfl (nx _)
        | exact absurd rfl (ny _)
        | exact absurd (show false = true from h1) Bool.false_ne_true
        | exact absurd (show false = true from h2) Bool.false_ne_true
        | (show M.eqLB (M.eqB n S) _ _ = PyData.eqv (.tuple _) (.tuple _); rw [PyData.eqv]; exact eqLB_ok ih _ _ h1 h2)
        | (show M.eqLB (M.eqB n S) _ _ = PyData.eqv (.list _) (.list _); rw [PyData.eqv]; exact eqLB_ok ih _ _ h1 h2)
        | (show (_ == _) = PyData.eqv (.str _) (.str _); rw [PyData.eqv, stx_beq])
        | (show _ = PyData.eqv _ _; unfold toP; simp only [PyData.eqv]; rfl)
    have m2 : ∀ (x y : M.D), (∀ a, x ≠ .ref a) → M.fit (n + 1) S x = true → M.fit (n + 1) S y = true → M.eqB (n + 1) S x y = PyData.eqv (toP (n + 1) S x) (toP (n + 1) S y) := by
      intro x y nx h1 h2
      by_cases hy : ∃ a, y = .ref a
      · obtain ⟨a, rfl⟩ := hy
        obtain ⟨xs, e⟩ := fit_ref h2
        obtain ⟨e1, e2, _, e4⟩ := ref_fl (n := n) e
        rw [e1, e4]
        exact main _ _ nx (fun _ z => nomatch z) h1 (by rw [← e2]; exact h2)
      · exact main _ _ nx (fun a z => hy ⟨a, z⟩) h1 h2
    intro x y h1 h2
    by_cases hx : ∃ a, x = .ref a
    · obtain ⟨a, rfl⟩ := hx
      obtain ⟨xs, e⟩ := fit_ref h1
      obtain ⟨e1, e2, e3, _⟩ := ref_fl (n := n) e
      rw [e1, e3]
      exact m2 _ _ (fun _ z => nomatch z) (by rw [← e2]; exact h1) h2
    · exact m2 _ _ (fun a z => hx ⟨a, z⟩) h1 h2
theorem shaped_of {n : Nat} {d : M.D} (hn : n ≤ 32) (h : M.fit n S d = true) : SeqAt.shaped (toP n S d) = true := by
  unfold SeqAt.shaped
  rw [fit_lay h]
  have := toP_depth n S d
  simp only [Bool.true_and, decide_eq_true_eq]
  omega
end
end Snd
namespace Snd
open PySem PySem.Spec PyProof.Rows L2
/-! ### comparisons -/
def coOk : M.Co → CmpOp → Bool
  | .eq, .Eq => true | .ne, .NotEq => true | .lt, .Lt => true | .le, .LtE => true | .gt, .Gt => true | .ge, .GtE => true
  | .is_, .Is => true | .isn, .IsNot => true | .in_, .In => true | .nin, .NotIn => true
  | _, _ => false
def rCm (K : Frag) (o : M.Co) : R2 := fun v u H Q => ∃ x y S P, RelS K H S ∧ RelD K H x v ∧ RelD K H y u ∧ M.cmpD o x y S P ∧ ∀ b, P b → Q (.bl b) H
section
variable {X : Cx}
theorem oc_lt : OpR X (compareOp .Lt) (rCm X.K .lt) := by
  intro pins s σ H v u vv uu Q I rv ru h
  obtain ⟨x, y, S, P, r, rx, ry, w, hq⟩ := h
  obtain ⟨i, rfl, w⟩ := onI_of w
  obtain ⟨j, rfl, w⟩ := onI_of w
  cases rx
  cases ry
  exact op_lt pins s σ H _ _ vv uu Q I rv ru ⟨i, j, rfl, rfl, hq _ w⟩
theorem oc_le : OpR X (compareOp .LtE) (rCm X.K .le) := by
  intro pins s σ H v u vv uu Q I rv ru h
  obtain ⟨x, y, S, P, r, rx, ry, w, hq⟩ := h
  obtain ⟨i, rfl, w⟩ := onI_of w
  obtain ⟨j, rfl, w⟩ := onI_of w
  cases rx
  cases ry
  exact op_le pins s σ H _ _ vv uu Q I rv ru ⟨i, j, rfl, rfl, hq _ w⟩
theorem oc_gt : OpR X (compareOp .Gt) (rCm X.K .gt) := by
  intro pins s σ H v u vv uu Q I rv ru h
  obtain ⟨x, y, S, P, r, rx, ry, w, hq⟩ := h
  obtain ⟨i, rfl, w⟩ := onI_of w
  obtain ⟨j, rfl, w⟩ := onI_of w
  cases rx
  cases ry
  exact op_gt pins s σ H _ _ vv uu Q I rv ru ⟨i, j, rfl, rfl, hq _ w⟩
theorem oc_ge : OpR X (compareOp .GtE) (rCm X.K .ge) := by
  intro pins s σ H v u vv uu Q I rv ru h
  obtain ⟨x, y, S, P, r, rx, ry, w, hq⟩ := h
  obtain ⟨i, rfl, w⟩ := onI_of w
  obtain ⟨j, rfl, w⟩ := onI_of w
  cases rx
  cases ry
  exact op_ge pins s σ H _ _ vv uu Q I rv ru ⟨i, j, rfl, rfl, hq _ w⟩
theorem eq_cases {x y : M.D} {S : M.Sto} {P : Bool → Prop} (w : M.cmpD .eq x y S P) : (∃ a b, x = .str a ∧ y = .str b ∧ P (a == b)) ∨ (M.fit M.dep S x = true ∧ M.fit M.dep S y = true ∧ P (M.eqB M.dep S x y)) := by
  cases x <;> cases y <;> first | exact .inl ⟨_, _, rfl, rfl, w⟩ | exact .inr w
theorem ne_cases {x y : M.D} {S : M.Sto} {P : Bool → Prop} (w : M.cmpD .ne x y S P) : (∃ a b, x = .str a ∧ y = .str b ∧ P (!(a == b))) ∨ (M.fit M.dep S x = true ∧ M.fit M.dep S y = true ∧ P (!M.eqB M.dep S x y)) := by
  cases x <;> cases y <;> first | exact .inl ⟨_, _, rfl, rfl, w⟩ | exact .inr w
theorem dec_stx {a b : M.Tx} : decide (V.str (stx a) = V.str (stx b)) = (a == b) := by
  by_cases h : a = b
  · subst h; simp
  · have h2 : ¬ V.str (stx a) = V.str (stx b) := fun e => h (stx_inj.mp (V.str.inj e))
    rw [decide_eq_false h2]
    exact (beq_eq_false_iff_ne.mpr h).symm
theorem oc_eq (hu : X.A.units + 64 < cLine) : OpR X (compareOp .Eq) (rCm X.K .eq) := by
  intro pins s σ H v u vv uu Q I rv ru h
  obtain ⟨x, y, S, P, r, rx, ry, w, hq⟩ := h
  rcases eq_cases w with ⟨a, b, rfl, rfl, w⟩ | ⟨f1, f2, w⟩
  · cases rx
    cases ry
    exact op_eq pins s σ H _ _ vv uu Q I rv ru ⟨rfl, by rw [dec_stx]; exact hq _ w⟩
  · refine op_eqD hu pins s σ H _ _ vv uu Q I rv ru ⟨_, _, fit_dp r f1 rx, fit_dp r f2 ry, shaped_of (by decide) f1, shaped_of (by decide) f2, ?_⟩
    rw [← eqB_ok S _ x y f1 f2]
    exact hq _ w
theorem oc_ne (hu : X.A.units + 64 < cLine) : OpR X (compareOp .NotEq) (rCm X.K .ne) := by
  intro pins s σ H v u vv uu Q I rv ru h
  obtain ⟨x, y, S, P, r, rx, ry, w, hq⟩ := h
  rcases ne_cases w with ⟨a, b, rfl, rfl, w⟩ | ⟨f1, f2, w⟩
  · cases rx
    cases ry
    exact op_ne pins s σ H _ _ vv uu Q I rv ru ⟨rfl, by rw [dec_stx]; exact hq _ w⟩
  · refine op_neD hu pins s σ H _ _ vv uu Q I rv ru ⟨_, _, fit_dp r f1 rx, fit_dp r f2 ry, shaped_of (by decide) f1, shaped_of (by decide) f2, ?_⟩
    rw [← eqB_ok S _ x y f1 f2]
    exact hq _ w
theorem is_non {K : Frag} {H : Hp} {x : M.D} {v : V} (r : RelD K H x v) : decide (v = .non) = M.isNon x := by
  cases r <;> simp [M.isNon]
theorem oc_is : OpR X (compareOp .Is) (rCm X.K .is_) := by
  intro pins s σ H v u vv uu Q I rv ru h
  obtain ⟨x, y, S, P, r, rx, ry, w, hq⟩ := h
  cases ry with
  | non => exact op_isN pins s σ H _ _ vv uu Q I rv ru ⟨rfl, by rw [is_non rx]; exact hq _ w⟩
  | bl b =>
    obtain ⟨a, rfl, w⟩ := onB_of w
    cases rx
    exact op_isBl pins s σ H _ _ vv uu Q I rv ru ⟨a, b, rfl, rfl, by have e : (a == b) = decide (a = b) := (by cases a <;> cases b <;> rfl); first | exact hq _ w | (rw [← e]; exact hq _ w)⟩
  | _ => exact False.elim w
theorem oc_isn : OpR X (compareOp .IsNot) (rCm X.K .isn) := by
  intro pins s σ H v u vv uu Q I rv ru h
  obtain ⟨x, y, S, P, r, rx, ry, w, hq⟩ := h
  cases ry with
  | non => exact op_notN pins s σ H _ _ vv uu Q I rv ru ⟨rfl, by rw [is_non rx]; exact hq _ w⟩
  | bl b =>
    obtain ⟨a, rfl, w⟩ := onB_of w
    cases rx
    exact op_notBl pins s σ H _ _ vv uu Q I rv ru ⟨a, b, rfl, rfl, by have e : (a == b) = decide (a = b) := (by cases a <;> cases b <;> rfl); first | exact hq _ w | (rw [← e]; exact hq _ w)⟩
  | _ => exact False.elim w
theorem any_eqB {S : M.Sto} {n : Nat} {x : M.D} (fx : M.fit n S x = true) : ∀ {ys : List M.D}, M.fitL (M.fit n S) ys = true → (ys.any fun y => M.eqB n S y x) = ((ys.map (toP n S)).any fun z => PyData.eqv z (toP n S x))
  | [], _ => rfl
  | y :: ys, h => by
    unfold M.fitL at h
    obtain ⟨h1, h2⟩ := Bool.and_eq_true_iff.mp h
    rw [List.any_cons, List.map_cons, List.any_cons, any_eqB fx h2, eqB_ok S n y x h1 fx]
theorem room_in {A : Around} {n : Nat} {S : M.Sto} {x : M.D} {ys : List PyData} (hn : n ≤ 32) (hu : A.units + 64 < cLine) : A.units + 1 + min (PyData.depthAll ys) (toP n S x).depth < cLine := by
  have h1 := toP_depth n S x
  have h2 : min (PyData.depthAll ys) (toP n S x).depth ≤ (toP n S x).depth := Nat.min_le_right _ _
  omega
theorem onC_of {d : M.D} {P : Nat → Prop} (h : M.onC d P) : ∃ c, d = .str [c] ∧ P c := by
  cases d with
  | str a =>
    match a, h with
    | [c], h => exact ⟨c, rfl, h⟩
  | _ => exact False.elim h
theorem oc_in (hu : X.A.units + 64 < cLine) : OpR X (compareOp .In) (rCm X.K .in_) := by
  intro pins s σ H v u vv uu Q I rv ru h
  obtain ⟨x, y, S, P, r, rx, ry, w, hq⟩ := h
  have seq : ∀ ys, M.sqOf S y = some ys → M.fit M.dep S x = true → M.fitL (M.fit M.dep S) ys = true → P (M.inB S x ys) → wpAny (model X.prog X.w) X.A (compareOp .In vv uu) (EP X pins σ Q) X.xe s := by
    intro ys e f1 f2 w
    obtain ⟨a, vs, rfl, hs, hd⟩ := sqOf_rel r ry e
    cases ru
    obtain ⟨as, r1⟩ := Dp.reads I _ v vv (fit_dp r f1 rx) rv
    have dps := dpAll (K := X.K) (H := H) (f := toP M.dep S) (fun d v h1 h2 => fit_dp r h1 h2) f2 hd
    have cl : PyData.canLayAll0 (ys.map (toP M.dep S)) = true := canAll (fun d h => fit_lay h) f2
    have w2 : P ((ys.map (toP M.dep S)).any fun z => PyData.eqv z (toP M.dep S x)) := by rw [← any_eqB f1 f2]; exact w
    rcases hs with hs | hs
    · obtain ⟨bs, r2⟩ := Dp.reads I (.list (ys.map (toP M.dep S))) _ _ (Dp.lst hs dps) rfl
      exact SeqAt.in_list_reads r2 r1 cl (fit_lay f1) (room_in (by decide) hu) ⟨.bl _, H, I, rfl, hq _ w2⟩
    · obtain ⟨bs, r2⟩ := Dp.reads I (.tuple (ys.map (toP M.dep S))) _ _ (Dp.tup hs dps) rfl
      exact SeqAt.in_tuple_reads r2 r1 cl (fit_lay f1) (room_in (by decide) hu) ⟨.bl _, H, I, rfl, hq _ w2⟩
  cases ry with
  | str b =>
    obtain ⟨c, rfl, w⟩ := onC_of w
    cases rx
    refine op_in_sign pins s σ H _ _ vv uu Q I rv ru ⟨c, _, rfl, rfl, ?_⟩
    have e : decide (c ∈ (stx b).cps.toList) = b.contains c := by rw [stx_cps]; simp
    rw [e]
    exact hq _ w
  | ref a => obtain ⟨ys, e, f1, f2, w⟩ := opt_of (show M.opt (M.sqOf S (.ref a)) (fun ys => M.fit M.dep S x = true ∧ M.fitL (M.fit M.dep S) ys = true ∧ P (M.inB S x ys)) from w); exact seq ys e f1 f2 w
  | tup h1 h2 => obtain ⟨ys, e, f1, f2, w⟩ := opt_of (show M.opt (M.sqOf S (.tup _)) (fun ys => M.fit M.dep S x = true ∧ M.fitL (M.fit M.dep S) ys = true ∧ P (M.inB S x ys)) from w); exact seq ys e f1 f2 w
  | fl h1 h2 => obtain ⟨ys, e, f1, f2, w⟩ := opt_of (show M.opt (M.sqOf S (.fl _)) (fun ys => M.fit M.dep S x = true ∧ M.fitL (M.fit M.dep S) ys = true ∧ P (M.inB S x ys)) from w); exact seq ys e f1 f2 w
  | _ => exact False.elim w
theorem oc_nin (hu : X.A.units + 64 < cLine) : OpR X (compareOp .NotIn) (rCm X.K .nin) := by
  intro pins s σ H v u vv uu Q I rv ru h
  obtain ⟨x, y, S, P, r, rx, ry, w, hq⟩ := h
  have seq : ∀ ys, M.sqOf S y = some ys → M.fit M.dep S x = true → M.fitL (M.fit M.dep S) ys = true → P (!M.inB S x ys) → wpAny (model X.prog X.w) X.A (compareOp .NotIn vv uu) (EP X pins σ Q) X.xe s := by
    intro ys e f1 f2 w
    obtain ⟨a, vs, rfl, hs, hd⟩ := sqOf_rel r ry e
    cases ru
    obtain ⟨as, r1⟩ := Dp.reads I _ v vv (fit_dp r f1 rx) rv
    have dps := dpAll (K := X.K) (H := H) (f := toP M.dep S) (fun d v h1 h2 => fit_dp r h1 h2) f2 hd
    have cl : PyData.canLayAll0 (ys.map (toP M.dep S)) = true := canAll (fun d h => fit_lay h) f2
    have w2 : P (!(ys.map (toP M.dep S)).any fun z => PyData.eqv z (toP M.dep S x)) := by rw [← any_eqB f1 f2]; exact w
    rcases hs with hs | hs
    · obtain ⟨bs, r2⟩ := Dp.reads I (.list (ys.map (toP M.dep S))) _ _ (Dp.lst hs dps) rfl
      exact SeqAt.notIn_list_reads r2 r1 cl (fit_lay f1) (room_in (by decide) hu) ⟨.bl _, H, I, rfl, hq _ w2⟩
    · obtain ⟨bs, r2⟩ := Dp.reads I (.tuple (ys.map (toP M.dep S))) _ _ (Dp.tup hs dps) rfl
      exact SeqAt.notIn_tuple_reads r2 r1 cl (fit_lay f1) (room_in (by decide) hu) ⟨.bl _, H, I, rfl, hq _ w2⟩
  cases ry with
  | str b =>
    obtain ⟨c, rfl, w⟩ := onC_of w
    cases rx
    refine op_notIn_sign pins s σ H _ _ vv uu Q I rv ru ⟨c, _, rfl, rfl, ?_⟩
    have e : decide (c ∈ (stx b).cps.toList) = b.contains c := by rw [stx_cps]; simp
    rw [e]
    exact hq _ w
  | ref a => obtain ⟨ys, e, f1, f2, w⟩ := opt_of (show M.opt (M.sqOf S (.ref a)) (fun ys => M.fit M.dep S x = true ∧ M.fitL (M.fit M.dep S) ys = true ∧ P (!M.inB S x ys)) from w); exact seq ys e f1 f2 w
  | tup h1 h2 => obtain ⟨ys, e, f1, f2, w⟩ := opt_of (show M.opt (M.sqOf S (.tup _)) (fun ys => M.fit M.dep S x = true ∧ M.fitL (M.fit M.dep S) ys = true ∧ P (!M.inB S x ys)) from w); exact seq ys e f1 f2 w
  | fl h1 h2 => obtain ⟨ys, e, f1, f2, w⟩ := opt_of (show M.opt (M.sqOf S (.fl _)) (fun ys => M.fit M.dep S x = true ∧ M.fitL (M.fit M.dep S) ys = true ∧ P (!M.inB S x ys)) from w); exact seq ys e f1 f2 w
  | _ => exact False.elim w
theorem oc_all (hu : X.A.units + 64 < cLine) : ∀ {o : M.Co} {p : CmpOp} (h : coOk o p = true), OpR X (compareOp p) (rCm X.K o)
  | .eq, .Eq, _ => oc_eq hu
  | .ne, .NotEq, _ => oc_ne hu
  | .lt, .Lt, _ => oc_lt
  | .le, .LtE, _ => oc_le
  | .gt, .Gt, _ => oc_gt
  | .ge, .GtE, _ => oc_ge
  | .is_, .Is, _ => oc_is
  | .isn, .IsNot, _ => oc_isn
  | .in_, .In, _ => oc_in hu
  | .nin, .NotIn, _ => oc_nin hu
end
end Snd
namespace Snd
open PySem PySem.Spec PyProof.Rows L2
section
variable {prog : Program} {w : World} {A : Around} {E : Value → Shared → Prop} {s : Shared} {l : Addr} {its : List Value} {ns : List Int} {Q : Value → Shared → Prop}
theorem sumT_raw (hh : A.handled = none) (hl : s.heap.IsTuple l its.toArray) (hi : IntsAre its ns)
    (h : ∀ h' tk t', (∀ b o, s.heap.get? b = some o → h'.get? b = some o) → Q (.int ns.sum t') { s with heap := h', toks := tk }) : wpAny (model prog w) A (call (.builtin "sum") [.ref l]) Q E s := by
  obtain ⟨xs, e⟩ := hi.allInts.items
  have hn : numsOf (intItems xs).toList = ns := by rw [← e]; exact hi.numsOf
  rw [nums_intItems] at hn
  rw [e] at hl
  refine PySem.W.ktm_sumG hh hl fun h' tk t' hk => ?_
  have := h h' tk t' hk
  rw [preSum_eq, List.take_of_length_le (by simp), hn]; exact this
end
section
variable {X : Cx}
def rSumT (K : Frag) : List V → Hp → VK → Prop := fun vs H Q => ∃ (a : Addr) (ns : List Int), vs = [V.ref a] ∧ SqT K H a (ns.map V.int) ∧ Q (.int ns.sum) H
theorem cr_sumT (hc : X.calm = true) : CallR X (.builtin "sum") (rSumT X.K) := by
  intro pins s σ H vs us Q I r h
  obtain ⟨a, ns, rfl, hs, q⟩ := h
  obtain ⟨its, rv, hl, _⟩ := I.tuple hs
  rw [Vals.ref1 r]
  exact sumT_raw (I.ok.hd hc) hl rv.ints fun h' tk t' hk => ⟨.int _, H, I.kept hk, ⟨_, rfl⟩, q⟩
end
/-! ### subscripts -/
def rIxM (K : Frag) : R2 := fun v u H Q => ∃ x i S Qd, RelS K H S ∧ RelD K H x v ∧ RelD K H i u ∧ M.ixD x i S Qd ∧ OkV K S H Qd Q
theorem atI_rel {K : Frag} {H : Hp} {ds : List M.D} {vs : List V} {k : Int} {d : M.D} (h : RelDs K H ds vs) (e : M.atI ds k = some d) : ∃ v, L2.atI vs k = some v ∧ RelD K H d v := by
  unfold M.atI at e
  obtain ⟨j, e1, e2⟩ := Option.bind_eq_some_iff.mp e
  obtain ⟨v, h1, h2⟩ := h.get e2
  refine ⟨v, ?_, h2⟩
  unfold L2.atI
  rw [← h.length]
  exact Option.bind_eq_some_iff.mpr ⟨j, e1, h1⟩
section
variable {X : Cx}
theorem ix_all : IxR X (rIxM X.K) := by
  intro value slice pins s σ H v u vv uu Q I rv ru h hsl
  obtain ⟨x, i, S, Qd, r, rx, ri, w, hq⟩ := h
  have seq : ∀ k xs, u = .int k → M.sqOf S x = some xs → M.opt (M.atI xs k) (fun d => Qd d S) → wpAny (model X.prog X.w) X.A (subscriptTail value slice vv uu) (EP X pins σ Q) X.xe s := by
    intro k xs eu e w
    subst eu
    obtain ⟨d, ea, w⟩ := opt_of w
    obtain ⟨a, vs, rfl, hs, hd⟩ := sqOf_rel r rx e
    obtain ⟨z, hz, rz⟩ := atI_rel hd ea
    rcases hs with hs | hs
    · exact ix_list value slice pins s σ H _ _ vv uu Q I rv ru ⟨a, vs, k, z, rfl, rfl, hs, hz, hq.same r rz w⟩ hsl
    · exact ix_tup value slice pins s σ H _ _ vv uu Q I rv ru ⟨a, vs, k, z, rfl, rfl, hs, hz, hq.same r rz w⟩ hsl
  cases ri with
  | int k =>
    cases rx with
    | str a =>
      obtain ⟨hl, w⟩ := w
      obtain ⟨c, ea, w⟩ := opt_of w
      refine ix_str value slice pins s σ H _ _ vv uu Q I rv ru ⟨_, k, c, rfl, rfl, by rw [stx_len, ← lim_eq]; exact hl, ?_, hq.same r (.str [c]) w⟩ hsl
      rw [stx_cps]
      exact ea
    | tup h1 h2 => exact seq k _ rfl rfl w
    | fl h1 h2 => exact seq k _ rfl rfl w
    | ref a =>
      obtain ⟨xs, e, w⟩ := opt_of (show M.opt (M.sqOf S (.ref a)) (fun xs => M.opt (M.atI xs k) fun d => Qd d S) from w)
      exact seq k xs rfl e w
    | non => exact False.elim w
    | bl b => exact False.elim w
    | int j => exact False.elim w
  | _ => exact False.elim w
end
/-! ### slices -/
def rSlM (K : Frag) : V → Option Int → Option Int → Hp → VK → Prop := fun v lo hi H Q => ∃ x S Qd, RelS K H S ∧ RelD K H x v ∧ M.slD x lo hi S Qd ∧ OkV K S H Qd Q
theorem cut_rel {K : Frag} {H : Hp} {ds : List M.D} {vs : List V} (h : RelDs K H ds vs) (lo hi : Option Int) : RelDs K H (M.cut ds lo hi) (cutV vs lo hi) := by
  have e : M.cut ds lo hi = (ds.drop (HT.sIx vs.length 0 lo)).take (HT.sIx vs.length vs.length hi - HT.sIx vs.length 0 lo) := by
    rw [← h.length]
    rfl
  rw [e]
  exact (h.drop _).take _
theorem stx_cut (x : M.Tx) (lo hi : Option Int) : cutS (stx x) lo hi = stx (M.cut x lo hi) := by
  unfold cutS M.cut
  rw [stx_cps, stx_len]
  rfl
section
variable {X : Cx}
theorem sl_allM : SlR X (rSlM X.K) := by
  intro pins s σ H v vv vl vu lo hi sl Q I rv hs pl pu h
  obtain ⟨x, S, Qd, r, rx, w, hq⟩ := h
  cases rx with
  | str a =>
    obtain ⟨hl, w⟩ := w
    exact sl_str pins s σ H _ vv vl vu lo hi sl Q I rv hs pl pu ⟨_, rfl, by rw [stx_len, ← lim_eq]; exact hl, by rw [stx_cut]; exact hq.same r (.str _) w⟩
  | @tup a ds vs h1 h2 =>
    refine sl_tupA pins s σ H _ vv vl vu lo hi sl Q I rv hs pl pu ⟨a, vs, rfl, h1, fun e => ?_, fun _ => hq.newT r (cut_rel h2 lo hi) w⟩
    have e3 : M.cut ds lo hi = ds := by
      unfold M.cut
      have e1 : M.sIx ds.length 0 lo = 0 := by rw [h2.length]; exact e.1
      have e2 : M.sIx ds.length ds.length hi = ds.length := by rw [h2.length]; exact e.2
      rw [e1, e2]
      simp
    have w' : Qd (.tup (M.cut ds lo hi)) S := w
    rw [e3] at w'
    exact hq.same r (.tup h1 h2) w'
  | fl h1 h2 =>
    exact sl_list pins s σ H _ vv vl vu lo hi sl Q I rv hs pl pu ⟨_, _, rfl, h1.sq, hq.newL r (cut_rel h2 lo hi) w⟩
  | ref a =>
    obtain ⟨xs, e, w⟩ := opt_of (show M.opt (M.lsOf S (.ref a)) (fun xs => ∀ p, S p = none → Qd (.ref p) (M.upd S p (.lst (M.cut xs lo hi)))) from w)
    obtain ⟨vs, h1, h2⟩ := r.at e
    exact sl_list pins s σ H _ vv vl vu lo hi sl Q I rv hs pl pu ⟨_, _, rfl, SqL.of h1, hq.newL r (cut_rel h2 lo hi) w⟩
  | non => exact False.elim w
  | bl b => exact False.elim w
  | int i => exact False.elim w
end
/-! ### built-ins -/
def rBi (K : Frag) (b : M.Bi) : List V → Hp → VK → Prop := fun vs H Q => ∃ ds S Qd, RelS K H S ∧ RelDs K H ds vs ∧ M.biD b ds S Qd ∧ OkV K S H Qd Q
theorem ints_rel {K : Frag} {H : Hp} : ∀ {ds : List M.D} {vs : List V} {is : List Int}, RelDs K H ds vs → M.intsD ds = some is → vs = is.map V.int
  | [], _, is, .nil, e => by cases e; rfl
  | _ :: ds, _ :: vs, is, .cons a b, e => by
    cases a with
    | int i =>
      obtain ⟨js, e1, e2⟩ := Option.map_eq_some_iff.mp (show (M.intsD ds).map (i :: ·) = some is from e)
      subst e2
      rw [List.map_cons, ints_rel b e1]
    | _ => cases e
theorem bools_rel {K : Frag} {H : Hp} : ∀ {ds : List M.D} {vs : List V} {is : List Bool}, RelDs K H ds vs → M.bools ds = some is → vs = is.map V.bl
  | [], _, is, .nil, e => by cases e; rfl
  | _ :: ds, _ :: vs, is, .cons a b, e => by
    cases a with
    | bl i =>
      obtain ⟨js, e1, e2⟩ := Option.map_eq_some_iff.mp (show (M.bools ds).map (i :: ·) = some is from e)
      subst e2
      rw [List.map_cons, bools_rel b e1]
    | _ => cases e
theorem minL_ok : ∀ (r : List Int) (m : Int), (M.minL m r = m ∨ M.minL m r ∈ r) ∧ M.minL m r ≤ m ∧ ∀ y ∈ r, M.minL m r ≤ y
  | [], m => ⟨.inl rfl, Int.le_refl _, fun _ h => nomatch h⟩
  | i :: r, m => by
    show (M.minL (if i < m then i else m) r = m ∨ M.minL (if i < m then i else m) r ∈ i :: r) ∧ M.minL (if i < m then i else m) r ≤ m ∧ ∀ y ∈ i :: r, M.minL (if i < m then i else m) r ≤ y
    by_cases h : i < m
    · rw [if_pos h]
      obtain ⟨h1, h2, h3⟩ := minL_ok r i
      refine ⟨.inr ?_, by omega, fun y hy => ?_⟩
      · rcases h1 with h1 | h1
        · rw [h1]; exact List.mem_cons_self
        · exact List.mem_cons_of_mem _ h1
      · rcases List.mem_cons.mp hy with e | e
        · subst e; exact h2
        · exact h3 y e
    · rw [if_neg h]
      obtain ⟨h1, h2, h3⟩ := minL_ok r m
      refine ⟨?_, h2, fun y hy => ?_⟩
      · rcases h1 with h1 | h1
        · exact .inl h1
        · exact .inr (List.mem_cons_of_mem _ h1)
      · rcases List.mem_cons.mp hy with e | e
        · subst e; omega
        · exact h3 y e
theorem maxL_ok : ∀ (r : List Int) (m : Int), (M.maxL m r = m ∨ M.maxL m r ∈ r) ∧ m ≤ M.maxL m r ∧ ∀ y ∈ r, y ≤ M.maxL m r
  | [], m => ⟨.inl rfl, Int.le_refl _, fun _ h => nomatch h⟩
  | i :: r, m => by
    show (M.maxL (if m < i then i else m) r = m ∨ M.maxL (if m < i then i else m) r ∈ i :: r) ∧ m ≤ M.maxL (if m < i then i else m) r ∧ ∀ y ∈ i :: r, y ≤ M.maxL (if m < i then i else m) r
    by_cases h : m < i
    · rw [if_pos h]
      obtain ⟨h1, h2, h3⟩ := maxL_ok r i
      refine ⟨.inr ?_, by omega, fun y hy => ?_⟩
      · rcases h1 with h1 | h1
        · rw [h1]; exact List.mem_cons_self
        · exact List.mem_cons_of_mem _ h1
      · rcases List.mem_cons.mp hy with e | e
        · subst e; exact h2
        · exact h3 y e
    · rw [if_neg h]
      obtain ⟨h1, h2, h3⟩ := maxL_ok r m
      refine ⟨?_, h2, fun y hy => ?_⟩
      · rcases h1 with h1 | h1
        · exact .inl h1
        · exact .inr (List.mem_cons_of_mem _ h1)
      · rcases List.mem_cons.mp hy with e | e
        · subst e; omega
        · exact h3 y e
theorem stx_txI (i : Int) : Str.ofString (toString i) = stx (M.txI i) := by
  rw [Str.ofString_eq_toList]
  rfl
section
variable {X : Cx}
theorem arg1_of {ds : List M.D} {P : M.D → Prop} (h : M.arg1 ds P) : ∃ d, ds = [d] ∧ P d := by
  match ds, h with
  | [d], h => exact ⟨d, rfl, h⟩
theorem onCons_of {l : List Int} {P : Int → List Int → Prop} (h : M.onCons l P) : ∃ i r, l = i :: r ∧ P i r := by
  cases l with
  | cons i r => exact ⟨i, r, rfl, h⟩
  | nil => exact False.elim h
theorem rel1 {K : Frag} {H : Hp} {d : M.D} {vs : List V} (h : RelDs K H [d] vs) : ∃ v, vs = [v] ∧ RelD K H d v := by
  cases h with
  | cons a b => cases b; exact ⟨_, rfl, a⟩
theorem bi_len : CallR X (.builtin "len") (rBi X.K .len) := by
  intro pins s σ H vs us Q I rv h
  obtain ⟨ds, S, Qd, r, rd, w, hq⟩ := h
  obtain ⟨d, rfl, w⟩ := arg1_of w
  obtain ⟨v, rfl, rx⟩ := rel1 rd
  have seq : M.opt (M.sqOf S d) (fun xs => Qd (.int xs.length) S) → wpAny (model X.prog X.w) X.A (call (.builtin "len") us) (EP X pins σ Q) X.xe s := fun w => by
    obtain ⟨xs, e, w⟩ := opt_of w
    obtain ⟨a, ws, rfl, hs, hd⟩ := sqOf_rel r rx e
    exact call_len_seq pins s σ H _ us Q I rv ⟨a, ws, rfl, hs, by rw [← hd.length]; exact hq.same r (.int _) w⟩
  cases rx with
  | str a =>
    obtain ⟨hl, w⟩ := w
    exact call_len_str pins s σ H _ us Q I rv ⟨_, rfl, by rw [stx_len, ← lim_eq]; exact hl, by rw [stx_len]; exact hq.same r (.int _) w⟩
  | tup h1 h2 => exact seq w
  | fl h1 h2 => exact seq w
  | ref a => exact seq w
  | non => exact seq w
  | bl b => exact seq w
  | int i => exact seq w
theorem bi_abs : CallR X (.builtin "abs") (rBi X.K .abs) := by
  intro pins s σ H vs us Q I rv h
  obtain ⟨ds, S, Qd, r, rd, w, hq⟩ := h
  obtain ⟨d, rfl, w⟩ := arg1_of w
  obtain ⟨v, rfl, rx⟩ := rel1 rd
  obtain ⟨i, rfl, w⟩ := onI_of w
  cases rx
  exact call_abs pins s σ H _ us Q I rv ⟨i, rfl, hq.same r (.int _) w⟩
theorem bi_int : CallR X (.type "int") (rBi X.K .int) := by
  intro pins s σ H vs us Q I rv h
  obtain ⟨ds, S, Qd, r, rd, w, hq⟩ := h
  obtain ⟨d, rfl, w⟩ := arg1_of w
  obtain ⟨v, rfl, rx⟩ := rel1 rd
  cases rx with
  | int i => exact call_int1 pins s σ H _ us Q I rv (.inl ⟨i, rfl, hq.same r (.int _) w⟩)
  | bl b => exact call_int1 pins s σ H _ us Q I rv (.inr ⟨b, rfl, hq.same r (.int _) w⟩)
  | _ => exact False.elim w
theorem bi_min (hc : X.calm = true) : CallR X (.builtin "min") (rBi X.K .min) := by
  intro pins s σ H vs us Q I rv h
  obtain ⟨ds, S, Qd, r, rd, w, hq⟩ := h
  match ds, rd, w with
  | [], _, w => exact False.elim w
  | _ :: _ :: _ :: _, _, w => exact False.elim w
  | [d, e], .cons rx (.cons ry .nil), w =>
    obtain ⟨i, rfl, w⟩ := onI_of w
    obtain ⟨j, rfl, w⟩ := onI_of w
    cases rx
    cases ry
    exact call_min2 hc pins s σ H _ us Q I rv ⟨i, j, rfl, hq.same r (.int _) w⟩
  | [d], .cons rx .nil, w =>
    obtain ⟨xs, e, w⟩ := opt_of w
    obtain ⟨is, e2, w⟩ := opt_of w
    obtain ⟨i, js, rfl, w⟩ := onCons_of w
    obtain ⟨a, ws, rfl, hs, hd⟩ := lsOf_rel r rx e
    have e3 := ints_rel hd e2
    subst e3
    refine cr_min hc pins s σ H _ us Q I rv ⟨a, i :: js, rfl, hs, Nat.succ_pos _, fun m hm hle => ?_⟩
    obtain ⟨h1, h2, h3⟩ := minL_ok js i
    have em : m = M.minL i js := by
      refine Int.le_antisymm ?_ ?_
      · rcases h1 with h1 | h1
        · rw [h1]; exact hle i List.mem_cons_self
        · exact hle _ (List.mem_cons_of_mem _ h1)
      · rcases List.mem_cons.mp hm with e | e
        · rw [e]; exact h2
        · exact h3 m e
    rw [em]
    exact hq.same r (.int _) w
theorem bi_max (hc : X.calm = true) : CallR X (.builtin "max") (rBi X.K .max) := by
  intro pins s σ H vs us Q I rv h
  obtain ⟨ds, S, Qd, r, rd, w, hq⟩ := h
  match ds, rd, w with
  | [], _, w => exact False.elim w
  | _ :: _ :: _ :: _, _, w => exact False.elim w
  | [d, e], .cons rx (.cons ry .nil), w =>
    obtain ⟨i, rfl, w⟩ := onI_of w
    obtain ⟨j, rfl, w⟩ := onI_of w
    cases rx
    cases ry
    exact call_max2 hc pins s σ H _ us Q I rv ⟨i, j, rfl, hq.same r (.int _) w⟩
  | [d], .cons rx .nil, w =>
    obtain ⟨xs, e, w⟩ := opt_of w
    obtain ⟨is, e2, w⟩ := opt_of w
    obtain ⟨i, js, rfl, w⟩ := onCons_of w
    obtain ⟨a, ws, rfl, hs, hd⟩ := lsOf_rel r rx e
    have e3 := ints_rel hd e2
    subst e3
    refine cr_max hc pins s σ H _ us Q I rv ⟨a, i :: js, rfl, hs, Nat.succ_pos _, fun m hm hle => ?_⟩
    obtain ⟨h1, h2, h3⟩ := maxL_ok js i
    have em : m = M.maxL i js := by
      refine Int.le_antisymm ?_ ?_
      · rcases List.mem_cons.mp hm with e | e
        · rw [e]; exact h2
        · exact h3 m e
      · rcases h1 with h1 | h1
        · rw [h1]; exact hle i List.mem_cons_self
        · exact hle _ (List.mem_cons_of_mem _ h1)
    rw [em]
    exact hq.same r (.int _) w
theorem bi_all (hc : X.calm = true) : CallR X (.builtin "all") (rBi X.K .all) := by
  intro pins s σ H vs us Q I rv h
  obtain ⟨ds, S, Qd, r, rd, w, hq⟩ := h
  obtain ⟨d, rfl, w⟩ := arg1_of w
  obtain ⟨v, rfl, rx⟩ := rel1 rd
  obtain ⟨xs, e, w⟩ := opt_of w
  obtain ⟨is, e2, w⟩ := opt_of w
  obtain ⟨a, ws, rfl, hs, hd⟩ := lsOf_rel r rx e
  have e3 := bools_rel hd e2
  subst e3
  exact cr_all hc pins s σ H _ us Q I rv ⟨a, is, rfl, hs, hq.same r (.bl _) w⟩
theorem bi_any (hc : X.calm = true) : CallR X (.builtin "any") (rBi X.K .any) := by
  intro pins s σ H vs us Q I rv h
  obtain ⟨ds, S, Qd, r, rd, w, hq⟩ := h
  obtain ⟨d, rfl, w⟩ := arg1_of w
  obtain ⟨v, rfl, rx⟩ := rel1 rd
  obtain ⟨xs, e, w⟩ := opt_of w
  obtain ⟨is, e2, w⟩ := opt_of w
  obtain ⟨a, ws, rfl, hs, hd⟩ := lsOf_rel r rx e
  have e3 := bools_rel hd e2
  subst e3
  exact cr_any hc pins s σ H _ us Q I rv ⟨a, is, rfl, hs, hq.same r (.bl _) w⟩
theorem bi_sum (hc : X.calm = true) : CallR X (.builtin "sum") (rBi X.K .sum) := by
  intro pins s σ H vs us Q I rv h
  obtain ⟨ds, S, Qd, r, rd, w, hq⟩ := h
  obtain ⟨d, rfl, w⟩ := arg1_of w
  obtain ⟨v, rfl, rx⟩ := rel1 rd
  obtain ⟨xs, e, w⟩ := opt_of w
  obtain ⟨is, e2, w⟩ := opt_of w
  obtain ⟨a, ws, rfl, hs, hd⟩ := sqOf_rel r rx e
  have e3 := ints_rel hd e2
  subst e3
  rcases hs with hs | hs
  · exact cr_sum hc pins s σ H _ us Q I rv ⟨a, is, rfl, hs, hq.same r (.int _) w⟩
  · exact cr_sumT hc pins s σ H _ us Q I rv ⟨a, is, rfl, hs, hq.same r (.int _) w⟩
theorem bi_list : CallR X (.type "list") (rBi X.K .list) := by
  intro pins s σ H vs us Q I rv h
  obtain ⟨ds, S, Qd, r, rd, w, hq⟩ := h
  obtain ⟨d, rfl, w⟩ := arg1_of w
  obtain ⟨v, rfl, rx⟩ := rel1 rd
  obtain ⟨xs, e, w⟩ := opt_of w
  obtain ⟨a, ws, rfl, hs, hd⟩ := sqOf_rel r rx e
  exact call_list_of pins s σ H _ us Q I rv ⟨a, ws, rfl, hs, hq.newL r hd w⟩
theorem bi_tuple : CallR X (.type "tuple") (rBi X.K .tuple) := by
  intro pins s σ H vs us Q I rv h
  obtain ⟨ds, S, Qd, r, rd, w, hq⟩ := h
  obtain ⟨d, rfl, w⟩ := arg1_of w
  obtain ⟨v, rfl, rx⟩ := rel1 rd
  obtain ⟨xs, e, w⟩ := opt_of w
  obtain ⟨a, ws, rfl, hs, hd⟩ := sqOf_rel r rx e
  rcases hs with hs | hs
  · exact call_tuple_of pins s σ H _ us Q I rv ⟨a, ws, rfl, .inl ⟨hs, hq.newT r hd w⟩⟩
  · exact call_tuple_of pins s σ H _ us Q I rv ⟨a, ws, rfl, .inr ⟨hs, hq.same r (.tup hs hd) w⟩⟩
theorem bi_str : CallR X (.type "str") (rBi X.K .str) := by
  intro pins s σ H vs us Q I rv h
  obtain ⟨ds, S, Qd, r, rd, w, hq⟩ := h
  obtain ⟨d, rfl, w⟩ := arg1_of w
  obtain ⟨v, rfl, rx⟩ := rel1 rd
  obtain ⟨i, rfl, w⟩ := onI_of w
  cases rx
  refine call_str_int pins s σ H _ us Q I rv ⟨i, rfl, w.1, ?_⟩
  have e : Str.ofString (toString i) = stx (M.txI i) := stx_txI i
  show Q (.str (Str.ofString (toString i))) H
  rw [e]
  exact hq.same r (.str _) w.2
/-! ### methods -/
def rMt (K : Frag) (m : M.Mt) : V → List V → Hp → VK → Prop := fun v vs H Q => ∃ x ds S Qd, RelS K H S ∧ RelD K H x v ∧ RelDs K H ds vs ∧ M.mtD m x ds S Qd ∧ OkV K S H Qd Q
/-- a list of the store was written: what is wanted -/
theorem OkV.wrote {K : Frag} {S : M.Sto} {H : Hp} {Qd : M.VK} {Q : VK} (h : OkV K S H Qd Q) (r : RelS K H S) {a : Nat} {xs ds : List M.D} {vs : List V} (e : M.lstAt S a = some xs) (rd : RelDs K H ds vs) {d : M.D} {v : V} (rx : RelD K H d v)
    (q : Qd d (M.upd S a (.lst ds))) : Q v (L2.upd H a (.lst vs)) :=
  have f : Fr S H (M.upd S a (.lst ds)) (L2.upd H a (.lst vs)) := Fr.wr (lstAt_some e)
  h _ _ _ _ f (r.wr (lstAt_some e) rd) (rx.mono r f) q
theorem mt_appendM : MtM X "list.append" (rMt X.K .append) := by
  intro pins s σ H v vs vv us Q I rv rvs h
  obtain ⟨x, ds, S, Qd, r, rx, rd, w, hq⟩ := h
  obtain ⟨a, rfl, w⟩ := onR_of w
  obtain ⟨d, rfl, w⟩ := arg1_of w
  obtain ⟨y, rfl, ry⟩ := rel1 rd
  obtain ⟨xs, e, hl, w⟩ := opt_of w
  obtain ⟨ws, h1, h2⟩ := r.at e
  cases rx
  exact mt_append pins s σ H _ _ vv us Q I rv rvs ⟨a, ws, y, rfl, rfl, h1, by rw [← h2.length, ← lim_eq]; exact hl, hq.wrote r e (h2.append (.cons ry .nil)) .non w⟩
theorem mt_extendM : MtM X "list.extend" (rMt X.K .extend) := by
  intro pins s σ H v vs vv us Q I rv rvs h
  obtain ⟨x, ds, S, Qd, r, rx, rd, w, hq⟩ := h
  obtain ⟨a, rfl, w⟩ := onR_of w
  obtain ⟨d, rfl, w⟩ := arg1_of w
  obtain ⟨y, rfl, ry⟩ := rel1 rd
  obtain ⟨b, rfl, w⟩ := onR_of w
  obtain ⟨xs, e, w⟩ := opt_of w
  obtain ⟨ys, e2, hl, w⟩ := opt_of w
  obtain ⟨ws, h1, h2⟩ := r.at e
  obtain ⟨zs, h3, h4⟩ := r.at e2
  cases rx
  cases ry
  exact mt_extend pins s σ H _ _ vv us Q I rv rvs ⟨a, b, ws, zs, rfl, rfl, h1, h3, by rw [← h2.length, ← h4.length, ← lim_eq]; exact hl, hq.wrote r e (h2.append h4) .non w⟩
theorem mt_popM : MtM X "list.pop" (rMt X.K .pop) := by
  intro pins s σ H v vs vv us Q I rv rvs h
  obtain ⟨x, ds, S, Qd, r, rx, rd, w, hq⟩ := h
  obtain ⟨a, rfl, w⟩ := onR_of w
  match ds, rd, w with
  | [], .nil, w =>
    obtain ⟨xs, e, w⟩ := opt_of w
    obtain ⟨d, e2, w⟩ := opt_of w
    obtain ⟨ws, h1, h2⟩ := r.at e
    obtain ⟨y, h3, h4⟩ := h2.get e2
    cases rx
    exact mt_pop pins s σ H _ _ vv us Q I rv rvs ⟨a, ws, y, rfl, rfl, h1, by rw [← h2.length]; exact h3, hq.wrote r e h2.dropLast h4 w⟩
  | _ :: _, _, w => exact False.elim w
/-! ### o[i] = v -/
def tSx (K : Frag) : V → V → V → Hp → (Hp → Prop) → Prop := fun o i v H Q => ∃ x y z S Qs, RelS K H S ∧ RelD K H x o ∧ RelD K H y i ∧ RelD K H z v ∧ M.sixD x y z S Qs ∧ ∀ S' H', Fr S H S' H' → RelS K H' S' → Qs S' → Q H'
theorem set_listM : PSet X (tSx X.K) := by
  intro pins s σ H o i v ov iv u Q I ro ri rv h
  obtain ⟨x, y, z, S, Qs, r, rx, ry, rz, w, hq⟩ := h
  obtain ⟨a, rfl, w⟩ := onR_of w
  obtain ⟨k, rfl, w⟩ := onI_of w
  obtain ⟨xs, e, w⟩ := opt_of w
  obtain ⟨j, e2, w⟩ := opt_of w
  obtain ⟨ws, h1, h2⟩ := r.at e
  cases rx
  cases ry
  refine set_list pins s σ H _ _ _ ov iv u Q I ro ri rv ⟨a, ws, k, j, rfl, rfl, h1, by rw [← h2.length]; exact e2, ?_⟩
  exact hq _ _ (Fr.wr (lstAt_some e)) (r.wr (lstAt_some e) (h2.set j rz)) w
end
end Snd
namespace Snd
open PySem PySem.Spec PyProof.Rows L2
/-! ### isinstance -/
def tyN : M.Ty → String
  | .int => "int" | .bool => "bool" | .tuple => "tuple" | .list => "list" | .str => "str"
def tyS : M.Ty → Str
  | .int => "int" | .bool => "bool" | .tuple => "tuple" | .list => "list" | .str => "str"
theorem tyB (t : M.Ty) : bootBuiltins (tyS t) = some (.type (tyN t)) := by cases t <;> decide +kernel
theorem ky_none (t : M.Ty) : kitB "NoneType" (tyN t) = some false := by cases t <;> decide +kernel
theorem ky_bool (t : M.Ty) : kitB "bool" (tyN t) = some (decide (t = .bool) || decide (t = .int)) := by cases t <;> decide +kernel
theorem ky_int (t : M.Ty) : kitB "int" (tyN t) = some (decide (t = .int)) := by cases t <;> decide +kernel
theorem ky_str (t : M.Ty) : kitB "str" (tyN t) = some (decide (t = .str)) := by cases t <;> decide +kernel
theorem ky_tup (t : M.Ty) : kitB "tuple" (tyN t) = some (decide (t = .tuple)) := by cases t <;> decide +kernel
theorem ky_lst (t : M.Ty) : kitB "list" (tyN t) = some (decide (t = .list)) := by cases t <;> decide +kernel
theorem ky_dic (t : M.Ty) : kitB "dict" (tyN t) = some false := by cases t <;> decide +kernel
theorem isTy_all {K : Frag} {H : Hp} {S : M.Sto} (r : RelS K H S) {d : M.D} {v : V} (rd : RelD K H d v) {t0 : M.Ty} {b0 : Bool} (e0 : M.isTy S d t0 = some b0) :
    ∃ n, TyX K H v (.type n) ∧ ∀ t b, M.isTy S d t = some b → kitB n (tyN t) = some b := by
  cases rd with
  | non => exact ⟨_, .base .non, fun t b e => by cases e; exact ky_none t⟩
  | bl x => exact ⟨_, .base (.bl x), fun t b e => by cases e; exact ky_bool t⟩
  | int x => exact ⟨_, .base (.int x), fun t b e => by cases e; exact ky_int t⟩
  | str x => exact ⟨_, .base (.str _), fun t b e => by cases e; exact ky_str t⟩
  | tup h1 h2 =>
    refine ⟨"tuple", ?_, fun t b e => by cases e; exact ky_tup t⟩
    rcases h1 with (h | ⟨o, h⟩) | ⟨o, its, n, hk, hc, _⟩
    · exact .base (.tup h)
    · exact .fTuple h
    · exact .kTuple hk hc
  | fl h1 h2 =>
    refine ⟨"list", ?_, fun t b e => by cases e; exact ky_lst t⟩
    rcases h1 with ⟨o, h⟩ | ⟨o, its, n, hk, hc, _⟩
    · exact .base (.frz h)
    · exact .kList hk hc
  | ref a =>
    have e' : M.tyO (S a) t0 = some b0 := e0
    cases q : S a with
    | none => rw [q] at e'; cases e'
    | some o =>
      cases o with
      | lst ds =>
        obtain ⟨vs, h1, _⟩ := r a _ q
        refine ⟨_, .base (.lst h1), fun t b e => ?_⟩
        have e : M.tyO (S a) t = some b := e
        rw [q] at e
        cases e
        exact ky_lst t
      | dic =>
        refine ⟨_, .base (.dK (r a _ q)), fun t b e => ?_⟩
        have e : M.tyO (S a) t = some b := e
        rw [q] at e
        cases e
        exact ky_dic t
theorem isTy_rel {K : Frag} {H : Hp} {S : M.Sto} (r : RelS K H S) {d : M.D} {v : V} (rd : RelD K H d v) {t : M.Ty} {b : Bool} (e : M.isTy S d t = some b) :
    ∃ n, TyX K H v (.type n) ∧ kitB n (tyN t) = some b := by
  obtain ⟨n, h1, h2⟩ := isTy_all r rd e
  exact ⟨n, h1, h2 t b e⟩
/-! ### [::-1] -/
section
variable {X : Cx}
theorem places_rev (n : Nat) : Builtin.Slice.slicePlaces ((n : Int) - 1) (-1) (-1) = n := by
  unfold Builtin.Slice.slicePlaces
  have h1 : ¬ ((-1 : Int) > 0) := by decide
  simp only [h1, if_false]
  have e : (-(-1 : Int)) = 1 := by decide
  rw [e, Int.ediv_one]
  split <;> omega
theorem sliceApplied_rev {prog : Program} {w : World} {A : Around} {E : Value → Shared → Prop} {s : Shared} {sl : Addr} {vl vu vs : Value} {n : Nat} {Q : Int × Int × Nat → Shared → Prop} (hs : s.heap.IsSliceOf sl vl vu vs) (pl : IsPart vl none) (pu : IsPart vu none) (ps : IsPart vs (some (-1)))
    (h : Q ((n : Int) - 1, -1, n) s) : wpAny (model prog w) A (Builtin.Slice.sliceApplied (.ref sl) (pure (n : Int))) Q E s := by
  obtain ⟨os, hos, hcs, hds⟩ := id hs
  unfold Builtin.Slice.sliceApplied Builtin.Slice.sliceFields
  refine wpAny_bind (wpAny_bind (wpAny_field hos hds (x := vl) rfl (wpAny_bind (wpAny_field hos hds (x := vu) rfl (wpAny_bind (wpAny_field hos hds (x := vs) rfl (wpAny_pure ?_)))))))
  refine wpAny_bind (HT.slicePart_ ps ?_)
  show wpAny _ _ (if ((-1 : Int) == 0) = true then _ else _) _ _ s
  rw [if_neg (by decide)]
  refine wpAny_bind (HT.slicePart_ pl (wpAny_bind (HT.slicePart_ pu (wpAny_bind (wpAny_pure ?_)))))
  show wpAny _ _ (pure ((n : Int) - 1, (-1 : Int), Builtin.Slice.slicePlaces ((n : Int) - 1) (-1) (-1))) _ _ s
  rw [places_rev]
  exact wpAny_pure h
theorem fm_congr {α β : Type} {f g : α → Option β} : ∀ {l : List α}, (∀ x ∈ l, f x = g x) → l.filterMap f = l.filterMap g
  | [], _ => rfl
  | x :: l, h => by
    rw [List.filterMap_cons, List.filterMap_cons, h x List.mem_cons_self, fm_congr fun y hy => h y (List.mem_cons_of_mem _ hy)]
theorem pick_rev (its : List Value) : ((List.range its.length).filterMap fun (k : Nat) => its.toArray[(((its.length : Int) - 1) + (k : Int) * -1).toNat]?).toArray = its.reverse.toArray := by
  have e : (List.range its.length).filterMap (fun (k : Nat) => its.toArray[(((its.length : Int) - 1) + (k : Int) * -1).toNat]?) = ((List.range its.length).map fun k => its.length - 1 - k).filterMap (fun j => its.toArray[j]?) := by
    rw [List.filterMap_map]
    refine fm_congr fun k hk => ?_
    have := List.mem_range.mp hk
    have e : (((its.length : Int) - 1) + (k : Int) * -1).toNat = its.length - 1 - k := by omega
    show its.toArray[(((its.length : Int) - 1) + (k : Int) * -1).toNat]? = its.toArray[its.length - 1 - k]?
    rw [e]
  have a := PySem.W.krv_all its.toArray
  rw [e, PySem.W.krv_range, List.filterMap_reverse]
  simp only [List.size_toArray] at a
  rw [a]
theorem getItem_tuple_rev {prog : Program} {w : World} {A : Around} {E : Value → Shared → Prop} {s : Shared} {t sl : Addr} {its : List Value} {vl vu vs : Value} {Q : Value → Shared → Prop} (ht : IsTup s.heap t its.toArray) (hs : s.heap.IsSliceOf sl vl vu vs) (pl : IsPart vl none) (pu : IsPart vu none) (ps : IsPart vs (some (-1)))
    (hz : its.length ≤ sizeLine) (h : Q (.ref s.heap.objs.size) { s with heap := s.heap.push { cls := .type "tuple", data := .seq its.reverse.toArray } }) :
    wpAny (model prog w) A (getItem (.ref t) (.ref sl)) Q E s := by
  obtain ⟨os, hos, hcs, hds⟩ := id hs
  have hTs : s.TypeIs (.ref sl) "slice" := ⟨os, hos, hcs⟩
  unfold getItem
  try with_reducible refine wpAny_holding ?_
  first | refine wpAny_bind (wpAny_pure ?_) | skip
  refine wpAny_bind (wpAny_sequenceKey ht.typeIs (by decide) ?_)
  refine wpAny_bind (wpAny_callSpecial?_slot (name := Str.ofString "__getitem__") ht.typeIs PyProof.Rows.slot_tuple_getitem
    (wpAny_call_entry PyProof.Rows.slot_tuple_getitem ht.typeIs entry_tuple_getitem ?_ (args_tuple_getitem _ _)))
  show wpAny _ _ (Builtin.Tuple.tupleItemsOf (.ref t) >>= _) _ _ s
  refine wpAny_bind (tupleItemsOf_ ht ?_)
  refine wpAny_bind (wpAny_typeOf hTs ?_)
  rw [if_pos (by decide)]
  refine wpAny_bind (sliceApplied_rev hs pl pu ps ?_)
  have hno : ¬ ((((its.toArray.size : Int) - 1) == 0 && (-1 : Int) == 1 && its.toArray.size == its.toArray.size) = true) := by
    rw [show ((-1 : Int) == 1) = false by decide]
    simp
  show wpAny _ _ (if (((its.toArray.size : Int) - 1) == 0 && (-1 : Int) == 1 && its.toArray.size == its.toArray.size) = true then _ else _) _ _ s
  rw [if_neg hno]
  have e := pick_rev its
  have e2 : its.toArray.size = its.length := List.size_toArray
  rw [e2, e]
  have hsz : sizeOk (.seq its.reverse.toArray) := by
    show its.reverse.toArray.size ≤ sizeLine
    rw [List.size_toArray, List.length_reverse]
    exact hz
  first
    | exact wpAny_bind (m := Builtin.Tuple.tupleExact _) (wpAny_newObj_type (wpAny_pure ⟨_, rfl, wpAny_pure h⟩) hsz)
    | exact wpAny_bind (m := Builtin.Tuple.tupleExact _) (wpAny_newObj_type (wpAny_bind (wpAny_pure (wpAny_pure ⟨_, rfl, wpAny_pure h⟩))) hsz)
    | exact wpAny_bind (wpAny_bind (m := Builtin.Tuple.tupleExact _) (wpAny_newObj_type (wpAny_pure (wpAny_pure ⟨_, rfl, wpAny_pure h⟩)) hsz))
    | exact wpAny_bind (wpAny_bind (m := Builtin.Tuple.tupleExact _) (wpAny_newObj_type (wpAny_pure ⟨_, rfl, wpAny_pure h⟩) hsz))
def rRv (K : Frag) : V → Hp → VK → Prop := fun v H Q => ∃ x S Qd, RelS K H S ∧ RelD K H x v ∧ M.revD x S Qd ∧ OkV K S H Qd Q
theorem pe_revM {e : Expr} {te : TE} {k : Nat} {p1 p2 p3 pos : Pos} (he : PE X e te) : PE X (.Subscript e (.Slice none none (some (.UnaryOp .USub (.Constant (.int 1) k p1) p2)) p3) pos) (fun σ H Q => te σ H fun v H1 => rRv X.K v H1 Q) := by
  refine ⟨fun pins s σ H Q I h => ?_⟩
  refine Subscript_ (thn (he.run pins s σ H _ I h) fun v s1 ⟨x, H1, I1, r1, q1⟩ => ?_)
  obtain ⟨d, S, Qd, r, rd, w, hq⟩ := q1
  have hst : PO X (some (.UnaryOp .USub (.Constant (.int 1) k p1) p2)) (tPart (tUn (rU fun i => .int (-i)) (tC (.int 1)))) := po_some (pe_un un_neg pe_int)
  refine wpAny_Slice (thn (po_none.run pins s1 σ H1 (fun o H2 => o = none ∧ H2 = H1) I1 ⟨rfl, rfl⟩) fun vl s2 ⟨l, H2, I2, pl, el, e2⟩ => ?_)
  subst el e2
  refine thn (po_none.run pins s2 σ H2 (fun o H3 => o = none ∧ H3 = H2) I2 ⟨rfl, rfl⟩) fun vu s3 ⟨u, H3, I3, pu, eu, e3⟩ => ?_
  subst eu e3
  refine thn (hst.run pins s3 σ H3 (fun o H4 => o = some (-1) ∧ H4 = H3) I3 ⟨1, rfl, -1, rfl, rfl, rfl⟩) fun vs s4 ⟨o, H4, I4, ps, eo, e4⟩ => ?_
  subst eo e4
  have I5 : Inv X pins σ H4 { s4 with heap := s4.heap.push { cls := .type "slice", data := .fields #[vl, vu, vs] } } := I4.kept (t' := s4.toks) fun b ob q => Heap.get?_push_of_some _ q
  have lst : ∀ a ws xs, x = .ref a → SqL X.K H4 a ws → RelDs X.K H4 xs ws → (∀ p, S p = none → Qd (.ref p) (M.upd S p (.lst xs.reverse))) → wpAny (model X.prog X.w) X.A (subscriptTail e (.Slice none none (some (.UnaryOp .USub (.Constant (.int 1) k p1) p2)) p3) v (.ref s4.heap.objs.size)) (EP X pins σ Q) X.xe { s4 with heap := s4.heap.push { cls := .type "slice", data := .fields #[vl, vu, vs] } } := by
    intro a ws xs ex hx hd w
    subst ex
    cases r1
    obtain ⟨its, rr, ht, hz⟩ := I5.list hx
    have hlen := rr.length
    refine tail_any (ops := [.ref a, .ref s4.heap.objs.size]) ht.isList.typeIs (PySem.slot_list_getitem.lookup) ?_ (by with_unfolding_all rfl)
    refine wpAny_getItem_list_slice ht.isList (Heap.IsSliceOf.new _ vl vu vs) pl pu ps (by decide) ?_ (by rw [List.size_toArray]; omega)
    rw [PySem.W.krv_pick]
    refine ⟨.ref _, _, I5.laid (t' := s4.toks) (o := .lst ws.reverse) (fun b ob q => Heap.get?_push_of_some _ q) (Nat.le_refl _) ?_, rfl, hq.newL r hd.reverse w _ (I5.hok.fresh (Nat.le_refl _))⟩
    exact ⟨by rw [List.length_reverse]; exact hz, _, 0, rr.reverse, Heap.get?_push_size _ rfl⟩
  show wpAny (model X.prog X.w) X.A (subscriptTail e (.Slice none none (some (.UnaryOp .USub (.Constant (.int 1) k p1) p2)) p3) v (.ref s4.heap.objs.size)) (EP X pins σ Q) X.xe { s4 with heap := s4.heap.push { cls := .type "slice", data := .fields #[vl, vu, vs] } }
  cases rd with
  | @tup a ds ws h1 h2 =>
    cases r1
    obtain ⟨its, rr, ht, hz⟩ := I5.tuple h1
    have hlen := rr.length
    refine tail_any (ops := [.ref a, .ref s4.heap.objs.size]) ht.typeIs (PyProof.Rows.slot_tuple_getitem.lookup) ?_ (by with_unfolding_all rfl)
    refine getItem_tuple_rev ht (Heap.IsSliceOf.new _ vl vu vs) pl pu ps (by omega) ?_
    refine ⟨.ref _, _, I5.laid (t' := s4.toks) (o := .tup ws.reverse) (fun b ob q => Heap.get?_push_of_some _ q) (Nat.le_refl _) ?_, rfl, hq.newT r h2.reverse w _ (I5.hok.fresh (Nat.le_refl _))⟩
    exact ⟨by rw [List.length_reverse]; exact hz, _, rr.reverse, IsTup.new _ _⟩
  | fl h1 h2 => exact lst _ _ _ rfl h1.sq h2 w
  | ref a =>
    obtain ⟨xs, e, w⟩ := opt_of (show M.opt (M.lsOf S (.ref a)) (fun xs => ∀ p, S p = none → Qd (.ref p) (M.upd S p (.lst xs.reverse))) from w)
    obtain ⟨ws, h1, h2⟩ := r.at e
    exact lst a ws xs rfl (SqL.of h1) h2 w
  | non => exact False.elim w
  | bl b => exact False.elim w
  | int i => exact False.elim w
  | str x => exact False.elim w
/-! ### a starred item of a display -/
theorem star_sq {pins : List (Addr × Obj)} {s : Shared} {σ : Sl} {H : Hp} {a : Addr} {vs : List V} {Q : List Value → Shared → Prop} (I : Inv X pins σ H s) (h : SqL X.K H a vs ∨ SqT X.K H a vs) (hq : ∀ us s', Inv X pins σ H s' → Vals vs us → Q us s') :
    PySem.W.StarOf (model X.prog X.w) X.A X.xe (.ref a) Q s := by
  have go : ∀ {T : String} {o : Obj} {its : List Value} {n : Nat}, (T = "list" ∨ T = "tuple") → s.heap.get? a = some o → o.cls = .type T → o.data = .seq its.toArray n → its.length ≤ sizeLine → Vals vs its → PySem.W.StarOf (model X.prog X.w) X.A X.xe (.ref a) Q s := by
    intro T o its n hT ho hc hd hz rv
    have hT' : s.TypeIs (.ref a) T := ⟨o, ho, hc⟩
    have z : wpAny (model X.prog X.w) X.A (collect (.ref a)) Q X.xe s :=
      wpAny_collect_seq a hT ho hc hd (fun h' hk => hq _ _ (I.kept (t' := s.toks) hk) (by simpa using rv)) (by simpa using hz)
    unfold PySem.W.StarOf notIterableAtAll
    rcases hT with rfl | rfl
    · exact wpAny_bind (wpAny_specialOf hT' PySem.F.slot_list_iter.lookup (wpAny_pure ⟨rfl, z⟩))
    · exact wpAny_bind (wpAny_specialOf hT' PySem.F.slot_tuple_iter.lookup (wpAny_pure ⟨rfl, z⟩))
  rcases h with h | h
  · obtain ⟨its, rv, ⟨o, n, ho, hc, _, hd⟩, hz⟩ := I.list h
    exact go (.inl rfl) ho hc hd (by rw [← rv.length]; exact hz) rv
  · obtain ⟨its, rv, ⟨o, ho, hc, n, hd⟩, hz⟩ := I.tuple h
    exact go (.inr rfl) ho hc hd (by rw [← rv.length]; exact hz) rv
theorem pa_star {e : Expr} {es : List Expr} {te : TE} {t : TA} {p : Pos} {r : V → Hp → (List V → Hp → Prop) → Prop}
    (hr : ∀ v H Q, r v H Q → ∃ a vs, v = .ref a ∧ (SqL X.K H a vs ∨ SqT X.K H a vs) ∧ Q vs H) (ha : PE X e te) (ht : PA X es t) :
    PA X (.Starred e p :: es) (fun σ H Q => te σ H fun v H1 => r v H1 fun xs H2 => t σ H2 fun ys H3 => Q (xs ++ ys) H3) := by
  refine ⟨fun pos pins s σ H Q I h => ?_⟩
  refine PySem.W.items_star (thn (ha.run pins s σ H _ I h) fun v s1 ⟨x, H1, I1, r1, q1⟩ => ?_)
  obtain ⟨a, vs, rfl, hs, q⟩ := hr _ _ _ q1
  cases r1
  refine star_sq I1 hs fun us s2 I2 rv => ?_
  exact thn (ht.run pos pins s2 σ H1 _ I2 q) fun ws s3 ⟨ys, H3, I3, rw', q3⟩ => ⟨_, H3, I3, rv.append rw', q3⟩
end
end Snd
namespace Snd
open PySem PySem.Spec PyProof.Rows L2
/-! ### repr -/
mutual
def pyOf : M.P → PyData
  | .non => .none
  | .bl b => .bool b
  | .int i => .int i
  | .str x => .str (stx x)
  | .tup xs => .tuple (pyOfL xs)
  | .lst xs => .list (pyOfL xs)
  | .dic => .dict []
def pyOfL : List M.P → List PyData
  | [] => []
  | x :: r => pyOf x :: pyOfL r
end
def rpF (p : M.P) : M.Tx := (pyOf p).shown.cps.toList
theorem stx_rpF (p : M.P) : stx (rpF p) = (pyOf p).shown := by
  unfold stx rpF
  rw [Array.toArray_toList]
section
variable {X : Cx} {pins : List (Addr × Obj)} {σ : Sl} {H : Hp} {s : Shared} {S : M.Sto}
theorem reads_all {f : M.D → M.P} {ok : M.D → Prop} (h : ∀ d v u, ok d → RelD X.K H d v → RelV v u → ∃ as, Reads s.heap u (pyOf (f d)) as) : ∀ {xs : List M.D} {vs : List V} {us : List Value}, (∀ y ∈ xs, ok y) → RelDs X.K H xs vs → Vals vs us → ∃ as, ReadsAll s.heap us (pyOfL (xs.map f)) as
  | [], _, _, _, .nil, .nil => ⟨_, .nil⟩
  | x :: xs, _, _, o, .cons a b, .cons c d => by
    obtain ⟨as, q1⟩ := h x _ _ (o x List.mem_cons_self) a c
    obtain ⟨bs, q2⟩ := reads_all h (fun y hy => o y (List.mem_cons_of_mem _ hy)) b d
    exact ⟨_, .cons q1 q2⟩
theorem reads_fit (I : Inv X pins σ H s) (r : RelS X.K H S) : ∀ (n : Nat) (d : M.D) (v : V) (u : Value), M.fitR n S d → RelD X.K H d v → RelV v u → ∃ as, Reads s.heap u (pyOf (M.toQ n S d)) as
  | 0, _, _, _, h, _, _ => False.elim h
  | n + 1, d, v, u, h, rd, rv => by
    have ih := reads_fit I r n
    unfold M.fitR at h
    unfold M.toQ
    cases rd with
    | non => cases rv; exact ⟨_, .none⟩
    | bl b => cases rv; exact ⟨_, .bool b⟩
    | int i => obtain ⟨t, rfl⟩ := rv; exact ⟨_, .int i t⟩
    | str x => obtain ⟨t, rfl⟩ := rv; exact ⟨_, .str _ t⟩
    | tup hs hd =>
      cases rv
      obtain ⟨its, rr, ⟨o, ho, hc, m, hdat⟩, _⟩ := I.tuple hs
      obtain ⟨as, q⟩ := reads_all ih h hd rr
      exact ⟨_, .tuple ho hc hdat q⟩
    | fl hs hd =>
      cases rv
      obtain ⟨its, rr, ⟨o, m, ho, hc, _, hdat⟩, _⟩ := I.list hs.sq
      obtain ⟨as, q⟩ := reads_all ih h hd rr
      exact ⟨_, .list ho hc hdat q⟩
    | ref a =>
      cases rv
      obtain ⟨xs, e, h⟩ := opt_of h
      obtain ⟨vs, h1, h2⟩ := r.at e
      obtain ⟨its, rr, ⟨o, m, ho, hc, _, hdat⟩, _⟩ := I.list (SqL.of h1)
      obtain ⟨as, q⟩ := reads_all ih h h2 rr
      simp only [lstAt_some e]
      exact ⟨_, .list ho hc hdat q⟩
end
/-- what is needed of a readable value -/
structure Shw (p : M.P) (n z : Nat) : Prop where
  nd : (pyOf p).hasDict = false
  sh : (pyOf p).showable = true
  dp : (pyOf p).depth ≤ n
  ln : (pyOf p).shown.length ≤ z
theorem shw_all {f : M.D → M.P} {g : M.D → Nat} {n : Nat} {ok : M.D → Prop} (h : ∀ d, ok d → Shw (f d) n (g d)) : ∀ {xs : List M.D}, (∀ y ∈ xs, ok y) →
    PyData.hasDictAll (pyOfL (xs.map f)) = false ∧ PyData.showableAll (pyOfL (xs.map f)) = true ∧ PyData.depthAll (pyOfL (xs.map f)) ≤ n ∧ ((PyData.shownAll (pyOfL (xs.map f))).map (·.length)).sum + 2 * (PyData.shownAll (pyOfL (xs.map f))).length ≤ M.sumN (xs.map fun y => g y + 2)
  | [], _ => by simp [pyOfL, PyData.hasDictAll, PyData.showableAll, PyData.depthAll, PyData.shownAll, M.sumN]
  | x :: xs, o => by
    obtain ⟨a1, a2, a3, a4⟩ := shw_all h (xs := xs) fun y hy => o y (List.mem_cons_of_mem _ hy)
    obtain ⟨b1, b2, b3, b4⟩ := h x (o x List.mem_cons_self)
    simp only [List.map_cons, pyOfL, PyData.hasDictAll, PyData.showableAll, PyData.depthAll, PyData.shownAll, M.sumN, a1, a2, b1, b2, List.sum_cons, List.length_cons]
    refine ⟨rfl, rfl, Nat.max_le.mpr ⟨b3, a3⟩, by omega⟩
theorem shw_fit : ∀ (n : Nat) (S : M.Sto) (d : M.D), M.fitR n S d → Shw (M.toQ n S d) n (M.szR n S d)
  | 0, _, _, h => False.elim h
  | n + 1, S, d, h => by
    have ih := fun d => shw_fit n S d
    unfold M.fitR at h
    unfold M.toQ M.szR
    cases d with
    | non => exact ⟨by simp [pyOf, PyData.hasDict], by simp [pyOf, PyData.showable], by simp [pyOf, PyData.depth], by simp only [pyOf]; exact (show (PyData.shown .none).length ≤ 4 by decide +kernel)⟩
    | bl b => exact ⟨by simp [pyOf, PyData.hasDict], by simp [pyOf, PyData.showable], by simp [pyOf, PyData.depth], by simp only [pyOf]; cases b <;> decide +kernel⟩
    | int i =>
      have hl : i.natAbs.log2 < 1900 := log_lt (by decide) h
      refine ⟨by simp [pyOf, PyData.hasDict], by simp only [pyOf, PyData.showable]; exact decide_eq_true (by omega), by simp [pyOf, PyData.depth], ?_⟩
      simp only [pyOf, PyData.shown]
      have e := int_text_length_le (a := i) (k := 1900) (by decide) hl
      have e2 : (Str.ofString (toString i)).length ≤ 1901 := by
        rw [Str.ofString_eq_toList]
        show (List.toArray _).size ≤ _
        rw [List.size_toArray, List.length_map, String.length_toList]; exact e
      exact Nat.le_trans e2 (by decide)
    | str x =>
      refine ⟨by simp [pyOf, PyData.hasDict], by simp [pyOf, PyData.showable], by simp [pyOf, PyData.depth], ?_⟩
      simp only [pyOf, PyData.shown]
      have e := StrLaws.reprText_len (stx x) (fun c hc => by
        rw [stx_cps] at hc
        have := h c hc
        have e16 : (16 : Nat) ^ 8 = 4294967296 := by decide
        omega)
      rw [stx_len] at e
      exact e
    | tup xs =>
      obtain ⟨a1, a2, a3, a4⟩ := shw_all ih h
      refine ⟨by simp only [pyOf, PyData.hasDict]; exact a1, by simp only [pyOf, PyData.showable]; exact a2, by simp only [pyOf, PyData.depth]; omega, ?_⟩
      simp only [pyOf, PyData.shown]
      have := tupleText_len_le (PyData.shownAll (pyOfL (xs.map (M.toQ n S))))
      omega
    | fl xs =>
      obtain ⟨a1, a2, a3, a4⟩ := shw_all ih h
      refine ⟨by simp only [pyOf, PyData.hasDict]; exact a1, by simp only [pyOf, PyData.showable]; exact a2, by simp only [pyOf, PyData.depth]; omega, ?_⟩
      simp only [pyOf, PyData.shown]
      have := listText_len_le (PyData.shownAll (pyOfL (xs.map (M.toQ n S))))
      omega
    | ref a =>
      obtain ⟨xs, e, h⟩ := opt_of h
      obtain ⟨a1, a2, a3, a4⟩ := shw_all ih h
      simp only [lstAt_some e]
      refine ⟨by simp only [pyOf, PyData.hasDict]; exact a1, by simp only [pyOf, PyData.showable]; exact a2, by simp only [pyOf, PyData.depth]; omega, ?_⟩
      simp only [pyOf, PyData.shown]
      have := listText_len_le (PyData.shownAll (pyOfL (xs.map (M.toQ n S))))
      omega
    | xn c fs => exact False.elim h
def rRep (K : Frag) : List V → Hp → VK → Prop := fun vs H Q => ∃ x v S Qd, vs = [v] ∧ RelS K H S ∧ RelD K H x v ∧ M.fitD S x ∧ M.szR M.dep S x ≤ M.lim ∧ Qd (.str (rpF (M.toQ M.dep S x))) S ∧ OkV K S H Qd Q
theorem bi_rep {X : Cx} (hg : X.A.guards = some []) (hu : X.A.units + 64 < cLine) : CallR X (.builtin "repr") (rRep X.K) := by
  intro pins s σ H vs us Q I rv h
  obtain ⟨x, v, S, Qd, rfl, r, rd, ft, hz, w, hq⟩ := h
  obtain ⟨u, rfl, r1⟩ := vals1 rv
  have fin : ∀ {h' : Heap} {t : Tok} {tk : Nat}, (∀ b o, s.heap.get? b = some o → h'.get? b = some o) → EP X pins σ Q (.str (pyOf (M.toQ M.dep S x)).shown t) { s with heap := h', toks := tk } := fun {h' t tk} hk =>
    ⟨.str (stx (rpF (M.toQ M.dep S x))), H, I.kept (t' := tk) hk, ⟨t, by rw [stx_rpF]⟩, hq.same r (.str _) w⟩
  have hL : M.lim = sizeLine := lim_eq
  rcases ft with ft | ft
  · cases rd with
    | ref a =>
      cases r1
      have hd : S a = some .dic := by
        have ft' : M.isDic (S a) := ft
        cases e : S a with
        | none => rw [e] at ft'; exact False.elim ft'
        | some o => cases o with
          | lst xs => rw [e] at ft'; exact False.elim ft'
          | dic => rfl
      have hH : H a = some (.dK []) := r a _ hd
      obtain ⟨z, hS, vs, kv, m⟩ := dk_of I.hok hH
      have e1 : M.toQ M.dep S (.ref a) = .dic := by simp only [M.toQ, hd]
      rw [e1] at fin
      have hne : a ≠ sysModules := by simpa using hS
      cases kv
      obtain ⟨as, hr, hn⟩ : ∃ as, Reads s.heap (.ref a) (.dict []) as ∧ sysModules ∉ as := by
        obtain ⟨o, es, n, ho, hc, hdat, hes⟩ : ∃ o es n, s.heap.get? a = some o ∧ o.cls = .type "dict" ∧ o.data = .dict es n ∧ es.toList = [] := by
          obtain ⟨o, es, ep, ho, hc, hdat, _, hp, _⟩ := m
          have hl := hp.length
          exact ⟨o, es, ep, ho, hc.1, hdat, List.eq_nil_of_length_eq_zero hl⟩
        refine ⟨a :: [] ++ [], .dict (kvs := []) (as := []) (bs := []) ho hc hdat (by rw [hes]; exact .nil) (by rw [hes]; exact .nil), ?_⟩
        simp [Ne.symm hne]
      exact repr_of_reads' hr (by simp [PyData.showable, PyData.showableKv]) (fun _ => hn) hg (by simp only [PyData.depth, PyData.depthKv]; omega) (fun b o e => e) (fun h' u tk hk => fin hk) (by rw [← hL]; decide +kernel)
    | _ => exact False.elim ft
  · obtain ⟨a1, a2, a3, a4⟩ := shw_fit M.dep S x ft
    obtain ⟨as, hr⟩ := reads_fit I r M.dep x v u ft rd r1
    have hz2 : (pyOf (M.toQ M.dep S x)).shown.length ≤ sizeLine := by omega
    generalize hp : pyOf (M.toQ M.dep S x) = p at *
    have hdep : M.dep = 8 := rfl
    cases hr with
    | none => exact PySem.P.repr_of_none (fin (fun b o e => e))
    | bool b => exact PySem.P.repr_of_bool (fin (fun b o e => e))
    | int i t => exact PySem.P.repr_of_int (by simpa [PyData.showable] using a2) (fin (fun b o e => e))
    | str x t => exact PySem.P.repr_of_str (fin (fun b o e => e)) hz2
    | list h1 h2 h3 h4 => exact repr_of_reads' (.list h1 h2 h3 h4) a2 (PyData.noDict_hsm a1) hg (by omega) (fun b o e => e) (fun h' u tk hk => fin hk) hz2
    | tuple h1 h2 h3 h4 => exact repr_of_reads' (.tuple h1 h2 h3 h4) a2 (PyData.noDict_hsm a1) hg (by omega) (fun b o e => e) (fun h' u tk hk => fin hk) hz2
    | dict h1 h2 h3 h4 h5 => simp [PyData.hasDict] at a1
end Snd
namespace Snd
open PySem PySem.Spec PyProof.Rows L2
/-! ### zip over sources of any kind -/
inductive Sc where | lst (a : Addr) | tup (a : Addr) | txt (x : Str)
def chrs (x : Str) : List V := x.cps.toList.map fun c => .str ⟨#[c]⟩
def Sc.has (K : Frag) (H : Hp) : Sc → List V → Prop
  | .lst a, xs => SqL K H a xs
  | .tup a, xs => SqT K H a xs
  | .txt x, xs => xs = chrs x
def Sc.st : Sc → Addr → Nat → Heap → Prop
  | .lst a, it, i, h => h.IsListIter it a i
  | .tup a, it, i, h => h.IsTupleIter it a i
  | .txt x, it, i, h => ∃ t, h.IsStrIter it (strIterType x) x t i
def Sc.adr : Sc → List Addr
  | .lst a => [a]
  | .tup a => [a]
  | .txt _ => []
theorem Sc.obj {p : Sc} {it : Addr} {i : Nat} {h : Heap} (s : p.st it i h) : ∃ o, h.get? it = some o ∧ ∀ v, o.data ≠ .cell v := by
  cases p with
  | lst a => obtain ⟨o, e, _, d⟩ := s; exact ⟨o, e, fun v q => by rw [d] at q; cases q⟩
  | tup a => obtain ⟨o, e, _, d⟩ := s; exact ⟨o, e, fun v q => by rw [d] at q; cases q⟩
  | txt x => obtain ⟨t, o, e, _, d⟩ := s; exact ⟨o, e, fun v q => by rw [d] at q; cases q⟩
theorem Sc.keep {p : Sc} {it : Addr} {i : Nat} {h h' : Heap} (s : p.st it i h) (k : ∀ o, h.get? it = some o → h'.get? it = some o) : p.st it i h' := by
  cases p with
  | lst a => exact Heap.IsListIter.at s k
  | tup a => exact Heap.IsTupleIter.at s k
  | txt x => obtain ⟨t, o, e, r⟩ := s; exact ⟨t, o, k o e, r⟩
theorem Sc.inj {X : Cx} {pins : List (Addr × Obj)} {σ : L2.St} {H : Hp} {s : Shared} (I : Inv X pins σ H s) {p : Sc} {xs ys : List V} (h1 : p.has X.K H xs) (h2 : p.has X.K H ys) : xs = ys := by
  cases p with
  | lst a => exact I.list_inj h1 h2
  | tup a => exact I.tuple_inj h1 h2
  | txt x => exact h1.trans h2.symm
/-- its iterator draws the values -/
theorem Sc.draws {X : Cx} {pins : List (Addr × Obj)} {σ : L2.St} {H : Hp} {s : Shared} (I : Inv X pins σ H s) (hc : X.calm = true) {p : Sc} {xs : List V} (h : p.has X.K H xs) {it : Addr} {i : Nat} (hs : p.st it i s.heap) (ha : it ∉ p.adr) :
    ∃ (P : Nat → Value → Prop) (St : Nat → Heap → Prop), Draws X.prog X.w X.A.in1 it (it :: p.adr) xs.length P St ∧ St i s.heap ∧ (∀ j h', St j h' → p.st it j h') ∧ ∀ j v x, P j v → xs[j]? = some x → RelV x v := by
  have hh : X.A.in1.handled = none := I.ok.hd hc
  cases p with
  | lst a =>
    obtain ⟨its, rv, q, _⟩ := I.list h
    have e : its.toArray.size = xs.length := by rw [List.size_toArray, rv.length]
    have D := Draws.list (prog := X.prog) (w := X.w) hh it a (fun z => ha (by simp [Sc.adr, z])) its.toArray
    rw [e] at D
    refine ⟨_, _, D, ⟨hs, q.isList⟩, fun j h' z => z.1, fun j v x hp hx => ?_⟩
    obtain ⟨u, hu, ru⟩ := rv.get hx
    have hp : its[j]? = some v := by simpa using hp
    rw [hu] at hp
    cases hp
    exact ru
  | tup a =>
    obtain ⟨its, rv, q, _⟩ := I.tuple h
    have e : its.toArray.size = xs.length := by rw [List.size_toArray, rv.length]
    have D := Draws.tuple (prog := X.prog) (w := X.w) hh it a (fun z => ha (by simp [Sc.adr, z])) its.toArray
    rw [e] at D
    refine ⟨_, _, D, ⟨hs, q⟩, fun j h' z => z.1, fun j v x hp hx => ?_⟩
    obtain ⟨u, hu, ru⟩ := rv.get hx
    have hp : its[j]? = some v := by simpa using hp
    rw [hu] at hp
    cases hp
    exact ru
  | txt x =>
    have h : xs = chrs x := h
    subst h
    obtain ⟨t, hs⟩ := hs
    have D := Draws.text (prog := X.prog) (w := X.w) hh it x t
    have e : x.cps.size = (chrs x).length := by unfold chrs; simp
    rw [e] at D
    refine ⟨_, _, D, hs, fun j h' z => ⟨t, z⟩, fun j v y hp hx => ?_⟩
    obtain ⟨c, u, hc', rfl⟩ := hp
    have hx : (x.cps[j]?).map (fun c => V.str ⟨#[c]⟩) = some y := by
      unfold chrs at hx
      simpa using hx
    rw [hc'] at hx
    cases hx
    exact ⟨u, rfl⟩
def ItzM (K : Frag) (p q : Sc) : It :=
  ⟨fun i H => ∃ (xs ys : List V) (x y : V), p.has K H xs ∧ q.has K H ys ∧ xs[i]? = some x ∧ ys[i]? = some y,
    fun i H v H' => ∃ T x y, v = .ref T ∧ H T = none ∧ H' = upd H T (.tup [x, y]) ∧ (∀ xs, p.has K H xs → xs[i]? = some x) ∧ ∀ ys, q.has K H ys → ys[i]? = some y,
    fun i H => ∃ xs ys : List V, p.has K H xs ∧ q.has K H ys ∧ i = min xs.length ys.length⟩
/-- the cells lie apart -/
structure Apt (z TI TO i1 i2 : Addr) (ds : List Addr) : Prop where
  nd : [z, TI, TO, i1, i2].Nodup
  ds : ∀ c ∈ [z, TI, TO, i1, i2], c ∉ ds
theorem Apt.sep {z TI TO i1 i2 : Addr} {d1 d2 : List Addr} (D : Apt z TI TO i1 i2 (d1 ++ d2)) : ZipSep2 z TI TO i1 i2 (i1 :: d1) (i2 :: d2) := by
  have nd := D.nd
  simp at nd
  have a : ∀ c ∈ [z, TI, TO, i1, i2], c ∉ d1 ∧ c ∉ d2 := fun c hc => ⟨fun z => D.ds c hc (List.mem_append_left _ z), fun z => D.ds c hc (List.mem_append_right _ z)⟩
  have az := a z (by simp)
  have aT := a TO (by simp)
  have a1 := a i1 (by simp)
  have a2 := a i2 (by simp)
  obtain ⟨⟨n1, n2, n3, n4⟩, ⟨n5, n6, n7⟩, ⟨n8, n9⟩, n10⟩ := nd
  exact ⟨Ne.symm n1, Ne.symm n2, n5, n6, by simp, by simp [n3, az.1], by simp [n8, aT.1], n7, by simp, by simp [n4, az.2], by simp [n9, aT.2], by simp [n10, a1.2], by simp [Ne.symm n10, a2.1]⟩
theorem turn_zipM {P : Program} {w : World} {K : Frag} {elts : List Expr} {kk : Nat} {tpos : Pos} {p q : Sc} {z TI TO i1 i2 : Addr} (D : Apt z TI TO i1 i2 (p.adr ++ q.adr)) :
    Turn P w K (.Tuple elts kk tpos) (ItzM K p q) [z, TI, TO, i1, i2] z (fun i h => IsZip h z TI TO .none ∧ IsTupOf2 h TI (.ref i1) (.ref i2) ∧ (∃ x y, IsTupOf2 h TO x y) ∧ p.st i1 i h ∧ q.st i2 i h) where
  mem := by simp
  obj := fun i h st c hc => by
    obtain ⟨hz, hTI, ⟨x, y, hTO⟩, h1, h2⟩ := st
    simp only [List.mem_cons, List.not_mem_nil, or_false] at hc
    rcases hc with rfl | rfl | rfl | rfl | rfl
    · exact ⟨_, hz, fun v q => nomatch q⟩
    · exact ⟨_, hTI, fun v q => nomatch q⟩
    · exact ⟨_, hTO, fun v q => nomatch q⟩
    · exact Sc.obj (p := p) h1
    · exact Sc.obj (p := q) h2
  keep := fun i h h' st k => by
    obtain ⟨hz, hTI, ⟨x, y, hTO⟩, h1, h2⟩ := st
    exact ⟨k z (by simp) _ hz, k TI (by simp) _ hTI, ⟨x, y, k TO (by simp) _ hTO⟩, Sc.keep (p := p) h1 fun o e => k i1 (by simp) o e, Sc.keep (p := q) h2 fun o e => k i2 (by simp) o e⟩
  item := by
    intro X hP hw hK hc i pins s σ H E I hf st hg
    subst hP hw hK
    obtain ⟨hz, hTI, ⟨x0, y0, hTO⟩, h1, h2⟩ := st
    obtain ⟨xs, ys, x, y, hp, hq, hx, hy⟩ := hg
    have S := D.sep
    have n1 : i1 ∉ p.adr := fun z => D.ds i1 (by simp) (List.mem_append_left _ z)
    have n2 : i2 ∉ q.adr := fun z => D.ds i2 (by simp) (List.mem_append_right _ z)
    obtain ⟨P1, St1, D1, s1, b1, v1⟩ := Sc.draws I hc hp h1 n1
    obtain ⟨P2, St2, D2, s2, b2, v2⟩ := Sc.draws I hc hq h2 n2
    have l1 := (List.getElem?_eq_some_iff.mp hx).1
    have l2 := (List.getElem?_eq_some_iff.mp hy).1
    have hzl : z < s.heap.objs.size := Heap.lt_size hz
    refine wpAny_pyNext_zipD2_item S D1 D2 hz hTI hTO s1 s2 l1 l2 fun u1 u2 h' tk pu1 pu2 z' TO' t1 t2 hT hsz hk => ?_
    refine ⟨_, rfl, wpAny_letOwnedTupleGo_zip (s := { s with heap := h', toks := tk }) z' fun h'' z'' sb => ?_⟩
    have hT2 : h''.get? s.heap.objs.size = some { cls := .type "tuple", data := .seq #[u1, u2] } := (sb.2 _ (Nat.ne_of_gt hzl)).trans hT
    have new : ObjOk X.prog X.w (upd H s.heap.objs.size (.tup [x, y])) h'' s.heap.objs.size (.tup [x, y]) :=
      ⟨by show 2 ≤ sizeLine; decide, [u1, u2], .cons (v1 i u1 x pu1 hx) (.cons (v2 i u2 y pu2 hy) .nil), ⟨_, hT2, rfl, _, rfl⟩⟩
    have I1 : Inv X pins σ (upd H s.heap.objs.size (.tup [x, y])) { s with heap := h'', toks := tk } :=
      I.turnedNew (t' := tk) (ch := [z, TI, TO, i1, i2]) (fun c o hb e => (sb.2 c (fun q' => hb (by simp [q']))).trans (hk c o (fun q' => hb (by simp [q'])) (fun q' => hb (by simp [q'])) (fun q' => hb (by simp [q'])) (fun q' => hb (by simp [q'])) e)) hf (Nat.le_refl _) new
    refine ⟨.ref s.heap.objs.size, _, I1, rfl, ⟨_, x, y, rfl, I.hok.fresh (Nat.le_refl _), rfl, fun l hl => by rw [Sc.inj I hl hp]; exact hx, fun l hl => by rw [Sc.inj I hl hq]; exact hy⟩, ⟨z'', ?_, ⟨u1, u2, ?_⟩, ?_, ?_⟩, fun c hcm => ?_⟩
    · exact (sb.2 _ S.TIz).trans (hk _ _ S.TIz S.TITO S.TIi1 S.TIi2 hTI)
    · exact (sb.2 _ S.TOz).trans TO'
    · exact Sc.keep (p := p) (b1 _ _ t1) fun o e => (sb.2 _ (Ne.symm S.zi1)).trans e
    · exact Sc.keep (p := q) (b2 _ _ t2) fun o e => (sb.2 _ (Ne.symm S.zi2)).trans e
    · have hlt : c < s.heap.objs.size := by
        simp only [List.mem_cons, List.not_mem_nil, or_false] at hcm
        rcases hcm with rfl | rfl | rfl | rfl | rfl
        · exact hzl
        · exact Heap.lt_size hTI
        · exact Heap.lt_size hTO
        · obtain ⟨o, e, _⟩ := Sc.obj (p := p) h1; exact Heap.lt_size e
        · obtain ⟨o, e, _⟩ := Sc.obj (p := q) h2; exact Heap.lt_size e
      rw [upd_ne (Nat.ne_of_lt hlt)]
      exact (hf c hcm).1
  done := by
    intro X hP hw hK hc i pins s σ H E I hf st hg
    subst hP hw hK
    obtain ⟨hz, hTI, ⟨x0, y0, hTO⟩, h1, h2⟩ := st
    obtain ⟨xs, ys, hp, hq, hend⟩ := hg
    have S := D.sep
    have n1 : i1 ∉ p.adr := fun z => D.ds i1 (by simp) (List.mem_append_left _ z)
    have n2 : i2 ∉ q.adr := fun z => D.ds i2 (by simp) (List.mem_append_right _ z)
    obtain ⟨P1, St1, D1, s1, b1, v1⟩ := Sc.draws I hc hp h1 n1
    obtain ⟨P2, St2, D2, s2, b2, v2⟩ := Sc.draws I hc hq h2 n2
    refine wpAny_pyNext_zipD2_end S D1 D2 hz hTI hTO s1 s2 (by omega) (by omega) (by omega) fun h' tk hk => ⟨rfl, I.turnedL (t' := tk) (ch := [z, TI, TO, i1, i2]) (fun c o hb e =>
      hk c o (fun q' => hb (by simp [q'])) (fun q' => hb (by simp [q'])) (fun q' => hb (by simp [q'])) (fun q' => hb (by simp [q'])) e) hf⟩
  self := fun A i s Q E st h => wpAny_pyIter_zip st.1 h
def Sc.is (v : V) : Sc → Prop
  | .lst a => v = .ref a
  | .tup a => v = .ref a
  | .txt x => v = .str x
/-- how it begins -/
theorem Sc.begins {X : Cx} {pins : List (Addr × Obj)} {σ : L2.St} {H : Hp} {s : Shared} (I : Inv X pins σ H s) {p : Sc} {xs : List V} (h : p.has X.K H xs) {v : V} {u : Value} (hv : RelV v u) (hp : Sc.is v p) :
    ∃ (o : Obj) (HH : Heap → Prop), Begins u o HH ∧ HH s.heap ∧ (∀ (it : Addr) (h' : Heap), h'.get? it = some o → p.st it 0 h') ∧ ∀ b ∈ p.adr, b < s.heap.objs.size := by
  cases p with
  | lst a =>
    have hp : v = .ref a := hp
    subst hp
    cases hv
    obtain ⟨its, rv, q, _⟩ := I.list h
    exact ⟨_, _, begins_list a its.toArray, q.isList, fun it h' e => ⟨_, e, rfl, rfl⟩, fun b hb => by
      have : b = a := by simpa [Sc.adr] using hb
      rw [this]; exact q.lt⟩
  | tup a =>
    have hp : v = .ref a := hp
    subst hp
    cases hv
    obtain ⟨its, rv, q, _⟩ := I.tuple h
    exact ⟨_, _, begins_tuple a its.toArray, q, fun it h' e => ⟨_, e, rfl, rfl⟩, fun b hb => by
      have : b = a := by simpa [Sc.adr] using hb
      obtain ⟨o, e, _⟩ := q
      rw [this]; exact Heap.lt_size e⟩
  | txt x =>
    have hp : v = .str x := hp
    subst hp
    obtain ⟨t, rfl⟩ := hv
    exact ⟨_, _, begins_text x t, trivial, fun it h' e => ⟨t, _, e, rfl, rfl⟩, fun b hb => by simp [Sc.adr] at hb⟩
def iZipM (K : Frag) (ta : TA) : TI := fun σ H R => ta σ H fun vs H1 => ∃ v w p q xs ys, vs = [v, w] ∧ Sc.is v p ∧ Sc.is w q ∧ p.has K H1 xs ∧ q.has K H1 ys ∧ R (ItzM K p q) H1
theorem pi_zipM {X : Cx} {e e2 : Expr} {ta : TA} {p pos tpos : Pos} {elts : List Expr} {kk : Nat} (hg : Gl X "zip") (hm : X.mg "zip" = none) (ha : PA X [e, e2] ta)
    (hs : starEach [e, e2] X.env = (false, eval e X.env) :: starEach [e2] X.env := by rfl) (hpl : (backTo pos (starEach [e2] X.env)).any (·.1) = false := by rfl) :
    PI X (.Tuple elts kk tpos) (.Call (.Name "zip" p) [e, e2] [] pos) (iZipM X.K ta) := by
  refine ⟨fun pins s σ H R I h => ?_⟩
  refine Call_ (ld_blt I hg hm PyProof.Rows.boot_zip (PyProof.Rows.callWith_type1 (thn (ha.run pos pins s σ H _ I h) fun us s1 ⟨vs, H1, I1, r1, q1⟩ => ?_) hs hpl))
  obtain ⟨v, w', a, b, xs, ys, ex, hv, hw, h1, h2, q1⟩ := q1
  subst ex
  cases r1 with
  | cons r rr =>
    cases rr with
    | cons r' rr =>
      cases rr
      obtain ⟨o1, H1', B1, g1, t1, ad1⟩ := Sc.begins I1 h1 r hv
      obtain ⟨o2, H2', B2, g2, t2, ad2⟩ := Sc.begins I1 h2 r' hw
      refine zip_begins2 B1 B2 g1 g2 fun h' hz hTI hTO k1 k2 hsz hk => wpAny_pyIter_zip hz ?_
      have I2 : Inv X pins σ H1 { s1 with heap := h' } := I1.kept (t' := s1.toks) hk
      have new : ∀ c ∈ [s1.heap.objs.size + 4, s1.heap.objs.size + 2, s1.heap.objs.size + 3, s1.heap.objs.size, s1.heap.objs.size + 1], s1.heap.objs.size ≤ c := fun c hc => by
        simp only [List.mem_cons, List.not_mem_nil, or_false] at hc
        rcases hc with rfl | rfl | rfl | rfl | rfl
        · exact Nat.le_add_right _ _
        · exact Nat.le_add_right _ _
        · exact Nat.le_add_right _ _
        · exact Nat.le_refl _
        · exact Nat.le_add_right _ _
      have D : Apt (s1.heap.objs.size + 4) (s1.heap.objs.size + 2) (s1.heap.objs.size + 3) s1.heap.objs.size (s1.heap.objs.size + 1) (a.adr ++ b.adr) := by
        refine ⟨?_, fun c hc hd => ?_⟩
        · generalize s1.heap.objs.size = n
          simp
        · have hn := new c hc
          rcases List.mem_append.mp hd with z | z
          · exact absurd (ad1 c z) (Nat.not_lt.mpr hn)
          · exact absurd (ad2 c z) (Nat.not_lt.mpr hn)
      exact ⟨s1.heap.objs.size + 4, [s1.heap.objs.size + 4, s1.heap.objs.size + 2, s1.heap.objs.size + 3, s1.heap.objs.size, s1.heap.objs.size + 1], _, _, H1, rfl, I2, turn_zipM D, ⟨hz, hTI, ⟨_, _, hTO⟩, t1 _ _ k1, t2 _ _ k2⟩, fun c hc => I1.fpOk (new c hc) (I1.hok.fresh (new c hc)), q1⟩
end Snd
namespace Snd
open PySem PySem.Spec PyProof.Rows L2
/-! ### defs, where no repr is under way -/
structure FnG (P : Program) (w : World) (K : Frag) (mg : Str → Option Value) (base : Heap) (k : Nat) (f : Addr) (fd : FuncData) (ps : List Str) (sp : L2.Sp) : Prop where
  len : ∀ vs H Q E, sp vs H Q E → vs.length = ps.length
  run : ∀ (A : Around) (outer : List Env) (s : Shared) (H : Hp) (args : Args) (us : List Value) (vs : List V) (Q : VK) (E : XK), Room k A → A.guards = some [] → Env0 P w K mg base A outer s H → BindsTo s fd args (ps.zip us) → Vals vs us → sp vs H Q E →
    codeAny (model P w) A (.call (.ref f) args) (CR (L2.CX P w) outer P w H s Q E) s
theorem FnG.mono {P : Program} {w : World} {K : Frag} {mg : Str → Option Value} {base : Heap} {j k : Nat} {f : Addr} {fd : FuncData} {ps : List Str} {sp : L2.Sp} (F : FnG P w K mg base j f fd ps sp) (h : j ≤ k) :
    FnG P w K mg base k f fd ps sp := ⟨F.len, fun A outer s H args us vs Q E hr => F.run A outer s H args us vs Q E (hr.mono h)⟩
theorem FnG.never {P : Program} {w : World} {K : Frag} {mg : Str → Option Value} {base : Heap} {k : Nat} {f : Addr} {fd : FuncData} {ps : List Str} {sp : L2.Sp} (h : ∀ vs H Q E, ¬ sp vs H Q E) :
    FnG P w K mg base k f fd ps sp := ⟨fun vs H Q E q => (h _ _ _ _ q).elim, fun A outer s H args us vs Q E _ _ _ _ _ q => (h _ _ _ _ q).elim⟩
/-- how the positional and the named values bind -/
def KB (K : Frag) (fd : FuncData) (ps : List Str) (m : Nat) (ks : List Str) (perm : List Nat) : Prop :=
  ∀ (s : Shared) (us ws : List Value), K.In s.heap → us.length = m → ws.length = ks.length → BindsTo s fd ⟨us, ks.zip ws⟩ (ps.zip (perm.filterMap fun i => (us ++ ws)[i]?))
/-- how a def of the text stands -/
structure Def (K : Frag) (mg : Str → Option Value) (T : Tb) (n : Nat) (x : Str) (f : Addr) (fd : FuncData) (ps : List Str) : Prop where
  mg : mg x = some (.ref f)
  kp : PySem.W.keepIn K (.ref f) = true
  bd : Binds K fd ps []
  kb : ∀ m ks perm, (n, m, ks, perm) ∈ T.kws → KB K fd ps m ks perm
structure Ok (c : Cn) (k : Nat) (N : List Str) (sc : Scope) (X : Cx) (W : WX) : Prop where
  eN : X.N = N
  es : X.env.scope = sc
  eK : X.K = c.K
  em : X.mg = c.mg
  nd : N.Nodup
  calm : X.calm = true
  room : Room k X.A
  gd : X.A.guards = some []
  rp : c.G.rp = rpF
  bt : ∀ x ∈ c.T.bts, c.mg x = none
  con : ∀ n x, c.T.cons[n]? = some x → ∃ u v, c.mg x = some u ∧ RelV v u ∧ ∀ H, RelD c.K H (c.G.con n) v
  fns : ∀ n x, c.T.fns[n]? = some x → ∃ f fd ps, Def c.K c.mg c.T n x f fd ps ∧ FnG X.prog X.w c.K c.mg X.base k f fd ps (lift c (M.cl (c.G.fn n)))
  tk : Takes X W
/-! ### the checks -/
def kOk : M.Kc → Const → Bool
  | .non, .none => true
  | .bl b, .bool d => b == d
  | .int i, .int j => decide (i = j)
  | .str x, .str y => decide (stx x = y)
  | _, _ => false
def visB (sc : Scope) (x : Str) : Bool := match sc.names.lookup x with
  | some .local => true | some .cell => true | some .free => true | _ => false
def glB (sc : Scope) (x : Str) : Bool := match sc.names.lookup x with
  | some .globalImplicit => true | _ => false
def locB (sc : Scope) (x : Str) : Bool := match sc.names.lookup x with
  | some .local => true | _ => false
def locCB (sc : Scope) (x : Str) : Bool := match sc.names.lookup x with
  | some .local => true | some .cell => true | _ => false
def dbgB (x : Str) : Bool := (x == ("__debug__" : Str)) || (x == ("__classdict__" : Str))
def plB : Expr → Bool
  | .Starred .. => false | .Slice .. => false | _ => true
def bareB : Expr → Bool
  | .Call .. => false | .Starred .. => false | .Slice .. => false | _ => true
def biN : M.Bi → Str
  | .len => "len" | .abs => "abs" | .int => "int" | .min => "min" | .max => "max" | .all => "all" | .any => "any" | .sum => "sum" | .list => "list" | .tuple => "tuple" | .str => "str"
def mtN : M.Mt → Str
  | .append => "append" | .extend => "extend" | .pop => "pop" | .count => "count" | .index => "index"
def mtOk : M.Mt → Bool
  | .append => true | .extend => true | .pop => true | _ => false
def ownOf (N : List Str) (is : List Nat) : List (Str × Nat) := is.filterMap fun i => N[i]?.map fun x => (x, i)
def nameAt (N : List Str) (ok : Str → Bool) (i : Nat) : Expr → Bool
  | .Name x _ => decide (N[i]? = some x) && ok x && !dbgB x
  | _ => false
def namesAt (N : List Str) (ok : Str → Bool) : List Nat → List Expr → Bool
  | [], [] => true
  | i :: is, e :: es => nameAt N ok i e && namesAt N ok is es
  | _, _ => false
def chkTg (N : List Str) (ok : Str → Bool) : M.Tg → Expr → Bool
  | .v i, e => nameAt N ok i e
  | .tup is, .Tuple es _ _ => namesAt N ok is es
  | _, _ => false
def noSet : Expr → Bool
  | .Set .. => false | .Starred .. => false | .Slice .. => false | _ => true
def isTupB : Expr → Bool
  | .Tuple .. => true | _ => false
/-- a call of a free built-in name with such arguments -/
def biCall (T : Tb) (sc : Scope) (nm : Str) (ok : List Expr → Bool) : Expr → Bool
  | .Call (.Name x _) es ks _ => decide (x = nm) && decide (nm ∈ T.bts) && glB sc x && !dbgB x && ks.isEmpty && ok es
  | _ => false
def kwsB : List Keyword → Option (List Str)
  | [] => some []
  | ⟨some x, _, _⟩ :: r => (kwsB r).map (x :: ·)
  | _ => none
def one (p : Expr → Bool) : List Expr → Bool
  | [e] => plB e && p e
  | _ => false
def two (p q : Expr → Bool) : List Expr → Bool
  | [e, d] => plB e && plB d && p e && q d
  | _ => false
/-- a block's own name: a local, or a cell that a block within takes -/
def cellB (scope : Scope) (x : Str) : Bool := scope.names.lookup x == some .cell
def tgB (scope sc : Scope) (x : Str) : Bool := locB (relS scope sc) x || cellB scope x
/-- the name of a built-in type -/
def clsB (T : Tb) (sc : Scope) (t : M.Ty) (z : Str) : Bool := decide (z = tyS t) && decide (z ∈ T.bts) && glB sc z && !dbgB z
mutual
def chkE (T : Tb) (N : List Str) : M.Ex → Scope → Expr → Bool
  | .v i => fun sc ex => nameAt N (visB sc) i ex
  | .k c => fun sc ex => (match ex with | .Constant d _ _ => kOk c d | _ => false)
  | .g n => fun sc ex => (match ex with | .Name x _ => decide (T.cons[n]? = some x) && glB sc x && !dbgB x | _ => false)
  | .bin o a b => fun sc ex => (match ex with | .BinOp a' p b' _ => boOk o p && chkE T N a sc a' && chkE T N b sc b' | _ => false)
  | .neg a => fun sc ex => (match ex with | .UnaryOp .USub a' _ => chkE T N a sc a' | _ => false)
  | .not a => fun sc ex => (match ex with | .UnaryOp .Not a' _ => chkE T N a sc a' | _ => false)
  | .cmp o a b => fun sc ex => (match ex with | .Compare a' [p] [b'] _ => coOk o p && chkE T N a sc a' && chkE T N b sc b' && !behindInMarks p b' | _ => false)
  | .chain o p a b c => fun sc ex => (match ex with | .Compare a' [o', p'] [b', c'] _ => coOk o o' && coOk p p' && chkE T N a sc a' && chkE T N b sc b' && chkE T N c sc c' && !lastMarks [o', p'] [b', c'] | _ => false)
  | .and a r => fun sc ex => (match ex with | .BoolOp .And (a' :: b' :: r') _ => chkE T N a sc a' && chkR T N r sc (b' :: r') | _ => false)
  | .or a r => fun sc ex => (match ex with | .BoolOp .Or (a' :: b' :: r') _ => chkE T N a sc a' && chkR T N r sc (b' :: r') | _ => false)
  | .ite c a b => fun sc ex => (match ex with | .IfExp c' a' b' _ => chkE T N c sc c' && chkE T N a sc a' && chkE T N b sc b' | _ => false)
  | .tup es => fun sc ex => (match ex with | .Tuple es' _ _ => chkEs T N es sc es' | _ => false)
  | .lst es => fun sc ex => (match ex with | .List es' _ => chkEs T N es sc es' | _ => false)
  | .ix a i => fun sc ex => (match ex with | .Subscript a' i' _ => plB i' && chkE T N a sc a' && chkE T N i sc i' | _ => false)
  | .sl a lo hi => fun sc ex => (match ex with | .Subscript a' (.Slice lo' hi' none _) _ => chkE T N a sc a' && chkO T N lo sc lo' && chkO T N hi sc hi' | _ => false)
  | .rev a => fun sc ex => (match ex with | .Subscript a' (.Slice none none (some (.UnaryOp .USub (.Constant (.int i) _ _) _)) _) _ => decide (i = 1) && chkE T N a sc a' | _ => false)
  | .call f es => fun sc ex => (match ex with | .Call (.Name x _) es' [] _ => decide (T.fns[f]? = some x) && glB sc x && !dbgB x && es'.all plB && chkEs T N es sc es' | _ => false)
  | .callk f es ks perm => fun sc ex => (match ex with
    | .Call (.Name x _) es' kw _ => decide (T.fns[f]? = some x) && glB sc x && !dbgB x && es'.all plB && chkEs T N es sc es' && (match kwsB kw with
      | some nms => decide ((f, M.esLen es, nms, perm) ∈ T.kws) && decide (nms.length = M.esLen ks) && (kw.map (·.value)).all plB && chkEs T N ks sc (kw.map (·.value))
      | none => false)
    | _ => false)
  | .rep a => fun sc ex => biCall T sc "repr" (one (chkE T N a sc)) ex
  | .bi b es => fun sc ex => biCall T sc (biN b) (fun es' => !es'.isEmpty && es'.all plB && chkEs T N es sc es') ex
  | .mt m a es => fun sc ex => (match ex with | .Call (.Attribute a' nm apos) es' [] cpos => decide (nm = mtN m) && mtOk m && (apos.endLine == cpos.line) && bareB a' && chkE T N a sc a' && es'.all plB && decide (es'.length < 29) && chkEs T N es sc es' | _ => false)
  | .isi a t => fun sc ex => biCall T sc "isinstance" (two (chkE T N a sc) (fun y => match y with | .Name z _ => decide (z = tyS t) && decide (z ∈ T.bts) && glB sc z && !dbgB z | _ => false)) ex
  | .isi2 a t u => fun sc ex => biCall T sc "isinstance" (two (chkE T N a sc) (fun y => match y with | .Tuple [.Name z _, .Name z2 _] _ _ => clsB T sc t z && clsB T sc u z2 | _ => false)) ex
  | .isx _ _ => fun _ _ => false
  | .dic => fun sc ex => (match ex with | .Dict [] [] _ => true | _ => false)
  | .comp e t it c => fun sc ex => (match ex with
    | .ListComp e' [⟨tg, it', ifs, k⟩] scope _ => decide (k = 0) && blkC N sc scope (ownOf N (M.tgs t)) && decide ((ownOf N (M.tgs t)).map (·.2) = M.tgs t) && decide (M.tgs t).Nodup && noSet it' && chkIt T N it sc it' (isTupB tg) && chkTg N (tgB scope sc) t tg
        && (match ifs with | [] => chkO T N c (relS scope sc) none | [d] => chkO T N c (relS scope sc) (some d) | _ => false) && chkE T N e (relS scope sc) e'
    | _ => false)
def chkEs (T : Tb) (N : List Str) : M.Es → Scope → List Expr → Bool
  | .nil => fun sc es' => es'.isEmpty
  | .cons e r => fun sc es' => (match es' with | e' :: r' => plB e' && chkE T N e sc e' && chkEs T N r sc r' | [] => false)
  | .star e r => fun sc es' => (match es' with | .Starred e' _ :: r' => chkE T N e sc e' && chkEs T N r sc r' | _ => false)
/-- what stands behind the first of and, or -/
def chkR (T : Tb) (N : List Str) : M.Es → Scope → List Expr → Bool
  | .nil => fun sc es' => es'.isEmpty
  | .cons e r => fun sc es' => (match es' with | e' :: r' => chkE T N e sc e' && chkR T N r sc r' | [] => false)
  | .star e r => fun sc es' => false
def chkO (T : Tb) (N : List Str) : M.Oe → Scope → Option Expr → Bool
  | .none => fun sc o => o.isNone
  | .some e => fun sc o => (match o with | some e' => chkE T N e sc e' | none => false)
def chkIt (T : Tb) (N : List Str) : M.It → Scope → Expr → Bool → Bool
  | .seq e => fun sc ex tp => chkE T N e sc ex
  | .rng e => fun sc ex tp => biCall T sc "range" (one (chkE T N e sc)) ex
  | .rng2 a b => fun sc ex tp => biCall T sc "range" (two (chkE T N a sc) (chkE T N b sc)) ex
  | .zip a b => fun sc ex tp => tp && biCall T sc "zip" (two (chkE T N a sc) (chkE T N b sc)) ex
  | .enum e => fun sc ex tp => tp && biCall T sc "enumerate" (one (chkE T N e sc)) ex
end
end Snd
namespace Snd
open PySem PySem.Spec PyProof.Rows L2 RZ
/-! ### what is walked -/
/-- the turns of J yield these items as long as the store is as chk says -/
def Mat (K : Frag) (S : M.Sto) (H : Hp) (J : It) (items : List M.D) (chk : M.Sto → Prop) : Prop :=
  ∀ i S2 H2, Fr S H S2 H2 → RelS K H2 S2 → chk S2 → (∀ d, items[i]? = some d → J.go i H2 ∧ ∀ x H3, J.yld i H2 x H3 → Fr S2 H2 S2 H3 ∧ RelS K H3 S2 ∧ RelD K H3 d x) ∧ (i = items.length → J.stop i H2)
def OkI (K : Frag) (S : M.Sto) (H : Hp) (Rd : M.IK) (R : It → Hp → Prop) : Prop := ∀ items chk S' H' J, Fr S H S' H' → RelS K H' S' → Mat K S' H' J items chk → Rd items chk S' → R J H'
theorem OkI.after {K : Frag} {S S' : M.Sto} {H H' : Hp} {Rd : M.IK} {R : It → Hp → Prop} (h : OkI K S H Rd R) (f : Fr S H S' H') : OkI K S' H' Rd R := fun items chk S2 H2 J f2 r2 m q => h items chk S2 H2 J (f.trans f2) r2 m q
theorem OkI.here {K : Frag} {S : M.Sto} {H : Hp} {Rd : M.IK} {R : It → Hp → Prop} (h : OkI K S H Rd R) (r : RelS K H S) {J : It} {items : List M.D} {chk : M.Sto → Prop} (m : Mat K S H J items chk) (q : Rd items chk S) : R J H := h _ _ _ _ _ Fr.refl r m q
def tIt (c : Cn) (W : WX) (it : M.It) : TI := fun σ H R => ∃ ρ S Rd Xd, ρ.length = σ.length ∧ RelE c.K H ρ σ ∧ RelS c.K H S ∧ M.wpIt c.G it ρ S Rd Xd ∧ OkI c.K S H Rd R ∧ OkX c S H Xd fun cls d H' => W cls d σ H'
theorem get_lt {α : Type} {xs : List α} {i : Nat} {d : α} (h : xs[i]? = some d) : i < xs.length := (List.getElem?_eq_some_iff.mp h).1
/-- what lsOf tells stays told -/
theorem ls_at {K : Frag} {H H2 : Hp} {S S2 : M.Sto} (r : RelS K H S) (f : Fr S H S2 H2) (r2 : RelS K H2 S2) {d : M.D} {a : Addr} {xs : List M.D} (rd : RelD K H d (.ref a)) (e : M.lsOf S2 d = some xs) : ∃ vs, SqL K H2 a vs ∧ RelDs K H2 xs vs := by
  obtain ⟨b, vs, eb, h1, h2⟩ := lsOf_rel r2 (rd.mono r f) e
  cases eb
  exact ⟨vs, h1, h2⟩
theorem mat_list {K : Frag} {H : Hp} {S : M.Sto} (r : RelS K H S) {d : M.D} {a : Addr} {xs : List M.D} (rd : RelD K H d (.ref a)) : Mat K S H (Itl K a) xs fun S' => M.lsOf S' d = some xs := by
  intro i S2 H2 f r2 ch
  obtain ⟨vs, h1, h2⟩ := ls_at r f r2 rd ch
  refine ⟨fun y hy => ?_, fun hl0 => have hl := Nat.le_of_eq hl0.symm; ⟨vs, h1, by rw [← h2.length]; exact hl⟩⟩
  obtain ⟨v, e, rv⟩ := h2.get hy
  refine ⟨⟨vs, v, h1, e⟩, fun x H3 q => ?_⟩
  obtain ⟨e3, q⟩ := q
  subst e3
  have e4 := q vs h1
  rw [e] at e4
  cases e4
  exact ⟨Fr.refl, r2, rv⟩
theorem mat_tup {K : Frag} {H : Hp} {S : M.Sto} (r : RelS K H S) {a : Addr} {xs : List M.D} {vs : List V} (h1 : SqT K H a vs) (h2 : RelDs K H xs vs) : Mat K S H (Itt K a) xs fun _ => True := by
  intro i S2 H2 f r2 ch
  have h1 := sqt_mono r f h1
  have h2 := h2.mono r f
  refine ⟨fun y hy => ?_, fun hl0 => have hl := Nat.le_of_eq hl0.symm; ⟨vs, h1, by rw [← h2.length]; exact hl⟩⟩
  obtain ⟨v, e, rv⟩ := h2.get hy
  refine ⟨⟨vs, v, h1, e⟩, fun x H3 q => ?_⟩
  obtain ⟨e3, q⟩ := q
  subst e3
  have e4 := q vs h1
  rw [e] at e4
  cases e4
  exact ⟨Fr.refl, r2, rv⟩
theorem mat_str {K : Frag} {H : Hp} {S : M.Sto} {a : M.Tx} : Mat K S H (Its (stx a)) (a.map fun c => .str [c]) fun _ => True := by
  intro i S2 H2 f r2 ch
  have hs : (stx a).cps.size = a.length := by unfold stx; simp
  refine ⟨fun y hy => ?_, fun hl0 => have hl := Nat.le_of_eq hl0.symm; ?_⟩
  · rw [List.getElem?_map] at hy
    obtain ⟨c, e, ey⟩ := Option.map_eq_some_iff.mp hy
    subst ey
    refine ⟨by show i < (stx a).cps.size; rw [hs]; exact get_lt e, fun x H3 q => ?_⟩
    obtain ⟨e3, c', e4, ex⟩ := q
    subst e3 ex
    have e5 : (stx a).cps[i]? = a[i]? := by unfold stx; simp
    rw [e5, e] at e4
    cases e4
    exact ⟨Fr.refl, r2, .str [c]⟩
  · show (stx a).cps.size ≤ i
    rw [hs]
    simpa using hl
theorem mat_rng {K : Frag} {H : Hp} {S : M.Sto} {lo : Int} {n : Nat} : Mat K S H (Itr lo n) ((List.range n).map fun i => .int (lo + (i : Nat))) fun _ => True := by
  intro i S2 H2 f r2 ch
  refine ⟨fun y hy => ?_, fun hl0 => have hl := Nat.le_of_eq hl0.symm; by show n ≤ i; simpa using hl⟩
  have hl := get_lt hy
  rw [List.length_map, List.length_range] at hl
  rw [List.getElem?_map, List.getElem?_range hl] at hy
  cases hy
  refine ⟨hl, fun x H3 q => ?_⟩
  obtain ⟨e3, ex⟩ := q
  subst e3 ex
  exact ⟨Fr.refl, r2, .int _⟩
theorem enumL_get : ∀ {xs : List M.D} {n i : Nat} {y : M.D}, (M.enumL n xs)[i]? = some y → ∃ d, xs[i]? = some d ∧ y = .tup [.int ((n + i : Nat) : Int), d]
  | [], _, _, _, h => by simp [M.enumL] at h
  | d :: ds, n, 0, y, h => by simp [M.enumL] at h; exact ⟨d, rfl, by simpa using h.symm⟩
  | d :: ds, n, i + 1, y, h => by
    obtain ⟨d', e1, e2⟩ := enumL_get (xs := ds) (n := n + 1) (i := i) (y := y) (by simpa [M.enumL] using h)
    exact ⟨d', by simpa using e1, by rw [e2]; congr 3; omega⟩
theorem enumL_len : ∀ (xs : List M.D) (n : Nat), (M.enumL n xs).length = xs.length
  | [], _ => rfl
  | _ :: ds, n => by simp [M.enumL, enumL_len ds (n + 1)]
theorem pair_new {K : Frag} {H : Hp} {S : M.Sto} {T : Addr} {x y : V} {d e : M.D} (r : RelS K H S) (hT : H T = none) (rx : RelD K H d x) (ry : RelD K H e y) :
    Fr S H S (L2.upd H T (.tup [x, y])) ∧ RelS K (L2.upd H T (.tup [x, y])) S ∧ RelD K (L2.upd H T (.tup [x, y])) (.tup [d, e]) (.ref T) := by
  have f : Fr S H S (L2.upd H T (.tup [x, y])) := Fr.laid hT
  exact ⟨f, r.laid hT, .tup (SqT.of upd_same) (.cons (rx.mono r f) (.cons (ry.mono r f) .nil))⟩
theorem mat_enum {K : Frag} {H : Hp} {S : M.Sto} (r : RelS K H S) {d : M.D} {a : Addr} {xs : List M.D} (rd : RelD K H d (.ref a)) : Mat K S H (Ite K a) (M.enumL 0 xs) fun S' => M.lsOf S' d = some xs := by
  intro i S2 H2 f r2 ch
  obtain ⟨vs, h1, h2⟩ := ls_at r f r2 rd ch
  refine ⟨fun y hy => ?_, fun hl0 => have hl := Nat.le_of_eq hl0.symm; ⟨vs, h1, by rw [← h2.length]; rwa [enumL_len] at hl⟩⟩
  obtain ⟨d', e1, ey⟩ := enumL_get hy
  subst ey
  obtain ⟨v, e, rv⟩ := h2.get e1
  refine ⟨⟨vs, v, h1, e⟩, fun x H3 q => ?_⟩
  obtain ⟨T, z, ex, hT, e3, q⟩ := q
  subst ex e3
  have e4 := q vs h1
  rw [e] at e4
  cases e4
  rw [Nat.zero_add]
  exact pair_new r2 hT (.int _) rv
theorem zipP_get {xs ys : List M.D} {i : Nat} {y : M.D} (h : (M.zipP xs ys)[i]? = some y) : ∃ d e, xs[i]? = some d ∧ ys[i]? = some e ∧ y = .tup [d, e] := by
  unfold M.zipP at h
  rw [List.getElem?_map] at h
  obtain ⟨⟨d, e⟩, hz, hy⟩ := Option.map_eq_some_iff.mp h
  obtain ⟨h1, h2⟩ := List.getElem?_zip_eq_some.mp hz
  exact ⟨d, e, h1, h2, hy.symm⟩
theorem zipP_len (xs ys : List M.D) : (M.zipP xs ys).length = min xs.length ys.length := by unfold M.zipP; simp
theorem mat_zipM {K : Frag} {H : Hp} {S : M.Sto} {p q : Sc} {xs ys : List M.D} {chk : M.Sto → Prop} (hp : ∀ S2 H2, Fr S H S2 H2 → RelS K H2 S2 → chk S2 → ∃ vs, p.has K H2 vs ∧ RelDs K H2 xs vs) (hq : ∀ S2 H2, Fr S H S2 H2 → RelS K H2 S2 → chk S2 → ∃ vs, q.has K H2 vs ∧ RelDs K H2 ys vs) :
    Mat K S H (ItzM K p q) (M.zipP xs ys) chk := by
  intro i S2 H2 f r2 ch
  obtain ⟨vs, h1, h2⟩ := hp S2 H2 f r2 ch
  obtain ⟨us, g1, g2⟩ := hq S2 H2 f r2 ch
  refine ⟨fun y hy => ?_, fun hl => ⟨vs, us, h1, g1, by rw [zipP_len, h2.length, g2.length] at hl; exact hl⟩⟩
  obtain ⟨d', e', e1, e2, ey⟩ := zipP_get hy
  subst ey
  obtain ⟨v, ev, rv⟩ := h2.get e1
  obtain ⟨u, eu, ru⟩ := g2.get e2
  refine ⟨⟨vs, us, v, u, h1, g1, ev, eu⟩, fun x H3 q' => ?_⟩
  obtain ⟨T, z, z', ex, hT, e3, w1, w2⟩ := q'
  subst ex e3
  have e4 := w1 vs h1
  rw [ev] at e4
  cases e4
  have e4 := w2 us g1
  rw [eu] at e4
  cases e4
  exact pair_new r2 hT rv ru
theorem chrs_rel {K : Frag} {H : Hp} : ∀ a : M.Tx, RelDs K H (a.map fun c => .str [c]) (chrs (stx a))
  | [] => .nil
  | c :: r => .cons (.str [c]) (chrs_rel r)
/-! ### over a list, a tuple, a text -/
theorem PI.imp {X : Cx} {tg e : Expr} {t t' : TI} (h : PI X tg e t) (i : ∀ σ H R, t' σ H R → t σ H R) : PI X tg e t' := ⟨fun pins s σ H R I q => h.run pins s σ H R I (i σ H R q)⟩
def iSeq (K : Frag) (te : TE) : TI := fun σ H R => te σ H fun v H1 => (∃ a xs, v = .ref a ∧ SqL K H1 a xs ∧ R (Itl K a) H1) ∨ (∃ a xs, v = .ref a ∧ SqT K H1 a xs ∧ R (Itt K a) H1) ∨ ∃ x, v = .str x ∧ R (Its x) H1
theorem pi_seqM {X : Cx} {tg e : Expr} {te : TE} (he : PE X e te) : PI X tg e (iSeq X.K te) := by
  refine ⟨fun pins s σ H R I h => ?_⟩
  refine thn (he.run pins s σ H _ I h) fun v s1 ⟨y, H1, I1, r1, q⟩ => ?_
  rcases q with ⟨a, xs, ey, hq, q⟩ | ⟨a, xs, ey, hq, q⟩ | ⟨x, ey, q⟩
  · subst ey
    cases r1
    obtain ⟨its, rv, p, hz⟩ := I1.list hq
    exact wpAny_pyIter_list p.isList (pi_one (tk := s1.toks) I1 _ (turn_list a _) ⟨_, Heap.get?_push_size _ rfl, rfl, rfl⟩ q)
  · subst ey
    cases r1
    obtain ⟨its, rv, p, hz⟩ := I1.tuple hq
    exact wpAny_pyIter_tuple (show s1.heap.IsTuple a its.toArray from p) (pi_one (tk := s1.toks) I1 _ (turn_tuple a _) ⟨_, Heap.get?_push_size _ rfl, rfl, rfl⟩ q)
  · subst ey
    obtain ⟨t, rfl⟩ := r1
    cases ha : x.cps.all (· < 128)
    · exact wpAny_pyIter_wide ha (pi_one (tk := s1.toks) I1 _ (turn_str _ x t "str_iterator" (.inr rfl)) ⟨_, Heap.get?_push_size _ rfl, rfl, rfl⟩ q)
    · exact wpAny_pyIter_ascii ha (pi_one (tk := s1.toks) I1 _ (turn_str _ x t "str_ascii_iterator" (.inl rfl)) ⟨_, Heap.get?_push_size _ rfl, rfl, rfl⟩ q)
/-- the reading of what is walked, by value -/
theorem seq_rel {K : Frag} {H : Hp} {S : M.Sto} {d : M.D} {v : V} {Rd : M.IK} {R : It → Hp → Prop} (r : RelS K H S) (rd : RelD K H d v) (w : M.seqD d S Rd) (q : OkI K S H Rd R) :
    (∃ a xs, v = .ref a ∧ SqL K H a xs ∧ R (Itl K a) H) ∨ (∃ a xs, v = .ref a ∧ SqT K H a xs ∧ R (Itt K a) H) ∨ ∃ x, v = .str x ∧ R (Its x) H := by
  cases rd with
  | ref a =>
    obtain ⟨xs, e, w⟩ := opt_of (show M.opt (M.lstAt S a) (fun xs => Rd xs (fun S' => S' a = some (.lst xs)) S) from w)
    obtain ⟨vs, h1, h2⟩ := r.at e
    refine .inl ⟨a, vs, rfl, SqL.of h1, q.here r ?_ w⟩
    intro i S2 H2 f r2 ch
    exact mat_list r (.ref a) i S2 H2 f r2 (show M.lsOf S2 (.ref a) = some xs from lstAt_of ch)
  | fl h1 h2 => exact .inl ⟨_, _, rfl, h1.sq, q.here r (fun i S2 H2 f r2 _ => mat_list r (.fl h1 h2) i S2 H2 f r2 rfl) w⟩
  | tup h1 h2 => exact .inr (.inl ⟨_, _, rfl, h1, q.here r (mat_tup r h1 h2) w⟩)
  | str x => exact .inr (.inr ⟨_, rfl, q.here r mat_str w⟩)
  | non => exact False.elim w
  | bl b => exact False.elim w
  | int i => exact False.elim w
end Snd
namespace Snd
open PySem PySem.Spec PyProof.Rows L2
/-! ### from the checks -/
theorem and2 {a b : Bool} (h : (a && b) = true) : a = true ∧ b = true := Bool.and_eq_true_iff.mp h
theorem not1 {a : Bool} (h : (!a) = true) : a = false := by cases a <;> first | rfl | cases h
theorem vis_of {sc : Scope} {x : Str} (h : visB sc x = true) : Vis sc x := by
  unfold visB at h
  split at h <;> first | exact .inl (by assumption) | exact .inr (.inl (by assumption)) | exact .inr (.inr (by assumption)) | cases h
theorem gl_of {X : Cx} {sc : Scope} {x : Str} (hs : X.env.scope = sc) (h : glB sc x = true) : Gl X x := by
  unfold glB at h
  subst hs
  split at h <;> first | assumption | cases h
theorem loc_of {sc : Scope} {x : Str} (h : locB sc x = true) : sc.names.lookup x = some .local := by
  unfold locB at h
  split at h <;> first | assumption | cases h
theorem tgB_of {scope sc : Scope} {x : Str} (h : tgB scope sc x = true) : Loc (relS scope sc) x ∧ ((scope.names.lookup x == some NameKind.cell) = true ∨ (relS scope sc).names.lookup x = some .local) := by
  rcases Bool.or_eq_true_iff.mp h with h | h
  · exact ⟨.inl (loc_of h), .inr (loc_of h)⟩
  · have e : scope.names.lookup x = some .cell := eq_of_beq h
    exact ⟨.inr (lookup_relS_keep (by decide) e), .inl h⟩
theorem locC_of {sc : Scope} {x : Str} (h : locCB sc x = true) : Loc sc x := by
  unfold locCB at h
  split at h <;> first | exact .inl (by assumption) | exact .inr (by assumption) | cases h
theorem dbg_of {x : Str} (h : (!dbgB x) = true) : (x == ("__debug__" : Str)) = false ∧ (x == ("__classdict__" : Str)) = false := by
  have h := not1 h
  unfold dbgB at h
  exact Bool.or_eq_false_iff.mp h
theorem plB_star {e : Expr} {es : List Expr} {env : Env} (h : plB e = true) : starEach (e :: es) env = (false, eval e env) :: starEach es env := by
  cases e <;> first | rfl | cases h
theorem plB_all {pos : Pos} {env : Env} : ∀ {es : List Expr}, es.all plB = true → (backTo pos (starEach es env)).any (·.1) = false
  | [], _ => rfl
  | e :: es, h => by
    have h := and2 (show (plB e && es.all plB) = true from h)
    rw [plB_star h.1]
    show (false || (backTo pos (starEach es env)).any (·.1)) = false
    rw [plB_all h.2]
    rfl
theorem plB_few {pos : Pos} {env : Env} : ∀ {es : List Expr}, es.all plB = true → (backTo pos (starEach es env)).all (fun x => !x.1) = true
  | [], _ => rfl
  | e :: es, h => by
    have h := and2 (show (plB e && es.all plB) = true from h)
    rw [plB_star h.1]
    show (true && (backTo pos (starEach es env)).all (fun x => !x.1)) = true
    rw [plB_few h.2]
    rfl
theorem plB_ix {e : Expr} (h : plB e = true) : PlainIx e := by
  cases e <;> first | (intro _ _; rfl) | cases h
theorem bare_of {e : Expr} {nm : Str} {env : Env} (h : bareB e = true) : attributeBase e nm env (eval e env) = eval e env := by
  cases e <;> first | rfl | cases h
theorem folded_of {e : Expr} {env : Env} (h : noSet e = true) : ∀ x, foldedSetIterable e env x = pure x := by
  cases e <;> first | (intro _; rfl) | cases h
theorem name_of {N : List Str} {ok : Str → Bool} {i : Nat} {e : Expr} (h : nameAt N ok i e = true) : ∃ x p, e = .Name x p ∧ N[i]? = some x ∧ ok x = true ∧ (x == ("__debug__" : Str)) = false ∧ (x == ("__classdict__" : Str)) = false := by
  unfold nameAt at h
  split at h
  · rename_i x p
    obtain ⟨h, h3⟩ := and2 h
    obtain ⟨h1, h2⟩ := and2 h
    exact ⟨x, p, rfl, of_decide_eq_true h1, h2, dbg_of h3⟩
  · cases h
theorem biCall_of {T : Tb} {sc : Scope} {nm : Str} {ok : List Expr → Bool} {e : Expr} (h : biCall T sc nm ok e = true) :
    ∃ p es pos, e = .Call (.Name nm p) es [] pos ∧ nm ∈ T.bts ∧ glB sc nm = true ∧ (nm == ("__debug__" : Str)) = false ∧ ok es = true := by
  unfold biCall at h
  split at h
  · rename_i x p es ks pos
    obtain ⟨h, h6⟩ := and2 h
    obtain ⟨h, h5⟩ := and2 h
    obtain ⟨h, h4⟩ := and2 h
    obtain ⟨h, h3⟩ := and2 h
    obtain ⟨h1, h2⟩ := and2 h
    have e1 : x = nm := of_decide_eq_true h1
    subst e1
    have e5 : ks = [] := by cases ks with | nil => rfl | cons => cases h5
    subst e5
    exact ⟨p, es, pos, rfl, of_decide_eq_true h2, h3, (dbg_of h4).1, h6⟩
  · cases h
theorem one_of {p : Expr → Bool} {es : List Expr} (h : one p es = true) : ∃ e, es = [e] ∧ plB e = true ∧ p e = true := by
  unfold one at h
  split at h
  · exact ⟨_, rfl, and2 h⟩
  · cases h
theorem two_of {p q : Expr → Bool} {es : List Expr} (h : two p q es = true) : ∃ e d, es = [e, d] ∧ plB e = true ∧ plB d = true ∧ p e = true ∧ q d = true := by
  unfold two at h
  split at h
  · obtain ⟨h, h4⟩ := and2 h
    obtain ⟨h, h3⟩ := and2 h
    obtain ⟨h1, h2⟩ := and2 h
    exact ⟨_, _, rfl, h1, h2, h3, h4⟩
  · cases h
/-! ### readings -/
section
variable {c : Cn} {W : WX} {σ : Sl} {H : Hp} {Q : VK}
/-- two values in a row -/
theorem two_rel {a b : M.Ex} {ρ : M.Env} {S : M.Sto} {Xd : M.XK} {f : M.D → M.D → M.Sto → Prop} {R : V → V → Hp → Prop} (hl : ρ.length = σ.length) (re : RelE c.K H ρ σ) (r : RelS c.K H S)
    (w : M.wpE c.G a ρ S (fun x S1 => M.wpE c.G b ρ S1 (fun y S2 => f x y S2) Xd) Xd) (hx : OkX c S H Xd fun cls d H' => W cls d σ H')
    (k : ∀ x y S2 v u H2, Fr S H S2 H2 → RelS c.K H2 S2 → RelD c.K H2 x v → RelD c.K H2 y u → f x y S2 → R v u H2) : tE c W a σ H fun v H1 => tE c W b σ H1 fun u H2 => R v u H2 :=
  ⟨ρ, S, _, Xd, hl, re, r, w, fun x S1 v H1 f1 r1 rx q1 => ⟨ρ, S1, _, Xd, hl, re.mono r f1, r1, q1, fun y S2 u H2 f2 r2 ry q2 => k x y S2 v u H2 (f1.trans f2) r2 (rx.mono r1 f2) ry q2, hx.after f1⟩, hx⟩
theorem one_rel {a : M.Ex} {ρ : M.Env} {S : M.Sto} {Xd : M.XK} {f : M.D → M.Sto → Prop} {R : V → Hp → Prop} (hl : ρ.length = σ.length) (re : RelE c.K H ρ σ) (r : RelS c.K H S)
    (w : M.wpE c.G a ρ S f Xd) (hx : OkX c S H Xd fun cls d H' => W cls d σ H')
    (k : ∀ x S2 v H2, Fr S H S2 H2 → RelS c.K H2 S2 → RelD c.K H2 x v → f x S2 → R v H2) : tE c W a σ H R :=
  ⟨ρ, S, _, Xd, hl, re, r, w, fun x S1 v H1 f1 r1 rx q1 => k x S1 v H1 f1 r1 rx q1, hx⟩
theorem ones_rel {a : M.Es} {ρ : M.Env} {S : M.Sto} {Xd : M.XK} {f : List M.D → M.Sto → Prop} {R : List V → Hp → Prop} (hl : ρ.length = σ.length) (re : RelE c.K H ρ σ) (r : RelS c.K H S)
    (w : M.wpEs c.G a ρ S f Xd) (hx : OkX c S H Xd fun cls d H' => W cls d σ H')
    (k : ∀ x S2 v H2, Fr S H S2 H2 → RelS c.K H2 S2 → RelDs c.K H2 x v → f x S2 → R v H2) : tEs c W a σ H R :=
  ⟨ρ, S, _, Xd, hl, re, r, w, fun x S1 v H1 f1 r1 rx q1 => k x S1 v H1 f1 r1 rx q1, hx⟩
end
/-- a value's reading as a test -/
abbrev tB1 (t : TE) : TT := tB t
/-- the reading of what stands behind and, or -/
def tR (c : Cn) (W : WX) (f : M.Gm → M.Es → M.Env → M.Sto → M.VK → M.XK → Prop) (es : M.Es) : TE := fun σ H Q => ∃ ρ S Qd Xd, ρ.length = σ.length ∧ RelE c.K H ρ σ ∧ RelS c.K H S ∧ f c.G es ρ S Qd Xd ∧ OkV c.K S H Qd Q ∧ OkX c S H Xd fun cls d H' => W cls d σ H'
def tO (c : Cn) (W : WX) (o : M.Oe) : TO := fun σ H Q => ∃ ρ S Qd Xd, ρ.length = σ.length ∧ RelE c.K H ρ σ ∧ RelS c.K H S ∧ M.wpO c.G o ρ S Qd Xd ∧ (∀ i S' H', Fr S H S' H' → RelS c.K H' S' → Qd i S' → Q i H') ∧ OkX c S H Xd fun cls d H' => W cls d σ H'
/-- a clause's test in a block: nothing may leave it -/
def tCn (c : Cn) (o : M.Oe) : TT := fun σ H Q => ∃ ρ S Qd, ρ.length = σ.length ∧ RelE c.K H ρ σ ∧ RelS c.K H S ∧ M.wpC c.G o ρ S Qd ∧ ∀ b S' H', Fr S H S' H' → RelS c.K H' S' → Qd b S' → Q b H'
def W0 : WX := fun _ _ _ _ => False
theorem okX0 {c : Cn} {S : M.Sto} {H : Hp} {W : Value → Option Addr → Hp → Prop} : OkX c S H M.X0 W := fun _ _ _ _ _ _ _ _ _ q => False.elim q
/-! ### the callee runs -/
theorem run_fnG {X : Cx} {k : Nat} {f : Addr} {fd : FuncData} {ps : List Str} {sp : L2.Sp} {E : Sl → XK} {pins : List (Addr × Obj)} {σ : Sl} {H : Hp} {s : Shared} {Q : VK} {args : Args} {us : List Value} {vs : List V} (F : FnG X.prog X.w X.K X.mg X.base k f fd ps sp) (hr : Room k X.A) (hg : X.A.guards = some [])
    (hb : BindsTo s fd args (ps.zip us)) (hx : PassesAt (L2.CX X.prog X.w) X σ (E σ)) (I : Inv X pins σ H s) (r : Vals vs us) (h : sp vs H Q (E σ)) : wpAny (model X.prog X.w) X.A (call (.ref f) args.pos args.kw) (EP X pins σ Q) X.xe s := by
  refine wpAny_call (codeAny_mono (F.run X.A X.stack s H args us vs Q (E σ) hr hg I.env0 hb r h) fun r s' hq => ?_)
  cases r with
  | error e => exact hx pins H s e s' I hq
  | ok fl =>
    cases fl with
    | ret u => exact I.after hq
    | next => exact False.elim hq
    | brk => exact False.elim hq
    | cont => exact False.elim hq
end Snd
namespace Snd
open PySem PySem.Spec PyProof.Rows L2
/-! ### targets -/
def gNames : List Nat → TGs
  | [] => gNil
  | i :: is => gCons (gName i) (gNames is)
def tgG (K : Frag) : M.Tg → TG
  | .v i => gName i
  | .tup is => fun v σ H Q => gTup K is.length (gNames is) v σ H Q ∨ gUnl K is.length (gNames is) v σ H Q
section
variable {X : Cx}
theorem pgsOk {ok : Str → Bool} (hN : X.N.Nodup) (hok : ∀ x, ok x = true → Loc X.env.scope x ∧ (X.fn x = true ∨ X.env.scope.names.lookup x = some .local)) : ∀ {is : List Nat} {es : List Expr}, namesAt X.N ok is es = true →
    PGs X es (gNames is) ∧ (assignEach es X.env).length = is.length ∧ (assignEach es X.env).findIdx? (·.1) = none
  | [], [], _ => ⟨pgs_nil, rfl, rfl⟩
  | [], _ :: _, h => nomatch h
  | _ :: _, [], h => nomatch h
  | i :: is, e :: es, h => by
    obtain ⟨h1, h2⟩ := and2 (show (nameAt X.N ok i e && namesAt X.N ok is es) = true from h)
    obtain ⟨x, p, rfl, a1, a2, _⟩ := name_of h1
    obtain ⟨b1, b2, b3⟩ := pgsOk hN hok h2
    obtain ⟨l1, l2⟩ := hok x a2
    refine ⟨pgs_cons (pg_name hN a1 l1 l2) b1, ?_, ?_⟩
    · show (assignEach es X.env).length + 1 = is.length + 1
      rw [b2]
    · show List.findIdx? (·.1) ((false, _) :: assignEach es X.env) = none
      rw [List.findIdx?_cons, b3]
      rfl
theorem pgOk {ok : Str → Bool} (hc : X.calm = true) (hN : X.N.Nodup) (hok : ∀ x, ok x = true → Loc X.env.scope x ∧ (X.fn x = true ∨ X.env.scope.names.lookup x = some .local)) {t : M.Tg} {e : Expr} (h : chkTg X.N ok t e = true) : PG X e (tgG X.K t) := by
  cases t with
  | v i =>
    obtain ⟨x, p, rfl, a1, a2, _⟩ := name_of (show nameAt X.N ok i e = true from h)
    obtain ⟨l1, l2⟩ := hok x a2
    exact pg_name hN a1 l1 l2
  | tup is =>
    unfold chkTg at h
    split at h
    · rename_i heq
      cases heq
    · rename_i heq
      cases heq
      obtain ⟨b1, b2, b3⟩ := pgsOk hN hok h
      exact ⟨fun pins s σ H v u Q I r h => h.elim (fun h => (pg_tup hc b1 b2 b3).run pins s σ H v u Q I r h) fun h => (pg_unl hc b1 b2 b3).run pins s σ H v u Q I r h⟩
    · cases h
end
theorem setAll_rel {K : Frag} {H : Hp} : ∀ {is : List Nat} {ds : List M.D} {vs : List V} {ρ : M.Env} {σ : Sl} {R : Sl → Hp → Prop}, ds.length = is.length → RelDs K H ds vs → ρ.length = σ.length → RelE K H ρ σ →
    (∀ σ', σ'.length = σ.length → RelE K H (M.setAll is ds ρ) σ' → (∀ i, i ∉ is → σ'[i]? = σ[i]?) → R σ' H) → gNames is vs σ H R
  | [], [], _, ρ, σ, R, _, .nil, hl, re, k => ⟨rfl, k σ rfl re fun _ _ => rfl⟩
  | [], _ :: _, _, _, _, _, h, _, _, _, _ => nomatch h
  | _ :: _, [], _, _, _, _, h, _, _, _, _ => nomatch h
  | i :: is, d :: ds, _, ρ, σ, R, h, .cons (v := v) a b, hl, re, k => by
    refine ⟨v, _, rfl, ?_⟩
    refine setAll_rel (ρ := ρ.set i (some d)) (Nat.succ.inj h) b (by rw [List.length_set, List.length_set, hl]) (re.set hl a i) fun σ' l r q => k σ' (by rw [l, List.length_set]) r fun j hj => ?_
    rw [q j fun z => hj (List.mem_cons_of_mem _ z), List.getElem?_set_ne (fun z => hj (by rw [z]; exact List.mem_cons_self))]
theorem asg_rel {K : Frag} {H : Hp} {S : M.Sto} (rS : RelS K H S) {t : M.Tg} {d : M.D} {v : V} {ρ : M.Env} {σ : Sl} {Qe : M.Env → Prop} {R : Sl → Hp → Prop} (hl : ρ.length = σ.length) (re : RelE K H ρ σ) (rd : RelD K H d v) (w : M.asg t d S ρ Qe)
    (k : ∀ ρ' σ', ρ'.length = σ'.length → σ'.length = σ.length → RelE K H ρ' σ' → (∀ i, i ∉ M.tgs t → σ'[i]? = σ[i]?) → Qe ρ' → R σ' H) : tgG K t v σ H R := by
  cases t with
  | v i =>
    refine k _ _ (by rw [List.length_set, List.length_set, hl]) (by rw [List.length_set]) (re.set hl rd i) (fun j hj => ?_) w
    rw [List.getElem?_set_ne fun z => hj (by rw [z]; exact List.mem_cons_self)]
  | tup is =>
    have hs : ∀ (is : List Nat) (ds : List M.D) (ρ : M.Env), (M.setAll is ds ρ).length = ρ.length := by
      intro is
      induction is with
      | nil => intro ds ρ; cases ds <;> rfl
      | cons i is ih => intro ds ρ; cases ds with
        | nil => rfl
        | cons d ds => show (M.setAll is ds (ρ.set i (some d))).length = _; rw [ih, List.length_set]
    have list : ∀ xs, M.lsOf S d = some xs → xs.length = is.length ∧ Qe (M.setAll is xs ρ) → gUnl K is.length (gNames is) v σ H R := by
      rintro xs e ⟨w1, w2⟩
      obtain ⟨a, vs, rfl, h1, h2⟩ := lsOf_rel rS rd e
      exact ⟨a, vs, rfl, h1, by rw [← h2.length]; exact w1, setAll_rel w1 h2 hl re fun σ' l r q => k _ σ' (by rw [hs, l, hl]) l r q w2⟩
    cases rd with
    | tup h1 h2 =>
      obtain ⟨w1, w2⟩ := w
      exact .inl ⟨_, _, rfl, h1, by rw [← h2.length]; exact w1, setAll_rel w1 h2 hl re fun σ' l r q => k _ σ' (by rw [hs, l, hl]) l r q w2⟩
    | fl h1 h2 => exact .inr (list _ rfl w)
    | ref a =>
      obtain ⟨xs, e, w⟩ := opt_of (show M.opt (M.lsOf S (.ref a)) (fun xs => xs.length = is.length ∧ Qe (M.setAll is xs ρ)) from w)
      exact .inr (list _ e w)
    | _ => exact False.elim w
/-! ### comprehensions -/
theorem wipe_same {σ σ' : Sl} {vs : List Nat} (hl : σ'.length = σ.length) (h : ∀ i, i ∉ vs → σ'[i]? = σ[i]?) : L2.wipe σ' vs = L2.wipe σ vs := by
  refine List.ext_getElem? fun i => ?_
  by_cases hi : i ∈ vs
  · have hlen : (L2.wipe σ' vs).length = (L2.wipe σ vs).length := by rw [wipe_length, wipe_length, hl]
    cases e1 : (L2.wipe σ' vs)[i]? with
    | none =>
      rw [List.getElem?_eq_none_iff] at e1
      exact (List.getElem?_eq_none_iff.mpr (by omega)).symm
    | some o1 =>
      have hlt := get_lt e1
      cases e2 : (L2.wipe σ vs)[i]? with
      | none => rw [List.getElem?_eq_none_iff] at e2; omega
      | some o2 =>
        cases o1 with
        | some x => exact absurd hi (wipe_some e1).2
        | none => cases o2 with
          | some x => exact absurd hi (wipe_some e2).2
          | none => rfl
  · rw [wipe_out hi, wipe_out hi, h i hi]
/-- a list that is tracked may stand in the store -/
theorem RelS.put {K : Frag} {H : Hp} {S : M.Sto} (r : RelS K H S) {D : Addr} {acc : List V} {ds : List M.D} (h : H D = some (.lst acc)) (hd : RelDs K H ds acc) : RelS K H (M.upd S D (.lst ds)) := fun a o e => by
  by_cases ha : a = D
  · subst ha
    rw [mupd_same] at e
    cases e
    exact ⟨acc, h, hd⟩
  · rw [mupd_ne ha] at e
    exact r a o e
theorem comp_rel {c : Cn} {J : It} {items : List M.D} {chk : M.Sto → Prop} {S1 : M.Sto} {H1 : Hp} {ρ : M.Env} {σ : Sl} {t : M.Tg} {e : M.Ex} {oc : M.Oe} {Qd : M.VK} {Q : VK} (hl : ρ.length = σ.length) (re : RelE c.K H1 ρ σ) (r1 : RelS c.K H1 S1)
    (m : Mat c.K S1 H1 J items chk) (hz : items.length ≤ M.lim) (hq : OkV c.K S1 H1 Qd Q)
    (w : M.compW chk (fun d S2 k => M.asg t d S2 (M.wipe ρ (M.tgs t)) fun ρ2 => M.wpC c.G oc ρ2 S2 (fun b S3 => M.br b (M.wpE c.G e ρ2 S3 (fun x S4 => k (some x) S4) M.X0) (k none S3))) Qd items [] S1) :
    ∀ D, H1 D = none → ∃ Wi : Nat → Nat → Hp → Prop, (∃ m, Wi 0 m (L2.upd H1 D (.lst []))) ∧ ∀ i m H, Wi i m H →
      (J.stop i H ∧ Q (.ref D) H) ∨ (J.go i H ∧ ∃ Nx : Hp → Prop, (∀ H', Nx H' → ∃ m', m' < m ∧ Wi (i + 1) m' H') ∧ ∀ x H', J.yld i H x H' → tgG c.K t x (L2.wipe σ (M.tgs t)) H' fun σ2 H2 => L2.wipe σ2 (M.tgs t) = L2.wipe σ (M.tgs t) ∧ tCn c oc σ2 H2 fun b H3 =>
        if b = true then tE c W0 e σ2 H3 fun y H4 => ∃ acc, H4 D = some (.lst acc) ∧ acc.length < sizeLine ∧ Nx (L2.upd H4 D (.lst (acc ++ [y]))) else Nx H3) := by
  intro D hD
  have hL : M.lim = sizeLine := lim_eq
  generalize hst : (fun (d : M.D) (S2 : M.Sto) (k : Option M.D → M.Sto → Prop) => M.asg t d S2 (M.wipe ρ (M.tgs t)) fun ρ2 => M.wpC c.G oc ρ2 S2 (fun b S3 => M.br b (M.wpE c.G e ρ2 S3 (fun x S4 => k (some x) S4) M.X0) (k none S3))) = step at w
  let Wi : Nat → Nat → Hp → Prop := fun i m H => m = items.length - i ∧ i ≤ items.length ∧ ∃ S ds acc, Fr S1 H1 S H ∧ RelS c.K H S ∧ S D = none ∧ H D = some (.lst acc) ∧ RelDs c.K H ds acc ∧ acc.length ≤ i ∧ M.compW chk step Qd (items.drop i) ds S
  have hS1D : S1 D = none := r1.none hD
  refine ⟨Wi, ⟨_, rfl, Nat.zero_le _, S1, [], [], Fr.laid hD, r1.laid hD, hS1D, upd_same, .nil, Nat.le_refl _, by simpa using w⟩, ?_⟩
  rintro i m' H ⟨rfl, hi, S, ds, acc, f, r, hSD, hHD, rds, hacc, w⟩
  have putFr : ∀ {S' : M.Sto} {H' : Hp} {ds' : List M.D}, Fr S1 H1 S' H' → Fr S1 H1 (M.upd S' D (.lst ds')) H' := fun {S' H' ds'} f' a o h n => by
    obtain ⟨h1, h2⟩ := f' a o h n
    refine ⟨h1, ?_⟩
    have : a ≠ D := fun z => by rw [z, hD] at h; cases h
    rw [mupd_ne this]; exact h2
  by_cases hlt : i < items.length
  · obtain ⟨d, hd⟩ : ∃ d, items[i]? = some d := ⟨items[i], by simp [hlt]⟩
    have ed : items.drop i = d :: items.drop (i + 1) := by
      rw [List.drop_eq_getElem_cons hlt]
      have : items[i] = d := by simpa [hlt] using hd
      rw [this]
    rw [ed] at w
    obtain ⟨hch, w⟩ := (show chk S ∧ step d S (fun r S' => M.compW chk step Qd (items.drop (i + 1)) (ds ++ r.toList) S') from w)
    obtain ⟨hgo, hy⟩ := (m i S H f r hch).1 d hd
    refine .inr ⟨hgo, Wi (i + 1) (items.length - (i + 1)), fun H' q => ⟨items.length - (i + 1), by omega, q⟩, fun x H' y => ?_⟩
    obtain ⟨f2, r2, rx⟩ := hy x H' y
    subst hst
    have f' := f.trans f2
    refine asg_rel r2 (by rw [wipe_len, wipe_length, hl]) ((re.mono r1 f').wipe (M.tgs t)) rx w fun ρ' σ' l1 l2 re' same w => ⟨?_, ?_⟩
    · have h1 : ∀ j, j ∉ M.tgs t → σ'[j]? = σ[j]? := fun j hj => by rw [same j hj, wipe_out hj]
      exact wipe_same (by rw [l2, wipe_length]) h1
    · refine ⟨ρ', S, _, l1, re', r2, w, fun b S3 H3 f3 r3 q => ?_⟩
      have f3' := f'.trans f3
      have hD3 : H3 D = some (.lst acc) ∧ S3 D = none := by
        obtain ⟨a1, a2⟩ := f2 D _ hHD hSD
        exact f3 D _ a1 a2
      have rds3 : RelDs c.K H3 ds acc := (rds.mono r f2).mono r2 f3
      obtain ⟨q1, q2⟩ := q
      cases b with
      | false =>
        show if false = true then _ else _
        rw [if_neg Bool.false_ne_true]
        exact ⟨rfl, hlt, S3, ds, acc, f3', r3, hD3.2, hD3.1, rds3, by omega, by simpa using q2 rfl⟩
      | true =>
        show if true = true then _ else _
        rw [if_pos rfl]
        refine ⟨ρ', S3, _, M.X0, l1, re'.mono r2 f3, r3, q1 rfl, fun dv S4 v H4 f4 r4 rv q => ?_, okX0⟩
        have f4' := f3'.trans f4
        obtain ⟨e4, n4⟩ := f4 D _ hD3.1 hD3.2
        have rds4 := rds3.mono r3 f4
        refine ⟨acc, e4, by omega, rfl, hlt, S4, ds ++ [dv], acc ++ [v], ?_, ?_, n4, upd_same, ?_, by rw [List.length_append]; simp only [List.length_cons, List.length_nil]; omega, by simpa using q⟩
        · intro a o h n
          obtain ⟨h1, h2⟩ := f4' a o h n
          have : a ≠ D := fun z => by rw [z, hD] at h; cases h
          exact ⟨by rw [upd_ne this]; exact h1, h2⟩
        · have rp := r4.put e4 rds4
          have fw : Fr (M.upd S4 D (.lst ds)) H4 (M.upd (M.upd S4 D (.lst ds)) D (.lst (ds ++ [dv]))) (L2.upd H4 D (.lst (acc ++ [v]))) := Fr.wr mupd_same
          intro a o h
          have : a ≠ D := fun z => by rw [z, n4] at h; cases h
          exact (rp.wr mupd_same (rds4.append (.cons rv .nil))) a o (by rw [mupd_ne this, mupd_ne this]; exact h)
        · have rp := r4.put e4 rds4
          have fw : Fr (M.upd S4 D (.lst ds)) H4 (M.upd (M.upd S4 D (.lst ds)) D (.lst (ds ++ [dv]))) (L2.upd H4 D (.lst (acc ++ [v]))) := Fr.wr mupd_same
          exact (rds4.append (.cons rv .nil)).mono rp fw
  · have e : i = items.length := by omega
    subst e
    rw [List.drop_length] at w
    obtain ⟨hch, w⟩ := (show chk S ∧ ∀ p, S p = none → Qd (.ref p) (M.upd S p (.lst ds)) from w)
    exact .inl ⟨(m _ S H f r hch).2 rfl, hq _ _ _ _ (putFr f) (r.put hHD rds) (.ref D) (w D hSD)⟩
end Snd
namespace Snd
open PySem PySem.Spec PyProof.Rows L2
/-! ### pieces over a context -/
section
variable {c : Cn} {k : Nat} {N : List Str} {sc : Scope} {X : Cx} {W : WX}
theorem Ok.op (o : Ok c k N sc X W) {b : M.Bo} {p : Operator} (h : boOk b p = true) : OpR X (binaryOp p) (rB c.K b) := by rw [← o.eK]; exact ob_all h
theorem Ok.co (o : Ok c k N sc X W) {b : M.Co} {p : CmpOp} (h : coOk b p = true) : OpR X (compareOp p) (rCm c.K b) := by rw [← o.eK]; exact oc_all o.room.units h
theorem Ok.ix (o : Ok c k N sc X W) : IxR X (rIxM c.K) := by rw [← o.eK]; exact ix_all
theorem Ok.sl (o : Ok c k N sc X W) : SlR X (rSlM c.K) := by rw [← o.eK]; exact sl_allM
theorem Ok.rep (o : Ok c k N sc X W) : CallR X (.builtin "repr") (rRep c.K) := by rw [← o.eK]; exact bi_rep o.gd o.room.units
theorem Ok.free (o : Ok c k N sc X W) {x : Str} (h : x ∈ c.T.bts) : X.mg x = none := by rw [o.em]; exact o.bt x h
theorem Ok.gl (o : Ok c k N sc X W) {x : Str} (h : glB sc x = true) : Gl X x := gl_of o.es h
theorem Ok.var (o : Ok c k N sc X W) {x : Str} {i : Nat} (h : N[i]? = some x) : X.N[i]? = some x := by rw [o.eN]; exact h
theorem fin {ex : Expr} {t : TE} (h : PE X ex t) (he : ∀ whole, isTrue ex X.env whole = (do let v ← whole; standAt ex.pos; holding [v] (truthy v)) := by intro _; rfl) : PE X ex t ∧ PT X ex (tB t) := ⟨h, pt_val h he⟩
theorem Ok.blk (o : Ok c k N sc X W) (s : Shared) (H : Hp) (scope : Scope) (C : Addr) (cl : List (Str × Addr)) (fp : List Addr) : Ok c k N (relS scope sc) (X.blk s H scope (compEnvC scope cl C X.env) fp) W0 where
  eN := o.eN
  es := by rw [← o.es]; rfl
  eK := o.eK
  em := o.em
  nd := o.nd
  calm := o.calm
  room := o.room
  gd := o.gd
  rp := o.rp
  bt := o.bt
  con := o.con
  fns := o.fns
  tk := fun u s' ⟨a, B, sI, pins, σ, H, cls, d, e, I, nb, up, sky, na, os, ag, w⟩ => False.elim w
theorem pt_ite {c0 a b : Expr} {pos : Pos} {tA tB' tC' : TT} (hc : PT X c0 tA) (ha : PT X a tB') (hb : PT X b tC') : PT X (.IfExp c0 a b pos) (fun σ H Q => tA σ H fun k H1 => if k = true then tB' σ H1 Q else tC' σ H1 Q) := by
  refine ⟨fun pins s σ H Q I h => ?_⟩
  refine isTrue_IfExp (thn (hc.run pins s σ H _ I h) fun d s1 ⟨H1, I1, q1⟩ => ?_)
  cases d with
  | true => exact ha.run pins s1 σ H1 Q I1 q1
  | false => exact hb.run pins s1 σ H1 Q I1 q1
theorem bi_ty {b : M.Bi} : (b = .int ∨ b = .list ∨ b = .tuple ∨ b = .str) ∨ ¬(b = .int ∨ b = .list ∨ b = .tuple ∨ b = .str) := Classical.em _
/-- a built-in's call -/
theorem pe_biM (o : Ok c k N sc X W) {b : M.Bi} {e : Expr} {es : List Expr} {p pos : Pos} {t : TA} (hm : biN b ∈ c.T.bts) (hg : glB sc (biN b) = true) (ha : PA X (e :: es) t) (hp : (e :: es).all plB = true) :
    PE X (.Call (.Name (biN b) p) (e :: es) [] pos) (tCB (rBi c.K b) t) := by
  have hp' := and2 (show (plB e && es.all plB) = true from hp)
  have gl := o.gl hg
  have mn := o.free hm
  have st := plB_star (es := es) (env := X.env) hp'.1
  have an := plB_all (pos := pos) (env := X.env) hp'.2
  rw [← o.eK]
  cases b with
  | len => exact pe_callB bi_len gl mn (by decide +kernel) ha (by decide +kernel) (by decide +kernel) st an
  | abs => exact pe_callB bi_abs gl mn (by decide +kernel) ha (by decide +kernel) (by decide +kernel) st an
  | int => exact pe_callTy bi_int gl mn (by decide +kernel) ha (by decide +kernel) (by decide +kernel) st an
  | min => exact pe_callB (bi_min o.calm) gl mn (by decide +kernel) ha (by decide +kernel) (by decide +kernel) st an
  | max => exact pe_callB (bi_max o.calm) gl mn (by decide +kernel) ha (by decide +kernel) (by decide +kernel) st an
  | all => exact pe_callB (bi_all o.calm) gl mn (by decide +kernel) ha (by decide +kernel) (by decide +kernel) st an
  | any => exact pe_callB (bi_any o.calm) gl mn (by decide +kernel) ha (by decide +kernel) (by decide +kernel) st an
  | sum => exact pe_callB (bi_sum o.calm) gl mn (by decide +kernel) ha (by decide +kernel) (by decide +kernel) st an
  | list => exact pe_callTy bi_list gl mn (by decide +kernel) ha (by decide +kernel) (by decide +kernel) st an
  | tuple => exact pe_callTy bi_tuple gl mn (by decide +kernel) ha (by decide +kernel) (by decide +kernel) st an
  | str => exact pe_callTy bi_str gl mn (by decide +kernel) ha (by decide +kernel) (by decide +kernel) st an
theorem few_of {es : List Expr} {cpos : Pos} {env : Env} (h : es.all plB = true) (h2 : es.length < 29) : ((backTo cpos (starEach es env)).all (fun x => !x.1) && (backToKw cpos (keywordEach [] env)).all (fun x => x.1.isSome)
      && decide (es.length + ([] : List Keyword).length + (if ([] : List Keyword).isEmpty then 0 else 1) < 30)) = true := by
  rw [plB_few h]
  show (true && true && decide _) = true
  have : decide (es.length + ([] : List Keyword).length + (if ([] : List Keyword).isEmpty then 0 else 1) < 30) = true := by
    refine decide_eq_true ?_
    show es.length + 0 + 0 < 30
    omega
  rw [this]
  rfl
theorem pe_mt0 (o : Ok c k N sc X W) {m : M.Mt} {a : Expr} {apos cpos : Pos} {ta : TE} (hm : mtOk m = true) (hl : (apos.endLine == cpos.line) = true) (hb : bareB a = true) (ho : PE X a ta) :
    PE X (.Call (.Attribute a (mtN m) apos) [] [] cpos) (tBM0 c.K "list" (rMt c.K m) ta) := by
  rw [← o.eK]
  cases m with
  | append => exact pe_bm0 PySem.F.plainAttrs_list PySem.F.slot_list_append PySem.F.type_list_append mt_appendM ho (bare_of hb) hl
  | extend => exact pe_bm0 PySem.F.plainAttrs_list PySem.F.slot_list_extend PySem.F.type_list_extend mt_extendM ho (bare_of hb) hl
  | pop => exact pe_bm0 PySem.F.plainAttrs_list PySem.F.slot_list_pop PySem.F.type_list_pop mt_popM ho (bare_of hb) hl
  | _ => cases hm
theorem pe_mtM (o : Ok c k N sc X W) {m : M.Mt} {a e : Expr} {es : List Expr} {apos cpos : Pos} {ta : TE} {t : TA} (hm : mtOk m = true) (hl : (apos.endLine == cpos.line) = true) (hb : bareB a = true) (ho : PE X a ta) (ha : PA X (e :: es) t) (hp : (e :: es).all plB = true) (hn : (e :: es).length < 29) :
    PE X (.Call (.Attribute a (mtN m) apos) (e :: es) [] cpos) (tBM c.K "list" (rMt c.K m) ta t) := by
  rw [← o.eK]
  have hp' := and2 (show (plB e && es.all plB) = true from hp)
  have st := plB_star (es := es) (env := X.env) hp'.1
  have an := plB_all (pos := cpos) (env := X.env) hp'.2
  have fw := few_of (cpos := cpos) (env := X.env) hp hn
  cases m with
  | append => exact pe_bm PySem.F.plainAttrs_list PySem.F.slot_list_append PySem.F.type_list_append mt_appendM ho ha (bare_of hb) fw hl st an
  | extend => exact pe_bm PySem.F.plainAttrs_list PySem.F.slot_list_extend PySem.F.type_list_extend mt_extendM ho ha (bare_of hb) fw hl st an
  | pop => exact pe_bm PySem.F.plainAttrs_list PySem.F.slot_list_pop PySem.F.type_list_pop mt_popM ho ha (bare_of hb) fw hl st an
  | _ => cases hm
/-! ### calls of the text's defs -/
theorem pass_ok (o : Ok c k N sc X W) (σ : Sl) : PassesAt (L2.CX X.prog X.w) X σ (WE W σ) := passAt o.tk σ
theorem pe_callM (o : Ok c k N sc X W) {n : Nat} {x : Str} {es : List Expr} {p pos : Pos} {t : TA} (hx : c.T.fns[n]? = some x) (hg : glB sc x = true) (hd : (x == ("__debug__" : Str)) = false) (ha : PA X es t) (hp : es.all plB = true) (h0 : es = [] → ∀ σ H Q, t σ H Q → Q [] H) :
    PE X (.Call (.Name x p) es [] pos) (fun σ H Q => t σ H fun vs H1 => lift c (M.cl (c.G.fn n)) vs H1 Q (WE W σ)) := by
  obtain ⟨f, fd, ps, D, F⟩ := o.fns n x hx
  rw [← o.eK, ← o.em] at D F
  have go : ∀ {pins : List (Addr × Obj)} {s : Shared} {σ : Sl} {H : Hp} {Q : VK} {us : List Value} {vs : List V}, Inv X pins σ H s → Vals vs us → lift c (M.cl (c.G.fn n)) vs H Q (WE W σ) → wpAny (model X.prog X.w) X.A (call (.ref f) us) (EP X pins σ Q) X.xe s := by
    intro pins s σ H Q us vs I r q
    have hl : us.length = ps.length := by rw [← r.length]; exact F.len _ _ _ _ q
    have b := D.bd s us I.kIn (by rw [List.append_nil]; exact hl)
    rw [List.append_nil] at b
    exact run_fnG (args := ⟨us, []⟩) (E := WE W) F o.room o.gd b (pass_ok o σ) I r q
  refine ⟨fun pins s σ H Q I h => ?_⟩
  refine wpAny_Call_Name_kw (ld_glob I (o.gl hg) D.mg ?_ hd)
  cases es with
  | nil =>
    refine PySem.W.callWith_K0 I.kIn D.kp ?_
    exact go I .nil (h0 rfl _ _ _ h)
  | cons e es =>
    have hp' := and2 (show (plB e && es.all plB) = true from hp)
    exact PySem.W.callWith_K (h₀ := X.base) I.ok.mod.kin D.kp (thn (ha.run pos pins s σ H _ I h) fun us s1 ⟨vs, H1, I1, r, q⟩ => ⟨I1.kIn, go I1 r q⟩) (plB_star hp'.1) (plB_all hp'.2)
/-- f(e, .., k = v, ..) -/
theorem kws_len : ∀ {kws : List Keyword} {nms : List Str}, kwsB kws = some nms → ∀ (pos : Pos) (env : Env), (backToKw pos (keywordEach kws env)).all (·.1.isSome) = true ∧ (backToKw pos (keywordEach kws env)).filterMap (·.1) = nms ∧ (backToKw pos (keywordEach kws env)).any (·.1.isNone) = false ∧ nms.length = kws.length
  | [], nms, h, _, _ => by
    cases h
    exact ⟨rfl, rfl, rfl, rfl⟩
  | ⟨none, _, _⟩ :: _, _, h, _, _ => nomatch h
  | ⟨some x, v, p⟩ :: r, nms, h, pos, env => by
    obtain ⟨l, e, rfl⟩ := Option.map_eq_some_iff.mp (show (kwsB r).map (x :: ·) = some nms from h)
    obtain ⟨a1, a2, a3, a4⟩ := kws_len e pos env
    refine ⟨?_, ?_, ?_, ?_⟩
    · show (true && (backToKw pos (keywordEach r env)).all (·.1.isSome)) = true
      rw [a1]; rfl
    · show x :: (backToKw pos (keywordEach r env)).filterMap (·.1) = x :: l
      rw [a2]
    · show (false || (backToKw pos (keywordEach r env)).any (·.1.isNone)) = false
      rw [a3]; rfl
    · rw [List.length_cons, List.length_cons, a4]
theorem vals_fm {us : List Value} {vs : List V} (r : Vals vs us) : ∀ perm : List Nat, Vals (perm.filterMap fun i => vs[i]?) (perm.filterMap fun i => us[i]?)
  | [] => .nil
  | i :: perm => by
    cases e : vs[i]? with
    | none =>
      rw [List.filterMap_cons_none e, List.filterMap_cons_none (r.none_of e)]
      exact vals_fm r perm
    | some v =>
      obtain ⟨u, e2, ru⟩ := r.get e
      rw [List.filterMap_cons_some e, List.filterMap_cons_some e2]
      exact .cons ru (vals_fm r perm)
theorem rels_fm {K : Frag} {H : Hp} {ds : List M.D} {vs : List V} (r : RelDs K H ds vs) : ∀ perm : List Nat, RelDs K H (perm.filterMap fun i => ds[i]?) (perm.filterMap fun i => vs[i]?)
  | [] => .nil
  | i :: perm => by
    cases e : ds[i]? with
    | none =>
      have e2 : vs[i]? = none := by rw [List.getElem?_eq_none_iff] at e ⊢; rw [← r.length]; exact e
      rw [List.filterMap_cons_none e, List.filterMap_cons_none e2]
      exact rels_fm r perm
    | some v =>
      obtain ⟨u, e2, ru⟩ := r.get e
      rw [List.filterMap_cons_some e, List.filterMap_cons_some e2]
      exact .cons ru (rels_fm r perm)
theorem pe_callkM (o : Ok c k N sc X W) {n m : Nat} {perm : List Nat} {nms : List Str} {x : Str} {es : List Expr} {kws : List Keyword} {p pos : Pos} {t tk : TA} (hx : c.T.fns[n]? = some x) (hg : glB sc x = true) (hd : (x == ("__debug__" : Str)) = false) (ha : PA X es t) (hp : es.all plB = true) (h0 : es = [] → ∀ σ H Q, t σ H Q → Q [] H)
    (hk : PK X kws tk) (hn : kwsB kws = some nms) (hm : (n, m, nms, perm) ∈ c.T.kws) :
    PE X (.Call (.Name x p) es kws pos) (fun σ H Q => t σ H fun vs H1 => tk σ H1 fun zs H2 => vs.length = m ∧ zs.length = nms.length ∧ lift c (M.cl (c.G.fn n)) (perm.filterMap fun i => (vs ++ zs)[i]?) H2 Q (WE W σ)) := by
  obtain ⟨f, fd, ps, D, F⟩ := o.fns n x hx
  rw [← o.eK, ← o.em] at D F
  obtain ⟨k1, k2, k3, k4⟩ := kws_len hn pos X.env
  have go : ∀ {pins : List (Addr × Obj)} {s : Shared} {σ : Sl} {H : Hp} {Q : VK} {us ws : List Value} {vs zs : List V}, Inv X pins σ H s → Vals vs us → Vals zs ws → vs.length = m → zs.length = nms.length → lift c (M.cl (c.G.fn n)) (perm.filterMap fun i => (vs ++ zs)[i]?) H Q (WE W σ) →
      wpAny (model X.prog X.w) X.A (call (.ref f) us (nms.zip ws)) (EP X pins σ Q) X.xe s := by
    intro pins s σ H Q us ws vs zs I r rz l1 l2 q
    exact run_fnG (args := ⟨us, nms.zip ws⟩) (E := WE W) F o.room o.gd (D.kb m nms perm hm s us ws I.kIn (by rw [← r.length]; exact l1) (by rw [← rz.length]; exact l2)) (pass_ok o σ) I (vals_fm (r.append rz) perm) q
  refine ⟨fun pins s σ H Q I h => ?_⟩
  refine wpAny_Call_Name_kw (ld_glob I (o.gl hg) D.mg ?_ hd)
  cases es with
  | nil =>
    refine PySem.W.callWith_KW0 (h₀ := X.base) I.ok.mod.kin D.kp k1 (thn (hk.run pos pins s σ H _ I (h0 rfl _ _ _ h)) fun ws s2 ⟨zs, H2, I2, rz, q2⟩ => ⟨I2.kIn, ?_⟩) (by show (false || _) = false; rw [k3]; rfl)
    rw [k2]
    exact go I2 .nil rz q2.1 q2.2.1 q2.2.2
  | cons e es =>
    have hp' := and2 (show (plB e && es.all plB) = true from hp)
    refine PySem.W.callWith_KW (h₀ := X.base) I.ok.mod.kin D.kp k1 (thn (ha.run pos pins s σ H _ I h) fun us s1 ⟨vs, H1, I1, r, q⟩ => ?_) (by rw [plB_all hp, k3]; rfl) (plB_star hp'.1)
    refine thn (hk.run pos pins s1 σ H1 _ I1 q) fun ws s2 ⟨zs, H2, I2, rz, q2⟩ => ⟨I2.kIn, ?_⟩
    rw [k2]
    exact go I2 r rz q2.1 q2.2.1 q2.2.2
/-- a built-in type by its name -/
theorem cls_name (o : Ok c k N sc X W) {t : M.Ty} {z : Str} (h : clsB c.T sc t z = true) : z = tyS t ∧ ∀ p, PE X (.Name z p) (tC (.ty (tyN t))) := by
  unfold clsB at h
  obtain ⟨h, h4⟩ := and2 h
  obtain ⟨h, h3⟩ := and2 h
  obtain ⟨h1, h2⟩ := and2 h
  have e := of_decide_eq_true h1
  subst e
  exact ⟨rfl, fun p => pe_bltn (o.gl h3) (o.free (of_decide_eq_true h2)) (tyB t) rfl (by cases t <;> decide +kernel) (dbg_of h4).1⟩
end
end Snd
namespace Snd
open PySem PySem.Spec PyProof.Rows L2
section
variable {c : Cn} {k : Nat} {N : List Str}
theorem zip_cases {x y : M.D} {S : M.Sto} {R : M.IK} (w : M.zipD x y S R) : (∃ xs ys, x = .tup xs ∧ y = .tup ys ∧ R (M.zipP xs ys) (fun _ => True) S) ∨
    (∃ a ys, x = .str a ∧ y = .tup ys ∧ R (M.zipP (a.map fun c => .str [c]) ys) (fun _ => True) S) ∨
    M.opt (M.lsOf S x) fun xs => M.opt (M.lsOf S y) fun ys => R (M.zipP xs ys) (fun S' => M.lsOf S' x = some xs ∧ M.lsOf S' y = some ys) S := by
  cases x <;> cases y <;> first | exact .inl ⟨_, _, rfl, rfl, w⟩ | exact .inr (.inl ⟨_, _, rfl, rfl, w⟩) | exact .inr (.inr w)
theorem tupB_of {tg : Expr} (h : isTupB tg = true) : ∃ es k p, tg = .Tuple es k p := by
  cases tg <;> first | exact ⟨_, _, _, rfl⟩ | cases h
theorem own_map {N : List Str} {is : List Nat} : ((ownOf N is).map (·.2)) = is → (ownOf N is).map (·.2) = is := id
mutual
theorem peOk : ∀ (e : M.Ex) {sc : Scope} {ex : Expr} {X : Cx} {W : WX}, chkE c.T N e sc ex = true → Ok c k N sc X W → PE X ex (tE c W e) ∧ PT X ex (tB (tE c W e))
  | .v i, sc, ex, X, W, h, o => by
    obtain ⟨x, p, rfl, hi, hv, hd, hcd⟩ := name_of (show nameAt N (visB sc) i ex = true from h)
    refine fin (PE.imp (pe_var (o.var hi) (by rw [o.es]; exact vis_of hv) hd hcd) fun σ H Q ⟨ρ, S, Qd, Xd, hl, re, r, w, hq, hx⟩ => ?_)
    obtain ⟨d, e, w⟩ := opt_of (show M.opt (M.look ρ i) (fun d => Qd d S) from w)
    have e2 : ρ[i]? = some (some d) := by
      unfold M.look M.joinO at e
      split at e
      · rename_i a heq; cases e; exact heq
      · cases e
    obtain ⟨v, e3, rd⟩ := re i d e2
    exact ⟨v, e3, hq.same r rd w⟩
  | .k kc, sc, ex, X, W, h, o => by
    have h : (match (generalizing := false) ex with | .Constant d _ _ => kOk kc d | _ => false) = true := h
    split at h
    · rename_i d j p hh
      cases kc with
      | non => cases d with
        | none => exact fin (PE.imp pe_non fun σ H Q ⟨ρ, S, Qd, Xd, hl, re, r, w, hq, hx⟩ => hq.same r .non w)
        | _ => cases h
      | bl b => cases d with
        | bool b' =>
          have e : b = b' := by simpa [kOk] using h
          subst e
          exact fin (PE.imp pe_bl fun σ H Q ⟨ρ, S, Qd, Xd, hl, re, r, w, hq, hx⟩ => hq.same r (.bl b) w)
        | _ => cases h
      | int i => cases d with
        | int i' =>
          have e : i = i' := of_decide_eq_true h
          subst e
          exact fin (PE.imp pe_int fun σ H Q ⟨ρ, S, Qd, Xd, hl, re, r, w, hq, hx⟩ => hq.same r (.int i) w)
        | _ => cases h
      | str y => cases d with
        | str y' =>
          have e : stx y = y' := of_decide_eq_true h
          subst e
          exact fin (PE.imp pe_str fun σ H Q ⟨ρ, S, Qd, Xd, hl, re, r, w, hq, hx⟩ => hq.same r (.str y) w)
        | _ => cases h
    · cases h
  | .g n, sc, ex, X, W, h, o => by
    have h : (match (generalizing := false) ex with | .Name x _ => decide (c.T.cons[n]? = some x) && glB sc x && !dbgB x | _ => false) = true := h
    split at h
    · rename_i x p hh
      obtain ⟨h, h3⟩ := and2 h
      obtain ⟨h1, h2⟩ := and2 h
      obtain ⟨u, v, e1, e2, e3⟩ := o.con n x (of_decide_eq_true h1)
      exact fin (PE.imp (pe_glob (o.gl h2) (by rw [o.em]; exact e1) e2 (dbg_of h3).1) fun σ H Q ⟨ρ, S, Qd, Xd, hl, re, r, w, hq, hx⟩ => hq.same r (e3 H) w)
    · cases h
  | .bin b x y, sc, ex, X, W, h, o => by
    have h : (match (generalizing := false) ex with | .BinOp a' p b' _ => boOk b p && chkE c.T N x sc a' && chkE c.T N y sc b' | _ => false) = true := h
    split at h
    · obtain ⟨h, h3⟩ := and2 h
      obtain ⟨h1, h2⟩ := and2 h
      exact fin (PE.imp (pe_op (o.op h1) (peOk x h2 o).1 (peOk y h3 o).1) fun σ H Q ⟨ρ, S, Qd, Xd, hl, re, r, w, hq, hx⟩ =>
        two_rel hl re r w hx fun x y S2 v u H2 f r2 rx ry q => ⟨x, y, S2, Qd, r2, rx, ry, q, hq.after f⟩)
    · cases h
  | .neg a, sc, ex, X, W, h, o => by
    have h : (match (generalizing := false) ex with | .UnaryOp .USub a' _ => chkE c.T N a sc a' | _ => false) = true := h
    split at h
    · exact fin (PE.imp (pe_un un_neg (peOk a h o).1) fun σ H Q ⟨ρ, S, Qd, Xd, hl, re, r, w, hq, hx⟩ =>
        one_rel hl re r w hx fun x S2 v H2 f r2 rx q => by
          obtain ⟨i, rfl, q⟩ := onI_of q
          cases rx
          exact ⟨i, rfl, (hq.after f).same r2 (.int _) q⟩)
    · cases h
  | .not a, sc, ex, X, W, h, o => by
    have h : (match (generalizing := false) ex with | .UnaryOp .Not a' _ => chkE c.T N a sc a' | _ => false) = true := h
    split at h
    · obtain ⟨p1, p2⟩ := peOk a h o
      have rd : ∀ {σ : Sl} {H : Hp} {Q : VK}, tE c W (.not a) σ H Q → tE c W a σ H fun v H1 => ∃ b, v = .bl b ∧ Q (.bl (!b)) H1 := fun {σ H Q} ⟨ρ, S, Qd, Xd, hl, re, r, w, hq, hx⟩ =>
        one_rel hl re r w hx fun x S2 v H2 f r2 rx q => by
          obtain ⟨i, rfl, q⟩ := onB_of q
          cases rx
          exact ⟨i, rfl, (hq.after f).same r2 (.bl _) q⟩
      refine ⟨PE.imp (pe_not p1) fun σ H Q h => rd h, PT.imp (pt_not p2) fun σ H Q h => ?_⟩
      have q := rd h
      obtain ⟨ρ, S, Qd, Xd, hl, re, r, w, hq, hx⟩ := q
      refine ⟨ρ, S, Qd, Xd, hl, re, r, w, fun d S' v H' f r' rd' q => ?_, hx⟩
      obtain ⟨b, e, b', e', q⟩ := hq d S' v H' f r' rd' q
      cases e'
      exact ⟨b, e, q⟩
    · cases h
  | .cmp b x y, sc, ex, X, W, h, o => by
    have h : (match (generalizing := false) ex with | .Compare a' [p] [b'] _ => coOk b p && chkE c.T N x sc a' && chkE c.T N y sc b' && !behindInMarks p b' | _ => false) = true := h
    split at h
    · obtain ⟨h, h4⟩ := and2 h
      obtain ⟨h, h3⟩ := and2 h
      obtain ⟨h1, h2⟩ := and2 h
      have rd : ∀ {σ : Sl} {H : Hp} {Q : VK}, tE c W (.cmp b x y) σ H Q → tOp (rCm c.K b) (tE c W x) (tE c W y) σ H Q := fun {σ H Q} ⟨ρ, S, Qd, Xd, hl, re, r, w, hq, hx⟩ =>
        two_rel hl re r w hx fun x y S2 v u H2 f r2 rx ry q => ⟨x, y, S2, _, r2, rx, ry, q, fun k q => (hq.after f).same r2 (.bl k) q⟩
      exact ⟨PE.imp (pe_cmpR (o.co h1) (peOk x h2 o).1 (peOk y h3 o).1 (not1 h4)) fun σ H Q h => rd h, PT.imp (pt_cmpR (o.co h1) (peOk x h2 o).1 (peOk y h3 o).1 (not1 h4)) fun σ H Q h => rd h⟩
    · cases h
  | .chain b d x y z, sc, ex, X, W, h, o => by
    have h : (match (generalizing := false) ex with | .Compare a' [o', p'] [b', c'] _ => coOk b o' && coOk d p' && chkE c.T N x sc a' && chkE c.T N y sc b' && chkE c.T N z sc c' && !lastMarks [o', p'] [b', c'] | _ => false) = true := h
    split at h
    · obtain ⟨h, h6⟩ := and2 h
      obtain ⟨h, h5⟩ := and2 h
      obtain ⟨h, h4⟩ := and2 h
      obtain ⟨h, h3⟩ := and2 h
      obtain ⟨h1, h2⟩ := and2 h
      have rd : ∀ {σ : Sl} {H : Hp} {Q : VK}, tE c W (.chain b d x y z) σ H Q → tChain (rCm c.K b) (rCm c.K d) (tE c W x) (tE c W y) (tE c W z) σ H Q := fun {σ H Q} ⟨ρ, S, Qd, Xd, hl, re, r, w, hq, hx⟩ => by
        refine ⟨ρ, S, _, Xd, hl, re, r, w, fun dx S1 v H1 f1 r1 rx q1 => ⟨ρ, S1, _, Xd, hl, re.mono r f1, r1, q1, fun dy S2 u H2 f2 r2 ry q2 => ?_, hx.after f1⟩, hx⟩
        refine ⟨dx, dy, S2, _, r2, rx.mono r1 f2, ry, q2, fun kb q3 => ⟨kb, rfl, ?_⟩⟩
        obtain ⟨qt, qf⟩ := q3
        cases kb with
        | true =>
          show if true = true then _ else _
          rw [if_pos rfl]
          refine ⟨ρ, S2, _, Xd, hl, re.mono r (f1.trans f2), r2, qt rfl, fun dz S3 w' H3 f3 r3 rz q3 => ?_, hx.after (f1.trans f2)⟩
          exact ⟨dy, dz, S3, _, r3, ry.mono r2 f3, rz, q3, fun kb q4 => (hq.after ((f1.trans f2).trans f3)).same r3 (.bl kb) q4⟩
        | false =>
          show if false = true then _ else _
          rw [if_neg Bool.false_ne_true]
          exact (hq.after (f1.trans f2)).same r2 (.bl false) (qf rfl)
      exact ⟨PE.imp (pe_chain (o.co h1) (o.co h2) (peOk x h3 o).1 (peOk y h4 o).1 (peOk z h5 o).1 (not1 h6)) fun σ H Q h => rd h, PT.imp (pt_chain (o.co h1) (o.co h2) (peOk x h3 o).1 (peOk y h4 o).1 (peOk z h5 o).1 (not1 h6)) fun σ H Q h => rd h⟩
    · cases h
  | .and a r, sc, ex, X, W, h, o => by
    have h : (match (generalizing := false) ex with | .BoolOp .And (a' :: b' :: r') _ => chkE c.T N a sc a' && chkR c.T N r sc (b' :: r') | _ => false) = true := h
    split at h
    · obtain ⟨h1, h2⟩ := and2 h
      have rd : ∀ {σ : Sl} {H : Hp} {Q : VK}, tE c W (.and a r) σ H Q → tE c W a σ H fun v H1 => ∃ b, v = .bl b ∧ if b = true then tR c W M.wpAnd r σ H1 Q else Q (.bl false) H1 := fun {σ H Q} ⟨ρ, S, Qd, Xd, hl, re, rr, w, hq, hx⟩ =>
        one_rel hl re rr w hx fun x S2 v H2 f r2 rx q => by
          obtain ⟨b, rfl, qt, qf⟩ := onB_of q
          cases rx
          refine ⟨b, rfl, ?_⟩
          cases b with
          | true => rw [if_pos rfl]; exact ⟨ρ, S2, Qd, Xd, hl, re.mono rr f, r2, qt rfl, hq.after f, hx.after f⟩
          | false => rw [if_neg Bool.false_ne_true]; exact (hq.after f).same r2 (.bl false) (qf rfl)
      obtain ⟨⟨g1, g2⟩, _⟩ := prOk r h2 (by simp) o _
      refine ⟨PE.imp (pe_and (peOk a h1 o).1 g1) fun σ H Q h => rd h, PT.imp (pw_and (peOk a h1 o).2 g2).pt fun σ H Q h => ?_⟩
      obtain ⟨ρ, S, Qd, Xd, hl, re, rr, w, hq, hx⟩ := rd h
      refine ⟨ρ, S, Qd, Xd, hl, re, rr, w, fun d S' v H' f r' rd' q => ?_, hx⟩
      obtain ⟨b, e, q⟩ := hq d S' v H' f r' rd' q
      refine ⟨b, e, ?_⟩
      cases b with
      | true => exact q
      | false =>
        obtain ⟨b', e', q⟩ := q
        cases e'
        exact q
    · cases h
  | .or a r, sc, ex, X, W, h, o => by
    have h : (match (generalizing := false) ex with | .BoolOp .Or (a' :: b' :: r') _ => chkE c.T N a sc a' && chkR c.T N r sc (b' :: r') | _ => false) = true := h
    split at h
    · obtain ⟨h1, h2⟩ := and2 h
      have rd : ∀ {σ : Sl} {H : Hp} {Q : VK}, tE c W (.or a r) σ H Q → tE c W a σ H fun v H1 => ∃ b, v = .bl b ∧ if b = true then Q (.bl true) H1 else tR c W M.wpOr r σ H1 Q := fun {σ H Q} ⟨ρ, S, Qd, Xd, hl, re, rr, w, hq, hx⟩ =>
        one_rel hl re rr w hx fun x S2 v H2 f r2 rx q => by
          obtain ⟨b, rfl, qt, qf⟩ := onB_of q
          cases rx
          refine ⟨b, rfl, ?_⟩
          cases b with
          | false => rw [if_neg Bool.false_ne_true]; exact ⟨ρ, S2, Qd, Xd, hl, re.mono rr f, r2, qf rfl, hq.after f, hx.after f⟩
          | true => rw [if_pos rfl]; exact (hq.after f).same r2 (.bl true) (qt rfl)
      obtain ⟨_, g1, g2⟩ := prOk r h2 (by simp) o _
      refine ⟨PE.imp (pe_or (peOk a h1 o).1 g1) fun σ H Q h => rd h, PT.imp (pw_or (peOk a h1 o).2 g2).pt fun σ H Q h => ?_⟩
      obtain ⟨ρ, S, Qd, Xd, hl, re, rr, w, hq, hx⟩ := rd h
      refine ⟨ρ, S, Qd, Xd, hl, re, rr, w, fun d S' v H' f r' rd' q => ?_, hx⟩
      obtain ⟨b, e, q⟩ := hq d S' v H' f r' rd' q
      refine ⟨b, e, ?_⟩
      cases b with
      | false => exact q
      | true =>
        obtain ⟨b', e', q⟩ := q
        cases e'
        exact q
    · cases h
  | .ite g a b, sc, ex, X, W, h, o => by
    have h : (match (generalizing := false) ex with | .IfExp c' a' b' _ => chkE c.T N g sc c' && chkE c.T N a sc a' && chkE c.T N b sc b' | _ => false) = true := h
    split at h
    · obtain ⟨h, h3⟩ := and2 h
      obtain ⟨h1, h2⟩ := and2 h
      have rd : ∀ {σ : Sl} {H : Hp} {Q : VK}, tE c W (.ite g a b) σ H Q → tB (tE c W g) σ H fun k H1 => if k = true then tE c W a σ H1 Q else tE c W b σ H1 Q := fun {σ H Q} ⟨ρ, S, Qd, Xd, hl, re, rr, w, hq, hx⟩ =>
        one_rel hl re rr w hx fun x S2 v H2 f r2 rx q => by
          obtain ⟨b, rfl, qt, qf⟩ := onB_of q
          cases rx
          refine ⟨b, rfl, ?_⟩
          cases b with
          | false => rw [if_neg Bool.false_ne_true]; exact ⟨ρ, S2, Qd, Xd, hl, re.mono rr f, r2, qf rfl, hq.after f, hx.after f⟩
          | true => rw [if_pos rfl]; exact ⟨ρ, S2, Qd, Xd, hl, re.mono rr f, r2, qt rfl, hq.after f, hx.after f⟩
      exact ⟨PE.imp (pe_ifExp (peOk g h1 o).2 (peOk a h2 o).1 (peOk b h3 o).1) fun σ H Q h => rd h, PT.imp (pt_ite (peOk g h1 o).2 (peOk a h2 o).2 (peOk b h3 o).2) fun σ H Q h => rd h⟩
    · cases h
  | .tup es, sc, ex, X, W, h, o => by
    have h : (match (generalizing := false) ex with | .Tuple es' _ _ => chkEs c.T N es sc es' | _ => false) = true := h
    split at h
    · exact fin (PE.imp (pe_tup (paOk es h o)) fun σ H Q ⟨ρ, S, Qd, Xd, hl, re, r, w, hq, hx⟩ =>
        ones_rel hl re r w hx fun x S2 v H2 f r2 rx q => ⟨by rw [← rx.length, ← lim_eq]; exact q.1, (hq.after f).newT r2 rx q.2⟩)
    · cases h
  | .lst es, sc, ex, X, W, h, o => by
    have h : (match (generalizing := false) ex with | .List es' _ => chkEs c.T N es sc es' | _ => false) = true := h
    split at h
    · exact fin (PE.imp (pe_lst (paOk es h o)) fun σ H Q ⟨ρ, S, Qd, Xd, hl, re, r, w, hq, hx⟩ =>
        ones_rel hl re r w hx fun x S2 v H2 f r2 rx q => ⟨by rw [← rx.length, ← lim_eq]; exact q.1, (hq.after f).newL r2 rx q.2⟩)
    · cases h
  | .ix a i, sc, ex, X, W, h, o => by
    have h : (match (generalizing := false) ex with | .Subscript a' i' _ => plB i' && chkE c.T N a sc a' && chkE c.T N i sc i' | _ => false) = true := h
    split at h
    · obtain ⟨h, h3⟩ := and2 h
      obtain ⟨h1, h2⟩ := and2 h
      exact fin (PE.imp (pe_ix o.ix (peOk a h2 o).1 (peOk i h3 o).1 (plB_ix h1)) fun σ H Q ⟨ρ, S, Qd, Xd, hl, re, r, w, hq, hx⟩ =>
        two_rel hl re r w hx fun x y S2 v u H2 f r2 rx ry q => ⟨x, y, S2, Qd, r2, rx, ry, q, hq.after f⟩)
    · cases h
  | .sl a lo hi, sc, ex, X, W, h, o => by
    have h : (match (generalizing := false) ex with | .Subscript a' (.Slice lo' hi' none _) _ => chkE c.T N a sc a' && chkO c.T N lo sc lo' && chkO c.T N hi sc hi' | _ => false) = true := h
    split at h
    · obtain ⟨h, h3⟩ := and2 h
      obtain ⟨h1, h2⟩ := and2 h
      exact fin (PE.imp (pe_slice o.sl (peOk a h1 o).1 (poOk lo h2 o).1 (poOk hi h3 o).1) fun σ H Q ⟨ρ, S, Qd, Xd, hl, re, r, w, hq, hx⟩ =>
        one_rel hl re r w hx fun x S2 v H2 f r2 rx q => ⟨ρ, S2, _, Xd, hl, re.mono r f, r2, q, fun l S3 H3 f3 r3 q3 => ⟨ρ, S3, _, Xd, hl, re.mono r (f.trans f3), r3, q3, fun u S4 H4 f4 r4 q4 =>
          ⟨x, S4, Qd, r4, (rx.mono r2 f3).mono r3 f4, q4, hq.after ((f.trans f3).trans f4)⟩, hx.after (f.trans f3)⟩, hx.after f⟩)
    · cases h
  | .rev a, sc, ex, X, W, h, o => by
    have h : (match (generalizing := false) ex with | .Subscript a' (.Slice none none (some (.UnaryOp .USub (.Constant (.int i) _ _) _)) _) _ => decide (i = 1) && chkE c.T N a sc a' | _ => false) = true := h
    split at h
    · obtain ⟨h1, h2⟩ := and2 h
      have e := of_decide_eq_true h1
      subst e
      have eK := o.eK
      exact fin (PE.imp (pe_revM (peOk a h2 o).1) fun σ H Q ⟨ρ, S, Qd, Xd, hl, re, r, w, hq, hx⟩ =>
        one_rel hl re r w hx fun x S2 v H2 f r2 rx q => by rw [eK]; exact ⟨x, S2, Qd, r2, rx, q, hq.after f⟩)
    · cases h
  | .call n es, sc, ex, X, W, h, o => by
    have h : (match (generalizing := false) ex with | .Call (.Name x _) es' [] _ => decide (c.T.fns[n]? = some x) && glB sc x && !dbgB x && es'.all plB && chkEs c.T N es sc es' | _ => false) = true := h
    split at h
    · obtain ⟨h, h5⟩ := and2 h
      obtain ⟨h, h4⟩ := and2 h
      obtain ⟨h, h3⟩ := and2 h
      obtain ⟨h1, h2⟩ := and2 h
      exact fin (PE.imp (pe_callM o (of_decide_eq_true h1) h2 (dbg_of h3).1 (paOk es h5 o) h4 (fun e => pnOk es h5 e)) fun σ H Q ⟨ρ, S, Qd, Xd, hl, re, r, w, hq, hx⟩ =>
        ones_rel hl re r w hx fun x S2 v H2 f r2 rx q => ⟨x, S2, Qd, Xd, rx, r2, q, hq.after f, hx.after f⟩)
    · cases h
  | .callk n es ks perm, sc, ex, X, W, h, o => by
    have h : (match (generalizing := false) ex with
      | .Call (.Name x _) es' kw _ => decide (c.T.fns[n]? = some x) && glB sc x && !dbgB x && es'.all plB && chkEs c.T N es sc es' && (match kwsB kw with
        | some nms => decide ((n, M.esLen es, nms, perm) ∈ c.T.kws) && decide (nms.length = M.esLen ks) && (kw.map (·.value)).all plB && chkEs c.T N ks sc (kw.map (·.value))
        | none => false)
      | _ => false) = true := h
    split at h
    · rename_i x p es' kw pos hh
      obtain ⟨h, h6⟩ := and2 h
      obtain ⟨h, h5⟩ := and2 h
      obtain ⟨h, h4⟩ := and2 h
      obtain ⟨h, h3⟩ := and2 h
      obtain ⟨h1, h2⟩ := and2 h
      split at h6
      · rename_i nms hn
        obtain ⟨h6, h9⟩ := and2 h6
        obtain ⟨h6, h8⟩ := and2 h6
        obtain ⟨h6, h7⟩ := and2 h6
        have e7 : nms.length = M.esLen ks := of_decide_eq_true h7
        exact fin (PE.imp (pe_callkM o (of_decide_eq_true h1) h2 (dbg_of h3).1 (paOk es h5 o) h4 (fun e => pnOk es h5 e) (pkOk ks h9 h8 o) hn (of_decide_eq_true h6)) fun σ H Q ⟨ρ, S, Qd, Xd, hl, re, r, w, hq, hx⟩ =>
          ones_rel hl re r w hx fun x S2 v H2 f r2 rx q => ⟨ρ, S2, _, Xd, hl, re.mono r f, r2, q, fun y S3 z H3 f3 r3 rz q => by
            obtain ⟨q1, q2, q3⟩ := q
            have rx3 := rx.mono r2 f3
            exact ⟨by rw [← rx3.length]; exact q1, by rw [← rz.length, e7]; exact q2, _, S3, Qd, Xd, rels_fm (rx3.append rz) perm, r3, q3, hq.after (f.trans f3), hx.after (f.trans f3)⟩, hx.after f⟩)
      · cases h6
    · cases h
  | .rep a, sc, ex, X, W, h, o => by
    obtain ⟨p, es', pos, rfl, hm, hg, hd, ho⟩ := biCall_of (show biCall c.T sc "repr" (one (chkE c.T N a sc)) ex = true from h)
    obtain ⟨e', rfl, hp, ho⟩ := one_of ho
    refine fin (PE.imp (pe_callB o.rep (o.gl hg) (o.free hm) (by decide +kernel) (pa_cons (peOk a ho o).1 pa_nil (plB_star hp)) (by decide +kernel) hd (plB_star hp) rfl) fun σ H Q ⟨ρ, S, Qd, Xd, hl, re, r, w, hq, hx⟩ => ?_)
    exact one_rel hl re r w hx fun x S2 v H2 f r2 rx q => ⟨x, v, S2, Qd, rfl, r2, rx, q.1, q.2.1, by rw [← o.rp]; exact q.2.2, hq.after f⟩
  | .bi b es, sc, ex, X, W, h, o => by
    obtain ⟨p, es', pos, rfl, hm, hg, hd, ho⟩ := biCall_of (show biCall c.T sc (biN b) (fun es' => !es'.isEmpty && es'.all plB && chkEs c.T N es sc es') ex = true from h)
    obtain ⟨ho, h3⟩ := and2 ho
    obtain ⟨h1, h2⟩ := and2 ho
    cases es' with
    | nil => cases h1
    | cons e' es' =>
      exact fin (PE.imp (pe_biM o hm hg (paOk es h3 o) h2) fun σ H Q ⟨ρ, S, Qd, Xd, hl, re, r, w, hq, hx⟩ =>
        ones_rel hl re r w hx fun x S2 v H2 f r2 rx q => ⟨x, S2, Qd, r2, rx, q, hq.after f⟩)
  | .mt m a es, sc, ex, X, W, h, o => by
    have h : (match (generalizing := false) ex with | .Call (.Attribute a' nm apos) es' [] cpos => decide (nm = mtN m) && mtOk m && (apos.endLine == cpos.line) && bareB a' && chkE c.T N a sc a' && es'.all plB && decide (es'.length < 29) && chkEs c.T N es sc es' | _ => false) = true := h
    split at h
    · rename_i a' nm apos es' cpos hh
      obtain ⟨h, h8⟩ := and2 h
      obtain ⟨h, h7⟩ := and2 h
      obtain ⟨h, h6⟩ := and2 h
      obtain ⟨h, h5⟩ := and2 h
      obtain ⟨h, h4⟩ := and2 h
      obtain ⟨h, h3⟩ := and2 h
      obtain ⟨h1, h2⟩ := and2 h
      have e := of_decide_eq_true h1
      subst e
      have ty : ∀ {H : Hp} {S : M.Sto} {x : M.D} {v : V} {xs : List M.D}, RelS c.K H S → RelD c.K H x v → M.lsOf S x = some xs → tyV c.K "list" v H := fun r rd e => by
        obtain ⟨p, vs, rfl, hs, _⟩ := lsOf_rel r rd e
        exact .inl ⟨rfl, vs, hs⟩
      cases es' with
      | nil =>
        have e0 : ∀ σ H Q, tEs c W es σ H Q → Q [] H := fun σ H Q q => pnOk es h8 rfl σ H Q q
        refine fin (PE.imp (pe_mt0 o h2 h3 h4 (peOk a h5 o).1) fun σ H Q ⟨ρ, S, Qd, Xd, hl, re, r, w, hq, hx⟩ =>
          one_rel hl re r w hx fun x S2 v H2 f r2 rx q => ?_)
        obtain ⟨xs, e, q⟩ := opt_of q
        have q2 := e0 σ H2 (fun vs H3 => rMt c.K m v vs H3 Q) ⟨ρ, S2, _, Xd, hl, re.mono r f, r2, q, fun y S3 z H3 f3 r3 rz q => ⟨x, y, S3, Qd, r3, rx.mono r2 f3, rz, q, hq.after (f.trans f3)⟩, hx.after f⟩
        exact ⟨ty r2 rx e, q2⟩
      | cons e' es' =>
        refine fin (PE.imp (pe_mtM o h2 h3 h4 (peOk a h5 o).1 (paOk es h8 o) h6 (of_decide_eq_true h7)) fun σ H Q ⟨ρ, S, Qd, Xd, hl, re, r, w, hq, hx⟩ =>
          one_rel hl re r w hx fun x S2 v H2 f r2 rx q => ?_)
        obtain ⟨xs, e, q⟩ := opt_of q
        exact ⟨ty r2 rx e, ρ, S2, _, Xd, hl, re.mono r f, r2, q, fun y S3 z H3 f3 r3 rz q => ⟨x, y, S3, Qd, r3, rx.mono r2 f3, rz, q, hq.after (f.trans f3)⟩, hx.after f⟩
    · cases h
  | .isi a t, sc, ex, X, W, h, o => by
    obtain ⟨p, es', pos, rfl, hm, hg, hd, ho⟩ := biCall_of (show biCall c.T sc "isinstance" (two (chkE c.T N a sc) (fun y => match y with | .Name z _ => decide (z = tyS t) && decide (z ∈ c.T.bts) && glB sc z && !dbgB z | _ => false)) ex = true from h)
    obtain ⟨e', y, rfl, hp, hp2, h1, h2⟩ := two_of ho
    split at h2
    · rename_i z pz
      obtain ⟨h2, h6⟩ := and2 h2
      obtain ⟨h2, h5⟩ := and2 h2
      obtain ⟨h3, h4⟩ := and2 h2
      have e := of_decide_eq_true h3
      subst e
      have pty : PE X (.Name (tyS t) pz) (tC (.ty (tyN t))) := pe_bltn (o.gl h5) (o.free (of_decide_eq_true h4)) (tyB t) rfl (by cases t <;> decide +kernel) (dbg_of h6).1
      have eK := o.eK
      refine fin (PE.imp (pe_callB call_isi (o.gl hg) (o.free hm) (by decide +kernel) (pa_cons (peOk a h1 o).1 (pa_cons pty pa_nil (plB_star hp2)) (plB_star hp)) (by decide +kernel) hd (plB_star hp) (plB_all (es := [_]) (by show (plB _ && true) = true; rw [hp2]; rfl))) fun σ H Q ⟨ρ, S, Qd, Xd, hl, re, r, w, hq, hx⟩ =>
        one_rel hl re r w hx fun x S2 v H2 f r2 rx q => ?_)
      obtain ⟨b, e, q⟩ := opt_of q
      obtain ⟨n, g1, g2⟩ := isTy_rel r2 rx e
      refine ⟨v, .ty (tyN t), .type n, .type (tyN t), b, rfl, .ty _, ?_, kit_ty g2, (hq.after f).same r2 (.bl b) q⟩
      rw [eK]; exact g1
    · cases h2
  | .isi2 a t u, sc, ex, X, W, h, o => by
    obtain ⟨p, es', pos, rfl, hm, hg, hd, ho⟩ := biCall_of (show biCall c.T sc "isinstance" (two (chkE c.T N a sc) (fun y => match y with | .Tuple [.Name z _, .Name z2 _] _ _ => clsB c.T sc t z && clsB c.T sc u z2 | _ => false)) ex = true from h)
    obtain ⟨e', y, rfl, hp, hp2, h1, h2⟩ := two_of ho
    split at h2
    · rename_i z pz z2 pz2 kt ptt
      obtain ⟨g1, g2⟩ := and2 h2
      obtain ⟨f1, p1⟩ := cls_name o g1
      obtain ⟨f2, p2⟩ := cls_name o g2
      have eK := o.eK
      have pt := pe_tup (x1 := kt) (pos := ptt) (pa_cons (p1 pz) (pa_cons (p2 pz2) pa_nil))
      refine fin (PE.imp (pe_callB call_isiT (o.gl hg) (o.free hm) (by decide +kernel) (pa_cons (peOk a h1 o).1 (pa_cons pt pa_nil (plB_star rfl)) (plB_star hp)) (by decide +kernel) hd (plB_star hp) (plB_all (es := [_]) rfl)) fun σ H Q ⟨ρ, S, Qd, Xd, hl, re, r, w, hq, hx⟩ =>
        one_rel hl re r w hx fun x S2 v H2 f r2 rx q => ?_)
      obtain ⟨b, e, q⟩ := opt_of q
      obtain ⟨d, e2, q⟩ := opt_of q
      refine ⟨by show 2 ≤ sizeLine; rw [sizeLine_eq]; omega, fun tp htp => ?_⟩
      have f3 : Fr S2 H2 S2 (L2.upd H2 tp (.tup [.ty (tyN t), .ty (tyN u)])) := Fr.laid htp
      have r3 := r2.laid (o := .tup [.ty (tyN t), .ty (tyN u)]) htp
      have rx3 := rx.mono r2 f3
      obtain ⟨n', k1, kk⟩ := isTy_all r3 rx3 e
      have k2 := kk t b e
      have k4 := kk u d e2
      refine ⟨v, tp, [.ty (tyN t), .ty (tyN u)], .type n', [.type (tyN t), .type (tyN u)], b || d, rfl, upd_same, .cons (.ty _) (.cons (.ty _) .nil), ?_, ?_, (hq.after (f.trans f3)).same r3 (.bl _) q⟩
      · rw [eK]; exact k1
      · refine kitAny_cons (kit_ty k2) (fun hb => kitAny_cons (kit_ty k4) (fun hd => ?_) fun hd => ?_) fun hb => ?_
        · subst hb hd; exact kitAny_nil
        · subst hd; rw [Bool.or_true]
        · subst hb; rfl
    · cases h2
  | .isx _ _, _, _, _, _, h, _ => nomatch h
  | .dic, sc, ex, X, W, h, o => by
    have h : (match (generalizing := false) ex with | .Dict [] [] _ => true | _ => false) = true := h
    split at h
    · exact fin (PE.imp pe_dnewK fun σ H Q ⟨ρ, S, Qd, Xd, hl, re, r, w, hq, hx⟩ => fun p hp => hq _ _ _ _ (Fr.laidS hp) (r.dic hp) (.ref p) (w p (r.none hp)))
    · cases h
  | .comp e t it oc, sc, ex, X, W, h, o => by
    have h : (match (generalizing := false) ex with
      | .ListComp e' [⟨tg, it', ifs, k⟩] scope _ => decide (k = 0) && blkC N sc scope (ownOf N (M.tgs t)) && decide ((ownOf N (M.tgs t)).map (·.2) = M.tgs t) && decide (M.tgs t).Nodup && noSet it' && chkIt c.T N it sc it' (isTupB tg) && chkTg N (tgB scope sc) t tg
          && (match ifs with | [] => chkO c.T N oc (relS scope sc) none | [d] => chkO c.T N oc (relS scope sc) (some d) | _ => false) && chkE c.T N e (relS scope sc) e'
      | _ => false) = true := h
    split at h
    · rename_i e' tg it' ifs k0 scope pos hh
      obtain ⟨h, h9⟩ := and2 h
      obtain ⟨h, h8⟩ := and2 h
      obtain ⟨h, h7⟩ := and2 h
      obtain ⟨h, h6⟩ := and2 h
      obtain ⟨h, h5⟩ := and2 h
      obtain ⟨h, h4⟩ := and2 h
      obtain ⟨h, h3⟩ := and2 h
      obtain ⟨h1, h2⟩ := and2 h
      have e0 := of_decide_eq_true h1
      subst e0
      have eo : (ownOf N (M.tgs t)).map (·.2) = M.tgs t := of_decide_eq_true h3
      refine fin ?_
      have hpe : PE X (.ListComp e' [⟨tg, it', ifs, 0⟩] scope pos) (tLc (tIt c W it) (tgG c.K t) (tCn c oc) (tE c W0 e) ((ownOf N (M.tgs t)).map (·.2))) := by
        refine pe_lc o.calm (by rw [o.eN]; exact o.nd) (piOk it h6 o) (by rw [o.eN, o.es]; exact blkOk_by h2) (fun s H C cl fp => ?_) (fun s H C cl fp => ?_) (fun s H C cl fp => ?_) (folded_of h5)
        · have ob := o.blk s H scope C cl fp
          have q := pgOk (X := X.blk s H scope (compEnvC scope cl C X.env) fp) (t := t) (e := tg) (ok := tgB scope sc) ob.calm (by rw [ob.eN]; exact ob.nd) (fun x hx => by rw [ob.es]; exact tgB_of hx) (by rw [ob.eN]; exact h7)
          rw [ob.eK] at q
          exact q
        · have ob := o.blk s H scope C cl fp
          split at h8
          · exact (poOk oc h8 ob).2
          · exact (poOk oc h8 ob).2
          · cases h8
        · exact (peOk e h9 (o.blk s H scope C cl fp)).1
      refine PE.imp hpe fun σ H Q ⟨ρ, S, Qd, Xd, hl, re, r, w, hq, hx⟩ => ?_
      refine ⟨ρ, S, _, Xd, hl, re, r, w, fun items chk S1 H1 J f1 r1 m q => ?_, hx⟩
      rw [eo]
      exact comp_rel hl (re.mono r f1) r1 m q.1 (hq.after f1) q.2
    · cases h
theorem paOk : ∀ (es : M.Es) {sc : Scope} {ex : List Expr} {X : Cx} {W : WX}, chkEs c.T N es sc ex = true → Ok c k N sc X W → PA X ex (tEs c W es)
  | .nil, sc, ex, X, W, h, o => by
    cases ex with
    | nil => exact PA.imp pa_nil fun σ H Q ⟨ρ, S, Qd, Xd, hl, re, r, w, hq, hx⟩ => hq [] S [] H Fr.refl r .nil w
    | cons _ _ => cases h
  | .cons e r, sc, ex, X, W, h, o => by
    cases ex with
    | nil => cases h
    | cons e' r' =>
      obtain ⟨h, h3⟩ := and2 (show (plB e' && chkE c.T N e sc e' && chkEs c.T N r sc r') = true from h)
      obtain ⟨h1, h2⟩ := and2 h
      exact PA.imp (pa_cons (peOk e h2 o).1 (paOk r h3 o) (plB_star h1)) fun σ H Q ⟨ρ, S, Qd, Xd, hl, re, rr, w, hq, hx⟩ =>
        one_rel hl re rr w hx fun x S2 v H2 f r2 rx q => ⟨ρ, S2, _, Xd, hl, re.mono rr f, r2, q, fun ds S3 vs H3 f3 r3 rds q => hq _ _ _ _ (f.trans f3) r3 (.cons (rx.mono r2 f3) rds) q, hx.after f⟩
  | .star e r, sc, ex, X, W, h, o => by
    have h : (match (generalizing := false) ex with | .Starred e' _ :: r' => chkE c.T N e sc e' && chkEs c.T N r sc r' | _ => false) = true := h
    split at h
    · rename_i e' p r'
      obtain ⟨h1, h2⟩ := and2 h
      have eK := o.eK
      refine PA.imp (pa_star (r := fun v H Q => ∃ a vs, v = .ref a ∧ (SqL X.K H a vs ∨ SqT X.K H a vs) ∧ Q vs H) (fun v H Q q => q) (peOk e h1 o).1 (paOk r h2 o)) fun σ H Q ⟨ρ, S, Qd, Xd, hl, re, rr, w, hq, hx⟩ =>
        one_rel hl re rr w hx fun x S2 v H2 f r2 rx q => ?_
      obtain ⟨xs, e2, q⟩ := opt_of q
      obtain ⟨a, vs, ea, hs, rd⟩ := sqOf_rel r2 rx e2
      exact ⟨a, vs, ea, by rw [eK]; exact hs, ρ, S2, _, Xd, hl, re.mono rr f, r2, q, fun ds S3 us H3 f3 r3 rds q => hq _ _ _ _ (f.trans f3) r3 ((rd.mono r2 f3).append rds) q, hx.after f⟩
    · cases h
theorem pkOk : ∀ (es : M.Es) {sc : Scope} {kw : List Keyword} {X : Cx} {W : WX}, chkEs c.T N es sc (kw.map (·.value)) = true → (kw.map (·.value)).all plB = true → Ok c k N sc X W → PK X kw (tEs c W es)
  | .nil, sc, kw, X, W, h, hp, o => by
    cases kw with
    | nil => exact ⟨fun pos pins s σ H Q I ⟨ρ, S, Qd, Xd, hl, re, r, w, hq, hx⟩ => pk_nil.run pos pins s σ H Q I (hq [] S [] H Fr.refl r .nil w)⟩
    | cons _ _ => cases h
  | .cons e r, sc, kw, X, W, h, hp, o => by
    cases kw with
    | nil => cases h
    | cons kw r' =>
      obtain ⟨nm, e', kp⟩ := kw
      obtain ⟨h, h3⟩ := and2 (show (plB e' && chkE c.T N e sc e' && chkEs c.T N r sc (r'.map (·.value))) = true from h)
      obtain ⟨h1, h2⟩ := and2 h
      obtain ⟨_, hp2⟩ := and2 (show (plB e' && (r'.map (·.value)).all plB) = true from hp)
      exact ⟨fun pos pins s σ H Q I ⟨ρ, S, Qd, Xd, hl, re, rr, w, hq, hx⟩ => (pk_cons (peOk e h2 o).1 (pkOk r h3 hp2 o)).run pos pins s σ H Q I
        (one_rel hl re rr w hx fun x S2 v H2 f r2 rx q => ⟨ρ, S2, _, Xd, hl, re.mono rr f, r2, q, fun ds S3 vs H3 f3 r3 rds q => hq _ _ _ _ (f.trans f3) r3 (.cons (rx.mono r2 f3) rds) q, hx.after f⟩)⟩
  | .star e r, sc, kw, X, W, h, hp, o => by
    have h : (match (generalizing := false) kw.map (·.value) with | .Starred e' _ :: r' => chkE c.T N e sc e' && chkEs c.T N r sc r' | _ => false) = true := h
    split at h
    · rename_i heq
      rw [heq] at hp
      cases hp
    · cases h
theorem pnOk : ∀ (es : M.Es) {sc : Scope} {ex : List Expr} {T : Tb}, chkEs T N es sc ex = true → ex = [] → ∀ {c : Cn} {W : WX} σ H Q, tEs c W es σ H Q → Q [] H
  | .nil, sc, ex, T, h, e, c, W, σ, H, Q, ⟨ρ, S, Qd, Xd, hl, re, r, w, hq, hx⟩ => hq [] S [] H Fr.refl r .nil w
  | .cons _ _, sc, ex, T, h, e, c, W, σ, H, Q, _ => by subst e; cases h
  | .star _ _, sc, ex, T, h, e, c, W, σ, H, Q, _ => by subst e; cases h
theorem prOk : ∀ (es : M.Es) {sc : Scope} {ex : List Expr} {X : Cx} {W : WX}, chkR c.T N es sc ex = true → ex ≠ [] → Ok c k N sc X W → ∀ pos : Pos,
    (PE X (.BoolOp .And ex pos) (tR c W M.wpAnd es) ∧ PW X (.BoolOp .And ex pos) (tB (tR c W M.wpAnd es))) ∧ PE X (.BoolOp .Or ex pos) (tR c W M.wpOr es) ∧ PW X (.BoolOp .Or ex pos) (tB (tR c W M.wpOr es))
  | .nil, sc, ex, X, W, h, hne, o, pos => by
    cases ex with
    | nil => exact absurd rfl hne
    | cons _ _ => cases h
  | .star _ _, sc, ex, X, W, h, _, o, pos => nomatch h
  | .cons e r, sc, ex, X, W, h, hne, o, pos => by
    cases ex with
    | nil => exact absurd rfl hne
    | cons e' r' =>
      obtain ⟨h1, h2⟩ := and2 (show (chkE c.T N e sc e' && chkR c.T N r sc r') = true from h)
      obtain ⟨p1, p2⟩ := peOk e h1 o
      cases r' with
      | nil =>
        cases r with
        | nil =>
          have i1 : ∀ σ H Q, tR c W M.wpAnd (.cons e .nil) σ H Q → tE c W e σ H Q := fun σ H Q ⟨ρ, S, Qd, Xd, hl, re, rr, w, hq, hx⟩ => ⟨ρ, S, Qd, Xd, hl, re, rr, w, hq, hx⟩
          have i2 : ∀ σ H Q, tR c W M.wpOr (.cons e .nil) σ H Q → tE c W e σ H Q := fun σ H Q ⟨ρ, S, Qd, Xd, hl, re, rr, w, hq, hx⟩ => ⟨ρ, S, Qd, Xd, hl, re, rr, w, hq, hx⟩
          exact ⟨⟨PE.imp (pe_one p1) i1, ⟨fun wh pins s σ H Q I h => (pw_and1 p2).run wh pins s σ H Q I (i1 _ _ _ h)⟩⟩, PE.imp (pe_one p1) i2, ⟨fun wh pins s σ H Q I h => (pw_or1 p2).run wh pins s σ H Q I (i2 _ _ _ h)⟩⟩
        | cons _ _ => cases h2
        | star _ _ => cases h2
      | cons e2 r2 =>
        obtain ⟨⟨g1, g2⟩, g3, g4⟩ := prOk r h2 (by simp) o pos
        cases r with
        | nil => cases h2
        | star _ _ => cases h2
        | cons f r =>
          have rdA : ∀ {σ : Sl} {H : Hp} {Q : VK}, tR c W M.wpAnd (.cons e (.cons f r)) σ H Q → tE c W e σ H fun v H1 => ∃ b, v = .bl b ∧ if b = true then tR c W M.wpAnd (.cons f r) σ H1 Q else Q (.bl false) H1 := fun {σ H Q} ⟨ρ, S, Qd, Xd, hl, re, rr, w, hq, hx⟩ =>
            one_rel hl re rr w hx fun x S2 v H2 f r2 rx q => by
              obtain ⟨b, rfl, qt, qf⟩ := onB_of q
              cases rx
              refine ⟨b, rfl, ?_⟩
              cases b with
              | true => rw [if_pos rfl]; exact ⟨ρ, S2, Qd, Xd, hl, re.mono rr f, r2, qt rfl, hq.after f, hx.after f⟩
              | false => rw [if_neg Bool.false_ne_true]; exact (hq.after f).same r2 (.bl false) (qf rfl)
          have rdO : ∀ {σ : Sl} {H : Hp} {Q : VK}, tR c W M.wpOr (.cons e (.cons f r)) σ H Q → tE c W e σ H fun v H1 => ∃ b, v = .bl b ∧ if b = true then Q (.bl true) H1 else tR c W M.wpOr (.cons f r) σ H1 Q := fun {σ H Q} ⟨ρ, S, Qd, Xd, hl, re, rr, w, hq, hx⟩ =>
            one_rel hl re rr w hx fun x S2 v H2 f r2 rx q => by
              obtain ⟨b, rfl, qt, qf⟩ := onB_of q
              cases rx
              refine ⟨b, rfl, ?_⟩
              cases b with
              | false => rw [if_neg Bool.false_ne_true]; exact ⟨ρ, S2, Qd, Xd, hl, re.mono rr f, r2, qf rfl, hq.after f, hx.after f⟩
              | true => rw [if_pos rfl]; exact (hq.after f).same r2 (.bl true) (qt rfl)
          refine ⟨⟨PE.imp (pe_and p1 g1) fun σ H Q h => rdA h, ⟨fun wh pins s σ H Q I h => (pw_and p2 g2).run wh pins s σ H Q I ?_⟩⟩, PE.imp (pe_or p1 g3) fun σ H Q h => rdO h, ⟨fun wh pins s σ H Q I h => (pw_or p2 g4).run wh pins s σ H Q I ?_⟩⟩
          · obtain ⟨ρ, S, Qd, Xd, hl, re, rr, w, hq, hx⟩ := rdA h
            refine ⟨ρ, S, Qd, Xd, hl, re, rr, w, fun d S' v H' f r' rd' q => ?_, hx⟩
            obtain ⟨b, e, q⟩ := hq d S' v H' f r' rd' q
            refine ⟨b, e, ?_⟩
            cases b with
            | true => exact q
            | false =>
              obtain ⟨b', e', q⟩ := q
              cases e'
              exact q
          · obtain ⟨ρ, S, Qd, Xd, hl, re, rr, w, hq, hx⟩ := rdO h
            refine ⟨ρ, S, Qd, Xd, hl, re, rr, w, fun d S' v H' f r' rd' q => ?_, hx⟩
            obtain ⟨b, e, q⟩ := hq d S' v H' f r' rd' q
            refine ⟨b, e, ?_⟩
            cases b with
            | false => exact q
            | true =>
              obtain ⟨b', e', q⟩ := q
              cases e'
              exact q
theorem poOk : ∀ (oe : M.Oe) {sc : Scope} {ex : Option Expr} {X : Cx} {W : WX}, chkO c.T N oe sc ex = true → Ok c k N sc X W → PO X ex (tO c W oe) ∧ PTs X ex.toList (tCn c oe)
  | .none, sc, ex, X, W, h, o => by
    cases ex with
    | none => exact ⟨⟨fun pins s σ H Q I ⟨ρ, S, Qd, Xd, hl, re, r, w, hq, hx⟩ => po_none.run pins s σ H Q I (hq none S H Fr.refl r w)⟩, ⟨fun pins s σ H Q I ⟨ρ, S, Qd, hl, re, r, w, hq⟩ => pts_nil.run pins s σ H Q I (hq true S H Fr.refl r w)⟩⟩
    | some _ => cases h
  | .some e, sc, ex, X, W, h, o => by
    cases ex with
    | none => cases h
    | some e' =>
      obtain ⟨p1, p2⟩ := peOk e (show chkE c.T N e sc e' = true from h) o
      refine ⟨⟨fun pins s σ H Q I ⟨ρ, S, Qd, Xd, hl, re, r, w, hq, hx⟩ => (po_some p1).run pins s σ H Q I ?_⟩, ⟨fun pins s σ H Q I ⟨ρ, S, Qd, hl, re, r, w, hq⟩ => (pts_one p2).run pins s σ H Q I ?_⟩⟩
      · exact one_rel hl re r w hx fun x S2 v H2 f r2 rx q => by
          obtain ⟨i, rfl, q⟩ := onI_of q
          cases rx
          exact ⟨i, rfl, hq _ _ _ f r2 q⟩
      · refine ⟨ρ, S, _, M.X0, hl, re, r, w, fun x S2 v H2 f r2 rx q => ?_, okX0⟩
        obtain ⟨b, rfl, q⟩ := onB_of q
        cases rx
        exact ⟨b, rfl, hq _ _ _ f r2 q⟩
theorem piOk : ∀ (it : M.It) {sc : Scope} {ex tg : Expr} {X : Cx} {W : WX}, chkIt c.T N it sc ex (isTupB tg) = true → Ok c k N sc X W → PI X tg ex (tIt c W it)
  | .seq e, sc, ex, tg, X, W, h, o => by
    have eK := o.eK
    exact PI.imp (pi_seqM (peOk e (show chkE c.T N e sc ex = true from h) o).1) fun σ H R ⟨ρ, S, Rd, Xd, hl, re, r, w, hq, hx⟩ => one_rel hl re r w hx fun x S2 v H2 f r2 rx q => by rw [eK]; exact seq_rel r2 rx q (hq.after f)
  | .rng e, sc, ex, tg, X, W, h, o => by
    obtain ⟨p, es', pos, rfl, hm, hg, hd, ho⟩ := biCall_of (show biCall c.T sc "range" (one (chkE c.T N e sc)) ex = true from h)
    obtain ⟨e', rfl, hp, ho⟩ := one_of ho
    refine PI.imp (pi_range1 (o.gl hg) (o.free hm) (pa_cons (peOk e ho o).1 pa_nil (plB_star hp)) (plB_star hp)) fun σ H R ⟨ρ, S, Rd, Xd, hl, re, r, w, hq, hx⟩ => one_rel hl re r w hx fun x S2 v H2 f r2 rx q => ?_
    obtain ⟨j, rfl, q⟩ := onI_of q
    cases rx
    obtain ⟨_, _, q1, q2, q3⟩ := q
    refine ⟨j, rfl, q1, q2, (hq.after f).here r2 ?_ q3⟩
    have e0 : j.toNat = (j - 0).toNat := by rw [Int.sub_zero]
    rw [e0]
    exact mat_rng
  | .rng2 a b, sc, ex, tg, X, W, h, o => by
    obtain ⟨p, es', pos, rfl, hm, hg, hd, ho⟩ := biCall_of (show biCall c.T sc "range" (two (chkE c.T N a sc) (chkE c.T N b sc)) ex = true from h)
    obtain ⟨e1, e2, rfl, hp, hp2, h1, h2⟩ := two_of ho
    refine PI.imp (pi_range2 (o.gl hg) (o.free hm) (pa_cons (peOk a h1 o).1 (pa_cons (peOk b h2 o).1 pa_nil (plB_star hp2)) (plB_star hp)) (by rw [plB_star hp, plB_star hp2]; rfl) (plB_star hp2)) fun σ H R ⟨ρ, S, Rd, Xd, hl, re, r, w, hq, hx⟩ => two_rel hl re r w hx fun x y S2 v u H2 f r2 rx ry q => ?_
    obtain ⟨i, ei, q'⟩ := onI_of q
    obtain ⟨j, ej, q''⟩ := onI_of q'
    subst ei ej
    cases rx
    cases ry
    obtain ⟨q1, q2, q3, q4, q5⟩ := q''
    exact ⟨i, j, rfl, ⟨q1, q2, q3, q4⟩, (hq.after f).here r2 mat_rng q5⟩
  | .zip a b, sc, ex, tg, X, W, h, o => by
    obtain ⟨ht, h⟩ := and2 (show (isTupB tg && biCall c.T sc "zip" (two (chkE c.T N a sc) (chkE c.T N b sc)) ex) = true from h)
    obtain ⟨ts, tk, tp, rfl⟩ := tupB_of ht
    obtain ⟨p, es', pos, rfl, hm, hg, hd, ho⟩ := biCall_of h
    obtain ⟨e1, e2, rfl, hp, hp2, h1, h2⟩ := two_of ho
    have eK := o.eK
    refine PI.imp (pi_zipM (o.gl hg) (o.free hm) (pa_cons (peOk a h1 o).1 (pa_cons (peOk b h2 o).1 pa_nil (plB_star hp2)) (plB_star hp)) (plB_star hp) (plB_all (es := [_]) (by show (plB _ && true) = true; rw [hp2]; rfl))) fun σ H R ⟨ρ, S, Rd, Xd, hl, re, r, w, hq, hx⟩ => two_rel hl re r w hx fun x y S2 v u H2 f r2 rx ry q => ?_
    rw [eK]
    rcases zip_cases q with ⟨xs, ys, rfl, rfl, q⟩ | ⟨a, ys, rfl, rfl, q⟩ | q
    · cases rx with
      | tup a1 a2 => cases ry with
        | tup b1 b2 => exact ⟨_, _, .tup _, .tup _, _, _, rfl, rfl, rfl, a1, b1, (hq.after f).here r2 (mat_zipM (fun _ _ f' _ _ => ⟨_, sqt_mono r2 f' a1, a2.mono r2 f'⟩) fun _ _ f' _ _ => ⟨_, sqt_mono r2 f' b1, b2.mono r2 f'⟩) q⟩
    · cases rx with
      | str a => cases ry with
        | tup b1 b2 => exact ⟨_, _, .txt _, .tup _, _, _, rfl, rfl, rfl, rfl, b1, (hq.after f).here r2 (mat_zipM (fun _ _ _ _ _ => ⟨_, rfl, chrs_rel a⟩) fun _ _ f' _ _ => ⟨_, sqt_mono r2 f' b1, b2.mono r2 f'⟩) q⟩
    · obtain ⟨xs, ex, q⟩ := opt_of q
      obtain ⟨ys, ey, q⟩ := opt_of q
      obtain ⟨p1, vs, rfl, hs, _⟩ := lsOf_rel r2 rx ex
      obtain ⟨p2, us, rfl, hs2, _⟩ := lsOf_rel r2 ry ey
      exact ⟨_, _, .lst p1, .lst p2, vs, us, rfl, rfl, rfl, hs, hs2, (hq.after f).here r2 (mat_zipM (fun _ _ f' r' ch => ls_at r2 f' r' rx ch.1) fun _ _ f' r' ch => ls_at r2 f' r' ry ch.2) q⟩
  | .enum e, sc, ex, tg, X, W, h, o => by
    obtain ⟨ht, h⟩ := and2 (show (isTupB tg && biCall c.T sc "enumerate" (one (chkE c.T N e sc)) ex) = true from h)
    obtain ⟨ts, tk, tp, rfl⟩ := tupB_of ht
    obtain ⟨p, es', pos, rfl, hm, hg, hd, ho⟩ := biCall_of h
    obtain ⟨e', rfl, hp, ho⟩ := one_of ho
    have eK := o.eK
    refine PI.imp (pi_enum (o.gl hg) (o.free hm) (pa_cons (peOk e ho o).1 pa_nil (plB_star hp)) (plB_star hp)) fun σ H R ⟨ρ, S, Rd, Xd, hl, re, r, w, hq, hx⟩ => one_rel hl re r w hx fun x S2 v H2 f r2 rx q => ?_
    obtain ⟨xs, ex, q⟩ := opt_of q
    obtain ⟨p1, vs, rfl, hs, _⟩ := lsOf_rel r2 rx ex
    rw [eK]
    exact ⟨p1, vs, rfl, hs, (hq.after f).here r2 (mat_enum r2 rx) q⟩
end
end
end Snd
namespace Snd
open PySem PySem.Spec PyProof.Rows L2
def isStar : Expr → Bool
  | .Starred .. => true | _ => false
def swName (sc : Scope) (line : Nat) : Expr → Option Str
  | .Name id pos => if sc.names.lookup id == some .local && pos.line == line then some id else none
  | _ => none
def swTup (sc : Scope) (ts vs : List Expr) : Option (Option (List Str)) :=
    if (!(ts.length == 2 || ts.length == 3) || vs.length != ts.length) = true then some none
    else if vs.any isStar = true then some none
    else if ((ts.filterMap (swName sc ((ts.head?.map (·.pos.line)).getD 0))).length != ts.length || (ts.filterMap (swName sc ((ts.head?.map (·.pos.line)).getD 0))).eraseDups.length != (ts.filterMap (swName sc ((ts.head?.map (·.pos.line)).getD 0))).length) = true then some none
      else if vs.all (foldedForSure 8) = true then some none
      else if vs.all (constantsAlone 8) = true then none
      else some (some (ts.filterMap (swName sc ((ts.head?.map (·.pos.line)).getD 0))))
theorem sw_ok {env : Env} {ts vs : List Expr} {k k2 : Nat} {p p2 : Pos} {r : Option (List Str)} (hk : env.scope.kind = .function) (h : swTup env.scope ts vs = some r) : swappedStores [.Tuple ts k p] (.Tuple vs k2 p2) env = pure r := by
  have hb : env.blockKind = .function := by unfold Env.blockKind; rw [hk]; rfl
  have e1 : ∀ F : Expr → Bool, (∀ x, F x = isStar x) → vs.any F = vs.any isStar := fun F h => by rw [funext h]
  have e2 : ∀ (line : Nat) (F : Expr → Option Str), (∀ x, F x = swName env.scope line x) → ts.filterMap F = ts.filterMap (swName env.scope line) := fun line F h => by rw [funext h]
  unfold swappedStores
  unfold swTup at h
  simp only [hb, bne_self_eq_false, Bool.or_false]
  split at h
  · rename_i h1
    cases h
    rw [if_pos h1]
  · rename_i h1
    rw [if_neg h1]
    split at h
    · rename_i h2
      cases h
      rw [if_pos ((e1 _ (by intro x; cases x <;> rfl)).trans h2)]
    · rename_i h2
      rw [if_neg (fun z => h2 ((e1 _ (by intro x; cases x <;> rfl)).symm.trans z))]
      rw [e2 ((ts.head?.map (·.pos.line)).getD 0) _ (by intro x; cases x <;> rfl)]
      split at h
      · rename_i h3
        cases h
        exact if_pos h3
      · rename_i h3
        rw [if_neg h3]
        split at h
        · rename_i h4
          cases h
          exact if_pos h4
        · rename_i h4
          rw [if_neg h4]
          split at h
          · cases h
          · rename_i h5
            cases h
            rw [if_neg h5]
def notComp : Expr → Bool
  | .ListComp .. => false | .SetComp .. => false | .DictComp .. => false | _ => true
def notTup : Expr → Bool
  | .Tuple .. => false | _ => true
/-- a comprehension on the name's own line, the name a local: the stores are exchanged -/
def swC (sc : Scope) (e tg : Expr) : Bool := match e, tg with
  | .ListComp _ _ scope pos, .Name t p => locB sc t && (p.line == pos.line) && !(scope.names.any fun (n, k) => n == t && (k == .local || k == .cell))
  | _, _ => false
theorem swapsWith_not {e : Expr} {tg : Option Expr} {l : Nat} {env : Env} (h : notComp e = true) : swapsWith e tg l env = pure false := by
  cases e <;> first | rfl | cases h
theorem swapsSole_not {e tg : Expr} {l : Nat} {env : Env} (h : notComp e = true) : swapsWithSole [tg] e l env = pure false := swapsWith_not h
/-- what a set's value and target may be: no exchange of stores -/
def setB (sc : Scope) (e tg : Expr) : Bool := match tg with
  | .Name t p => (match e with
    | .ListComp _ _ scope pos => !(locB sc t && (p.line == pos.line) && !(scope.names.any fun (n, k) => n == t && (k == .local || k == .cell)))
    | e => notComp e)
  | .Tuple ts _ _ => (match e with
    | .Tuple vs _ _ => decide (swTup sc ts vs = some none)
    | .ListComp .. => true
    | e => notComp e)
  | _ => false
theorem set_sw {env : Env} {e tg : Expr} {l : Nat} (hk : env.scope.kind = .function) (h : setB env.scope e tg = true) : swapsWithSole [tg] e l env = pure false ∧ swappedStores [tg] e env = pure none := by
  have hb : env.blockKind = .function := by unfold Env.blockKind; rw [hk]; rfl
  cases tg with
  | Name t p =>
    refine ⟨?_, by cases e <;> rfl⟩
    cases e with
    | ListComp elt gs scope pos =>
      have h := not1 (show (!(locB env.scope t && (p.line == pos.line) && !(scope.names.any fun (n, k) => n == t && (k == .local || k == .cell)))) = true from h)
      have e1 : locB env.scope t = (env.kindOf t == some .local) := by
        unfold locB Env.kindOf
        cases e2 : env.scope.names.lookup t with
        | none => rfl
        | some q => cases q <;> rfl
      rw [e1] at h
      show swapsWith (.ListComp elt gs scope pos) (some (.Name t p)) l env = pure false
      unfold swapsWith
      simp only [hb, Expr.pos]
      have hf : ((ScopeKind.function == ScopeKind.function) && (env.kindOf t == some .local) && (p.line == pos.line) && !(scope.names.any fun (n, k) => n == t && (k == .local || k == .cell))) = false := by
        rw [show (ScopeKind.function == ScopeKind.function) = true from rfl, Bool.true_and]; exact h
      first
        | (show pure _ = pure false; exact congrArg pure hf)
        | (rw [hf])
        | (simp only [hf])
    | _ => first | exact swapsSole_not h | cases h
  | Tuple ts k p =>
    cases e with
    | Tuple vs k2 p2 => exact ⟨swapsSole_not rfl, sw_ok hk (of_decide_eq_true h)⟩
    | ListComp elt gs scope pos => exact ⟨rfl, rfl⟩
    | _ => first | exact ⟨swapsSole_not h, rfl⟩ | cases h
  | _ => cases h
end Snd
namespace Snd
open PySem PySem.Spec PyProof.Rows L2
def lineB (e tg : Expr) : Bool := match e, tg with
  | .ListComp _ _ _ pos, .Name _ p => p.line == pos.line
  | _, _ => false
/-- names side by side, all plain locals, on one line: stored from the right -/
def parB (N : List Str) (sc : Scope) (is : List Nat) (ts vs : List Expr) : Bool :=
  namesAt N (locB sc) is ts && decide is.Nodup && vs.all plB && decide (swTup sc ts vs = some (some (is.filterMap fun i => N[i]?)))
def compV : M.Tg → Expr → Bool
  | .v _, .ListComp _ [_] _ _ => true
  | _, _ => false
theorem compV_of {t : M.Tg} {e : Expr} (h : compV t e = true) : ∃ i elt g0 scope p0, t = .v i ∧ e = .ListComp elt [g0] scope p0 := by
  unfold compV at h
  split at h
  · exact ⟨_, _, _, _, _, rfl, rfl⟩
  · cases h
theorem sub_asg {o i : Expr} {pos : Pos} {env : Env} (h : plB i = true) : ∀ v, assign (.Subscript o i pos) env v = (do
      let ov ← holding [v] (eval o env)
      let iv ← holding [v, ov] (eval i env)
      standAt pos
      holding [v, ov, iv] (setItem ov iv v)
      release [v, ov, iv] []) := by
  cases i <;> first | (intro _; rfl) | cases h
mutual
def chkS (T : Tb) (N : List Str) : M.St → Scope → Stmt → Bool
  | .set t e => fun sc st => (match st with
    | .Assign [tg] e' _ => chkTg N (locCB sc) t tg && chkE T N e sc e' && (setB sc e' tg || (compV t e' && swC sc e' tg))
    | _ => false)
  | .par i j a b => fun sc st => (match st with
    | .Assign [.Tuple [x, y] _ _] (.Tuple [a', b'] _ _) _ => parB N sc [i, j] [x, y] [a', b'] && chkE T N a sc a' && chkE T N b sc b'
    | _ => false)
  | .par3 i j l a b d => fun sc st => (match st with
    | .Assign [.Tuple [x, y, z] _ _] (.Tuple [a', b', d'] _ _) _ => parB N sc [i, j, l] [x, y, z] [a', b', d'] && chkE T N a sc a' && chkE T N b sc b' && chkE T N d sc d'
    | _ => false)
  | .nev => fun _ _ => true
  | .six a i e => fun sc st => (match st with
    | .Assign [.Subscript a' i' _] e' _ => plB i' && notComp e' && chkE T N a sc a' && chkE T N i sc i' && chkE T N e sc e'
    | _ => false)
  | .ex e => fun sc st => (match st with | .Expr e' _ => notComp e' && chkE T N e sc e' | _ => false)
  | .ret e => fun sc st => (match st with | .Return (some e') _ => chkE T N e sc e' | _ => false)
  | .retn => fun sc st => (match st with | .Return none _ => true | _ => false)
  | .if_ g a b => fun sc st => (match st with | .If g' a' b' _ => chkE T N g sc g' && chkSs T N a sc a' && chkSs T N b sc b' | _ => false)
  | .while_ g b => fun sc st => (match st with | .While g' b' [] _ => chkE T N g sc g' && chkSs T N b sc b' | _ => false)
  | .for_ t it b => fun sc st => (match st with | .For tg it' b' [] _ => chkTg N (locCB sc) t tg && noSet it' && chkIt T N it sc it' (isTupB tg) && chkSs T N b sc b' | _ => false)
  | .brk => fun sc st => (match st with | .Break _ => true | _ => false)
  | .pass => fun sc st => (match st with | .Pass _ => true | _ => false)
  | .raise _ _ => fun _ _ => false
  | .try_ _ _ _ _ => fun _ _ => false
def chkSs (T : Tb) (N : List Str) : M.Ss → Scope → List Stmt → Bool
  | .nil => fun sc st => st.isEmpty
  | .cons s r => fun sc st => (match st with | s' :: r' => chkS T N s sc s' && chkSs T N r sc r' | [] => false)
end
/-- what is wanted of a statement -/
structure OkK (c : Cn) (W : WX) (S : M.Sto) (H : Hp) (Kd : M.Kt) (D : Ends) : Prop where
  nx : ∀ ρ' S' σ' H', Fr S H S' H' → RelS c.K H' S' → RelE c.K H' ρ' σ' → ρ'.length = σ'.length → Kd.nx ρ' S' → D.nx σ' H'
  rt : OkV c.K S H Kd.rt D.rt
  bk : ∀ ρ' S' σ' H', Fr S H S' H' → RelS c.K H' S' → RelE c.K H' ρ' σ' → ρ'.length = σ'.length → Kd.bk ρ' S' → D.bk σ' H'
  xe : ∀ k fs ρ' S' σ' H' cls d, Fr S H S' H' → RelS c.K H' S' → RelE c.K H' ρ' σ' → ρ'.length = σ'.length → RelX c.K c.mg c.T k fs cls d H' → Kd.xe k fs ρ' S' → W cls d σ' H'
theorem OkK.after {c : Cn} {W : WX} {S S' : M.Sto} {H H' : Hp} {Kd : M.Kt} {D : Ends} (h : OkK c W S H Kd D) (f : Fr S H S' H') : OkK c W S' H' Kd D :=
  ⟨fun _ _ _ _ f2 => h.nx _ _ _ _ (f.trans f2), h.rt.after f, fun _ _ _ _ f2 => h.bk _ _ _ _ (f.trans f2), fun _ _ _ _ _ _ _ _ f2 => h.xe _ _ _ _ _ _ _ _ (f.trans f2)⟩
theorem OkK.ox {c : Cn} {W : WX} {S : M.Sto} {H : Hp} {Kd : M.Kt} {D : Ends} (h : OkK c W S H Kd D) {ρ : M.Env} {σ : Sl} (re : RelE c.K H ρ σ) (hl : ρ.length = σ.length) (r : RelS c.K H S) :
    OkX c S H (fun k fs S1 => Kd.xe k fs ρ S1) fun cls d H' => W cls d σ H' := fun k fs S' H' cls d f r' rx q => h.xe k fs ρ S' σ H' cls d f r' (re.mono r f) hl rx q
def tS (c : Cn) (W : WX) (st : M.St) : TS := fun D σ H => ∃ ρ S Kd, ρ.length = σ.length ∧ RelE c.K H ρ σ ∧ RelS c.K H S ∧ M.wpS c.G st ρ S Kd ∧ OkK c W S H Kd D
def tSs (c : Cn) (W : WX) (st : M.Ss) : TS := fun D σ H => ∃ ρ S Kd, ρ.length = σ.length ∧ RelE c.K H ρ σ ∧ RelS c.K H S ∧ M.wpSs c.G st ρ S Kd ∧ OkK c W S H Kd D
theorem PS.imp {X : Cx} {e : Stmt} {t t' : TS} (h : PS X e t) (i : ∀ D σ H, t' D σ H → t D σ H) : PS X e t' := ⟨fun pins s σ H D I q => h.run pins s σ H D I (i D σ H q)⟩
theorem PSs.imp {X : Cx} {e : List Stmt} {t t' : TS} (h : PSs X e t) (i : ∀ D σ H, t' D σ H → t D σ H) : PSs X e t' := ⟨fun pins s σ H D I q => h.run pins s σ H D I (i D σ H q)⟩
/-- a def's body's context -/
structure OkS (c : Cn) (k : Nat) (N : List Str) (sc : Scope) (X : Cx) (W : WX) : Prop where
  ok : Ok c k N sc X W
  kind : sc.kind = .function
  fn : ∀ x, X.fn x = true
  po : PassesOwn (model X.prog X.w) X.A X.env X.xe
section
variable {c : Cn} {k : Nat} {N : List Str}
theorem tgt_of {sc : Scope} {X : Cx} {W : WX} (o : OkS c k N sc X W) {t : M.Tg} {tg : Expr} (h : chkTg N (locCB sc) t tg = true) : PG X tg (tgG c.K t) := by
  have q := pgOk (X := X) (t := t) (e := tg) (ok := locCB sc) o.ok.calm (by rw [o.ok.eN]; exact o.ok.nd) (fun x hx => by rw [o.ok.es]; exact ⟨locC_of hx, .inl (o.fn x)⟩) (by rw [o.ok.eN]; exact h)
  rw [o.ok.eK] at q
  exact q
theorem asg_ok {W : WX} {e : M.Ex} {t : M.Tg} {D : Ends} {σ : Sl} {H : Hp} (h : tS c W (.set t e) D σ H) : tAsg (tE c W e) (tgG c.K t) D σ H := by
  obtain ⟨ρ, S, Kd, hl, re, r, w, ok⟩ := h
  refine one_rel hl re r w (ok.ox re hl r) fun x S2 v H2 f r2 rx q => ?_
  exact asg_rel r2 hl (re.mono r f) rx q fun ρ' σ' l1 l2 re' _ q => ok.nx _ _ _ _ f r2 re' l1 q
theorem name3 {N : List Str} {ok : Str → Bool} {i : Nat} {e : Expr} (h : nameAt N ok i e = true) : ∃ x p, e = .Name x p ∧ N[i]? = some x ∧ ok x = true := by
  obtain ⟨x, p, a, b, d, _⟩ := name_of h
  exact ⟨x, p, a, b, d⟩
mutual
theorem psOk : ∀ (st : M.St) {sc : Scope} {ex : Stmt} {X : Cx} {W : WX}, chkS c.T N st sc ex = true → OkS c k N sc X W → PS X ex (tS c W st)
  | .set t e, sc, ex, X, W, h, o => by
    have h : (match (generalizing := false) ex with
      | .Assign [tg] e' _ => chkTg N (locCB sc) t tg && chkE c.T N e sc e' && (setB sc e' tg || (compV t e' && swC sc e' tg))
      | _ => false) = true := h
    split at h
    · rename_i tg e' pos hh
      obtain ⟨h, h3⟩ := and2 h
      obtain ⟨h1, h2⟩ := and2 h
      rcases Bool.or_eq_true_iff.mp h3 with h3 | h3
      · obtain ⟨w1, w2⟩ := set_sw (env := X.env) (l := pos.line) (by rw [o.ok.es]; exact o.kind) (by rw [o.ok.es]; exact h3)
        exact PS.imp (ps_asg (peOk e h2 o.ok).1 (tgt_of o h1) w1 w2 (by cases tg <;> first | rfl | cases h1 | (cases t <;> cases h1))) fun D σ H h => asg_ok h
      · obtain ⟨hv, h3⟩ := and2 h3
        · obtain ⟨i, elt, g0, scope, p0, rfl, rfl⟩ := compV_of hv
          cases e with
          | comp e0 t0 it oc =>
            have h2 : (match (generalizing := false) Expr.ListComp elt [g0] scope p0 with
              | .ListComp e' [⟨tg, it', ifs, k⟩] scope _ => decide (k = 0) && blkC N sc scope (ownOf N (M.tgs t0)) && decide ((ownOf N (M.tgs t0)).map (·.2) = M.tgs t0) && decide (M.tgs t0).Nodup && noSet it' && chkIt c.T N it sc it' (isTupB tg) && chkTg N (tgB scope sc) t0 tg
                  && (match ifs with | [] => chkO c.T N oc (relS scope sc) none | [d] => chkO c.T N oc (relS scope sc) (some d) | _ => false) && chkE c.T N e0 (relS scope sc) e'
              | _ => false) = true := h2
            obtain ⟨tg0, it', ifs, k0⟩ := g0
            obtain ⟨h, g9⟩ := and2 h2
            obtain ⟨h, g8⟩ := and2 h
            obtain ⟨h, g7⟩ := and2 h
            obtain ⟨h, g6⟩ := and2 h
            obtain ⟨h, g5⟩ := and2 h
            obtain ⟨h, g4⟩ := and2 h
            obtain ⟨h, g3⟩ := and2 h
            obtain ⟨g1, g2⟩ := and2 h
            have e0' := of_decide_eq_true g1
            subst e0'
            have eo : (ownOf N (M.tgs t0)).map (·.2) = M.tgs t0 := of_decide_eq_true g3
            obtain ⟨y, py, rfl, a1, a2⟩ := name3 (show nameAt N (locCB sc) i tg = true from h1)
            obtain ⟨b, b3⟩ := and2 (show (locB sc y && (py.line == p0.line) && !(scope.names.any fun (n, k) => n == y && (k == .local || k == .cell))) = true from h3)
            obtain ⟨b1, b2⟩ := and2 b
            have hy : X.env.scope.names.lookup y = some .local := by rw [o.ok.es]; exact loc_of b1
            have hpe : PS X (.Assign [.Name y py] (.ListComp elt [⟨tg0, it', ifs, 0⟩] scope p0) pos) (tAsg (tLc (tIt c W it) (tgG c.K t0) (tCn c oc) (tE c W0 e0) ((ownOf N (M.tgs t0)).map (·.2))) (gName i)) := by
              refine ps_setLc o.ok.calm (by rw [o.ok.eN]; exact o.ok.nd) (o.ok.var a1) hy (sw_true (by rw [o.ok.es]; exact o.kind) hy b2 (not1 b3)) (piOk it g6 o.ok) (by rw [o.ok.eN, o.ok.es]; exact blkOk_by g2) (fun s H C cl fp => ?_) (fun s H C cl fp => ?_) (fun s H C cl fp => ?_) (folded_of g5)
              · have ob := o.ok.blk s H scope C cl fp
                have q := pgOk (X := X.blk s H scope (compEnvC scope cl C X.env) fp) (t := t0) (e := tg0) (ok := tgB scope sc) ob.calm (by rw [ob.eN]; exact ob.nd) (fun x hx => by rw [ob.es]; exact tgB_of hx) (by rw [ob.eN]; exact g7)
                rw [ob.eK] at q
                exact q
              · have ob := o.ok.blk s H scope C cl fp
                split at g8
                · exact (poOk oc g8 ob).2
                · exact (poOk oc g8 ob).2
                · cases g8
              · exact (peOk e0 g9 (o.ok.blk s H scope C cl fp)).1
            refine PS.imp hpe fun D σ H h => ?_
            obtain ⟨ρ, S, Kd, hl, re, r, w, ok⟩ := h
            refine ⟨ρ, S, _, _, hl, re, r, w, fun items chk S1 H1 J f1 r1 m q => ?_, ok.ox re hl r⟩
            rw [eo]
            refine comp_rel (Q := fun x H1 => gName i x σ H1 D.nx) hl (re.mono r f1) r1 m q.1 (fun d S2 v H2 f2 r2 rx q => ?_) q.2
            exact asg_rel r2 (t := .v i) hl ((re.mono r f1).mono r1 f2) rx q fun ρ' σ' l1 l2 re' _ q => ok.nx _ _ _ _ (f1.trans f2) r2 re' l1 q
          | _ => first | cases h2 | exact absurd h2 (by simp [chkE, nameAt, biCall])
    · cases h
  | .par i j a b, sc, ex, X, W, h, o => by
    have h : (match (generalizing := false) ex with
      | .Assign [.Tuple [x, y] _ _] (.Tuple [a', b'] _ _) _ => parB N sc [i, j] [x, y] [a', b'] && chkE c.T N a sc a' && chkE c.T N b sc b'
      | _ => false) = true := h
    split at h
    · rename_i x y kt pt a' b' k2 pt2 pos hh
      obtain ⟨h, h3⟩ := and2 h
      obtain ⟨h1, h2⟩ := and2 h
      obtain ⟨g, g4⟩ := and2 h1
      obtain ⟨g, g3⟩ := and2 g
      obtain ⟨g1, g2⟩ := and2 g
      obtain ⟨n1, n2⟩ := and2 (show (nameAt N (locB sc) i x && namesAt N (locB sc) [j] [y]) = true from g1)
      obtain ⟨n2, _⟩ := and2 (show (nameAt N (locB sc) j y && namesAt N (locB sc) [] []) = true from n2)
      obtain ⟨x, px, rfl, ix, lx⟩ := name3 n1
      obtain ⟨y, py, rfl, iy, ly⟩ := name3 n2
      obtain ⟨p1, p2⟩ := and2 (show (plB a' && [b'].all plB) = true from g3)
      obtain ⟨p2, _⟩ := and2 (show (plB b' && [].all plB) = true from p2)
      have hne : i ≠ j := fun e => by
        have nd : [i, j].Nodup := of_decide_eq_true g2
        subst e
        simp at nd
      have hw := sw_ok (env := X.env) (k := kt) (p := pt) (k2 := k2) (p2 := pt2) (by rw [o.ok.es]; exact o.kind) (by rw [o.ok.es]; exact of_decide_eq_true g4)
      have en : ([i, j].filterMap fun i => N[i]?) = [x, y] := by
        rw [List.filterMap_cons_some ix, List.filterMap_cons_some iy]; rfl
      rw [en] at hw
      refine PS.imp (ps_par o.ok.calm (by rw [o.ok.eN]; exact o.ok.nd) (o.ok.var ix) (o.ok.var iy) hne (by rw [o.ok.es]; exact loc_of lx) (by rw [o.ok.es]; exact loc_of ly) (pa_cons (peOk a h2 o.ok).1 (pa_cons (peOk b h3 o.ok).1 pa_nil (plB_star p2)) (plB_star p1)) hw (swapsSole_not rfl)) fun D σ H h => ?_
      obtain ⟨ρ, S, Kd, hl, re, r, w, ok⟩ := h
      refine two_rel hl re r w (ok.ox re hl r) fun x y S2 v u H2 f r2 rx ry q => ⟨v, u, rfl, ok.nx _ _ _ _ f r2 ?_ (by simp [hl]) q⟩
      have re2 := re.mono r f
      exact (re2.set hl rx i).set (by simp [hl]) ry j
    · cases h
  | .par3 i j l a b d, sc, ex, X, W, h, o => by
    have h : (match (generalizing := false) ex with
      | .Assign [.Tuple [x, y, z] _ _] (.Tuple [a', b', d'] _ _) _ => parB N sc [i, j, l] [x, y, z] [a', b', d'] && chkE c.T N a sc a' && chkE c.T N b sc b' && chkE c.T N d sc d'
      | _ => false) = true := h
    split at h
    · rename_i x y z kt pt a' b' d' k2 pt2 pos hh
      obtain ⟨h, h4⟩ := and2 h
      obtain ⟨h, h3⟩ := and2 h
      obtain ⟨h1, h2⟩ := and2 h
      obtain ⟨g, g4⟩ := and2 h1
      obtain ⟨g, g3⟩ := and2 g
      obtain ⟨g1, g2⟩ := and2 g
      obtain ⟨n1, n2⟩ := and2 (show (nameAt N (locB sc) i x && namesAt N (locB sc) [j, l] [y, z]) = true from g1)
      obtain ⟨n2, n3⟩ := and2 (show (nameAt N (locB sc) j y && namesAt N (locB sc) [l] [z]) = true from n2)
      obtain ⟨n3, _⟩ := and2 (show (nameAt N (locB sc) l z && namesAt N (locB sc) [] []) = true from n3)
      obtain ⟨x, px, rfl, ix, lx⟩ := name3 n1
      obtain ⟨y, py, rfl, iy, ly⟩ := name3 n2
      obtain ⟨z, pz, rfl, iz, lz⟩ := name3 n3
      obtain ⟨p1, p2⟩ := and2 (show (plB a' && [b', d'].all plB) = true from g3)
      obtain ⟨p2, p3⟩ := and2 (show (plB b' && [d'].all plB) = true from p2)
      obtain ⟨p3, _⟩ := and2 (show (plB d' && [].all plB) = true from p3)
      have nd : [i, j, l].Nodup := of_decide_eq_true g2
      have hw := sw_ok (env := X.env) (k := kt) (p := pt) (k2 := k2) (p2 := pt2) (by rw [o.ok.es]; exact o.kind) (by rw [o.ok.es]; exact of_decide_eq_true g4)
      have en : ([i, j, l].filterMap fun i => N[i]?) = [x, y, z] := by
        rw [List.filterMap_cons_some ix, List.filterMap_cons_some iy, List.filterMap_cons_some iz]; rfl
      rw [en] at hw
      refine PS.imp (ps_par3 o.ok.calm (by rw [o.ok.eN]; exact o.ok.nd) (o.ok.var ix) (o.ok.var iy) (o.ok.var iz) (fun e => by subst e; simp at nd) (fun e => by subst e; simp at nd) (fun e => by subst e; simp at nd) (by rw [o.ok.es]; exact loc_of lx) (by rw [o.ok.es]; exact loc_of ly) (by rw [o.ok.es]; exact loc_of lz)
        (pa_cons (peOk a h2 o.ok).1 (pa_cons (peOk b h3 o.ok).1 (pa_cons (peOk d h4 o.ok).1 pa_nil (plB_star p3)) (plB_star p2)) (plB_star p1)) hw (swapsSole_not rfl)) fun D σ H h => ?_
      obtain ⟨ρ, S, Kd, hl, re, r, w, ok⟩ := h
      refine ⟨ρ, S, _, _, hl, re, r, w, fun x S1 v H1 f1 r1 rx q1 => ⟨ρ, S1, _, _, hl, re.mono r f1, r1, q1, fun y S2 u H2 f2 r2 ry q2 => ⟨ρ, S2, _, _, hl, re.mono r (f1.trans f2), r2, q2, fun z S3 w' H3 f3 r3 rz q3 => ?_, (ok.after (f1.trans f2)).ox (re.mono r (f1.trans f2)) hl r2⟩, (ok.after f1).ox (re.mono r f1) hl r1⟩, ok.ox re hl r⟩
      have ff := (f1.trans f2).trans f3
      refine ⟨v, u, w', rfl, ok.nx _ _ _ _ ff r3 ?_ (by simp [hl]) q3⟩
      exact (((re.mono r ff).set hl ((rx.mono r1 f2).mono r2 f3) i).set (by simp [hl]) (ry.mono r2 f3) j).set (by simp [hl]) rz l
    · cases h
  | .nev, sc, ex, X, W, h, o => PS.imp ps_never fun D σ H ⟨ρ, S, Kd, hl, re, r, w, ok⟩ => w
  | .six a i e, sc, ex, X, W, h, o => by
    have h : (match (generalizing := false) ex with
      | .Assign [.Subscript a' i' _] e' _ => plB i' && notComp e' && chkE c.T N a sc a' && chkE c.T N i sc i' && chkE c.T N e sc e'
      | _ => false) = true := h
    split at h
    · obtain ⟨h, h5⟩ := and2 h
      obtain ⟨h, h4⟩ := and2 h
      obtain ⟨h, h3⟩ := and2 h
      obtain ⟨h1, h2⟩ := and2 h
      have eK := o.ok.eK
      have hset : PSet X (tSx c.K) := by rw [← eK]; exact set_listM
      refine PS.imp (ps_asg (peOk e h5 o.ok).1 (pg_sub (peOk a h3 o.ok).1 (peOk i h4 o.ok).1 hset (sub_asg h1)) (swapsSole_not h2)) fun D σ H h => ?_
      obtain ⟨ρ, S, Kd, hl, re, r, w, ok⟩ := h
      refine ⟨ρ, S, _, _, hl, re, r, w, fun z S1 v H1 f1 r1 rz q1 => ⟨ρ, S1, _, _, hl, re.mono r f1, r1, q1, fun x S2 u H2 f2 r2 rx q2 => ⟨ρ, S2, _, _, hl, re.mono r (f1.trans f2), r2, q2, fun y S3 w' H3 f3 r3 ry q3 => ?_, (ok.after (f1.trans f2)).ox (re.mono r (f1.trans f2)) hl r2⟩, (ok.after f1).ox (re.mono r f1) hl r1⟩, ok.ox re hl r⟩
      refine ⟨x, y, z, S3, _, r3, rx.mono r2 f3, ry, (rz.mono r1 f2).mono r2 f3, q3, fun S4 H4 f4 r4 q4 => ?_⟩
      have ff := ((f1.trans f2).trans f3).trans f4
      exact ok.nx _ _ _ _ ff r4 (re.mono r ff) hl q4
    · cases h
  | .ex e, sc, ex, X, W, h, o => by
    have h : (match (generalizing := false) ex with | .Expr e' _ => notComp e' && chkE c.T N e sc e' | _ => false) = true := h
    split at h
    · obtain ⟨h1, h2⟩ := and2 h
      refine PS.imp (ps_expr (peOk e h2 o.ok).1 (swapsWith_not h1)) fun D σ H ⟨ρ, S, Kd, hl, re, r, w, ok⟩ => ?_
      exact one_rel hl re r w (ok.ox re hl r) fun x S2 v H2 f r2 rx q => ok.nx _ _ _ _ f r2 (re.mono r f) hl q
    · cases h
  | .ret e, sc, ex, X, W, h, o => by
    have h : (match (generalizing := false) ex with | .Return (some e') _ => chkE c.T N e sc e' | _ => false) = true := h
    split at h
    · exact PS.imp (ps_ret (peOk e h o.ok).1) fun D σ H ⟨ρ, S, Kd, hl, re, r, w, ok⟩ => ⟨ρ, S, _, _, hl, re, r, w, ok.rt, ok.ox re hl r⟩
    · cases h
  | .retn, sc, ex, X, W, h, o => by
    have h : (match (generalizing := false) ex with | .Return none _ => true | _ => false) = true := h
    split at h
    · exact PS.imp ps_retN fun D σ H ⟨ρ, S, Kd, hl, re, r, w, ok⟩ => ok.rt.same r .non w
    · cases h
  | .if_ g a b, sc, ex, X, W, h, o => by
    have h : (match (generalizing := false) ex with | .If g' a' b' _ => chkE c.T N g sc g' && chkSs c.T N a sc a' && chkSs c.T N b sc b' | _ => false) = true := h
    split at h
    · obtain ⟨h, h3⟩ := and2 h
      obtain ⟨h1, h2⟩ := and2 h
      refine PS.imp (ps_if (peOk g h1 o.ok).2 (pssOk a h2 o) (pssOk b h3 o)) fun D σ H ⟨ρ, S, Kd, hl, re, r, w, ok⟩ => ?_
      exact one_rel hl re r w (ok.ox re hl r) fun x S2 v H2 f r2 rx q => by
        obtain ⟨kb, rfl, qt, qf⟩ := onB_of q
        cases rx
        refine ⟨kb, rfl, ?_⟩
        cases kb with
        | true => show if true = true then _ else _; rw [if_pos rfl]; exact ⟨ρ, S2, Kd, hl, re.mono r f, r2, qt rfl, ok.after f⟩
        | false => show if false = true then _ else _; rw [if_neg Bool.false_ne_true]; exact ⟨ρ, S2, Kd, hl, re.mono r f, r2, qf rfl, ok.after f⟩
    · cases h
  | .while_ g b, sc, ex, X, W, h, o => by
    have h : (match (generalizing := false) ex with | .While g' b' [] _ => chkE c.T N g sc g' && chkSs c.T N b sc b' | _ => false) = true := h
    split at h
    · obtain ⟨h1, h2⟩ := and2 h
      refine PS.imp (ps_while o.po (peOk g h1 o.ok).2 (pssOk b h2 o)) fun D σ H ⟨ρ, S, Kd, hl, re, r, w, ok⟩ => ?_
      obtain ⟨n, w⟩ := (show ∃ n, M.whileN (fun ρ1 S1 nx => M.wpE c.G g ρ1 S1 (fun x S2 => M.onB x fun k => M.br k (M.wpSs c.G b ρ1 S2 { Kd with nx := nx, bk := Kd.nx }) (Kd.nx ρ1 S2)) (fun c fs S2 => Kd.xe c fs ρ1 S2)) n ρ S from w)
      refine ⟨fun m σ' H' => ∃ ρ' S', ρ'.length = σ'.length ∧ RelE c.K H' ρ' σ' ∧ RelS c.K H' S' ∧ Fr S H S' H' ∧ M.whileN (fun ρ1 S1 nx => M.wpE c.G g ρ1 S1 (fun x S2 => M.onB x fun k => M.br k (M.wpSs c.G b ρ1 S2 { Kd with nx := nx, bk := Kd.nx }) (Kd.nx ρ1 S2)) (fun c fs S2 => Kd.xe c fs ρ1 S2)) m ρ' S', ⟨n, ρ, S, hl, re, r, Fr.refl, w⟩, ?_⟩
      rintro m σ1 H1 ⟨ρ1, S1, hl1, re1, r1, f1, w1⟩
      cases m with
      | zero => exact False.elim w1
      | succ m =>
        refine one_rel hl1 re1 r1 w1 ((ok.after f1).ox re1 hl1 r1) fun x S2 v H2 f r2 rx q => ?_
        obtain ⟨kb, rfl, qt, qf⟩ := onB_of q
        cases rx
        refine ⟨kb, rfl, ?_⟩
        have f12 := f1.trans f
        have ok2 := ok.after f12
        cases kb with
        | true =>
          show if true = true then _ else _
          rw [if_pos rfl]
          refine ⟨_, fun σ' H' q => ⟨m, Nat.lt_succ_self m, q⟩, ρ1, S2, _, hl1, re1.mono r1 f, r2, qt rfl, ?_⟩
          exact ⟨fun ρ' S' σ' H' f' r' re' l' q => ⟨ρ', S', l', re', r', f12.trans f', q⟩, ok2.rt, fun ρ' S' σ' H' f' r' re' l' q => ok2.nx ρ' S' σ' H' f' r' re' l' q, ok2.xe⟩
        | false =>
          show if false = true then _ else _
          rw [if_neg Bool.false_ne_true]
          exact ok2.nx _ _ _ _ Fr.refl r2 (re1.mono r1 f) hl1 (qf rfl)
    · cases h
  | .for_ t it b, sc, ex, X, W, h, o => by
    have h : (match (generalizing := false) ex with | .For tg it' b' [] _ => chkTg N (locCB sc) t tg && noSet it' && chkIt c.T N it sc it' (isTupB tg) && chkSs c.T N b sc b' | _ => false) = true := h
    split at h
    · obtain ⟨h, h4⟩ := and2 h
      obtain ⟨h, h3⟩ := and2 h
      obtain ⟨h1, h2⟩ := and2 h
      refine PS.imp (ps_for o.po o.ok.calm (piOk it h3 o.ok) (tgt_of o h1) (pssOk b h4 o) (folded_of h2)) fun D σ H ⟨ρ, S, Kd, hl, re, r, w, ok⟩ => ?_
      refine ⟨ρ, S, _, _, hl, re, r, w, fun items chk S1 H1 J f1 r1 m w => ?_, ok.ox re hl r⟩
      let stp := fun (d : M.D) (ρ1 : M.Env) (S2 : M.Sto) (nx : M.Env → M.Sto → Prop) => M.asg t d S2 ρ1 fun ρ2 => M.wpSs c.G b ρ2 S2 { Kd with nx := nx, bk := Kd.nx }
      refine ⟨fun i m σ' H' => m = items.length - i ∧ i ≤ items.length ∧ ∃ ρ' S', ρ'.length = σ'.length ∧ RelE c.K H' ρ' σ' ∧ RelS c.K H' S' ∧ Fr S1 H1 S' H' ∧ M.forW chk stp Kd.nx (items.drop i) ρ' S', ⟨_, rfl, Nat.zero_le _, ρ, S1, hl, re.mono r f1, r1, Fr.refl, w⟩, ?_⟩
      rintro i m' σ2 H2 ⟨rfl, hi, ρ2, S2, hl2, re2, r2, f2, w2⟩
      by_cases hlt : i < items.length
      · obtain ⟨d, hd⟩ : ∃ d, items[i]? = some d := ⟨items[i], by simp [hlt]⟩
        have ed : items.drop i = d :: items.drop (i + 1) := by
          rw [List.drop_eq_getElem_cons hlt]
          have : items[i] = d := by simpa [hlt] using hd
          rw [this]
        rw [ed] at w2
        obtain ⟨hch, w2⟩ := (show chk S2 ∧ stp d ρ2 S2 (M.forW chk stp Kd.nx (items.drop (i + 1))) from w2)
        obtain ⟨hgo, hy⟩ := (m i S2 H2 f2 r2 hch).1 d hd
        refine .inr ⟨hgo, _, fun σ' H' q => ⟨items.length - (i + 1), by omega, q⟩, fun x H3 y => ?_⟩
        obtain ⟨f3, r3, rx⟩ := hy x H3 y
        have f23 := f2.trans f3
        refine asg_rel r3 hl2 (re2.mono r2 f3) rx w2 fun ρ' σ' l1 l2 re' _ w3 => ⟨ρ', S2, _, l1, re', r3, w3, ?_⟩
        have ok3 := ok.after (f1.trans f23)
        exact ⟨fun ρ4 S4 σ4 H4 f4 r4 re4 l4 q => ⟨rfl, hlt, ρ4, S4, l4, re4, r4, f23.trans f4, q⟩, ok3.rt, fun ρ' S' σ' H' f' r' re' l' q => ok3.nx ρ' S' σ' H' f' r' re' l' q, ok3.xe⟩
      · have e : i = items.length := by omega
        subst e
        rw [List.drop_length] at w2
        obtain ⟨hch, w2⟩ := (show chk S2 ∧ Kd.nx ρ2 S2 from w2)
        exact .inl ⟨(m _ S2 H2 f2 r2 hch).2 rfl, ok.nx _ _ _ _ (f1.trans f2) r2 re2 hl2 w2⟩
    · cases h
  | .brk, sc, ex, X, W, h, o => by
    have h : (match (generalizing := false) ex with | .Break _ => true | _ => false) = true := h
    split at h
    · exact PS.imp ps_break fun D σ H ⟨ρ, S, Kd, hl, re, r, w, ok⟩ => ok.bk _ _ _ _ Fr.refl r re hl w
    · cases h
  | .pass, sc, ex, X, W, h, o => by
    have h : (match (generalizing := false) ex with | .Pass _ => true | _ => false) = true := h
    split at h
    · exact PS.imp ps_pass fun D σ H ⟨ρ, S, Kd, hl, re, r, w, ok⟩ => ok.nx _ _ _ _ Fr.refl r re hl w
    · cases h
  | .raise _ _, _, _, _, _, h, _ => nomatch h
  | .try_ _ _ _ _, _, _, _, _, h, _ => nomatch h
theorem pssOk : ∀ (st : M.Ss) {sc : Scope} {ex : List Stmt} {X : Cx} {W : WX}, chkSs c.T N st sc ex = true → OkS c k N sc X W → PSs X ex (tSs c W st)
  | .nil, sc, ex, X, W, h, o => by
    cases ex with
    | nil => exact PSs.imp pss_nil fun D σ H ⟨ρ, S, Kd, hl, re, r, w, ok⟩ => ok.nx _ _ _ _ Fr.refl r re hl w
    | cons _ _ => cases h
  | .cons s q, sc, ex, X, W, h, o => by
    cases ex with
    | nil => cases h
    | cons s' q' =>
      obtain ⟨h1, h2⟩ := and2 (show (chkS c.T N s sc s' && chkSs c.T N q sc q') = true from h)
      refine PSs.imp (pss_cons (psOk s h1 o) (pssOk q h2 o)) fun D σ H ⟨ρ, S, Kd, hl, re, r, w, ok⟩ => ?_
      exact ⟨ρ, S, _, hl, re, r, w, fun ρ1 S1 σ1 H1 f1 r1 re1 l1 q => ⟨ρ1, S1, Kd, l1, re1, r1, q, ok.after f1⟩, ok.rt, ok.bk, ok.xe⟩
end
end
end Snd
namespace Snd
open PySem PySem.Spec PyProof.Rows L2
/-! ### a def of the text -/
section
variable {P : Program} {w : World} {K : Frag} {mg : Str → Option Value} {base : Heap} {k : Nat} {name qual : Str} {params : Arguments} {body : List Stmt} {scope : Scope} {f : Addr} {fd : FuncData} {N ps : List Str}
/-- the entry's base lies in the heap: the module's objects, no limit set -/
theorem base_in {A : Around} {outer : List Env} {s : Shared} {H : Hp} (e0 : Env0 P w K mg base A outer s H) : K.In s.heap ∧ s.heap.NoLimit := by
  have up : ∀ b o, base.get? b = some o → s.heap.get? b = some o := fun b o h => (e0.bs b o h).1
  exact ⟨e0.mod.kin.keeps up, e0.mod.nolimit.keeps up⟩
/-- each parameter is a local, or its cell is made -/
theorem par_kind (S : FnScope N ps scope) {us : List Value} {n : Nat} : ∀ z ∈ ps.zip us, scope.names.lookup z.1 = some .local ∨ (scope.names.lookup z.1 = some .cell ∧ ((cellsFrom n scope.names []).lookup z.1).isSome = true) := by
  rintro ⟨x, u⟩ hz
  cases S.par x (List.of_mem_zip hz).1 with
  | inl l => exact Or.inl l
  | inr c => exact Or.inr ⟨c, PySem.W.cellsFrom_some _ _ _ (Or.inl c)⟩
/-- how a body ends, told as a call's end -/
theorem end_of {cdv : Value} {A : Around} {outer : List Env} {s s2 : Shared} {H : Hp} {Q : VK} {E : XK} {fl : Flow}
    (h : SP (cxOf (L2.CX P w) P w K mg base N qual scope f cdv A outer s H E) [] { nx := fun _ H' => Q .non H', rt := Q } fl s2) (nb : fl ≠ .brk ∧ fl ≠ .cont) :
    CE outer P w H s Q (match fl with | .ret u => u | _ => .none) s2 := by
  match fl, h, nb with
  | .ret u, ⟨v, _, H2, I2, rel, q⟩, _ => exact ⟨v, H2, I2.os, I2.bare, I2.base, I2.hok, rel, q⟩
  | .next, ⟨_, H2, I2, q⟩, _ => exact ⟨.non, H2, I2.os, I2.bare, I2.base, I2.hok, rfl, q⟩
  | .brk, _, nb => exact absurd rfl nb.1
  | .cont, _, nb => exact absurd rfl nb.2
/-- a def by its body, where no repr is under way -/
theorem fnG_of {sp : L2.Sp} (F : FunD K name qual params body scope [] [] f fd) (S : FnScope N ps scope) (len : ∀ xs Hx Qx Ex, sp xs Hx Qx Ex → xs.length = ps.length)
    (run : ∀ (cdv : Value) (A : Around) (outer : List Env) (s : Shared) (H : Hp) (xs : List V) (Q : VK) (E : XK), Room k (A.deeper (envOfC qual scope s.heap.objs.size f cdv)) → A.guards = some [] → sp xs H Q E →
      ∃ t, PSs (cxOf (L2.CX P w) P w K mg base N qual scope f cdv A outer s H E) body t ∧ t { nx := fun _ H' => Q .non H', rt := Q } (L2.start N xs) H) : FnG P w K mg base (k + 1) f fd ps sp where
  len := len
  run := by
    intro A outer s H args us xs Q E room quiet env bound rel want
    obtain ⟨c1, c2, c3, c4, c5, c6, c7, cdv, c9, c10, same, stands, code, -, -⟩ := F.ex
    subst same
    obtain ⟨inK, free⟩ := base_in env
    refine codeAny_call_function room.depth (inK _ _ stands) rfl S.co S.gen rfl (PySem.W.codeRec_of inK code) (bound _ _ _ _ ?_)
    refine wpAny_newFunctionEnv_cells S.kind (par_kind S) fun env' made s1 entry => ?_
    subst made
    refine ⟨free.keeps entry.toInCall.keep, codeAny_func ?_⟩
    obtain ⟨t, ok, start⟩ := run cdv A outer s H xs Q E (room.deeper _) quiet want
    have I0 := inv_start (CX := L2.CX P w) (qual := qual) (f := f) (cd := cdv) (E := E) S room.hd env (len _ _ _ _ want) rel entry
    refine wpAny_mono (ok.run [] s1 _ H _ I0 start) (fun fl s2 done => ?_) fun _ _ out => out
    match fl, done with
    | .ret u, done => exact end_of done ⟨nofun, nofun⟩
    | .next, done => exact end_of done ⟨nofun, nofun⟩
    | .brk, ⟨_, _, _, no⟩ => exact False.elim no
    | .cont, ⟨_, _, _, no⟩ => exact False.elim no
/-- what a law's text stands on -/
structure Law (c : Cn) (P : Program) (w : World) (base : Heap) (k : Nat) : Prop where
  rp : c.G.rp = rpF
  bt : ∀ x ∈ c.T.bts, c.mg x = none
  con : ∀ n x, c.T.cons[n]? = some x → ∃ u v, c.mg x = some u ∧ RelV v u ∧ ∀ H, RelD c.K H (c.G.con n) v
  fns : ∀ n x, c.T.fns[n]? = some x → ∃ f fd ps, Def c.K c.mg c.T n x f fd ps ∧ FnG P w c.K c.mg base k f fd ps (lift c (M.cl (c.G.fn n)))
theorem start_rel {K : Frag} {H : Hp} {ds : List M.D} {vs : List V} (r : RelDs K H ds vs) : RelE K H (M.start N.length ds) (L2.start N vs) := by
  have e : ∀ {ds : List M.D} {vs : List V} {n m : Nat}, RelDs K H ds vs → ∀ (i : Nat) (d : M.D), (ds.map some ++ List.replicate n none)[i]? = some (some d) → ∃ v, (vs.map some ++ List.replicate m (none : Option V))[i]? = some (some v) ∧ RelD K H d v := by
    intro ds vs n m r i d h
    by_cases hi : i < ds.length
    · rw [List.getElem?_append_left (by simpa using hi), List.getElem?_map] at h
      obtain ⟨d', h1, h2⟩ := Option.map_eq_some_iff.mp h
      cases h2
      obtain ⟨v, g1, g2⟩ := r.get h1
      refine ⟨v, ?_, g2⟩
      rw [List.getElem?_append_left (by rw [List.length_map, ← r.length]; exact hi), List.getElem?_map, g1]
      rfl
    · rw [List.getElem?_append_right (by simpa using hi), List.getElem?_replicate] at h
      split at h <;> cases h
  exact e r
theorem fn_ok {c : Cn} (L : Law c P w base k) {ast : M.Ss} {sp : M.Sp} (F : FunD c.K name qual params body scope [] [] f fd) (S : FnScope N ps scope) (ck : chkSs c.T N ast scope body = true)
    (spec : ∀ ds S0 Q X, sp ds S0 Q X → ds.length = ps.length ∧ M.wpSs c.G ast (M.start N.length ds) S0 ⟨fun _ S' => Q .non S', Q, fun _ _ => False, fun k fs _ S' => X k fs S'⟩) :
    FnG P w c.K c.mg base (k + 1) f fd ps (lift c (M.cl sp)) := by
  have pl : ps.length ≤ N.length := by have := congrArg List.length S.pre; rw [List.length_take] at this; omega
  refine fnG_of F S (fun vs H Q E ⟨ds, S0, Qd, Xd, rd, r, ⟨Q0, X0, q, _⟩, _⟩ => by rw [← rd.length]; exact (spec _ _ _ _ q).1) fun cdv A outer s H vs Q E hr hg ⟨ds, S0, Qd, Xd, rd, r, ⟨Q0, X0, q, hQ, hX⟩, hq, hx⟩ => ?_
  obtain ⟨hlen, hw⟩ := spec _ _ _ _ q
  have ok : OkS c k N scope (cxOf (L2.CX P w) P w c.K c.mg base N qual scope f cdv A outer s H E) (fun cls d _ H => E cls d H) := {
    ok := {
      eN := rfl
      es := rfl
      eK := rfl
      em := rfl
      nd := S.nd
      calm := rfl
      room := hr
      gd := hg
      rp := L.rp
      bt := L.bt
      con := L.con
      fns := L.fns
      tk := takes_of rfl rfl rfl rfl }
    kind := S.kind
    fn := fun _ => rfl
    po := passes_of (X := cxOf (L2.CX P w) P w c.K c.mg base N qual scope f cdv A outer s H E) rfl }
  refine ⟨_, pssOk ast ck ok, M.start N.length ds, S0, _, ?_, start_rel rd, r, hw, ?_⟩
  · unfold M.start L2.start
    rw [List.length_append, List.length_append, List.length_map, List.length_map, List.length_replicate, List.length_replicate, rd.length]
  · exact ⟨fun ρ' S' σ' H' f' r' re' l' q => hq .non S' .non H' f' r' .non (hQ _ _ q), fun d S' v H' f' r' rd' q => hq d S' v H' f' r' rd' (hQ _ _ q), fun _ _ _ _ _ _ _ _ q => False.elim q, fun kx fs ρ' S' σ' H' cls d f' r' re' l' rx q => hx kx fs S' H' cls d f' r' rx (hX _ _ _ q)⟩
end
/-! ### the law's end -/
/-- where the script lies at a: nothing else is tracked -/
def onlyAt (H : Hp) (a : Addr) : Prop := ∀ b, H b ≠ none → b = a
/-- the heap without the script is a base for the law's def -/
theorem env_script {P : Program} {w : World} {K : Frag} {mg mb : Str → Option Value} {a : Addr} {s : Shared} {vs : List Value} {H : Hp} (inK : K.In s.heap) (hg : s.heap.Ns mainGlobals mg) (hb : s.heap.Ns builtinsNs mb) (hbb : ∀ x : Str, x ≠ "__name__" → mb x = bootBuiltins x) (free : s.heap.NoLimit) (quiet : s.gens = #[])
    (obj : s.heap.get? a = some { cls := .type "list", data := .seq vs.toArray }) (one : onlyAt H a) (apart : H a ≠ none → K.lookup a = none) (ok : HOk P w H s.heap) :
    Env0 P w K mg (hidT s.heap H) callerA [] s H ∧ K.In (hidT s.heap H) ∧ (hidT s.heap H).Ns mainGlobals mg := by
  -- a record that is not the script's stands in the base
  have stay : ∀ {b : Addr} {o : Obj}, s.heap.get? b = some o → (b = a → H b = none) → (hidT s.heap H).get? b = some o := fun {b o} e n => hidT_get e (Classical.byContradiction fun t => t (n (one b t)))
  have names : ∀ {b : Addr} {m : Str → Option Value}, s.heap.Ns b m → (hidT s.heap H).Ns b m := by
    rintro b m ⟨o, es, ep, at_, dat, rest⟩
    refine ⟨o, es, ep, stay at_ fun e => ?_, dat, rest⟩
    rw [e, obj] at at_
    rw [← Option.some.inj at_] at dat
    exact nomatch (show Data.seq vs.toArray _ = Data.dict es ep from dat)
  have kin : K.In (hidT s.heap H) := fun b o e => stay (inK b o e) fun hba => by
    subst hba
    exact Classical.byContradiction fun t => by have z := apart t; rw [e] at z; cases z
  obtain ⟨mc, lim1, lim2⟩ := free
  refine ⟨{ frames := rfl, mod := ⟨kin, names hg, ⟨mb, names hb, hbb⟩, ⟨mc, names lim1, lim2⟩⟩, bs := fun _ _ e => of_hidT e, bsz := Nat.le_of_eq (hidT_size _ _), funs := trivial, frf := ?_, hok := ok, bare := AllBare.of_eq quiet }, kin, names hg⟩
  intro b z
  cases z
/-- what stood stands behind the law's call -/
theorem old_script {P : Program} {w : World} {H H2 : Hp} {h h2 : Heap} (only : Only H) (un : Un (frs []) [] H H2 h h2) (ok : HOk P w H h) (ok2 : HOk P w H2 h2) : OldK h h2 := by
  refine OldK.of_keep fun b o e => ?_
  rcases only b with z | ⟨ob, xs, z⟩
  · exact un.keep b o e z nofun nofun
  · have u1 := (ok b _ z).1
    have u2 := (ok2 b _ (un.frzs b ob _ z)).1
    rw [u1] at e
    rw [← e]
    exact u2
/-- the law's promise: of the script as a list that is never written, True comes -/
theorem law_callG {P : Program} {w : World} {K : Frag} {mg mb : Str → Option Value} {k : Nat} {fa a : Addr} {fd : FuncData} {x : Str} {sp : L2.Sp} {s : Shared} {vs : List Value} {ns : List Int}
    (inK : K.In s.heap) (hg : s.heap.Ns mainGlobals mg) (hb : s.heap.Ns builtinsNs mb) (hbb : ∀ y : Str, y ≠ "__name__" → mb y = bootBuiltins y) (free : s.heap.NoLimit) (quiet : s.gens = #[])
    (obj : s.heap.get? a = some { cls := .type "list", data := .seq vs.toArray }) (hints : IntsAre vs ns) (small : ns.length ≤ sizeLine) (room : Room k callerA)
    (F : ∀ base : Heap, K.In base → base.Ns mainGlobals mg → FnG P w K mg base k fa fd [x] sp) (bind : ∀ (t : Shared) (u : Value), BindsTo t fd ⟨[u], []⟩ [(x, u)])
    (want : ∀ H : Hp, Only H → SqF K H a (ns.map V.int) → sp [.ref a] H (fun v _ => v = .bl true) fun _ _ _ => False) :
    codeAny (model P w) callerA (.call (.ref fa) ⟨[.ref a], []⟩) (fun r t => r = .ok (.ret (.bool true)) ∧ OldK s.heap t.heap ∧ t.os = s.os ∧ AllBare t.gens) s := by
  have vals := vals_ints hints
  have go : ∀ H : Hp, Only H → SqF K H a (ns.map V.int) → HOk P w H s.heap → onlyAt H a → (H a ≠ none → K.lookup a = none) →
      codeAny (model P w) callerA (.call (.ref fa) ⟨[.ref a], []⟩) (fun r t => r = .ok (.ret (.bool true)) ∧ OldK s.heap t.heap ∧ t.os = s.os ∧ AllBare t.gens) s := fun H only sq ok one apart => by
    obtain ⟨env, kin, nsg⟩ := env_script (P := P) (w := w) inK hg hb hbb free quiet obj one apart ok
    have call := (F _ kin nsg).run callerA [] s H ⟨[.ref a], []⟩ [.ref a] [.ref a] _ _ room rfl env (bind s (.ref a)) (Paired.cons rfl Paired.nil) (want H only sq)
    refine codeAny_mono call fun r t out => ?_
    match r, out with
    | .error e, out => obtain ⟨_, _, _, _, _, _, _, _, _, _, _, _, no⟩ := (show L2.CX P w [] H s (fun _ _ _ => False) e t from out); exact no.elim
    | .ok .next, out => exact False.elim out
    | .ok .brk, out => exact False.elim out
    | .ok .cont, out => exact False.elim out
    | .ok (.ret u), ⟨v, H2, os, bare, un, ok2, rel, q⟩ =>
      have ev : v = .bl true := q
      subst ev
      have eu : u = Value.bool true := rel
      subst eu
      exact ⟨rfl, old_script only un ok ok2, os, bare⟩
  by_cases hk : K.lookup a = none
  · -- the script is tracked as a list that is never written
    let Hs : Hp := fun b => if b = a then some (.frz { cls := .type "list", data := .seq vs.toArray } (.lst (ns.map V.int))) else none
    have at_ : Hs a = some (.frz { cls := .type "list", data := .seq vs.toArray } (.lst (ns.map V.int))) := if_pos rfl
    have off : ∀ b, b ≠ a → Hs b = none := fun b hb => if_neg hb
    refine go Hs (fun b => ?_) (Or.inl ⟨_, at_⟩) (fun b u e => ?_) (fun b t => Classical.byContradiction fun hb => t (off b hb)) fun _ => hk
    · exact if hb : b = a then Or.inr ⟨_, _, hb ▸ at_⟩ else Or.inl (off b hb)
    · by_cases hb : b = a
      · subst hb
        rw [at_] at e
        cases e
        refine ⟨obj, ?_, vs, _, vals, obj⟩
        rw [List.length_map]
        exact small
      · rw [off b hb] at e
        cases e
  · -- the script is an object of the module
    obtain ⟨o, ho⟩ := Option.ne_none_iff_exists'.mp hk
    have eo := inK a o ho
    rw [obj] at eo
    have eo := Option.some.inj eo
    subst eo
    refine go (fun _ => none) (fun _ => Or.inl rfl) (Or.inr ⟨_, vs.toArray, _, ho, rfl, rfl, rfl, ?_, ?_⟩) (fun b u e => nomatch (show (none : Option HO) = some u from e)) (fun b t => absurd rfl t) fun t => absurd rfl t
    · rw [List.size_toArray, hints.length]
      exact small
    · simpa using vals
theorem rel_ints {K : Frag} {H : Hp} : ∀ ns : List Int, RelDs K H (ns.map M.D.int) (ns.map V.int)
  | [] => .nil
  | n :: ns => .cons (.int n) (rel_ints ns)
/-- THE END: the promise of the law's def in the small language -/
theorem walkG {l : PySem.W.OpenLaw} {n k : Nat} {q : Program} {loose : List Str} {XP : (Str → Option Value) → Heap → Prop} {YP : World → Heap → Prop} {d : DefRec} {x : Str} {sp : M.Sp}
    (hn : l.most = some n) (hn2 : n ≤ sizeLine) (hdf : d.params.defaults = []) (hr : Room k callerA)
    (hsp : ∀ (ns : List Int), ns.length ≤ n → sp [.fl (ns.map .int)] (fun _ => none) (fun v _ => v = .bl true) fun _ _ _ => False)
    (F : ∀ (w : World) (mg : Str → Option Value) (fa : Addr) (h : Heap), YP w h → h.Ns mainGlobals mg → mg d.name = some (.ref fa) →
      ∃ (K : Frag) (fd : FuncData) (T : Tb) (G : M.Gm), K.In h ∧ (∀ (s : Shared) (u : Value), BindsTo s fd ⟨[u], []⟩ [(x, u)]) ∧
        ∀ base : Heap, K.In base → base.Ns mainGlobals mg → FnG l.prog w K mg base k fa fd [x] (lift ⟨K, mg, T, G⟩ (M.cl sp))) :
    PySem.W.WalkO q loose XP YP l.row.toRowW d [] (fun f vs => PySem.call f vs) := by
  refine Att.attach_call hn hdf fun w s₀ s₁ mg mb fa o pm cd doc a vs ns G Y ho hd hcd hmg hobj hints hlen hg => ?_
  obtain ⟨K, fd, T, Gm, KX, hb, hF⟩ := F w mg fa _ Y G.T.g hmg
  refine law_callG KX G.T.g G.T.b G.T.builtins G.T.nolimit hg hobj hints (Nat.le_trans hlen hn2) hr hF hb fun H hO hS => ?_
  refine ⟨[.fl (ns.map .int)], fun _ => none, _, _, .cons (.fl hS (rel_ints ns)) .nil, (fun a o e => by cases e), M.cl_of (hsp ns hlen), fun d S' v H' f r rd q => ?_, fun _ _ _ _ _ _ _ _ _ q => False.elim q⟩
  subst q
  cases rd
  rfl
end Snd
namespace Snd
open PySem PySem.Spec PyProof.Rows L2
section
variable {K : Frag} {x qual : Str} {params : Arguments} {body : List Stmt} {scope : Scope} {kws : List (Str × V)} {f : Addr} {fd : FuncData} {ps ks : List Str} {m : Nat} {perm : List Nat}
theorem kb_of (F : FunD K x qual params body scope [] kws f fd)
    (h : ∀ (kV doc pm : Value) (an : Option Addr) (cdv ct : Value) (us ws : List Value), us.length = m → ws.length = ks.length → bindArgs (PySem.W.fnOf x qual params body scope .none kV doc pm an cdv ct) ⟨us, ks.zip ws⟩ = pure (ps.zip (perm.filterMap fun i => (us ++ ws)[i]?))) : KB K fd ps m ks perm := by
  obtain ⟨oc, od, dV, kV, doc, pm, an, cdv, ct, osl, rfl, lk, hcd, hD, hK⟩ := F.ex
  rcases hD with ⟨_, rfl⟩ | ⟨e, _⟩
  · exact fun s us ws _ h1 h2 => .of_eq (h kV doc pm an cdv ct us ws h1 h2)
  · exact absurd rfl e
end
/-- the specs below n -/
def stage (sp : Nat → M.Sp) (con : Nat → M.D) (n : Nat) : M.Gm := ⟨M.upto n sp, con, fun _ _ => false, rpF⟩
theorem never_fn {c : Cn} {P : Program} {w : World} {base : Heap} {k : Nat} {f : Addr} {fd : FuncData} {ps : List Str} {sp : M.Sp} (h : ∀ ds S Q X, ¬ sp ds S Q X) : FnG P w c.K c.mg base k f fd ps (lift c (M.cl sp)) :=
  .never fun vs H Q E ⟨ds, S, Qd, Xd, _, _, ⟨Q0, X0, q, _⟩, _⟩ => h _ _ _ _ q
/-- all defs of a text, callees first; lev n: the room that the n-th wants below it, cost n: its own (a recursive def: its depth) -/
theorem chain {P : Program} {w : World} {K : Frag} {mg : Str → Option Value} {T : Tb} {base : Heap} {sp : Nat → M.Sp} {con : Nat → M.D} (lev cost : Nat → Nat) (hl : ∀ m n, m < n → lev m + cost m ≤ lev n) (bt : ∀ x ∈ T.bts, mg x = none)
    (cn : ∀ n x, T.cons[n]? = some x → ∃ u v, mg x = some u ∧ RelV v u ∧ ∀ H, RelD K H (con n) v)
    (D : ∀ n x, T.fns[n]? = some x → ∃ f fd ps, Def K mg T n x f fd ps ∧ ∀ k, Law ⟨K, mg, T, stage sp con n⟩ P w base k → FnG P w K mg base (k + cost n) f fd ps (lift ⟨K, mg, T, stage sp con n⟩ (M.cl (sp n)))) :
    ∀ n, Law ⟨K, mg, T, stage sp con n⟩ P w base (lev n) := by
  have go : ∀ N n, n < N → ∀ x, T.fns[n]? = some x → ∃ f fd ps, Def K mg T n x f fd ps ∧ ∀ G, FnG P w K mg base (lev n + cost n) f fd ps (lift ⟨K, mg, T, G⟩ (M.cl (sp n))) := by
    intro N
    induction N with
    | zero => exact fun _ h => absurd h (Nat.not_lt_zero _)
    | succ N ih =>
      intro n hn x hx
      obtain ⟨f, fd, ps, d, F⟩ := D n x hx
      refine ⟨f, fd, ps, d, fun G => F (lev n) ⟨rfl, bt, cn, fun m y hy => ?_⟩⟩
      by_cases hm : m < n
      · obtain ⟨g, gd, qs, d2, F2⟩ := ih m (by omega) y hy
        refine ⟨g, gd, qs, d2, ?_⟩
        have e : (stage sp con n).fn m = sp m := if_pos hm
        rw [show (Cn.G ⟨K, mg, T, stage sp con n⟩) = stage sp con n from rfl, e]
        exact (F2 _).mono (hl m n hm)
      · obtain ⟨g, gd, qs, d2, _⟩ := D m y hy
        refine ⟨g, gd, qs, d2, ?_⟩
        have e : (stage sp con n).fn m = fun _ _ _ _ => False := if_neg hm
        rw [show (Cn.G ⟨K, mg, T, stage sp con n⟩) = stage sp con n from rfl, e]
        exact never_fn (c := ⟨K, mg, T, stage sp con n⟩) fun _ _ _ _ q => q
  refine fun n => ⟨rfl, bt, cn, fun m y hy => ?_⟩
  by_cases hm : m < n
  · obtain ⟨g, gd, qs, d2, F2⟩ := go (m + 1) m (Nat.lt_succ_self m) y hy
    refine ⟨g, gd, qs, d2, ?_⟩
    have e : (stage sp con n).fn m = sp m := if_pos hm
    rw [show (Cn.G ⟨K, mg, T, stage sp con n⟩) = stage sp con n from rfl, e]
    exact (F2 _).mono (hl m n hm)
  · obtain ⟨g, gd, qs, d2, _⟩ := D m y hy
    refine ⟨g, gd, qs, d2, ?_⟩
    have e : (stage sp con n).fn m = fun _ _ _ _ => False := if_neg hm
    rw [show (Cn.G ⟨K, mg, T, stage sp con n⟩) = stage sp con n from rfl, e]
    exact never_fn (c := ⟨K, mg, T, stage sp con n⟩) fun _ _ _ _ q => q
/-- a text without recursion -/
theorem chain_law {P : Program} {w : World} {K : Frag} {mg : Str → Option Value} {T : Tb} {base : Heap} {sp : Nat → M.Sp} {con : Nat → M.D} (bt : ∀ x ∈ T.bts, mg x = none)
    (cn : ∀ n x, T.cons[n]? = some x → ∃ u v, mg x = some u ∧ RelV v u ∧ ∀ H, RelD K H (con n) v)
    (D : ∀ n x, T.fns[n]? = some x → ∃ f fd ps, Def K mg T n x f fd ps ∧ ∀ k, Law ⟨K, mg, T, stage sp con n⟩ P w base k → FnG P w K mg base (k + 1) f fd ps (lift ⟨K, mg, T, stage sp con n⟩ (M.cl (sp n)))) (n : Nat) :
    Law ⟨K, mg, T, stage sp con n⟩ P w base n := chain (fun n => n) (fun _ => 1) (fun _ _ h => h) bt cn D n
/-- a recursive def: its promise with fuel; a call of itself spends some -/
theorem rec_fn {P : Program} {w : World} {K : Frag} {mg : Str → Option Value} {T : Tb} {base : Heap} {sp : Nat → M.Sp} {con : Nat → M.D} {n k : Nat} {x : Str} {f : Addr} {fd : FuncData} {ps : List Str} (L : Law ⟨K, mg, T, stage sp con n⟩ P w base k) (d : Def K mg T n x f fd ps) (hx : T.fns[n]? = some x)
    (fuel : Nat → M.Sp) (h0 : ∀ ds S Q X, ¬ fuel 0 ds S Q X)
    (step : ∀ m k, Law ⟨K, mg, T, { stage sp con n with fn := fun i => if i = n then fuel m else M.upto n sp i }⟩ P w base k → FnG P w K mg base (k + 1) f fd ps (lift ⟨K, mg, T, stage sp con n⟩ (M.cl (fuel (m + 1))))) :
    ∀ m, FnG P w K mg base (k + m) f fd ps (lift ⟨K, mg, T, stage sp con n⟩ (M.cl (fuel m)))
  | 0 => never_fn (c := ⟨K, mg, T, stage sp con n⟩) (h0)
  | m + 1 => step m (k + m) ⟨rfl, L.bt, L.con, fun i y hy => by
    by_cases hi : i = n
    · subst hi
      have e : x = y := Option.some.inj (hx.symm.trans hy)
      subst e
      refine ⟨f, fd, ps, d, ?_⟩
      show FnG P w K mg base (k + m) f fd ps (lift _ (M.cl (if i = i then fuel m else M.upto i sp i)))
      rw [if_pos rfl]
      exact rec_fn L d hx fuel h0 step m
    · obtain ⟨g, gd, qs, d2, F2⟩ := L.fns i y hy
      refine ⟨g, gd, qs, d2, ?_⟩
      show FnG P w K mg base (k + m) g gd qs (lift _ (M.cl (if i = n then fuel m else M.upto n sp i)))
      rw [if_neg hi]
      exact F2.mono (Nat.le_add_right _ _)⟩
/-- with some fuel below B -/
theorem rec_all {c : Cn} {P : Program} {w : World} {base : Heap} {k B : Nat} {f : Addr} {fd : FuncData} {ps : List Str} {fuel : Nat → M.Sp} (F : ∀ m, FnG P w c.K c.mg base (k + m) f fd ps (lift c (M.cl (fuel m)))) :
    FnG P w c.K c.mg base (k + B) f fd ps (lift c (M.cl fun ds S Q X => ∃ m, m < B ∧ fuel m ds S Q X)) where
  len := fun vs H Q E ⟨ds, S, Qd, Xd, r1, r2, ⟨Q0, X0, ⟨m, _, q⟩, g1, g2⟩, h1, h2⟩ => (F m).len vs H Q E ⟨ds, S, Qd, Xd, r1, r2, ⟨Q0, X0, q, g1, g2⟩, h1, h2⟩
  run := fun A outer s H args us vs Q E hr hg e0 hb rv ⟨ds, S, Qd, Xd, r1, r2, ⟨Q0, X0, ⟨m, hm, q⟩, g1, g2⟩, h1, h2⟩ => ((F m).mono (Nat.add_le_add_left (Nat.le_of_lt hm) k)).run A outer s H args us vs Q E hr hg e0 hb rv ⟨ds, S, Qd, Xd, r1, r2, ⟨Q0, X0, q, g1, g2⟩, h1, h2⟩
end Snd
namespace Snd
open PySem PySem.Spec PyProof.Rows L2
/-! ### constants of the module: numbers, texts, nested tuples -/
mutual
def conB (K : Frag) : M.D → Value → Bool
  | .non, u => (match u with | .none => true | _ => false)
  | .bl b, u => (match u with | .bool d => b == d | _ => false)
  | .int i, u => (match u with | .int j _ => decide (i = j) | _ => false)
  | .str x, u => (match u with | .str y _ => decide (stx x = y) | _ => false)
  | .tup ds, u => (match u with
    | .ref a => (match K.lookup a with
      | some ⟨.type c, _, .seq its _, _⟩ => decide (c = "tuple") && decide (its.size ≤ sizeLine) && consB K ds its.toList
      | _ => false)
    | _ => false)
  | _, _ => false
def consB (K : Frag) : List M.D → List Value → Bool
  | [], us => us.isEmpty
  | d :: ds, us => (match us with | u :: us => conB K d u && consB K ds us | [] => false)
end
mutual
theorem conB_ok {K : Frag} : ∀ (d : M.D) {u : Value}, conB K d u = true → ∃ v, RelV v u ∧ ∀ H, RelD K H d v
  | .non, u, h => by
    cases u <;> first | exact ⟨.non, rfl, fun _ => .non⟩ | cases h
  | .bl b, u, h => by
    cases u <;> first | cases h | skip
    rename_i d
    have e : b = d := by simpa [conB] using h
    subst e
    exact ⟨.bl b, rfl, fun _ => .bl b⟩
  | .int i, u, h => by
    cases u <;> first | cases h | skip
    rename_i j t
    have e : i = j := of_decide_eq_true h
    subst e
    exact ⟨.int i, ⟨t, rfl⟩, fun _ => .int i⟩
  | .str x, u, h => by
    cases u <;> first | cases h | skip
    rename_i y t
    have e : stx x = y := of_decide_eq_true h
    subst e
    exact ⟨.str (stx x), ⟨t, rfl⟩, fun _ => .str x⟩
  | .tup ds, u, h => by
    cases u with
    | ref a =>
      have h : (match (generalizing := false) K.lookup a with
        | some ⟨.type c, _, .seq its _, _⟩ => decide (c = "tuple") && decide (its.size ≤ sizeLine) && consB K ds its.toList
        | _ => false) = true := h
      split at h
      · rename_i c od its n sl q
        obtain ⟨h, h3⟩ := and2 h
        obtain ⟨h1, h2⟩ := and2 h
        have e := of_decide_eq_true h1
        subst e
        obtain ⟨vs, rv, rd⟩ := consB_ok ds h3
        exact ⟨.ref a, rfl, fun H => .tup (.inr ⟨_, its, n, q, rfl, rfl, of_decide_eq_true h2, rv⟩) (rd H)⟩
      · cases h
    | _ => cases h
  | .fl _, _, h => by simp [conB] at h
  | .ref _, _, h => by simp [conB] at h
  | .xn _ _, _, h => by simp [conB] at h
theorem consB_ok {K : Frag} : ∀ (ds : List M.D) {us : List Value}, consB K ds us = true → ∃ vs, Vals vs us ∧ ∀ H, RelDs K H ds vs
  | [], us, h => by
    cases us with
    | nil => exact ⟨[], .nil, fun _ => .nil⟩
    | cons _ _ => cases h
  | d :: ds, us, h => by
    cases us with
    | nil => cases h
    | cons u us =>
      obtain ⟨h1, h2⟩ := and2 (show (conB K d u && consB K ds us) = true from h)
      obtain ⟨v, r1, r2⟩ := conB_ok d h1
      obtain ⟨vs, r3, r4⟩ := consB_ok ds h2
      exact ⟨v :: vs, .cons r1 r3, fun H => .cons (r2 H) (r4 H)⟩
end
/-- the module's names x are these constants -/
def consK (l : List (Str × M.D)) (K : Frag) : Bool := l.all fun p => match PySem.W.nsIn K mainGlobals p.1 with
  | some (some u) => conB K p.2 u
  | _ => false
theorem consK_ok {l : List (Str × M.D)} {K : Frag} {h : Heap} {mg : Str → Option Value} (X : K.In h) (G : h.Ns mainGlobals mg) (c : consK l K = true) {x : Str} {d : M.D} (hm : (x, d) ∈ l) : ∃ u v, mg x = some u ∧ RelV v u ∧ ∀ H, RelD K H d v := by
  have q := List.all_eq_true.mp c _ hm
  dsimp only at q
  split at q
  · rename_i u e
    obtain ⟨v, r1, r2⟩ := conB_ok d q
    exact ⟨u, v, PySem.W.mg_of X G e, r1, r2⟩
  · cases q
/-! ### the head's hook with them -/
def obsE (l : List (Str × M.D)) (fa : List He.Fa) (fn : List He.DefD) (K : Frag) : He.AlD := ((He.obsD fa fn K).1 && consK l K, (He.obsD fa fn K).2)
def hookE (n : Nat) (l : List (Str × M.D)) (fa : List He.Fa) (fn : List He.DefD) : PySem.W.Hook where
  α := He.AlD
  obs := fun s => obsE l fa fn (He.frG s.heap.get? (He.asD s.heap.get? n))
  val := fun _ => He.valD fn
  says := fun _ h => ∃ K : Frag, K.In h ∧ obsE l fa fn K = He.valD fn
  of := fun _ _ e => ⟨_, He.frG_in, e⟩
  keeps := fun _ _ _ ⟨K, hK, c⟩ k => ⟨K, PySem.W.Frag.In.keeps hK k, c⟩
theorem obsE_says {l : List (Str × M.D)} {fa : List He.Fa} {fn : List He.DefD} {K : Frag} (h : obsE l fa fn K = He.valD fn) : He.SaysD fa fn K ∧ consK l K = true := by
  have h1 : ((He.obsD fa fn K).1 && consK l K) = true := congrArg (fun z : He.AlD => z.1) h
  have h2 : (obsE l fa fn K).2 = (He.valD fn).2 := congrArg (fun z : He.AlD => z.2) h
  have h2 : (He.obsD fa fn K).2 = (He.valD fn).2 := h2
  obtain ⟨a, b⟩ := and2 h1
  exact ⟨Prod.ext a h2, b⟩
theorem obsE_eq {n : Nat} {l : List (Str × M.D)} {fa : List He.Fa} {fn : List He.DefD} {g : Addr → Option Obj} {s : Shared} (h : ∀ a, g a = s.heap.get? a) : obsE l fa fn (He.frG g (He.asD g n)) = (hookE n l fa fn).obs s := by
  have e : g = s.heap.get? := funext h
  rw [e]
  rfl
end Snd
namespace M
theorem br_t {A B : Prop} : br true A B ↔ A := ⟨fun h => h.1 rfl, fun h => ⟨fun _ => h, fun z => nomatch z⟩⟩
theorem br_f {A B : Prop} : br false A B ↔ B := ⟨fun h => h.2 rfl, fun h => ⟨fun z => (nomatch z), fun _ => h⟩⟩
theorem br_n {A B : Prop} {b : Bool} : br (!b) A B ↔ br b B A := by cases b <;> simp [br]
theorem br_if {A B : Prop} {b : Bool} (h1 : b = true → A) (h2 : b = false → B) : br b A B := ⟨h1, h2⟩
theorem br_d {A B p : Prop} {d : Decidable p} (h1 : p → A) (h2 : ¬p → B) : br (@decide p d) A B := ⟨fun h => h1 (of_decide_eq_true h), fun h => h2 (of_decide_eq_false h)⟩
theorem opt_some {α : Type} {a : α} {P : α → Prop} : opt (some a) P = P a := rfl
theorem onI_int {i : Int} {P : Int → Prop} : onI (.int i) P = P i := rfl
theorem onB_bl {i : Bool} {P : Bool → Prop} : onB (.bl i) P = P i := rfl
theorem onR_ref {i : Nat} {P : Nat → Prop} : onR (.ref i) P = P i := rfl
theorem arg1_one {x : D} {P : D → Prop} : arg1 [x] P = P x := rfl
theorem eq_ii {i j : Int} {S : Sto} {Q : Bool → Prop} : cmpD .eq (.int i) (.int j) S Q ↔ Q (i == j) := by simp [cmpD, fit, eqB]
theorem ne_ii {i j : Int} {S : Sto} {Q : Bool → Prop} : cmpD .ne (.int i) (.int j) S Q ↔ Q (!(i == j)) := by simp [cmpD, fit, eqB]
theorem lt_ii {i j : Int} {S : Sto} {Q : Bool → Prop} : cmpD .lt (.int i) (.int j) S Q = Q (decide (i < j)) := rfl
theorem le_ii {i j : Int} {S : Sto} {Q : Bool → Prop} : cmpD .le (.int i) (.int j) S Q = Q (decide (i ≤ j)) := rfl
theorem gt_ii {i j : Int} {S : Sto} {Q : Bool → Prop} : cmpD .gt (.int i) (.int j) S Q = Q (decide (j < i)) := rfl
theorem ge_ii {i j : Int} {S : Sto} {Q : Bool → Prop} : cmpD .ge (.int i) (.int j) S Q = Q (decide (j ≤ i)) := rfl
theorem is_n {x : D} {S : Sto} {Q : Bool → Prop} : cmpD .is_ x .non S Q = Q (isNon x) := rfl
theorem isn_n {x : D} {S : Sto} {Q : Bool → Prop} : cmpD .isn x .non S Q = Q (!isNon x) := rfl
theorem is_b {a b : Bool} {S : Sto} {Q : Bool → Prop} : cmpD .is_ (.bl a) (.bl b) S Q = Q (a == b) := rfl
theorem isn_b {a b : Bool} {S : Sto} {Q : Bool → Prop} : cmpD .isn (.bl a) (.bl b) S Q = Q (!(a == b)) := rfl
theorem add_ii {i j : Int} {S : Sto} {Q : VK} : binD .add (.int i) (.int j) S Q = Q (.int (i + j)) S := rfl
theorem sub_ii {i j : Int} {S : Sto} {Q : VK} : binD .sub (.int i) (.int j) S Q = Q (.int (i - j)) S := rfl
theorem mul_ii {i j : Int} {S : Sto} {Q : VK} : binD .mul (.int i) (.int j) S Q = (sm i ∧ sm j ∧ Q (.int (i * j)) S) := rfl
theorem mod_ii {i j : Int} {S : Sto} {Q : VK} : binD .mod (.int i) (.int j) S Q = (j ≠ 0 ∧ Q (.int (i.fmod j)) S) := rfl
theorem fdiv_ii {i j : Int} {S : Sto} {Q : VK} : binD .fdiv (.int i) (.int j) S Q = (j ≠ 0 ∧ smd j ∧ Q (.int (i.fdiv j)) S) := rfl
theorem pow_ii {i j : Int} {S : Sto} {Q : VK} : binD .pow (.int i) (.int j) S Q = (sm i ∧ 0 ≤ j ∧ j ≤ 1000 ∧ Q (.int (i ^ j.toNat)) S) := rfl
theorem intD_i {i : Int} {S : Sto} {Q : VK} : intD (.int i) S Q = Q (.int i) S := rfl
theorem intD_b {i : Bool} {S : Sto} {Q : VK} : intD (.bl i) S Q = Q (.int (b2i i)) S := rfl
theorem ix30 : ixN 3 0 = some 0 := rfl
theorem ix31 : ixN 3 1 = some 1 := rfl
theorem ix32 : ixN 3 2 = some 2 := rfl
theorem at20 {α : Type} {a b : α} : atI [a, b] 0 = some a := rfl
theorem at21 {α : Type} {a b : α} : atI [a, b] 1 = some b := rfl
theorem at30 {α : Type} {a b c : α} : atI [a, b, c] 0 = some a := rfl
theorem at31 {α : Type} {a b c : α} : atI [a, b, c] 1 = some b := rfl
theorem at32 {α : Type} {a b c : α} : atI [a, b, c] 2 = some c := rfl
/-! ### the store -/
/-- what stood stands -/
def Ext (S S' : Sto) : Prop := ∀ a o, S a = some o → S' a = some o
/-- what stood stands, but at w -/
def Kp (w : Nat) (S S' : Sto) : Prop := ∀ a o, a ≠ w → S a = some o → S' a = some o
theorem Ext.refl {S : Sto} : Ext S S := fun _ _ h => h
theorem Ext.trans {S S' S2 : Sto} (a : Ext S S') (b : Ext S' S2) : Ext S S2 := fun x o h => b x o (a x o h)
theorem Ext.kp {S S' : Sto} (w : Nat) (a : Ext S S') : Kp w S S' := fun x o _ h => a x o h
theorem Kp.refl {w : Nat} {S : Sto} : Kp w S S := fun _ _ _ h => h
theorem Kp.trans {w : Nat} {S S' S2 : Sto} (a : Kp w S S') (b : Kp w S' S2) : Kp w S S2 := fun x o n h => b x o n (a x o n h)
theorem upd_at {S : Sto} {a : Nat} {o : O} : upd S a o a = some o := if_pos rfl
theorem upd_off {S : Sto} {a b : Nat} {o : O} (h : b ≠ a) : upd S a o b = S b := if_neg h
theorem Ext.new {S : Sto} {p : Nat} {o : O} (h : S p = none) : Ext S (upd S p o) := fun a x e => by
  have : a ≠ p := fun z => by rw [z, h] at e; cases e
  rw [upd_off this]; exact e
theorem Kp.wr {S : Sto} {w : Nat} {o : O} : Kp w S (upd S w o) := fun a x n e => by rw [upd_off n]; exact e
theorem lstAt_eq {S : Sto} {a : Nat} {xs : List D} (h : S a = some (.lst xs)) : lstAt S a = some xs := by unfold lstAt lstO; rw [h]
theorem lsOf_ref {S : Sto} {a : Nat} {xs : List D} (h : S a = some (.lst xs)) : lsOf S (.ref a) = some xs := lstAt_eq h
theorem sqOf_ref {S : Sto} {a : Nat} {xs : List D} (h : S a = some (.lst xs)) : sqOf S (.ref a) = some xs := lstAt_eq h
theorem lstAt_new {S : Sto} {a : Nat} {xs : List D} : lstAt (upd S a (.lst xs)) a = some xs := lstAt_eq upd_at
theorem ixD_ref {S : Sto} {a : Nat} {xs : List D} (h : S a = some (.lst xs)) {i : Int} {Q : VK} : ixD (.ref a) (.int i) S Q = opt (atI xs i) fun d => Q d S := by
  show opt (lstAt S a) _ = _
  rw [lstAt_eq h]
  rfl
theorem ixD_tup {S : Sto} {xs : List D} {i : Int} {Q : VK} : ixD (.tup xs) (.int i) S Q = opt (atI xs i) fun d => Q d S := rfl
theorem ixD_fl {S : Sto} {xs : List D} {i : Int} {Q : VK} : ixD (.fl xs) (.int i) S Q = opt (atI xs i) fun d => Q d S := rfl
theorem lenD_ref {S : Sto} {a : Nat} {xs : List D} (h : S a = some (.lst xs)) {Q : VK} : lenD (.ref a) S Q = Q (.int xs.length) S := by
  show opt (lstAt S a) _ = _
  rw [lstAt_eq h]
  rfl
theorem lenD_tup {S : Sto} {xs : List D} {Q : VK} : lenD (.tup xs) S Q = Q (.int xs.length) S := rfl
theorem lenD_fl {S : Sto} {xs : List D} {Q : VK} : lenD (.fl xs) S Q = Q (.int xs.length) S := rfl
theorem six_ref {S : Sto} {a : Nat} {xs : List D} (h : S a = some (.lst xs)) {i : Int} {d : D} {Q : Sto → Prop} : sixD (.ref a) (.int i) d S Q = opt (ixN xs.length i) fun j => Q (upd S a (.lst (xs.set j d))) := by
  show opt (lstAt S a) _ = _
  rw [lstAt_eq h]
  rfl
theorem lsOf_new {S : Sto} {a : Nat} {xs : List D} : lsOf (upd S a (.lst xs)) (.ref a) = some xs := lstAt_new
theorem seqD_tup {S : Sto} {xs : List D} {R : IK} : seqD (.tup xs) S R = R xs (fun _ => True) S := rfl
theorem seqD_fl {S : Sto} {xs : List D} {R : IK} : seqD (.fl xs) S R = R xs (fun _ => True) S := rfl
theorem seqD_ref {S : Sto} {a : Nat} {xs : List D} (h : S a = some (.lst xs)) {R : IK} : seqD (.ref a) S R = R xs (fun S' => S' a = some (.lst xs)) S := by
  show opt (lstAt S a) _ = _
  rw [lstAt_eq h]
  rfl
theorem slD_tup {S : Sto} {xs : List D} {lo hi : Option Int} {Q : VK} : slD (.tup xs) lo hi S Q = Q (.tup (cut xs lo hi)) S := rfl
theorem atI_all {α : Type} {xs : List α} {i : Int} {P : α → Prop} (h0 : 0 ≤ i) (h1 : i < xs.length) (h : ∀ y ∈ xs, P y) : opt (atI xs i) P := by
  have hl : i.toNat < xs.length := by omega
  have e : atI xs i = some xs[i.toNat] := by
    unfold atI ixN
    rw [if_pos h0, if_pos h1]
    simp [hl]
  rw [e]
  exact h _ (List.getElem_mem hl)
theorem add_ref {S : Sto} {a b : Nat} {xs ys : List D} (ha : S a = some (.lst xs)) (hb : S b = some (.lst ys)) {Q : VK} (k : mkL (xs ++ ys) S Q) : binD .add (.ref a) (.ref b) S Q := by
  show opt (lstAt S a) _
  rw [lstAt_eq ha]
  show opt (lstAt S b) _
  rw [lstAt_eq hb]
  exact k
theorem add_tt {S : Sto} {xs ys : List D} {Q : VK} : binD .add (.tup xs) (.tup ys) S Q = (xs.length + ys.length ≤ lim ∧ Q (.tup (xs ++ ys)) S) := rfl
theorem append_ref {S : Sto} {a : Nat} {xs : List D} (ha : S a = some (.lst xs)) {d : D} {Q : VK} (hl : xs.length < 1000) (k : Q .non (upd S a (.lst (xs ++ [d])))) : mtD .append (.ref a) [d] S Q := by
  show opt (lstAt S a) _
  rw [lstAt_eq ha]
  exact ⟨Nat.lt_of_lt_of_le hl (by decide), k⟩
/-! ### calls -/
theorem call {G : Gm} {n : Nat} {sp : Sp} (h : G.fn n = sp) {ds : List D} {S : Sto} {Q : VK} {X : XK} (q : sp ds S Q X) : cl (G.fn n) ds S Q X := by rw [h]; exact cl_of q
theorem upto_at {n i : Nat} {sp : Nat → Sp} {G : Gm} (hG : G.fn = upto n sp) (h : i < n) : G.fn i = sp i := by rw [hG]; exact if_pos h
/-! ### numbers -/
theorem lt_two {n : Nat} (k : Nat) (h : n < 2 ^ k) {m : Nat} (hk : k ≤ m) : n < 2 ^ m := Nat.lt_of_lt_of_le h (Nat.pow_le_pow_right (by decide) hk)
theorem sm_of {i : Int} (k : Nat) (hk : k ≤ 4000) (h : i.natAbs < 2 ^ k) : sm i := lt_two k h hk
theorem smd_of {i : Int} (k : Nat) (hk : k ≤ 8500) (h : i.natAbs < 2 ^ k) : smd i := lt_two k h hk
theorem smr_of {i : Int} (k : Nat) (hk : k ≤ 1900) (h : i.natAbs < 2 ^ k) : smr i := lt_two k h hk
theorem fmod_pos {i j : Int} (h : 0 < j) : i.fmod j = i % j := Int.fmod_eq_emod_of_nonneg _ (Int.le_of_lt h)
theorem fdiv_pos {i j : Int} (h : 0 < j) : i.fdiv j = i / j := Int.fdiv_eq_ediv_of_nonneg _ (Int.le_of_lt h)
/-! ### what is drawn -/
/-- the well at w after n draws at most -/
def Well (n : Nat) (S : Sto) (w : Nat) : Prop := ∃ a b c : Int, S w = some (.lst [.int a, .int b, .int c]) ∧ 0 ≤ a ∧ 0 ≤ b ∧ b < 10 ^ 42 ∧ 0 ≤ c ∧ c ≤ n
theorem Well.kp {n : Nat} {S S' : Sto} {w v : Nat} (h : Well n S w) (k : Kp v S S') (hv : w ≠ v) : Well n S' w := by
  obtain ⟨a, b, c, e, r⟩ := h
  exact ⟨a, b, c, k w _ hv e, r⟩
theorem Well.ext {n : Nat} {S S' : Sto} {w : Nat} (h : Well n S w) (k : Ext S S') : Well n S' w := by
  obtain ⟨a, b, c, e, r⟩ := h
  exact ⟨a, b, c, k w _ e, r⟩
theorem Well.le {n m : Nat} {S : Sto} {w : Nat} (h : Well n S w) (k : n ≤ m) : Well m S w := by
  obtain ⟨a, b, c, e, r1, r2, r3, r4, r5⟩ := h
  exact ⟨a, b, c, e, r1, r2, r3, r4, by omega⟩
theorem Well.some {n : Nat} {S : Sto} {w : Nat} (h : Well n S w) : ∃ o, S w = some o := by
  obtain ⟨a, b, c, e, _⟩ := h
  exact ⟨_, e⟩
theorem ne_new {S : Sto} {w p : Nat} {o : O} (h : S w = some o) (hp : S p = none) : w ≠ p := fun e => by rw [e, hp] at h; cases h
/-- _law_well(script, at) -/
def spWell : Sp := fun ds S Q _ => ∃ (ns : List Int) (i : Int), ds = [.fl (ns.map .int), .int i] ∧ 0 ≤ i ∧ i < 100 ∧ ∀ p, S p = none → ∀ S', Ext S S' → Well 0 S' p → Q (.ref p) S'
/-- _law_draw(well, most) -/
def spDraw : Sp := fun ds S Q _ => ∃ (w : Nat) (m : Int) (n : Nat), ds = [.ref w, .int m] ∧ 1 ≤ m ∧ m < 2 ^ 3000 ∧ Well n S w ∧ n < 2 ^ 60 ∧ ∀ (d : Int) S', 0 ≤ d → d < m → Well (n + 1) S' w → Kp w S S' → Q (.int d) S'
/-- _law_desk(well, most) -/
def spDesk : Sp := fun ds S Q _ => ∃ (w : Nat) (m : Int) (n : Nat), ds = [.ref w, .int m] ∧ 1 ≤ m ∧ m < 2 ^ 1000 ∧ Well n S w ∧ n + 4 < 2 ^ 59 ∧ ∀ (x y : Int) S', 1 ≤ x → x ≤ m → 1 ≤ y → y ≤ 2 * m + 4 → Well (n + 4) S' w → Kp w S S' → Q (.tup [.int x, .int y]) S'
/-- _law_roll(well, desk, most) -/
def spRoll : Sp := fun ds S Q _ => ∃ (w : Nat) (a b m : Int) (n : Nat), ds = [.ref w, .tup [.int a, .int b], .int m] ∧ 1 ≤ m ∧ m < 2 ^ 1000 ∧ 1 ≤ a ∧ a < 2 ^ 1000 ∧ 1 ≤ b ∧ b < 2 ^ 1000 ∧ Well n S w ∧ n + 8 < 2 ^ 59 ∧
  ∀ (x y p q : Int) S', 0 ≤ x → x ≤ a → 0 ≤ y → y ≤ b → (p ≠ 0 ∨ q ≠ 0) → -m ≤ p → p ≤ m → -m ≤ q → q ≤ m → Well (n + 8) S' w → Kp w S S' → Q (.tup [.int x, .int y, .int p, .int q]) S'
theorem atI_map {ns : List Int} {i : Int} (h0 : 0 ≤ i) (h : i < ns.length) : ∃ n, atI (ns.map D.int) i = Option.some (D.int n) := by
  have hl : i.toNat < ns.length := by omega
  refine ⟨ns[i.toNat], ?_⟩
  unfold atI ixN
  rw [if_pos h0, if_pos (by simpa using h)]
  simp [hl]
end M
namespace M
abbrev kR (Q : VK) (X : XK) : Kt := ⟨fun _ S' => Q .non S', Q, fun _ _ => False, fun k fs _ S' => X k fs S'⟩
theorem len_lim {n : Nat} (h : n ≤ 1000) : n ≤ lim := Nat.le_trans h (by decide)
theorem sqOf_new {S : Sto} {a : Nat} {xs : List D} : sqOf (upd S a (.lst xs)) (.ref a) = some xs := lstAt_new
theorem txt_well {G : Gm} {ds : List D} {S0 : Sto} {Q : VK} {X : XK} {b : Ss} (hb : b = (.cons (.set (.v 2) (.ite (.cmp .lt (.v 1) (.bi .len (.cons (.v 0) .nil))) (.ix (.v 0) (.v 1)) (.k (.int 0)))) (.cons (.ret (.lst (.cons (.bi .max (.cons (.k (.int 0)) (.cons (.bin .sub (.bi .abs (.cons (.v 2) .nil)) (.bin .pow (.k (.int 10)) (.k (.int 18)))) .nil))) (.cons (.bin .add (.bin .add (.bin .mul (.bin .mod (.bi .int (.cons (.v 2) .nil)) (.bin .add (.bin .pow (.k (.int 10)) (.k (.int 37))) (.k (.int 151)))) (.k (.int 103))) (.bin .mul (.k (.int 71)) (.v 1))) (.k (.int 43))) (.cons (.k (.int 0)) .nil))))) .nil))) (h : spWell ds S0 Q X) : ds.length = 2 ∧ wpSs G b (start 3 ds) S0 (kR Q X) := by
  obtain ⟨ns, i, rfl, h0, h1, hq⟩ := h
  subst hb
  refine ⟨rfl, ?_⟩
  have fin : ∀ c : Int, wpE G (.lst (.cons (.bi .max (.cons (.k (.int 0)) (.cons (.bin .sub (.bi .abs (.cons (.v 2) .nil)) (.bin .pow (.k (.int 10)) (.k (.int 18)))) .nil))) (.cons (.bin .add (.bin .add (.bin .mul (.bin .mod (.bi .int (.cons (.v 2) .nil)) (.bin .add (.bin .pow (.k (.int 10)) (.k (.int 37))) (.k (.int 151)))) (.k (.int 103))) (.bin .mul (.k (.int 71)) (.v 1))) (.k (.int 43))) (.cons (.k (.int 0)) .nil)))) [some (.fl (ns.map .int)), some (.int i), some (.int c)] S0 Q X := by
    intro c
    simp only [wpSs, wpS, wpE, wpEs, wpC, wpAnd, wpOr, wpO, wpIt, opt_some, onI_int, onB_bl, onR_ref, arg1_one, look, joinO, start, List.map_cons, List.map_nil, List.length_cons, List.length_nil, List.replicate, List.cons_append, List.nil_append, List.append_nil, List.getElem?_cons_succ, List.getElem?_cons_zero, kcD, Nat.reduceAdd, Nat.reduceSub, br_t, br_f, br_n, asg, setAll, List.set_cons_succ, List.set_cons_zero, tgs, wipe, eq_ii, ne_ii, lt_ii, le_ii, gt_ii, ge_ii, is_n, isn_n, is_b, isn_b, add_ii, sub_ii, mul_ii, mod_ii, fdiv_ii, pow_ii, isNon, biD, intD_i, intD_b, esLen, beq_self_eq_true, ixD_tup, lsOf_new, seqD_tup, seqD_fl, slD_tup, bools, Option.map_some, true_and, ixD_fl, lenD_tup, lenD_fl, ix30, ix31, ix32, at20, at21, at30, at31, at32, List.filterMap_cons, List.filterMap_nil]
    refine ⟨sm_of 8 (by decide) (by decide), by decide, by decide, sm_of 8 (by decide) (by decide), by decide, by decide, by decide, ?_⟩
    have e : (10 ^ Int.toNat 37 + 151 : Int) = 10000000000000000000000000000000000151 := by decide
    rw [e, fmod_pos (by decide)]
    have m1 := Int.emod_nonneg c (b := 10000000000000000000000000000000000151) (by decide)
    have m2 := Int.emod_lt_of_pos c (b := 10000000000000000000000000000000000151) (by decide)
    generalize c % 10000000000000000000000000000000000151 = r at *
    refine ⟨sm_of 130 (by decide) (by omega), sm_of 8 (by decide) (by decide), sm_of 8 (by decide) (by decide), sm_of 8 (by decide) (by omega), ?_⟩
    refine ⟨len_lim (n := 3) (by decide), fun p hp => hq p hp _ (Ext.new hp) ⟨_, _, _, upd_at, ?_, ?_, ?_, by decide, by decide⟩⟩
    · split <;> omega
    · omega
    · omega
  by_cases hlt : i < ns.length
  · obtain ⟨c, hc⟩ := atI_map h0 hlt
    simp only [wpSs, wpS, wpE, wpEs, wpC, wpAnd, wpOr, wpO, wpIt, opt_some, onI_int, onB_bl, onR_ref, arg1_one, look, joinO, start, List.map_cons, List.map_nil, List.length_cons, List.length_nil, List.replicate, List.cons_append, List.nil_append, List.append_nil, List.getElem?_cons_succ, List.getElem?_cons_zero, kcD, Nat.reduceAdd, Nat.reduceSub, br_t, br_f, br_n, asg, setAll, List.set_cons_succ, List.set_cons_zero, tgs, wipe, eq_ii, ne_ii, lt_ii, le_ii, gt_ii, ge_ii, is_n, isn_n, is_b, isn_b, add_ii, sub_ii, mul_ii, mod_ii, fdiv_ii, pow_ii, isNon, biD, intD_i, intD_b, esLen, beq_self_eq_true, ixD_tup, lsOf_new, seqD_tup, seqD_fl, slD_tup, bools, Option.map_some, true_and, ixD_fl, lenD_tup, lenD_fl, ix30, ix31, ix32, at20, at21, at30, at31, at32, List.filterMap_cons, List.filterMap_nil, lenD, sqOf, ixD, List.length_map, hlt, decide_true, hc]
    exact fin c
  · simp only [wpSs, wpS, wpE, wpEs, wpC, wpAnd, wpOr, wpO, wpIt, opt_some, onI_int, onB_bl, onR_ref, arg1_one, look, joinO, start, List.map_cons, List.map_nil, List.length_cons, List.length_nil, List.replicate, List.cons_append, List.nil_append, List.append_nil, List.getElem?_cons_succ, List.getElem?_cons_zero, kcD, Nat.reduceAdd, Nat.reduceSub, br_t, br_f, br_n, asg, setAll, List.set_cons_succ, List.set_cons_zero, tgs, wipe, eq_ii, ne_ii, lt_ii, le_ii, gt_ii, ge_ii, is_n, isn_n, is_b, isn_b, add_ii, sub_ii, mul_ii, mod_ii, fdiv_ii, pow_ii, isNon, biD, intD_i, intD_b, esLen, beq_self_eq_true, ixD_tup, lsOf_new, seqD_tup, seqD_fl, slD_tup, bools, Option.map_some, true_and, ixD_fl, lenD_tup, lenD_fl, ix30, ix31, ix32, at20, at21, at30, at31, at32, List.filterMap_cons, List.filterMap_nil, lenD, sqOf, ixD, List.length_map, hlt, decide_false]
    exact fin 0
/-- _law_draw -/
theorem txt_draw {G : Gm} {ds : List D} {S0 : Sto} {Q : VK} {X : XK} {b : Ss} (hb : b = (.cons (.if_ (.cmp .gt (.ix (.v 0) (.k (.int 0))) (.k (.int 0))) (.cons (.set (.v 3) (.bin .mod (.bi .int (.cons (.ix (.v 0) (.k (.int 0))) .nil)) (.v 1))) (.cons (.six (.v 0) (.k (.int 0)) (.bin .fdiv (.ix (.v 0) (.k (.int 0))) (.v 1))) (.cons (.ret (.v 3)) .nil))) .nil) (.cons (.six (.v 0) (.k (.int 2)) (.bin .add (.ix (.v 0) (.k (.int 2))) (.k (.int 1)))) (.cons (.set (.v 2) (.bin .mod (.bin .pow (.bi .int (.cons (.bin .add (.ix (.v 0) (.k (.int 1))) (.bin .mul (.k (.int 961748941)) (.ix (.v 0) (.k (.int 2))))) .nil)) (.k (.int 3))) (.bin .add (.bin .pow (.k (.int 10)) (.k (.int 41))) (.k (.int 109))))) (.cons (.set (.v 2) (.bin .mod (.bin .pow (.bi .int (.cons (.bin .add (.v 2) (.bin .mul (.k (.int 217645199)) (.ix (.v 0) (.k (.int 2))))) .nil)) (.k (.int 3))) (.bin .add (.bin .pow (.k (.int 10)) (.k (.int 39))) (.k (.int 3))))) (.cons (.ret (.bin .mod (.bi .int (.cons (.bin .fdiv (.v 2) (.k (.int 1048576))) .nil)) (.v 1))) .nil)))))) (h : spDraw ds S0 Q X) : ds.length = 2 ∧ wpSs G b (start 4 ds) S0 (kR Q X) := by
  obtain ⟨w, m, n, rfl, h1, hm, ⟨a, b', c, e, ha, hb0, hb1, hc0, hc1⟩, hn, hq⟩ := h
  subst hb
  refine ⟨rfl, ?_⟩
  have hm0 : 0 < m := by omega
  have hmm : smd m := smd_of 3000 (by decide) (by omega)
  simp only [wpSs, wpS, wpE, wpEs, wpC, wpAnd, wpOr, wpO, wpIt, opt_some, onI_int, onB_bl, onR_ref, arg1_one, look, joinO, start, List.map_cons, List.map_nil, List.length_cons, List.length_nil, List.replicate, List.cons_append, List.nil_append, List.append_nil, List.getElem?_cons_succ, List.getElem?_cons_zero, kcD, Nat.reduceAdd, Nat.reduceSub, br_t, br_f, br_n, asg, setAll, List.set_cons_succ, List.set_cons_zero, tgs, wipe, eq_ii, ne_ii, lt_ii, le_ii, gt_ii, ge_ii, is_n, isn_n, is_b, isn_b, add_ii, sub_ii, mul_ii, mod_ii, fdiv_ii, pow_ii, isNon, biD, intD_i, intD_b, esLen, beq_self_eq_true, ixD_tup, lsOf_new, seqD_tup, seqD_fl, slD_tup, bools, Option.map_some, true_and, ixD_fl, lenD_tup, lenD_fl, ix30, ix31, ix32, at20, at21, at30, at31, at32, List.filterMap_cons, List.filterMap_nil, ixD, sixD, sqOf_ref e, lstAt_eq e, lstAt_new, sqOf_new]
  refine br_d (fun hpos => ?_) (fun hneg => ?_)
  · rw [fmod_pos hm0, fdiv_pos hm0]
    refine ⟨by omega, by omega, hmm, ?_⟩
    have m1 := Int.emod_nonneg a (b := m) (by omega)
    have m2 := Int.emod_lt_of_pos a (b := m) hm0
    exact hq _ _ m1 m2 ⟨_, _, _, upd_at, Int.ediv_nonneg ha (by omega), hb0, hb1, hc0, by omega⟩ Kp.wr
  · have s1 : sm 961748941 := sm_of 64 (by decide) (by decide)
    have s2 : sm (c + 1) := sm_of 64 (by decide) (by omega)
    have s3 : sm (b' + 961748941 * (c + 1)) := sm_of 200 (by decide) (by omega)
    have s4 : sm 10 := sm_of 8 (by decide) (by decide)
    have s5 : sm 217645199 := sm_of 64 (by decide) (by decide)
    have e1 : (10 ^ Int.toNat 41 + 109 : Int) = 100000000000000000000000000000000000000109 := by decide
    have e2 : (10 ^ Int.toNat 39 + 3 : Int) = 1000000000000000000000000000000000000003 := by decide
    rw [e1, e2]
    generalize (b' + 961748941 * (c + 1)) ^ Int.toNat 3 = r1
    rw [fmod_pos (i := r1) (by decide)]
    have m1 := Int.emod_nonneg r1 (b := 100000000000000000000000000000000000000109) (by decide)
    have m2 := Int.emod_lt_of_pos r1 (b := 100000000000000000000000000000000000000109) (by decide)
    generalize r1 % 100000000000000000000000000000000000000109 = r2 at *
    have s6 : sm (r2 + 217645199 * (c + 1)) := sm_of 200 (by decide) (by omega)
    generalize (r2 + 217645199 * (c + 1)) ^ Int.toNat 3 = r3
    rw [fmod_pos (i := r3) (by decide)]
    generalize r3 % 1000000000000000000000000000000000000003 = r4
    rw [fmod_pos hm0]
    have m3 := Int.emod_nonneg (r4.fdiv 1048576) (b := m) (by omega)
    have m4 := Int.emod_lt_of_pos (r4.fdiv 1048576) (b := m) hm0
    exact ⟨s1, s2, s3, by decide, by decide, s4, by decide, by decide, by decide, s5, s2, s6, by decide, by decide, s4, by decide, by decide, by decide, by decide, smd_of 64 (by decide) (by decide), by omega,
      hq _ _ m3 m4 ⟨_, _, _, upd_at, ha, hb0, hb1, by omega, by omega⟩ Kp.wr⟩
end M
namespace M
theorem mkL_ok {xs : List D} {S : Sto} {Q : VK} (h : xs.length ≤ 1000) (k : ∀ p, S p = none → Q (.ref p) (upd S p (.lst xs))) : mkL xs S Q := ⟨len_lim h, k⟩
/-- one of four -/
theorem at4 {α : Type} {a b c d : α} {i : Int} {P : α → Prop} (h0 : 0 ≤ i) (h4 : i < 4) (ka : P a) (kb : P b) (kc : P c) (kd : P d) : opt (atI [a, b, c, d] i) P := by
  have : i = 0 ∨ i = 1 ∨ i = 2 ∨ i = 3 := by omega
  rcases this with e | e | e | e <;> subst e
  · exact ka
  · exact kb
  · exact kc
  · exact kd
theorem at3 {α : Type} {a b c : α} {i : Int} {P : α → Prop} (h0 : 0 ≤ i) (h4 : i < 3) (ka : P a) (kb : P b) (kc : P c) : opt (atI [a, b, c] i) P := by
  have : i = 0 ∨ i = 1 ∨ i = 2 := by omega
  rcases this with e | e | e <;> subst e
  · exact ka
  · exact kb
  · exact kc
theorem txt_desk {G : Gm} {ds : List D} {S0 : Sto} {Q : VK} {X : XK} {b : Ss} (hb : b = (.cons (.set (.v 2) (.bin .add (.k (.int 1)) (.call 42 (.cons (.v 0) (.cons (.v 1) .nil))))) (.cons (.set (.v 3) (.ix (.lst (.cons (.bin .add (.k (.int 1)) (.call 42 (.cons (.v 0) (.cons (.v 1) .nil)))) (.cons (.v 2) (.cons (.bin .mul (.v 2) (.k (.int 2))) (.cons (.bin .add (.k (.int 1)) (.call 42 (.cons (.v 0) (.cons (.k (.int 4)) .nil)))) .nil))))) (.call 42 (.cons (.v 0) (.cons (.k (.int 4)) .nil))))) (.cons (.ret (.tup (.cons (.v 2) (.cons (.v 3) .nil)))) .nil)))) (hG : G.fn 42 = spDraw) (h : spDesk ds S0 Q X) : ds.length = 2 ∧ wpSs G b (start 4 ds) S0 (kR Q X) := by
  obtain ⟨w, m, n, rfl, h1, hm, hw, hn, hq⟩ := h
  subst hb
  refine ⟨rfl, ?_⟩
  try simp only [wpSs, wpS, wpE, wpEs, wpC, wpAnd, wpOr, wpO, wpIt, opt_some, onI_int, onB_bl, onR_ref, arg1_one, look, joinO, start, List.map_cons, List.map_nil, List.length_cons, List.length_nil, List.replicate, List.cons_append, List.nil_append, List.append_nil, List.getElem?_cons_succ, List.getElem?_cons_zero, kcD, Nat.reduceAdd, Nat.reduceSub, br_t, br_f, br_n, asg, setAll, List.set_cons_succ, List.set_cons_zero, tgs, wipe, eq_ii, ne_ii, lt_ii, le_ii, gt_ii, ge_ii, is_n, isn_n, is_b, isn_b, add_ii, sub_ii, mul_ii, mod_ii, fdiv_ii, pow_ii, isNon, biD, intD_i, intD_b, esLen, beq_self_eq_true, ixD_tup, lsOf_new, seqD_tup, seqD_fl, slD_tup, bools, Option.map_some, true_and, ixD_fl, lenD_tup, lenD_fl, ix30, ix31, ix32, at20, at21, at30, at31, at32, List.filterMap_cons, List.filterMap_nil]
  refine call hG ⟨w, m, n, rfl, h1, by omega, hw, by omega, fun d1 S1 a1 b1 w1 k1 => ?_⟩
  try simp only [wpSs, wpS, wpE, wpEs, wpC, wpAnd, wpOr, wpO, wpIt, opt_some, onI_int, onB_bl, onR_ref, arg1_one, look, joinO, start, List.map_cons, List.map_nil, List.length_cons, List.length_nil, List.replicate, List.cons_append, List.nil_append, List.append_nil, List.getElem?_cons_succ, List.getElem?_cons_zero, kcD, Nat.reduceAdd, Nat.reduceSub, br_t, br_f, br_n, asg, setAll, List.set_cons_succ, List.set_cons_zero, tgs, wipe, eq_ii, ne_ii, lt_ii, le_ii, gt_ii, ge_ii, is_n, isn_n, is_b, isn_b, add_ii, sub_ii, mul_ii, mod_ii, fdiv_ii, pow_ii, isNon, biD, intD_i, intD_b, esLen, beq_self_eq_true, ixD_tup, lsOf_new, seqD_tup, seqD_fl, slD_tup, bools, Option.map_some, true_and, ixD_fl, lenD_tup, lenD_fl, ix30, ix31, ix32, at20, at21, at30, at31, at32, List.filterMap_cons, List.filterMap_nil]
  refine call hG ⟨w, m, _, rfl, h1, by omega, w1, by omega, fun d2 S2 a2 b2 w2 k2 => ?_⟩
  try simp only [wpSs, wpS, wpE, wpEs, wpC, wpAnd, wpOr, wpO, wpIt, opt_some, onI_int, onB_bl, onR_ref, arg1_one, look, joinO, start, List.map_cons, List.map_nil, List.length_cons, List.length_nil, List.replicate, List.cons_append, List.nil_append, List.append_nil, List.getElem?_cons_succ, List.getElem?_cons_zero, kcD, Nat.reduceAdd, Nat.reduceSub, br_t, br_f, br_n, asg, setAll, List.set_cons_succ, List.set_cons_zero, tgs, wipe, eq_ii, ne_ii, lt_ii, le_ii, gt_ii, ge_ii, is_n, isn_n, is_b, isn_b, add_ii, sub_ii, mul_ii, mod_ii, fdiv_ii, pow_ii, isNon, biD, intD_i, intD_b, esLen, beq_self_eq_true, ixD_tup, lsOf_new, seqD_tup, seqD_fl, slD_tup, bools, Option.map_some, true_and, ixD_fl, lenD_tup, lenD_fl, ix30, ix31, ix32, at20, at21, at30, at31, at32, List.filterMap_cons, List.filterMap_nil]
  refine ⟨sm_of 1001 (by decide) (by omega), sm_of 8 (by decide) (by decide), ?_⟩
  refine call hG ⟨w, 4, _, rfl, by decide, by decide, w2, by omega, fun d3 S3 a3 b3 w3 k3 => ?_⟩
  try simp only [wpSs, wpS, wpE, wpEs, wpC, wpAnd, wpOr, wpO, wpIt, opt_some, onI_int, onB_bl, onR_ref, arg1_one, look, joinO, start, List.map_cons, List.map_nil, List.length_cons, List.length_nil, List.replicate, List.cons_append, List.nil_append, List.append_nil, List.getElem?_cons_succ, List.getElem?_cons_zero, kcD, Nat.reduceAdd, Nat.reduceSub, br_t, br_f, br_n, asg, setAll, List.set_cons_succ, List.set_cons_zero, tgs, wipe, eq_ii, ne_ii, lt_ii, le_ii, gt_ii, ge_ii, is_n, isn_n, is_b, isn_b, add_ii, sub_ii, mul_ii, mod_ii, fdiv_ii, pow_ii, isNon, biD, intD_i, intD_b, esLen, beq_self_eq_true, ixD_tup, lsOf_new, seqD_tup, seqD_fl, slD_tup, bools, Option.map_some, true_and, ixD_fl, lenD_tup, lenD_fl, ix30, ix31, ix32, at20, at21, at30, at31, at32, List.filterMap_cons, List.filterMap_nil]
  refine mkL_ok (by simp) fun p hp => ?_
  have hwp := w3.some
  obtain ⟨ow, ew⟩ := hwp
  have hne := ne_new ew hp
  refine call hG ⟨w, 4, _, rfl, by decide, by decide, w3.ext (Ext.new hp), by omega, fun d4 S4 a4 b4 w4 k4 => ?_⟩
  have e4 := k4 p _ (Ne.symm hne) upd_at
  have kk : Kp w S0 S4 := ((k1.trans k2).trans k3).trans (((Ext.new hp).kp w).trans k4)
  simp only [wpSs, wpS, wpE, wpEs, wpC, wpAnd, wpOr, wpO, wpIt, opt_some, onI_int, onB_bl, onR_ref, arg1_one, look, joinO, start, List.map_cons, List.map_nil, List.length_cons, List.length_nil, List.replicate, List.cons_append, List.nil_append, List.append_nil, List.getElem?_cons_succ, List.getElem?_cons_zero, kcD, Nat.reduceAdd, Nat.reduceSub, br_t, br_f, br_n, asg, setAll, List.set_cons_succ, List.set_cons_zero, tgs, wipe, eq_ii, ne_ii, lt_ii, le_ii, gt_ii, ge_ii, is_n, isn_n, is_b, isn_b, add_ii, sub_ii, mul_ii, mod_ii, fdiv_ii, pow_ii, isNon, biD, intD_i, intD_b, esLen, beq_self_eq_true, ixD_tup, lsOf_new, seqD_tup, seqD_fl, slD_tup, bools, Option.map_some, true_and, ixD_fl, lenD_tup, lenD_fl, ix30, ix31, ix32, at20, at21, at30, at31, at32, List.filterMap_cons, List.filterMap_nil, ixD, sqOf_ref e4]
  refine at4 a4 b4 ?_ ?_ ?_ ?_
  · exact ⟨by decide, hq _ _ _ (by omega) (by omega) (by omega) (by omega) (w4.le (by omega)) kk⟩
  · exact ⟨by decide, hq _ _ _ (by omega) (by omega) (by omega) (by omega) (w4.le (by omega)) kk⟩
  · exact ⟨by decide, hq _ _ _ (by omega) (by omega) (by omega) (by omega) (w4.le (by omega)) kk⟩
  · exact ⟨by decide, hq _ _ _ (by omega) (by omega) (by omega) (by omega) (w4.le (by omega)) kk⟩
theorem fit_i {n : Nat} {S : Sto} {i : Int} : fit (n + 1) S (.int i) = true := rfl
theorem ne_pair {a b c d : Int} {S : Sto} {Q : Bool → Prop} : cmpD .ne (.tup [.int a, .int b]) (.tup [.int c, .int d]) S Q ↔ Q (!(a == c && b == d)) := by
  simp [cmpD, fit, fitL, eqB, eqLB]
/-- one of three numbers -/
theorem pick3 {a b c i lo hi : Int} {P : D → Prop} (h0 : 0 ≤ i) (h3 : i < 3) (ha : lo ≤ a ∧ a ≤ hi) (hb : lo ≤ b ∧ b ≤ hi) (hc : lo ≤ c ∧ c ≤ hi) (h : ∀ y : Int, lo ≤ y → y ≤ hi → P (.int y)) : opt (atI [.int a, .int b, .int c] i) P :=
  at3 h0 h3 (h a ha.1 ha.2) (h b hb.1 hb.2) (h c hc.1 hc.2)
theorem min2 {d : Int} (h : 0 ≤ d) : 0 ≤ (if d < 2 then d else 2) ∧ (if d < 2 then d else 2) < 3 := by split <;> omega
theorem txt_roll {G : Gm} {ds : List D} {S0 : Sto} {Q : VK} {X : XK} {b : Ss} (hb : b = (.cons (.set (.v 3) (.ix (.lst (.cons (.k (.int 0)) (.cons (.ix (.v 1) (.k (.int 0))) (.cons (.call 42 (.cons (.v 0) (.cons (.bin .add (.ix (.v 1) (.k (.int 0))) (.k (.int 1))) .nil))) .nil)))) (.bi .min (.cons (.k (.int 2)) (.cons (.call 42 (.cons (.v 0) (.cons (.k (.int 5)) .nil))) .nil))))) (.cons (.set (.v 4) (.ix (.lst (.cons (.k (.int 0)) (.cons (.ix (.v 1) (.k (.int 1))) (.cons (.call 42 (.cons (.v 0) (.cons (.bin .add (.ix (.v 1) (.k (.int 1))) (.k (.int 1))) .nil))) .nil)))) (.bi .min (.cons (.k (.int 2)) (.cons (.call 42 (.cons (.v 0) (.cons (.k (.int 5)) .nil))) .nil))))) (.cons (.par 5 6 (.bin .sub (.call 42 (.cons (.v 0) (.cons (.bin .add (.bin .mul (.k (.int 2)) (.v 2)) (.k (.int 1))) .nil))) (.v 2)) (.bin .sub (.call 42 (.cons (.v 0) (.cons (.bin .add (.bin .mul (.k (.int 2)) (.v 2)) (.k (.int 1))) .nil))) (.v 2))) (.cons (.if_ (.cmp .eq (.call 42 (.cons (.v 0) (.cons (.k (.int 8)) .nil))) (.k (.int 0))) (.cons (.set (.v 5) (.k (.int 0))) .nil) (.cons (.if_ (.cmp .eq (.call 42 (.cons (.v 0) (.cons (.k (.int 8)) .nil))) (.k (.int 0))) (.cons (.set (.v 6) (.k (.int 0))) .nil) .nil) .nil)) (.cons (.ret (.ite (.cmp .ne (.tup (.cons (.v 5) (.cons (.v 6) .nil))) (.tup (.cons (.k (.int 0)) (.cons (.k (.int 0)) .nil)))) (.tup (.cons (.v 3) (.cons (.v 4) (.cons (.v 5) (.cons (.v 6) .nil))))) (.tup (.cons (.v 3) (.cons (.v 4) (.cons (.k (.int 1)) (.cons (.k (.int 1)) .nil))))))) .nil)))))) (hG : G.fn 42 = spDraw) (h : spRoll ds S0 Q X) : ds.length = 3 ∧ wpSs G b (start 7 ds) S0 (kR Q X) := by
  obtain ⟨w, a, b2, m, n, rfl, h1, hm, ha, ha2, hb', hb2, hw, hn, hq⟩ := h
  subst hb
  refine ⟨rfl, ?_⟩
  try simp only [wpSs, wpS, wpE, wpEs, wpC, wpAnd, wpOr, wpO, wpIt, opt_some, onI_int, onB_bl, onR_ref, arg1_one, look, joinO, start, List.map_cons, List.map_nil, List.length_cons, List.length_nil, List.replicate, List.cons_append, List.nil_append, List.append_nil, List.getElem?_cons_succ, List.getElem?_cons_zero, kcD, Nat.reduceAdd, Nat.reduceSub, br_t, br_f, br_n, asg, setAll, List.set_cons_succ, List.set_cons_zero, tgs, wipe, eq_ii, ne_ii, lt_ii, le_ii, gt_ii, ge_ii, is_n, isn_n, is_b, isn_b, add_ii, sub_ii, mul_ii, mod_ii, fdiv_ii, pow_ii, isNon, biD, intD_i, intD_b, esLen, beq_self_eq_true, ixD_tup, lsOf_new, seqD_tup, seqD_fl, slD_tup, bools, Option.map_some, true_and, ixD_fl, lenD_tup, lenD_fl, ix30, ix31, ix32, at20, at21, at30, at31, at32, List.filterMap_cons, List.filterMap_nil]
  refine call hG ⟨w, a + 1, n, rfl, by omega, by omega, hw, by omega, fun d1 S1 p1 q1 w1 k1 => ?_⟩
  refine mkL_ok (by simp) fun p hp => ?_
  obtain ⟨ow, ew⟩ := w1.some
  have hne := ne_new ew hp
  refine call hG ⟨w, 5, _, rfl, by decide, by decide, w1.ext (Ext.new hp), by omega, fun d2 S2 p2 q2 w2 k2 => ?_⟩
  have e2 := k2 p _ (Ne.symm hne) upd_at
  have kk2 : Kp w S0 S2 := k1.trans (((Ext.new hp).kp w).trans k2)
  simp only [wpSs, wpS, wpE, wpEs, wpC, wpAnd, wpOr, wpO, wpIt, opt_some, onI_int, onB_bl, onR_ref, arg1_one, look, joinO, start, List.map_cons, List.map_nil, List.length_cons, List.length_nil, List.replicate, List.cons_append, List.nil_append, List.append_nil, List.getElem?_cons_succ, List.getElem?_cons_zero, kcD, Nat.reduceAdd, Nat.reduceSub, br_t, br_f, br_n, asg, setAll, List.set_cons_succ, List.set_cons_zero, tgs, wipe, eq_ii, ne_ii, lt_ii, le_ii, gt_ii, ge_ii, is_n, isn_n, is_b, isn_b, add_ii, sub_ii, mul_ii, mod_ii, fdiv_ii, pow_ii, isNon, biD, intD_i, intD_b, esLen, beq_self_eq_true, ixD_tup, lsOf_new, seqD_tup, seqD_fl, slD_tup, bools, Option.map_some, true_and, ixD_fl, lenD_tup, lenD_fl, ix30, ix31, ix32, at20, at21, at30, at31, at32, List.filterMap_cons, List.filterMap_nil, ixD_ref e2]
  refine pick3 (lo := 0) (hi := a) (min2 p2).1 (min2 p2).2 (by omega) (by omega) (by omega) fun x hx0 hx1 => ?_
  try simp only [wpSs, wpS, wpE, wpEs, wpC, wpAnd, wpOr, wpO, wpIt, opt_some, onI_int, onB_bl, onR_ref, arg1_one, look, joinO, start, List.map_cons, List.map_nil, List.length_cons, List.length_nil, List.replicate, List.cons_append, List.nil_append, List.append_nil, List.getElem?_cons_succ, List.getElem?_cons_zero, kcD, Nat.reduceAdd, Nat.reduceSub, br_t, br_f, br_n, asg, setAll, List.set_cons_succ, List.set_cons_zero, tgs, wipe, eq_ii, ne_ii, lt_ii, le_ii, gt_ii, ge_ii, is_n, isn_n, is_b, isn_b, add_ii, sub_ii, mul_ii, mod_ii, fdiv_ii, pow_ii, isNon, biD, intD_i, intD_b, esLen, beq_self_eq_true, ixD_tup, lsOf_new, seqD_tup, seqD_fl, slD_tup, bools, Option.map_some, true_and, ixD_fl, lenD_tup, lenD_fl, ix30, ix31, ix32, at20, at21, at30, at31, at32, List.filterMap_cons, List.filterMap_nil]
  refine call hG ⟨w, b2 + 1, _, rfl, by omega, by omega, w2, by omega, fun d3 S3 p3 q3 w3 k3 => ?_⟩
  refine mkL_ok (by simp) fun p' hp' => ?_
  obtain ⟨ow, ew⟩ := w3.some
  have hne := ne_new ew hp'
  refine call hG ⟨w, 5, _, rfl, by decide, by decide, w3.ext (Ext.new hp'), by omega, fun d4 S4 p4 q4 w4 k4 => ?_⟩
  have e4 := k4 p' _ (Ne.symm hne) upd_at
  have kk4 : Kp w S0 S4 := kk2.trans (k3.trans (((Ext.new hp').kp w).trans k4))
  simp only [wpSs, wpS, wpE, wpEs, wpC, wpAnd, wpOr, wpO, wpIt, opt_some, onI_int, onB_bl, onR_ref, arg1_one, look, joinO, start, List.map_cons, List.map_nil, List.length_cons, List.length_nil, List.replicate, List.cons_append, List.nil_append, List.append_nil, List.getElem?_cons_succ, List.getElem?_cons_zero, kcD, Nat.reduceAdd, Nat.reduceSub, br_t, br_f, br_n, asg, setAll, List.set_cons_succ, List.set_cons_zero, tgs, wipe, eq_ii, ne_ii, lt_ii, le_ii, gt_ii, ge_ii, is_n, isn_n, is_b, isn_b, add_ii, sub_ii, mul_ii, mod_ii, fdiv_ii, pow_ii, isNon, biD, intD_i, intD_b, esLen, beq_self_eq_true, ixD_tup, lsOf_new, seqD_tup, seqD_fl, slD_tup, bools, Option.map_some, true_and, ixD_fl, lenD_tup, lenD_fl, ix30, ix31, ix32, at20, at21, at30, at31, at32, List.filterMap_cons, List.filterMap_nil, ixD_ref e4]
  refine pick3 (lo := 0) (hi := b2) (min2 p4).1 (min2 p4).2 (by omega) (by omega) (by omega) fun y hy0 hy1 => ?_
  try simp only [wpSs, wpS, wpE, wpEs, wpC, wpAnd, wpOr, wpO, wpIt, opt_some, onI_int, onB_bl, onR_ref, arg1_one, look, joinO, start, List.map_cons, List.map_nil, List.length_cons, List.length_nil, List.replicate, List.cons_append, List.nil_append, List.append_nil, List.getElem?_cons_succ, List.getElem?_cons_zero, kcD, Nat.reduceAdd, Nat.reduceSub, br_t, br_f, br_n, asg, setAll, List.set_cons_succ, List.set_cons_zero, tgs, wipe, eq_ii, ne_ii, lt_ii, le_ii, gt_ii, ge_ii, is_n, isn_n, is_b, isn_b, add_ii, sub_ii, mul_ii, mod_ii, fdiv_ii, pow_ii, isNon, biD, intD_i, intD_b, esLen, beq_self_eq_true, ixD_tup, lsOf_new, seqD_tup, seqD_fl, slD_tup, bools, Option.map_some, true_and, ixD_fl, lenD_tup, lenD_fl, ix30, ix31, ix32, at20, at21, at30, at31, at32, List.filterMap_cons, List.filterMap_nil]
  have sm2 : sm 2 := sm_of 8 (by decide) (by decide)
  have smm : sm m := sm_of 1000 (by decide) (by omega)
  refine ⟨sm2, smm, ?_⟩
  refine call hG ⟨w, 2 * m + 1, _, rfl, by omega, by omega, w4, by omega, fun d5 S5 p5 q5 w5 k5 => ?_⟩
  try simp only [wpSs, wpS, wpE, wpEs, wpC, wpAnd, wpOr, wpO, wpIt, opt_some, onI_int, onB_bl, onR_ref, arg1_one, look, joinO, start, List.map_cons, List.map_nil, List.length_cons, List.length_nil, List.replicate, List.cons_append, List.nil_append, List.append_nil, List.getElem?_cons_succ, List.getElem?_cons_zero, kcD, Nat.reduceAdd, Nat.reduceSub, br_t, br_f, br_n, asg, setAll, List.set_cons_succ, List.set_cons_zero, tgs, wipe, eq_ii, ne_ii, lt_ii, le_ii, gt_ii, ge_ii, is_n, isn_n, is_b, isn_b, add_ii, sub_ii, mul_ii, mod_ii, fdiv_ii, pow_ii, isNon, biD, intD_i, intD_b, esLen, beq_self_eq_true, ixD_tup, lsOf_new, seqD_tup, seqD_fl, slD_tup, bools, Option.map_some, true_and, ixD_fl, lenD_tup, lenD_fl, ix30, ix31, ix32, at20, at21, at30, at31, at32, List.filterMap_cons, List.filterMap_nil]
  refine ⟨sm2, smm, ?_⟩
  refine call hG ⟨w, 2 * m + 1, _, rfl, by omega, by omega, w5, by omega, fun d6 S6 p6 q6 w6 k6 => ?_⟩
  try simp only [wpSs, wpS, wpE, wpEs, wpC, wpAnd, wpOr, wpO, wpIt, opt_some, onI_int, onB_bl, onR_ref, arg1_one, look, joinO, start, List.map_cons, List.map_nil, List.length_cons, List.length_nil, List.replicate, List.cons_append, List.nil_append, List.append_nil, List.getElem?_cons_succ, List.getElem?_cons_zero, kcD, Nat.reduceAdd, Nat.reduceSub, br_t, br_f, br_n, asg, setAll, List.set_cons_succ, List.set_cons_zero, tgs, wipe, eq_ii, ne_ii, lt_ii, le_ii, gt_ii, ge_ii, is_n, isn_n, is_b, isn_b, add_ii, sub_ii, mul_ii, mod_ii, fdiv_ii, pow_ii, isNon, biD, intD_i, intD_b, esLen, beq_self_eq_true, ixD_tup, lsOf_new, seqD_tup, seqD_fl, slD_tup, bools, Option.map_some, true_and, ixD_fl, lenD_tup, lenD_fl, ix30, ix31, ix32, at20, at21, at30, at31, at32, List.filterMap_cons, List.filterMap_nil]
  refine call hG ⟨w, 8, _, rfl, by decide, by decide, w6, by omega, fun d7 S7 p7 q7 w7 k7 => ?_⟩
  try simp only [wpSs, wpS, wpE, wpEs, wpC, wpAnd, wpOr, wpO, wpIt, opt_some, onI_int, onB_bl, onR_ref, arg1_one, look, joinO, start, List.map_cons, List.map_nil, List.length_cons, List.length_nil, List.replicate, List.cons_append, List.nil_append, List.append_nil, List.getElem?_cons_succ, List.getElem?_cons_zero, kcD, Nat.reduceAdd, Nat.reduceSub, br_t, br_f, br_n, asg, setAll, List.set_cons_succ, List.set_cons_zero, tgs, wipe, eq_ii, ne_ii, lt_ii, le_ii, gt_ii, ge_ii, is_n, isn_n, is_b, isn_b, add_ii, sub_ii, mul_ii, mod_ii, fdiv_ii, pow_ii, isNon, biD, intD_i, intD_b, esLen, beq_self_eq_true, ixD_tup, lsOf_new, seqD_tup, seqD_fl, slD_tup, bools, Option.map_some, true_and, ixD_fl, lenD_tup, lenD_fl, ix30, ix31, ix32, at20, at21, at30, at31, at32, List.filterMap_cons, List.filterMap_nil]
  have kk7 : Kp w S0 S7 := kk4.trans (k5.trans (k6.trans k7))
  have l2 : 2 ≤ lim := len_lim (by decide)
  have l4 : 4 ≤ lim := len_lim (by decide)
  -- the end, for any way
  have fin : ∀ (p q : Int) (S : Sto), Well (n + 8) S w → Kp w S0 S → -m ≤ p → p ≤ m → -m ≤ q → q ≤ m → 2 ≤ lim ∧ 2 ≤ lim ∧ cmpD .ne (.tup [.int p, .int q]) (.tup [.int 0, .int 0]) S fun k => br k (4 ≤ lim ∧ Q (.tup [.int x, .int y, .int p, .int q]) S) (4 ≤ lim ∧ Q (.tup [.int x, .int y, .int 1, .int 1]) S) := by
    intro p q S hw hk hp1 hp2 hq1 hq2
    refine ⟨l2, l2, ne_pair.mpr (br_if (fun h => ⟨l4, ?_⟩) fun h => ⟨l4, ?_⟩)⟩
    · refine hq x y p q S hx0 hx1 hy0 hy1 ?_ hp1 hp2 hq1 hq2 hw hk
      by_cases hp : p = 0
      · right
        intro hz
        subst hp hz
        simp at h
      · exact .inl hp
    · exact hq x y 1 1 S hx0 hx1 hy0 hy1 (.inl (by decide)) (by omega) (by omega) (by omega) (by omega) hw hk
  refine br_if (fun _ => fin 0 _ S7 (w7.le (by omega)) kk7 (by omega) (by omega) (by omega) (by omega)) fun _ => ?_
  refine call hG ⟨w, 8, _, rfl, by decide, by decide, w7, by omega, fun d8 S8 p8 q8 w8 k8 => ?_⟩
  try simp only [wpSs, wpS, wpE, wpEs, wpC, wpAnd, wpOr, wpO, wpIt, opt_some, onI_int, onB_bl, onR_ref, arg1_one, look, joinO, start, List.map_cons, List.map_nil, List.length_cons, List.length_nil, List.replicate, List.cons_append, List.nil_append, List.append_nil, List.getElem?_cons_succ, List.getElem?_cons_zero, kcD, Nat.reduceAdd, Nat.reduceSub, br_t, br_f, br_n, asg, setAll, List.set_cons_succ, List.set_cons_zero, tgs, wipe, eq_ii, ne_ii, lt_ii, le_ii, gt_ii, ge_ii, is_n, isn_n, is_b, isn_b, add_ii, sub_ii, mul_ii, mod_ii, fdiv_ii, pow_ii, isNon, biD, intD_i, intD_b, esLen, beq_self_eq_true, ixD_tup, lsOf_new, seqD_tup, seqD_fl, slD_tup, bools, Option.map_some, true_and, ixD_fl, lenD_tup, lenD_fl, ix30, ix31, ix32, at20, at21, at30, at31, at32, List.filterMap_cons, List.filterMap_nil]
  refine br_if (fun _ => fin _ 0 S8 (w8.le (by omega)) (kk7.trans k8) (by omega) (by omega) (by omega) (by omega)) fun _ => fin _ _ S8 (w8.le (by omega)) (kk7.trans k8) (by omega) (by omega) (by omega) (by omega)
end M
namespace M
/-- its type is known -/
def Kn (S : Sto) : D → Prop
  | .ref a => ∃ o, S a = some o
  | .xn _ _ => False
  | _ => True
def isI : D → Bool
  | .int _ => true
  | _ => false
def isBl : D → Bool
  | .bl _ => true
  | _ => false
def isT : D → Bool
  | .tup _ => true
  | _ => false
def isS : D → Bool
  | .str _ => true
  | _ => false
theorem ty_int {S : Sto} {v : D} (h : Kn S v) : isTy S v .int = some (isI v || isBl v) := by
  cases v with
  | ref a =>
    obtain ⟨o, e⟩ := h
    show tyO (S a) .int = _
    rw [e]
    cases o <;> rfl
  | xn c fs => exact False.elim h
  | _ => rfl
theorem ty_bool {S : Sto} {v : D} (h : Kn S v) : isTy S v .bool = some (isBl v) := by
  cases v with
  | ref a =>
    obtain ⟨o, e⟩ := h
    show tyO (S a) .bool = _
    rw [e]
    cases o <;> rfl
  | xn c fs => exact False.elim h
  | _ => rfl
theorem ty_tuple {S : Sto} {v : D} (h : Kn S v) : isTy S v .tuple = some (isT v) := by
  cases v with
  | ref a =>
    obtain ⟨o, e⟩ := h
    show tyO (S a) .tuple = _
    rw [e]
    cases o <;> rfl
  | xn c fs => exact False.elim h
  | _ => rfl
def oI : Option Int → D
  | none => .non
  | some i => .int i
def intB : D → Option Int → Option Int → Bool
  | .int i, lo, hi => (match lo with | none => true | some l => decide (l ≤ i)) && (match hi with | none => true | some m => decide (i ≤ m))
  | _, _, _ => false
/-- is_integer(value, least, most) -/
def spInt : Sp := fun ds S Q _ => ∃ v lo hi, ds = [v, oI lo, oI hi] ∧ Kn S v ∧ Q (.bl (intB v lo hi)) S
theorem txt_int {G : Gm} {ds : List D} {S0 : Sto} {Q : VK} {X : XK} {b : Ss} (hb : b = (.cons (.if_ (.or (.not (.isi (.v 0) .int)) (.cons (.isi (.v 0) .bool) .nil)) (.cons (.ret (.k (.bl false))) .nil) .nil) (.cons (.ret (.and (.or (.cmp .is_ (.v 1) (.k .non)) (.cons (.cmp .le (.v 1) (.v 0)) .nil)) (.cons (.or (.cmp .is_ (.v 2) (.k .non)) (.cons (.cmp .le (.v 0) (.v 2)) .nil)) .nil))) .nil))) (h : spInt ds S0 Q X) : ds.length = 3 ∧ wpSs G b (start 3 ds) S0 (kR Q X) := by
  obtain ⟨v, lo, hi, rfl, hk, hq⟩ := h
  subst hb
  refine ⟨rfl, ?_⟩
  simp only [wpSs, wpS, wpE, wpEs, wpC, wpAnd, wpOr, wpO, wpIt, opt_some, onI_int, onB_bl, onR_ref, arg1_one, look, joinO, start, List.map_cons, List.map_nil, List.length_cons, List.length_nil, List.replicate, List.cons_append, List.nil_append, List.append_nil, List.getElem?_cons_succ, List.getElem?_cons_zero, kcD, Nat.reduceAdd, Nat.reduceSub, br_t, br_f, br_n, asg, setAll, List.set_cons_succ, List.set_cons_zero, tgs, wipe, eq_ii, ne_ii, lt_ii, le_ii, gt_ii, ge_ii, is_n, isn_n, is_b, isn_b, add_ii, sub_ii, mul_ii, mod_ii, fdiv_ii, pow_ii, isNon, biD, intD_i, intD_b, esLen, beq_self_eq_true, ixD_tup, lsOf_new, seqD_tup, seqD_fl, slD_tup, bools, Option.map_some, true_and, ixD_fl, lenD_tup, lenD_fl, ix30, ix31, ix32, at20, at21, at30, at31, at32, List.filterMap_cons, List.filterMap_nil, ty_int hk, ty_bool hk]
  cases v with
  | int i =>
    simp only [isI, isBl, Bool.or_false, br_t, br_f]
    cases lo <;> cases hi
    · exact (by simpa [oI, intB, wpSs, wpS, wpE, wpEs, wpC, wpAnd, wpOr, wpO, wpIt, opt_some, onI_int, onB_bl, onR_ref, arg1_one, look, joinO, start, List.map_cons, List.map_nil, List.length_cons, List.length_nil, List.replicate, List.cons_append, List.nil_append, List.append_nil, List.getElem?_cons_succ, List.getElem?_cons_zero, kcD, Nat.reduceAdd, Nat.reduceSub, br_t, br_f, br_n, asg, setAll, List.set_cons_succ, List.set_cons_zero, tgs, wipe, eq_ii, ne_ii, lt_ii, le_ii, gt_ii, ge_ii, is_n, isn_n, is_b, isn_b, add_ii, sub_ii, mul_ii, mod_ii, fdiv_ii, pow_ii, isNon, biD, intD_i, intD_b, esLen, beq_self_eq_true, ixD_tup, lsOf_new, seqD_tup, seqD_fl, slD_tup, bools, Option.map_some, true_and, ixD_fl, lenD_tup, lenD_fl, ix30, ix31, ix32, at20, at21, at30, at31, at32, List.filterMap_cons, List.filterMap_nil] using hq)
    · exact (by simpa [oI, intB, wpSs, wpS, wpE, wpEs, wpC, wpAnd, wpOr, wpO, wpIt, opt_some, onI_int, onB_bl, onR_ref, arg1_one, look, joinO, start, List.map_cons, List.map_nil, List.length_cons, List.length_nil, List.replicate, List.cons_append, List.nil_append, List.append_nil, List.getElem?_cons_succ, List.getElem?_cons_zero, kcD, Nat.reduceAdd, Nat.reduceSub, br_t, br_f, br_n, asg, setAll, List.set_cons_succ, List.set_cons_zero, tgs, wipe, eq_ii, ne_ii, lt_ii, le_ii, gt_ii, ge_ii, is_n, isn_n, is_b, isn_b, add_ii, sub_ii, mul_ii, mod_ii, fdiv_ii, pow_ii, isNon, biD, intD_i, intD_b, esLen, beq_self_eq_true, ixD_tup, lsOf_new, seqD_tup, seqD_fl, slD_tup, bools, Option.map_some, true_and, ixD_fl, lenD_tup, lenD_fl, ix30, ix31, ix32, at20, at21, at30, at31, at32, List.filterMap_cons, List.filterMap_nil] using hq)
    · rename_i l
      have hq : Q (.bl (decide (l ≤ i) && true)) S0 := hq
      simp only [oI, wpSs, wpS, wpE, wpEs, wpC, wpAnd, wpOr, wpO, wpIt, opt_some, onI_int, onB_bl, onR_ref, arg1_one, look, joinO, start, List.map_cons, List.map_nil, List.length_cons, List.length_nil, List.replicate, List.cons_append, List.nil_append, List.append_nil, List.getElem?_cons_succ, List.getElem?_cons_zero, kcD, Nat.reduceAdd, Nat.reduceSub, br_t, br_f, br_n, asg, setAll, List.set_cons_succ, List.set_cons_zero, tgs, wipe, eq_ii, ne_ii, lt_ii, le_ii, gt_ii, ge_ii, is_n, isn_n, is_b, isn_b, add_ii, sub_ii, mul_ii, mod_ii, fdiv_ii, pow_ii, isNon, biD, intD_i, intD_b, esLen, beq_self_eq_true, ixD_tup, lsOf_new, seqD_tup, seqD_fl, slD_tup, bools, Option.map_some, true_and, ixD_fl, lenD_tup, lenD_fl, ix30, ix31, ix32, at20, at21, at30, at31, at32, List.filterMap_cons, List.filterMap_nil]
      exact br_if (fun h => by rw [h] at hq; exact hq) fun h => by rw [h] at hq; exact hq
    · rename_i l m
      have hq : Q (.bl (decide (l ≤ i) && decide (i ≤ m))) S0 := hq
      simp only [oI, wpSs, wpS, wpE, wpEs, wpC, wpAnd, wpOr, wpO, wpIt, opt_some, onI_int, onB_bl, onR_ref, arg1_one, look, joinO, start, List.map_cons, List.map_nil, List.length_cons, List.length_nil, List.replicate, List.cons_append, List.nil_append, List.append_nil, List.getElem?_cons_succ, List.getElem?_cons_zero, kcD, Nat.reduceAdd, Nat.reduceSub, br_t, br_f, br_n, asg, setAll, List.set_cons_succ, List.set_cons_zero, tgs, wipe, eq_ii, ne_ii, lt_ii, le_ii, gt_ii, ge_ii, is_n, isn_n, is_b, isn_b, add_ii, sub_ii, mul_ii, mod_ii, fdiv_ii, pow_ii, isNon, biD, intD_i, intD_b, esLen, beq_self_eq_true, ixD_tup, lsOf_new, seqD_tup, seqD_fl, slD_tup, bools, Option.map_some, true_and, ixD_fl, lenD_tup, lenD_fl, ix30, ix31, ix32, at20, at21, at30, at31, at32, List.filterMap_cons, List.filterMap_nil]
      exact br_if (fun h => by rw [h] at hq; exact hq) fun h => by rw [h] at hq; exact hq
  | bl i => exact br_t.mpr (br_t.mpr hq)
  | _ => exact br_f.mpr hq
/-- divisor(one, other) -/
def spGcd : Sp := fun ds S Q _ => ∃ a b : Int, ds = [.int a, .int b] ∧ Q (.int (Int.gcd a b : Nat)) S
theorem abs_ite (a : Int) : (if a < 0 then -a else a) = (a.natAbs : Int) := by split <;> omega
theorem txt_gcd {G : Gm} {ds : List D} {S0 : Sto} {Q : VK} {X : XK} {b : Ss} (hb : b = (.cons (.par 2 3 (.bi .abs (.cons (.v 0) .nil)) (.bi .abs (.cons (.v 1) .nil))) (.cons (.while_ (.cmp .ne (.v 3) (.k (.int 0))) (.cons (.set (.v 4) (.bin .mod (.v 2) (.v 3))) (.cons (.set (.v 2) (.v 3)) (.cons (.set (.v 3) (.v 4)) .nil)))) (.cons (.ret (.v 2)) .nil)))) (h : spGcd ds S0 Q X) : ds.length = 2 ∧ wpSs G b (start 5 ds) S0 (kR Q X) := by
  obtain ⟨x, y, rfl, hq⟩ := h
  subst hb
  refine ⟨rfl, ?_⟩
  simp only [wpSs, wpS, wpE, wpEs, wpC, wpAnd, wpOr, wpO, wpIt, opt_some, onI_int, onB_bl, onR_ref, arg1_one, look, joinO, start, List.map_cons, List.map_nil, List.length_cons, List.length_nil, List.replicate, List.cons_append, List.nil_append, List.append_nil, List.getElem?_cons_succ, List.getElem?_cons_zero, kcD, Nat.reduceAdd, Nat.reduceSub, br_t, br_f, br_n, asg, setAll, List.set_cons_succ, List.set_cons_zero, tgs, wipe, eq_ii, ne_ii, lt_ii, le_ii, gt_ii, ge_ii, is_n, isn_n, is_b, isn_b, add_ii, sub_ii, mul_ii, mod_ii, fdiv_ii, pow_ii, isNon, biD, intD_i, intD_b, esLen, beq_self_eq_true, ixD_tup, lsOf_new, seqD_tup, seqD_fl, slD_tup, bools, Option.map_some, true_and, ixD_fl, lenD_tup, lenD_fl, ix30, ix31, ix32, at20, at21, at30, at31, at32, List.filterMap_cons, List.filterMap_nil, abs_ite]
  have run : ∀ (n : Nat) (u v : Nat) (z : Option D), v ≤ n → Nat.gcd u v = Int.gcd x y → ∃ m, whileN (fun ρ1 S1 nx => wpE G (.cmp .ne (.v 3) (.k (.int 0))) ρ1 S1 (fun x S2 => onB x fun k => br k (wpSs G (.cons (.set (.v 4) (.bin .mod (.v 2) (.v 3))) (.cons (.set (.v 2) (.v 3)) (.cons (.set (.v 3) (.v 4)) .nil))) ρ1 S2 { nx := nx, rt := Q, bk := fun ρ1 S1 => wpSs G (.cons (.ret (.v 2)) .nil) ρ1 S1 (kR Q X), xe := fun k fs _ S' => X k fs S' }) (wpSs G (.cons (.ret (.v 2)) .nil) ρ1 S2 (kR Q X))) (fun k fs S2 => X k fs S2)) m [some (.int x), some (.int y), some (.int u), some (.int v), z] S0 := by
    intro n
    induction n with
    | zero =>
      intro u v z hv hg
      have e : v = 0 := by omega
      subst e
      refine ⟨1, ?_⟩
      rw [Nat.gcd_zero_right] at hg
      simp only [whileN, wpSs, wpS, wpE, wpEs, wpC, wpAnd, wpOr, wpO, wpIt, opt_some, onI_int, onB_bl, onR_ref, arg1_one, look, joinO, start, List.map_cons, List.map_nil, List.length_cons, List.length_nil, List.replicate, List.cons_append, List.nil_append, List.append_nil, List.getElem?_cons_succ, List.getElem?_cons_zero, kcD, Nat.reduceAdd, Nat.reduceSub, br_t, br_f, br_n, asg, setAll, List.set_cons_succ, List.set_cons_zero, tgs, wipe, eq_ii, ne_ii, lt_ii, le_ii, gt_ii, ge_ii, is_n, isn_n, is_b, isn_b, add_ii, sub_ii, mul_ii, mod_ii, fdiv_ii, pow_ii, isNon, biD, intD_i, intD_b, esLen, beq_self_eq_true, ixD_tup, lsOf_new, seqD_tup, seqD_fl, slD_tup, bools, Option.map_some, true_and, ixD_fl, lenD_tup, lenD_fl, ix30, ix31, ix32, at20, at21, at30, at31, at32, List.filterMap_cons, List.filterMap_nil]
      rw [hg]
      exact br_t.mpr hq
    | succ n ih =>
      intro u v z hv hg
      by_cases h0 : v = 0
      · subst h0
        refine ⟨1, ?_⟩
        rw [Nat.gcd_zero_right] at hg
        simp only [whileN, wpSs, wpS, wpE, wpEs, wpC, wpAnd, wpOr, wpO, wpIt, opt_some, onI_int, onB_bl, onR_ref, arg1_one, look, joinO, start, List.map_cons, List.map_nil, List.length_cons, List.length_nil, List.replicate, List.cons_append, List.nil_append, List.append_nil, List.getElem?_cons_succ, List.getElem?_cons_zero, kcD, Nat.reduceAdd, Nat.reduceSub, br_t, br_f, br_n, asg, setAll, List.set_cons_succ, List.set_cons_zero, tgs, wipe, eq_ii, ne_ii, lt_ii, le_ii, gt_ii, ge_ii, is_n, isn_n, is_b, isn_b, add_ii, sub_ii, mul_ii, mod_ii, fdiv_ii, pow_ii, isNon, biD, intD_i, intD_b, esLen, beq_self_eq_true, ixD_tup, lsOf_new, seqD_tup, seqD_fl, slD_tup, bools, Option.map_some, true_and, ixD_fl, lenD_tup, lenD_fl, ix30, ix31, ix32, at20, at21, at30, at31, at32, List.filterMap_cons, List.filterMap_nil]
        rw [hg]
        exact br_t.mpr hq
      · obtain ⟨m, hm⟩ := ih v (u % v) (some (.int ((u % v : Nat) : Int))) (by have := Nat.mod_lt u (y := v) (by omega); omega) (by rw [← hg, Nat.gcd_comm, ← Nat.gcd_rec, Nat.gcd_comm])
        refine ⟨m + 1, ?_⟩
        have hb : ((v : Int) == 0) = false := by simp; omega
        have hf : Int.fmod (u : Int) (v : Int) = ((u % v : Nat) : Int) := by rw [fmod_pos (by omega)]; rfl
        simp only [whileN, wpSs, wpS, wpE, wpEs, wpC, wpAnd, wpOr, wpO, wpIt, opt_some, onI_int, onB_bl, onR_ref, arg1_one, look, joinO, start, List.map_cons, List.map_nil, List.length_cons, List.length_nil, List.replicate, List.cons_append, List.nil_append, List.append_nil, List.getElem?_cons_succ, List.getElem?_cons_zero, kcD, Nat.reduceAdd, Nat.reduceSub, br_t, br_f, br_n, asg, setAll, List.set_cons_succ, List.set_cons_zero, tgs, wipe, eq_ii, ne_ii, lt_ii, le_ii, gt_ii, ge_ii, is_n, isn_n, is_b, isn_b, add_ii, sub_ii, mul_ii, mod_ii, fdiv_ii, pow_ii, isNon, biD, intD_i, intD_b, esLen, beq_self_eq_true, ixD_tup, lsOf_new, seqD_tup, seqD_fl, slD_tup, bools, Option.map_some, true_and, ixD_fl, lenD_tup, lenD_fl, ix30, ix31, ix32, at20, at21, at30, at31, at32, List.filterMap_cons, List.filterMap_nil, hb, hf]
        simp only [wpSs, wpS, wpE, wpEs, wpC, wpAnd, wpOr, wpO, wpIt, opt_some, onI_int, onB_bl, onR_ref, arg1_one, look, joinO, start, List.map_cons, List.map_nil, List.length_cons, List.length_nil, List.replicate, List.cons_append, List.nil_append, List.append_nil, List.getElem?_cons_succ, List.getElem?_cons_zero, kcD, Nat.reduceAdd, Nat.reduceSub, br_t, br_f, br_n, asg, setAll, List.set_cons_succ, List.set_cons_zero, tgs, wipe, eq_ii, ne_ii, lt_ii, le_ii, gt_ii, ge_ii, is_n, isn_n, is_b, isn_b, add_ii, sub_ii, mul_ii, mod_ii, fdiv_ii, pow_ii, isNon, biD, intD_i, intD_b, esLen, beq_self_eq_true, ixD_tup, lsOf_new, seqD_tup, seqD_fl, slD_tup, bools, Option.map_some, true_and, ixD_fl, lenD_tup, lenD_fl, ix30, ix31, ix32, at20, at21, at30, at31, at32, List.filterMap_cons, List.filterMap_nil] at hm
        first
          | exact ⟨by omega, hm⟩
          | exact br_f.mpr (show _ ∧ _ from ⟨by omega, hm⟩)
  obtain ⟨m, hm⟩ := run _ x.natAbs y.natAbs none (Nat.le_refl _) rfl
  simp only [wpSs, wpS, wpE, wpEs, wpC, wpAnd, wpOr, wpO, wpIt, opt_some, onI_int, onB_bl, onR_ref, arg1_one, look, joinO, start, List.map_cons, List.map_nil, List.length_cons, List.length_nil, List.replicate, List.cons_append, List.nil_append, List.append_nil, List.getElem?_cons_succ, List.getElem?_cons_zero, kcD, Nat.reduceAdd, Nat.reduceSub, br_t, br_f, br_n, asg, setAll, List.set_cons_succ, List.set_cons_zero, tgs, wipe, eq_ii, ne_ii, lt_ii, le_ii, gt_ii, ge_ii, is_n, isn_n, is_b, isn_b, add_ii, sub_ii, mul_ii, mod_ii, fdiv_ii, pow_ii, isNon, biD, intD_i, intD_b, esLen, beq_self_eq_true, ixD_tup, lsOf_new, seqD_tup, seqD_fl, slD_tup, bools, Option.map_some, true_and, ixD_fl, lenD_tup, lenD_fl, ix30, ix31, ix32, at20, at21, at30, at31, at32, List.filterMap_cons, List.filterMap_nil] at hm
  exact ⟨m, hm⟩
end M
namespace M
/-- a value whose types are known, one deep -/
def Vl (S : Sto) (v : D) : Prop := Kn S v ∧ ∀ xs, v = .tup xs → ∀ y ∈ xs, Kn S y
theorem Kn.ext {S S' : Sto} {v : D} (h : Kn S v) (k : Ext S S') : Kn S' v := by
  cases v with
  | ref a => obtain ⟨o, e⟩ := h; exact ⟨o, k _ _ e⟩
  | xn _ _ => exact h
  | _ => trivial
theorem Vl.ext {S S' : Sto} {v : D} (h : Vl S v) (k : Ext S S') : Vl S' v := ⟨h.1.ext k, fun xs e y hy => (h.2 xs e y hy).ext k⟩
theorem isT_of {v : D} (h : isT v = true) : ∃ xs, v = .tup xs := by
  cases v <;> first | exact ⟨_, rfl⟩ | cases h
theorem len2 {α : Type} {xs : List α} (h : (((xs.length : Nat) : Int) == 2) = true) : ∃ x y, xs = [x, y] := by
  have h : ((xs.length : Nat) : Int) = 2 := by simpa using h
  match xs, h with
  | [x, y], _ => exact ⟨x, y, rfl⟩
  | [], h => simp at h
  | [_], h => simp at h
  | _ :: _ :: _ :: _, h => simp at h; omega
theorem len4 {α : Type} {xs : List α} (h : (((xs.length : Nat) : Int) == 4) = true) : ∃ x y z u, xs = [x, y, z, u] := by
  have h : ((xs.length : Nat) : Int) = 4 := by simpa using h
  match xs, h with
  | [x, y, z, u], _ => exact ⟨x, y, z, u, rfl⟩
  | [], h => simp at h
  | [_], h => simp at h
  | [_, _], h => simp at h
  | [_, _, _], h => simp at h
  | _ :: _ :: _ :: _ :: _ :: _, h => simp at h; omega
def tabL : List D → Bool
  | [x, y] => intB x (some 1) none && intB y (some 1) none
  | _ => false
/-- is it a table -/
def tabB : D → Bool
  | .tup xs => tabL xs
  | _ => false
theorem tabL_len {xs : List D} (h : (((xs.length : Nat) : Int) == 2) = false) : tabL xs = false := by
  unfold tabL
  split
  · simp at h
  · rfl
def spTab : Sp := fun ds S Q _ => ∃ v, ds = [v] ∧ Vl S v ∧ ∀ S', Ext S S' → Q (.bl (tabB v)) S'
theorem txt_tab {G : Gm} {ds : List D} {S0 : Sto} {Q : VK} {X : XK} {b : Ss} (hb : b = (.cons (.ret (.and (.isi (.v 0) .tuple) (.cons (.cmp .eq (.bi .len (.cons (.v 0) .nil)) (.k (.int 2))) (.cons (.bi .all (.cons (.comp (.call 0 (.cons (.v 1) (.cons (.k (.int 1)) (.cons (.k .non) .nil)))) (.v 1) (.seq (.v 0)) .none) .nil)) .nil)))) .nil)) (h0 : G.fn 0 = spInt) (h : spTab ds S0 Q X) : ds.length = 1 ∧ wpSs G b (start 2 ds) S0 (kR Q X) := by
  obtain ⟨v, rfl, hv, hq⟩ := h
  subst hb
  refine ⟨rfl, ?_⟩
  simp only [wpSs, wpS, wpE, wpEs, wpC, wpAnd, wpOr, wpO, wpIt, opt_some, onI_int, onB_bl, onR_ref, arg1_one, look, joinO, start, List.map_cons, List.map_nil, List.length_cons, List.length_nil, List.replicate, List.cons_append, List.nil_append, List.append_nil, List.getElem?_cons_succ, List.getElem?_cons_zero, kcD, Nat.reduceAdd, Nat.reduceSub, br_t, br_f, br_n, asg, setAll, List.set_cons_succ, List.set_cons_zero, tgs, wipe, eq_ii, ne_ii, lt_ii, le_ii, gt_ii, ge_ii, is_n, isn_n, is_b, isn_b, add_ii, sub_ii, mul_ii, mod_ii, fdiv_ii, pow_ii, isNon, biD, intD_i, intD_b, esLen, beq_self_eq_true, ixD_tup, lsOf_new, seqD_tup, seqD_fl, slD_tup, bools, Option.map_some, true_and, ixD_fl, lenD_tup, lenD_fl, ix30, ix31, ix32, at20, at21, at30, at31, at32, List.filterMap_cons, List.filterMap_nil, ty_tuple hv.1]
  refine br_if (fun hT => ?_) fun hT => ?_
  · obtain ⟨xs, rfl⟩ := isT_of hT
    have hx := hv.2 xs rfl
    simp only [wpSs, wpS, wpE, wpEs, wpC, wpAnd, wpOr, wpO, wpIt, opt_some, onI_int, onB_bl, onR_ref, arg1_one, look, joinO, start, List.map_cons, List.map_nil, List.length_cons, List.length_nil, List.replicate, List.cons_append, List.nil_append, List.append_nil, List.getElem?_cons_succ, List.getElem?_cons_zero, kcD, Nat.reduceAdd, Nat.reduceSub, br_t, br_f, br_n, asg, setAll, List.set_cons_succ, List.set_cons_zero, tgs, wipe, eq_ii, ne_ii, lt_ii, le_ii, gt_ii, ge_ii, is_n, isn_n, is_b, isn_b, add_ii, sub_ii, mul_ii, mod_ii, fdiv_ii, pow_ii, isNon, biD, intD_i, intD_b, esLen, beq_self_eq_true, ixD_tup, lsOf_new, seqD_tup, seqD_fl, slD_tup, bools, Option.map_some, true_and, ixD_fl, lenD_tup, lenD_fl, ix30, ix31, ix32, at20, at21, at30, at31, at32, List.filterMap_cons, List.filterMap_nil]
    refine br_if (fun hl => ?_) fun hl => ?_
    · obtain ⟨x, y, rfl⟩ := len2 hl
      simp only [wpSs, wpS, wpE, wpEs, wpC, wpAnd, wpOr, wpO, wpIt, opt_some, onI_int, onB_bl, onR_ref, arg1_one, look, joinO, start, List.map_cons, List.map_nil, List.length_cons, List.length_nil, List.replicate, List.cons_append, List.nil_append, List.append_nil, List.getElem?_cons_succ, List.getElem?_cons_zero, kcD, Nat.reduceAdd, Nat.reduceSub, br_t, br_f, br_n, asg, setAll, List.set_cons_succ, List.set_cons_zero, tgs, wipe, eq_ii, ne_ii, lt_ii, le_ii, gt_ii, ge_ii, is_n, isn_n, is_b, isn_b, add_ii, sub_ii, mul_ii, mod_ii, fdiv_ii, pow_ii, isNon, biD, intD_i, intD_b, esLen, beq_self_eq_true, ixD_tup, lsOf_new, seqD_tup, seqD_fl, slD_tup, bools, Option.map_some, true_and, ixD_fl, lenD_tup, lenD_fl, ix30, ix31, ix32, at20, at21, at30, at31, at32, List.filterMap_cons, List.filterMap_nil, compW]
      refine ⟨len_lim (by decide), ?_⟩
      refine call h0 ⟨x, some 1, none, rfl, hx x (by simp), ?_⟩
      try simp only [wpSs, wpS, wpE, wpEs, wpC, wpAnd, wpOr, wpO, wpIt, opt_some, onI_int, onB_bl, onR_ref, arg1_one, look, joinO, start, List.map_cons, List.map_nil, List.length_cons, List.length_nil, List.replicate, List.cons_append, List.nil_append, List.append_nil, List.getElem?_cons_succ, List.getElem?_cons_zero, kcD, Nat.reduceAdd, Nat.reduceSub, br_t, br_f, br_n, asg, setAll, List.set_cons_succ, List.set_cons_zero, tgs, wipe, eq_ii, ne_ii, lt_ii, le_ii, gt_ii, ge_ii, is_n, isn_n, is_b, isn_b, add_ii, sub_ii, mul_ii, mod_ii, fdiv_ii, pow_ii, isNon, biD, intD_i, intD_b, esLen, beq_self_eq_true, ixD_tup, lsOf_new, seqD_tup, seqD_fl, slD_tup, bools, Option.map_some, true_and, ixD_fl, lenD_tup, lenD_fl, ix30, ix31, ix32, at20, at21, at30, at31, at32, List.filterMap_cons, List.filterMap_nil, compW]
      refine call h0 ⟨y, some 1, none, rfl, hx y (by simp), ?_⟩
      try simp only [wpSs, wpS, wpE, wpEs, wpC, wpAnd, wpOr, wpO, wpIt, opt_some, onI_int, onB_bl, onR_ref, arg1_one, look, joinO, start, List.map_cons, List.map_nil, List.length_cons, List.length_nil, List.replicate, List.cons_append, List.nil_append, List.append_nil, List.getElem?_cons_succ, List.getElem?_cons_zero, kcD, Nat.reduceAdd, Nat.reduceSub, br_t, br_f, br_n, asg, setAll, List.set_cons_succ, List.set_cons_zero, tgs, wipe, eq_ii, ne_ii, lt_ii, le_ii, gt_ii, ge_ii, is_n, isn_n, is_b, isn_b, add_ii, sub_ii, mul_ii, mod_ii, fdiv_ii, pow_ii, isNon, biD, intD_i, intD_b, esLen, beq_self_eq_true, ixD_tup, lsOf_new, seqD_tup, seqD_fl, slD_tup, bools, Option.map_some, true_and, ixD_fl, lenD_tup, lenD_fl, ix30, ix31, ix32, at20, at21, at30, at31, at32, List.filterMap_cons, List.filterMap_nil, compW]
      intro p hp
      simp only [wpSs, wpS, wpE, wpEs, wpC, wpAnd, wpOr, wpO, wpIt, opt_some, onI_int, onB_bl, onR_ref, arg1_one, look, joinO, start, List.map_cons, List.map_nil, List.length_cons, List.length_nil, List.replicate, List.cons_append, List.nil_append, List.append_nil, List.getElem?_cons_succ, List.getElem?_cons_zero, kcD, Nat.reduceAdd, Nat.reduceSub, br_t, br_f, br_n, asg, setAll, List.set_cons_succ, List.set_cons_zero, tgs, wipe, eq_ii, ne_ii, lt_ii, le_ii, gt_ii, ge_ii, is_n, isn_n, is_b, isn_b, add_ii, sub_ii, mul_ii, mod_ii, fdiv_ii, pow_ii, isNon, biD, intD_i, intD_b, esLen, beq_self_eq_true, ixD_tup, lsOf_new, seqD_tup, seqD_fl, slD_tup, bools, Option.map_some, true_and, ixD_fl, lenD_tup, lenD_fl, ix30, ix31, ix32, at20, at21, at30, at31, at32, List.filterMap_cons, List.filterMap_nil, Option.toList]
      have e := hq _ (Ext.new (o := .lst [.bl (intB x (some 1) none), .bl (intB y (some 1) none)]) hp)
      simpa [tabB, tabL] using e
    · have e : tabB (.tup xs) = false := tabL_len hl
      rw [e] at hq
      exact hq S0 Ext.refl
  · have e : tabB v = false := by cases v <;> first | rfl | cases hT
    rw [e] at hq
    exact hq S0 Ext.refl
def int0 : D → Int
  | .int i => i
  | _ => 0
def freeL : List D → Bool
  | [x, y, z, u] => (isI x && isI y && isI z && isI u) && (decide (0 ≤ int0 x) && decide (0 ≤ int0 y) && !(int0 z == 0 && int0 u == 0))
  | _ => false
/-- is it a free shot -/
def freeB : D → Bool
  | .tup xs => freeL xs
  | _ => false
theorem freeL_len {xs : List D} (h : (((xs.length : Nat) : Int) == 4) = false) : freeL xs = false := by
  unfold freeL
  split
  · simp at h
  · rfl
theorem intB_none {v : D} : intB v none none = isI v := by cases v <;> rfl
theorem isI_of {v : D} (h : isI v = true) : ∃ i, v = .int i := by cases v <;> first | exact ⟨_, rfl⟩ | cases h
def spFree : Sp := fun ds S Q _ => ∃ v, ds = [v] ∧ Vl S v ∧ ∀ S', Ext S S' → Q (.bl (freeB v)) S'
theorem txt_free {G : Gm} {ds : List D} {S0 : Sto} {Q : VK} {X : XK} {b : Ss} (hb : b = (.cons (.if_ (.or (.not (.isi (.v 0) .tuple)) (.cons (.cmp .ne (.bi .len (.cons (.v 0) .nil)) (.k (.int 4))) (.cons (.not (.bi .all (.cons (.comp (.call 0 (.cons (.v 1) (.cons (.k .non) (.cons (.k .non) .nil)))) (.v 1) (.seq (.v 0)) .none) .nil))) .nil))) (.cons (.ret (.k (.bl false))) .nil) .nil) (.cons (.ret (.and (.cmp .ge (.ix (.v 0) (.k (.int 0))) (.k (.int 0))) (.cons (.cmp .ge (.ix (.v 0) (.k (.int 1))) (.k (.int 0))) (.cons (.cmp .ne (.sl (.v 0) (.some (.k (.int 2))) .none) (.tup (.cons (.k (.int 0)) (.cons (.k (.int 0)) .nil)))) .nil)))) .nil))) (h0 : G.fn 0 = spInt) (h : spFree ds S0 Q X) : ds.length = 1 ∧ wpSs G b (start 2 ds) S0 (kR Q X) := by
  obtain ⟨v, rfl, hv, hq⟩ := h
  subst hb
  refine ⟨rfl, ?_⟩
  simp only [wpSs, wpS, wpE, wpEs, wpC, wpAnd, wpOr, wpO, wpIt, opt_some, onI_int, onB_bl, onR_ref, arg1_one, look, joinO, start, List.map_cons, List.map_nil, List.length_cons, List.length_nil, List.replicate, List.cons_append, List.nil_append, List.append_nil, List.getElem?_cons_succ, List.getElem?_cons_zero, kcD, Nat.reduceAdd, Nat.reduceSub, br_t, br_f, br_n, asg, setAll, List.set_cons_succ, List.set_cons_zero, tgs, wipe, eq_ii, ne_ii, lt_ii, le_ii, gt_ii, ge_ii, is_n, isn_n, is_b, isn_b, add_ii, sub_ii, mul_ii, mod_ii, fdiv_ii, pow_ii, isNon, biD, intD_i, intD_b, esLen, beq_self_eq_true, ixD_tup, lsOf_new, seqD_tup, seqD_fl, slD_tup, bools, Option.map_some, true_and, ixD_fl, lenD_tup, lenD_fl, ix30, ix31, ix32, at20, at21, at30, at31, at32, List.filterMap_cons, List.filterMap_nil, ty_tuple hv.1]
  refine br_if (fun hT => ?_) fun hT => ?_
  · obtain ⟨xs, rfl⟩ := isT_of hT
    have hx := hv.2 xs rfl
    simp only [wpSs, wpS, wpE, wpEs, wpC, wpAnd, wpOr, wpO, wpIt, opt_some, onI_int, onB_bl, onR_ref, arg1_one, look, joinO, start, List.map_cons, List.map_nil, List.length_cons, List.length_nil, List.replicate, List.cons_append, List.nil_append, List.append_nil, List.getElem?_cons_succ, List.getElem?_cons_zero, kcD, Nat.reduceAdd, Nat.reduceSub, br_t, br_f, br_n, asg, setAll, List.set_cons_succ, List.set_cons_zero, tgs, wipe, eq_ii, ne_ii, lt_ii, le_ii, gt_ii, ge_ii, is_n, isn_n, is_b, isn_b, add_ii, sub_ii, mul_ii, mod_ii, fdiv_ii, pow_ii, isNon, biD, intD_i, intD_b, esLen, beq_self_eq_true, ixD_tup, lsOf_new, seqD_tup, seqD_fl, slD_tup, bools, Option.map_some, true_and, ixD_fl, lenD_tup, lenD_fl, ix30, ix31, ix32, at20, at21, at30, at31, at32, List.filterMap_cons, List.filterMap_nil]
    refine br_if (fun hl => ?_) fun hl => ?_
    · obtain ⟨x, y, z, u, rfl⟩ := len4 hl
      simp only [wpSs, wpS, wpE, wpEs, wpC, wpAnd, wpOr, wpO, wpIt, opt_some, onI_int, onB_bl, onR_ref, arg1_one, look, joinO, start, List.map_cons, List.map_nil, List.length_cons, List.length_nil, List.replicate, List.cons_append, List.nil_append, List.append_nil, List.getElem?_cons_succ, List.getElem?_cons_zero, kcD, Nat.reduceAdd, Nat.reduceSub, br_t, br_f, br_n, asg, setAll, List.set_cons_succ, List.set_cons_zero, tgs, wipe, eq_ii, ne_ii, lt_ii, le_ii, gt_ii, ge_ii, is_n, isn_n, is_b, isn_b, add_ii, sub_ii, mul_ii, mod_ii, fdiv_ii, pow_ii, isNon, biD, intD_i, intD_b, esLen, beq_self_eq_true, ixD_tup, lsOf_new, seqD_tup, seqD_fl, slD_tup, bools, Option.map_some, true_and, ixD_fl, lenD_tup, lenD_fl, ix30, ix31, ix32, at20, at21, at30, at31, at32, List.filterMap_cons, List.filterMap_nil, compW]
      refine ⟨len_lim (by decide), ?_⟩
      refine call h0 ⟨x, none, none, rfl, hx x (by simp), ?_⟩
      try simp only [wpSs, wpS, wpE, wpEs, wpC, wpAnd, wpOr, wpO, wpIt, opt_some, onI_int, onB_bl, onR_ref, arg1_one, look, joinO, start, List.map_cons, List.map_nil, List.length_cons, List.length_nil, List.replicate, List.cons_append, List.nil_append, List.append_nil, List.getElem?_cons_succ, List.getElem?_cons_zero, kcD, Nat.reduceAdd, Nat.reduceSub, br_t, br_f, br_n, asg, setAll, List.set_cons_succ, List.set_cons_zero, tgs, wipe, eq_ii, ne_ii, lt_ii, le_ii, gt_ii, ge_ii, is_n, isn_n, is_b, isn_b, add_ii, sub_ii, mul_ii, mod_ii, fdiv_ii, pow_ii, isNon, biD, intD_i, intD_b, esLen, beq_self_eq_true, ixD_tup, lsOf_new, seqD_tup, seqD_fl, slD_tup, bools, Option.map_some, true_and, ixD_fl, lenD_tup, lenD_fl, ix30, ix31, ix32, at20, at21, at30, at31, at32, List.filterMap_cons, List.filterMap_nil, compW]
      refine call h0 ⟨y, none, none, rfl, hx y (by simp), ?_⟩
      try simp only [wpSs, wpS, wpE, wpEs, wpC, wpAnd, wpOr, wpO, wpIt, opt_some, onI_int, onB_bl, onR_ref, arg1_one, look, joinO, start, List.map_cons, List.map_nil, List.length_cons, List.length_nil, List.replicate, List.cons_append, List.nil_append, List.append_nil, List.getElem?_cons_succ, List.getElem?_cons_zero, kcD, Nat.reduceAdd, Nat.reduceSub, br_t, br_f, br_n, asg, setAll, List.set_cons_succ, List.set_cons_zero, tgs, wipe, eq_ii, ne_ii, lt_ii, le_ii, gt_ii, ge_ii, is_n, isn_n, is_b, isn_b, add_ii, sub_ii, mul_ii, mod_ii, fdiv_ii, pow_ii, isNon, biD, intD_i, intD_b, esLen, beq_self_eq_true, ixD_tup, lsOf_new, seqD_tup, seqD_fl, slD_tup, bools, Option.map_some, true_and, ixD_fl, lenD_tup, lenD_fl, ix30, ix31, ix32, at20, at21, at30, at31, at32, List.filterMap_cons, List.filterMap_nil, compW]
      refine call h0 ⟨z, none, none, rfl, hx z (by simp), ?_⟩
      try simp only [wpSs, wpS, wpE, wpEs, wpC, wpAnd, wpOr, wpO, wpIt, opt_some, onI_int, onB_bl, onR_ref, arg1_one, look, joinO, start, List.map_cons, List.map_nil, List.length_cons, List.length_nil, List.replicate, List.cons_append, List.nil_append, List.append_nil, List.getElem?_cons_succ, List.getElem?_cons_zero, kcD, Nat.reduceAdd, Nat.reduceSub, br_t, br_f, br_n, asg, setAll, List.set_cons_succ, List.set_cons_zero, tgs, wipe, eq_ii, ne_ii, lt_ii, le_ii, gt_ii, ge_ii, is_n, isn_n, is_b, isn_b, add_ii, sub_ii, mul_ii, mod_ii, fdiv_ii, pow_ii, isNon, biD, intD_i, intD_b, esLen, beq_self_eq_true, ixD_tup, lsOf_new, seqD_tup, seqD_fl, slD_tup, bools, Option.map_some, true_and, ixD_fl, lenD_tup, lenD_fl, ix30, ix31, ix32, at20, at21, at30, at31, at32, List.filterMap_cons, List.filterMap_nil, compW]
      refine call h0 ⟨u, none, none, rfl, hx u (by simp), ?_⟩
      try simp only [wpSs, wpS, wpE, wpEs, wpC, wpAnd, wpOr, wpO, wpIt, opt_some, onI_int, onB_bl, onR_ref, arg1_one, look, joinO, start, List.map_cons, List.map_nil, List.length_cons, List.length_nil, List.replicate, List.cons_append, List.nil_append, List.append_nil, List.getElem?_cons_succ, List.getElem?_cons_zero, kcD, Nat.reduceAdd, Nat.reduceSub, br_t, br_f, br_n, asg, setAll, List.set_cons_succ, List.set_cons_zero, tgs, wipe, eq_ii, ne_ii, lt_ii, le_ii, gt_ii, ge_ii, is_n, isn_n, is_b, isn_b, add_ii, sub_ii, mul_ii, mod_ii, fdiv_ii, pow_ii, isNon, biD, intD_i, intD_b, esLen, beq_self_eq_true, ixD_tup, lsOf_new, seqD_tup, seqD_fl, slD_tup, bools, Option.map_some, true_and, ixD_fl, lenD_tup, lenD_fl, ix30, ix31, ix32, at20, at21, at30, at31, at32, List.filterMap_cons, List.filterMap_nil, compW]
      intro p hp
      simp only [wpSs, wpS, wpE, wpEs, wpC, wpAnd, wpOr, wpO, wpIt, opt_some, onI_int, onB_bl, onR_ref, arg1_one, look, joinO, start, List.map_cons, List.map_nil, List.length_cons, List.length_nil, List.replicate, List.cons_append, List.nil_append, List.append_nil, List.getElem?_cons_succ, List.getElem?_cons_zero, kcD, Nat.reduceAdd, Nat.reduceSub, br_t, br_f, br_n, asg, setAll, List.set_cons_succ, List.set_cons_zero, tgs, wipe, eq_ii, ne_ii, lt_ii, le_ii, gt_ii, ge_ii, is_n, isn_n, is_b, isn_b, add_ii, sub_ii, mul_ii, mod_ii, fdiv_ii, pow_ii, isNon, biD, intD_i, intD_b, esLen, beq_self_eq_true, ixD_tup, lsOf_new, seqD_tup, seqD_fl, slD_tup, bools, Option.map_some, true_and, ixD_fl, lenD_tup, lenD_fl, ix30, ix31, ix32, at20, at21, at30, at31, at32, List.filterMap_cons, List.filterMap_nil, Option.toList, intB_none, List.all_cons, List.all_nil, id, Bool.and_true]
      have ex := Ext.new (o := .lst [.bl (isI x), .bl (isI y), .bl (isI z), .bl (isI u)]) hp
      have hq := hq _ ex
      refine br_if (fun ha => ?_) fun ha => ?_
      · simp only [Bool.and_eq_true] at ha
        obtain ⟨a1, a2, a3, a4⟩ := ha
        obtain ⟨i, rfl⟩ := isI_of a1
        obtain ⟨j, rfl⟩ := isI_of a2
        obtain ⟨m, rfl⟩ := isI_of a3
        obtain ⟨n, rfl⟩ := isI_of a4
        have e0 : atI [D.int i, D.int j, D.int m, D.int n] 0 = some (.int i) := rfl
        have e1 : atI [D.int i, D.int j, D.int m, D.int n] 1 = some (.int j) := rfl
        have e2 : cut [D.int i, D.int j, D.int m, D.int n] (some 2) none = [.int m, .int n] := rfl
        simp only [wpSs, wpS, wpE, wpEs, wpC, wpAnd, wpOr, wpO, wpIt, opt_some, onI_int, onB_bl, onR_ref, arg1_one, look, joinO, start, List.map_cons, List.map_nil, List.length_cons, List.length_nil, List.replicate, List.cons_append, List.nil_append, List.append_nil, List.getElem?_cons_succ, List.getElem?_cons_zero, kcD, Nat.reduceAdd, Nat.reduceSub, br_t, br_f, br_n, asg, setAll, List.set_cons_succ, List.set_cons_zero, tgs, wipe, eq_ii, ne_ii, lt_ii, le_ii, gt_ii, ge_ii, is_n, isn_n, is_b, isn_b, add_ii, sub_ii, mul_ii, mod_ii, fdiv_ii, pow_ii, isNon, biD, intD_i, intD_b, esLen, beq_self_eq_true, ixD_tup, lsOf_new, seqD_tup, seqD_fl, slD_tup, bools, Option.map_some, true_and, ixD_fl, lenD_tup, lenD_fl, ix30, ix31, ix32, at20, at21, at30, at31, at32, List.filterMap_cons, List.filterMap_nil, e0, e1, e2]
        have ef : freeB (.tup [.int i, .int j, .int m, .int n]) = (decide (0 ≤ i) && decide (0 ≤ j) && !(m == 0 && n == 0)) := rfl
        rw [ef] at hq
        refine br_if (fun g1 => br_if (fun g2 => ⟨len_lim (by decide), ne_pair.mpr ?_⟩) fun g2 => ?_) fun g1 => ?_
        · rw [g1, g2] at hq; exact hq
        · rw [g1, g2] at hq; exact hq
        · rw [g1] at hq; exact hq
      · have e : freeB (.tup [x, y, z, u]) = false := by
          show ((isI x && isI y && isI z && isI u) && _) = false
          have : (isI x && isI y && isI z && isI u) = false := by
            rw [← ha]; simp [Bool.and_assoc]
          rw [this]; rfl
        rw [e] at hq
        exact hq
    · have e : freeB (.tup xs) = false := freeL_len hl
      rw [e] at hq
      exact hq S0 Ext.refl
  · have e : freeB v = false := by cases v <;> first | rfl | cases hT
    rw [e] at hq
    exact hq S0 Ext.refl
/-- is it a shot on a table of the sides X, Y -/
def rollB (a b : Int) (v : D) : Bool := freeB v && (match v with
  | .tup [x, y, _, _] => decide (int0 x ≤ a) && decide (int0 y ≤ b)
  | _ => false)
theorem free_of {v : D} (h : freeB v = true) : ∃ i j m n, v = .tup [.int i, .int j, .int m, .int n] := by
  cases v with
  | tup xs =>
    have h : freeL xs = true := h
    unfold freeL at h
    split at h
    · simp only [Bool.and_eq_true] at h
      obtain ⟨⟨⟨⟨a1, a2⟩, a3⟩, a4⟩, _⟩ := h
      obtain ⟨i, rfl⟩ := isI_of a1
      obtain ⟨j, rfl⟩ := isI_of a2
      obtain ⟨m, rfl⟩ := isI_of a3
      obtain ⟨n, rfl⟩ := isI_of a4
      exact ⟨i, j, m, n, rfl⟩
    · cases h
  | _ => cases h
/-- is_shot_on(table, value) -/
def spOn : Sp := fun ds S Q _ => ∃ a b v, ds = [.tup [.int a, .int b], v] ∧ Vl S v ∧ ∀ S', Ext S S' → Q (.bl (rollB a b v)) S'
theorem txt_on {G : Gm} {ds : List D} {S0 : Sto} {Q : VK} {X : XK} {b : Ss} (hb : b = (.cons (.ret (.and (.call 6 (.cons (.v 1) .nil)) (.cons (.cmp .le (.ix (.v 1) (.k (.int 0))) (.ix (.v 0) (.k (.int 0)))) (.cons (.cmp .le (.ix (.v 1) (.k (.int 1))) (.ix (.v 0) (.k (.int 1)))) .nil)))) .nil)) (h3 : G.fn 6 = spFree) (h : spOn ds S0 Q X) : ds.length = 2 ∧ wpSs G b (start 2 ds) S0 (kR Q X) := by
  obtain ⟨a, b2, v, rfl, hv, hq⟩ := h
  subst hb
  refine ⟨rfl, ?_⟩
  simp only [wpSs, wpS, wpE, wpEs, wpC, wpAnd, wpOr, wpO, wpIt, opt_some, onI_int, onB_bl, onR_ref, arg1_one, look, joinO, start, List.map_cons, List.map_nil, List.length_cons, List.length_nil, List.replicate, List.cons_append, List.nil_append, List.append_nil, List.getElem?_cons_succ, List.getElem?_cons_zero, kcD, Nat.reduceAdd, Nat.reduceSub, br_t, br_f, br_n, asg, setAll, List.set_cons_succ, List.set_cons_zero, tgs, wipe, eq_ii, ne_ii, lt_ii, le_ii, gt_ii, ge_ii, is_n, isn_n, is_b, isn_b, add_ii, sub_ii, mul_ii, mod_ii, fdiv_ii, pow_ii, isNon, biD, intD_i, intD_b, esLen, beq_self_eq_true, ixD_tup, lsOf_new, seqD_tup, seqD_fl, slD_tup, bools, Option.map_some, true_and, ixD_fl, lenD_tup, lenD_fl, ix30, ix31, ix32, at20, at21, at30, at31, at32, List.filterMap_cons, List.filterMap_nil]
  refine call h3 ⟨v, rfl, hv, fun S1 k1 => ?_⟩
  have hq := hq S1 k1
  unfold rollB at hq
  simp only [wpSs, wpS, wpE, wpEs, wpC, wpAnd, wpOr, wpO, wpIt, opt_some, onI_int, onB_bl, onR_ref, arg1_one, look, joinO, start, List.map_cons, List.map_nil, List.length_cons, List.length_nil, List.replicate, List.cons_append, List.nil_append, List.append_nil, List.getElem?_cons_succ, List.getElem?_cons_zero, kcD, Nat.reduceAdd, Nat.reduceSub, br_t, br_f, br_n, asg, setAll, List.set_cons_succ, List.set_cons_zero, tgs, wipe, eq_ii, ne_ii, lt_ii, le_ii, gt_ii, ge_ii, is_n, isn_n, is_b, isn_b, add_ii, sub_ii, mul_ii, mod_ii, fdiv_ii, pow_ii, isNon, biD, intD_i, intD_b, esLen, beq_self_eq_true, ixD_tup, lsOf_new, seqD_tup, seqD_fl, slD_tup, bools, Option.map_some, true_and, ixD_fl, lenD_tup, lenD_fl, ix30, ix31, ix32, at20, at21, at30, at31, at32, List.filterMap_cons, List.filterMap_nil]
  refine br_if (fun hf => ?_) fun hf => ?_
  · obtain ⟨i, j, m, n, rfl⟩ := free_of hf
    have e0 : atI [D.int i, D.int j, D.int m, D.int n] 0 = some (.int i) := rfl
    have e1 : atI [D.int i, D.int j, D.int m, D.int n] 1 = some (.int j) := rfl
    rw [hf] at hq
    have hq : Q (.bl (decide (i ≤ a) && decide (j ≤ b2))) S1 := hq
    simp only [wpSs, wpS, wpE, wpEs, wpC, wpAnd, wpOr, wpO, wpIt, opt_some, onI_int, onB_bl, onR_ref, arg1_one, look, joinO, start, List.map_cons, List.map_nil, List.length_cons, List.length_nil, List.replicate, List.cons_append, List.nil_append, List.append_nil, List.getElem?_cons_succ, List.getElem?_cons_zero, kcD, Nat.reduceAdd, Nat.reduceSub, br_t, br_f, br_n, asg, setAll, List.set_cons_succ, List.set_cons_zero, tgs, wipe, eq_ii, ne_ii, lt_ii, le_ii, gt_ii, ge_ii, is_n, isn_n, is_b, isn_b, add_ii, sub_ii, mul_ii, mod_ii, fdiv_ii, pow_ii, isNon, biD, intD_i, intD_b, esLen, beq_self_eq_true, ixD_tup, lsOf_new, seqD_tup, seqD_fl, slD_tup, bools, Option.map_some, true_and, ixD_fl, lenD_tup, lenD_fl, ix30, ix31, ix32, at20, at21, at30, at31, at32, List.filterMap_cons, List.filterMap_nil, e0, e1]
    refine br_if (fun g => ?_) fun g => ?_
    · rw [g] at hq; exact hq
    · rw [g] at hq; exact hq
  · rw [hf] at hq
    exact hq
def partL : List D → Bool
  | [x, y] => isI x && intB y (some 1) none && (Int.gcd (int0 x) (int0 y) == 1)
  | _ => false
/-- is it a fraction in lowest terms -/
def partB : D → Bool
  | .tup xs => partL xs
  | _ => false
theorem partL_len {xs : List D} (h : (((xs.length : Nat) : Int) == 2) = false) : partL xs = false := by
  unfold partL
  split
  · simp at h
  · rfl
theorem intB_of {v : D} {l : Int} (h : intB v (some l) none = true) : ∃ i, v = .int i ∧ l ≤ i := by
  cases v with
  | int i => exact ⟨i, rfl, by simpa [intB] using h⟩
  | _ => cases h
def spPart : Sp := fun ds S Q _ => ∃ v, ds = [v] ∧ Vl S v ∧ ∀ S', Ext S S' → Q (.bl (partB v)) S'
theorem txt_part {G : Gm} {ds : List D} {S0 : Sto} {Q : VK} {X : XK} {b : Ss} (hb : b = (.cons (.if_ (.or (.not (.isi (.v 0) .tuple)) (.cons (.cmp .ne (.bi .len (.cons (.v 0) .nil)) (.k (.int 2))) (.cons (.not (.call 0 (.cons (.ix (.v 0) (.k (.int 0))) (.cons (.k .non) (.cons (.k .non) .nil))))) .nil))) (.cons (.ret (.k (.bl false))) .nil) .nil) (.cons (.ret (.and (.call 0 (.cons (.ix (.v 0) (.k (.int 1))) (.cons (.k (.int 1)) (.cons (.k .non) .nil)))) (.cons (.cmp .eq (.call 1 (.cons (.ix (.v 0) (.k (.int 0))) (.cons (.ix (.v 0) (.k (.int 1))) .nil))) (.k (.int 1))) .nil))) .nil))) (h0 : G.fn 0 = spInt) (h1 : G.fn 1 = spGcd) (h : spPart ds S0 Q X) : ds.length = 1 ∧ wpSs G b (start 1 ds) S0 (kR Q X) := by
  obtain ⟨v, rfl, hv, hq⟩ := h
  subst hb
  refine ⟨rfl, ?_⟩
  have hq := hq S0 Ext.refl
  simp only [wpSs, wpS, wpE, wpEs, wpC, wpAnd, wpOr, wpO, wpIt, opt_some, onI_int, onB_bl, onR_ref, arg1_one, look, joinO, start, List.map_cons, List.map_nil, List.length_cons, List.length_nil, List.replicate, List.cons_append, List.nil_append, List.append_nil, List.getElem?_cons_succ, List.getElem?_cons_zero, kcD, Nat.reduceAdd, Nat.reduceSub, br_t, br_f, br_n, asg, setAll, List.set_cons_succ, List.set_cons_zero, tgs, wipe, eq_ii, ne_ii, lt_ii, le_ii, gt_ii, ge_ii, is_n, isn_n, is_b, isn_b, add_ii, sub_ii, mul_ii, mod_ii, fdiv_ii, pow_ii, isNon, biD, intD_i, intD_b, esLen, beq_self_eq_true, ixD_tup, lsOf_new, seqD_tup, seqD_fl, slD_tup, bools, Option.map_some, true_and, ixD_fl, lenD_tup, lenD_fl, ix30, ix31, ix32, at20, at21, at30, at31, at32, List.filterMap_cons, List.filterMap_nil, ty_tuple hv.1]
  refine br_if (fun hT => ?_) fun hT => ?_
  · obtain ⟨xs, rfl⟩ := isT_of hT
    have hx := hv.2 xs rfl
    simp only [wpSs, wpS, wpE, wpEs, wpC, wpAnd, wpOr, wpO, wpIt, opt_some, onI_int, onB_bl, onR_ref, arg1_one, look, joinO, start, List.map_cons, List.map_nil, List.length_cons, List.length_nil, List.replicate, List.cons_append, List.nil_append, List.append_nil, List.getElem?_cons_succ, List.getElem?_cons_zero, kcD, Nat.reduceAdd, Nat.reduceSub, br_t, br_f, br_n, asg, setAll, List.set_cons_succ, List.set_cons_zero, tgs, wipe, eq_ii, ne_ii, lt_ii, le_ii, gt_ii, ge_ii, is_n, isn_n, is_b, isn_b, add_ii, sub_ii, mul_ii, mod_ii, fdiv_ii, pow_ii, isNon, biD, intD_i, intD_b, esLen, beq_self_eq_true, ixD_tup, lsOf_new, seqD_tup, seqD_fl, slD_tup, bools, Option.map_some, true_and, ixD_fl, lenD_tup, lenD_fl, ix30, ix31, ix32, at20, at21, at30, at31, at32, List.filterMap_cons, List.filterMap_nil]
    refine br_if (fun hl => ?_) fun hl => ?_
    · obtain ⟨x, y, rfl⟩ := len2 hl
      simp only [wpSs, wpS, wpE, wpEs, wpC, wpAnd, wpOr, wpO, wpIt, opt_some, onI_int, onB_bl, onR_ref, arg1_one, look, joinO, start, List.map_cons, List.map_nil, List.length_cons, List.length_nil, List.replicate, List.cons_append, List.nil_append, List.append_nil, List.getElem?_cons_succ, List.getElem?_cons_zero, kcD, Nat.reduceAdd, Nat.reduceSub, br_t, br_f, br_n, asg, setAll, List.set_cons_succ, List.set_cons_zero, tgs, wipe, eq_ii, ne_ii, lt_ii, le_ii, gt_ii, ge_ii, is_n, isn_n, is_b, isn_b, add_ii, sub_ii, mul_ii, mod_ii, fdiv_ii, pow_ii, isNon, biD, intD_i, intD_b, esLen, beq_self_eq_true, ixD_tup, lsOf_new, seqD_tup, seqD_fl, slD_tup, bools, Option.map_some, true_and, ixD_fl, lenD_tup, lenD_fl, ix30, ix31, ix32, at20, at21, at30, at31, at32, List.filterMap_cons, List.filterMap_nil]
      refine call h0 ⟨x, none, none, rfl, hx x (by simp), ?_⟩
      simp only [wpSs, wpS, wpE, wpEs, wpC, wpAnd, wpOr, wpO, wpIt, opt_some, onI_int, onB_bl, onR_ref, arg1_one, look, joinO, start, List.map_cons, List.map_nil, List.length_cons, List.length_nil, List.replicate, List.cons_append, List.nil_append, List.append_nil, List.getElem?_cons_succ, List.getElem?_cons_zero, kcD, Nat.reduceAdd, Nat.reduceSub, br_t, br_f, br_n, asg, setAll, List.set_cons_succ, List.set_cons_zero, tgs, wipe, eq_ii, ne_ii, lt_ii, le_ii, gt_ii, ge_ii, is_n, isn_n, is_b, isn_b, add_ii, sub_ii, mul_ii, mod_ii, fdiv_ii, pow_ii, isNon, biD, intD_i, intD_b, esLen, beq_self_eq_true, ixD_tup, lsOf_new, seqD_tup, seqD_fl, slD_tup, bools, Option.map_some, true_and, ixD_fl, lenD_tup, lenD_fl, ix30, ix31, ix32, at20, at21, at30, at31, at32, List.filterMap_cons, List.filterMap_nil, intB_none]
      refine br_if (fun g1 => ?_) fun g1 => ?_
      · obtain ⟨i, rfl⟩ := isI_of g1
        refine call h0 ⟨y, some 1, none, rfl, hx y (by simp), ?_⟩
        simp only [wpSs, wpS, wpE, wpEs, wpC, wpAnd, wpOr, wpO, wpIt, opt_some, onI_int, onB_bl, onR_ref, arg1_one, look, joinO, start, List.map_cons, List.map_nil, List.length_cons, List.length_nil, List.replicate, List.cons_append, List.nil_append, List.append_nil, List.getElem?_cons_succ, List.getElem?_cons_zero, kcD, Nat.reduceAdd, Nat.reduceSub, br_t, br_f, br_n, asg, setAll, List.set_cons_succ, List.set_cons_zero, tgs, wipe, eq_ii, ne_ii, lt_ii, le_ii, gt_ii, ge_ii, is_n, isn_n, is_b, isn_b, add_ii, sub_ii, mul_ii, mod_ii, fdiv_ii, pow_ii, isNon, biD, intD_i, intD_b, esLen, beq_self_eq_true, ixD_tup, lsOf_new, seqD_tup, seqD_fl, slD_tup, bools, Option.map_some, true_and, ixD_fl, lenD_tup, lenD_fl, ix30, ix31, ix32, at20, at21, at30, at31, at32, List.filterMap_cons, List.filterMap_nil]
        refine br_if (fun g2 => ?_) fun g2 => ?_
        · obtain ⟨j, rfl, hj⟩ := intB_of g2
          refine call h1 ⟨i, j, rfl, ?_⟩
          simp only [wpSs, wpS, wpE, wpEs, wpC, wpAnd, wpOr, wpO, wpIt, opt_some, onI_int, onB_bl, onR_ref, arg1_one, look, joinO, start, List.map_cons, List.map_nil, List.length_cons, List.length_nil, List.replicate, List.cons_append, List.nil_append, List.append_nil, List.getElem?_cons_succ, List.getElem?_cons_zero, kcD, Nat.reduceAdd, Nat.reduceSub, br_t, br_f, br_n, asg, setAll, List.set_cons_succ, List.set_cons_zero, tgs, wipe, eq_ii, ne_ii, lt_ii, le_ii, gt_ii, ge_ii, is_n, isn_n, is_b, isn_b, add_ii, sub_ii, mul_ii, mod_ii, fdiv_ii, pow_ii, isNon, biD, intD_i, intD_b, esLen, beq_self_eq_true, ixD_tup, lsOf_new, seqD_tup, seqD_fl, slD_tup, bools, Option.map_some, true_and, ixD_fl, lenD_tup, lenD_fl, ix30, ix31, ix32, at20, at21, at30, at31, at32, List.filterMap_cons, List.filterMap_nil]
          have e : partB (.tup [.int i, .int j]) = (((Int.gcd i j : Nat) : Int) == 1) := by
            show (true && intB (.int j) (some 1) none && (Int.gcd i j == 1)) = _
            rw [g2]
            by_cases h : Int.gcd i j = 1
            · rw [h]; rfl
            · have h' : ¬ ((Int.gcd i j : Nat) : Int) = 1 := by omega
              rw [beq_eq_false_iff_ne.mpr h, beq_eq_false_iff_ne.mpr h']; rfl
          rw [e] at hq
          exact hq
        · have e : partB (.tup [.int i, y]) = false := by
            show (true && intB y (some 1) none && _) = false
            rw [g2]; rfl
          rw [e] at hq
          exact hq
      · have e : partB (.tup [x, y]) = false := by
          show (isI x && intB y (some 1) none && _) = false
          rw [g1]; rfl
        rw [e] at hq
        exact hq
    · have e : partB (.tup xs) = false := partL_len hl
      rw [e] at hq
      exact hq
  · have e : partB v = false := by cases v <;> first | rfl | cases hT
    rw [e] at hq
    exact hq
/-- check_table(table) of a table -/
def spCheck : Sp := fun ds S Q _ => ∃ a b : Int, ds = [.tup [.int a, .int b]] ∧ 1 ≤ a ∧ 1 ≤ b ∧ ∀ S', Ext S S' → Q .non S'
theorem vl_tab {S : Sto} {a b : Int} : Vl S (.tup [.int a, .int b]) := ⟨trivial, fun xs e y hy => by cases e; simp at hy; rcases hy with rfl | rfl <;> trivial⟩
theorem tab_ok {a b : Int} (ha : 1 ≤ a) (hb : 1 ≤ b) : tabB (.tup [.int a, .int b]) = true := by simp [tabB, tabL, intB, ha, hb]
theorem txt_check {G : Gm} {ds : List D} {S0 : Sto} {Q : VK} {X : XK} {b : Ss} (hb : b = (.cons (.if_ (.not (.call 5 (.cons (.v 0) .nil))) (.cons .nev .nil) .nil) .nil)) (h2 : G.fn 5 = spTab) (h : spCheck ds S0 Q X) : ds.length = 1 ∧ wpSs G b (start 1 ds) S0 (kR Q X) := by
  obtain ⟨a, b2, rfl, ha, hb', hq⟩ := h
  subst hb
  refine ⟨rfl, ?_⟩
  simp only [wpSs, wpS, wpE, wpEs, wpC, wpAnd, wpOr, wpO, wpIt, opt_some, onI_int, onB_bl, onR_ref, arg1_one, look, joinO, start, List.map_cons, List.map_nil, List.length_cons, List.length_nil, List.replicate, List.cons_append, List.nil_append, List.append_nil, List.getElem?_cons_succ, List.getElem?_cons_zero, kcD, Nat.reduceAdd, Nat.reduceSub, br_t, br_f, br_n, asg, setAll, List.set_cons_succ, List.set_cons_zero, tgs, wipe, eq_ii, ne_ii, lt_ii, le_ii, gt_ii, ge_ii, is_n, isn_n, is_b, isn_b, add_ii, sub_ii, mul_ii, mod_ii, fdiv_ii, pow_ii, isNon, biD, intD_i, intD_b, esLen, beq_self_eq_true, ixD_tup, lsOf_new, seqD_tup, seqD_fl, slD_tup, bools, Option.map_some, true_and, ixD_fl, lenD_tup, lenD_fl, ix30, ix31, ix32, at20, at21, at30, at31, at32, List.filterMap_cons, List.filterMap_nil]
  refine call h2 ⟨_, rfl, vl_tab, fun S1 k1 => ?_⟩
  simp only [wpSs, wpS, wpE, wpEs, wpC, wpAnd, wpOr, wpO, wpIt, opt_some, onI_int, onB_bl, onR_ref, arg1_one, look, joinO, start, List.map_cons, List.map_nil, List.length_cons, List.length_nil, List.replicate, List.cons_append, List.nil_append, List.append_nil, List.getElem?_cons_succ, List.getElem?_cons_zero, kcD, Nat.reduceAdd, Nat.reduceSub, br_t, br_f, br_n, asg, setAll, List.set_cons_succ, List.set_cons_zero, tgs, wipe, eq_ii, ne_ii, lt_ii, le_ii, gt_ii, ge_ii, is_n, isn_n, is_b, isn_b, add_ii, sub_ii, mul_ii, mod_ii, fdiv_ii, pow_ii, isNon, biD, intD_i, intD_b, esLen, beq_self_eq_true, ixD_tup, lsOf_new, seqD_tup, seqD_fl, slD_tup, bools, Option.map_some, true_and, ixD_fl, lenD_tup, lenD_fl, ix30, ix31, ix32, at20, at21, at30, at31, at32, List.filterMap_cons, List.filterMap_nil, tab_ok ha hb']
  exact hq S1 k1
/-- is_shot(table, value) -/
def spShot : Sp := fun ds S Q _ => ∃ a b v, ds = [.tup [.int a, .int b], v] ∧ 1 ≤ a ∧ 1 ≤ b ∧ Vl S v ∧ ∀ S', Ext S S' → Q (.bl (rollB a b v)) S'
end M
namespace M
theorem compW_filter {step : D → Sto → (Option D → Sto → Prop) → Prop} {Q : VK} {f : D → Bool} {S : Sto} : ∀ {xs acc : List D}, (∀ d ∈ xs, ∀ k : Option D → Sto → Prop, k (if f d = true then some d else none) S → step d S k) →
    (∀ p, S p = none → Q (.ref p) (upd S p (.lst (acc ++ xs.filter f)))) → compW (fun _ => True) step Q xs acc S
  | [], acc, _, h => ⟨trivial, fun p hp => by simpa using h p hp⟩
  | x :: xs, acc, hs, h => ⟨trivial, hs x (by simp) _ (compW_filter (fun d hd => hs d (by simp [hd])) fun p hp => by
      have e := h p hp
      by_cases hf : f x = true
      · rw [if_pos hf]
        simpa [List.filter_cons, hf] using e
      · rw [if_neg hf]
        simpa [List.filter_cons, hf] using e)⟩
theorem eq_nil {S : Sto} {p q : Nat} {ys : List D} {Q : Bool → Prop} (hp : S p = some (.lst ys)) (hq : S q = some (.lst [])) (hf : fitL (fit 7 S) ys = true) (k : Q ys.isEmpty) : cmpD .eq (.ref p) (.ref q) S Q := by
  refine ⟨?_, ?_, ?_⟩
  · show optB (lstAt S p) _ = true
    rw [lstAt_eq hp]; exact hf
  · show optB (lstAt S q) _ = true
    rw [lstAt_eq hq]; rfl
  · have e : eqB dep S (.ref p) (.ref q) = ys.isEmpty := by
      show eqO _ (lstAt S p) (lstAt S q) = _
      rw [lstAt_eq hp, lstAt_eq hq]
      cases ys <;> rfl
    rw [e]; exact k
theorem ne_nil {S : Sto} {p q : Nat} {ys : List D} {Q : Bool → Prop} (hp : S p = some (.lst ys)) (hq : S q = some (.lst [])) (hf : fitL (fit 7 S) ys = true) (k : Q (!ys.isEmpty)) : cmpD .ne (.ref p) (.ref q) S Q :=
  let ⟨a, b, c⟩ := eq_nil (Q := fun b => Q (!b)) hp hq hf k
  ⟨a, b, c⟩
/-- a small value in a tuple or a list -/
def Atom (n : Nat) : D → Prop
  | .non => True
  | .bl _ => True
  | .int i => i.natAbs < 2 ^ n
  | .str x => x.length ≤ 4 ∧ ∀ c ∈ x, c < 128
  | .tup xs => xs = []
  | _ => False
theorem Atom.kn {n : Nat} {S : Sto} {v : D} (h : Atom n v) : Kn S v := by
  cases v <;> first | trivial | exact False.elim h
theorem Atom.fit {n k : Nat} {S : Sto} {v : D} (h : Atom n v) : M.fit (k + 1) S v = true := by
  cases v with
  | str x =>
    show x.all _ = true
    rw [List.all_eq_true]
    intro c hc
    have := h.2 c hc
    exact decide_eq_true (by omega)
  | tup xs => cases h; rfl
  | _ => first | rfl | exact False.elim h
theorem Atom.up {n m : Nat} {v : D} (h : Atom n v) (k : n ≤ m) : Atom m v := by
  cases v with
  | int i => exact lt_two _ h k
  | _ => exact h
theorem fitL_of {ok : D → Bool} : ∀ {xs : List D}, (∀ y ∈ xs, ok y = true) → fitL ok xs = true
  | [], _ => rfl
  | x :: xs, h => by
    show (ok x && fitL ok xs) = true
    rw [h x (by simp), fitL_of fun y hy => h y (by simp [hy])]
    rfl
theorem atoms_fit {n : Nat} {S : Sto} {xs ys : List D} (h : ∀ y ∈ xs, Atom n y) (hs : ∀ y ∈ ys, y ∈ xs) : fitL (M.fit 7 S) ys = true := fitL_of fun y hy => (h y (hs y hy)).fit
/-- a value that the law tries: w is the well -/
def Gd (n w : Nat) (S : Sto) : D → Prop
  | .tup xs => xs.length ≤ n ∧ ∀ y ∈ xs, Atom n y
  | .ref a => a ≠ w ∧ ((∃ xs, S a = some (.lst xs) ∧ xs.length ≤ n ∧ ∀ y ∈ xs, Atom n y) ∨ S a = some .dic)
  | .non => True
  | .bl _ => True
  | .int i => i.natAbs < 2 ^ n
  | .str x => x.length ≤ 4 ∧ ∀ c ∈ x, c < 128
  | _ => False
theorem Gd.kp {n w : Nat} {S S' : Sto} {v : D} (h : Gd n w S v) (k : Kp w S S') : Gd n w S' v := by
  cases v with
  | ref a =>
    obtain ⟨hn, h | h⟩ := h
    · obtain ⟨xs, e, r⟩ := h
      exact ⟨hn, .inl ⟨xs, k _ _ hn e, r⟩⟩
    · exact ⟨hn, .inr (k _ _ hn h)⟩
  | _ => exact h
theorem Gd.up {n m w : Nat} {S : Sto} {v : D} (h : Gd n w S v) (k : n ≤ m) : Gd m w S v := by
  cases v with
  | tup xs => exact ⟨Nat.le_trans h.1 k, fun y hy => (h.2 y hy).up k⟩
  | ref a =>
    obtain ⟨hn, h | h⟩ := h
    · obtain ⟨xs, e, r1, r2⟩ := h
      exact ⟨hn, .inl ⟨xs, e, Nat.le_trans r1 k, fun y hy => (r2 y hy).up k⟩⟩
    · exact ⟨hn, .inr h⟩
  | int i => exact lt_two _ h k
  | _ => exact h
theorem Gd.vl {n w : Nat} {S : Sto} {v : D} (h : Gd n w S v) : Vl S v := by
  refine ⟨?_, fun xs e y hy => ?_⟩
  · cases v with
    | ref a =>
      obtain ⟨_, h | h⟩ := h
      · obtain ⟨xs, e, _⟩ := h
        exact ⟨_, e⟩
      · exact ⟨_, h⟩
    | _ => first | trivial | exact False.elim h
  · subst e
    exact (h.2 y hy).kn
/-- _law_whole(thing) -/
def spWhole : Sp := fun ds S Q _ => ∃ v, ds = [v] ∧ Kn S v ∧ Q (.bl (isI v)) S
/-- the values whose law is asked: known, and their parts small -/
def Va (S : Sto) (v : D) : Prop := Kn S v ∧ ∀ xs, v = .tup xs → xs.length ≤ 1000 ∧ ∀ y ∈ xs, Atom 1000 y
theorem Va.vl {S : Sto} {v : D} (h : Va S v) : Vl S v := ⟨h.1, fun xs e y hy => ((h.2 xs e).2 y hy).kn⟩
theorem Va.ext {S S' : Sto} {v : D} (h : Va S v) (k : Ext S S') : Va S' v := ⟨h.1.ext k, h.2⟩
def spDeskV : Sp := fun ds S Q _ => ∃ v, ds = [v] ∧ Va S v ∧ ∀ S', Ext S S' → Q (.bl (tabB v)) S'
theorem filt2 {x y : D} : ([x, y].filter fun d => !isI d || decide (int0 d < 1)).isEmpty = tabL [x, y] := by
  have h : ∀ d : D, (!isI d || decide (int0 d < 1)) = !intB d (some 1) none := by
    intro d
    cases d with
    | int i =>
      show (false || decide (i < 1)) = !(decide (1 ≤ i) && true)
      by_cases h : i < 1
      · have : ¬ 1 ≤ i := by omega
        simp [h, this]
      · have : 1 ≤ i := by omega
        simp [h, this]
    | _ => rfl
  simp only [List.filter_cons, List.filter_nil, h, tabL]
  cases intB x (some 1) none <;> cases intB y (some 1) none <;> rfl
end M
namespace M
theorem filtI_nil {xs : List D} : (xs.filter fun d => !isI d).isEmpty = xs.all isI := by
  induction xs with
  | nil => rfl
  | cons x xs ih =>
    rw [List.filter_cons, List.all_cons]
    cases isI x
    · rfl
    · exact ih
/-- _law_is_roll(desk, thing) -/
def spRollV : Sp := fun ds S Q _ => ∃ a b v, ds = [.tup [.int a, .int b], v] ∧ Va S v ∧ ∀ S', Ext S S' → Q (.bl (rollB a b v)) S'
theorem chain_ii {i j k : Int} {S : Sto} {Q : Bool → Prop} (h : Q (decide (i ≤ j) && decide (j ≤ k))) : br (decide (i ≤ j)) (Q (decide (j ≤ k))) (Q false) := by
  cases h1 : decide (i ≤ j) <;> rw [h1] at h
  · exact br_f.mpr h
  · exact br_t.mpr h
/-- _law_is_part(thing) -/
def spPartV : Sp := fun ds S Q _ => ∃ v, ds = [v] ∧ Va S v ∧ ∀ S', Ext S S' → Q (.bl (partB v)) S'
end M
namespace M
/-- _law_odd(well) -/
def spOdd : Sp := fun ds S Q _ => ∃ w n, ds = [.ref w] ∧ Well n S w ∧ n + 1 < 2 ^ 59 ∧ ∀ v S', Gd 200 w S' v → Well (n + 1) S' w → Kp w S S' → Q v S'
theorem cut_mem {xs : List D} {lo hi : Option Int} {y : D} (h : y ∈ cut xs lo hi) : y ∈ xs := List.mem_of_mem_drop (List.mem_of_mem_take h)
theorem cut_hi {xs : List D} {i : Int} (h : 0 ≤ i) : (cut xs none (some i)).length ≤ i.toNat := by
  have e : sIx xs.length xs.length (some i) = min i.toNat xs.length := if_neg (by omega)
  unfold cut
  rw [e, List.length_take]
  show min (min i.toNat xs.length - 0) _ ≤ _
  omega
theorem cut_lo {xs : List D} {i : Int} (h : 0 ≤ i) : (cut xs (some i) none).length ≤ xs.length - i.toNat := by
  have e : sIx xs.length 0 (some i) = min i.toNat xs.length := if_neg (by omega)
  unfold cut
  rw [e, List.length_take, List.length_drop]
  show min (xs.length - _) _ ≤ _
  omega
theorem at_some {xs : List D} {i : Int} (h0 : 0 ≤ i) (h1 : i < xs.length) : ∃ y, y ∈ xs ∧ atI xs i = some y := by
  have hl : i.toNat < xs.length := by omega
  refine ⟨xs[i.toNat], List.getElem_mem hl, ?_⟩
  unfold atI ixN
  rw [if_pos h0, if_pos h1]
  simp [hl]
/-- _law_bent(well, thing) -/
def spBent : Sp := fun ds S Q _ => ∃ w n m v, ds = [.ref w, v] ∧ Gd m w S v ∧ 200 ≤ m ∧ m ≤ 400 ∧ Well n S w ∧ n + 4 < 2 ^ 58 ∧ ∀ v' S', Gd (m + 1) w S' v' → Well (n + 4) S' w → Kp w S S' → Q v' S'
theorem eq_tnil {xs : List D} {S : Sto} {n : Nat} {Q : Bool → Prop} (h : ∀ y ∈ xs, Atom n y) (k : Q xs.isEmpty) : cmpD .eq (.tup xs) (.tup []) S Q :=
  ⟨atoms_fit h fun y hy => hy, rfl, by
    have e : eqB dep S (.tup xs) (.tup []) = xs.isEmpty := by cases xs <;> rfl
    rw [e]; exact k⟩
end M
namespace M
theorem sumN_le {xs : List D} {f : D → Nat} {c : Nat} (h : ∀ y ∈ xs, f y ≤ c) : sumN (xs.map f) ≤ xs.length * c := by
  induction xs with
  | nil => simp [sumN]
  | cons x xs ih =>
    have h1 := h x (by simp)
    have h2 := ih fun y hy => h y (by simp [hy])
    show f x + sumN (xs.map f) ≤ (xs.length + 1) * c
    rw [Nat.succ_mul]
    omega
theorem atom_rep {m k : Nat} {S : Sto} {y : D} (h : Atom m y) (hm : m ≤ 1900) : fitR (k + 1) S y ∧ szR (k + 1) S y ≤ 1902 := by
  cases y with
  | int i => exact ⟨smr_of m hm h, Nat.le_refl _⟩
  | str x =>
    refine ⟨fun c hc => ?_, ?_⟩
    · have := h.2 c hc
      omega
    · show 10 * x.length + 2 ≤ 1902
      have := h.1
      omega
  | tup xs =>
    cases h
    exact ⟨(fun y hy => by cases hy), (by show sumN [] + 3 ≤ 1902; decide)⟩
  | non => exact ⟨trivial, by show 4 ≤ 1902; decide⟩
  | bl b => exact ⟨trivial, by show 5 ≤ 1902; decide⟩
  | _ => exact False.elim h
theorem toQ_lst {S : Sto} {a : Nat} {xs : List D} (e : S a = some (.lst xs)) : toQ dep S (.ref a) = .lst (xs.map (toQ 7 S)) := by
  show (match S a with | some (.lst xs) => P.lst (xs.map (toQ 7 S)) | _ => P.dic) = _
  rw [e]
theorem toQ_dic {S : Sto} {a : Nat} (e : S a = some .dic) : toQ dep S (.ref a) = .dic := by
  show (match S a with | some (.lst xs) => P.lst (xs.map (toQ 7 S)) | _ => P.dic) = _
  rw [e]
theorem szR_lst {S : Sto} {a : Nat} {xs : List D} (e : S a = some (.lst xs)) : szR dep S (.ref a) = sumN (xs.map fun y => szR 7 S y + 2) + 3 := by
  show (match S a with | some (.lst xs) => sumN (xs.map fun y => szR 7 S y + 2) + 3 | _ => 2) = _
  rw [e]
theorem szR_dic {S : Sto} {a : Nat} (e : S a = some .dic) : szR dep S (.ref a) = 2 := by
  show (match S a with | some (.lst xs) => sumN (xs.map fun y => szR 7 S y + 2) + 3 | _ => 2) = _
  rw [e]
theorem gd_rep {m w : Nat} {S : Sto} {v : D} (h : Gd m w S v) (hm : m ≤ 500) : fitD S v ∧ szR dep S v ≤ lim := by
  have big : ∀ xs : List D, xs.length ≤ 500 → (∀ y ∈ xs, Atom m y) → sumN (xs.map fun y => szR 7 S y + 2) + 3 ≤ lim := fun xs hl ha => by
    have h1 := sumN_le (xs := xs) (f := fun y => szR 7 S y + 2) (c := 1904) fun y hy => by have : szR 7 S y ≤ 1902 := (atom_rep (k := 6) (S := S) (ha y hy) (by omega)).2; omega
    have h2 : xs.length * 1904 ≤ 500 * 1904 := Nat.mul_le_mul_right _ hl
    have h3 : 500 * 1904 + 3 ≤ lim := by decide
    omega
  cases v with
  | tup xs => exact ⟨.inr fun y hy => (atom_rep (h.2 y hy) (by omega)).1, big xs (by have := h.1; omega) h.2⟩
  | ref a =>
    obtain ⟨_, h | h⟩ := h
    · obtain ⟨xs, e, hl, ha⟩ := h
      refine ⟨.inr ?_, ?_⟩
      · show opt (lstAt S a) _
        rw [lstAt_eq e]
        exact fun y hy => (atom_rep (ha y hy) (by omega)).1
      · rw [szR_lst e]
        exact big xs (by omega) ha
    · refine ⟨.inl ?_, ?_⟩
      · show isDic (S a)
        rw [h]; trivial
      · rw [szR_dic h]
        exact len_lim (by decide)
  | int i => exact ⟨.inr (smr_of m (by omega) h), by show 1902 ≤ lim; decide⟩
  | str x =>
    refine ⟨.inr fun c hc => ?_, ?_⟩
    · have := h.2 c hc
      omega
    · show 10 * x.length + 2 ≤ lim
      have := h.1
      exact len_lim (by omega)
  | non => exact ⟨.inr trivial, by show 4 ≤ lim; decide⟩
  | bl b => exact ⟨.inr trivial, by show 5 ≤ lim; decide⟩
  | _ => exact False.elim h
theorem atom_toQ {m k : Nat} {S S' : Sto} {y : D} (h : Atom m y) : toQ (k + 1) S y = toQ (k + 1) S' y := by
  cases y with
  | tup xs => cases h; rfl
  | _ => first | rfl | exact False.elim h
theorem gd_toQ {m w : Nat} {S S' : Sto} {v : D} (h : Gd m w S v) (k : Ext S S') : toQ dep S v = toQ dep S' v := by
  have mp : ∀ xs : List D, (∀ y ∈ xs, Atom m y) → xs.map (toQ 7 S) = xs.map (toQ 7 S') := fun xs ha => List.map_congr_left fun y hy => atom_toQ (ha y hy)
  cases v with
  | tup xs =>
    show P.tup _ = P.tup _
    rw [mp xs h.2]
  | ref a =>
    obtain ⟨_, h | h⟩ := h
    · obtain ⟨xs, e, hl, ha⟩ := h
      rw [toQ_lst e, toQ_lst (k _ _ e), mp xs ha]
    · rw [toQ_dic h, toQ_dic (k _ _ h)]
  | _ => first | rfl | exact False.elim h
theorem gd_va {m w : Nat} {S : Sto} {v : D} (h : Gd m w S v) (hm : m ≤ 500) : Va S v := ⟨h.vl.1, fun xs e => by
  subst e
  exact ⟨by have := h.1; omega, fun y hy => (h.2 y hy).up (by omega)⟩⟩
theorem eqLB_bools {n : Nat} {S : Sto} : ∀ bs : List Bool, eqLB (eqB (n + 1) S) (bs.map .bl) (bs.map .bl) = true
  | [] => rfl
  | b :: bs => by
    show ((b == b) && eqLB (eqB (n + 1) S) (bs.map .bl) (bs.map .bl)) = true
    rw [eqLB_bools bs]; simp
theorem ne_bools {S : Sto} {p q : Nat} {bs : List Bool} {Q : Bool → Prop} (hp : S p = some (.lst (bs.map .bl))) (hq : S q = some (.lst (bs.map .bl))) (k : Q false) : cmpD .ne (.ref p) (.ref q) S Q := by
  have f : ∀ a : Nat, S a = some (.lst (bs.map .bl)) → fit dep S (.ref a) = true := fun a e => by
    show optB (lstAt S a) _ = true
    rw [lstAt_eq e]
    exact fitL_of fun y hy => by obtain ⟨b, _, rfl⟩ := List.mem_map.mp hy; rfl
  refine ⟨f p hp, f q hq, ?_⟩
  have e : eqB dep S (.ref p) (.ref q) = true := by
    show eqO _ (lstAt S p) (lstAt S q) = _
    rw [lstAt_eq hp, lstAt_eq hq]
    exact eqLB_bools bs
  rw [e]; exact k
theorem isTy_bb {S : Sto} {f : Bool} : isTy S (.bl f) .bool = some true := rfl
/-- _law_right(desk, thing) -/
def spRight : Sp := fun ds S Q _ => ∃ a b v w, ds = [.tup [.int a, .int b], v] ∧ 1 ≤ a ∧ 1 ≤ b ∧ Gd 500 w S v ∧ ∀ S', Ext S S' → Q (.bl true) S'
/-- a loop -/
theorem forW_ok {chk : Sto → Prop} {step : D → Env → Sto → (Env → Sto → Prop) → Prop} {nx : Env → Sto → Prop} {I : Nat → Env → Sto → Prop} : ∀ (items : List D) (i : Nat) (ρ : Env) (S : Sto), I i ρ S →
    (∀ j d ρ S nx', j < i + items.length → d ∈ items → I j ρ S → (∀ ρ' S', I (j + 1) ρ' S' → nx' ρ' S') → chk S ∧ step d ρ S nx') → (∀ ρ S, I (i + items.length) ρ S → chk S ∧ nx ρ S) → forW chk step nx items ρ S
  | [], i, ρ, S, h, _, he => he ρ S h
  | d :: ds, i, ρ, S, h, hs, he => hs i d ρ S _ (by simp) (by simp) h fun ρ' S' h' => forW_ok ds (i + 1) ρ' S' h' (fun j d ρ S nx' hj hd => hs j d ρ S nx' (by rw [List.length_cons]; omega) (by simp [hd])) fun ρ S h => he ρ S (by rw [List.length_cons]; rwa [Nat.add_right_comm] at h)
end M
namespace M
/-- t / b in lowest terms (0 < b) -/
def low (t b : Int) : D := .tup [.int (t / (Int.gcd t b : Nat)), .int (b / (Int.gcd t b : Nat))]
/-- the place t / b folded into 0 .. s -/
def foldT (s t b : Int) : Int := if 2 * s * b - t % (2 * s * b) < t % (2 * s * b) then 2 * s * b - t % (2 * s * b) else t % (2 * s * b)
def cellN (s t b d : Int) : Int := if d > 0 then t / (s * b) else -((-t) / (s * b)) - 1
def wayN (s t b d : Int) : Int := if cellN s t b d % 2 = 0 then d else -d
/-- a number below 2 ^ n -/
def Bd (n : Nat) (i : Int) : Prop := i.natAbs < 2 ^ n
theorem Bd.sm {n : Nat} {i : Int} (h : Bd n i) (hn : n ≤ 4000) : sm i := sm_of n hn h
theorem Bd.mul {n m : Nat} {i j : Int} (h : Bd n i) (k : Bd m j) : Bd (n + m) (i * j) := by
  show (i * j).natAbs < 2 ^ (n + m)
  rw [Int.natAbs_mul, Nat.pow_add]
  exact Nat.mul_lt_mul'' h k
theorem Bd.up {n m : Nat} {i : Int} (h : Bd n i) (k : n ≤ m) : Bd m i := lt_two n h k
theorem bd2 : Bd 2 2 := by show Int.natAbs 2 < 2 ^ 2; decide
theorem gcd_pos {t b : Int} (h : 0 < b) : 0 < ((Int.gcd t b : Nat) : Int) := by
  have : 0 < Int.gcd t b := Int.gcd_pos_of_ne_zero_right t (by omega)
  omega
theorem gcd_le {t b : Int} (h : 0 < b) : ((Int.gcd t b : Nat) : Int) ≤ b := Int.le_of_dvd h (Int.gcd_dvd_right ..)
/-- fraction(top, bottom) -/
def spFrac : Sp := fun ds S Q _ => ∃ t b, ds = [.int t, .int b] ∧ 0 < b ∧ Bd 8000 b ∧ Q (low t b) S
theorem txt_frac {G : Gm} {ds : List D} {S0 : Sto} {Q : VK} {X : XK} {b : Ss} (hb : b = (.cons (.set (.v 2) (.ite (.cmp .gt (.v 1) (.k (.int 0))) (.call 1 (.cons (.v 0) (.cons (.v 1) .nil))) (.neg (.call 1 (.cons (.v 0) (.cons (.v 1) .nil)))))) (.cons (.ret (.tup (.cons (.bin .fdiv (.v 0) (.v 2)) (.cons (.bin .fdiv (.v 1) (.v 2)) .nil)))) .nil))) (h1 : G.fn 1 = spGcd) (h : spFrac ds S0 Q X) : ds.length = 2 ∧ wpSs G b (start 3 ds) S0 (kR Q X) := by
  obtain ⟨t, b2, rfl, hp, hb2, hq⟩ := h
  subst hb
  refine ⟨rfl, ?_⟩
  simp only [wpSs, wpS, wpE, wpEs, wpC, wpAnd, wpOr, wpO, wpIt, opt_some, onI_int, onB_bl, onR_ref, arg1_one, look, joinO, start, List.map_cons, List.map_nil, List.length_cons, List.length_nil, List.replicate, List.cons_append, List.nil_append, List.append_nil, List.getElem?_cons_succ, List.getElem?_cons_zero, kcD, Nat.reduceAdd, Nat.reduceSub, br_t, br_f, br_n, asg, setAll, List.set_cons_succ, List.set_cons_zero, tgs, wipe, eq_ii, ne_ii, lt_ii, le_ii, gt_ii, ge_ii, is_n, isn_n, is_b, isn_b, add_ii, sub_ii, mul_ii, mod_ii, fdiv_ii, pow_ii, isNon, biD, intD_i, intD_b, esLen, beq_self_eq_true, ixD_tup, lsOf_new, seqD_tup, seqD_fl, slD_tup, bools, Option.map_some, true_and, ixD_fl, lenD_tup, lenD_fl, ix30, ix31, ix32, at20, at21, at30, at31, at32, List.filterMap_cons, List.filterMap_nil]
  refine br_d (fun _ => ?_) fun hn => absurd hp hn
  refine call h1 ⟨t, b2, rfl, ?_⟩
  have g0 := gcd_pos (t := t) hp
  have g1 := gcd_le (t := t) hp
  have hs : smd ((Int.gcd t b2 : Nat) : Int) := smd_of 8000 (by decide) (by
    have : b2.natAbs < 2 ^ 8000 := hb2
    omega)
  simp only [wpSs, wpS, wpE, wpEs, wpC, wpAnd, wpOr, wpO, wpIt, opt_some, onI_int, onB_bl, onR_ref, arg1_one, look, joinO, start, List.map_cons, List.map_nil, List.length_cons, List.length_nil, List.replicate, List.cons_append, List.nil_append, List.append_nil, List.getElem?_cons_succ, List.getElem?_cons_zero, kcD, Nat.reduceAdd, Nat.reduceSub, br_t, br_f, br_n, asg, setAll, List.set_cons_succ, List.set_cons_zero, tgs, wipe, eq_ii, ne_ii, lt_ii, le_ii, gt_ii, ge_ii, is_n, isn_n, is_b, isn_b, add_ii, sub_ii, mul_ii, mod_ii, fdiv_ii, pow_ii, isNon, biD, intD_i, intD_b, esLen, beq_self_eq_true, ixD_tup, lsOf_new, seqD_tup, seqD_fl, slD_tup, bools, Option.map_some, true_and, ixD_fl, lenD_tup, lenD_fl, ix30, ix31, ix32, at20, at21, at30, at31, at32, List.filterMap_cons, List.filterMap_nil, fdiv_pos g0]
  exact ⟨by omega, hs, by omega, hs, len_lim (by decide), hq⟩
/-- check_shot of a shot on the table -/
def spCkShot : Sp := fun ds S Q _ => ∃ a b v, ds = [.tup [.int a, .int b], v] ∧ 1 ≤ a ∧ 1 ≤ b ∧ Vl S v ∧ rollB a b v = true ∧ ∀ S', Ext S S' → Q .non S'
theorem txt_ckshot {G : Gm} {ds : List D} {S0 : Sto} {Q : VK} {X : XK} {b : Ss} (hb : b = (.cons (.ex (.call 9 (.cons (.v 0) .nil))) (.cons (.if_ (.not (.call 7 (.cons (.v 0) (.cons (.v 1) .nil)))) (.cons .nev .nil) .nil) .nil))) (h7 : G.fn 9 = spCheck) (h5 : G.fn 7 = spOn) (h : spCkShot ds S0 Q X) : ds.length = 2 ∧ wpSs G b (start 2 ds) S0 (kR Q X) := by
  obtain ⟨a, b2, v, rfl, ha, hb', hv, hr, hq⟩ := h
  subst hb
  refine ⟨rfl, ?_⟩
  simp only [wpSs, wpS, wpE, wpEs, wpC, wpAnd, wpOr, wpO, wpIt, opt_some, onI_int, onB_bl, onR_ref, arg1_one, look, joinO, start, List.map_cons, List.map_nil, List.length_cons, List.length_nil, List.replicate, List.cons_append, List.nil_append, List.append_nil, List.getElem?_cons_succ, List.getElem?_cons_zero, kcD, Nat.reduceAdd, Nat.reduceSub, br_t, br_f, br_n, asg, setAll, List.set_cons_succ, List.set_cons_zero, tgs, wipe, eq_ii, ne_ii, lt_ii, le_ii, gt_ii, ge_ii, is_n, isn_n, is_b, isn_b, add_ii, sub_ii, mul_ii, mod_ii, fdiv_ii, pow_ii, isNon, biD, intD_i, intD_b, esLen, beq_self_eq_true, ixD_tup, lsOf_new, seqD_tup, seqD_fl, slD_tup, bools, Option.map_some, true_and, ixD_fl, lenD_tup, lenD_fl, ix30, ix31, ix32, at20, at21, at30, at31, at32, List.filterMap_cons, List.filterMap_nil]
  refine call h7 ⟨a, b2, rfl, ha, hb', fun S1 k1 => ?_⟩
  refine call h5 ⟨a, b2, v, rfl, hv.ext k1, fun S2 k2 => ?_⟩
  simp only [wpSs, wpS, wpE, wpEs, wpC, wpAnd, wpOr, wpO, wpIt, opt_some, onI_int, onB_bl, onR_ref, arg1_one, look, joinO, start, List.map_cons, List.map_nil, List.length_cons, List.length_nil, List.replicate, List.cons_append, List.nil_append, List.append_nil, List.getElem?_cons_succ, List.getElem?_cons_zero, kcD, Nat.reduceAdd, Nat.reduceSub, br_t, br_f, br_n, asg, setAll, List.set_cons_succ, List.set_cons_zero, tgs, wipe, eq_ii, ne_ii, lt_ii, le_ii, gt_ii, ge_ii, is_n, isn_n, is_b, isn_b, add_ii, sub_ii, mul_ii, mod_ii, fdiv_ii, pow_ii, isNon, biD, intD_i, intD_b, esLen, beq_self_eq_true, ixD_tup, lsOf_new, seqD_tup, seqD_fl, slD_tup, bools, Option.map_some, true_and, ixD_fl, lenD_tup, lenD_fl, ix30, ix31, ix32, at20, at21, at30, at31, at32, List.filterMap_cons, List.filterMap_nil, hr]
  exact hq S2 (k1.trans k2)
/-- check_time of a fraction -/
def spCkTime : Sp := fun ds S Q _ => ∃ v, ds = [v] ∧ Vl S v ∧ partB v = true ∧ ∀ S', Ext S S' → Q .non S'
theorem txt_cktime {G : Gm} {ds : List D} {S0 : Sto} {Q : VK} {X : XK} {b : Ss} (hb : b = (.cons (.if_ (.not (.call 8 (.cons (.v 0) .nil))) (.cons .nev .nil) .nil) .nil)) (h6 : G.fn 8 = spPart) (h : spCkTime ds S0 Q X) : ds.length = 1 ∧ wpSs G b (start 1 ds) S0 (kR Q X) := by
  obtain ⟨v, rfl, hv, hr, hq⟩ := h
  subst hb
  refine ⟨rfl, ?_⟩
  simp only [wpSs, wpS, wpE, wpEs, wpC, wpAnd, wpOr, wpO, wpIt, opt_some, onI_int, onB_bl, onR_ref, arg1_one, look, joinO, start, List.map_cons, List.map_nil, List.length_cons, List.length_nil, List.replicate, List.cons_append, List.nil_append, List.append_nil, List.getElem?_cons_succ, List.getElem?_cons_zero, kcD, Nat.reduceAdd, Nat.reduceSub, br_t, br_f, br_n, asg, setAll, List.set_cons_succ, List.set_cons_zero, tgs, wipe, eq_ii, ne_ii, lt_ii, le_ii, gt_ii, ge_ii, is_n, isn_n, is_b, isn_b, add_ii, sub_ii, mul_ii, mod_ii, fdiv_ii, pow_ii, isNon, biD, intD_i, intD_b, esLen, beq_self_eq_true, ixD_tup, lsOf_new, seqD_tup, seqD_fl, slD_tup, bools, Option.map_some, true_and, ixD_fl, lenD_tup, lenD_fl, ix30, ix31, ix32, at20, at21, at30, at31, at32, List.filterMap_cons, List.filterMap_nil]
  refine call h6 ⟨v, rfl, hv, fun S1 k1 => ?_⟩
  simp only [wpSs, wpS, wpE, wpEs, wpC, wpAnd, wpOr, wpO, wpIt, opt_some, onI_int, onB_bl, onR_ref, arg1_one, look, joinO, start, List.map_cons, List.map_nil, List.length_cons, List.length_nil, List.replicate, List.cons_append, List.nil_append, List.append_nil, List.getElem?_cons_succ, List.getElem?_cons_zero, kcD, Nat.reduceAdd, Nat.reduceSub, br_t, br_f, br_n, asg, setAll, List.set_cons_succ, List.set_cons_zero, tgs, wipe, eq_ii, ne_ii, lt_ii, le_ii, gt_ii, ge_ii, is_n, isn_n, is_b, isn_b, add_ii, sub_ii, mul_ii, mod_ii, fdiv_ii, pow_ii, isNon, biD, intD_i, intD_b, esLen, beq_self_eq_true, ixD_tup, lsOf_new, seqD_tup, seqD_fl, slD_tup, bools, Option.map_some, true_and, ixD_fl, lenD_tup, lenD_fl, ix30, ix31, ix32, at20, at21, at30, at31, at32, List.filterMap_cons, List.filterMap_nil, hr]
  exact hq S1 k1
/-- fold(side, number) -/
def spFold : Sp := fun ds S Q _ => ∃ s t b, ds = [.int s, .tup [.int t, .int b]] ∧ 1 ≤ s ∧ 1 ≤ b ∧ Bd 1500 s ∧ Bd 1500 b ∧ Q (low (foldT s t b) b) S
theorem mulp {a b : Int} (ha : 0 < a) (hb : 0 < b) : 0 < a * b := Int.mul_pos ha hb
theorem txt_fold {G : Gm} {ds : List D} {S0 : Sto} {Q : VK} {X : XK} {b : Ss} (hb : b = (.cons (.set (.tup [2, 3]) (.v 1)) (.cons (.set (.v 4) (.bin .mod (.v 2) (.bin .mul (.bin .mul (.k (.int 2)) (.v 0)) (.v 3)))) (.cons (.ret (.call 2 (.cons (.bi .min (.cons (.v 4) (.cons (.bin .sub (.bin .mul (.bin .mul (.k (.int 2)) (.v 0)) (.v 3)) (.v 4)) .nil))) (.cons (.v 3) .nil)))) .nil)))) (h2 : G.fn 2 = spFrac) (h : spFold ds S0 Q X) : ds.length = 2 ∧ wpSs G b (start 5 ds) S0 (kR Q X) := by
  obtain ⟨s, t, b2, rfl, hs, hb', bs, bb, hq⟩ := h
  subst hb
  refine ⟨rfl, ?_⟩
  have b2s := bd2.mul bs
  have p1 : 0 < 2 * s := by omega
  have p2 : 0 < 2 * s * b2 := mulp p1 (by omega)
  have s2 : sm 2 := bd2.sm (by decide)
  have ss := bs.sm (by decide)
  have s2s := b2s.sm (by decide)
  have sb := bb.sm (by decide)
  simp only [wpSs, wpS, wpE, wpEs, wpC, wpAnd, wpOr, wpO, wpIt, opt_some, onI_int, onB_bl, onR_ref, arg1_one, look, joinO, start, List.map_cons, List.map_nil, List.length_cons, List.length_nil, List.replicate, List.cons_append, List.nil_append, List.append_nil, List.getElem?_cons_succ, List.getElem?_cons_zero, kcD, Nat.reduceAdd, Nat.reduceSub, br_t, br_f, br_n, asg, setAll, List.set_cons_succ, List.set_cons_zero, tgs, wipe, eq_ii, ne_ii, lt_ii, le_ii, gt_ii, ge_ii, is_n, isn_n, is_b, isn_b, add_ii, sub_ii, mul_ii, mod_ii, fdiv_ii, pow_ii, isNon, biD, intD_i, intD_b, esLen, beq_self_eq_true, ixD_tup, lsOf_new, seqD_tup, seqD_fl, slD_tup, bools, Option.map_some, true_and, ixD_fl, lenD_tup, lenD_fl, ix30, ix31, ix32, at20, at21, at30, at31, at32, List.filterMap_cons, List.filterMap_nil, fmod_pos p2]
  exact ⟨s2, ss, s2s, sb, by omega, s2, ss, s2s, sb, call h2 ⟨_, _, rfl, by omega, bb.up (by decide), hq⟩⟩
/-- free_place(shot, time) -/
def spFreeP : Sp := fun ds S Q _ => ∃ x y p q t b, ds = [.tup [.int x, .int y, .int p, .int q], .tup [.int t, .int b]] ∧ sm x ∧ sm y ∧ sm p ∧ sm q ∧ sm t ∧ sm b ∧ Q (.tup [.tup [.int (x * b + p * t), .int b], .tup [.int (y * b + q * t), .int b]]) S
theorem at40 {α : Type} {a b c d : α} : atI [a, b, c, d] 0 = some a := rfl
theorem at41 {α : Type} {a b c d : α} : atI [a, b, c, d] 1 = some b := rfl
theorem at42 {α : Type} {a b c d : α} : atI [a, b, c, d] 2 = some c := rfl
theorem at43 {α : Type} {a b c d : α} : atI [a, b, c, d] 3 = some d := rfl
theorem txt_freep {G : Gm} {ds : List D} {S0 : Sto} {Q : VK} {X : XK} {b : Ss} (hb : b = (.cons (.set (.tup [2, 3]) (.v 1)) (.cons (.ret (.tup (.cons (.tup (.cons (.bin .add (.bin .mul (.ix (.v 0) (.k (.int 0))) (.v 3)) (.bin .mul (.ix (.v 0) (.k (.int 2))) (.v 2))) (.cons (.v 3) .nil))) (.cons (.tup (.cons (.bin .add (.bin .mul (.ix (.v 0) (.k (.int 1))) (.v 3)) (.bin .mul (.ix (.v 0) (.k (.int 3))) (.v 2))) (.cons (.v 3) .nil))) .nil)))) .nil))) (h : spFreeP ds S0 Q X) : ds.length = 2 ∧ wpSs G b (start 4 ds) S0 (kR Q X) := by
  obtain ⟨x, y, p, q, t, b2, rfl, h1, h2, h3, h4, h5, h6, hq⟩ := h
  subst hb
  refine ⟨rfl, ?_⟩
  simp only [wpSs, wpS, wpE, wpEs, wpC, wpAnd, wpOr, wpO, wpIt, opt_some, onI_int, onB_bl, onR_ref, arg1_one, look, joinO, start, List.map_cons, List.map_nil, List.length_cons, List.length_nil, List.replicate, List.cons_append, List.nil_append, List.append_nil, List.getElem?_cons_succ, List.getElem?_cons_zero, kcD, Nat.reduceAdd, Nat.reduceSub, br_t, br_f, br_n, asg, setAll, List.set_cons_succ, List.set_cons_zero, tgs, wipe, eq_ii, ne_ii, lt_ii, le_ii, gt_ii, ge_ii, is_n, isn_n, is_b, isn_b, add_ii, sub_ii, mul_ii, mod_ii, fdiv_ii, pow_ii, isNon, biD, intD_i, intD_b, esLen, beq_self_eq_true, ixD_tup, lsOf_new, seqD_tup, seqD_fl, slD_tup, bools, Option.map_some, true_and, ixD_fl, lenD_tup, lenD_fl, ix30, ix31, ix32, at20, at21, at30, at31, at32, List.filterMap_cons, List.filterMap_nil, at40, at41, at42, at43]
  have l : 2 ≤ lim := len_lim (by decide)
  exact ⟨h1, h6, h3, h5, l, h2, h6, h4, h5, l, l, hq⟩
/-- a shot and a time, in bounds -/
structure Sh (a c x y p q t b : Int) : Prop where
  a0 : 1 ≤ a
  c0 : 1 ≤ c
  b0 : 1 ≤ b
  ba : Bd 1500 a
  bc : Bd 1500 c
  bx : Bd 1500 x
  by_ : Bd 1500 y
  bp : Bd 1500 p
  bq : Bd 1500 q
  bt : Bd 1500 t
  bb : Bd 1500 b
/-- where the ball is -/
def placeD (a c x y p q t b : Int) : D := .tup [low (foldT a (x * b + p * t) b) b, low (foldT c (y * b + q * t) b) b]
def spPlaceOf : Sp := fun ds S Q _ => ∃ a c x y p q t b, ds = [.tup [.int a, .int c], .tup [.int x, .int y, .int p, .int q], .tup [.int t, .int b]] ∧ Sh a c x y p q t b ∧ Q (placeD a c x y p q t b) S
theorem txt_placeof {G : Gm} {ds : List D} {S0 : Sto} {Q : VK} {X : XK} {b : Ss} (hb : b = (.cons (.set (.tup [3, 4]) (.call 13 (.cons (.v 1) (.cons (.v 2) .nil)))) (.cons (.ret (.tup (.cons (.call 12 (.cons (.ix (.v 0) (.k (.int 0))) (.cons (.v 3) .nil))) (.cons (.call 12 (.cons (.ix (.v 0) (.k (.int 1))) (.cons (.v 4) .nil))) .nil)))) .nil))) (hf : G.fn 13 = spFreeP) (ho : G.fn 12 = spFold) (h : spPlaceOf ds S0 Q X) : ds.length = 3 ∧ wpSs G b (start 5 ds) S0 (kR Q X) := by
  obtain ⟨a, c, x, y, p, q, t, b2, rfl, k, hq⟩ := h
  subst hb
  refine ⟨rfl, ?_⟩
  simp only [wpSs, wpS, wpE, wpEs, wpC, wpAnd, wpOr, wpO, wpIt, opt_some, onI_int, onB_bl, onR_ref, arg1_one, look, joinO, start, List.map_cons, List.map_nil, List.length_cons, List.length_nil, List.replicate, List.cons_append, List.nil_append, List.append_nil, List.getElem?_cons_succ, List.getElem?_cons_zero, kcD, Nat.reduceAdd, Nat.reduceSub, br_t, br_f, br_n, asg, setAll, List.set_cons_succ, List.set_cons_zero, tgs, wipe, eq_ii, ne_ii, lt_ii, le_ii, gt_ii, ge_ii, is_n, isn_n, is_b, isn_b, add_ii, sub_ii, mul_ii, mod_ii, fdiv_ii, pow_ii, isNon, biD, intD_i, intD_b, esLen, beq_self_eq_true, ixD_tup, lsOf_new, seqD_tup, seqD_fl, slD_tup, bools, Option.map_some, true_and, ixD_fl, lenD_tup, lenD_fl, ix30, ix31, ix32, at20, at21, at30, at31, at32, List.filterMap_cons, List.filterMap_nil]
  refine call hf ⟨x, y, p, q, t, b2, rfl, k.bx.sm (by decide), k.by_.sm (by decide), k.bp.sm (by decide), k.bq.sm (by decide), k.bt.sm (by decide), k.bb.sm (by decide), ?_⟩
  simp only [wpSs, wpS, wpE, wpEs, wpC, wpAnd, wpOr, wpO, wpIt, opt_some, onI_int, onB_bl, onR_ref, arg1_one, look, joinO, start, List.map_cons, List.map_nil, List.length_cons, List.length_nil, List.replicate, List.cons_append, List.nil_append, List.append_nil, List.getElem?_cons_succ, List.getElem?_cons_zero, kcD, Nat.reduceAdd, Nat.reduceSub, br_t, br_f, br_n, asg, setAll, List.set_cons_succ, List.set_cons_zero, tgs, wipe, eq_ii, ne_ii, lt_ii, le_ii, gt_ii, ge_ii, is_n, isn_n, is_b, isn_b, add_ii, sub_ii, mul_ii, mod_ii, fdiv_ii, pow_ii, isNon, biD, intD_i, intD_b, esLen, beq_self_eq_true, ixD_tup, lsOf_new, seqD_tup, seqD_fl, slD_tup, bools, Option.map_some, true_and, ixD_fl, lenD_tup, lenD_fl, ix30, ix31, ix32, at20, at21, at30, at31, at32, List.filterMap_cons, List.filterMap_nil]
  refine call ho ⟨a, _, b2, rfl, k.a0, k.b0, k.ba, k.bb, ?_⟩
  refine call ho ⟨c, _, b2, rfl, k.c0, k.b0, k.bc, k.bb, ?_⟩
  exact ⟨len_lim (by decide), hq⟩
/-- way_of(side, number, direction) -/
def spWayOf : Sp := fun ds S Q _ => ∃ s t b d, ds = [.int s, .tup [.int t, .int b], .int d] ∧ 1 ≤ s ∧ 1 ≤ b ∧ Bd 1500 s ∧ Bd 1500 b ∧ Q (.int (wayN s t b d)) S
theorem txt_wayof {G : Gm} {ds : List D} {S0 : Sto} {Q : VK} {X : XK} {b : Ss} (hb : b = (.cons (.set (.tup [3, 4]) (.v 1)) (.cons (.set (.v 5) (.ite (.cmp .gt (.v 2) (.k (.int 0))) (.bin .fdiv (.v 3) (.bin .mul (.v 0) (.v 4))) (.bin .sub (.neg (.bin .fdiv (.neg (.v 3)) (.bin .mul (.v 0) (.v 4)))) (.k (.int 1))))) (.cons (.ret (.ite (.cmp .eq (.bin .mod (.v 5) (.k (.int 2))) (.k (.int 0))) (.v 2) (.neg (.v 2)))) .nil)))) (h : spWayOf ds S0 Q X) : ds.length = 3 ∧ wpSs G b (start 6 ds) S0 (kR Q X) := by
  obtain ⟨s, t, b2, d, rfl, hs, hb', bs, bb, hq⟩ := h
  subst hb
  refine ⟨rfl, ?_⟩
  have p : 0 < s * b2 := mulp (by omega) (by omega)
  have ss := bs.sm (by decide)
  have sb := bb.sm (by decide)
  have sd : smd (s * b2) := smd_of 3000 (by decide) (bs.mul bb)
  simp only [wpSs, wpS, wpE, wpEs, wpC, wpAnd, wpOr, wpO, wpIt, opt_some, onI_int, onB_bl, onR_ref, arg1_one, look, joinO, start, List.map_cons, List.map_nil, List.length_cons, List.length_nil, List.replicate, List.cons_append, List.nil_append, List.append_nil, List.getElem?_cons_succ, List.getElem?_cons_zero, kcD, Nat.reduceAdd, Nat.reduceSub, br_t, br_f, br_n, asg, setAll, List.set_cons_succ, List.set_cons_zero, tgs, wipe, eq_ii, ne_ii, lt_ii, le_ii, gt_ii, ge_ii, is_n, isn_n, is_b, isn_b, add_ii, sub_ii, mul_ii, mod_ii, fdiv_ii, pow_ii, isNon, biD, intD_i, intD_b, esLen, beq_self_eq_true, ixD_tup, lsOf_new, seqD_tup, seqD_fl, slD_tup, bools, Option.map_some, true_and, ixD_fl, lenD_tup, lenD_fl, ix30, ix31, ix32, at20, at21, at30, at31, at32, List.filterMap_cons, List.filterMap_nil, fdiv_pos p]
  have fin : ∀ c : Int, c = cellN s t b2 d → br (c.fmod 2 == 0) (Q (.int d) S0) (Q (.int (-d)) S0) := by
    intro c e
    subst e
    rw [fmod_pos (by decide)]
    unfold wayN at hq
    refine br_if (fun h => ?_) fun h => ?_
    · rw [if_pos (by simpa using h)] at hq; exact hq
    · rw [if_neg (by simpa using h)] at hq; exact hq
  refine br_d (fun h => ⟨ss, sb, by omega, sd, by decide, fin _ (by unfold cellN; rw [if_pos h])⟩) fun h => ⟨ss, sb, by omega, sd, by decide, fin _ (by unfold cellN; rw [if_neg h])⟩
def waysD (a c x y p q t b : Int) : D := .tup [.int (wayN a (x * b + p * t) b p), .int (wayN c (y * b + q * t) b q)]
def spWaysOf : Sp := fun ds S Q _ => ∃ a c x y p q t b, ds = [.tup [.int a, .int c], .tup [.int x, .int y, .int p, .int q], .tup [.int t, .int b]] ∧ Sh a c x y p q t b ∧ Q (waysD a c x y p q t b) S
theorem txt_waysof {G : Gm} {ds : List D} {S0 : Sto} {Q : VK} {X : XK} {b : Ss} (hb : b = (.cons (.set (.tup [3, 4]) (.call 13 (.cons (.v 1) (.cons (.v 2) .nil)))) (.cons (.ret (.tup (.cons (.call 15 (.cons (.ix (.v 0) (.k (.int 0))) (.cons (.v 3) (.cons (.ix (.v 1) (.k (.int 2))) .nil)))) (.cons (.call 15 (.cons (.ix (.v 0) (.k (.int 1))) (.cons (.v 4) (.cons (.ix (.v 1) (.k (.int 3))) .nil)))) .nil)))) .nil))) (hf : G.fn 13 = spFreeP) (ho : G.fn 15 = spWayOf) (h : spWaysOf ds S0 Q X) : ds.length = 3 ∧ wpSs G b (start 5 ds) S0 (kR Q X) := by
  obtain ⟨a, c, x, y, p, q, t, b2, rfl, k, hq⟩ := h
  subst hb
  refine ⟨rfl, ?_⟩
  simp only [wpSs, wpS, wpE, wpEs, wpC, wpAnd, wpOr, wpO, wpIt, opt_some, onI_int, onB_bl, onR_ref, arg1_one, look, joinO, start, List.map_cons, List.map_nil, List.length_cons, List.length_nil, List.replicate, List.cons_append, List.nil_append, List.append_nil, List.getElem?_cons_succ, List.getElem?_cons_zero, kcD, Nat.reduceAdd, Nat.reduceSub, br_t, br_f, br_n, asg, setAll, List.set_cons_succ, List.set_cons_zero, tgs, wipe, eq_ii, ne_ii, lt_ii, le_ii, gt_ii, ge_ii, is_n, isn_n, is_b, isn_b, add_ii, sub_ii, mul_ii, mod_ii, fdiv_ii, pow_ii, isNon, biD, intD_i, intD_b, esLen, beq_self_eq_true, ixD_tup, lsOf_new, seqD_tup, seqD_fl, slD_tup, bools, Option.map_some, true_and, ixD_fl, lenD_tup, lenD_fl, ix30, ix31, ix32, at20, at21, at30, at31, at32, List.filterMap_cons, List.filterMap_nil]
  refine call hf ⟨x, y, p, q, t, b2, rfl, k.bx.sm (by decide), k.by_.sm (by decide), k.bp.sm (by decide), k.bq.sm (by decide), k.bt.sm (by decide), k.bb.sm (by decide), ?_⟩
  simp only [wpSs, wpS, wpE, wpEs, wpC, wpAnd, wpOr, wpO, wpIt, opt_some, onI_int, onB_bl, onR_ref, arg1_one, look, joinO, start, List.map_cons, List.map_nil, List.length_cons, List.length_nil, List.replicate, List.cons_append, List.nil_append, List.append_nil, List.getElem?_cons_succ, List.getElem?_cons_zero, kcD, Nat.reduceAdd, Nat.reduceSub, br_t, br_f, br_n, asg, setAll, List.set_cons_succ, List.set_cons_zero, tgs, wipe, eq_ii, ne_ii, lt_ii, le_ii, gt_ii, ge_ii, is_n, isn_n, is_b, isn_b, add_ii, sub_ii, mul_ii, mod_ii, fdiv_ii, pow_ii, isNon, biD, intD_i, intD_b, esLen, beq_self_eq_true, ixD_tup, lsOf_new, seqD_tup, seqD_fl, slD_tup, bools, Option.map_some, true_and, ixD_fl, lenD_tup, lenD_fl, ix30, ix31, ix32, at20, at21, at30, at31, at32, List.filterMap_cons, List.filterMap_nil, at42, at43]
  refine call ho ⟨a, _, b2, p, rfl, k.a0, k.b0, k.ba, k.bb, ?_⟩
  refine call ho ⟨c, _, b2, q, rfl, k.c0, k.b0, k.bc, k.bb, ?_⟩
  exact ⟨len_lim (by decide), hq⟩
end M
namespace M
theorem Bd.add {n : Nat} {i j : Int} (h : Bd n i) (k : Bd n j) : Bd (n + 1) (i + j) := by
  show (i + j).natAbs < 2 ^ (n + 1)
  have h : i.natAbs < 2 ^ n := h
  have k : j.natAbs < 2 ^ n := k
  have := Int.natAbs_add_le i j
  rw [Nat.pow_succ]; omega
theorem Bd.neg' {n : Nat} {i : Int} (h : Bd n i) : Bd n (-i) := by
  show (-i).natAbs < 2 ^ n
  rw [Int.natAbs_neg]; exact h
theorem Bd.sub {n : Nat} {i j : Int} (h : Bd n i) (k : Bd n j) : Bd (n + 1) (i - j) := by
  rw [Int.sub_eq_add_neg]; exact h.add k.neg'
theorem Bd.le {n : Nat} {i m : Int} (h : Bd n m) (h0 : 0 ≤ i) (h1 : i ≤ m) : Bd n i := by
  have h : m.natAbs < 2 ^ n := h
  show i.natAbs < 2 ^ n
  omega
theorem Bd.mod {n : Nat} {i m : Int} (h : Bd n m) (hm : 0 < m) : Bd n (i % m) := h.le (Int.emod_nonneg _ (by omega)) (Int.le_of_lt (Int.emod_lt_of_pos _ hm))
theorem Bd.div {n : Nat} {i j : Int} (h : Bd n i) : Bd n (i / j) := by
  show (i / j).natAbs < 2 ^ n
  exact Nat.lt_of_le_of_lt (Int.natAbs_ediv_le_natAbs i j) h
theorem Bd.smd {n : Nat} {i : Int} (h : Bd n i) (hn : n ≤ 8500) : smd i := smd_of n hn h
theorem gdiv_pos {t b : Int} (hb : 0 < b) : 0 < b / ((Int.gcd t b : Nat) : Int) := by
  have g := gcd_pos (t := t) hb
  have l := gcd_le (t := t) hb
  exact Int.ediv_pos_of_pos_of_dvd hb (Int.le_of_lt g) (Int.gcd_dvd_right ..)
theorem gcd_bd {n : Nat} {t b : Int} (h : Bd n b) (hb : 0 < b) : Bd n ((Int.gcd t b : Nat) : Int) := h.le (Int.le_of_lt (gcd_pos hb)) (gcd_le hb)
theorem low_inj {t u b : Int} (hb : 0 < b) (h : low t b = low u b) : t = u := by
  unfold low at h
  injection h with h
  injection h with h1 h
  injection h with h2 h
  injection h1 with h1
  injection h2 with h2
  have g1 := Int.mul_ediv_cancel' (Int.gcd_dvd_right t b)
  have g2 := Int.mul_ediv_cancel' (Int.gcd_dvd_right u b)
  have e1 := Int.mul_ediv_cancel' (Int.gcd_dvd_left t b)
  have e2 := Int.mul_ediv_cancel' (Int.gcd_dvd_left u b)
  have p := gdiv_pos (t := u) hb
  have g : ((Int.gcd t b : Nat) : Int) = ((Int.gcd u b : Nat) : Int) := by
    rw [h2] at g1
    exact Int.eq_of_mul_eq_mul_right (by omega) (g1.trans g2.symm)
  rw [← e1, ← e2, ← h1, g]
theorem bd_of' {i : Int} {k : Nat} (h0 : 0 ≤ i) (h : i < 2 ^ k) : Bd k i := by
  show i.natAbs < 2 ^ k
  have : ((i.natAbs : Nat) : Int) < ((2 ^ k : Nat) : Int) := by
    rw [Int.natAbs_of_nonneg h0, Int.natCast_pow]
    exact h
  exact Int.ofNat_lt.mp this
end M
namespace M
/-- the tuple of a shot -/
abbrev shD (x y p q : Int) : D := .tup [.int x, .int y, .int p, .int q]
abbrev prD (x y : Int) : D := .tup [.int x, .int y]
theorem vl_sh {S : Sto} {x y p q : Int} : Vl S (shD x y p q) := ⟨trivial, fun xs e z hz => by
  cases e
  simp only [List.mem_cons, List.not_mem_nil, or_false] at hz
  rcases hz with rfl | rfl | rfl | rfl <;> trivial⟩
/-- turned_of(shot) -/
def spTurnOf : Sp := fun ds S Q _ => ∃ x y p q, ds = [shD x y p q] ∧ Q (shD x y (-p) (-q)) S
/-- is the shot on the table, the time a fraction -/
structure On (a c x y p q t b : Int) : Prop where
  sh : Sh a c x y p q t b
  on : rollB a c (shD x y p q) = true
  fr : partB (prD t b) = true
def spPlace : Sp := fun ds S Q _ => ∃ a c x y p q t b, ds = [prD a c, shD x y p q, prD t b] ∧ On a c x y p q t b ∧ ∀ S', Ext S S' → Q (placeD a c x y p q t b) S'
theorem txt_place {G : Gm} {ds : List D} {S0 : Sto} {Q : VK} {X : XK} {b : Ss} (hb : b = (.cons (.ex (.call 10 (.cons (.v 0) (.cons (.v 1) .nil)))) (.cons (.ex (.call 11 (.cons (.v 2) .nil))) (.cons (.ret (.call 14 (.cons (.v 0) (.cons (.v 1) (.cons (.v 2) .nil))))) .nil)))) (h8 : G.fn 10 = spCkShot) (h9 : G.fn 11 = spCkTime) (ho : G.fn 14 = spPlaceOf) (h : spPlace ds S0 Q X) : ds.length = 3 ∧ wpSs G b (start 3 ds) S0 (kR Q X) := by
  obtain ⟨a, c, x, y, p, q, t, b2, rfl, k, hq⟩ := h
  subst hb
  refine ⟨rfl, ?_⟩
  simp only [wpSs, wpS, wpE, wpEs, wpC, wpAnd, wpOr, wpO, wpIt, opt_some, onI_int, onB_bl, onR_ref, arg1_one, look, joinO, start, List.map_cons, List.map_nil, List.length_cons, List.length_nil, List.replicate, List.cons_append, List.nil_append, List.append_nil, List.getElem?_cons_succ, List.getElem?_cons_zero, kcD, Nat.reduceAdd, Nat.reduceSub, br_t, br_f, br_n, asg, setAll, List.set_cons_succ, List.set_cons_zero, tgs, wipe, eq_ii, ne_ii, lt_ii, le_ii, gt_ii, ge_ii, is_n, isn_n, is_b, isn_b, add_ii, sub_ii, mul_ii, mod_ii, fdiv_ii, pow_ii, isNon, biD, intD_i, intD_b, esLen, beq_self_eq_true, ixD_tup, lsOf_new, seqD_tup, seqD_fl, slD_tup, bools, Option.map_some, true_and, ixD_fl, lenD_tup, lenD_fl, ix30, ix31, ix32, at20, at21, at30, at31, at32, List.filterMap_cons, List.filterMap_nil]
  refine call h8 ⟨a, c, _, rfl, k.sh.a0, k.sh.c0, vl_sh, k.on, fun S1 k1 => ?_⟩
  refine call h9 ⟨_, rfl, vl_tab, k.fr, fun S2 k2 => ?_⟩
  exact call ho ⟨a, c, x, y, p, q, t, b2, rfl, k.sh, hq _ (k1.trans k2)⟩
def spWay : Sp := fun ds S Q _ => ∃ a c x y p q t b, ds = [prD a c, shD x y p q, prD t b] ∧ On a c x y p q t b ∧ ∀ S', Ext S S' → Q (waysD a c x y p q t b) S'
theorem txt_way {G : Gm} {ds : List D} {S0 : Sto} {Q : VK} {X : XK} {b : Ss} (hb : b = (.cons (.ex (.call 10 (.cons (.v 0) (.cons (.v 1) .nil)))) (.cons (.ex (.call 11 (.cons (.v 2) .nil))) (.cons (.ret (.call 16 (.cons (.v 0) (.cons (.v 1) (.cons (.v 2) .nil))))) .nil)))) (h8 : G.fn 10 = spCkShot) (h9 : G.fn 11 = spCkTime) (ho : G.fn 16 = spWaysOf) (h : spWay ds S0 Q X) : ds.length = 3 ∧ wpSs G b (start 3 ds) S0 (kR Q X) := by
  obtain ⟨a, c, x, y, p, q, t, b2, rfl, k, hq⟩ := h
  subst hb
  refine ⟨rfl, ?_⟩
  simp only [wpSs, wpS, wpE, wpEs, wpC, wpAnd, wpOr, wpO, wpIt, opt_some, onI_int, onB_bl, onR_ref, arg1_one, look, joinO, start, List.map_cons, List.map_nil, List.length_cons, List.length_nil, List.replicate, List.cons_append, List.nil_append, List.append_nil, List.getElem?_cons_succ, List.getElem?_cons_zero, kcD, Nat.reduceAdd, Nat.reduceSub, br_t, br_f, br_n, asg, setAll, List.set_cons_succ, List.set_cons_zero, tgs, wipe, eq_ii, ne_ii, lt_ii, le_ii, gt_ii, ge_ii, is_n, isn_n, is_b, isn_b, add_ii, sub_ii, mul_ii, mod_ii, fdiv_ii, pow_ii, isNon, biD, intD_i, intD_b, esLen, beq_self_eq_true, ixD_tup, lsOf_new, seqD_tup, seqD_fl, slD_tup, bools, Option.map_some, true_and, ixD_fl, lenD_tup, lenD_fl, ix30, ix31, ix32, at20, at21, at30, at31, at32, List.filterMap_cons, List.filterMap_nil]
  refine call h8 ⟨a, c, _, rfl, k.sh.a0, k.sh.c0, vl_sh, k.on, fun S1 k1 => ?_⟩
  refine call h9 ⟨_, rfl, vl_tab, k.fr, fun S2 k2 => ?_⟩
  exact call ho ⟨a, c, x, y, p, q, t, b2, rfl, k.sh, hq _ (k1.trans k2)⟩
def spTurned : Sp := fun ds S Q _ => ∃ x y p q, ds = [shD x y p q] ∧ freeB (shD x y p q) = true ∧ ∀ S', Ext S S' → Q (shD x y (-p) (-q)) S'
def spScaled : Sp := fun ds S Q _ => ∃ a c x y p q m, ds = [prD a c, shD x y p q, .int m] ∧ 1 ≤ a ∧ 1 ≤ c ∧ rollB a c (shD x y p q) = true ∧ 1 ≤ m ∧ sm a ∧ sm c ∧ sm x ∧ sm y ∧ sm m ∧ ∀ S', Ext S S' → Q (.tup [prD (a * m) (c * m), shD (x * m) (y * m) p q]) S'
def spCrossed : Sp := fun ds S Q _ => ∃ a c x y p q, ds = [prD a c, shD x y p q] ∧ 1 ≤ a ∧ 1 ≤ c ∧ rollB a c (shD x y p q) = true ∧ ∀ S', Ext S S' → Q (.tup [prD c a, shD y x q p]) S'
/-- Euclid's loop -/
theorem euclid {step : Env → Sto → (Env → Sto → Prop) → Prop} {S : Sto} {mk : Nat → Nat → Env} {g : Nat} (hz : ∀ u nx, u = g → step (mk u 0) S nx) (hs : ∀ u v nx, 0 < v → nx (mk v (u % v)) S → step (mk u v) S nx) : ∀ (n u v : Nat), v ≤ n → Nat.gcd u v = g → ∃ m, whileN step m (mk u v) S
  | n, u, 0, _, h => ⟨1, hz u _ (by rw [← h, Nat.gcd_zero_right])⟩
  | 0, u, v + 1, hv, h => absurd hv (by omega)
  | n + 1, u, v + 1, hv, h => by
    obtain ⟨m, hm⟩ := euclid hz hs n (v + 1) (u % (v + 1)) (by have := Nat.mod_lt u (y := v + 1) (by omega); omega) (by rw [← h, Nat.gcd_comm, ← Nat.gcd_rec, Nat.gcd_comm])
    exact ⟨m + 1, hs u (v + 1) _ (by omega) hm⟩
/-- _law_low(top, bottom), bottom above 0 -/
def spLow : Sp := fun ds S Q _ => ∃ t b, ds = [.int t, .int b] ∧ 0 < b ∧ Bd 8000 b ∧ Q (low t b) S
theorem txt_low {G : Gm} {ds : List D} {S0 : Sto} {Q : VK} {X : XK} {b : Ss} (hb : b = (.cons (.par 2 3 (.bi .abs (.cons (.v 0) .nil)) (.bi .abs (.cons (.v 1) .nil))) (.cons (.while_ (.cmp .ne (.v 3) (.k (.int 0))) (.cons (.par 2 3 (.v 3) (.bin .mod (.bi .int (.cons (.v 2) .nil)) (.v 3))) .nil)) (.cons (.ret (.ite (.cmp .gt (.v 1) (.k (.int 0))) (.tup (.cons (.bin .fdiv (.v 0) (.v 2)) (.cons (.bin .fdiv (.v 1) (.v 2)) .nil))) (.tup (.cons (.bin .fdiv (.neg (.v 0)) (.v 2)) (.cons (.bin .fdiv (.neg (.v 1)) (.v 2)) .nil))))) .nil)))) (h : spLow ds S0 Q X) : ds.length = 2 ∧ wpSs G b (start 4 ds) S0 (kR Q X) := by
  obtain ⟨t, b2, rfl, hp, hb2, hq⟩ := h
  subst hb
  refine ⟨rfl, ?_⟩
  simp only [wpSs, wpS, wpE, wpEs, wpC, wpAnd, wpOr, wpO, wpIt, opt_some, onI_int, onB_bl, onR_ref, arg1_one, look, joinO, start, List.map_cons, List.map_nil, List.length_cons, List.length_nil, List.replicate, List.cons_append, List.nil_append, List.append_nil, List.getElem?_cons_succ, List.getElem?_cons_zero, kcD, Nat.reduceAdd, Nat.reduceSub, br_t, br_f, br_n, asg, setAll, List.set_cons_succ, List.set_cons_zero, tgs, wipe, eq_ii, ne_ii, lt_ii, le_ii, gt_ii, ge_ii, is_n, isn_n, is_b, isn_b, add_ii, sub_ii, mul_ii, mod_ii, fdiv_ii, pow_ii, isNon, biD, intD_i, intD_b, esLen, beq_self_eq_true, ixD_tup, lsOf_new, seqD_tup, seqD_fl, slD_tup, bools, Option.map_some, true_and, ixD_fl, lenD_tup, lenD_fl, ix30, ix31, ix32, at20, at21, at30, at31, at32, List.filterMap_cons, List.filterMap_nil, abs_ite]
  have g0 := gcd_pos (t := t) hp
  have g1 := gcd_le (t := t) hp
  have hs : smd ((Int.gcd t b2 : Nat) : Int) := smd_of 8000 (by decide) (by
    have : b2.natAbs < 2 ^ 8000 := hb2
    omega)
  refine euclid (mk := fun u v => [some (.int t), some (.int b2), some (.int (u : Int)), some (.int (v : Int))]) (g := Int.gcd t b2) (fun u nx e => ?_) (fun u v nx hv k => ?_) _ _ _ (Nat.le_refl _) rfl
  · subst e
    simp only [wpSs, wpS, wpE, wpEs, wpC, wpAnd, wpOr, wpO, wpIt, opt_some, onI_int, onB_bl, onR_ref, arg1_one, look, joinO, start, List.map_cons, List.map_nil, List.length_cons, List.length_nil, List.replicate, List.cons_append, List.nil_append, List.append_nil, List.getElem?_cons_succ, List.getElem?_cons_zero, kcD, Nat.reduceAdd, Nat.reduceSub, br_t, br_f, br_n, asg, setAll, List.set_cons_succ, List.set_cons_zero, tgs, wipe, eq_ii, ne_ii, lt_ii, le_ii, gt_ii, ge_ii, is_n, isn_n, is_b, isn_b, add_ii, sub_ii, mul_ii, mod_ii, fdiv_ii, pow_ii, isNon, biD, intD_i, intD_b, esLen, beq_self_eq_true, ixD_tup, lsOf_new, seqD_tup, seqD_fl, slD_tup, bools, Option.map_some, true_and, ixD_fl, lenD_tup, lenD_fl, ix30, ix31, ix32, at20, at21, at30, at31, at32, List.filterMap_cons, List.filterMap_nil, fdiv_pos g0, Int.natCast_zero]
    first
      | exact br_d (fun _ => ⟨by omega, hs, by omega, hs, len_lim (by decide), hq⟩) fun hn => absurd hp hn
  · have hb : ((v : Int) == 0) = false := by simp; omega
    have hf : Int.fmod (u : Int) (v : Int) = ((u % v : Nat) : Int) := by rw [fmod_pos (by omega)]; rfl
    simp only [wpSs, wpS, wpE, wpEs, wpC, wpAnd, wpOr, wpO, wpIt, opt_some, onI_int, onB_bl, onR_ref, arg1_one, look, joinO, start, List.map_cons, List.map_nil, List.length_cons, List.length_nil, List.replicate, List.cons_append, List.nil_append, List.append_nil, List.getElem?_cons_succ, List.getElem?_cons_zero, kcD, Nat.reduceAdd, Nat.reduceSub, br_t, br_f, br_n, asg, setAll, List.set_cons_succ, List.set_cons_zero, tgs, wipe, eq_ii, ne_ii, lt_ii, le_ii, gt_ii, ge_ii, is_n, isn_n, is_b, isn_b, add_ii, sub_ii, mul_ii, mod_ii, fdiv_ii, pow_ii, isNon, biD, intD_i, intD_b, esLen, beq_self_eq_true, ixD_tup, lsOf_new, seqD_tup, seqD_fl, slD_tup, bools, Option.map_some, true_and, ixD_fl, lenD_tup, lenD_fl, ix30, ix31, ix32, at20, at21, at30, at31, at32, List.filterMap_cons, List.filterMap_nil, hb, hf]
    first
      | exact ⟨by omega, k⟩
/-- _law_times(part, factor) -/
def spTimes : Sp := fun ds S Q _ => ∃ t b f, ds = [prD t b, .int f] ∧ 0 < b ∧ Bd 8000 b ∧ sm t ∧ sm f ∧ Q (low (t * f) b) S
/-- of one shape and value: numbers, tuples, lists -/
def Sm : Nat → Sto → D → D → Prop
  | 0, _, _, _ => False
  | m + 1, S, v, u => (match v, u with
    | .int i, .int j => i = j
    | .bl i, .bl j => i = j
    | .non, .non => True
    | .str i, .str j => i = j
    | .tup xs, .tup ys => xs = ys ∧ xs.length ≤ 1000 ∧ ∀ y ∈ xs, Sm m S y y
    | .ref a, .ref b => ∃ xs, S a = some (.lst xs) ∧ S b = some (.lst xs) ∧ xs.length ≤ 1000 ∧ ∀ y ∈ xs, Sm m S y y
    | _, _ => False)
theorem Sm.ext {S S' : Sto} (k : Ext S S') : ∀ {m : Nat} {v u : D}, Sm m S v u → Sm m S' v u
  | 0, _, _, h => h
  | m + 1, v, u, h => by
    unfold Sm at h ⊢
    split at h
    · exact h
    · exact h
    · exact h
    · exact h
    · exact ⟨h.1, h.2.1, fun y hy => (h.2.2 y hy).ext k⟩
    · obtain ⟨xs, e1, e2, hl, h⟩ := h
      exact ⟨xs, k _ _ e1, k _ _ e2, hl, fun y hy => (h y hy).ext k⟩
    · exact False.elim h
def spSame (m : Nat) : Sp := fun ds S Q _ => ∃ v u, ds = [v, u] ∧ Sm m S v u ∧ ∀ S', Ext S S' → Q (.bl true) S'
theorem compW_drop {chk : Sto → Prop} {step : D → Sto → (Option D → Sto → Prop) → Prop} {Q : VK} {S0 : Sto} (hc : ∀ S, Ext S0 S → chk S) : ∀ {xs acc : List D} {S : Sto}, Ext S0 S → (∀ d ∈ xs, ∀ (S : Sto) (k : Option D → Sto → Prop), Ext S0 S → (∀ S', Ext S S' → k none S') → step d S k) →
    (∀ p S, Ext S0 S → S p = none → Q (.ref p) (upd S p (.lst acc))) → compW chk step Q xs acc S
  | [], acc, S, e, _, h => ⟨hc S e, fun p hp => h p S e hp⟩
  | x :: xs, acc, S, e, hs, h => ⟨hc S e, hs x (by simp) S _ e fun S' e' => by
      simp only [Option.toList, List.append_nil]
      exact compW_drop hc (e.trans e') (fun d hd => hs d (by simp [hd])) h⟩
theorem eq_bb {a b : Bool} {S : Sto} {Q : Bool → Prop} : cmpD .eq (.bl a) (.bl b) S Q ↔ Q (a == b) := by simp [cmpD, fit, eqB]
theorem ne_bb {a b : Bool} {S : Sto} {Q : Bool → Prop} : cmpD .ne (.bl a) (.bl b) S Q ↔ Q (!(a == b)) := by simp [cmpD, fit, eqB]
theorem txt_same {G : Gm} {ds : List D} {S0 : Sto} {Q : VK} {X : XK} {b : Ss} (m : Nat) (hb : b = (.cons (.if_ (.or (.isi (.v 0) .bool) (.cons (.isi (.v 1) .bool) .nil)) (.cons (.ret (.and (.isi (.v 0) .bool) (.cons (.isi (.v 1) .bool) (.cons (.cmp .eq (.v 0) (.v 1)) .nil)))) .nil) .nil) (.cons (.if_ (.cmp .ne (.isi (.v 0) .list) (.isi (.v 1) .list)) (.cons (.ret (.k (.bl false))) .nil) .nil) (.cons (.if_ (.and (.isi2 (.v 0) .list .tuple) (.cons (.isi2 (.v 1) .list .tuple) .nil)) (.cons (.if_ (.cmp .ne (.bi .len (.cons (.v 0) .nil)) (.bi .len (.cons (.v 1) .nil))) (.cons (.ret (.k (.bl false))) .nil) .nil) (.cons (.ret (.cmp .eq (.comp (.v 2) (.v 2) (.rng (.bi .len (.cons (.v 1) .nil))) (.some (.not (.call 43 (.cons (.ix (.v 0) (.v 2)) (.cons (.ix (.v 1) (.v 2)) .nil)))))) (.lst .nil))) .nil)) .nil) (.cons (.ret (.and (.cmp .eq (.v 0) (.v 1)) (.cons (.cmp .eq (.isi (.v 0) .int) (.isi (.v 1) .int)) .nil))) .nil))))) (hr : G.fn 43 = spSame m) (h : spSame (m + 1) ds S0 Q X) : ds.length = 2 ∧ wpSs G b (start 3 ds) S0 (kR Q X) := by
  obtain ⟨v, u, rfl, hs, hq⟩ := h
  subst hb
  refine ⟨rfl, ?_⟩
  unfold Sm at hs
  split at hs
  · rename_i i j
    subst hs
    have t1 : isTy S0 (.int i) .bool = some false := rfl
    have t2 : isTy S0 (.int i) .int = some true := rfl
    have t3 : isTy S0 (.int i) .list = some false := rfl
    have t4 : isTy S0 (.int i) .tuple = some false := rfl
    simp only [wpSs, wpS, wpE, wpEs, wpC, wpAnd, wpOr, wpO, wpIt, opt_some, onI_int, onB_bl, onR_ref, arg1_one, look, joinO, start, List.map_cons, List.map_nil, List.length_cons, List.length_nil, List.replicate, List.cons_append, List.nil_append, List.append_nil, List.getElem?_cons_succ, List.getElem?_cons_zero, kcD, Nat.reduceAdd, Nat.reduceSub, br_t, br_f, br_n, asg, setAll, List.set_cons_succ, List.set_cons_zero, tgs, wipe, eq_ii, ne_ii, lt_ii, le_ii, gt_ii, ge_ii, is_n, isn_n, is_b, isn_b, add_ii, sub_ii, mul_ii, mod_ii, fdiv_ii, pow_ii, isNon, biD, intD_i, intD_b, esLen, beq_self_eq_true, ixD_tup, lsOf_new, seqD_tup, seqD_fl, slD_tup, bools, Option.map_some, true_and, ixD_fl, lenD_tup, lenD_fl, ix30, ix31, ix32, at20, at21, at30, at31, at32, List.filterMap_cons, List.filterMap_nil, t1, t2, t3, t4, eq_bb, ne_bb, Bool.or_false, Bool.not_true]
    exact hq S0 Ext.refl
  · rename_i i j
    subst hs
    have t1 : isTy S0 (.bl i) .bool = some true := rfl
    simp only [wpSs, wpS, wpE, wpEs, wpC, wpAnd, wpOr, wpO, wpIt, opt_some, onI_int, onB_bl, onR_ref, arg1_one, look, joinO, start, List.map_cons, List.map_nil, List.length_cons, List.length_nil, List.replicate, List.cons_append, List.nil_append, List.append_nil, List.getElem?_cons_succ, List.getElem?_cons_zero, kcD, Nat.reduceAdd, Nat.reduceSub, br_t, br_f, br_n, asg, setAll, List.set_cons_succ, List.set_cons_zero, tgs, wipe, eq_ii, ne_ii, lt_ii, le_ii, gt_ii, ge_ii, is_n, isn_n, is_b, isn_b, add_ii, sub_ii, mul_ii, mod_ii, fdiv_ii, pow_ii, isNon, biD, intD_i, intD_b, esLen, beq_self_eq_true, ixD_tup, lsOf_new, seqD_tup, seqD_fl, slD_tup, bools, Option.map_some, true_and, ixD_fl, lenD_tup, lenD_fl, ix30, ix31, ix32, at20, at21, at30, at31, at32, List.filterMap_cons, List.filterMap_nil, t1, eq_bb]
    exact hq S0 Ext.refl
  · have t1 : isTy S0 .non .bool = some false := rfl
    have t2 : isTy S0 .non .int = some false := rfl
    have t3 : isTy S0 .non .list = some false := rfl
    have t4 : isTy S0 .non .tuple = some false := rfl
    simp only [wpSs, wpS, wpE, wpEs, wpC, wpAnd, wpOr, wpO, wpIt, opt_some, onI_int, onB_bl, onR_ref, arg1_one, look, joinO, start, List.map_cons, List.map_nil, List.length_cons, List.length_nil, List.replicate, List.cons_append, List.nil_append, List.append_nil, List.getElem?_cons_succ, List.getElem?_cons_zero, kcD, Nat.reduceAdd, Nat.reduceSub, br_t, br_f, br_n, asg, setAll, List.set_cons_succ, List.set_cons_zero, tgs, wipe, eq_ii, ne_ii, lt_ii, le_ii, gt_ii, ge_ii, is_n, isn_n, is_b, isn_b, add_ii, sub_ii, mul_ii, mod_ii, fdiv_ii, pow_ii, isNon, biD, intD_i, intD_b, esLen, beq_self_eq_true, ixD_tup, lsOf_new, seqD_tup, seqD_fl, slD_tup, bools, Option.map_some, true_and, ixD_fl, lenD_tup, lenD_fl, ix30, ix31, ix32, at20, at21, at30, at31, at32, List.filterMap_cons, List.filterMap_nil, t1, t2, t3, t4, eq_bb, ne_bb, Bool.or_false, Bool.not_true]
    refine ⟨rfl, rfl, ?_⟩
    show br true _ _
    simp only [wpSs, wpS, wpE, wpEs, wpC, wpAnd, wpOr, wpO, wpIt, opt_some, onI_int, onB_bl, onR_ref, arg1_one, look, joinO, start, List.map_cons, List.map_nil, List.length_cons, List.length_nil, List.replicate, List.cons_append, List.nil_append, List.append_nil, List.getElem?_cons_succ, List.getElem?_cons_zero, kcD, Nat.reduceAdd, Nat.reduceSub, br_t, br_f, br_n, asg, setAll, List.set_cons_succ, List.set_cons_zero, tgs, wipe, eq_ii, ne_ii, lt_ii, le_ii, gt_ii, ge_ii, is_n, isn_n, is_b, isn_b, add_ii, sub_ii, mul_ii, mod_ii, fdiv_ii, pow_ii, isNon, biD, intD_i, intD_b, esLen, beq_self_eq_true, ixD_tup, lsOf_new, seqD_tup, seqD_fl, slD_tup, bools, Option.map_some, true_and, ixD_fl, lenD_tup, lenD_fl, ix30, ix31, ix32, at20, at21, at30, at31, at32, List.filterMap_cons, List.filterMap_nil, t2, eq_bb]
    exact hq S0 Ext.refl
  · rename_i x y
    subst hs
    have t1 : isTy S0 (.str x) .bool = some false := rfl
    have t2 : isTy S0 (.str x) .int = some false := rfl
    have t3 : isTy S0 (.str x) .list = some false := rfl
    have t4 : isTy S0 (.str x) .tuple = some false := rfl
    have es : ∀ {R : Bool → Prop}, cmpD .eq (.str x) (.str x) S0 R = R (x == x) := rfl
    simp only [wpSs, wpS, wpE, wpEs, wpC, wpAnd, wpOr, wpO, wpIt, opt_some, onI_int, onB_bl, onR_ref, arg1_one, look, joinO, start, List.map_cons, List.map_nil, List.length_cons, List.length_nil, List.replicate, List.cons_append, List.nil_append, List.append_nil, List.getElem?_cons_succ, List.getElem?_cons_zero, kcD, Nat.reduceAdd, Nat.reduceSub, br_t, br_f, br_n, asg, setAll, List.set_cons_succ, List.set_cons_zero, tgs, wipe, eq_ii, ne_ii, lt_ii, le_ii, gt_ii, ge_ii, is_n, isn_n, is_b, isn_b, add_ii, sub_ii, mul_ii, mod_ii, fdiv_ii, pow_ii, isNon, biD, intD_i, intD_b, esLen, beq_self_eq_true, ixD_tup, lsOf_new, seqD_tup, seqD_fl, slD_tup, bools, Option.map_some, true_and, ixD_fl, lenD_tup, lenD_fl, ix30, ix31, ix32, at20, at21, at30, at31, at32, List.filterMap_cons, List.filterMap_nil, t1, t2, t3, t4, eq_bb, ne_bb, es, Bool.or_false, Bool.not_true]
    exact hq S0 Ext.refl
  · rename_i xs ys
    obtain ⟨rfl, hl, he⟩ := hs
    have t1 : isTy S0 (.tup xs) .bool = some false := rfl
    have t3 : isTy S0 (.tup xs) .list = some false := rfl
    have t4 : isTy S0 (.tup xs) .tuple = some true := rfl
    simp only [wpSs, wpS, wpE, wpEs, wpC, wpAnd, wpOr, wpO, wpIt, opt_some, onI_int, onB_bl, onR_ref, arg1_one, look, joinO, start, List.map_cons, List.map_nil, List.length_cons, List.length_nil, List.replicate, List.cons_append, List.nil_append, List.append_nil, List.getElem?_cons_succ, List.getElem?_cons_zero, kcD, Nat.reduceAdd, Nat.reduceSub, br_t, br_f, br_n, asg, setAll, List.set_cons_succ, List.set_cons_zero, tgs, wipe, eq_ii, ne_ii, lt_ii, le_ii, gt_ii, ge_ii, is_n, isn_n, is_b, isn_b, add_ii, sub_ii, mul_ii, mod_ii, fdiv_ii, pow_ii, isNon, biD, intD_i, intD_b, esLen, beq_self_eq_true, ixD_tup, lsOf_new, seqD_tup, seqD_fl, slD_tup, bools, Option.map_some, true_and, ixD_fl, lenD_tup, lenD_fl, ix30, ix31, ix32, at20, at21, at30, at31, at32, List.filterMap_cons, List.filterMap_nil, t1, t3, t4, eq_bb, ne_bb, Bool.or_true, Bool.false_or, Bool.not_true]
    refine ⟨by omega, by omega, by omega, by omega, len_lim (by simpa using hl), ?_⟩
    refine compW_drop (S0 := S0) (fun _ _ => trivial) Ext.refl (fun d hd S k e kk => ?_) fun p S e hp => ?_
    · obtain ⟨i, hi, rfl⟩ := List.mem_map.mp hd
      have hi := List.mem_range.mp hi
      obtain ⟨y, hy, ey⟩ := at_some (xs := xs) (i := 0 + (i : Int)) (by omega) (by omega)
      simp only [wpSs, wpS, wpE, wpEs, wpC, wpAnd, wpOr, wpO, wpIt, opt_some, onI_int, onB_bl, onR_ref, arg1_one, look, joinO, start, List.map_cons, List.map_nil, List.length_cons, List.length_nil, List.replicate, List.cons_append, List.nil_append, List.append_nil, List.getElem?_cons_succ, List.getElem?_cons_zero, kcD, Nat.reduceAdd, Nat.reduceSub, br_t, br_f, br_n, asg, setAll, List.set_cons_succ, List.set_cons_zero, tgs, wipe, eq_ii, ne_ii, lt_ii, le_ii, gt_ii, ge_ii, is_n, isn_n, is_b, isn_b, add_ii, sub_ii, mul_ii, mod_ii, fdiv_ii, pow_ii, isNon, biD, intD_i, intD_b, esLen, beq_self_eq_true, ixD_tup, lsOf_new, seqD_tup, seqD_fl, slD_tup, bools, Option.map_some, true_and, ixD_fl, lenD_tup, lenD_fl, ix30, ix31, ix32, at20, at21, at30, at31, at32, List.filterMap_cons, List.filterMap_nil, ey]
      refine call hr ⟨y, y, rfl, (he y hy).ext e, fun S' e' => ?_⟩
      simp only [wpSs, wpS, wpE, wpEs, wpC, wpAnd, wpOr, wpO, wpIt, opt_some, onI_int, onB_bl, onR_ref, arg1_one, look, joinO, start, List.map_cons, List.map_nil, List.length_cons, List.length_nil, List.replicate, List.cons_append, List.nil_append, List.append_nil, List.getElem?_cons_succ, List.getElem?_cons_zero, kcD, Nat.reduceAdd, Nat.reduceSub, br_t, br_f, br_n, asg, setAll, List.set_cons_succ, List.set_cons_zero, tgs, wipe, eq_ii, ne_ii, lt_ii, le_ii, gt_ii, ge_ii, is_n, isn_n, is_b, isn_b, add_ii, sub_ii, mul_ii, mod_ii, fdiv_ii, pow_ii, isNon, biD, intD_i, intD_b, esLen, beq_self_eq_true, ixD_tup, lsOf_new, seqD_tup, seqD_fl, slD_tup, bools, Option.map_some, true_and, ixD_fl, lenD_tup, lenD_fl, ix30, ix31, ix32, at20, at21, at30, at31, at32, List.filterMap_cons, List.filterMap_nil]
      exact kk S' e'
    · refine mkL_ok (by simp) fun p2 hp2 => ?_
      have hne : p ≠ p2 := ne_new upd_at hp2
      exact eq_nil (ys := []) (by rw [upd_off hne, upd_at]) upd_at rfl (hq _ (e.trans ((Ext.new hp).trans (Ext.new hp2))))
  · rename_i a b
    obtain ⟨xs, e1, e2, hl, he⟩ := hs
    have ty : ∀ c, S0 c = some (.lst xs) → isTy S0 (.ref c) .bool = some false ∧ isTy S0 (.ref c) .list = some true ∧ isTy S0 (.ref c) .tuple = some false := fun c e => by
      refine ⟨?_, ?_, ?_⟩ <;> (show tyO (S0 c) _ = _; rw [e]; rfl)
    obtain ⟨t1, t3, t4⟩ := ty a e1
    obtain ⟨u1, u3, u4⟩ := ty b e2
    simp only [wpSs, wpS, wpE, wpEs, wpC, wpAnd, wpOr, wpO, wpIt, opt_some, onI_int, onB_bl, onR_ref, arg1_one, look, joinO, start, List.map_cons, List.map_nil, List.length_cons, List.length_nil, List.replicate, List.cons_append, List.nil_append, List.append_nil, List.getElem?_cons_succ, List.getElem?_cons_zero, kcD, Nat.reduceAdd, Nat.reduceSub, br_t, br_f, br_n, asg, setAll, List.set_cons_succ, List.set_cons_zero, tgs, wipe, eq_ii, ne_ii, lt_ii, le_ii, gt_ii, ge_ii, is_n, isn_n, is_b, isn_b, add_ii, sub_ii, mul_ii, mod_ii, fdiv_ii, pow_ii, isNon, biD, intD_i, intD_b, esLen, beq_self_eq_true, ixD_tup, lsOf_new, seqD_tup, seqD_fl, slD_tup, bools, Option.map_some, true_and, ixD_fl, lenD_tup, lenD_fl, ix30, ix31, ix32, at20, at21, at30, at31, at32, List.filterMap_cons, List.filterMap_nil, t1, t3, t4, u1, u3, u4, eq_bb, ne_bb, Bool.or_true, Bool.true_or, Bool.false_or, Bool.not_true, lenD_ref e1, lenD_ref e2]
    refine ⟨by omega, by omega, by omega, by omega, len_lim (by simpa using hl), ?_⟩
    refine compW_drop (S0 := S0) (fun _ _ => trivial) Ext.refl (fun d hd S k e kk => ?_) fun p S e hp => ?_
    · obtain ⟨i, hi, rfl⟩ := List.mem_map.mp hd
      have hi := List.mem_range.mp hi
      obtain ⟨y, hy, ey⟩ := at_some (xs := xs) (i := 0 + (i : Int)) (by omega) (by omega)
      simp only [wpSs, wpS, wpE, wpEs, wpC, wpAnd, wpOr, wpO, wpIt, opt_some, onI_int, onB_bl, onR_ref, arg1_one, look, joinO, start, List.map_cons, List.map_nil, List.length_cons, List.length_nil, List.replicate, List.cons_append, List.nil_append, List.append_nil, List.getElem?_cons_succ, List.getElem?_cons_zero, kcD, Nat.reduceAdd, Nat.reduceSub, br_t, br_f, br_n, asg, setAll, List.set_cons_succ, List.set_cons_zero, tgs, wipe, eq_ii, ne_ii, lt_ii, le_ii, gt_ii, ge_ii, is_n, isn_n, is_b, isn_b, add_ii, sub_ii, mul_ii, mod_ii, fdiv_ii, pow_ii, isNon, biD, intD_i, intD_b, esLen, beq_self_eq_true, ixD_tup, lsOf_new, seqD_tup, seqD_fl, slD_tup, bools, Option.map_some, true_and, ixD_fl, lenD_tup, lenD_fl, ix30, ix31, ix32, at20, at21, at30, at31, at32, List.filterMap_cons, List.filterMap_nil, ixD_ref (e _ _ e1), ixD_ref (e _ _ e2), ey]
      refine call hr ⟨y, y, rfl, (he y hy).ext e, fun S' e' => ?_⟩
      simp only [wpSs, wpS, wpE, wpEs, wpC, wpAnd, wpOr, wpO, wpIt, opt_some, onI_int, onB_bl, onR_ref, arg1_one, look, joinO, start, List.map_cons, List.map_nil, List.length_cons, List.length_nil, List.replicate, List.cons_append, List.nil_append, List.append_nil, List.getElem?_cons_succ, List.getElem?_cons_zero, kcD, Nat.reduceAdd, Nat.reduceSub, br_t, br_f, br_n, asg, setAll, List.set_cons_succ, List.set_cons_zero, tgs, wipe, eq_ii, ne_ii, lt_ii, le_ii, gt_ii, ge_ii, is_n, isn_n, is_b, isn_b, add_ii, sub_ii, mul_ii, mod_ii, fdiv_ii, pow_ii, isNon, biD, intD_i, intD_b, esLen, beq_self_eq_true, ixD_tup, lsOf_new, seqD_tup, seqD_fl, slD_tup, bools, Option.map_some, true_and, ixD_fl, lenD_tup, lenD_fl, ix30, ix31, ix32, at20, at21, at30, at31, at32, List.filterMap_cons, List.filterMap_nil]
      exact kk S' e'
    · refine mkL_ok (by simp) fun p2 hp2 => ?_
      have hne : p ≠ p2 := ne_new upd_at hp2
      exact eq_nil (ys := []) (by rw [upd_off hne, upd_at]) upd_at rfl (hq _ (e.trans ((Ext.new hp).trans (Ext.new hp2))))
  · exact False.elim hs
end M
namespace M
theorem low_scale {k u v : Int} (hk : 0 < k) : low (k * u) (k * v) = low u v := by
  have e : ((Int.gcd (k * u) (k * v) : Nat) : Int) = k * ((Int.gcd u v : Nat) : Int) := by
    rw [Int.gcd_mul_left]
    have : ((k.natAbs : Nat) : Int) = k := by omega
    rw [Int.natCast_mul, this]
  unfold low
  rw [e, Int.mul_ediv_mul_of_pos _ _ hk, Int.mul_ediv_mul_of_pos _ _ hk]
theorem fold_scale {k s t b s' t' b' f : Int} (hk : 0 < k) (hf : 0 < f) (ht : k * t' = f * t) (hb : k * (s' * b') = f * (s * b)) : k * foldT s' t' b' = f * foldT s t b := by
  have hm : k * (2 * s' * b') = f * (2 * s * b) := by
    have e1 : k * (2 * s' * b') = 2 * (k * (s' * b')) := by rw [Int.mul_assoc 2 s' b', ← Int.mul_assoc, Int.mul_comm k 2, Int.mul_assoc]
    have e2 : f * (2 * s * b) = 2 * (f * (s * b)) := by rw [Int.mul_assoc 2 s b, ← Int.mul_assoc, Int.mul_comm f 2, Int.mul_assoc]
    rw [e1, e2, hb]
  have hr : k * (t' % (2 * s' * b')) = f * (t % (2 * s * b)) := by
    rw [← Int.mul_emod_mul_of_pos _ _ hk, ht, hm, Int.mul_emod_mul_of_pos _ _ hf]
  unfold foldT
  generalize 2 * s' * b' = M' at *
  generalize 2 * s * b = M0 at *
  generalize t' % M' = r' at *
  generalize t % M0 = r at *
  have c : M' - r' < r' ↔ M0 - r < r := by
    have h1 : k * (M' - r') = f * (M0 - r) := by rw [Int.mul_sub, Int.mul_sub, hm, hr]
    constructor
    · intro h
      have : k * (M' - r') < k * r' := Int.mul_lt_mul_of_pos_left h hk
      rw [h1, hr] at this
      exact Int.lt_of_mul_lt_mul_left this (Int.le_of_lt hf)
    · intro h
      have : f * (M0 - r) < f * r := Int.mul_lt_mul_of_pos_left h hf
      rw [← h1, ← hr] at this
      exact Int.lt_of_mul_lt_mul_left this (Int.le_of_lt hk)
  by_cases h : M0 - r < r
  · rw [if_pos h, if_pos (c.mpr h), Int.mul_sub, Int.mul_sub, hm, hr]
  · rw [if_neg h, if_neg (fun z => h (c.mp z)), hr]
theorem way_scale {k s t b s' t' b' f d : Int} (hk : 0 < k) (hf : 0 < f) (ht : k * t' = f * t) (hb : k * (s' * b') = f * (s * b)) : wayN s' t' b' d = wayN s t b d := by
  have h1 : t' / (s' * b') = t / (s * b) := by rw [← Int.mul_ediv_mul_of_pos _ _ hk, ht, hb, Int.mul_ediv_mul_of_pos _ _ hf]
  have h2 : (-t') / (s' * b') = (-t) / (s * b) := by
    rw [← Int.mul_ediv_mul_of_pos _ _ hk, Int.mul_neg, ht, hb, ← Int.mul_neg, Int.mul_ediv_mul_of_pos _ _ hf]
  unfold wayN cellN
  rw [h1, h2]
theorem mul_ref {S : Sto} {a : Nat} {xs : List D} {k : Int} (ha : S a = some (.lst xs)) (h0 : 0 ≤ k) (h1 : k < 1000) {Q : VK} (q : mkL ((List.replicate k.toNat xs).flatten) S Q) : binD .mul (.ref a) (.int k) S Q := by
  show opt (lstAt S a) _
  rw [lstAt_eq ha]
  exact ⟨h0, h1, q⟩
/-- nested tuples of numbers -/
def IntT : Nat → D → Prop
  | 0, _ => False
  | _ + 1, .int _ => True
  | n + 1, .tup xs => ∀ y ∈ xs, IntT n y
  | _ + 1, _ => False
theorem IntT.fit {S : Sto} : ∀ {n : Nat} {v : D}, IntT n v → M.fit n S v = true
  | 0, _, h => False.elim h
  | n + 1, v, h => by
    cases v with
    | int i => rfl
    | tup xs => exact fitL_of fun y hy => (h y hy).fit
    | _ => exact False.elim h
theorem eqLB_refl {eq : D → D → Bool} : ∀ {xs : List D}, (∀ y ∈ xs, eq y y = true) → eqLB eq xs xs = true
  | [], _ => rfl
  | x :: xs, h => by
    show (eq x x && eqLB eq xs xs) = true
    rw [h x (by simp), eqLB_refl fun y hy => h y (by simp [hy])]
    rfl
theorem IntT.eq {S : Sto} : ∀ {n : Nat} {v : D}, IntT n v → eqB n S v v = true
  | 0, _, h => False.elim h
  | n + 1, v, h => by
    cases v with
    | int i => show (i == i) = true; simp
    | tup xs => exact eqLB_refl fun y hy => (h y hy).eq
    | _ => exact False.elim h
theorem cmp_not_str {v : D} (h : IntT 8 v) {S : Sto} {Q : Bool → Prop} (k : fit dep S v = true ∧ fit dep S v = true ∧ Q (eqB dep S v v)) : cmpD .eq v v S Q := by
  cases v <;> first | exact k | exact False.elim h
theorem eq_self' {v : D} {S : Sto} {Q : Bool → Prop} (h : IntT 8 v) (k : Q true) : cmpD .eq v v S Q := cmp_not_str h ⟨h.fit, h.fit, by rw [h.eq]; exact k⟩
theorem ne_self' {v : D} {S : Sto} {Q : Bool → Prop} (h : IntT 8 v) (k : Q false) : cmpD .ne v v S Q := by
  have k : fit dep S v = true ∧ fit dep S v = true ∧ Q (!eqB dep S v v) := ⟨h.fit, h.fit, by rw [h.eq]; exact k⟩
  cases v <;> first | exact k | exact False.elim h
theorem it_pr {n : Nat} {x y : Int} : IntT (n + 2) (prD x y) := fun z hz => by
  simp only [List.mem_cons, List.not_mem_nil, or_false] at hz
  rcases hz with rfl | rfl <;> trivial
theorem it_sh {n : Nat} {x y p q : Int} : IntT (n + 2) (shD x y p q) := fun z hz => by
  simp only [List.mem_cons, List.not_mem_nil, or_false] at hz
  rcases hz with rfl | rfl | rfl | rfl <;> trivial
theorem it_pair {n : Nat} {u v : D} (h1 : IntT n u) (h2 : IntT n v) : IntT (n + 1) (.tup [u, v]) := fun z hz => by
  simp only [List.mem_cons, List.not_mem_nil, or_false] at hz
  rcases hz with rfl | rfl
  · exact h1
  · exact h2
theorem it_place {a c x y p q t b : Int} : IntT 8 (placeD a c x y p q t b) := it_pair it_pr it_pr
theorem it_ways {a c x y p q t b : Int} : IntT 8 (waysD a c x y p q t b) := it_pr
theorem IntT.sm {S : Sto} : ∀ {n : Nat} {v : D}, IntT n v → (∀ xs, v = .tup xs → xs.length ≤ 1000) → (∀ xs, v = .tup xs → ∀ y ∈ xs, Sm (n - 1) S y y) → Sm n S v v
  | 0, _, h, _, _ => False.elim h
  | n + 1, v, h, hl, hs => by
    cases v with
    | int i => exact (rfl : i = i)
    | tup xs => exact ⟨rfl, hl xs rfl, hs xs rfl⟩
    | _ => exact False.elim h
theorem sm_int {m : Nat} {S : Sto} {i : Int} : Sm (m + 1) S (.int i) (.int i) := (rfl : i = i)
theorem sm_sh {m : Nat} {S : Sto} {x y p q : Int} : Sm (m + 2) S (shD x y p q) (shD x y p q) := ⟨rfl, by simp, fun z hz => by
  simp only [List.mem_cons, List.not_mem_nil, or_false] at hz
  rcases hz with rfl | rfl | rfl | rfl <;> exact sm_int⟩
theorem sm_pr {m : Nat} {S : Sto} {x y : Int} : Sm (m + 2) S (prD x y) (prD x y) := ⟨rfl, by simp, fun z hz => by
  simp only [List.mem_cons, List.not_mem_nil, or_false] at hz
  rcases hz with rfl | rfl <;> exact sm_int⟩
theorem sm_pair {m : Nat} {S : Sto} {u v : D} (h1 : Sm m S u u) (h2 : Sm m S v v) : Sm (m + 1) S (.tup [u, v]) (.tup [u, v]) := ⟨rfl, by simp, fun z hz => by
  simp only [List.mem_cons, List.not_mem_nil, or_false] at hz
  rcases hz with rfl | rfl
  · exact h1
  · exact h2⟩
/-- two lists of the same two -/
theorem sm_lists {m : Nat} {S : Sto} {p q : Nat} {v : D} (hp : S p = some (.lst [v, v])) (hq : S q = some (.lst [v, v])) (h : Sm m S v v) : Sm (m + 1) S (.ref p) (.ref q) := ⟨[v, v], hp, hq, by simp, fun y hy => by
  simp only [List.mem_cons, List.not_mem_nil, or_false, or_self] at hy
  subst hy; exact h⟩
abbrev spSm : Sp := fun ds S Q X => ∃ m, m < 12 ∧ spSame m ds S Q X
theorem roll_neg {a c x y p q : Int} (h : rollB a c (shD x y p q) = true) : rollB a c (shD x y (-p) (-q)) = true := by
  have e : ∀ p q : Int, rollB a c (shD x y p q) = ((decide (0 ≤ x) && decide (0 ≤ y) && !(p == 0 && q == 0)) && (decide (x ≤ a) && decide (y ≤ c))) := fun _ _ => rfl
  rw [e] at h ⊢
  have n : ∀ p : Int, ((-p) == 0) = (p == 0) := fun p => by
    by_cases hp : p = 0
    · subst hp; rfl
    · rw [beq_eq_false_iff_ne.mpr hp, beq_eq_false_iff_ne.mpr (by omega)]
  rw [n, n]; exact h
theorem roll_free {a c : Int} {v : D} (h : rollB a c v = true) : freeB v = true := by
  unfold rollB at h
  exact (Bool.and_eq_true_iff.mp h).1
theorem part_of {t b : Int} : partB (prD t b) = (decide (1 ≤ b) && (Int.gcd t b == 1)) := by
  show (true && (decide (1 ≤ b) && true) && (Int.gcd t b == 1)) = _
  simp
theorem Bd.neg {n : Nat} {i : Int} (h : Bd n i) : Bd n (-i) := by
  show (-i).natAbs < 2 ^ n
  rw [Int.natAbs_neg]; exact h
theorem On.turn {a c x y p q t b : Int} (k : On a c x y p q t b) : On a c x y (-p) (-q) t b := ⟨{ k.sh with bp := k.sh.bp.neg, bq := k.sh.bq.neg }, roll_neg k.on, k.fr⟩
theorem On.back {a c x y p q t b : Int} (k : On a c x y p q t b) : On a c x y p q (-t) b := ⟨{ k.sh with bt := k.sh.bt.neg }, k.on, by
  have h := k.fr
  rw [part_of] at h ⊢
  rw [Int.neg_gcd]; exact h⟩
/-- _law_turned_right(desk, shot, time) -/
def spTR : Sp := fun ds S Q _ => ∃ a c x y p q t b, ds = [prD a c, shD x y p q, prD t b] ∧ On a c x y p q t b ∧ ∀ S', Ext S S' → Q (.bl true) S'
/-- _law_crossed_right(desk, shot, time) -/
theorem roll_cross {a c x y p q : Int} (h : rollB a c (shD x y p q) = true) : rollB c a (shD y x q p) = true := by
  have e : ∀ a c x y p q : Int, rollB a c (shD x y p q) = ((decide (0 ≤ x) && decide (0 ≤ y) && !(p == 0 && q == 0)) && (decide (x ≤ a) && decide (y ≤ c))) := fun _ _ _ _ _ _ => rfl
  rw [e] at h ⊢
  simp only [Bool.and_eq_true, Bool.not_eq_true', Bool.and_eq_false_iff] at h ⊢
  obtain ⟨⟨⟨h1, h2⟩, h3⟩, h4, h5⟩ := h
  exact ⟨⟨⟨h2, h1⟩, h3.symm⟩, h5, h4⟩
theorem On.cross {a c x y p q t b : Int} (k : On a c x y p q t b) : On c a y x q p t b := ⟨⟨k.sh.c0, k.sh.a0, k.sh.b0, k.sh.bc, k.sh.ba, k.sh.by_, k.sh.bx, k.sh.bq, k.sh.bp, k.sh.bt, k.sh.bb⟩, roll_cross k.on, k.fr⟩
theorem rev2 {u v : D} {S : Sto} {Q : VK} : revD (.tup [u, v]) S Q = Q (.tup [v, u]) S := rfl
theorem at2 {u v : D} {S : Sto} {Q : VK} : ixD (.tup [u, v]) (.int 0) S Q = Q u S ∧ ixD (.tup [u, v]) (.int 1) S Q = Q v S := ⟨rfl, rfl⟩
/-- the scaled -/
theorem roll_scale {a c x y p q f : Int} (hf : 1 ≤ f) (h : rollB a c (shD x y p q) = true) : rollB (a * f) (c * f) (shD (x * f) (y * f) p q) = true := by
  have e : ∀ a c x y p q : Int, rollB a c (shD x y p q) = ((decide (0 ≤ x) && decide (0 ≤ y) && !(p == 0 && q == 0)) && (decide (x ≤ a) && decide (y ≤ c))) := fun _ _ _ _ _ _ => rfl
  rw [e] at h ⊢
  simp only [Bool.and_eq_true, decide_eq_true_eq] at h ⊢
  obtain ⟨⟨⟨h1, h2⟩, h3⟩, h4, h5⟩ := h
  have f0 : 0 ≤ f := by omega
  exact ⟨⟨⟨Int.mul_nonneg h1 f0, Int.mul_nonneg h2 f0⟩, h3⟩, Int.mul_le_mul_of_nonneg_right h4 f0, Int.mul_le_mul_of_nonneg_right h5 f0⟩
/-- tighter bounds, so that the scaled are in bounds -/
structure Tt (a c x y p q t b f : Int) : Prop where
  on : On a c x y p q t b
  f1 : 1 ≤ f
  ba : Bd 400 a
  bc : Bd 400 c
  bx : Bd 400 x
  by_ : Bd 400 y
  bt : Bd 400 t
  bf : Bd 400 f
theorem div_bd {n : Nat} {i j : Int} (h : Bd n i) : Bd n (i / j) := by
  show (i / j).natAbs < 2 ^ n
  exact Nat.lt_of_le_of_lt (Int.natAbs_ediv_le_natAbs i j) h
/-- the later time, its parts -/
def lt_ (t b f : Int) : Int := t * f / ((Int.gcd (t * f) b : Nat) : Int)
def lb_ (t b f : Int) : Int := b / ((Int.gcd (t * f) b : Nat) : Int)
theorem low_later {t b f : Int} : low (t * f) b = prD (lt_ t b f) (lb_ t b f) := rfl
theorem later_mul {t b f : Int} : ((Int.gcd (t * f) b : Nat) : Int) * lt_ t b f = t * f ∧ ((Int.gcd (t * f) b : Nat) : Int) * lb_ t b f = b := ⟨Int.mul_ediv_cancel' (Int.gcd_dvd_left ..), Int.mul_ediv_cancel' (Int.gcd_dvd_right ..)⟩
theorem Tt.scaled {a c x y p q t b f : Int} (k : Tt a c x y p q t b f) : On (a * f) (c * f) (x * f) (y * f) p q (lt_ t b f) (lb_ t b f) := by
  have b0 := k.on.sh.b0
  have g0 := gcd_pos (t := t * f) (b := b) (by omega)
  obtain ⟨m1, m2⟩ := later_mul (t := t) (b := b) (f := f)
  have pb : 0 < lb_ t b f := by
    refine Int.lt_of_mul_lt_mul_left (a := ((Int.gcd (t * f) b : Nat) : Int)) ?_ (Int.le_of_lt g0)
    rw [m2, Int.mul_zero]; omega
  have f0 : 0 < f := by have := k.f1; omega
  have pm : ∀ i : Int, 1 ≤ i → 1 ≤ i * f := fun i h => by have := mulp (a := i) (b := f) (by omega) f0; omega
  refine ⟨⟨pm a k.on.sh.a0, pm c k.on.sh.c0, by omega, (k.ba.mul k.bf).up (by decide), (k.bc.mul k.bf).up (by decide), (k.bx.mul k.bf).up (by decide), (k.by_.mul k.bf).up (by decide), k.on.sh.bp, k.on.sh.bq, (div_bd (k.bt.mul k.bf)).up (by decide), div_bd k.on.sh.bb⟩, roll_scale k.f1 k.on.on, ?_⟩
  rw [part_of]
  have e : Int.gcd (lt_ t b f) (lb_ t b f) = 1 := by
    have h := Int.gcd_mul_left (((Int.gcd (t * f) b : Nat) : Int)) (lt_ t b f) (lb_ t b f)
    rw [m1, m2] at h
    have g0' : 0 < Int.gcd (t * f) b := by omega
    rw [Int.natAbs_natCast] at h
    have : Int.gcd (t * f) b * 1 = Int.gcd (t * f) b * Int.gcd (lt_ t b f) (lb_ t b f) := by omega
    exact (Nat.eq_of_mul_eq_mul_left g0' this).symm
  rw [e, decide_eq_true (by omega)]
  rfl
theorem axis_scale {a x p t b f : Int} (hb : 0 < b) (hf : 0 < f) : ((Int.gcd (t * f) b : Nat) : Int) * (x * f * lb_ t b f + p * lt_ t b f) = f * (x * b + p * t) ∧ ((Int.gcd (t * f) b : Nat) : Int) * (a * f * lb_ t b f) = f * (a * b) := by
  obtain ⟨m1, m2⟩ := later_mul (t := t) (b := b) (f := f)
  generalize ((Int.gcd (t * f) b : Nat) : Int) = g at *
  generalize lt_ t b f = t' at *
  generalize lb_ t b f = b' at *
  constructor
  · have e1 : g * (x * f * b' + p * t') = x * f * (g * b') + p * (g * t') := by
      rw [Int.mul_add, Int.mul_left_comm, Int.mul_left_comm g p]
    rw [e1, m1, m2, Int.mul_add]
    congr 1
    · rw [Int.mul_comm x f, Int.mul_assoc]
    · rw [← Int.mul_assoc, Int.mul_comm]
  · rw [Int.mul_left_comm, m2, Int.mul_comm a f, Int.mul_assoc]
theorem low_axis {a x p t b f : Int} (hb : 0 < b) (hf : 0 < f) : low (foldT (a * f) (x * f * lb_ t b f + p * lt_ t b f) (lb_ t b f)) (lb_ t b f) = low (foldT a (x * b + p * t) b / ((Int.gcd (foldT a (x * b + p * t) b) b : Nat) : Int) * f) (b / ((Int.gcd (foldT a (x * b + p * t) b) b : Nat) : Int)) := by
  have g0 := gcd_pos (t := t * f) hb
  obtain ⟨m1, m2⟩ := later_mul (t := t) (b := b) (f := f)
  obtain ⟨s1, s2⟩ := axis_scale (a := a) (x := x) (p := p) (t := t) hb hf
  have h := fold_scale g0 hf s1 s2
  have g1 := gcd_pos (t := foldT a (x * b + p * t) b) hb
  rw [← low_scale (u := foldT (a * f) _ _) g0, h, m2, ← low_scale (u := _ / _ * f) g1]
  congr 1
  · rw [← Int.mul_assoc, Int.mul_ediv_cancel' (Int.gcd_dvd_left ..), Int.mul_comm]
  · rw [Int.mul_ediv_cancel' (Int.gcd_dvd_right ..)]
theorem ways_scale {a c x y p q t b f : Int} (hb : 0 < b) (hf : 0 < f) : waysD (a * f) (c * f) (x * f) (y * f) p q (lt_ t b f) (lb_ t b f) = waysD a c x y p q t b := by
  have g0 := gcd_pos (t := t * f) hb
  obtain ⟨s1, s2⟩ := axis_scale (a := a) (x := x) (p := p) (t := t) hb hf
  obtain ⟨s3, s4⟩ := axis_scale (a := c) (x := y) (p := q) (t := t) hb hf
  unfold waysD
  rw [way_scale g0 hf s1 s2, way_scale g0 hf s3 s4]
end M
namespace M
/-- a loop, by the places of what is walked -/
theorem forW_ix {chk : Sto → Prop} {step : D → Env → Sto → (Env → Sto → Prop) → Prop} {nx : Env → Sto → Prop} {I : Nat → Env → Sto → Prop} {L : List D} (hs : ∀ j d ρ S nx', L[j]? = some d → I j ρ S → (∀ ρ' S', I (j + 1) ρ' S' → nx' ρ' S') → chk S ∧ step d ρ S nx') (he : ∀ ρ S, I L.length ρ S → chk S ∧ nx ρ S) :
    ∀ (items : List D) (i : Nat) (ρ : Env) (S : Sto), items = L.drop i → i ≤ L.length → I i ρ S → forW chk step nx items ρ S
  | [], i, ρ, S, h, hi, hI => by
    have : i = L.length := by
      have := congrArg List.length h
      simp at this
      omega
    subst this
    exact he ρ S hI
  | d :: ds, i, ρ, S, h, hi, hI => by
    have hl : i < L.length := by
      have := congrArg List.length h
      simp at this
      omega
    have e1 : L.drop i = L[i] :: L.drop (i + 1) := List.drop_eq_getElem_cons hl
    rw [e1] at h
    injection h with h1 h2
    exact hs i d ρ S _ (by rw [h1]; exact List.getElem?_eq_getElem hl) hI fun ρ' S' h' => forW_ix hs he ds (i + 1) ρ' S' h2 (by omega) h'
theorem rng_at {lo : Int} {n j : Nat} {d : D} (h : ((List.range n).map fun i => D.int (lo + (i : Nat)))[j]? = some d) : d = .int (lo + (j : Nat)) ∧ j < n := by
  rw [List.getElem?_map] at h
  by_cases hj : j < n
  · rw [List.getElem?_range hj] at h
    injection h with h
    exact ⟨h.symm, hj⟩
  · rw [List.getElem?_eq_none (by simp; omega)] at h
    cases h
theorem rng_ok {chk : Sto → Prop} {step : D → Env → Sto → (Env → Sto → Prop) → Prop} {nx : Env → Sto → Prop} {lo hi : Int} {ρ : Env} {S : Sto} (I : Nat → Env → Sto → Prop) (h0 : I 0 ρ S) (hs : ∀ (j : Nat) ρ S nx', lo + j < hi → I j ρ S → (∀ ρ' S', I (j + 1) ρ' S' → nx' ρ' S') → chk S ∧ step (.int (lo + (j : Nat))) ρ S nx') (he : ∀ ρ S, I (hi - lo).toNat ρ S → chk S ∧ nx ρ S) : forW chk step nx ((List.range (hi - lo).toNat).map fun i => D.int (lo + (i : Nat))) ρ S :=
  forW_ix (L := (List.range (hi - lo).toNat).map fun i => D.int (lo + (i : Nat))) (fun j d ρ S nx' hd hI hn => by
    obtain ⟨rfl, hj⟩ := rng_at hd
    exact hs j ρ S nx' (by omega) hI hn) (fun ρ S h => he ρ S (by simpa using h)) _ 0 ρ S rfl (by simp) h0
theorem eqLB_iff {eq : D → D → Bool} : ∀ {xs ys : List D}, (∀ x ∈ xs, ∀ y ∈ ys, (eq x y = true ↔ x = y)) → (eqLB eq xs ys = true ↔ xs = ys)
  | [], [], _ => ⟨fun _ => rfl, fun _ => rfl⟩
  | [], _ :: _, _ => ⟨fun h => (by cases h), fun h => (by cases h)⟩
  | _ :: _, [], _ => ⟨fun h => (by cases h), fun h => (by cases h)⟩
  | x :: xs, y :: ys, h => by
    show (eq x y && eqLB eq xs ys) = true ↔ _
    rw [Bool.and_eq_true_iff, h x (by simp) y (by simp), eqLB_iff fun a ha b hb => h a (by simp [ha]) b (by simp [hb]), List.cons.injEq]
theorem IntT.eq_iff {S : Sto} : ∀ {n : Nat} {u v : D}, IntT n u → IntT n v → (eqB n S u v = true ↔ u = v)
  | 0, _, _, h, _ => False.elim h
  | n + 1, u, v, h, k => by
    cases u with
    | int i =>
      cases v with
      | int j => show (i == j) = true ↔ _; simp
      | tup ys => exact ⟨fun h => (by cases h), fun h => (by cases h)⟩
      | _ => exact False.elim k
    | tup xs =>
      cases v with
      | int j => exact ⟨fun h => (by cases h), fun h => (by cases h)⟩
      | tup ys =>
        show eqLB (eqB n S) xs ys = true ↔ _
        rw [eqLB_iff fun a ha b hb => (h a ha).eq_iff (k b hb)]
        exact ⟨fun h => by rw [h], fun h => by injection h⟩
      | _ => exact False.elim k
    | _ => exact False.elim h
theorem ne_int' {u v : D} {S : Sto} {Q : Bool → Prop} (hu : IntT 8 u) (hv : IntT 8 v) (k1 : u = v → Q false) (k2 : u ≠ v → Q true) : cmpD .ne u v S Q := by
  have k : fit dep S u = true ∧ fit dep S v = true ∧ Q (!eqB dep S u v) := ⟨hu.fit, hv.fit, by
    by_cases h : u = v
    · rw [(hu.eq_iff hv).mpr h]; exact k1 h
    · rw [Bool.eq_false_iff.mpr fun z => h ((hu.eq_iff hv).mp z)]; exact k2 h⟩
  cases u <;> first | exact k | exact False.elim hu
theorem eq_lists {S : Sto} {f g : Nat} {is : List Int} {Q : Bool → Prop} (e : S f = some (.lst (is.map .int))) (e' : S g = some (.lst (is.map .int))) (k : Q true) : cmpD .eq (.ref f) (.ref g) S Q := by
  have ft : ∀ r : Nat, S r = some (.lst (is.map .int)) → fit dep S (.ref r) = true := fun r er => by
    show optB (lstAt S r) _ = true
    rw [lstAt_eq er]
    exact fitL_of fun y hy => by obtain ⟨i, _, rfl⟩ := List.mem_map.mp hy; rfl
  refine ⟨ft f e, ft g e', ?_⟩
  have : eqB dep S (.ref f) (.ref g) = true := by
    show eqO _ (lstAt S f) (lsOf S (.ref g)) = true
    rw [lstAt_eq e, lsOf_ref e']
    exact eqLB_refl fun y hy => by
      obtain ⟨i, _, rfl⟩ := List.mem_map.mp hy
      show (i == i) = true
      simp
  rw [this]; exact k
end M
namespace M
theorem bezI {step : Env → Sto → (Env → Sto → Prop) → Prop} {S : Sto} {mk : Nat → Nat → Int → Int → Option D → Option D → Env} (Inv : Nat → Nat → Int → Int → Prop) (hz : ∀ u b f o6 o7 nx, Inv u 0 b f → step (mk u 0 b f o6 o7) S nx)
    (hs : ∀ u v b f o6 o7 nx, 0 < v → Inv u v b f → (∀ o6 o7, nx (mk v (u % v) f (b - ((u / v : Nat) : Int) * f) o6 o7) S) → step (mk u v b f o6 o7) S nx) (hi : ∀ u v b f, 0 < v → Inv u v b f → Inv v (u % v) f (b - ((u / v : Nat) : Int) * f)) :
    ∀ (n u v : Nat) (b f : Int), v ≤ n → Inv u v b f → ∃ k, ∀ o6 o7, whileN step k (mk u v b f o6 o7) S
  | n, u, 0, b, f, _, hI => ⟨1, fun o6 o7 => hz u b f o6 o7 _ hI⟩
  | 0, u, v + 1, _, _, hv, _ => absurd hv (by omega)
  | n + 1, u, v + 1, b, f, hv, hI => by
    have hl := Nat.mod_lt u (y := v + 1) (by omega)
    obtain ⟨k, hk⟩ := bezI Inv hz hs hi n (v + 1) (u % (v + 1)) f (b - ((u / (v + 1) : Nat) : Int) * f) (by omega) (hi u (v + 1) b f (by omega) hI)
    exact ⟨k + 1, fun o6 o7 => hs u (v + 1) b f o6 o7 _ (by omega) hI hk⟩
/-- what holds in the loop of inverse -/
structure Bz (t : Int) (m u v : Nat) (b f : Int) : Prop where
  vu : v < u
  um : u ≤ m
  bnd : b.natAbs * v + f.natAbs * u ≤ m
  db : (m : Int) ∣ b * t - u
  df : (m : Int) ∣ f * t - v
  g : Nat.gcd u v = Int.gcd t m
theorem Bz.step {t : Int} {m u v : Nat} {b f : Int} (hv : 0 < v) (h : Bz t m u v b f) : Bz t m v (u % v) f (b - ((u / v : Nat) : Int) * f) := by
  obtain ⟨vu, um, bnd, db, df, g⟩ := h
  have hl := Nat.mod_lt u (y := v) hv
  have hd := Nat.div_add_mod u v
  refine ⟨hl, by omega, ?_, df, ?_, ?_⟩
  · refine Nat.le_trans ?_ bnd
    generalize u % v = r at *
    generalize u / v = q at *
    have h1 : (b - (q : Int) * f).natAbs ≤ b.natAbs + q * f.natAbs := by
      have := Int.natAbs_sub_le b ((q : Int) * f)
      rwa [Int.natAbs_mul, Int.natAbs_natCast] at this
    have h2 := Nat.mul_le_mul_right v h1
    have e : f.natAbs * u = q * f.natAbs * v + f.natAbs * r := by
      rw [← hd, Nat.mul_add, Nat.mul_comm q, Nat.mul_assoc, Nat.mul_comm q]
    rw [Nat.add_mul] at h2
    omega
  · have e : (b - ((u / v : Nat) : Int) * f) * t - ((u % v : Nat) : Int) = (b * t - u) - ((u / v : Nat) : Int) * (f * t - v) := by
      have : (u : Int) = v * ((u / v : Nat) : Int) + ((u % v : Nat) : Int) := by rw [← Int.natCast_mul, ← Int.natCast_add, hd]
      generalize ((u / v : Nat) : Int) = q at *
      generalize ((u % v : Nat) : Int) = r at *
      rw [this, Int.sub_mul, Int.mul_sub, Int.mul_assoc, Int.mul_comm q v]
      omega
    rw [e]
    exact Int.dvd_sub db (Int.dvd_trans df (Int.dvd_mul_left ..))
  · rw [← g, Nat.gcd_comm u v, Nat.gcd_rec v u, Nat.gcd_comm]
theorem bz_start {t : Int} {m : Nat} (hm : 0 < m) : Bz t m m (t % (m : Int)).toNat 0 1 := by
  have h0 := Int.emod_nonneg t (show (m : Int) ≠ 0 by omega)
  have h1 := Int.emod_lt_of_pos t (show (0 : Int) < m by omega)
  refine ⟨by omega, Nat.le_refl _, by simp, ?_, ?_, ?_⟩
  · rw [Int.zero_mul, Int.zero_sub]
    exact Int.dvd_neg.mpr (Int.dvd_refl _)
  · rw [Int.one_mul, Int.toNat_of_nonneg h0]
    exact ⟨t / m, by have := Int.mul_ediv_add_emod t m; omega⟩
  · have e : ((m : Nat) : Int).gcd (t % m) = Int.gcd t m := by rw [Int.emod_def, Int.gcd_sub_mul_left_right, Int.gcd_comm]
    rw [← e]
    show _ = Nat.gcd _ _
    rw [Int.natAbs_natCast]
    congr 1
    omega
theorem bz_end {t : Int} {m u : Nat} {b f : Int} (h : Bz t m u 0 b f) (hg : Int.gcd t m = 1) : (m : Int) ∣ b % (m : Int) * t - 1 := by
  have hu : u = 1 := by
    have := h.g
    rw [Nat.gcd_zero_right, hg] at this
    exact this
  have hb := h.db
  rw [hu] at hb
  have e : b % (m : Int) * t - 1 = (b * t - (1 : Nat)) - (m : Int) * (b / m * t) := by
    rw [Int.emod_def, Int.sub_mul, Int.mul_assoc]
    omega
  rw [e]
  exact Int.dvd_sub hb (Int.dvd_mul_right ..)
theorem bz_f {t : Int} {m u v : Nat} {b f : Int} (h : Bz t m u v b f) : f.natAbs ≤ m := by
  have := h.bnd
  have h2 : f.natAbs * 1 ≤ f.natAbs * u := Nat.mul_le_mul_left _ (by have := h.vu; omega)
  omega
/-- inverse(number, modulus) -/
def spInv : Sp := fun ds S Q _ => ∃ t m, ds = [.int t, .int m] ∧ 0 < m ∧ Bd 3000 m ∧ ∀ d : Int, 0 ≤ d → d < m → (Int.gcd t m = 1 → m ∣ d * t - 1) → Q (.int d) S
theorem txt_inv {G : Gm} {ds : List D} {S0 : Sto} {Q : VK} {X : XK} {b : Ss} (hb : b = (.cons (.par 2 3 (.v 1) (.bin .mod (.v 0) (.v 1))) (.cons (.set (.tup [4, 5]) (.tup (.cons (.k (.int 0)) (.cons (.k (.int 1)) .nil)))) (.cons (.while_ (.cmp .ne (.v 3) (.k (.int 0))) (.cons (.set (.v 6) (.bin .fdiv (.v 2) (.v 3))) (.cons (.set (.v 7) (.bin .sub (.v 2) (.bin .mul (.v 6) (.v 3)))) (.cons (.set (.v 2) (.v 3)) (.cons (.set (.v 3) (.v 7)) (.cons (.set (.v 7) (.bin .sub (.v 4) (.bin .mul (.v 6) (.v 5)))) (.cons (.set (.v 4) (.v 5)) (.cons (.set (.v 5) (.v 7)) .nil)))))))) (.cons (.ret (.bin .mod (.v 4) (.v 1))) .nil))))) (h : spInv ds S0 Q X) : ds.length = 2 ∧ wpSs G b (start 8 ds) S0 (kR Q X) := by
  obtain ⟨t, m, rfl, hp, hb2, hq⟩ := h
  subst hb
  refine ⟨rfl, ?_⟩
  obtain ⟨M, rfl⟩ : ∃ M : Nat, m = M := ⟨m.toNat, by omega⟩
  have h0 := Int.emod_nonneg t (show (M : Int) ≠ 0 by omega)
  have hV : t % (M : Int) = ((t % (M : Int)).toNat : Nat) := by omega
  have st := bz_start (t := t) (show 0 < M by omega)
  generalize (t % (M : Int)).toNat = V at *
  simp only [wpSs, wpS, wpE, wpEs, wpC, wpAnd, wpOr, wpO, wpIt, opt_some, onI_int, onB_bl, onR_ref, arg1_one, look, joinO, start, List.map_cons, List.map_nil, List.length_cons, List.length_nil, List.replicate, List.cons_append, List.nil_append, List.append_nil, List.getElem?_cons_succ, List.getElem?_cons_zero, kcD, Nat.reduceAdd, Nat.reduceSub, br_t, br_f, br_n, asg, setAll, List.set_cons_succ, List.set_cons_zero, tgs, wipe, eq_ii, ne_ii, lt_ii, le_ii, gt_ii, ge_ii, is_n, isn_n, is_b, isn_b, add_ii, sub_ii, mul_ii, mod_ii, fdiv_ii, pow_ii, isNon, biD, intD_i, intD_b, esLen, beq_self_eq_true, ixD_tup, lsOf_new, seqD_tup, seqD_fl, slD_tup, bools, Option.map_some, true_and, ixD_fl, lenD_tup, lenD_fl, ix30, ix31, ix32, at20, at21, at30, at31, at32, List.filterMap_cons, List.filterMap_nil, fmod_pos hp, hV]
  refine ⟨by omega, len_lim (by decide), ?_⟩
  have hbM : M < 2 ^ 3000 := by have : (M : Int).natAbs < 2 ^ 3000 := hb2; omega
  have bd : ∀ i : Int, i.natAbs ≤ M → Bd 3000 i := fun i h => Nat.lt_of_le_of_lt h hbM
  have go := bezI (step := fun ρ1 S1 nx => wpE G (.cmp .ne (.v 3) (.k (.int 0))) ρ1 S1 (fun x S2 => onB x fun k => br k (wpSs G (.cons (.set (.v 6) (.bin .fdiv (.v 2) (.v 3))) (.cons (.set (.v 7) (.bin .sub (.v 2) (.bin .mul (.v 6) (.v 3)))) (.cons (.set (.v 2) (.v 3)) (.cons (.set (.v 3) (.v 7)) (.cons (.set (.v 7) (.bin .sub (.v 4) (.bin .mul (.v 6) (.v 5)))) (.cons (.set (.v 4) (.v 5)) (.cons (.set (.v 5) (.v 7)) .nil))))))) ρ1 S2 ⟨nx, Q, fun _ _ => False, fun k fs _ S' => X k fs S'⟩) (wpSs G (.cons (.ret (.bin .mod (.v 4) (.v 1))) .nil) ρ1 S2 (kR Q X))) (fun c fs S2 => X c fs S2)) (S := S0) (mk := fun u v b f o6 o7 => [some (.int t), some (.int (M : Int)), some (.int (u : Int)), some (.int (v : Int)), some (.int b), some (.int f), o6, o7]) (Bz t M)
    (fun u b f o6 o7 nx hI => by
      simp only [wpSs, wpS, wpE, wpEs, wpC, wpAnd, wpOr, wpO, wpIt, opt_some, onI_int, onB_bl, onR_ref, arg1_one, look, joinO, start, List.map_cons, List.map_nil, List.length_cons, List.length_nil, List.replicate, List.cons_append, List.nil_append, List.append_nil, List.getElem?_cons_succ, List.getElem?_cons_zero, kcD, Nat.reduceAdd, Nat.reduceSub, br_t, br_f, br_n, asg, setAll, List.set_cons_succ, List.set_cons_zero, tgs, wipe, eq_ii, ne_ii, lt_ii, le_ii, gt_ii, ge_ii, is_n, isn_n, is_b, isn_b, add_ii, sub_ii, mul_ii, mod_ii, fdiv_ii, pow_ii, isNon, biD, intD_i, intD_b, esLen, beq_self_eq_true, ixD_tup, lsOf_new, seqD_tup, seqD_fl, slD_tup, bools, Option.map_some, true_and, ixD_fl, lenD_tup, lenD_fl, ix30, ix31, ix32, at20, at21, at30, at31, at32, List.filterMap_cons, List.filterMap_nil, Int.natCast_zero, fmod_pos hp]
      exact ⟨by omega, hq _ (Int.emod_nonneg _ (by omega)) (Int.emod_lt_of_pos _ hp) (bz_end hI)⟩)
    (fun u v b f o6 o7 nx hv hI k => by
      have hu := hI.vu
      have hm := hI.um
      have hb : ((v : Int) == 0) = false := by simp; omega
      have hpv : (0 : Int) < (v : Int) := by omega
      have hf : Int.fdiv (u : Int) (v : Int) = ((u / v : Nat) : Int) := by rw [fdiv_pos hpv]; rfl
      have hr : (u : Int) - ((u / v : Nat) : Int) * (v : Int) = ((u % v : Nat) : Int) := by
        have := Nat.div_add_mod u v
        have e : ((v * (u / v) + u % v : Nat) : Int) = (u : Int) := by rw [this]
        rw [Int.natCast_add, Int.natCast_mul, Int.mul_comm] at e
        omega
      have hq1 : u / v ≤ u := Nat.div_le_self _ _
      have q1 : sm ((u / v : Nat) : Int) := (bd _ (by rw [Int.natAbs_natCast]; omega)).sm (by decide)
      have q2 : sm (v : Int) := (bd _ (by rw [Int.natAbs_natCast]; omega)).sm (by decide)
      have q3 : smd (v : Int) := (bd _ (by rw [Int.natAbs_natCast]; omega)).smd (by decide)
      simp only [wpSs, wpS, wpE, wpEs, wpC, wpAnd, wpOr, wpO, wpIt, opt_some, onI_int, onB_bl, onR_ref, arg1_one, look, joinO, start, List.map_cons, List.map_nil, List.length_cons, List.length_nil, List.replicate, List.cons_append, List.nil_append, List.append_nil, List.getElem?_cons_succ, List.getElem?_cons_zero, kcD, Nat.reduceAdd, Nat.reduceSub, br_t, br_f, br_n, asg, setAll, List.set_cons_succ, List.set_cons_zero, tgs, wipe, eq_ii, ne_ii, lt_ii, le_ii, gt_ii, ge_ii, is_n, isn_n, is_b, isn_b, add_ii, sub_ii, mul_ii, mod_ii, fdiv_ii, pow_ii, isNon, biD, intD_i, intD_b, esLen, beq_self_eq_true, ixD_tup, lsOf_new, seqD_tup, seqD_fl, slD_tup, bools, Option.map_some, true_and, ixD_fl, lenD_tup, lenD_fl, ix30, ix31, ix32, at20, at21, at30, at31, at32, List.filterMap_cons, List.filterMap_nil, hb, hf, hr]
      exact ⟨by omega, q3, q1, q2, q1, (bd _ (bz_f hI)).sm (by decide), k _ _⟩)
    (fun u v b f hv hI => hI.step hv) V M V 0 1 (Nat.le_refl _) st
  obtain ⟨k, hk⟩ := go
  exact ⟨k, by have := hk none none; simpa only [wpSs, wpS, wpE, wpEs, wpC, wpAnd, wpOr, wpO, wpIt, opt_some, onI_int, onB_bl, onR_ref, arg1_one, look, joinO, start, List.map_cons, List.map_nil, List.length_cons, List.length_nil, List.replicate, List.cons_append, List.nil_append, List.append_nil, List.getElem?_cons_succ, List.getElem?_cons_zero, kcD, Nat.reduceAdd, Nat.reduceSub, br_t, br_f, br_n, asg, setAll, List.set_cons_succ, List.set_cons_zero, tgs, wipe, eq_ii, ne_ii, lt_ii, le_ii, gt_ii, ge_ii, is_n, isn_n, is_b, isn_b, add_ii, sub_ii, mul_ii, mod_ii, fdiv_ii, pow_ii, isNon, biD, intD_i, intD_b, esLen, beq_self_eq_true, ixD_tup, lsOf_new, seqD_tup, seqD_fl, slD_tup, bools, Option.map_some, true_and, ixD_fl, lenD_tup, lenD_fl, ix30, ix31, ix32, at20, at21, at30, at31, at32, List.filterMap_cons, List.filterMap_nil] using this⟩
theorem gcd_div {f m : Int} (hm : 0 < m) : Int.gcd (f / ((Int.gcd f m : Nat) : Int)) (m / ((Int.gcd f m : Nat) : Int)) = 1 := by
  have h := Int.gcd_mul_left (((Int.gcd f m : Nat) : Int)) (f / ((Int.gcd f m : Nat) : Int)) (m / ((Int.gcd f m : Nat) : Int))
  rw [Int.mul_ediv_cancel' (Int.gcd_dvd_left ..), Int.mul_ediv_cancel' (Int.gcd_dvd_right ..), Int.natAbs_natCast] at h
  have g0' : 0 < Int.gcd f m := by have := gcd_pos (t := f) hm; omega
  have : Int.gcd f m * 1 = Int.gcd f m * Int.gcd (f / ((Int.gcd f m : Nat) : Int)) (m / ((Int.gcd f m : Nat) : Int)) := by omega
  exact (Nat.eq_of_mul_eq_mul_left g0' this).symm
/-- the solution by an inverse -/
theorem sol_of {A B R d : Int} (hB : 0 < B) (h : B ∣ d * A - 1) : B ∣ A * (R * d % B) - R := by
  have e : A * (R * d % B) - R = R * (d * A - 1) - B * (A * (R * d / B)) := by
    rw [Int.emod_def, Int.mul_sub, Int.mul_sub, Int.mul_one, Int.mul_comm A (R * d), Int.mul_assoc, ← Int.mul_assoc A B, Int.mul_comm A B, Int.mul_assoc B]
    omega
  rw [e]
  exact Int.dvd_sub (Int.dvd_trans h (Int.dvd_mul_left ..)) (Int.dvd_mul_right ..)
theorem sol_uniq {A B R l r : Int} (hg : Int.gcd A B = 1) (h1 : B ∣ A * l - R) (h2 : B ∣ A * r - R) : B ∣ l - r := by
  have h : B ∣ A * (l - r) := by
    have := Int.dvd_sub h1 h2
    have e : A * l - R - (A * r - R) = A * (l - r) := by rw [Int.mul_sub]; omega
    rwa [e] at this
  rw [Int.mul_comm, ← Int.dvd_mul_gcd_iff_dvd_mul, Int.gcd_comm, hg] at h
  simpa using h
/-- least_solution(factor, rest, modulus) -/
def spLeast : Sp := fun ds S Q _ => ∃ f r m, ds = [.int f, .int r, .int m] ∧ 0 < m ∧ Bd 3000 m ∧ Bd 3500 r ∧ (r % ((Int.gcd f m : Nat) : Int) ≠ 0 → Q .non S) ∧ (r % ((Int.gcd f m : Nat) : Int) = 0 → ∀ l : Int, 0 ≤ l → l < m / ((Int.gcd f m : Nat) : Int) → m / ((Int.gcd f m : Nat) : Int) ∣ f / ((Int.gcd f m : Nat) : Int) * l - r / ((Int.gcd f m : Nat) : Int) → Q (.tup [.int l, .int (m / ((Int.gcd f m : Nat) : Int))]) S)
theorem txt_least {G : Gm} {ds : List D} {S0 : Sto} {Q : VK} {X : XK} {b : Ss} (hb : b = (.cons (.set (.v 3) (.call 1 (.cons (.v 0) (.cons (.v 2) .nil)))) (.cons (.if_ (.cmp .ne (.bin .mod (.v 1) (.v 3)) (.k (.int 0))) (.cons (.ret (.k .non)) .nil) .nil) (.cons (.set (.v 4) (.bin .fdiv (.v 2) (.v 3))) (.cons (.ret (.tup (.cons (.bin .mod (.bin .mul (.bin .fdiv (.v 1) (.v 3)) (.call 3 (.cons (.bin .fdiv (.v 0) (.v 3)) (.cons (.v 4) .nil)))) (.v 4)) (.cons (.v 4) .nil)))) .nil))))) (h1 : G.fn 1 = spGcd) (h3 : G.fn 3 = spInv) (h : spLeast ds S0 Q X) : ds.length = 3 ∧ wpSs G b (start 5 ds) S0 (kR Q X) := by
  obtain ⟨f, r, m, rfl, hp, hm, hr, hn, hq⟩ := h
  subst hb
  refine ⟨rfl, ?_⟩
  have g0 := gcd_pos (t := f) hp
  have bg := gcd_bd (t := f) hm hp
  have sp := gdiv_pos (t := f) hp
  have bs : Bd 3000 (m / ((Int.gcd f m : Nat) : Int)) := hm.div
  have cop := gcd_div (f := f) hp
  simp only [wpSs, wpS, wpE, wpEs, wpC, wpAnd, wpOr, wpO, wpIt, opt_some, onI_int, onB_bl, onR_ref, arg1_one, look, joinO, start, List.map_cons, List.map_nil, List.length_cons, List.length_nil, List.replicate, List.cons_append, List.nil_append, List.append_nil, List.getElem?_cons_succ, List.getElem?_cons_zero, kcD, Nat.reduceAdd, Nat.reduceSub, br_t, br_f, br_n, asg, setAll, List.set_cons_succ, List.set_cons_zero, tgs, wipe, eq_ii, ne_ii, lt_ii, le_ii, gt_ii, ge_ii, is_n, isn_n, is_b, isn_b, add_ii, sub_ii, mul_ii, mod_ii, fdiv_ii, pow_ii, isNon, biD, intD_i, intD_b, esLen, beq_self_eq_true, ixD_tup, lsOf_new, seqD_tup, seqD_fl, slD_tup, bools, Option.map_some, true_and, ixD_fl, lenD_tup, lenD_fl, ix30, ix31, ix32, at20, at21, at30, at31, at32, List.filterMap_cons, List.filterMap_nil]
  refine call h1 ⟨f, m, rfl, ?_⟩
  simp only [wpSs, wpS, wpE, wpEs, wpC, wpAnd, wpOr, wpO, wpIt, opt_some, onI_int, onB_bl, onR_ref, arg1_one, look, joinO, start, List.map_cons, List.map_nil, List.length_cons, List.length_nil, List.replicate, List.cons_append, List.nil_append, List.append_nil, List.getElem?_cons_succ, List.getElem?_cons_zero, kcD, Nat.reduceAdd, Nat.reduceSub, br_t, br_f, br_n, asg, setAll, List.set_cons_succ, List.set_cons_zero, tgs, wipe, eq_ii, ne_ii, lt_ii, le_ii, gt_ii, ge_ii, is_n, isn_n, is_b, isn_b, add_ii, sub_ii, mul_ii, mod_ii, fdiv_ii, pow_ii, isNon, biD, intD_i, intD_b, esLen, beq_self_eq_true, ixD_tup, lsOf_new, seqD_tup, seqD_fl, slD_tup, bools, Option.map_some, true_and, ixD_fl, lenD_tup, lenD_fl, ix30, ix31, ix32, at20, at21, at30, at31, at32, List.filterMap_cons, List.filterMap_nil, fmod_pos g0, fdiv_pos g0]
  refine ⟨by omega, br_if (fun h => ⟨by omega, bg.smd (by decide), by omega, bg.smd (by decide), by omega, bg.smd (by decide), ?_⟩) fun h => hn (by simpa using h)⟩
  refine call h3 ⟨_, _, rfl, sp, bs, fun d d0 d1 hd => ?_⟩
  simp only [wpSs, wpS, wpE, wpEs, wpC, wpAnd, wpOr, wpO, wpIt, opt_some, onI_int, onB_bl, onR_ref, arg1_one, look, joinO, start, List.map_cons, List.map_nil, List.length_cons, List.length_nil, List.replicate, List.cons_append, List.nil_append, List.append_nil, List.getElem?_cons_succ, List.getElem?_cons_zero, kcD, Nat.reduceAdd, Nat.reduceSub, br_t, br_f, br_n, asg, setAll, List.set_cons_succ, List.set_cons_zero, tgs, wipe, eq_ii, ne_ii, lt_ii, le_ii, gt_ii, ge_ii, is_n, isn_n, is_b, isn_b, add_ii, sub_ii, mul_ii, mod_ii, fdiv_ii, pow_ii, isNon, biD, intD_i, intD_b, esLen, beq_self_eq_true, ixD_tup, lsOf_new, seqD_tup, seqD_fl, slD_tup, bools, Option.map_some, true_and, ixD_fl, lenD_tup, lenD_fl, ix30, ix31, ix32, at20, at21, at30, at31, at32, List.filterMap_cons, List.filterMap_nil, fmod_pos sp]
  exact ⟨hr.div.sm (by decide), (bs.le d0 (by omega)).sm (by decide), by omega, len_lim (by decide), hq (by simpa using h) _ (Int.emod_nonneg _ (by omega)) (Int.emod_lt_of_pos _ sp) (sol_of sp (hd cop))⟩
/-! ### lines -/
def sg (d x : Int) : Int := if 0 < d then x else -x
def fst (d x s : Int) : Int := if 0 < d then x / s + 1 else -((-x) / s) - 1
def av (d : Int) : Int := (d.natAbs : Int)
def lnT (v o s f : Int) : D := .tup [.int v, .int o, .int s, .int f]
def lnD (x d s : Int) : D := if d = 0 then .non else lnT (av d) (sg d x % s) s (fst d x s)
def spLine : Sp := fun ds S Q _ => ∃ x d s, ds = [.int x, .int d, .int s] ∧ 0 < s ∧ Bd 1500 s ∧ Q (lnD x d s) S
theorem txt_line {G : Gm} {ds : List D} {S0 : Sto} {Q : VK} {X : XK} {b : Ss} (hb : b = (.cons (.if_ (.cmp .eq (.v 1) (.k (.int 0))) (.cons (.ret (.k .non)) .nil) .nil) (.cons (.if_ (.cmp .gt (.v 1) (.k (.int 0))) (.cons (.ret (.tup (.cons (.v 1) (.cons (.bin .mod (.v 0) (.v 2)) (.cons (.v 2) (.cons (.bin .add (.bin .fdiv (.v 0) (.v 2)) (.k (.int 1))) .nil)))))) .nil) .nil) (.cons (.ret (.tup (.cons (.neg (.v 1)) (.cons (.bin .mod (.neg (.v 0)) (.v 2)) (.cons (.v 2) (.cons (.bin .sub (.neg (.bin .fdiv (.neg (.v 0)) (.v 2))) (.k (.int 1))) .nil)))))) .nil)))) (h : spLine ds S0 Q X) : ds.length = 3 ∧ wpSs G b (start 3 ds) S0 (kR Q X) := by
  obtain ⟨x, d, s, rfl, hs, bs, hq⟩ := h
  subst hb
  refine ⟨rfl, ?_⟩
  simp only [wpSs, wpS, wpE, wpEs, wpC, wpAnd, wpOr, wpO, wpIt, opt_some, onI_int, onB_bl, onR_ref, arg1_one, look, joinO, start, List.map_cons, List.map_nil, List.length_cons, List.length_nil, List.replicate, List.cons_append, List.nil_append, List.append_nil, List.getElem?_cons_succ, List.getElem?_cons_zero, kcD, Nat.reduceAdd, Nat.reduceSub, br_t, br_f, br_n, asg, setAll, List.set_cons_succ, List.set_cons_zero, tgs, wipe, eq_ii, ne_ii, lt_ii, le_ii, gt_ii, ge_ii, is_n, isn_n, is_b, isn_b, add_ii, sub_ii, mul_ii, mod_ii, fdiv_ii, pow_ii, isNon, biD, intD_i, intD_b, esLen, beq_self_eq_true, ixD_tup, lsOf_new, seqD_tup, seqD_fl, slD_tup, bools, Option.map_some, true_and, ixD_fl, lenD_tup, lenD_fl, ix30, ix31, ix32, at20, at21, at30, at31, at32, List.filterMap_cons, List.filterMap_nil, fmod_pos hs, fdiv_pos hs]
  have l4 : 4 ≤ lim := len_lim (by decide)
  have ss := bs.smd (show 1500 ≤ 8500 by decide)
  unfold lnD at hq
  refine br_if (fun h => ?_) fun h => br_d (fun h2 => ?_) fun h2 => ?_
  · rw [if_pos (by simpa using h)] at hq; exact hq
  · rw [if_neg (by simpa using h)] at hq
    refine ⟨by omega, by omega, ss, l4, ?_⟩
    have e : av d = d := by unfold av; omega
    unfold lnT sg fst at hq
    rw [if_pos h2, if_pos h2, e] at hq
    exact hq
  · rw [if_neg (by simpa using h)] at hq
    refine ⟨by omega, by omega, ss, l4, ?_⟩
    have e : av d = -d := by unfold av; omega
    unfold lnT sg fst at hq
    rw [if_neg h2, if_neg h2, e] at hq
    exact hq
def linesD (a c x y p q : Int) : D := .tup [lnD x p a, lnD y q c]
def spLines : Sp := fun ds S Q _ => ∃ a c x y p q, ds = [prD a c, shD x y p q] ∧ 0 < a ∧ 0 < c ∧ Bd 1500 a ∧ Bd 1500 c ∧ Q (linesD a c x y p q) S
theorem txt_lines {G : Gm} {ds : List D} {S0 : Sto} {Q : VK} {X : XK} {b : Ss} (hb : b = (.cons (.ret (.tup (.cons (.call 21 (.cons (.ix (.v 1) (.k (.int 0))) (.cons (.ix (.v 1) (.k (.int 2))) (.cons (.ix (.v 0) (.k (.int 0))) .nil)))) (.cons (.call 21 (.cons (.ix (.v 1) (.k (.int 1))) (.cons (.ix (.v 1) (.k (.int 3))) (.cons (.ix (.v 0) (.k (.int 1))) .nil)))) .nil)))) .nil)) (h1 : G.fn 21 = spLine) (h : spLines ds S0 Q X) : ds.length = 2 ∧ wpSs G b (start 2 ds) S0 (kR Q X) := by
  obtain ⟨a, c, x, y, p, q, rfl, ha, hc, ba, bc, hq⟩ := h
  subst hb
  refine ⟨rfl, ?_⟩
  simp only [wpSs, wpS, wpE, wpEs, wpC, wpAnd, wpOr, wpO, wpIt, opt_some, onI_int, onB_bl, onR_ref, arg1_one, look, joinO, start, List.map_cons, List.map_nil, List.length_cons, List.length_nil, List.replicate, List.cons_append, List.nil_append, List.append_nil, List.getElem?_cons_succ, List.getElem?_cons_zero, kcD, Nat.reduceAdd, Nat.reduceSub, br_t, br_f, br_n, asg, setAll, List.set_cons_succ, List.set_cons_zero, tgs, wipe, eq_ii, ne_ii, lt_ii, le_ii, gt_ii, ge_ii, is_n, isn_n, is_b, isn_b, add_ii, sub_ii, mul_ii, mod_ii, fdiv_ii, pow_ii, isNon, biD, intD_i, intD_b, esLen, beq_self_eq_true, ixD_tup, lsOf_new, seqD_tup, seqD_fl, slD_tup, bools, Option.map_some, true_and, ixD_fl, lenD_tup, lenD_fl, ix30, ix31, ix32, at20, at21, at30, at31, at32, List.filterMap_cons, List.filterMap_nil, at40, at41, at42, at43]
  exact call h1 ⟨_, _, _, rfl, ha, ba, call h1 ⟨_, _, _, rfl, hc, bc, len_lim (by decide), hq⟩⟩
/-- how many hits a line has -/
def Nn (x d s t b : Int) : Int := if d = 0 ∨ t ≤ 0 then 0 else (av d * t + sg d x % s * b) / (s * b)
def spCnt : Sp := fun ds S Q _ => ∃ x d s t b, ds = [lnD x d s, prD t b] ∧ 0 < s ∧ 0 < b ∧ Bd 1500 s ∧ Bd 1500 d ∧ Bd 1500 t ∧ Bd 1500 b ∧ Q (.int (Nn x d s t b)) S
theorem av_bd {n : Nat} {d : Int} (h : Bd n d) : Bd n (av d) := by
  show (av d).natAbs < 2 ^ n
  unfold av
  rw [Int.natAbs_natCast]; exact h
theorem txt_cnt {G : Gm} {ds : List D} {S0 : Sto} {Q : VK} {X : XK} {b : Ss} (hb : b = (.cons (.if_ (.or (.cmp .is_ (.v 0) (.k .non)) (.cons (.cmp .le (.ix (.v 1) (.k (.int 0))) (.k (.int 0))) .nil)) (.cons (.ret (.k (.int 0))) .nil) .nil) (.cons (.ret (.bin .fdiv (.bin .add (.bin .mul (.ix (.v 0) (.k (.int 0))) (.ix (.v 1) (.k (.int 0)))) (.bin .mul (.ix (.v 0) (.k (.int 1))) (.ix (.v 1) (.k (.int 1))))) (.bin .mul (.ix (.v 0) (.k (.int 2))) (.ix (.v 1) (.k (.int 1)))))) .nil))) (h : spCnt ds S0 Q X) : ds.length = 2 ∧ wpSs G b (start 2 ds) S0 (kR Q X) := by
  obtain ⟨x, d, s, t, b2, rfl, hs, hb', bs, bd, bt, bb, hq⟩ := h
  subst hb
  refine ⟨rfl, ?_⟩
  have p := mulp hs hb'
  unfold lnD Nn at *
  by_cases h : d = 0
  · rw [if_pos (Or.inl h)] at hq
    simp only [wpSs, wpS, wpE, wpEs, wpC, wpAnd, wpOr, wpO, wpIt, opt_some, onI_int, onB_bl, onR_ref, arg1_one, look, joinO, start, List.map_cons, List.map_nil, List.length_cons, List.length_nil, List.replicate, List.cons_append, List.nil_append, List.append_nil, List.getElem?_cons_succ, List.getElem?_cons_zero, kcD, Nat.reduceAdd, Nat.reduceSub, br_t, br_f, br_n, asg, setAll, List.set_cons_succ, List.set_cons_zero, tgs, wipe, eq_ii, ne_ii, lt_ii, le_ii, gt_ii, ge_ii, is_n, isn_n, is_b, isn_b, add_ii, sub_ii, mul_ii, mod_ii, fdiv_ii, pow_ii, isNon, biD, intD_i, intD_b, esLen, beq_self_eq_true, ixD_tup, lsOf_new, seqD_tup, seqD_fl, slD_tup, bools, Option.map_some, true_and, ixD_fl, lenD_tup, lenD_fl, ix30, ix31, ix32, at20, at21, at30, at31, at32, List.filterMap_cons, List.filterMap_nil, if_pos h]
    exact hq
  · simp only [wpSs, wpS, wpE, wpEs, wpC, wpAnd, wpOr, wpO, wpIt, opt_some, onI_int, onB_bl, onR_ref, arg1_one, look, joinO, start, List.map_cons, List.map_nil, List.length_cons, List.length_nil, List.replicate, List.cons_append, List.nil_append, List.append_nil, List.getElem?_cons_succ, List.getElem?_cons_zero, kcD, Nat.reduceAdd, Nat.reduceSub, br_t, br_f, br_n, asg, setAll, List.set_cons_succ, List.set_cons_zero, tgs, wipe, eq_ii, ne_ii, lt_ii, le_ii, gt_ii, ge_ii, is_n, isn_n, is_b, isn_b, add_ii, sub_ii, mul_ii, mod_ii, fdiv_ii, pow_ii, isNon, biD, intD_i, intD_b, esLen, beq_self_eq_true, ixD_tup, lsOf_new, seqD_tup, seqD_fl, slD_tup, bools, Option.map_some, true_and, ixD_fl, lenD_tup, lenD_fl, ix30, ix31, ix32, at20, at21, at30, at31, at32, List.filterMap_cons, List.filterMap_nil, if_neg h, lnT, fdiv_pos p, at40, at41, at42, at43]
    refine br_d (fun h2 => ?_) fun h2 => ?_
    · rw [if_pos (Or.inr h2)] at hq; exact hq
    · rw [if_neg (fun z => z.elim h h2)] at hq
      exact ⟨(av_bd bd).sm (by decide), bt.sm (by decide), (bs.mod hs).sm (by decide), bb.sm (by decide), bs.sm (by decide), bb.sm (by decide), by omega, (bs.mul bb).smd (by decide), hq⟩
/-! ### corners -/
def kF (p q a c : Int) : Int := av q * a
def kM (p q a c : Int) : Int := av p * c
def kRs (x y p q a c : Int) : Int := av q * (sg p x % a) - av p * (sg q y % c)
def kG (p q a c : Int) : Int := (Int.gcd (kF p q a c) (kM p q a c) : Nat)
def IsCor (x y p q a c l : Int) : Prop := kM p q a c / kG p q a c ∣ kF p q a c / kG p q a c * l - kRs x y p q a c / kG p q a c
/-- the number of those of the class of z in 1 .. n -/
def FF (n z b : Int) : Int := (n - z) / b - (-z) / b
/-- z: how many corners there are among n hits of the first line -/
structure Cnr (x y p q a c n z : Int) : Prop where
  no : p = 0 ∨ q = 0 → z = 0
  rn : p ≠ 0 → q ≠ 0 → kRs x y p q a c % kG p q a c ≠ 0 → z = 0
  ry : p ≠ 0 → q ≠ 0 → kRs x y p q a c % kG p q a c = 0 → (n = 0 ∧ z = 0) ∨ ∃ l, IsCor x y p q a c l ∧ z = FF n l (kM p q a c / kG p q a c)
theorem av_pos {d : Int} (h : d ≠ 0) : 0 < av d := by unfold av; omega
/-- the corners of two lines -/
def spCorn : Sp := fun ds S Q _ => ∃ a c x y p q, ds = [linesD a c x y p q] ∧ 0 < a ∧ 0 < c ∧ Bd 1500 a ∧ Bd 1500 c ∧ Bd 1500 p ∧ Bd 1500 q ∧ (p = 0 ∨ q = 0 → Q .non S) ∧ (p ≠ 0 → q ≠ 0 → kRs x y p q a c % kG p q a c ≠ 0 → Q .non S) ∧ (p ≠ 0 → q ≠ 0 → kRs x y p q a c % kG p q a c = 0 → ∀ l, 0 < l → l ≤ kM p q a c / kG p q a c → IsCor x y p q a c l → Q (prD l (kM p q a c / kG p q a c)) S)
theorem txt_corn {G : Gm} {ds : List D} {S0 : Sto} {Q : VK} {X : XK} {b : Ss} (hb : b = (.cons (.set (.tup [1, 2]) (.v 0)) (.cons (.if_ (.or (.cmp .is_ (.v 1) (.k .non)) (.cons (.cmp .is_ (.v 2) (.k .non)) .nil)) (.cons (.ret (.k .non)) .nil) .nil) (.cons (.set (.v 3) (.bin .sub (.bin .mul (.ix (.v 2) (.k (.int 0))) (.ix (.v 1) (.k (.int 1)))) (.bin .mul (.ix (.v 1) (.k (.int 0))) (.ix (.v 2) (.k (.int 1)))))) (.cons (.set (.v 4) (.call 4 (.cons (.bin .mul (.ix (.v 2) (.k (.int 0))) (.ix (.v 1) (.k (.int 2)))) (.cons (.v 3) (.cons (.bin .mul (.ix (.v 1) (.k (.int 0))) (.ix (.v 2) (.k (.int 2)))) .nil))))) (.cons (.if_ (.cmp .is_ (.v 4) (.k .non)) (.cons (.ret (.k .non)) .nil) .nil) (.cons (.ret (.tup (.cons (.ite (.cmp .gt (.ix (.v 4) (.k (.int 0))) (.k (.int 0))) (.ix (.v 4) (.k (.int 0))) (.ix (.v 4) (.k (.int 1)))) (.cons (.ix (.v 4) (.k (.int 1))) .nil)))) .nil))))))) (h1 : G.fn 4 = spLeast) (h : spCorn ds S0 Q X) : ds.length = 1 ∧ wpSs G b (start 5 ds) S0 (kR Q X) := by
  obtain ⟨a, c, x, y, p, q, rfl, ha, hc, ba, bc, bp, bq, q0, q1, q2⟩ := h
  subst hb
  refine ⟨rfl, ?_⟩
  by_cases hp : p = 0
  · have e : lnD x p a = .non := by unfold lnD; rw [if_pos hp]
    simp only [linesD, e, wpSs, wpS, wpE, wpEs, wpC, wpAnd, wpOr, wpO, wpIt, opt_some, onI_int, onB_bl, onR_ref, arg1_one, look, joinO, start, List.map_cons, List.map_nil, List.length_cons, List.length_nil, List.replicate, List.cons_append, List.nil_append, List.append_nil, List.getElem?_cons_succ, List.getElem?_cons_zero, kcD, Nat.reduceAdd, Nat.reduceSub, br_t, br_f, br_n, asg, setAll, List.set_cons_succ, List.set_cons_zero, tgs, wipe, eq_ii, ne_ii, lt_ii, le_ii, gt_ii, ge_ii, is_n, isn_n, is_b, isn_b, add_ii, sub_ii, mul_ii, mod_ii, fdiv_ii, pow_ii, isNon, biD, intD_i, intD_b, esLen, beq_self_eq_true, ixD_tup, lsOf_new, seqD_tup, seqD_fl, slD_tup, bools, Option.map_some, true_and, ixD_fl, lenD_tup, lenD_fl, ix30, ix31, ix32, at20, at21, at30, at31, at32, List.filterMap_cons, List.filterMap_nil]
    exact q0 (.inl hp)
  have e1 : lnD x p a = lnT (av p) (sg p x % a) a (fst p x a) := by unfold lnD; rw [if_neg hp]
  by_cases hq : q = 0
  · have e : lnD y q c = .non := by unfold lnD; rw [if_pos hq]
    simp only [linesD, e, e1, lnT, wpSs, wpS, wpE, wpEs, wpC, wpAnd, wpOr, wpO, wpIt, opt_some, onI_int, onB_bl, onR_ref, arg1_one, look, joinO, start, List.map_cons, List.map_nil, List.length_cons, List.length_nil, List.replicate, List.cons_append, List.nil_append, List.append_nil, List.getElem?_cons_succ, List.getElem?_cons_zero, kcD, Nat.reduceAdd, Nat.reduceSub, br_t, br_f, br_n, asg, setAll, List.set_cons_succ, List.set_cons_zero, tgs, wipe, eq_ii, ne_ii, lt_ii, le_ii, gt_ii, ge_ii, is_n, isn_n, is_b, isn_b, add_ii, sub_ii, mul_ii, mod_ii, fdiv_ii, pow_ii, isNon, biD, intD_i, intD_b, esLen, beq_self_eq_true, ixD_tup, lsOf_new, seqD_tup, seqD_fl, slD_tup, bools, Option.map_some, true_and, ixD_fl, lenD_tup, lenD_fl, ix30, ix31, ix32, at20, at21, at30, at31, at32, List.filterMap_cons, List.filterMap_nil]
    exact q0 (.inr hq)
  have e2 : lnD y q c = lnT (av q) (sg q y % c) c (fst q y c) := by unfold lnD; rw [if_neg hq]
  have vp := av_bd bp
  have vq := av_bd bq
  have pM : 0 < kM p q a c := mulp (av_pos hp) hc
  have bM : Bd 3000 (kM p q a c) := vp.mul bc
  have sM := gdiv_pos (t := kF p q a c) pM
  simp only [linesD, e1, e2, lnT, wpSs, wpS, wpE, wpEs, wpC, wpAnd, wpOr, wpO, wpIt, opt_some, onI_int, onB_bl, onR_ref, arg1_one, look, joinO, start, List.map_cons, List.map_nil, List.length_cons, List.length_nil, List.replicate, List.cons_append, List.nil_append, List.append_nil, List.getElem?_cons_succ, List.getElem?_cons_zero, kcD, Nat.reduceAdd, Nat.reduceSub, br_t, br_f, br_n, asg, setAll, List.set_cons_succ, List.set_cons_zero, tgs, wipe, eq_ii, ne_ii, lt_ii, le_ii, gt_ii, ge_ii, is_n, isn_n, is_b, isn_b, add_ii, sub_ii, mul_ii, mod_ii, fdiv_ii, pow_ii, isNon, biD, intD_i, intD_b, esLen, beq_self_eq_true, ixD_tup, lsOf_new, seqD_tup, seqD_fl, slD_tup, bools, Option.map_some, true_and, ixD_fl, lenD_tup, lenD_fl, ix30, ix31, ix32, at20, at21, at30, at31, at32, List.filterMap_cons, List.filterMap_nil, at40, at41, at42, at43]
  refine ⟨vq.sm (by decide), (ba.mod ha).sm (by decide), vp.sm (by decide), (bc.mod hc).sm (by decide), vq.sm (by decide), ba.sm (by decide), vp.sm (by decide), bc.sm (by decide), ?_⟩
  refine call h1 ⟨kF p q a c, kRs x y p q a c, kM p q a c, rfl, pM, bM, ((vq.mul (ba.mod ha)).sub (vp.mul (bc.mod hc))).up (by decide), fun h => br_t.mpr (q1 hp hq h), fun h l l0 l1 hl => ?_⟩
  simp only [wpSs, wpS, wpE, wpEs, wpC, wpAnd, wpOr, wpO, wpIt, opt_some, onI_int, onB_bl, onR_ref, arg1_one, look, joinO, start, List.map_cons, List.map_nil, List.length_cons, List.length_nil, List.replicate, List.cons_append, List.nil_append, List.append_nil, List.getElem?_cons_succ, List.getElem?_cons_zero, kcD, Nat.reduceAdd, Nat.reduceSub, br_t, br_f, br_n, asg, setAll, List.set_cons_succ, List.set_cons_zero, tgs, wipe, eq_ii, ne_ii, lt_ii, le_ii, gt_ii, ge_ii, is_n, isn_n, is_b, isn_b, add_ii, sub_ii, mul_ii, mod_ii, fdiv_ii, pow_ii, isNon, biD, intD_i, intD_b, esLen, beq_self_eq_true, ixD_tup, lsOf_new, seqD_tup, seqD_fl, slD_tup, bools, Option.map_some, true_and, ixD_fl, lenD_tup, lenD_fl, ix30, ix31, ix32, at20, at21, at30, at31, at32, List.filterMap_cons, List.filterMap_nil]
  refine br_d (fun k => ⟨len_lim (by decide), q2 hp hq h l k (by unfold kG; omega) hl⟩) fun k => ⟨len_lim (by decide), q2 hp hq h _ sM (Int.le_refl _) ?_⟩
  have : l = 0 := by omega
  subst this
  rw [Int.mul_zero] at hl
  unfold IsCor
  have e : ∀ A B C : Int, A ∣ 0 - C → A ∣ B * A - C := fun A B C h => by
    have := Int.dvd_add h (Int.dvd_mul_left B A)
    have e : 0 - C + B * A = B * A - C := by omega
    rwa [e] at this
  exact e _ _ _ hl
def spCc : Sp := fun ds S Q _ => ∃ n : Int, 0 ≤ n ∧ ((ds = [.non, .int n] ∧ Q (.int 0) S) ∨ ∃ l b, ds = [prD l b, .int n] ∧ 0 < l ∧ l ≤ b ∧ Bd 3000 b ∧ Q (.int (FF n l b)) S)
theorem txt_cc {G : Gm} {ds : List D} {S0 : Sto} {Q : VK} {X : XK} {b : Ss} (hb : b = (.cons (.if_ (.or (.cmp .is_ (.v 0) (.k .non)) (.cons (.cmp .lt (.v 1) (.ix (.v 0) (.k (.int 0)))) .nil)) (.cons (.ret (.k (.int 0))) .nil) .nil) (.cons (.ret (.bin .add (.bin .fdiv (.bin .sub (.v 1) (.ix (.v 0) (.k (.int 0)))) (.ix (.v 0) (.k (.int 1)))) (.k (.int 1)))) .nil))) (h : spCc ds S0 Q X) : ds.length = 2 ∧ wpSs G b (start 2 ds) S0 (kR Q X) := by
  obtain ⟨n, hn, ⟨rfl, hq⟩ | ⟨l, b2, rfl, h0, h1, bb, hq⟩⟩ := h
  · subst hb
    refine ⟨rfl, ?_⟩
    simp only [wpSs, wpS, wpE, wpEs, wpC, wpAnd, wpOr, wpO, wpIt, opt_some, onI_int, onB_bl, onR_ref, arg1_one, look, joinO, start, List.map_cons, List.map_nil, List.length_cons, List.length_nil, List.replicate, List.cons_append, List.nil_append, List.append_nil, List.getElem?_cons_succ, List.getElem?_cons_zero, kcD, Nat.reduceAdd, Nat.reduceSub, br_t, br_f, br_n, asg, setAll, List.set_cons_succ, List.set_cons_zero, tgs, wipe, eq_ii, ne_ii, lt_ii, le_ii, gt_ii, ge_ii, is_n, isn_n, is_b, isn_b, add_ii, sub_ii, mul_ii, mod_ii, fdiv_ii, pow_ii, isNon, biD, intD_i, intD_b, esLen, beq_self_eq_true, ixD_tup, lsOf_new, seqD_tup, seqD_fl, slD_tup, bools, Option.map_some, true_and, ixD_fl, lenD_tup, lenD_fl, ix30, ix31, ix32, at20, at21, at30, at31, at32, List.filterMap_cons, List.filterMap_nil]
    exact hq
  · subst hb
    refine ⟨rfl, ?_⟩
    have hp : 0 < b2 := by omega
    have e0 : (-l) / b2 = -1 := by
      have : (-l) / b2 = (-l + b2) / b2 - 1 := by rw [Int.add_ediv_of_dvd_right (Int.dvd_refl _), Int.ediv_self (by omega)]; omega
      rw [this, Int.ediv_eq_zero_of_lt (by omega) (by omega)]
      rfl
    unfold FF at hq
    rw [e0] at hq
    simp only [wpSs, wpS, wpE, wpEs, wpC, wpAnd, wpOr, wpO, wpIt, opt_some, onI_int, onB_bl, onR_ref, arg1_one, look, joinO, start, List.map_cons, List.map_nil, List.length_cons, List.length_nil, List.replicate, List.cons_append, List.nil_append, List.append_nil, List.getElem?_cons_succ, List.getElem?_cons_zero, kcD, Nat.reduceAdd, Nat.reduceSub, br_t, br_f, br_n, asg, setAll, List.set_cons_succ, List.set_cons_zero, tgs, wipe, eq_ii, ne_ii, lt_ii, le_ii, gt_ii, ge_ii, is_n, isn_n, is_b, isn_b, add_ii, sub_ii, mul_ii, mod_ii, fdiv_ii, pow_ii, isNon, biD, intD_i, intD_b, esLen, beq_self_eq_true, ixD_tup, lsOf_new, seqD_tup, seqD_fl, slD_tup, bools, Option.map_some, true_and, ixD_fl, lenD_tup, lenD_fl, ix30, ix31, ix32, at20, at21, at30, at31, at32, List.filterMap_cons, List.filterMap_nil, fdiv_pos hp]
    refine br_d (fun h => ?_) fun h => ⟨by omega, bb.smd (by decide), ?_⟩
    · have : (n - l) / b2 = (n - l + b2) / b2 - 1 := by rw [Int.add_ediv_of_dvd_right (Int.dvd_refl _), Int.ediv_self (by omega)]; omega
      rw [this, Int.ediv_eq_zero_of_lt (by omega) (by omega)] at hq
      exact hq
    · have e : (n - l) / b2 - -1 = (n - l) / b2 + 1 := by omega
      rw [e] at hq; exact hq
theorem nn_nonneg {x d s t b : Int} (hs : 0 < s) (hb : 0 < b) : 0 ≤ Nn x d s t b := by
  unfold Nn
  split
  · omega
  · rename_i h
    refine Int.ediv_nonneg ?_ (Int.le_of_lt (mulp hs hb))
    have h1 := mulp (av_pos fun z => h (.inl z)) (show 0 < t by omega)
    have h2 := Int.mul_nonneg (Int.emod_nonneg (sg d x) (show s ≠ 0 by omega)) (Int.le_of_lt hb)
    omega
/-- a table, a shot, a time: all in bounds -/
def spCo : Sp := fun ds S Q _ => ∃ a c x y p q t b, ds = [linesD a c x y p q, prD t b] ∧ Sh a c x y p q t b ∧ ∀ z, Cnr x y p q a c (Nn x p a t b) z → Q (.int (Nn x p a t b + Nn y q c t b - z)) S
theorem txt_co {G : Gm} {ds : List D} {S0 : Sto} {Q : VK} {X : XK} {b : Ss} (hb : b = (.cons (.set (.v 2) (.call 23 (.cons (.ix (.v 0) (.k (.int 0))) (.cons (.v 1) .nil)))) (.cons (.ret (.bin .sub (.bin .add (.v 2) (.call 23 (.cons (.ix (.v 0) (.k (.int 1))) (.cons (.v 1) .nil)))) (.call 27 (.cons (.call 26 (.cons (.v 0) .nil)) (.cons (.v 2) .nil))))) .nil))) (h1 : G.fn 23 = spCnt) (h2 : G.fn 26 = spCorn) (h3 : G.fn 27 = spCc) (h : spCo ds S0 Q X) : ds.length = 2 ∧ wpSs G b (start 3 ds) S0 (kR Q X) := by
  obtain ⟨a, c, x, y, p, q, t, b2, rfl, k, hq⟩ := h
  subst hb
  refine ⟨rfl, ?_⟩
  have n0 := nn_nonneg (x := x) (d := p) (t := t) k.a0 k.b0
  simp only [linesD, wpSs, wpS, wpE, wpEs, wpC, wpAnd, wpOr, wpO, wpIt, opt_some, onI_int, onB_bl, onR_ref, arg1_one, look, joinO, start, List.map_cons, List.map_nil, List.length_cons, List.length_nil, List.replicate, List.cons_append, List.nil_append, List.append_nil, List.getElem?_cons_succ, List.getElem?_cons_zero, kcD, Nat.reduceAdd, Nat.reduceSub, br_t, br_f, br_n, asg, setAll, List.set_cons_succ, List.set_cons_zero, tgs, wipe, eq_ii, ne_ii, lt_ii, le_ii, gt_ii, ge_ii, is_n, isn_n, is_b, isn_b, add_ii, sub_ii, mul_ii, mod_ii, fdiv_ii, pow_ii, isNon, biD, intD_i, intD_b, esLen, beq_self_eq_true, ixD_tup, lsOf_new, seqD_tup, seqD_fl, slD_tup, bools, Option.map_some, true_and, ixD_fl, lenD_tup, lenD_fl, ix30, ix31, ix32, at20, at21, at30, at31, at32, List.filterMap_cons, List.filterMap_nil]
  refine call h1 ⟨x, p, a, t, b2, rfl, k.a0, k.b0, k.ba, k.bp, k.bt, k.bb, ?_⟩
  try simp only [wpSs, wpS, wpE, wpEs, wpC, wpAnd, wpOr, wpO, wpIt, opt_some, onI_int, onB_bl, onR_ref, arg1_one, look, joinO, start, List.map_cons, List.map_nil, List.length_cons, List.length_nil, List.replicate, List.cons_append, List.nil_append, List.append_nil, List.getElem?_cons_succ, List.getElem?_cons_zero, kcD, Nat.reduceAdd, Nat.reduceSub, br_t, br_f, br_n, asg, setAll, List.set_cons_succ, List.set_cons_zero, tgs, wipe, eq_ii, ne_ii, lt_ii, le_ii, gt_ii, ge_ii, is_n, isn_n, is_b, isn_b, add_ii, sub_ii, mul_ii, mod_ii, fdiv_ii, pow_ii, isNon, biD, intD_i, intD_b, esLen, beq_self_eq_true, ixD_tup, lsOf_new, seqD_tup, seqD_fl, slD_tup, bools, Option.map_some, true_and, ixD_fl, lenD_tup, lenD_fl, ix30, ix31, ix32, at20, at21, at30, at31, at32, List.filterMap_cons, List.filterMap_nil]
  refine call h1 ⟨y, q, c, t, b2, rfl, k.c0, k.b0, k.bc, k.bq, k.bt, k.bb, ?_⟩
  try simp only [wpSs, wpS, wpE, wpEs, wpC, wpAnd, wpOr, wpO, wpIt, opt_some, onI_int, onB_bl, onR_ref, arg1_one, look, joinO, start, List.map_cons, List.map_nil, List.length_cons, List.length_nil, List.replicate, List.cons_append, List.nil_append, List.append_nil, List.getElem?_cons_succ, List.getElem?_cons_zero, kcD, Nat.reduceAdd, Nat.reduceSub, br_t, br_f, br_n, asg, setAll, List.set_cons_succ, List.set_cons_zero, tgs, wipe, eq_ii, ne_ii, lt_ii, le_ii, gt_ii, ge_ii, is_n, isn_n, is_b, isn_b, add_ii, sub_ii, mul_ii, mod_ii, fdiv_ii, pow_ii, isNon, biD, intD_i, intD_b, esLen, beq_self_eq_true, ixD_tup, lsOf_new, seqD_tup, seqD_fl, slD_tup, bools, Option.map_some, true_and, ixD_fl, lenD_tup, lenD_fl, ix30, ix31, ix32, at20, at21, at30, at31, at32, List.filterMap_cons, List.filterMap_nil]
  refine call h2 ⟨a, c, x, y, p, q, rfl, k.a0, k.c0, k.ba, k.bc, k.bp, k.bq, fun h => call h3 ⟨_, n0, .inl ⟨rfl, hq 0 ⟨fun _ => rfl, fun _ _ _ => rfl, fun hp hq => absurd h (by omega)⟩⟩⟩, fun hp hq' h => call h3 ⟨_, n0, .inl ⟨rfl, hq 0 ⟨fun _ => rfl, fun _ _ _ => rfl, fun _ _ z => absurd z h⟩⟩⟩, fun hp hq' h l l0 l1 hl => call h3 ⟨_, n0, .inr ⟨l, _, rfl, l0, l1, ?_, hq _ ⟨fun z => absurd z (by omega), fun _ _ z => absurd h z, fun _ _ _ => .inr ⟨l, hl, rfl⟩⟩⟩⟩⟩
  exact ((av_bd k.bp).mul k.bc).div
def spHits : Sp := fun ds S Q _ => ∃ a c x y p q t b, ds = [prD a c, shD x y p q, prD t b] ∧ On a c x y p q t b ∧ ∀ z S', Ext S S' → Cnr x y p q a c (Nn x p a t b) z → Q (.int (Nn x p a t b + Nn y q c t b - z)) S'
theorem txt_hits {G : Gm} {ds : List D} {S0 : Sto} {Q : VK} {X : XK} {b : Ss} (hb : b = (.cons (.ex (.call 10 (.cons (.v 0) (.cons (.v 1) .nil)))) (.cons (.ex (.call 11 (.cons (.v 2) .nil))) (.cons (.ret (.call 28 (.cons (.call 22 (.cons (.v 0) (.cons (.v 1) .nil))) (.cons (.v 2) .nil)))) .nil)))) (h9 : G.fn 10 = spCkShot) (h10 : G.fn 11 = spCkTime) (h12 : G.fn 22 = spLines) (h17 : G.fn 28 = spCo) (h : spHits ds S0 Q X) : ds.length = 3 ∧ wpSs G b (start 3 ds) S0 (kR Q X) := by
  obtain ⟨a, c, x, y, p, q, t, b2, rfl, k, hq⟩ := h
  subst hb
  refine ⟨rfl, ?_⟩
  simp only [wpSs, wpS, wpE, wpEs, wpC, wpAnd, wpOr, wpO, wpIt, opt_some, onI_int, onB_bl, onR_ref, arg1_one, look, joinO, start, List.map_cons, List.map_nil, List.length_cons, List.length_nil, List.replicate, List.cons_append, List.nil_append, List.append_nil, List.getElem?_cons_succ, List.getElem?_cons_zero, kcD, Nat.reduceAdd, Nat.reduceSub, br_t, br_f, br_n, asg, setAll, List.set_cons_succ, List.set_cons_zero, tgs, wipe, eq_ii, ne_ii, lt_ii, le_ii, gt_ii, ge_ii, is_n, isn_n, is_b, isn_b, add_ii, sub_ii, mul_ii, mod_ii, fdiv_ii, pow_ii, isNon, biD, intD_i, intD_b, esLen, beq_self_eq_true, ixD_tup, lsOf_new, seqD_tup, seqD_fl, slD_tup, bools, Option.map_some, true_and, ixD_fl, lenD_tup, lenD_fl, ix30, ix31, ix32, at20, at21, at30, at31, at32, List.filterMap_cons, List.filterMap_nil]
  refine call h9 ⟨a, c, _, rfl, k.sh.a0, k.sh.c0, vl_sh, k.on, fun S1 k1 => ?_⟩
  refine call h10 ⟨_, rfl, vl_tab, k.fr, fun S2 k2 => ?_⟩
  refine call h12 ⟨a, c, x, y, p, q, rfl, k.sh.a0, k.sh.c0, k.sh.ba, k.sh.bc, ?_⟩
  try simp only [wpSs, wpS, wpE, wpEs, wpC, wpAnd, wpOr, wpO, wpIt, opt_some, onI_int, onB_bl, onR_ref, arg1_one, look, joinO, start, List.map_cons, List.map_nil, List.length_cons, List.length_nil, List.replicate, List.cons_append, List.nil_append, List.append_nil, List.getElem?_cons_succ, List.getElem?_cons_zero, kcD, Nat.reduceAdd, Nat.reduceSub, br_t, br_f, br_n, asg, setAll, List.set_cons_succ, List.set_cons_zero, tgs, wipe, eq_ii, ne_ii, lt_ii, le_ii, gt_ii, ge_ii, is_n, isn_n, is_b, isn_b, add_ii, sub_ii, mul_ii, mod_ii, fdiv_ii, pow_ii, isNon, biD, intD_i, intD_b, esLen, beq_self_eq_true, ixD_tup, lsOf_new, seqD_tup, seqD_fl, slD_tup, bools, Option.map_some, true_and, ixD_fl, lenD_tup, lenD_fl, ix30, ix31, ix32, at20, at21, at30, at31, at32, List.filterMap_cons, List.filterMap_nil]
  exact call h17 ⟨a, c, x, y, p, q, t, b2, rfl, k.sh, fun z hz => hq z _ (k1.trans k2) hz⟩
/-! ### letters -/
def isL (ch : Nat) : Prop := ch = 87 ∨ ch = 69 ∨ ch = 83 ∨ ch = 78
def spCush : Sp := fun ds S Q _ => ∃ ch, ds = [.str [ch]] ∧ isL ch ∧ Q (.bl true) S
theorem txt_cush {G : Gm} {ds : List D} {S0 : Sto} {Q : VK} {X : XK} {b : Ss} (hb : b = (.cons (.ret (.and (.isi (.v 0) .str) (.cons (.cmp .in_ (.v 0) (.tup (.cons (.k (.str [87])) (.cons (.k (.str [69])) (.cons (.k (.str [83])) (.cons (.k (.str [78])) .nil)))))) .nil))) .nil)) (h : spCush ds S0 Q X) : ds.length = 1 ∧ wpSs G b (start 1 ds) S0 (kR Q X) := by
  obtain ⟨ch, rfl, hl, hq⟩ := h
  subst hb
  refine ⟨rfl, ?_⟩
  have t1 : isTy S0 (.str [ch]) .str = some true := rfl
  simp only [wpSs, wpS, wpE, wpEs, wpC, wpAnd, wpOr, wpO, wpIt, opt_some, onI_int, onB_bl, onR_ref, arg1_one, look, joinO, start, List.map_cons, List.map_nil, List.length_cons, List.length_nil, List.replicate, List.cons_append, List.nil_append, List.append_nil, List.getElem?_cons_succ, List.getElem?_cons_zero, kcD, Nat.reduceAdd, Nat.reduceSub, br_t, br_f, br_n, asg, setAll, List.set_cons_succ, List.set_cons_zero, tgs, wipe, eq_ii, ne_ii, lt_ii, le_ii, gt_ii, ge_ii, is_n, isn_n, is_b, isn_b, add_ii, sub_ii, mul_ii, mod_ii, fdiv_ii, pow_ii, isNon, biD, intD_i, intD_b, esLen, beq_self_eq_true, ixD_tup, lsOf_new, seqD_tup, seqD_fl, slD_tup, bools, Option.map_some, true_and, ixD_fl, lenD_tup, lenD_fl, ix30, ix31, ix32, at20, at21, at30, at31, at32, List.filterMap_cons, List.filterMap_nil, t1]
  have f : fit dep S0 (.str [ch]) = true ∧ fitL (fit dep S0) [.str [87], .str [69], .str [83], .str [78]] = true ∧ inB S0 (.str [ch]) [.str [87], .str [69], .str [83], .str [78]] = true := by
    rcases hl with rfl | rfl | rfl | rfl <;> exact ⟨rfl, rfl, rfl⟩
  refine ⟨len_lim (by decide), f.1, f.2.1, ?_⟩
  rw [f.2.2]
  exact hq
/-- the letter of the first hit is letters[f % 2] -/
def spLet : Sp := fun ds S Q _ => ∃ (v o s f n : Int) (g h : Nat), ds = [lnT v o s f, .str [g, h], .int n] ∧ Q (.str [if (f + n - 1) % 2 = 0 then g else h]) S
theorem txt_let {G : Gm} {ds : List D} {S0 : Sto} {Q : VK} {X : XK} {b : Ss} (hb : b = (.cons (.ret (.ix (.v 1) (.bin .mod (.bin .sub (.bin .add (.ix (.v 0) (.k (.int 3))) (.v 2)) (.k (.int 1))) (.k (.int 2))))) .nil)) (h : spLet ds S0 Q X) : ds.length = 3 ∧ wpSs G b (start 3 ds) S0 (kR Q X) := by
  obtain ⟨v, o, s, f, n, g, h', rfl, hq⟩ := h
  subst hb
  refine ⟨rfl, ?_⟩
  have p2 : (0 : Int) < 2 := by decide
  simp only [wpSs, wpS, wpE, wpEs, wpC, wpAnd, wpOr, wpO, wpIt, opt_some, onI_int, onB_bl, onR_ref, arg1_one, look, joinO, start, List.map_cons, List.map_nil, List.length_cons, List.length_nil, List.replicate, List.cons_append, List.nil_append, List.append_nil, List.getElem?_cons_succ, List.getElem?_cons_zero, kcD, Nat.reduceAdd, Nat.reduceSub, br_t, br_f, br_n, asg, setAll, List.set_cons_succ, List.set_cons_zero, tgs, wipe, eq_ii, ne_ii, lt_ii, le_ii, gt_ii, ge_ii, is_n, isn_n, is_b, isn_b, add_ii, sub_ii, mul_ii, mod_ii, fdiv_ii, pow_ii, isNon, biD, intD_i, intD_b, esLen, beq_self_eq_true, ixD_tup, lsOf_new, seqD_tup, seqD_fl, slD_tup, bools, Option.map_some, true_and, ixD_fl, lenD_tup, lenD_fl, ix30, ix31, ix32, at20, at21, at30, at31, at32, List.filterMap_cons, List.filterMap_nil, lnT, at43, fmod_pos p2]
  refine ⟨by decide, ?_⟩
  have : (f + n - 1) % 2 = 0 ∨ (f + n - 1) % 2 = 1 := by omega
  rcases this with e | e <;> rw [e] at hq ⊢
  · exact ⟨len_lim (by simp), hq⟩
  · exact ⟨len_lim (by simp), hq⟩
/-- how many of n hits in a row, the first one with index f, have even indexes (e) or odd ones -/
def lc (n f : Int) (e : Bool) : Int := if n = 0 then 0 else if (f % 2 = 0) = (e = true) then (n + 1) / 2 else n / 2
def spLc : Sp := fun ds S Q _ => ∃ (x d s t b : Int) (g h : Nat) (e : Bool), ds = [lnD x d s, .str [g, h], .str [if e then g else h], prD t b] ∧ g ≠ h ∧ 0 < s ∧ 0 < b ∧ Bd 1500 s ∧ Bd 1500 d ∧ Bd 1500 t ∧ Bd 1500 b ∧ Q (.int (lc (Nn x d s t b) (fst d x s) e)) S
theorem eq_ss {x y : Tx} {S : Sto} {Q : Bool → Prop} : cmpD .eq (.str x) (.str y) S Q = Q (x == y) := rfl
theorem ne_ss {x y : Tx} {S : Sto} {Q : Bool → Prop} : cmpD .ne (.str x) (.str y) S Q = Q (!(x == y)) := rfl
theorem txt_lc {G : Gm} {ds : List D} {S0 : Sto} {Q : VK} {X : XK} {b : Ss} (hb : b = (.cons (.set (.v 4) (.call 23 (.cons (.v 0) (.cons (.v 3) .nil)))) (.cons (.if_ (.cmp .eq (.v 4) (.k (.int 0))) (.cons (.ret (.k (.int 0))) .nil) .nil) (.cons (.ret (.ite (.cmp .eq (.call 25 (.cons (.v 0) (.cons (.v 1) (.cons (.k (.int 1)) .nil)))) (.v 2)) (.bin .fdiv (.bin .add (.v 4) (.k (.int 1))) (.k (.int 2))) (.bin .fdiv (.v 4) (.k (.int 2))))) .nil)))) (h13 : G.fn 23 = spCnt) (h14 : G.fn 25 = spLet) (h : spLc ds S0 Q X) : ds.length = 4 ∧ wpSs G b (start 5 ds) S0 (kR Q X) := by
  obtain ⟨x, d, s, t, b2, g, h, e, rfl, hgh, hs, hb', bs, bd, bt, bb, hq⟩ := h
  subst hb
  refine ⟨rfl, ?_⟩
  have p2 : (0 : Int) < 2 := by decide
  have s2 : smd 2 := smd_of 8 (by decide) (by decide)
  simp only [wpSs, wpS, wpE, wpEs, wpC, wpAnd, wpOr, wpO, wpIt, opt_some, onI_int, onB_bl, onR_ref, arg1_one, look, joinO, start, List.map_cons, List.map_nil, List.length_cons, List.length_nil, List.replicate, List.cons_append, List.nil_append, List.append_nil, List.getElem?_cons_succ, List.getElem?_cons_zero, kcD, Nat.reduceAdd, Nat.reduceSub, br_t, br_f, br_n, asg, setAll, List.set_cons_succ, List.set_cons_zero, tgs, wipe, eq_ii, ne_ii, lt_ii, le_ii, gt_ii, ge_ii, is_n, isn_n, is_b, isn_b, add_ii, sub_ii, mul_ii, mod_ii, fdiv_ii, pow_ii, isNon, biD, intD_i, intD_b, esLen, beq_self_eq_true, ixD_tup, lsOf_new, seqD_tup, seqD_fl, slD_tup, bools, Option.map_some, true_and, ixD_fl, lenD_tup, lenD_fl, ix30, ix31, ix32, at20, at21, at30, at31, at32, List.filterMap_cons, List.filterMap_nil]
  refine call h13 ⟨x, d, s, t, b2, rfl, hs, hb', bs, bd, bt, bb, ?_⟩
  simp only [wpSs, wpS, wpE, wpEs, wpC, wpAnd, wpOr, wpO, wpIt, opt_some, onI_int, onB_bl, onR_ref, arg1_one, look, joinO, start, List.map_cons, List.map_nil, List.length_cons, List.length_nil, List.replicate, List.cons_append, List.nil_append, List.append_nil, List.getElem?_cons_succ, List.getElem?_cons_zero, kcD, Nat.reduceAdd, Nat.reduceSub, br_t, br_f, br_n, asg, setAll, List.set_cons_succ, List.set_cons_zero, tgs, wipe, eq_ii, ne_ii, lt_ii, le_ii, gt_ii, ge_ii, is_n, isn_n, is_b, isn_b, add_ii, sub_ii, mul_ii, mod_ii, fdiv_ii, pow_ii, isNon, biD, intD_i, intD_b, esLen, beq_self_eq_true, ixD_tup, lsOf_new, seqD_tup, seqD_fl, slD_tup, bools, Option.map_some, true_and, ixD_fl, lenD_tup, lenD_fl, ix30, ix31, ix32, at20, at21, at30, at31, at32, List.filterMap_cons, List.filterMap_nil, fdiv_pos p2]
  unfold lc at hq
  refine br_if (fun h0 => ?_) fun h0 => ?_
  · rw [if_pos (by simpa using h0)] at hq; exact hq
  · have h0 : Nn x d s t b2 ≠ 0 := by simpa using h0
    rw [if_neg h0] at hq
    have hd : d ≠ 0 := fun z => h0 (by unfold Nn; rw [if_pos (.inl z)])
    have ed : lnD x d s = lnT (av d) (sg d x % s) s (fst d x s) := by unfold lnD; rw [if_neg hd]
    rw [ed]
    refine call h14 ⟨_, _, _, fst d x s, 1, g, h, rfl, ?_⟩
    have ef : fst d x s + 1 - 1 = fst d x s := by omega
    simp only [eq_ss, ef]
    have hbq : (([if fst d x s % 2 = 0 then g else h] : Tx) == [if e then g else h]) = decide ((fst d x s % 2 = 0) = (e = true)) := by
      by_cases h1 : fst d x s % 2 = 0 <;> cases e <;> simp [h1, hgh, Ne.symm hgh]
    rw [hbq]
    refine br_d (fun k => ?_) fun k => ?_
    · rw [if_pos k] at hq; exact ⟨by decide, s2, hq⟩
    · rw [if_neg k] at hq; exact ⟨by decide, s2, hq⟩
def cuN (a c x y p q t b : Int) (ch : Nat) : Int := if ch = 87 then lc (Nn x p a t b) (fst p x a) true else if ch = 69 then lc (Nn x p a t b) (fst p x a) false else if ch = 83 then lc (Nn y q c t b) (fst q y c) true else lc (Nn y q c t b) (fst q y c) false
def letD : D := .tup [.str [87, 69], .str [83, 78]]
def spCu : Sp := fun ds S Q _ => ∃ a c x y p q t b ch, ds = [linesD a c x y p q, .str [ch], prD t b] ∧ isL ch ∧ Sh a c x y p q t b ∧ Q (.int (cuN a c x y p q t b ch)) S
theorem txt_cu {G : Gm} {ds : List D} {S0 : Sto} {Q : VK} {X : XK} {b : Ss} (hb : b = (.cons (.set (.v 3) (.ite (.cmp .in_ (.v 1) (.ix (.g 0) (.k (.int 0)))) (.k (.int 0)) (.k (.int 1)))) (.cons (.ret (.call 38 (.cons (.ix (.v 0) (.v 3)) (.cons (.ix (.g 0) (.v 3)) (.cons (.v 1) (.cons (.v 2) .nil)))))) .nil))) (h20 : G.fn 38 = spLc) (hc : G.con 0 = letD) (h : spCu ds S0 Q X) : ds.length = 3 ∧ wpSs G b (start 4 ds) S0 (kR Q X) := by
  obtain ⟨a, c, x, y, p, q, t, b2, ch, rfl, hl, k, hq⟩ := h
  subst hb
  refine ⟨rfl, ?_⟩
  simp only [wpSs, wpS, wpE, wpEs, wpC, wpAnd, wpOr, wpO, wpIt, opt_some, onI_int, onB_bl, onR_ref, arg1_one, look, joinO, start, List.map_cons, List.map_nil, List.length_cons, List.length_nil, List.replicate, List.cons_append, List.nil_append, List.append_nil, List.getElem?_cons_succ, List.getElem?_cons_zero, kcD, Nat.reduceAdd, Nat.reduceSub, br_t, br_f, br_n, asg, setAll, List.set_cons_succ, List.set_cons_zero, tgs, wipe, eq_ii, ne_ii, lt_ii, le_ii, gt_ii, ge_ii, is_n, isn_n, is_b, isn_b, add_ii, sub_ii, mul_ii, mod_ii, fdiv_ii, pow_ii, isNon, biD, intD_i, intD_b, esLen, beq_self_eq_true, ixD_tup, lsOf_new, seqD_tup, seqD_fl, slD_tup, bools, Option.map_some, true_and, ixD_fl, lenD_tup, lenD_fl, ix30, ix31, ix32, at20, at21, at30, at31, at32, List.filterMap_cons, List.filterMap_nil, hc, letD, linesD]
  rcases hl with rfl | rfl | rfl | rfl
  · refine ⟨fun _ => ?_, fun z => absurd z (by decide)⟩
    try simp only [wpSs, wpS, wpE, wpEs, wpC, wpAnd, wpOr, wpO, wpIt, opt_some, onI_int, onB_bl, onR_ref, arg1_one, look, joinO, start, List.map_cons, List.map_nil, List.length_cons, List.length_nil, List.replicate, List.cons_append, List.nil_append, List.append_nil, List.getElem?_cons_succ, List.getElem?_cons_zero, kcD, Nat.reduceAdd, Nat.reduceSub, br_t, br_f, br_n, asg, setAll, List.set_cons_succ, List.set_cons_zero, tgs, wipe, eq_ii, ne_ii, lt_ii, le_ii, gt_ii, ge_ii, is_n, isn_n, is_b, isn_b, add_ii, sub_ii, mul_ii, mod_ii, fdiv_ii, pow_ii, isNon, biD, intD_i, intD_b, esLen, beq_self_eq_true, ixD_tup, lsOf_new, seqD_tup, seqD_fl, slD_tup, bools, Option.map_some, true_and, ixD_fl, lenD_tup, lenD_fl, ix30, ix31, ix32, at20, at21, at30, at31, at32, List.filterMap_cons, List.filterMap_nil]
    exact call h20 ⟨x, p, a, t, b2, 87, 69, true, rfl, by decide, k.a0, k.b0, k.ba, k.bp, k.bt, k.bb, hq⟩
  · refine ⟨fun _ => ?_, fun z => absurd z (by decide)⟩
    try simp only [wpSs, wpS, wpE, wpEs, wpC, wpAnd, wpOr, wpO, wpIt, opt_some, onI_int, onB_bl, onR_ref, arg1_one, look, joinO, start, List.map_cons, List.map_nil, List.length_cons, List.length_nil, List.replicate, List.cons_append, List.nil_append, List.append_nil, List.getElem?_cons_succ, List.getElem?_cons_zero, kcD, Nat.reduceAdd, Nat.reduceSub, br_t, br_f, br_n, asg, setAll, List.set_cons_succ, List.set_cons_zero, tgs, wipe, eq_ii, ne_ii, lt_ii, le_ii, gt_ii, ge_ii, is_n, isn_n, is_b, isn_b, add_ii, sub_ii, mul_ii, mod_ii, fdiv_ii, pow_ii, isNon, biD, intD_i, intD_b, esLen, beq_self_eq_true, ixD_tup, lsOf_new, seqD_tup, seqD_fl, slD_tup, bools, Option.map_some, true_and, ixD_fl, lenD_tup, lenD_fl, ix30, ix31, ix32, at20, at21, at30, at31, at32, List.filterMap_cons, List.filterMap_nil]
    exact call h20 ⟨x, p, a, t, b2, 87, 69, false, rfl, by decide, k.a0, k.b0, k.ba, k.bp, k.bt, k.bb, hq⟩
  · refine ⟨fun z => absurd z (by decide), fun _ => ?_⟩
    try simp only [wpSs, wpS, wpE, wpEs, wpC, wpAnd, wpOr, wpO, wpIt, opt_some, onI_int, onB_bl, onR_ref, arg1_one, look, joinO, start, List.map_cons, List.map_nil, List.length_cons, List.length_nil, List.replicate, List.cons_append, List.nil_append, List.append_nil, List.getElem?_cons_succ, List.getElem?_cons_zero, kcD, Nat.reduceAdd, Nat.reduceSub, br_t, br_f, br_n, asg, setAll, List.set_cons_succ, List.set_cons_zero, tgs, wipe, eq_ii, ne_ii, lt_ii, le_ii, gt_ii, ge_ii, is_n, isn_n, is_b, isn_b, add_ii, sub_ii, mul_ii, mod_ii, fdiv_ii, pow_ii, isNon, biD, intD_i, intD_b, esLen, beq_self_eq_true, ixD_tup, lsOf_new, seqD_tup, seqD_fl, slD_tup, bools, Option.map_some, true_and, ixD_fl, lenD_tup, lenD_fl, ix30, ix31, ix32, at20, at21, at30, at31, at32, List.filterMap_cons, List.filterMap_nil]
    exact call h20 ⟨y, q, c, t, b2, 83, 78, true, rfl, by decide, k.c0, k.b0, k.bc, k.bq, k.bt, k.bb, hq⟩
  · refine ⟨fun z => absurd z (by decide), fun _ => ?_⟩
    try simp only [wpSs, wpS, wpE, wpEs, wpC, wpAnd, wpOr, wpO, wpIt, opt_some, onI_int, onB_bl, onR_ref, arg1_one, look, joinO, start, List.map_cons, List.map_nil, List.length_cons, List.length_nil, List.replicate, List.cons_append, List.nil_append, List.append_nil, List.getElem?_cons_succ, List.getElem?_cons_zero, kcD, Nat.reduceAdd, Nat.reduceSub, br_t, br_f, br_n, asg, setAll, List.set_cons_succ, List.set_cons_zero, tgs, wipe, eq_ii, ne_ii, lt_ii, le_ii, gt_ii, ge_ii, is_n, isn_n, is_b, isn_b, add_ii, sub_ii, mul_ii, mod_ii, fdiv_ii, pow_ii, isNon, biD, intD_i, intD_b, esLen, beq_self_eq_true, ixD_tup, lsOf_new, seqD_tup, seqD_fl, slD_tup, bools, Option.map_some, true_and, ixD_fl, lenD_tup, lenD_fl, ix30, ix31, ix32, at20, at21, at30, at31, at32, List.filterMap_cons, List.filterMap_nil]
    exact call h20 ⟨y, q, c, t, b2, 83, 78, false, rfl, by decide, k.c0, k.b0, k.bc, k.bq, k.bt, k.bb, hq⟩
def spCount : Sp := fun ds S Q _ => ∃ a c x y p q t b ch, ds = [prD a c, shD x y p q, .str [ch], prD t b] ∧ isL ch ∧ On a c x y p q t b ∧ ∀ S', Ext S S' → Q (.int (cuN a c x y p q t b ch)) S'
theorem txt_count {G : Gm} {ds : List D} {S0 : Sto} {Q : VK} {X : XK} {b : Ss} (hb : b = (.cons (.ex (.call 10 (.cons (.v 0) (.cons (.v 1) .nil)))) (.cons (.if_ (.not (.call 37 (.cons (.v 2) .nil))) (.cons .nev .nil) .nil) (.cons (.ex (.call 11 (.cons (.v 3) .nil))) (.cons (.ret (.call 39 (.cons (.call 22 (.cons (.v 0) (.cons (.v 1) .nil))) (.cons (.v 2) (.cons (.v 3) .nil))))) .nil))))) (h9 : G.fn 10 = spCkShot) (h10 : G.fn 11 = spCkTime) (h12 : G.fn 22 = spLines) (h19 : G.fn 37 = spCush) (h21 : G.fn 39 = spCu) (h : spCount ds S0 Q X) : ds.length = 4 ∧ wpSs G b (start 4 ds) S0 (kR Q X) := by
  obtain ⟨a, c, x, y, p, q, t, b2, ch, rfl, hl, k, hq⟩ := h
  subst hb
  refine ⟨rfl, ?_⟩
  simp only [wpSs, wpS, wpE, wpEs, wpC, wpAnd, wpOr, wpO, wpIt, opt_some, onI_int, onB_bl, onR_ref, arg1_one, look, joinO, start, List.map_cons, List.map_nil, List.length_cons, List.length_nil, List.replicate, List.cons_append, List.nil_append, List.append_nil, List.getElem?_cons_succ, List.getElem?_cons_zero, kcD, Nat.reduceAdd, Nat.reduceSub, br_t, br_f, br_n, asg, setAll, List.set_cons_succ, List.set_cons_zero, tgs, wipe, eq_ii, ne_ii, lt_ii, le_ii, gt_ii, ge_ii, is_n, isn_n, is_b, isn_b, add_ii, sub_ii, mul_ii, mod_ii, fdiv_ii, pow_ii, isNon, biD, intD_i, intD_b, esLen, beq_self_eq_true, ixD_tup, lsOf_new, seqD_tup, seqD_fl, slD_tup, bools, Option.map_some, true_and, ixD_fl, lenD_tup, lenD_fl, ix30, ix31, ix32, at20, at21, at30, at31, at32, List.filterMap_cons, List.filterMap_nil]
  refine call h9 ⟨a, c, _, rfl, k.sh.a0, k.sh.c0, vl_sh, k.on, fun S1 k1 => ?_⟩
  refine call h19 ⟨ch, rfl, hl, ?_⟩
  simp only [wpSs, wpS, wpE, wpEs, wpC, wpAnd, wpOr, wpO, wpIt, opt_some, onI_int, onB_bl, onR_ref, arg1_one, look, joinO, start, List.map_cons, List.map_nil, List.length_cons, List.length_nil, List.replicate, List.cons_append, List.nil_append, List.append_nil, List.getElem?_cons_succ, List.getElem?_cons_zero, kcD, Nat.reduceAdd, Nat.reduceSub, br_t, br_f, br_n, asg, setAll, List.set_cons_succ, List.set_cons_zero, tgs, wipe, eq_ii, ne_ii, lt_ii, le_ii, gt_ii, ge_ii, is_n, isn_n, is_b, isn_b, add_ii, sub_ii, mul_ii, mod_ii, fdiv_ii, pow_ii, isNon, biD, intD_i, intD_b, esLen, beq_self_eq_true, ixD_tup, lsOf_new, seqD_tup, seqD_fl, slD_tup, bools, Option.map_some, true_and, ixD_fl, lenD_tup, lenD_fl, ix30, ix31, ix32, at20, at21, at30, at31, at32, List.filterMap_cons, List.filterMap_nil]
  refine call h10 ⟨_, rfl, vl_tab, k.fr, fun S2 k2 => ?_⟩
  refine call h12 ⟨a, c, x, y, p, q, rfl, k.sh.a0, k.sh.c0, k.sh.ba, k.sh.bc, ?_⟩
  try simp only [wpSs, wpS, wpE, wpEs, wpC, wpAnd, wpOr, wpO, wpIt, opt_some, onI_int, onB_bl, onR_ref, arg1_one, look, joinO, start, List.map_cons, List.map_nil, List.length_cons, List.length_nil, List.replicate, List.cons_append, List.nil_append, List.append_nil, List.getElem?_cons_succ, List.getElem?_cons_zero, kcD, Nat.reduceAdd, Nat.reduceSub, br_t, br_f, br_n, asg, setAll, List.set_cons_succ, List.set_cons_zero, tgs, wipe, eq_ii, ne_ii, lt_ii, le_ii, gt_ii, ge_ii, is_n, isn_n, is_b, isn_b, add_ii, sub_ii, mul_ii, mod_ii, fdiv_ii, pow_ii, isNon, biD, intD_i, intD_b, esLen, beq_self_eq_true, ixD_tup, lsOf_new, seqD_tup, seqD_fl, slD_tup, bools, Option.map_some, true_and, ixD_fl, lenD_tup, lenD_fl, ix30, ix31, ix32, at20, at21, at30, at31, at32, List.filterMap_cons, List.filterMap_nil]
  exact call h21 ⟨a, c, x, y, p, q, t, b2, ch, rfl, hl, k.sh, hq _ (k1.trans k2)⟩
end M
namespace M
theorem low_eq {A B C E : Int} (hB : 0 < B) (hE : 0 < E) (h : A * E = C * B) : low A B = low C E := by
  rw [← low_scale (u := A) (v := B) hE, ← low_scale (u := C) (v := E) hB]
  have e1 : E * A = B * C := by grind
  rw [e1, Int.mul_comm E B]
/-- the parts of a fraction in lowest terms -/
theorem low_cmp {A B : Int} (hB : 0 < B) : ∃ m n, low A B = prD m n ∧ m * B = A * n ∧ 0 < n ∧ (∀ k, Bd k A → Bd k m) ∧ (∀ k, Bd k B → Bd k n) := by
  refine ⟨A / ((Int.gcd A B : Nat) : Int), B / ((Int.gcd A B : Nat) : Int), rfl, ?_, gdiv_pos hB, fun k h => h.div, fun k h => h.div⟩
  have h1 := Int.mul_ediv_cancel' (Int.gcd_dvd_left A B)
  have h2 := Int.mul_ediv_cancel' (Int.gcd_dvd_right A B)
  generalize A / ((Int.gcd A B : Nat) : Int) = m at *
  generalize B / ((Int.gcd A B : Nat) : Int) = n at *
  generalize ((Int.gcd A B : Nat) : Int) = g at *
  rw [← h1, ← h2]
  grind
theorem pr_inj {a b c d : Int} (h : prD a b = prD c d) : a = c ∧ b = d := by
  unfold prD at h
  injection h with h
  injection h with h1 h
  injection h with h2 _
  injection h1 with h1
  injection h2 with h2
  exact ⟨h1, h2⟩
theorem low_iff {A B C E : Int} (hB : 0 < B) (hE : 0 < E) : low A B = low C E ↔ A * E = C * B := by
  refine ⟨fun h => ?_, low_eq hB hE⟩
  obtain ⟨m, n, e1, h1, n0, _, _⟩ := low_cmp (A := A) hB
  obtain ⟨m', n', e2, h2, n0', _, _⟩ := low_cmp (A := C) hE
  rw [e1, e2] at h
  obtain ⟨rfl, rfl⟩ := pr_inj h
  refine Int.eq_of_mul_eq_mul_right (show n ≠ 0 by omega) ?_
  have e3 : A * E * n = A * n * E := by grind
  have e4 : C * B * n = C * n * B := by grind
  rw [e3, e4, ← h1, ← h2]
  grind
/-! ### a line's state behind n hits, at the time t / b -/
def lo (x d s : Int) : Int := sg d x % s
def lq (x d s : Int) : Int := sg d x / s
/-- the place on the side, over b -/
def mkN (x d s n t b : Int) : Int := if d = 0 then x * b else if (n + lq x d s) % 2 = 0 then av d * t + lo x d s * b - n * (s * b) else (n + 1) * (s * b) - (av d * t + lo x d s * b)
/-- the way -/
def dr (x d s n : Int) : Int := if (n + lq x d s) % 2 = 0 then av d else -av d
/-- the next hit is at wN / av d -/
def wN (x d s n : Int) : Int := (n + 1) * s - lo x d s
structure LI (x d s n t b : Int) : Prop where
  n0 : 0 ≤ n
  lw : d ≠ 0 → n * (s * b) ≤ av d * t + lo x d s * b
  hi : d ≠ 0 → av d * t + lo x d s * b < (n + 1) * (s * b)
theorem lo_in {x d s : Int} (hs : 0 < s) : 0 ≤ lo x d s ∧ lo x d s < s := ⟨Int.emod_nonneg _ (by omega), Int.emod_lt_of_pos _ hs⟩
theorem dr_pos {x d s n : Int} (h : d ≠ 0) : 0 < dr x d s n ↔ (n + lq x d s) % 2 = 0 := by
  have := av_pos h
  unfold dr
  split <;> omega
theorem dr_zero {x d s n : Int} : dr x d s n = 0 ↔ d = 0 := by
  unfold dr av
  split <;> omega
theorem dr_abs {x d s n : Int} : ((dr x d s n).natAbs : Int) = av d := by
  unfold dr av
  split <;> omega
theorem dr_next {x d s n : Int} : dr x d s (n + 1) = -dr x d s n := by
  unfold dr
  split <;> split <;> omega
/-- what is left to the next hit -/
theorem mk_wait {x d s n t b : Int} (h : d ≠ 0) : b * wN x d s n - av d * t = if 0 < dr x d s n then s * b - mkN x d s n t b else mkN x d s n t b := by
  unfold mkN wN
  by_cases hp : (n + lq x d s) % 2 = 0
  · rw [if_pos ((dr_pos h).mpr hp), if_neg h, if_pos hp]; grind
  · rw [if_neg (fun z => hp ((dr_pos h).mp z)), if_neg h, if_neg hp]; grind
theorem wait_pos {x d s n t b : Int} (h : d ≠ 0) (I : LI x d s n t b) : 0 < b * wN x d s n - av d * t := by
  have := I.hi h
  unfold wN
  have e : b * ((n + 1) * s - lo x d s) - av d * t = (n + 1) * (s * b) - (av d * t + lo x d s * b) := by grind
  omega
theorem mk_in {x d s n t b : Int} (hx : 0 ≤ x) (hx1 : x ≤ s) (hb : 0 < b) (hs : 0 < s) (I : LI x d s n t b) : 0 ≤ mkN x d s n t b ∧ mkN x d s n t b ≤ s * b := by
  unfold mkN
  split
  · exact ⟨Int.mul_nonneg hx (by omega), Int.mul_le_mul_of_nonneg_right hx1 (by omega)⟩
  · rename_i h
    have h1 := I.lw h
    have h2 := I.hi h
    have e : (n + 1) * (s * b) = n * (s * b) + s * b := by grind
    split <;> omega
/-- the place moves on to the time t' / b' -/
theorem mk_move {x d s n t b t' b' : Int} (n' : Int) (hn : n' = n ∨ (n' = n + 1 ∧ d ≠ 0 ∧ av d * t' + lo x d s * b' = (n + 1) * (s * b'))) : mkN x d s n' t' b' * b = mkN x d s n t b * b' + dr x d s n * (t' * b - t * b') := by
  unfold mkN
  by_cases h : d = 0
  · have : dr x d s n = 0 := dr_zero.mpr h
    rw [if_pos h, if_pos h, this]; grind
  · rw [if_neg h, if_neg h]
    rcases hn with rfl | ⟨rfl, _, e⟩
    · unfold dr
      by_cases hp : (n' + lq x d s) % 2 = 0
      · rw [if_pos hp, if_pos hp, if_pos hp]; grind
      · rw [if_neg hp, if_neg hp, if_neg hp]; grind
    · unfold dr
      by_cases hp : (n + lq x d s) % 2 = 0
      · rw [if_neg (by omega), if_pos hp, if_pos hp]; grind
      · rw [if_pos (by omega), if_neg hp, if_neg hp]; grind
/-! ### both lines -/
structure Ln where
  a : Int
  c : Int
  x : Int
  y : Int
  p : Int
  q : Int
structure St2 where
  n : Int
  m : Int
  t : Int
  b : Int
def w1 (L : Ln) (s : St2) : Int := wN L.x L.p L.a s.n
def w2 (L : Ln) (s : St2) : Int := wN L.y L.q L.c s.m
/-- is the next hit one of the first line, of the second one -/
def hit1 (L : Ln) (s : St2) : Bool := decide (L.p ≠ 0 ∧ (L.q = 0 ∨ w1 L s * av L.q ≤ w2 L s * av L.p))
def hit2 (L : Ln) (s : St2) : Bool := decide (L.q ≠ 0 ∧ (L.p = 0 ∨ w2 L s * av L.p ≤ w1 L s * av L.q))
def nxt (L : Ln) (s : St2) : St2 := ⟨if hit1 L s then s.n + 1 else s.n, if hit2 L s then s.m + 1 else s.m, if hit1 L s then w1 L s else w2 L s, if hit1 L s then av L.p else av L.q⟩
def sts (L : Ln) : Nat → St2
  | 0 => ⟨0, 0, 0, 1⟩
  | k + 1 => nxt L (sts L k)
structure OkL (L : Ln) : Prop where
  a0 : 0 < L.a
  c0 : 0 < L.c
  x0 : 0 ≤ L.x
  x1 : L.x ≤ L.a
  y0 : 0 ≤ L.y
  y1 : L.y ≤ L.c
  ne : L.p ≠ 0 ∨ L.q ≠ 0
/-- what holds of a state -/
structure SI (L : Ln) (s : St2) : Prop where
  b0 : 0 < s.b
  t0 : 0 ≤ s.t
  i1 : LI L.x L.p L.a s.n s.t s.b
  i2 : LI L.y L.q L.c s.m s.t s.b
theorem hit_some {L : Ln} (o : OkL L) (s : St2) : hit1 L s = true ∨ hit2 L s = true := by
  unfold hit1 hit2
  rw [decide_eq_true_iff, decide_eq_true_iff]
  have := o.ne
  omega
theorem st_start {L : Ln} (o : OkL L) : SI L ⟨0, 0, 0, 1⟩ := by
  have h1 := lo_in (x := L.x) (d := L.p) o.a0
  have h2 := lo_in (x := L.y) (d := L.q) o.c0
  exact ⟨by decide, by decide, ⟨by decide, fun _ => by simp; omega, fun _ => by simp; omega⟩, ⟨by decide, fun _ => by simp; omega, fun _ => by simp; omega⟩⟩
theorem wN_pos {x d s n : Int} (hs : 0 < s) (hn : 0 ≤ n) : 0 < wN x d s n := by
  have := (lo_in (x := x) (d := d) hs)
  unfold wN
  have : (n + 1) * s = n * s + s := by grind
  have := Int.mul_nonneg hn (Int.le_of_lt hs)
  omega
/-- where a line stands at a hit of its own -/
theorem li_hit {x d s n : Int} (hs : 0 < s) (hd : d ≠ 0) (hn : 0 ≤ n) : LI x d s (n + 1) (wN x d s n) (av d) ∧ av d * wN x d s n + lo x d s * av d = (n + 1) * (s * av d) := by
  have hv := av_pos hd
  have e : av d * wN x d s n + lo x d s * av d = (n + 1) * (s * av d) := by unfold wN; grind
  have := mulp hs hv
  exact ⟨⟨by omega, fun _ => by omega, fun _ => by rw [e]; grind⟩, e⟩
/-- a line that is not hit up to a time -/
theorem li_stay {x d s n t b t' b' : Int} (I : LI x d s n t b) (hb : 0 < b) (hb' : 0 < b') (h1 : t * b' ≤ t' * b) (h2 : d ≠ 0 → av d * t' + lo x d s * b' < (n + 1) * (s * b')) : LI x d s n t' b' := by
  refine ⟨I.n0, fun hd => ?_, h2⟩
  have h := I.lw hd
  have hv := av_pos hd
  have h3 : n * (s * b) * b' ≤ (av d * t + lo x d s * b) * b' := Int.mul_le_mul_of_nonneg_right h (by omega)
  have h4 : av d * (t * b') ≤ av d * (t' * b) := Int.mul_le_mul_of_nonneg_left h1 (by omega)
  have h5 : n * (s * b') * b ≤ (av d * t' + lo x d s * b') * b := by
    have e1 : n * (s * b') * b = n * (s * b) * b' := by grind
    have e2 : (av d * t' + lo x d s * b') * b = av d * (t' * b) + lo x d s * b * b' := by grind
    have e3 : (av d * t + lo x d s * b) * b' = av d * (t * b') + lo x d s * b * b' := by grind
    omega
  exact Int.le_of_mul_le_mul_right h5 hb
theorem time_le {x d s n t b : Int} (I : LI x d s n t b) (hd : d ≠ 0) : t * av d < wN x d s n * b := by
  have := I.hi hd
  unfold wN
  have e : ((n + 1) * s - lo x d s) * b = (n + 1) * (s * b) - lo x d s * b := by grind
  rw [e, Int.mul_comm t]
  omega
theorem st_next {L : Ln} (o : OkL L) {s : St2} (h : SI L s) : SI L (nxt L s) ∧ s.t * (nxt L s).b < (nxt L s).t * s.b := by
  have p1 : L.p ≠ 0 → 0 < av L.p := av_pos
  have p2 : L.q ≠ 0 → 0 < av L.q := av_pos
  have e1 := wN_pos (x := L.x) (d := L.p) o.a0 h.i1.n0
  have e2 := wN_pos (x := L.y) (d := L.q) o.c0 h.i2.n0
  have miss : ∀ {x d s n w v : Int}, 0 < v → d ≠ 0 → w * av d < wN x d s n * v → av d * w + lo x d s * v < (n + 1) * (s * v) := by
    intro x d s n w v hv hd hw
    unfold wN at hw
    have e : ((n + 1) * s - lo x d s) * v = (n + 1) * (s * v) - lo x d s * v := by grind
    rw [e, Int.mul_comm w] at hw
    omega
  rcases hit_some o s with h1 | h1
  · have h1' := h1
    unfold hit1 at h1'
    obtain ⟨hp, hq⟩ := of_decide_eq_true h1'
    have hv := p1 hp
    have tl := time_le h.i1 hp
    have L1 := li_hit (x := L.x) o.a0 hp h.i1.n0
    unfold nxt
    rw [h1]
    simp only [if_true]
    refine ⟨⟨hv, Int.le_of_lt e1, L1.1, ?_⟩, tl⟩
    by_cases h2 : hit2 L s = true
    · rw [h2]
      simp only [if_true]
      have h2' := h2
      unfold hit2 at h2'
      obtain ⟨hq', hp'⟩ := of_decide_eq_true h2'
      have eq : w1 L s * av L.q = w2 L s * av L.p := by omega
      unfold w1 w2 at eq
      have L2 := li_hit (x := L.y) o.c0 hq' h.i2.n0
      have e3 : av L.q * w1 L s + lo L.y L.q L.c * av L.p = (s.m + 1) * (L.c * av L.p) := by
        unfold w1 at *
        have : wN L.y L.q L.c s.m = (s.m + 1) * L.c - lo L.y L.q L.c := rfl
        rw [this] at eq
        rw [Int.mul_comm, eq]
        grind
      have pc := mulp o.c0 hv
      refine ⟨by have := h.i2.n0; show 0 ≤ s.m + 1; omega, fun _ => ?_, fun _ => ?_⟩
      · show (s.m + 1) * (L.c * av L.p) ≤ av L.q * w1 L s + lo L.y L.q L.c * av L.p
        omega
      · show av L.q * w1 L s + lo L.y L.q L.c * av L.p < (s.m + 1 + 1) * (L.c * av L.p)
        rw [e3]; grind
    · rw [Bool.eq_false_iff.mpr h2]
      simp only [Bool.false_eq_true, if_false]
      refine li_stay h.i2 h.b0 hv (Int.le_of_lt tl) fun hq' => miss hv hq' ?_
      unfold hit2 at h2
      rw [decide_eq_true_iff] at h2
      show w1 L s * av L.q < w2 L s * av L.p
      omega
  · have h1' := h1
    unfold hit2 at h1'
    obtain ⟨hq, hp⟩ := of_decide_eq_true h1'
    have hv := p2 hq
    have tl := time_le h.i2 hq
    have L2 := li_hit (x := L.y) o.c0 hq h.i2.n0
    by_cases h2 : hit1 L s = true
    · have h2' := h2
      unfold hit1 at h2'
      obtain ⟨hp', hq'⟩ := of_decide_eq_true h2'
      have eq : w1 L s * av L.q = w2 L s * av L.p := by omega
      have hv1 := p1 hp'
      have tl1 := time_le h.i1 hp'
      have L1 := li_hit (x := L.x) o.a0 hp' h.i1.n0
      unfold nxt
      rw [h2, h1]
      simp only [if_true]
      refine ⟨⟨hv1, Int.le_of_lt e1, L1.1, ?_⟩, tl1⟩
      have e3 : av L.q * w1 L s + lo L.y L.q L.c * av L.p = (s.m + 1) * (L.c * av L.p) := by
        have : w2 L s = (s.m + 1) * L.c - lo L.y L.q L.c := rfl
        rw [this] at eq
        rw [Int.mul_comm, eq]
        grind
      have pc := mulp o.c0 hv1
      refine ⟨by have := h.i2.n0; show 0 ≤ s.m + 1; omega, fun _ => ?_, fun _ => ?_⟩
      · show (s.m + 1) * (L.c * av L.p) ≤ av L.q * w1 L s + lo L.y L.q L.c * av L.p
        omega
      · show av L.q * w1 L s + lo L.y L.q L.c * av L.p < (s.m + 1 + 1) * (L.c * av L.p)
        rw [e3]; grind
    · unfold nxt
      rw [Bool.eq_false_iff.mpr h2, h1]
      simp only [if_true, Bool.false_eq_true, if_false]
      refine ⟨⟨hv, Int.le_of_lt e2, ?_, L2.1⟩, tl⟩
      refine li_stay h.i1 h.b0 hv (Int.le_of_lt tl) fun hp' => miss hv hp' ?_
      unfold hit1 at h2
      rw [decide_eq_true_iff] at h2
      show w2 L s * av L.p < w1 L s * av L.q
      omega
theorem st_inv {L : Ln} (o : OkL L) : ∀ k, SI L (sts L k)
  | 0 => st_start o
  | k + 1 => (st_next o (st_inv o k)).1
end M
namespace M
/-! ### _law_step -/
def wtD (e W b : Int) : D := if e = 0 then .non else low W (b * av e)
def spStep : Sp := fun ds S Q _ => ∃ a c r M1 M2 b e1 e2 W1 W2, ds = [prD a c, .ref r] ∧ S r = some (.lst [low M1 b, low M2 b, .int e1, .int e2]) ∧ 0 < a ∧ 0 < c ∧ 0 < b ∧ (e1 ≠ 0 → W1 = (if 0 < e1 then a * b - M1 else M1) ∧ 0 < W1) ∧ (e2 ≠ 0 → W2 = (if 0 < e2 then c * b - M2 else M2) ∧ 0 < W2) ∧ Bd 900 M1 ∧ Bd 900 M2 ∧ Bd 900 b ∧ Bd 900 e1 ∧ Bd 900 e2 ∧ Bd 900 a ∧ Bd 900 c ∧ ∀ r' S', Ext S S' → S r' = none → S' r' = some (.lst [wtD e1 W1 b, wtD e2 W2 b]) → Q (.ref r') S'
theorem eq_dec' {u v : D} {S : Sto} {Q : Bool → Prop} (hu : u = .non ∨ IntT 8 u) (hv : v = .non ∨ IntT 8 v) (k : ∀ B : Bool, (B = true ↔ u = v) → Q B) : cmpD .eq u v S Q := by
  have fit' : ∀ {w : D}, (w = .non ∨ IntT 8 w) → fit dep S w = true := fun h => by
    rcases h with rfl | h
    · rfl
    · exact h.fit
  have main : fit dep S u = true ∧ fit dep S v = true ∧ Q (eqB dep S u v) := by
    refine ⟨fit' hu, fit' hv, k _ ?_⟩
    rcases hu with rfl | hu
    · rcases hv with rfl | hv
      · exact ⟨fun _ => rfl, fun _ => rfl⟩
      · cases v <;> first | exact False.elim hv | exact ⟨fun h => (by cases h), fun h => (by cases h)⟩
    · rcases hv with rfl | hv
      · cases u <;> first | exact False.elim hu | exact ⟨fun h => (by cases h), fun h => (by cases h)⟩
      · exact hu.eq_iff hv
  cases u with
  | str x => rcases hu with h | h <;> first | cases h | exact False.elim h
  | _ => exact main
theorem it_low {t b : Int} : IntT 8 (low t b) := it_pr
theorem wt_it {e W b : Int} : wtD e W b = .non ∨ IntT 8 (wtD e W b) := by
  unfold wtD
  split
  · exact .inl rfl
  · exact .inr it_low
def W1 (L : Ln) (s : St2) : Int := s.b * w1 L s - av L.p * s.t
def W2 (L : Ln) (s : St2) : Int := s.b * w2 L s - av L.q * s.t
def waitD (L : Ln) (s : St2) : D := if hit1 L s then low (W1 L s) (s.b * av L.p) else low (W2 L s) (s.b * av L.q)
abbrev fD (L : Ln) (s : St2) : D := wtD L.p (W1 L s) s.b
abbrev gD (L : Ln) (s : St2) : D := wtD L.q (W2 L s) s.b
theorem non_low {t b : Int} : D.non ≠ low t b := by unfold low; intro h; cases h
theorem w_cmp {L : Ln} {s : St2} (hb : 0 < s.b) : (W1 L s * (s.b * av L.q) ≤ W2 L s * (s.b * av L.p) ↔ w1 L s * av L.q ≤ w2 L s * av L.p) := by
  have e1 : W1 L s * (s.b * av L.q) = (w1 L s * av L.q) * (s.b * s.b) - s.t * av L.p * av L.q * s.b := by unfold W1; grind
  have e2 : W2 L s * (s.b * av L.p) = (w2 L s * av L.p) * (s.b * s.b) - s.t * av L.p * av L.q * s.b := by unfold W2; grind
  have hbb := mulp hb hb
  constructor
  · intro h
    have : (w1 L s * av L.q) * (s.b * s.b) ≤ (w2 L s * av L.p) * (s.b * s.b) := by omega
    exact Int.le_of_mul_le_mul_right this hbb
  · intro h
    have := Int.mul_le_mul_of_nonneg_right h (Int.le_of_lt hbb)
    omega
theorem first_wait {L : Ln} (o : OkL L) {s : St2} (hb : 0 < s.b) : (fD L s = waitD L s ↔ hit1 L s = true) ∧ (gD L s = waitD L s ↔ hit2 L s = true) := by
  unfold fD gD wtD waitD
  have c := w_cmp (L := L) hb
  have hs := hit_some o s
  by_cases hp : L.p = 0
  · have h1 : hit1 L s = false := by unfold hit1; rw [decide_eq_false_iff_not]; omega
    have hq : L.q ≠ 0 := by have := o.ne; omega
    have h2 : hit2 L s = true := hs.resolve_left (by rw [h1]; decide)
    rw [h1, h2, if_pos hp, if_neg hq]
    exact ⟨⟨fun h => absurd h non_low, fun h => (by cases h)⟩, ⟨fun _ => rfl, fun _ => rfl⟩⟩
  · by_cases hq : L.q = 0
    · have h2 : hit2 L s = false := by unfold hit2; rw [decide_eq_false_iff_not]; omega
      have h1 : hit1 L s = true := hs.resolve_right (by rw [h2]; decide)
      rw [h1, h2, if_neg hp, if_pos hq]
      exact ⟨⟨fun _ => rfl, fun _ => rfl⟩, ⟨fun h => absurd h non_low, fun h => (by cases h)⟩⟩
    · have pv := mulp hb (av_pos hp)
      have qv := mulp hb (av_pos hq)
      rw [if_neg hp, if_neg hq]
      have i1 : hit1 L s = true ↔ w1 L s * av L.q ≤ w2 L s * av L.p := by unfold hit1; rw [decide_eq_true_iff]; omega
      have i2 : hit2 L s = true ↔ w2 L s * av L.p ≤ w1 L s * av L.q := by unfold hit2; rw [decide_eq_true_iff]; omega
      have c2 : (W2 L s * (s.b * av L.p) ≤ W1 L s * (s.b * av L.q) ↔ w2 L s * av L.p ≤ w1 L s * av L.q) := by
        have e1 : W1 L s * (s.b * av L.q) = (w1 L s * av L.q) * (s.b * s.b) - s.t * av L.p * av L.q * s.b := by unfold W1; grind
        have e2 : W2 L s * (s.b * av L.p) = (w2 L s * av L.p) * (s.b * s.b) - s.t * av L.p * av L.q * s.b := by unfold W2; grind
        have hbb := mulp hb hb
        constructor
        · intro h
          have : (w2 L s * av L.p) * (s.b * s.b) ≤ (w1 L s * av L.q) * (s.b * s.b) := by omega
          exact Int.le_of_mul_le_mul_right this hbb
        · intro h
          have := Int.mul_le_mul_of_nonneg_right h (Int.le_of_lt hbb)
          omega
      by_cases h1 : hit1 L s = true
      · rw [if_pos h1, h1, low_iff qv pv, i2]
        refine ⟨⟨fun _ => rfl, fun _ => rfl⟩, ?_⟩
        rw [i1] at h1
        constructor
        · intro h; exact c2.mp (by omega)
        · intro h
          have := c2.mpr h
          have := c.mpr h1
          omega
      · rw [if_neg h1, low_iff pv qv]
        have h2 : hit2 L s = true := hs.resolve_left h1
        refine ⟨⟨fun h => absurd (i1.mpr (c.mp (by omega))) h1, fun h => absurd h h1⟩, ⟨fun _ => h2, fun _ => rfl⟩⟩
/-- what a turn of the loop starts from -/
structure TB (L : Ln) (s : St2) : Prop where
  o : OkL L
  i : SI L s
  ba : Bd 200 L.a
  bc : Bd 200 L.c
  bx : Bd 200 L.x
  by_ : Bd 200 L.y
  bp : Bd 200 L.p
  bq : Bd 200 L.q
  bt : Bd 220 s.t
  bb : Bd 200 s.b
  bn : Bd 20 s.n
  bm : Bd 20 s.m
def ballD (L : Ln) (s : St2) : List D := [low (mkN L.x L.p L.a s.n s.t s.b) s.b, low (mkN L.y L.q L.c s.m s.t s.b) s.b, .int (dr L.x L.p L.a s.n), .int (dr L.y L.q L.c s.m)]
theorem wN_bd {x d s n : Int} (hs : 0 < s) (bs : Bd 200 s) (bn : Bd 20 n) : Bd 230 (wN x d s n) := by
  have l := lo_in (x := x) (d := d) hs
  unfold wN
  exact ((((bn.add (lt_two 1 (by decide) (by decide))).mul bs).up (show 221 ≤ 229 by decide)).sub ((bs.le l.1 (Int.le_of_lt l.2)).up (by decide)))
theorem W_bd {x d s n t b : Int} (hs : 0 < s) (bs : Bd 200 s) (bn : Bd 20 n) (bd : Bd 200 d) (bt : Bd 220 t) (bb : Bd 200 b) : Bd 440 (b * wN x d s n - av d * t) := by
  have h1 : Bd 430 (b * wN x d s n) := bb.mul (wN_bd hs bs bn)
  have h2 : Bd 420 (av d * t) := (av_bd bd).mul bt
  exact (h1.sub (h2.up (by decide))).up (by decide)
end M
namespace M
theorem wait_eq {L : Ln} {s : St2} (T : TB L s) : ∃ w v, 0 < v ∧ waitD L s = low (s.b * w - v * s.t) (s.b * v) ∧ (nxt L s).t = w ∧ (nxt L s).b = v ∧ Bd 230 w ∧ Bd 200 v := by
  unfold waitD nxt
  by_cases h : hit1 L s = true
  · refine ⟨w1 L s, av L.p, ?_, ?_⟩
    · have h' := h
      unfold hit1 at h'
      exact av_pos (of_decide_eq_true h').1
    · rw [h]
      exact ⟨rfl, rfl, rfl, wN_bd T.o.a0 T.ba T.bn, av_bd T.bp⟩
  · have h2 := (hit_some T.o s).resolve_left h
    rw [Bool.eq_false_iff.mpr h]
    refine ⟨w2 L s, av L.q, ?_, rfl, rfl, rfl, wN_bd T.o.c0 T.bc T.bm, av_bd T.bq⟩
    unfold hit2 at h2
    exact av_pos (of_decide_eq_true h2).1
def l1 (L : Ln) (s : St2) : Nat := if 0 < dr L.x L.p L.a s.n then 69 else 87
def l2 (L : Ln) (s : St2) : Nat := if 0 < dr L.y L.q L.c s.m then 78 else 83
def wordT (L : Ln) (s : St2) : Tx := (if hit1 L s then [l1 L s] else []) ++ (if hit2 L s then [l2 L s] else [])
theorem wait_it {L : Ln} {s : St2} : waitD L s = .non ∨ IntT 8 (waitD L s) := by
  unfold waitD
  split <;> exact .inr it_low
theorem add_ss {x y : Tx} {S : Sto} {Q : VK} : binD .add (.str x) (.str y) S Q = (x.length + y.length ≤ lim ∧ Q (.str (x ++ y)) S) := rfl
/-- both places over the time's bottom -/
def mk1 (L : Ln) (s : St2) : Int := mkN L.x L.p L.a s.n s.t s.b
def mk2 (L : Ln) (s : St2) : Int := mkN L.y L.q L.c s.m s.t s.b
theorem mk_bd {L : Ln} {s : St2} (T : TB L s) : Bd 400 (mk1 L s) ∧ Bd 400 (mk2 L s) := by
  have k1 := mk_in (t := s.t) T.o.x0 T.o.x1 T.i.b0 T.o.a0 T.i.i1
  have k2 := mk_in (t := s.t) T.o.y0 T.o.y1 T.i.b0 T.o.c0 T.i.i2
  exact ⟨(T.ba.mul T.bb).le k1.1 k1.2, (T.bc.mul T.bb).le k2.1 k2.2⟩
theorem mk_next {L : Ln} {s : St2} (T : TB L s) : mk1 L (nxt L s) * s.b = mk1 L s * (nxt L s).b + dr L.x L.p L.a s.n * ((nxt L s).t * s.b - s.t * (nxt L s).b) ∧ mk2 L (nxt L s) * s.b = mk2 L s * (nxt L s).b + dr L.y L.q L.c s.m * ((nxt L s).t * s.b - s.t * (nxt L s).b) := by
  have hh := hit_some T.o s
  constructor
  · refine mk_move _ ?_
    by_cases h : hit1 L s = true
    · have h' := h
      unfold hit1 at h'
      have hp := (of_decide_eq_true h').1
      right
      unfold nxt
      rw [h]
      exact ⟨rfl, hp, (li_hit (x := L.x) T.o.a0 hp T.i.i1.n0).2⟩
    · left
      unfold nxt
      rw [Bool.eq_false_iff.mpr h]
      rfl
  · refine mk_move _ ?_
    by_cases h : hit2 L s = true
    · have h' := h
      unfold hit2 at h'
      obtain ⟨hq, hp⟩ := of_decide_eq_true h'
      right
      by_cases h1 : hit1 L s = true
      · have h1' := h1
        unfold hit1 at h1'
        obtain ⟨hp', hq'⟩ := of_decide_eq_true h1'
        have eq : w1 L s * av L.q = w2 L s * av L.p := by omega
        unfold nxt
        rw [h, h1]
        refine ⟨rfl, hq, ?_⟩
        show av L.q * w1 L s + lo L.y L.q L.c * av L.p = (s.m + 1) * (L.c * av L.p)
        have : w2 L s = (s.m + 1) * L.c - lo L.y L.q L.c := rfl
        rw [this] at eq
        rw [Int.mul_comm, eq]
        grind
      · unfold nxt
        rw [h, Bool.eq_false_iff.mpr h1]
        exact ⟨rfl, hq, (li_hit (x := L.y) T.o.c0 hq T.i.i2.n0).2⟩
    · left
      unfold nxt
      rw [Bool.eq_false_iff.mpr h]
      rfl
theorem place_low {M M' b e t w v m n m' n' : Int} (hb : 0 < b) (hv : 0 < v) (n0 : 0 < n) (n0' : 0 < n') (h1 : m * b = M * n) (h2 : m' * (b * v) = (b * w - v * t) * n') (hM : M' * b = M * v + e * (w * b - t * v)) : low (m * n' + e * m' * n) (n * n') = low M' v := by
  refine low_eq (mulp n0 n0') hv ?_
  refine Int.eq_of_mul_eq_mul_left (show b ≠ 0 by omega) ?_
  have e1 : b * ((m * n' + e * m' * n) * v) = (m * b) * n' * v + e * (m' * (b * v)) * n := by grind
  have e2 : b * (M' * (n * n')) = (M' * b) * (n * n') := by grind
  rw [e1, h1, h2, e2, hM]
  grind
theorem ball_next {L : Ln} {s : St2} : ballD L (nxt L s) = [low (mk1 L (nxt L s)) (nxt L s).b, low (mk2 L (nxt L s)) (nxt L s).b, .int (if hit1 L s then -dr L.x L.p L.a s.n else dr L.x L.p L.a s.n), .int (if hit2 L s then -dr L.y L.q L.c s.m else dr L.y L.q L.c s.m)] := by
  have e1 : dr L.x L.p L.a (nxt L s).n = if hit1 L s then -dr L.x L.p L.a s.n else dr L.x L.p L.a s.n := by
    show dr L.x L.p L.a (if hit1 L s then s.n + 1 else s.n) = _
    split
    · exact dr_next
    · rfl
  have e2 : dr L.y L.q L.c (nxt L s).m = if hit2 L s then -dr L.y L.q L.c s.m else dr L.y L.q L.c s.m := by
    show dr L.y L.q L.c (if hit2 L s then s.m + 1 else s.m) = _
    split
    · exact dr_next
    · rfl
  unfold ballD
  rw [e1, e2]
  rfl
def entD (L : Ln) (s : St2) : D := .tup [low (nxt L s).t (nxt L s).b, .str (wordT L s), .tup [low (mk1 L (nxt L s)) (nxt L s).b, low (mk2 L (nxt L s)) (nxt L s).b]]
end M
namespace M
structure BL (L : Ln) : Prop where
  ba : Bd 200 L.a
  bc : Bd 200 L.c
  bx : Bd 200 L.x
  by_ : Bd 200 L.y
  bp : Bd 200 L.p
  bq : Bd 200 L.q
theorem st_cnt {L : Ln} : ∀ k : Nat, (sts L k).n ≤ k ∧ (sts L k).m ≤ k
  | 0 => ⟨by show (0 : Int) ≤ 0; decide, by show (0 : Int) ≤ 0; decide⟩
  | k + 1 => by
    have h := st_cnt (L := L) k
    show (if hit1 L (sts L k) then (sts L k).n + 1 else (sts L k).n) ≤ ((k + 1 : Nat) : Int) ∧ (if hit2 L (sts L k) then (sts L k).m + 1 else (sts L k).m) ≤ ((k + 1 : Nat) : Int)
    constructor <;> split <;> omega
theorem st_b {L : Ln} (b : BL L) : ∀ k : Nat, Bd 200 (sts L k).b
  | 0 => show Bd 200 1 from lt_two 1 (by decide) (by decide)
  | k + 1 => by
    show Bd 200 (if hit1 L (sts L k) then av L.p else av L.q)
    split
    · exact av_bd b.bp
    · exact av_bd b.bq
theorem wN_bd' {x d s n : Int} (hs : 0 < s) (bs : Bd 200 s) (hn : 0 ≤ n) (bn : n < 1000) : Bd 220 (wN x d s n) := by
  have l := lo_in (x := x) (d := d) hs
  have b1 : Bd 11 (n + 1) := bd_of' (by omega) (by omega)
  unfold wN
  exact (((b1.mul bs).up (show 211 ≤ 219 by decide)).sub ((bs.le l.1 (Int.le_of_lt l.2)).up (by decide)))
theorem st_t {L : Ln} (o : OkL L) (b : BL L) : ∀ k : Nat, k < 1000 → Bd 220 (sts L k).t
  | 0, _ => show Bd 220 0 from lt_two 1 (by decide) (by decide)
  | k + 1, hk => by
    have c := st_cnt (L := L) k
    have i := st_inv o k
    show Bd 220 (if hit1 L (sts L k) then w1 L (sts L k) else w2 L (sts L k))
    split
    · exact wN_bd' o.a0 b.ba i.i1.n0 (by omega)
    · exact wN_bd' o.c0 b.bc i.i2.n0 (by omega)
theorem st_tb {L : Ln} (o : OkL L) (b : BL L) {k : Nat} (hk : k < 1000) : TB L (sts L k) := by
  have c := st_cnt (L := L) k
  have i := st_inv o k
  exact ⟨o, i, b.ba, b.bc, b.bx, b.by_, b.bp, b.bq, st_t o b k hk, st_b b k, bd_of' i.i1.n0 (by omega), bd_of' i.i2.n0 (by omega)⟩
def ents (L : Ln) (k : Nat) : List D := (List.range k).map fun j => entD L (sts L j)
theorem ents_succ {L : Ln} {k : Nat} : ents L (k + 1) = ents L k ++ [entD L (sts L k)] := by
  unfold ents
  rw [List.range_succ, List.map_append]; rfl
theorem ents_len {L : Ln} {k : Nat} : (ents L k).length = k := by unfold ents; simp
/-- the way at the start: turned at a cushion -/
theorem dr_start {x d s : Int} (hs : 0 < s) (hx : 0 ≤ x) (hx1 : x ≤ s) : dr x d s 0 = if (0 < d ∧ x = s) ∨ (d < 0 ∧ x = 0) then -d else d := by
  unfold dr lq sg av
  by_cases h : 0 < d
  · rw [if_pos h]
    by_cases h2 : x = s
    · subst h2
      rw [Int.ediv_self (by omega), if_neg (by decide), if_pos (.inl ⟨h, rfl⟩)]
      omega
    · rw [Int.ediv_eq_zero_of_lt hx (by omega), if_pos (by decide), if_neg (by omega)]
      omega
  · rw [if_neg h]
    by_cases h2 : x = 0
    · subst h2
      have e : (-0 : Int) / s = 0 := by simp
      rw [e, if_pos (by decide)]
      by_cases h3 : d < 0
      · rw [if_pos (.inr ⟨h3, rfl⟩)]; omega
      · rw [if_neg (by omega)]; omega
    · have e : (-x) / s = -1 := by
        have : (-x) / s = (-x + s) / s - 1 := by rw [Int.add_ediv_of_dvd_right (Int.dvd_refl _), Int.ediv_self (by omega)]; omega
        rw [this, Int.ediv_eq_zero_of_lt (by omega) (by omega)]; rfl
      rw [e, if_neg (by decide), if_neg (by omega)]
      omega
theorem mk_start {x d s : Int} (hs : 0 < s) (hx : 0 ≤ x) (hx1 : x ≤ s) : mkN x d s 0 0 1 = x := by
  unfold mkN
  by_cases h0 : d = 0
  · rw [if_pos h0]; omega
  rw [if_neg h0]
  unfold lq lo sg
  by_cases h : 0 < d
  · rw [if_pos h]
    by_cases h2 : x = s
    · subst h2
      rw [Int.ediv_self (by omega), Int.emod_self, if_neg (by decide)]; simp
    · rw [Int.ediv_eq_zero_of_lt hx (by omega), Int.emod_eq_of_lt hx (by omega), if_pos (by decide)]; simp
  · rw [if_neg h]
    by_cases h2 : x = 0
    · subst h2
      have e : (-0 : Int) / s = 0 := by simp
      rw [e, if_pos (by decide)]; simp
    · have e : (-x) / s = -1 := by
        have : (-x) / s = (-x + s) / s - 1 := by rw [Int.add_ediv_of_dvd_right (Int.dvd_refl _), Int.ediv_self (by omega)]; omega
        rw [this, Int.ediv_eq_zero_of_lt (by omega) (by omega)]; rfl
      have e2 : (-x) % s = s - x := by
        rw [Int.emod_def, e]; omega
      rw [e, if_neg (by decide), e2]; simp
      omega
theorem low_one {t : Int} : low t 1 = prD t 1 := by
  unfold low
  have : Int.gcd t 1 = 1 := Int.gcd_one_right t
  rw [this]; simp
theorem br_flip {A B : Prop} {p x s : Int} (h1 : ((0 < p ∧ x = s) ∨ (p < 0 ∧ x = 0)) → A) (h2 : ¬ ((0 < p ∧ x = s) ∨ (p < 0 ∧ x = 0)) → B) : br (decide (0 < p)) (br (x == s) A (br (decide (p < 0)) (br (x == 0) A B) B)) (br (decide (p < 0)) (br (x == 0) A B) B) := by
  have N : ¬ (0 < p ∧ x = s) → br (decide (p < 0)) (br (x == 0) A B) B := fun h => br_d (fun k => br_if (fun k2 => h1 (.inr ⟨k, by simpa using k2⟩)) fun k2 => h2 fun z => z.elim h fun z => by simp at k2; omega) fun k => h2 fun z => z.elim h fun z => k z.1
  exact br_d (fun k => br_if (fun k2 => h1 (.inl ⟨k, by simpa using k2⟩)) fun k2 => N fun z => by simp at k2; omega) fun k => N fun z => k z.1
def spHL : Sp := fun ds S Q _ => ∃ a c x y p q far, ds = [prD a c, shD x y p q, .int far] ∧ OkL ⟨a, c, x, y, p, q⟩ ∧ BL ⟨a, c, x, y, p, q⟩ ∧ 0 ≤ far ∧ far ≤ 500 ∧ ∀ r S', Ext S S' → S' r = some (.lst (ents ⟨a, c, x, y, p, q⟩ far.toNat)) → Q (.ref r) S'
end M
namespace M
/-! ### a time between two hits -/
def At (L : Ln) (k : Nat) (t b : Int) : Prop := 0 < b ∧ (sts L k).t * b ≤ t * (sts L k).b ∧ t * (sts L (k + 1)).b < (sts L (k + 1)).t * b
theorem st_zero1 {L : Ln} (h : L.p = 0) : ∀ k, (sts L k).n = 0
  | 0 => rfl
  | k + 1 => by
    show (if hit1 L (sts L k) then (sts L k).n + 1 else (sts L k).n) = 0
    have : hit1 L (sts L k) = false := by unfold hit1; rw [decide_eq_false_iff_not]; omega
    rw [this]
    exact st_zero1 h k
theorem st_zero2 {L : Ln} (h : L.q = 0) : ∀ k, (sts L k).m = 0
  | 0 => rfl
  | k + 1 => by
    show (if hit2 L (sts L k) then (sts L k).m + 1 else (sts L k).m) = 0
    have : hit2 L (sts L k) = false := by unfold hit2; rw [decide_eq_false_iff_not]; omega
    rw [this]
    exact st_zero2 h k
theorem nxt_le1 {L : Ln} (o : OkL L) {s : St2} (hp : L.p ≠ 0) : (nxt L s).t * av L.p ≤ w1 L s * (nxt L s).b := by
  unfold nxt
  by_cases h : hit1 L s = true
  · rw [h]
    simp only [if_true]
    exact Int.le_refl _
  · have h2 := (hit_some o s).resolve_left h
    rw [Bool.eq_false_iff.mpr h]
    simp only [Bool.false_eq_true, if_false]
    unfold hit2 at h2
    have h2 := of_decide_eq_true h2
    unfold hit1 at h
    rw [decide_eq_true_iff] at h
    omega
theorem nxt_le2 {L : Ln} (o : OkL L) {s : St2} (hq : L.q ≠ 0) : (nxt L s).t * av L.q ≤ w2 L s * (nxt L s).b := by
  unfold nxt
  by_cases h : hit1 L s = true
  · rw [h]
    simp only [if_true]
    unfold hit1 at h
    have h := of_decide_eq_true h
    omega
  · have h2 := (hit_some o s).resolve_left h
    rw [Bool.eq_false_iff.mpr h]
    simp only [Bool.false_eq_true, if_false]
    exact Int.le_refl _
theorem lt_cross {a b c d e f : Int} (hb : 0 < b) (hd : 0 < d) (hf : 0 < f) (h1 : a * d < c * b) (h2 : c * f ≤ e * d) : a * f < e * b := by
  have e1 : a * d * f < c * b * f := Int.mul_lt_mul_of_pos_right h1 hf
  have e2 : c * f * b ≤ e * d * b := Int.mul_le_mul_of_nonneg_right h2 (by omega)
  have e3 : a * f * d < e * b * d := by
    have x1 : a * d * f = a * f * d := by grind
    have x2 : c * b * f = c * f * b := by grind
    have x3 : e * d * b = e * b * d := by grind
    omega
  exact Int.lt_of_mul_lt_mul_right e3 (Int.le_of_lt hd)
theorem li_at1 {L : Ln} (o : OkL L) {k : Nat} {t b : Int} (h : At L k t b) : LI L.x L.p L.a (sts L k).n t b := by
  obtain ⟨hb, h1, h2⟩ := h
  have I := st_inv o k
  have I2 := st_inv o (k + 1)
  refine li_stay I.i1 I.b0 hb h1 fun hp => ?_
  have h3 := nxt_le1 o (s := sts L k) hp
  have h4 := lt_cross hb I2.b0 (av_pos hp) h2 h3
  unfold w1 wN at h4
  have e : (((sts L k).n + 1) * L.a - lo L.x L.p L.a) * b = ((sts L k).n + 1) * (L.a * b) - lo L.x L.p L.a * b := by grind
  rw [e, Int.mul_comm] at h4
  omega
theorem li_at2 {L : Ln} (o : OkL L) {k : Nat} {t b : Int} (h : At L k t b) : LI L.y L.q L.c (sts L k).m t b := by
  obtain ⟨hb, h1, h2⟩ := h
  have I := st_inv o k
  have I2 := st_inv o (k + 1)
  refine li_stay I.i2 I.b0 hb h1 fun hp => ?_
  have h3 := nxt_le2 o (s := sts L k) hp
  have h4 := lt_cross hb I2.b0 (av_pos hp) h2 h3
  unfold w2 wN at h4
  have e : (((sts L k).m + 1) * L.c - lo L.y L.q L.c) * b = ((sts L k).m + 1) * (L.c * b) - lo L.y L.q L.c * b := by grind
  rw [e, Int.mul_comm] at h4
  omega
theorem nn_li {x d s n t b : Int} (hs : 0 < s) (hb : 0 < b) (hd : d ≠ 0) (ht : 0 < t) (I : LI x d s n t b) : Nn x d s t b = n := by
  unfold Nn
  rw [if_neg (by omega)]
  have p := mulp hs hb
  have h1 := I.lw hd
  have h2 := I.hi hd
  show (av d * t + lo x d s * b) / (s * b) = n
  have e : av d * t + lo x d s * b = (av d * t + lo x d s * b - n * (s * b)) + n * (s * b) := by omega
  rw [e, Int.add_mul_ediv_right _ _ (by omega), Int.ediv_eq_zero_of_lt (by omega) (by
    have : (n + 1) * (s * b) = n * (s * b) + s * b := by grind
    omega)]
  omega
theorem t_pos {L : Ln} (o : OkL L) : ∀ k, 0 < (sts L (k + 1)).t := fun k => by
  have h := (st_next o (st_inv o k)).2
  have I := st_inv o k
  have I2 := st_inv o (k + 1)
  have h0 := Int.mul_nonneg I.t0 (Int.le_of_lt I2.b0)
  have : 0 < (sts L (k + 1)).t * (sts L k).b := by
    show 0 < (nxt L (sts L k)).t * _
    exact Int.lt_of_le_of_lt h0 h
  exact Int.pos_of_mul_pos_left this I.b0
theorem nn_at {L : Ln} (o : OkL L) {k : Nat} {t b : Int} (h : At L k t b ∨ (k = 0 ∧ t ≤ 0)) : Nn L.x L.p L.a t b = (sts L k).n ∧ Nn L.y L.q L.c t b = (sts L k).m := by
  have zero : t ≤ 0 → k = 0 → Nn L.x L.p L.a t b = (sts L k).n ∧ Nn L.y L.q L.c t b = (sts L k).m := fun ht hk => by
    subst hk
    unfold Nn
    rw [if_pos (.inr ht), if_pos (.inr ht)]
    exact ⟨rfl, rfl⟩
  rcases h with h | ⟨hk, ht⟩
  · by_cases ht : t ≤ 0
    · refine zero ht ?_
      cases k with
      | zero => rfl
      | succ k =>
        exfalso
        have p := t_pos o k
        have p2 := mulp p h.1
        have h1 := h.2.1
        have I := st_inv o (k + 1)
        have := Int.mul_nonneg (show 0 ≤ -t by omega) (Int.le_of_lt I.b0)
        rw [Int.neg_mul] at this
        omega
    · have ht : 0 < t := by omega
      constructor
      · by_cases hp : L.p = 0
        · rw [st_zero1 hp]
          unfold Nn
          rw [if_pos (.inl hp)]
        · exact nn_li o.a0 h.1 hp ht (li_at1 o h)
      · by_cases hp : L.q = 0
        · rw [st_zero2 hp]
          unfold Nn
          rw [if_pos (.inl hp)]
        · exact nn_li o.c0 h.1 hp ht (li_at2 o h)
  · exact zero ht hk
theorem at_congr {L : Ln} {k : Nat} {t b t' b' : Int} (h : At L k t b) (hb : 0 < b') (e : t * b' = t' * b) : At L k t' b' := by
  obtain ⟨h0, h1, h2⟩ := h
  refine ⟨hb, ?_, ?_⟩
  · have x1 := Int.mul_le_mul_of_nonneg_right h1 (Int.le_of_lt hb)
    have e1 : (sts L k).t * b * b' = (sts L k).t * b' * b := by grind
    have e2 : t * (sts L k).b * b' = t' * (sts L k).b * b := by
      have : t * (sts L k).b * b' = (t * b') * (sts L k).b := by grind
      rw [this, e]; grind
    rw [e1, e2] at x1
    exact Int.le_of_mul_le_mul_right x1 h0
  · have x1 := Int.mul_lt_mul_of_pos_right h2 hb
    have e1 : (sts L (k + 1)).t * b * b' = (sts L (k + 1)).t * b' * b := by grind
    have e2 : t * (sts L (k + 1)).b * b' = t' * (sts L (k + 1)).b * b := by
      have : t * (sts L (k + 1)).b * b' = (t * b') * (sts L (k + 1)).b := by grind
      rw [this, e]; grind
    rw [e1, e2] at x1
    exact Int.lt_of_mul_lt_mul_right x1 (Int.le_of_lt h0)
theorem at_hit {L : Ln} (o : OkL L) (k : Nat) : At L k (sts L k).t (sts L k).b := ⟨(st_inv o k).b0, Int.le_refl _, (st_next o (st_inv o k)).2⟩
/-- halfway between two hits -/
theorem at_mid {L : Ln} (o : OkL L) (k : Nat) : At L k ((sts L k).t * (sts L (k + 1)).b + (sts L (k + 1)).t * (sts L k).b) (2 * (sts L k).b * (sts L (k + 1)).b) := by
  have h := (st_next o (st_inv o k)).2
  have h : (sts L k).t * (sts L (k + 1)).b < (sts L (k + 1)).t * (sts L k).b := h
  have p1 := (st_inv o k).b0
  have p2 := (st_inv o (k + 1)).b0
  unfold At
  generalize (sts L k).t = t at *
  generalize (sts L k).b = b at *
  generalize (sts L (k + 1)).t = t' at *
  generalize (sts L (k + 1)).b = b' at *
  refine ⟨mulp (by omega) p2, ?_, ?_⟩
  · have := Int.mul_le_mul_of_nonneg_right (Int.le_of_lt h) (Int.le_of_lt p1)
    have e1 : t * (2 * b * b') = t * b' * b + t * b' * b := by grind
    have e2 : (t * b' + t' * b) * b = t * b' * b + t' * b * b := by grind
    omega
  · have := Int.mul_lt_mul_of_pos_right h p2
    have e1 : t' * (2 * b * b') = t' * b * b' + t' * b * b' := by grind
    have e2 : (t * b' + t' * b) * b' = t * b' * b' + t' * b * b' := by grind
    omega
/-! ### corners -/
def both (L : Ln) (s : St2) : Bool := hit1 L s && hit2 L s
def zc (L : Ln) : Nat → Int
  | 0 => 0
  | k + 1 => zc L k + (if both L (sts L k) then 1 else 0)
theorem st_sum {L : Ln} (o : OkL L) : ∀ k : Nat, (sts L k).n + (sts L k).m - zc L k = k
  | 0 => rfl
  | k + 1 => by
    have h := st_sum o k
    have hs := hit_some o (sts L k)
    show (if hit1 L (sts L k) then (sts L k).n + 1 else (sts L k).n) + (if hit2 L (sts L k) then (sts L k).m + 1 else (sts L k).m) - (zc L k + (if both L (sts L k) then 1 else 0)) = ((k + 1 : Nat) : Int)
    unfold both
    cases h1 : hit1 L (sts L k) <;> cases h2 : hit2 L (sts L k) <;> simp_all <;> omega
theorem bz_exists {t : Int} {m : Nat} : ∀ (n u v : Nat) (b f : Int), v ≤ n → Bz t m u v b f → ∃ u b f, Bz t m u 0 b f
  | n, u, 0, b, f, _, h => ⟨u, b, f, h⟩
  | 0, u, v + 1, _, _, hv, _ => absurd hv (by omega)
  | n + 1, u, v + 1, b, f, hv, h => by
    have hl := Nat.mod_lt u (y := v + 1) (by omega)
    exact bz_exists n _ _ _ _ (by omega) (h.step (by omega))
theorem inv_exists {t m : Int} (hm : 0 < m) (hg : Int.gcd t m = 1) : ∃ d, m ∣ d * t - 1 := by
  obtain ⟨M, rfl⟩ : ∃ M : Nat, m = M := ⟨m.toNat, by omega⟩
  obtain ⟨u, b, f, h⟩ := bz_exists _ _ _ _ _ (Nat.le_refl _) (bz_start (t := t) (show 0 < M by omega))
  exact ⟨_, bz_end h hg⟩
theorem cor_exists {x y p q a c : Int} (hc : 0 < c) (hp : p ≠ 0) : ∃ l, IsCor x y p q a c l := by
  have pM : 0 < kM p q a c := mulp (av_pos hp) hc
  have sM : 0 < kM p q a c / kG p q a c := gdiv_pos (t := kF p q a c) pM
  obtain ⟨d, hd⟩ := inv_exists sM (gcd_div (f := kF p q a c) pM)
  exact ⟨_, sol_of sM hd⟩
theorem ediv_succ {m b : Int} (hb : 0 < b) : (m + 1) / b - m / b = if b ∣ m + 1 then 1 else 0 := by
  have h1 := Int.mul_ediv_add_emod (m + 1) b
  have h2 := Int.mul_ediv_add_emod m b
  have a0 := Int.emod_nonneg (m + 1) (show b ≠ 0 by omega)
  have a1 := Int.emod_lt_of_pos (m + 1) hb
  have b0 := Int.emod_nonneg m (show b ≠ 0 by omega)
  have b1 := Int.emod_lt_of_pos m hb
  have hd : b ∣ m + 1 ↔ (m + 1) % b = 0 := Int.dvd_iff_emod_eq_zero
  generalize (m + 1) / b = u at *
  generalize m / b = v at *
  generalize (m + 1) % b = r at *
  generalize m % b = s at *
  have e : b * (u - v) = 1 - r + s := by rw [Int.mul_sub]; omega
  have h3 : u - v < 2 := by
    rcases Int.lt_or_le (u - v) 2 with h | h
    · exact h
    · have := Int.mul_le_mul_of_nonneg_left h (Int.le_of_lt hb)
      omega
  have h4 : -1 < u - v := by
    rcases Int.lt_or_le (-1) (u - v) with h | h
    · exact h
    · have := Int.mul_le_mul_of_nonneg_left h (Int.le_of_lt hb)
      omega
  have h5 : u - v = 0 ∨ u - v = 1 := by omega
  rcases h5 with h | h
  · rw [h] at e ⊢
    rw [Int.mul_zero] at e
    rw [if_neg (by rw [hd]; omega)]
  · rw [h] at e ⊢
    rw [Int.mul_one] at e
    rw [if_pos (by rw [hd]; omega)]
theorem ff_succ {n l b : Int} (hb : 0 < b) : FF (n + 1) l b = FF n l b + (if b ∣ n + 1 - l then 1 else 0) := by
  have h := ediv_succ (m := n - l) hb
  have e : n - l + 1 = n + 1 - l := by omega
  rw [e] at h
  unfold FF
  rw [← h]; omega
/-- a hit of the first line is a corner -/
theorem both_iff {L : Ln} (o : OkL L) {s : St2} (I : SI L s) (h : hit1 L s = true) (hq : L.q ≠ 0) : both L s = true ↔ kM L.p L.q L.a L.c ∣ kF L.p L.q L.a L.c * (s.n + 1) - kRs L.x L.y L.p L.q L.a L.c := by
  have h' := h
  unfold hit1 at h'
  obtain ⟨hp, hle⟩ := of_decide_eq_true h'
  have hle : w1 L s * av L.q ≤ w2 L s * av L.p := hle.resolve_left hq
  have vp := av_pos hp
  have vq := av_pos hq
  have eE : kF L.p L.q L.a L.c * (s.n + 1) - kRs L.x L.y L.p L.q L.a L.c = av L.q * w1 L s + av L.p * lo L.y L.q L.c := by
    unfold kF kRs w1 wN lo
    grind
  rw [eE]
  unfold both
  rw [h, Bool.true_and]
  unfold hit2
  rw [decide_eq_true_iff]
  have e2 : w2 L s = (s.m + 1) * L.c - lo L.y L.q L.c := rfl
  constructor
  · intro ⟨_, hz⟩
    have eq : w1 L s * av L.q = w2 L s * av L.p := by omega
    refine ⟨s.m + 1, ?_⟩
    unfold kM
    rw [Int.mul_comm (av L.q), eq, e2]
    grind
  · intro ⟨j, hj⟩
    refine ⟨hq, .inr ?_⟩
    unfold kM at hj
    have pc := mulp o.c0 vp
    -- the second line has passed its m-th hit
    have tl := time_le I.i1 hp
    have lw := I.i2.lw hq
    have g1 : s.m * (L.c * av L.p) < av L.q * w1 L s + av L.p * lo L.y L.q L.c := by
      have x1 : s.m * (L.c * s.b) * av L.p ≤ (av L.q * s.t + lo L.y L.q L.c * s.b) * av L.p := Int.mul_le_mul_of_nonneg_right lw (by omega)
      have x2 : s.t * av L.p * av L.q < w1 L s * s.b * av L.q := Int.mul_lt_mul_of_pos_right tl vq
      have x3 : s.m * (L.c * av L.p) * s.b < (av L.q * w1 L s + av L.p * lo L.y L.q L.c) * s.b := by
        have e1 : s.m * (L.c * av L.p) * s.b = s.m * (L.c * s.b) * av L.p := by grind
        have e2 : (av L.q * w1 L s + av L.p * lo L.y L.q L.c) * s.b = w1 L s * s.b * av L.q + lo L.y L.q L.c * s.b * av L.p := by grind
        have e3 : (av L.q * s.t + lo L.y L.q L.c * s.b) * av L.p = s.t * av L.p * av L.q + lo L.y L.q L.c * s.b * av L.p := by grind
        omega
      exact Int.lt_of_mul_lt_mul_right x3 (Int.le_of_lt I.b0)
    rw [hj] at g1
    have g2 : s.m * (L.c * av L.p) < j * (L.c * av L.p) := by
      have : av L.p * L.c * j = j * (L.c * av L.p) := by grind
      rw [this] at g1; exact g1
    have g3 : s.m < j := Int.lt_of_mul_lt_mul_right g2 (Int.le_of_lt pc)
    have g4 : (s.m + 1) * (L.c * av L.p) ≤ j * (L.c * av L.p) := Int.mul_le_mul_of_nonneg_right (by omega) (Int.le_of_lt pc)
    have e5 : av L.p * L.c * j = j * (L.c * av L.p) := by grind
    rw [e2]
    have e6 : ((s.m + 1) * L.c - lo L.y L.q L.c) * av L.p = (s.m + 1) * (L.c * av L.p) - av L.p * lo L.y L.q L.c := by grind
    rw [e6, Int.mul_comm (w1 L s)]
    omega
theorem cor_dvd {x y p q a c l : Int} (hc : 0 < c) (hp : p ≠ 0) (h0 : kRs x y p q a c % kG p q a c = 0) : IsCor x y p q a c l ↔ kM p q a c ∣ kF p q a c * l - kRs x y p q a c := by
  have g0 := gcd_pos (t := kF p q a c) (mulp (av_pos hp) hc : 0 < kM p q a c)
  have g0 : 0 < kG p q a c := g0
  have dF := Int.mul_ediv_cancel' (show kG p q a c ∣ kF p q a c from Int.gcd_dvd_left ..)
  have dM := Int.mul_ediv_cancel' (show kG p q a c ∣ kM p q a c from Int.gcd_dvd_right ..)
  have dR := Int.mul_ediv_cancel' (Int.dvd_of_emod_eq_zero h0)
  unfold IsCor
  generalize kF p q a c / kG p q a c = F' at *
  generalize kM p q a c / kG p q a c = M' at *
  generalize kRs x y p q a c / kG p q a c = R' at *
  rw [← dF, ← dM, ← dR]
  generalize kG p q a c = g at *
  constructor
  · intro ⟨k, hk⟩
    exact ⟨k, by have : g * F' * l - g * R' = g * (F' * l - R') := by grind
                 rw [this, hk]; grind⟩
  · intro ⟨k, hk⟩
    refine ⟨k, Int.eq_of_mul_eq_mul_left (show g ≠ 0 by omega) ?_⟩
    have : g * (F' * l - R') = g * F' * l - g * R' := by grind
    rw [this, hk]; grind
theorem zc_cnr {L : Ln} (o : OkL L) (k : Nat) : Cnr L.x L.y L.p L.q L.a L.c (sts L k).n (zc L k) := by
  have none_ : (∀ j, both L (sts L j) = false) → zc L k = 0 := fun h => by
    induction k with
    | zero => rfl
    | succ k ih =>
      show zc L k + (if both L (sts L k) then 1 else 0) = 0
      rw [h k, ih]; rfl
  refine ⟨fun h => none_ fun j => ?_, fun hp hq hr => none_ fun j => ?_, fun hp hq hr => .inr ?_⟩
  · unfold both hit1 hit2
    rw [Bool.and_eq_false_iff, decide_eq_false_iff_not, decide_eq_false_iff_not]
    omega
  · refine Bool.eq_false_iff.mpr fun z => hr ?_
    have h1 : hit1 L (sts L j) = true := (Bool.and_eq_true_iff.mp z).1
    have hd := (both_iff o (st_inv o j) h1 hq).mp z
    have g1 : kG L.p L.q L.a L.c ∣ kM L.p L.q L.a L.c := Int.gcd_dvd_right ..
    have g2 : kG L.p L.q L.a L.c ∣ kF L.p L.q L.a L.c * ((sts L j).n + 1) := Int.dvd_trans (Int.gcd_dvd_left ..) (Int.dvd_mul_right ..)
    have g3 := Int.dvd_sub g2 (Int.dvd_trans g1 hd)
    have e : kF L.p L.q L.a L.c * ((sts L j).n + 1) - (kF L.p L.q L.a L.c * ((sts L j).n + 1) - kRs L.x L.y L.p L.q L.a L.c) = kRs L.x L.y L.p L.q L.a L.c := by omega
    rw [e] at g3
    exact Int.emod_eq_zero_of_dvd g3
  · obtain ⟨l, hl⟩ := cor_exists (x := L.x) (y := L.y) (q := L.q) (a := L.a) o.c0 hp
    refine ⟨l, hl, ?_⟩
    clear none_
    have pM : 0 < kM L.p L.q L.a L.c := mulp (av_pos hp) o.c0
    have sM : 0 < kM L.p L.q L.a L.c / kG L.p L.q L.a L.c := gdiv_pos (t := kF L.p L.q L.a L.c) pM
    induction k with
    | zero =>
      show (0 : Int) = FF 0 l _
      unfold FF; rw [Int.zero_sub]; omega
    | succ k ih =>
      show zc L k + (if both L (sts L k) then 1 else 0) = FF (if hit1 L (sts L k) then (sts L k).n + 1 else (sts L k).n) l _
      by_cases h1 : hit1 L (sts L k) = true
      · rw [h1]
        simp only [if_true]
        rw [ff_succ sM, ← ih]
        have hb := both_iff o (st_inv o k) h1 hq
        rw [← cor_dvd o.c0 hp hr] at hb
        have hc : kM L.p L.q L.a L.c / kG L.p L.q L.a L.c ∣ (sts L k).n + 1 - l ↔ IsCor L.x L.y L.p L.q L.a L.c ((sts L k).n + 1) := by
          constructor
          · intro z
            unfold IsCor at hl ⊢
            have := Int.dvd_add hl (Int.dvd_trans z (Int.dvd_mul_left (kF L.p L.q L.a L.c / kG L.p L.q L.a L.c) ((sts L k).n + 1 - l)))
            have e : kF L.p L.q L.a L.c / kG L.p L.q L.a L.c * l - kRs L.x L.y L.p L.q L.a L.c / kG L.p L.q L.a L.c + kF L.p L.q L.a L.c / kG L.p L.q L.a L.c * ((sts L k).n + 1 - l) = kF L.p L.q L.a L.c / kG L.p L.q L.a L.c * ((sts L k).n + 1) - kRs L.x L.y L.p L.q L.a L.c / kG L.p L.q L.a L.c := by grind
            rwa [e] at this
          · intro z
            exact sol_uniq (gcd_div (f := kF L.p L.q L.a L.c) pM) z hl
        by_cases hbb : both L (sts L k) = true
        · rw [if_pos hbb, if_pos (hc.mpr (hb.mp hbb))]
        · rw [if_neg hbb, if_neg fun z => hbb (hb.mpr (hc.mp z))]
      · have hb : both L (sts L k) = false := by unfold both; rw [Bool.eq_false_iff.mpr h1]; rfl
        rw [hb, Bool.eq_false_iff.mpr h1]
        simp only [Bool.false_eq_true, if_false]
        rw [← ih]; omega
/-- how many hits there are up to a time between the k-th and the next one -/
def HitN' (a c x y p q t b v : Int) : Prop := ∃ z, Cnr x y p q a c (Nn x p a t b) z ∧ v = Nn x p a t b + Nn y q c t b - z
theorem hit_at {L : Ln} (o : OkL L) {k : Nat} {t b : Int} (h : At L k t b ∨ (k = 0 ∧ t ≤ 0)) : HitN' L.a L.c L.x L.y L.p L.q t b k := by
  obtain ⟨e1, e2⟩ := nn_at o h
  refine ⟨zc L k, ?_, ?_⟩
  · rw [e1]; exact zc_cnr o k
  · rw [e1, e2]; exact (st_sum o k).symm
end M
namespace M
theorem av_mul {p c : Int} (hc : 0 < c) : ((p * c).natAbs : Int) = av p * c := by
  unfold av
  rw [Int.natAbs_mul, Int.natCast_mul]
  congr 1
  omega
theorem kG_eq {p q a c : Int} (ha : 0 < a) (hc : 0 < c) : ((Int.gcd (q * a) (p * c) : Nat) : Int) = kG p q a c := by
  unfold kG kF kM
  rw [← av_mul ha, ← av_mul hc]
  unfold Int.gcd
  rw [Int.natAbs_natCast, Int.natAbs_natCast]
/-- _law_meets(desk, roll) -/
def spMeet : Sp := fun ds S Q _ => ∃ a c x y p q, ds = [prD a c, shD x y p q] ∧ 0 < a ∧ 0 < c ∧ Bd 1500 a ∧ Bd 1500 c ∧ Bd 1400 x ∧ Bd 1400 y ∧ Bd 1500 p ∧ Bd 1500 q ∧ (p = 0 ∨ q = 0 → Q .non S) ∧ (p ≠ 0 → q ≠ 0 → (q * x - p * y) % kG p q a c ≠ 0 → Q .non S) ∧ (p ≠ 0 → q ≠ 0 → (q * x - p * y) % kG p q a c = 0 → ∀ r, 0 ≤ r → r < kM p q a c / kG p q a c → kM p q a c / kG p q a c ∣ q * a / kG p q a c * r - (q * x - p * y) / kG p q a c → Q (prD r (kM p q a c / kG p q a c)) S)
def loP (x d s t b : Int) : Int := if d = 0 then 1 else if 0 < d then x / s + 1 else 0 - (0 - (x * b + d * t)) / (s * b)
def hiP (x d s t b : Int) : Int := if d = 0 then 0 else if 0 < d then (x * b + d * t) / (s * b) else 0 - (0 - x) / s - 1
def spPas : Sp := fun ds S Q _ => ∃ x d s t b, ds = [.int x, .int d, .int s, prD t b] ∧ 0 < s ∧ 0 < b ∧ Bd 1500 x ∧ Bd 1500 d ∧ Bd 1500 s ∧ Bd 1500 t ∧ Bd 1500 b ∧ Q (prD (loP x d s t b) (hiP x d s t b)) S
theorem nn_pas {x d s t b : Int} (hs : 0 < s) (hb : 0 < b) (ht : 0 < t) : hiP x d s t b - loP x d s t b + 1 = Nn x d s t b := by
  unfold hiP loP Nn sg av
  by_cases h : d = 0
  · rw [if_pos h, if_pos h, if_pos (.inl h)]; rfl
  · have hdt : ¬ (d = 0 ∨ t ≤ 0) := by omega
    have p := mulp hs hb
    by_cases h2 : 0 < d
    · simp only [if_neg h, if_neg hdt, if_pos h2]
      have e : x * b + d * t = (d.natAbs : Int) * t + x % s * b + (x / s) * (s * b) := by
        have h1 := Int.mul_ediv_add_emod x s
        have h3 : (d.natAbs : Int) = d := by omega
        rw [h3]
        generalize x / s = k at *
        generalize x % s = r at *
        grind
      rw [e, Int.add_mul_ediv_right _ _ (by omega)]
      omega
    · simp only [if_neg h, if_neg hdt, if_neg h2]
      have e : 0 - (x * b + d * t) = (d.natAbs : Int) * t + (-x) % s * b + ((-x) / s) * (s * b) := by
        have h1 := Int.mul_ediv_add_emod (-x) s
        have h3 : (d.natAbs : Int) = -d := by omega
        rw [h3]
        generalize (-x) / s = k at *
        generalize (-x) % s = r at *
        grind
      rw [e, Int.add_mul_ediv_right _ _ (by omega), Int.zero_sub x]
      omega
def spAmong : Sp := fun ds S Q _ => ∃ l h r b, ds = [.int l, .int h, .int r, .int b] ∧ 0 < b ∧ Bd 3000 b ∧ Q (.int ((h - r) / b - (l - 1 - r) / b)) S
theorem neg_div1 {m b : Int} (hb : 0 < b) : (m - 1) / b = -((-m) / b) - 1 := by
  have h1 := Int.mul_ediv_add_emod (m - 1) b
  have h2 := Int.mul_ediv_add_emod (-m) b
  have a0 := Int.emod_nonneg (m - 1) (show b ≠ 0 by omega)
  have a1 := Int.emod_lt_of_pos (m - 1) hb
  have b0 := Int.emod_nonneg (-m) (show b ≠ 0 by omega)
  have b1 := Int.emod_lt_of_pos (-m) hb
  generalize (m - 1) / b = u at *
  generalize (-m) / b = v at *
  generalize (m - 1) % b = r at *
  generalize (-m) % b = s at *
  have e : b * (u + v) = -1 - r - s := by rw [Int.mul_add]; omega
  have h3 : u + v < 0 := by
    rcases Int.lt_or_le (u + v) 0 with h | h
    · exact h
    · have := Int.mul_nonneg (Int.le_of_lt hb) h
      omega
  have h4 : -2 < u + v := by
    rcases Int.lt_or_le (-2) (u + v) with h | h
    · exact h
    · have := Int.mul_le_mul_of_nonneg_left h (Int.le_of_lt hb)
      omega
  omega
theorem ff_per {n z k b : Int} (hb : 0 < b) : FF n (z + b * k) b = FF n z b := by
  unfold FF
  have e1 : n - (z + b * k) = n - z + (-k) * b := by grind
  have e2 : -(z + b * k) = -z + (-k) * b := by grind
  rw [e1, e2, Int.add_mul_ediv_right _ _ (by omega), Int.add_mul_ediv_right _ _ (by omega)]
  omega
theorem ff_zero {z b : Int} : FF 0 z b = 0 := by unfold FF; rw [Int.zero_sub]; omega
/-- the law's residue and the program's -/
theorem cor_id {x y p q a c : Int} (ha : 0 < a) (hc : 0 < c) (hp : p ≠ 0) (hq : q ≠ 0) : ∃ ε : Int, (ε = 1 ∨ ε = -1) ∧ ∀ l, kF p q a c * l - kRs x y p q a c = ε * (q * a * (if 0 < p then l + sg p x / a else -(l + sg p x / a)) - (q * x - p * y)) - kM p q a c * (sg q y / c) := by
  have h1 := Int.mul_ediv_add_emod (sg p x) a
  have h2 := Int.mul_ediv_add_emod (sg q y) c
  unfold kF kM kRs av
  unfold sg at *
  by_cases h3 : 0 < p <;> by_cases h4 : 0 < q
  · refine ⟨1, .inl rfl, fun l => ?_⟩
    rw [if_pos h3] at h1
    rw [if_pos h4] at h2
    rw [if_pos h3, if_pos h3, if_pos h4]
    have e1 : (p.natAbs : Int) = p := by omega
    have e2 : (q.natAbs : Int) = q := by omega
    rw [e1, e2]
    generalize x / a = u at *
    generalize x % a = r at *
    generalize y / c = v at *
    generalize y % c = s at *
    grind
  · refine ⟨-1, .inr rfl, fun l => ?_⟩
    rw [if_pos h3] at h1
    rw [if_neg h4] at h2
    rw [if_pos h3, if_pos h3, if_neg h4]
    have e1 : (p.natAbs : Int) = p := by omega
    have e2 : (q.natAbs : Int) = -q := by omega
    rw [e1, e2]
    generalize x / a = u at *
    generalize x % a = r at *
    generalize (-y) / c = v at *
    generalize (-y) % c = s at *
    grind
  · refine ⟨-1, .inr rfl, fun l => ?_⟩
    rw [if_neg h3] at h1
    rw [if_pos h4] at h2
    rw [if_neg h3, if_neg h3, if_pos h4]
    have e1 : (p.natAbs : Int) = -p := by omega
    have e2 : (q.natAbs : Int) = q := by omega
    rw [e1, e2]
    generalize (-x) / a = u at *
    generalize (-x) % a = r at *
    generalize y / c = v at *
    generalize y % c = s at *
    grind
  · refine ⟨1, .inl rfl, fun l => ?_⟩
    rw [if_neg h3] at h1
    rw [if_neg h4] at h2
    rw [if_neg h3, if_neg h3, if_neg h4]
    have e1 : (p.natAbs : Int) = -p := by omega
    have e2 : (q.natAbs : Int) = -q := by omega
    rw [e1, e2]
    generalize (-x) / a = u at *
    generalize (-x) % a = r at *
    generalize (-y) / c = v at *
    generalize (-y) % c = s at *
    grind
theorem kM_pos {p q a c : Int} (hc : 0 < c) (hp : p ≠ 0) : 0 < kM p q a c := mulp (av_pos hp) hc
theorem kG_pos {p q a c : Int} (hc : 0 < c) (hp : p ≠ 0) : 0 < kG p q a c := gcd_pos (t := kF p q a c) (kM_pos hc hp)
theorem kG_F {p q a c : Int} : kG p q a c ∣ kF p q a c := Int.gcd_dvd_left ..
theorem kG_M {p q a c : Int} : kG p q a c ∣ kM p q a c := Int.gcd_dvd_right ..
theorem kG_A {p q a c : Int} (ha : 0 < a) (hc : 0 < c) : kG p q a c ∣ q * a := by rw [← kG_eq ha hc]; exact Int.gcd_dvd_left ..
theorem rest_iff {x y p q a c : Int} (ha : 0 < a) (hc : 0 < c) (hp : p ≠ 0) (hq : q ≠ 0) : kRs x y p q a c % kG p q a c = 0 ↔ (q * x - p * y) % kG p q a c = 0 := by
  obtain ⟨ε, he, h⟩ := cor_id (x := x) (y := y) ha hc hp hq
  have h := h (-(sg p x / a))
  have e0 : (if 0 < p then -(sg p x / a) + sg p x / a else -(-(sg p x / a) + sg p x / a)) = 0 := by split <;> omega
  rw [e0, Int.mul_zero] at h
  obtain ⟨u, hu⟩ := kG_F (p := p) (q := q) (a := a) (c := c)
  obtain ⟨v, hv⟩ := kG_M (p := p) (q := q) (a := a) (c := c)
  generalize kRs x y p q a c = R at *
  generalize q * x - p * y = C at *
  rw [hu, hv] at h
  generalize kG p q a c = g at *
  generalize sg p x / a = k at *
  generalize sg q y / c = m at *
  have e : R = ε * C + g * (v * m - u * k) := by rcases he with rfl | rfl <;> grind
  rw [← Int.dvd_iff_emod_eq_zero, ← Int.dvd_iff_emod_eq_zero, e]
  have hd : g ∣ g * (v * m - u * k) := Int.dvd_mul_right ..
  have h1 : g ∣ ε * C ↔ g ∣ C := by
    rcases he with rfl | rfl
    · rw [Int.one_mul]
    · rw [Int.neg_one_mul, Int.dvd_neg]
  rw [← h1]
  constructor
  · intro z
    have := Int.dvd_sub z hd
    have e : ε * C + g * (v * m - u * k) - g * (v * m - u * k) = ε * C := by omega
    rwa [e] at this
  · intro z
    exact Int.dvd_add z hd
theorem cor_of {x y p q a c r : Int} (ha : 0 < a) (hc : 0 < c) (hp : p ≠ 0) (hq : q ≠ 0) (h0 : (q * x - p * y) % kG p q a c = 0) (h : kM p q a c / kG p q a c ∣ q * a / kG p q a c * r - (q * x - p * y) / kG p q a c) : IsCor x y p q a c (if 0 < p then r - sg p x / a else -r - sg p x / a) := by
  obtain ⟨ε, he, hi⟩ := cor_id (x := x) (y := y) ha hc hp hq
  have hi := hi (if 0 < p then r - sg p x / a else -r - sg p x / a)
  have e0 : (if 0 < p then (if 0 < p then r - sg p x / a else -r - sg p x / a) + sg p x / a else -((if 0 < p then r - sg p x / a else -r - sg p x / a) + sg p x / a)) = r := by split <;> omega
  rw [e0] at hi
  have hR := (rest_iff (x := x) (y := y) ha hc hp hq).mpr h0
  unfold IsCor
  have g0 := kG_pos (q := q) (a := a) hc hp
  have dF := Int.mul_ediv_cancel' (kG_F (p := p) (q := q) (a := a) (c := c))
  have dM := Int.mul_ediv_cancel' (kG_M (p := p) (q := q) (a := a) (c := c))
  have dA := Int.mul_ediv_cancel' (kG_A (p := p) (q := q) ha hc)
  have dR := Int.mul_ediv_cancel' (Int.dvd_of_emod_eq_zero hR)
  have dC := Int.mul_ediv_cancel' (Int.dvd_of_emod_eq_zero h0)
  generalize (if 0 < p then r - sg p x / a else -r - sg p x / a) = l at *
  generalize kF p q a c / kG p q a c = F' at *
  generalize kM p q a c / kG p q a c = M' at *
  generalize q * a / kG p q a c = A' at *
  generalize kRs x y p q a c / kG p q a c = R' at *
  generalize (q * x - p * y) / kG p q a c = C' at *
  rw [← dF, ← dM, ← dA, ← dR, ← dC] at hi
  generalize kG p q a c = g at *
  generalize sg q y / c = m at *
  have e : F' * l - R' = ε * (A' * r - C') - M' * m := by
    refine Int.eq_of_mul_eq_mul_left (show g ≠ 0 by omega) ?_
    grind
  rw [e]
  exact Int.dvd_sub (Int.dvd_trans h (Int.dvd_mul_left ..)) (Int.dvd_mul_right ..)
theorem cnr_uniq {x y p q a c n z z' : Int} (hc : 0 < c) (h : Cnr x y p q a c n z) (h' : Cnr x y p q a c n z') : z = z' := by
  by_cases hp : p = 0
  · rw [h.no (.inl hp), h'.no (.inl hp)]
  by_cases hq : q = 0
  · rw [h.no (.inr hq), h'.no (.inr hq)]
  by_cases hr : kRs x y p q a c % kG p q a c = 0
  · have pM := kM_pos (q := q) (a := a) hc hp
    have sM : 0 < kM p q a c / kG p q a c := gdiv_pos (t := kF p q a c) pM
    rcases h.ry hp hq hr with ⟨rfl, rfl⟩ | ⟨l, hl, rfl⟩ <;> rcases h'.ry hp hq hr with ⟨h1, rfl⟩ | ⟨l', hl', rfl⟩
    · rfl
    · rw [ff_zero]
    · rw [h1, ff_zero]
    · obtain ⟨k, hk⟩ := sol_uniq (gcd_div (f := kF p q a c) pM) hl hl'
      have hk : l - l' = kM p q a c / kG p q a c * k := hk
      have e : l = l' + kM p q a c / kG p q a c * k := by omega
      rw [e, ff_per sM]
  · rw [h.rn hp hq hr, h'.rn hp hq hr]
theorem among_ff {x p t b a r bd : Int} (ha : 0 < a) (hb : 0 < b) (ht : 0 < t) (hp : p ≠ 0) (hbd : 0 < bd) : (hiP x p a t b - r) / bd - (loP x p a t b - 1 - r) / bd = FF (Nn x p a t b) (if 0 < p then r - sg p x / a else -r - sg p x / a) bd := by
  have hn := nn_pas (x := x) (d := p) ha hb ht
  generalize Nn x p a t b = n at *
  unfold FF sg
  by_cases h : 0 < p
  · simp only [if_pos h]
    have e : loP x p a t b = x / a + 1 := by unfold loP; simp only [if_neg hp, if_pos h]
    rw [e] at hn ⊢
    have e1 : hiP x p a t b - r = n - (r - x / a) := by omega
    have e2 : x / a + 1 - 1 - r = -(r - x / a) := by omega
    rw [e1, e2]
  · simp only [if_neg h]
    have e : hiP x p a t b = -((-x) / a) - 1 := by unfold hiP; simp only [if_neg hp, if_neg h]; rw [Int.zero_sub, Int.zero_sub]
    rw [e] at hn ⊢
    have e1 : -((-x) / a) - 1 - r = (-r - (-x) / a) - 1 := by omega
    have e2 : loP x p a t b - 1 - r = ((-r - (-x) / a) - n) - 1 := by omega
    rw [e1, e2, neg_div1 hbd, neg_div1 hbd]
    have e3 : -(-r - -x / a - n) = n - (-r - (-x) / a) := by omega
    rw [e3]
    omega
/-- _law_count(desk, roll, now) -/
def spLCo : Sp := fun ds S Q _ => ∃ a c x y p q t b, ds = [prD a c, shD x y p q, prD t b] ∧ Sh a c x y p q t b ∧ Bd 1400 x ∧ Bd 1400 y ∧ ∀ z, Cnr x y p q a c (Nn x p a t b) z → Q (.int (Nn x p a t b + Nn y q c t b - z)) S
theorem nn_t {x d s t b : Int} (h : t ≤ 0) : Nn x d s t b = 0 := by unfold Nn; rw [if_pos (.inr h)]
theorem among2 {x d s t b : Int} (hs : 0 < s) (hb : 0 < b) (ht : 0 < t) : (hiP x d s t b - 0) / 2 - (loP x d s t b - 1 - 0) / 2 = lc (Nn x d s t b) (fst d x s) true ∧ hiP x d s t b - loP x d s t b + 1 - lc (Nn x d s t b) (fst d x s) true = lc (Nn x d s t b) (fst d x s) false := by
  have hn := nn_pas (x := x) (d := d) hs hb ht
  have h0 := nn_nonneg (x := x) (d := d) (t := t) hs hb
  by_cases hd : d = 0
  · have e1 : loP x d s t b = 1 := by unfold loP; rw [if_pos hd]
    have e2 : hiP x d s t b = 0 := by unfold hiP; rw [if_pos hd]
    rw [e1, e2] at hn ⊢
    unfold lc
    rw [if_pos (by omega), if_pos (by omega)]
    omega
  · by_cases h : 0 < d
    · have e : loP x d s t b = x / s + 1 := by unfold loP; simp only [if_neg hd, if_pos h]
      have ef : fst d x s = x / s + 1 := by unfold fst; rw [if_pos h]
      rw [ef]
      rw [e] at hn ⊢
      generalize x / s = u at *
      generalize hiP x d s t b = v at *
      generalize Nn x d s t b = n at *
      unfold lc
      by_cases hz : n = 0
      · simp only [if_pos hz]; omega
      · simp only [if_neg hz]
        simp
        split <;> omega
    · have e : hiP x d s t b = -((-x) / s) - 1 := by unfold hiP; simp only [if_neg hd, if_neg h]; rw [Int.zero_sub, Int.zero_sub]
      have ef : fst d x s = -((-x) / s) - 1 := by unfold fst; rw [if_neg h]
      rw [ef]
      rw [e] at hn ⊢
      generalize (-x) / s = u at *
      generalize loP x d s t b = v at *
      generalize Nn x d s t b = n at *
      unfold lc
      by_cases hz : n = 0
      · simp only [if_pos hz]; omega
      · simp only [if_neg hz]
        simp
        split <;> omega
def letL (a c x y p q t b : Int) : List D := [.int (cuN a c x y p q t b 87), .int (cuN a c x y p q t b 69), .int (cuN a c x y p q t b 83), .int (cuN a c x y p q t b 78)]
def spLL : Sp := fun ds S Q _ => ∃ a c x y p q t b, ds = [prD a c, shD x y p q, prD t b] ∧ Sh a c x y p q t b ∧ ∀ r S', Ext S S' → S' r = some (.lst (letL a c x y p q t b)) → Q (.ref r) S'
theorem low_part' {t b : Int} (hb : 0 < b) : partB (low t b) = true := by
  show partB (prD (t / ((Int.gcd t b : Nat) : Int)) (b / ((Int.gcd t b : Nat) : Int))) = true
  have p := gdiv_pos (t := t) hb
  rw [part_of, gcd_div hb, decide_eq_true (by omega)]
  rfl
end M
namespace M
/-! ### each hit of the first line comes -/
theorem zc_nonneg {L : Ln} : ∀ k, 0 ≤ zc L k
  | 0 => by show (0 : Int) ≤ 0; decide
  | k + 1 => by
    have := zc_nonneg (L := L) k
    show 0 ≤ zc L k + (if both L (sts L k) then 1 else 0)
    split <;> omega
theorem m_bound {L : Ln} (o : OkL L) (hp : L.p ≠ 0) {k : Nat} {l : Int} (h : (sts L k).n + 1 ≤ l) : (sts L k).m * (L.c * av L.p) < av L.q * (l * L.a) + L.c * av L.p := by
  have I := st_inv o k
  have vp := av_pos hp
  have pc := mulp o.c0 vp
  have vq : 0 ≤ av L.q := by unfold av; omega
  have hl : 0 < l := by have := I.i1.n0; omega
  by_cases hq : L.q = 0
  · rw [st_zero2 hq, Int.zero_mul]
    have : 0 ≤ av L.q * (l * L.a) := Int.mul_nonneg vq (Int.le_of_lt (mulp hl o.a0))
    omega
  have lw := I.i2.lw hq
  have tl := time_le I.i1 hp
  have o2 := lo_in (x := L.y) (d := L.q) o.c0
  have o1 := lo_in (x := L.x) (d := L.p) o.a0
  have hw : wN L.x L.p L.a (sts L k).n ≤ l * L.a := by
    unfold wN
    have : ((sts L k).n + 1) * L.a ≤ l * L.a := Int.mul_le_mul_of_nonneg_right h (Int.le_of_lt o.a0)
    omega
  have b0 := I.b0
  generalize (sts L k).m = m at *
  generalize (sts L k).t = t at *
  generalize (sts L k).b = b at *
  generalize wN L.x L.p L.a (sts L k).n = w at *
  generalize lo L.y L.q L.c = e at *
  generalize av L.p = v at *
  generalize av L.q = u at *
  have x1 : m * (L.c * b) * v ≤ (u * t + e * b) * v := Int.mul_le_mul_of_nonneg_right lw (Int.le_of_lt vp)
  have x2 : t * v * u ≤ w * b * u := Int.mul_le_mul_of_nonneg_right (Int.le_of_lt tl) vq
  have x3 : w * b * u ≤ l * L.a * b * u := Int.mul_le_mul_of_nonneg_right (Int.mul_le_mul_of_nonneg_right hw (Int.le_of_lt b0)) vq
  have x4 : e * b * v < L.c * b * v := Int.mul_lt_mul_of_pos_right (Int.mul_lt_mul_of_pos_right o2.2 b0) vp
  have x5 : m * (L.c * v) * b < (u * (l * L.a) + L.c * v) * b := by
    have e1 : m * (L.c * v) * b = m * (L.c * b) * v := by grind
    have e2 : (u * t + e * b) * v = t * v * u + e * b * v := by grind
    have e3 : (u * (l * L.a) + L.c * v) * b = l * L.a * b * u + L.c * b * v := by grind
    omega
  exact Int.lt_of_mul_lt_mul_right x5 (Int.le_of_lt b0)
theorem step_of {L : Ln} {l : Int} (hl : 1 ≤ l) : ∀ k, l ≤ (sts L k).n → ∃ j, j < k ∧ hit1 L (sts L j) = true ∧ (sts L j).n + 1 = l
  | 0, h => by
    have : (sts L 0).n = 0 := rfl
    omega
  | k + 1, h => by
    by_cases h2 : l ≤ (sts L k).n
    · obtain ⟨j, h1, h3⟩ := step_of hl k h2
      exact ⟨j, by omega, h3⟩
    · have e : (sts L (k + 1)).n = if hit1 L (sts L k) then (sts L k).n + 1 else (sts L k).n := rfl
      rw [e] at h
      by_cases hh : hit1 L (sts L k) = true
      · rw [if_pos hh] at h
        exact ⟨k, by omega, hh, by omega⟩
      · rw [if_neg hh] at h
        omega
theorem reach1 {L : Ln} (o : OkL L) (hp : L.p ≠ 0) {l : Int} (hl : 1 ≤ l) : ∃ j, hit1 L (sts L j) = true ∧ (sts L j).n + 1 = l := by
  have vp := av_pos hp
  have pc := mulp o.c0 vp
  have vq : 0 ≤ av L.q := by unfold av; omega
  have hM : 0 ≤ av L.q * (l * L.a) := Int.mul_nonneg vq (Int.le_of_lt (mulp (by omega) o.a0))
  -- far enough
  let K : Nat := (l + (av L.q * (l * L.a) + L.c * av L.p)).toNat + 1
  have hK : l ≤ (sts L K).n := by
    rcases Int.lt_or_le (sts L K).n l with h | h
    · exfalso
      have h2 := m_bound o hp (k := K) (l := l) (by omega)
      have h3 := st_sum o K
      have h4 := zc_nonneg (L := L) K
      have m0 := (st_inv o K).i2.n0
      have h5 : (sts L K).m ≤ (sts L K).m * (L.c * av L.p) := by
        have := Int.mul_le_mul_of_nonneg_left (show 1 ≤ L.c * av L.p by omega) m0
        omega
      have h6 : ((K : Nat) : Int) = l + (av L.q * (l * L.a) + L.c * av L.p) + 1 := by
        show (((l + (av L.q * (l * L.a) + L.c * av L.p)).toNat + 1 : Nat) : Int) = _
        omega
      omega
    · exact h
  obtain ⟨j, _, h1, h2⟩ := step_of hl K hK
  exact ⟨j, h1, h2⟩
/-! ### the first corner -/
def NoC (L : Ln) : Prop := L.p = 0 ∨ L.q = 0 ∨ kRs L.x L.y L.p L.q L.a L.c % kG L.p L.q L.a L.c ≠ 0
instance {L : Ln} : Decidable (NoC L) := by unfold NoC; infer_instance
def bdC (L : Ln) : Int := kM L.p L.q L.a L.c / kG L.p L.q L.a L.c
def FirstC (L : Ln) (v : D) : Prop := (NoC L ∧ v = .non) ∨ (¬ NoC L ∧ ∃ l m n u, 0 < l ∧ l ≤ bdC L ∧ IsCor L.x L.y L.p L.q L.a L.c l ∧ low (l * L.a - lo L.x L.p L.a) (av L.p) = prD m n ∧ HitN' L.a L.c L.x L.y L.p L.q m n u ∧ v = .int (u - 1))
theorem cor_uniq {L : Ln} (o : OkL L) (hp : L.p ≠ 0) {l l' : Int} (h0 : 0 < l) (h1 : l ≤ bdC L) (h : IsCor L.x L.y L.p L.q L.a L.c l) (h0' : 0 < l') (h1' : l' ≤ bdC L) (h' : IsCor L.x L.y L.p L.q L.a L.c l') : l = l' := by
  have pM : 0 < kM L.p L.q L.a L.c := mulp (av_pos hp) o.c0
  obtain ⟨k, hk⟩ := sol_uniq (gcd_div (f := kF L.p L.q L.a L.c) pM) h h'
  have hk : l - l' = bdC L * k := hk
  have sM : 0 < bdC L := gdiv_pos (t := kF L.p L.q L.a L.c) pM
  generalize bdC L = b at *
  have : k = 0 := by
    rcases Int.lt_trichotomy k 0 with h | h | h
    · have := Int.mul_le_mul_of_nonneg_left (show k ≤ -1 by omega) (Int.le_of_lt sM)
      omega
    · exact h
    · have := Int.mul_le_mul_of_nonneg_left (show 1 ≤ k by omega) (Int.le_of_lt sM)
      omega
  rw [this, Int.mul_zero] at hk
  omega
theorem hitn_uniq {a c x y p q t b u u' : Int} (hc : 0 < c) (h : HitN' a c x y p q t b u) (h' : HitN' a c x y p q t b u') : u = u' := by
  obtain ⟨z, hz, rfl⟩ := h
  obtain ⟨z', hz', rfl⟩ := h'
  rw [cnr_uniq hc hz hz']
theorem first_uniq {L : Ln} (o : OkL L) {v v' : D} (h : FirstC L v) (h' : FirstC L v') : v = v' := by
  rcases h with ⟨hn, rfl⟩ | ⟨hn, l, m, n, u, l0, l1, hc, e, hu, rfl⟩ <;> rcases h' with ⟨hn', rfl⟩ | ⟨hn', l', m', n', u', l0', l1', hc', e', hu', rfl⟩
  · rfl
  · exact absurd hn hn'
  · exact absurd hn' hn
  · have hp : L.p ≠ 0 := fun z => hn (.inl z)
    have el := cor_uniq o hp l0 l1 hc l0' l1' hc'
    subst el
    rw [e] at e'
    obtain ⟨rfl, rfl⟩ := pr_inj e'
    rw [hitn_uniq o.c0 hu hu']
theorem noc_ne {L : Ln} (h : ¬ NoC L) : L.p ≠ 0 ∧ L.q ≠ 0 ∧ kRs L.x L.y L.p L.q L.a L.c % kG L.p L.q L.a L.c = 0 := ⟨fun z => h (.inl z), fun z => h (.inr (.inl z)), Decidable.byContradiction fun z => h (.inr (.inr z))⟩
/-- a step that is a corner, its number -/
theorem both_cor {L : Ln} (o : OkL L) {j : Nat} (h : both L (sts L j) = true) : ¬ NoC L ∧ hit1 L (sts L j) = true ∧ IsCor L.x L.y L.p L.q L.a L.c ((sts L j).n + 1) := by
  have hh := Bool.and_eq_true_iff.mp h
  have hp : L.p ≠ 0 := by have := hh.1; unfold hit1 at this; exact (of_decide_eq_true this).1
  have hq : L.q ≠ 0 := by have := hh.2; unfold hit2 at this; exact (of_decide_eq_true this).1
  have hd := (both_iff o (st_inv o j) hh.1 hq).mp h
  have g1 : kG L.p L.q L.a L.c ∣ kM L.p L.q L.a L.c := Int.gcd_dvd_right ..
  have g2 : kG L.p L.q L.a L.c ∣ kF L.p L.q L.a L.c * ((sts L j).n + 1) := Int.dvd_trans (Int.gcd_dvd_left ..) (Int.dvd_mul_right ..)
  have g3 := Int.dvd_sub g2 (Int.dvd_trans g1 hd)
  have e : kF L.p L.q L.a L.c * ((sts L j).n + 1) - (kF L.p L.q L.a L.c * ((sts L j).n + 1) - kRs L.x L.y L.p L.q L.a L.c) = kRs L.x L.y L.p L.q L.a L.c := by omega
  rw [e] at g3
  have hr := Int.emod_eq_zero_of_dvd g3
  exact ⟨fun z => z.elim hp fun z => z.elim hq fun z => z hr, hh.1, (cor_dvd o.c0 hp hr).mpr hd⟩
theorem cor_both {L : Ln} (o : OkL L) (hn : ¬ NoC L) {j : Nat} (h1 : hit1 L (sts L j) = true) (hc : IsCor L.x L.y L.p L.q L.a L.c ((sts L j).n + 1)) : both L (sts L j) = true := by
  obtain ⟨hp, hq, hr⟩ := noc_ne hn
  exact (both_iff o (st_inv o j) h1 hq).mpr ((cor_dvd o.c0 hp hr).mp hc)
theorem cor_step {L : Ln} (o : OkL L) (hp : L.p ≠ 0) {l k : Int} (h : IsCor L.x L.y L.p L.q L.a L.c l) : IsCor L.x L.y L.p L.q L.a L.c (l + bdC L * k) := by
  unfold IsCor at h ⊢
  have e : kF L.p L.q L.a L.c / kG L.p L.q L.a L.c * (l + bdC L * k) - kRs L.x L.y L.p L.q L.a L.c / kG L.p L.q L.a L.c = (kF L.p L.q L.a L.c / kG L.p L.q L.a L.c * l - kRs L.x L.y L.p L.q L.a L.c / kG L.p L.q L.a L.c) + bdC L * (kF L.p L.q L.a L.c / kG L.p L.q L.a L.c * k) := by grind
  rw [e]
  exact Int.dvd_add h (Int.dvd_mul_right ..)
/-- the first corner among the states -/
theorem first_at {L : Ln} (o : OkL L) {j : Nat} (h : both L (sts L j) = true) (hf : ∀ i, i < j → both L (sts L i) = false) : FirstC L (.int j) := by
  obtain ⟨hn, h1, hc⟩ := both_cor o h
  obtain ⟨hp, hq, hr⟩ := noc_ne hn
  have I := st_inv o j
  have pM : 0 < kM L.p L.q L.a L.c := mulp (av_pos hp) o.c0
  have sM : 0 < bdC L := gdiv_pos (t := kF L.p L.q L.a L.c) pM
  have l1 : (sts L j).n + 1 ≤ bdC L := by
    rcases Int.lt_or_le (bdC L) ((sts L j).n + 1) with z | z
    · exfalso
      have hc2 := cor_step o hp (k := -1) hc
      have e : (sts L j).n + 1 + bdC L * -1 = (sts L j).n + 1 - bdC L := by omega
      rw [e] at hc2
      obtain ⟨i, hi, h3, h4⟩ := step_of (L := L) (l := (sts L j).n + 1 - bdC L) (by omega) j (by omega)
      have := hf i hi
      rw [cor_both o hn h3 (by rw [h4]; exact hc2)] at this
      cases this
    · exact z
  have I2 := st_inv o (j + 1)
  obtain ⟨m, n, e, e1, n0, _, _⟩ := low_cmp (A := (sts L (j + 1)).t) I2.b0
  have et : (sts L (j + 1)).t = ((sts L j).n + 1) * L.a - lo L.x L.p L.a := by
    show (if hit1 L (sts L j) then w1 L (sts L j) else w2 L (sts L j)) = _
    rw [h1]; rfl
  have eb : (sts L (j + 1)).b = av L.p := by
    show (if hit1 L (sts L j) then av L.p else av L.q) = _
    rw [h1]; rfl
  refine .inr ⟨hn, (sts L j).n + 1, m, n, ((j + 1 : Nat) : Int), by have := I.i1.n0; omega, l1, hc, by rw [← et, ← eb]; exact e, hit_at o (.inl (at_congr (at_hit o (j + 1)) n0 e1.symm)), ?_⟩
  have : ((j + 1 : Nat) : Int) - 1 = j := by omega
  rw [this]
/-- no corner in that many states: none at all -/
theorem first_none {L : Ln} (o : OkL L) {k : Nat} (hk : av L.p * L.c + av L.q * L.a ≤ k) (hf : ∀ i, i < k → both L (sts L i) = false) : FirstC L .non := by
  refine .inl ⟨Decidable.byContradiction fun hn => ?_, rfl⟩
  obtain ⟨hp, hq, hr⟩ := noc_ne hn
  have vp := av_pos hp
  have vq := av_pos hq
  have pM : 0 < kM L.p L.q L.a L.c := mulp vp o.c0
  have sM : 0 < bdC L := gdiv_pos (t := kF L.p L.q L.a L.c) pM
  have g0 : 0 < kG L.p L.q L.a L.c := gcd_pos (t := kF L.p L.q L.a L.c) pM
  obtain ⟨l0, hl0⟩ := cor_exists (x := L.x) (y := L.y) (q := L.q) (a := L.a) o.c0 hp
  -- into 1 .. bd
  have hl := cor_step o hp (k := -((l0 - 1) / bdC L)) hl0
  have a0 := Int.emod_nonneg (l0 - 1) (show bdC L ≠ 0 by omega)
  have a1 := Int.emod_lt_of_pos (l0 - 1) sM
  have a2 := Int.mul_ediv_add_emod (l0 - 1) (bdC L)
  have e : l0 + bdC L * -((l0 - 1) / bdC L) = (l0 - 1) % bdC L + 1 := by
    have : bdC L * -((l0 - 1) / bdC L) = -(bdC L * ((l0 - 1) / bdC L)) := by grind
    omega
  rw [e] at hl
  obtain ⟨j, h1, h2⟩ := reach1 o hp (l := (l0 - 1) % bdC L + 1) (by omega)
  have hb := cor_both o hn h1 (by rw [h2]; exact hl)
  have hbd : bdC L ≤ kM L.p L.q L.a L.c := Int.ediv_le_self _ (Int.le_of_lt pM)
  have hM : kM L.p L.q L.a L.c = av L.p * L.c := rfl
  have mb := m_bound o hp (k := j) (l := av L.p * L.c) (by omega)
  have mb2 : (sts L j).m ≤ av L.q * L.a := by
    have pc := mulp o.c0 vp
    have e1 : av L.q * (av L.p * L.c * L.a) + L.c * av L.p = (av L.q * L.a + 1) * (L.c * av L.p) := by grind
    rw [e1] at mb
    have := Int.lt_of_mul_lt_mul_right mb (Int.le_of_lt pc)
    omega
  have s := st_sum o j
  have z := zc_nonneg (L := L) j
  have := hf j (by omega)
  rw [hb] at this
  cases this
end M
namespace M
def spTime : Sp := fun ds S Q _ => ∃ v o s f n, ds = [lnT v o s f, .int n] ∧ 0 < v ∧ Bd 1500 v ∧ Bd 1500 s ∧ Bd 1500 n ∧ Q (low (n * s - o) v) S
theorem txt_time {G : Gm} {ds : List D} {S0 : Sto} {Q : VK} {X : XK} {b : Ss} (hb : b = (.cons (.ret (.call 2 (.cons (.bin .sub (.bin .mul (.v 1) (.ix (.v 0) (.k (.int 2)))) (.ix (.v 0) (.k (.int 1)))) (.cons (.ix (.v 0) (.k (.int 0))) .nil)))) .nil)) (h2 : G.fn 2 = spFrac) (h : spTime ds S0 Q X) : ds.length = 2 ∧ wpSs G b (start 2 ds) S0 (kR Q X) := by
  obtain ⟨v, o, s, f, n, rfl, hv, bv, bs, bn, hq⟩ := h
  subst hb
  refine ⟨rfl, ?_⟩
  simp only [wpSs, wpS, wpE, wpEs, wpC, wpAnd, wpOr, wpO, wpIt, opt_some, onI_int, onB_bl, onR_ref, arg1_one, look, joinO, start, List.map_cons, List.map_nil, List.length_cons, List.length_nil, List.replicate, List.cons_append, List.nil_append, List.append_nil, List.getElem?_cons_succ, List.getElem?_cons_zero, kcD, Nat.reduceAdd, Nat.reduceSub, br_t, br_f, br_n, asg, setAll, List.set_cons_succ, List.set_cons_zero, tgs, wipe, eq_ii, ne_ii, lt_ii, le_ii, gt_ii, ge_ii, is_n, isn_n, is_b, isn_b, add_ii, sub_ii, mul_ii, mod_ii, fdiv_ii, pow_ii, isNon, biD, intD_i, intD_b, esLen, beq_self_eq_true, ixD_tup, lsOf_new, seqD_tup, seqD_fl, slD_tup, bools, Option.map_some, true_and, ixD_fl, lenD_tup, lenD_fl, ix30, ix31, ix32, at20, at21, at30, at31, at32, List.filterMap_cons, List.filterMap_nil, lnT, at40, at41, at42, at43]
  exact ⟨bn.sm (by decide), bs.sm (by decide), call h2 ⟨_, _, rfl, hv, bv.up (by decide), hq⟩⟩
theorem kM_bd {L : Ln} (bl : BL L) : Bd 400 (bdC L) := by
  unfold bdC
  exact ((av_bd bl.bp).mul bl.bc).div
theorem time_bd {L : Ln} (o : OkL L) (bl : BL L) {l : Int} (h0 : 0 < l) (h1 : l ≤ bdC L) : Bd 700 (l * L.a - lo L.x L.p L.a) := by
  have b1 : Bd 400 l := (kM_bd bl).le (Int.le_of_lt h0) h1
  have o1 := lo_in (x := L.x) (d := L.p) o.a0
  exact ((b1.mul bl.ba).up (show 600 ≤ 699 by decide)).sub ((bl.ba.le o1.1 (Int.le_of_lt o1.2)).up (by decide))
def spCH : Sp := fun ds S Q _ => ∃ a c x y p q, ds = [prD a c, shD x y p q] ∧ OkL ⟨a, c, x, y, p, q⟩ ∧ BL ⟨a, c, x, y, p, q⟩ ∧ ∀ v S', Ext S S' → FirstC ⟨a, c, x, y, p, q⟩ v → Q v S'
theorem roll_ok {L : Ln} (o : OkL L) : rollB L.a L.c (shD L.x L.y L.p L.q) = true := by
  show ((decide (0 ≤ L.x) && decide (0 ≤ L.y) && !(L.p == 0 && L.q == 0)) && (decide (L.x ≤ L.a) && decide (L.y ≤ L.c))) = true
  have h1 : (L.p == 0 && L.q == 0) = false := by
    rcases o.ne with h | h
    · rw [beq_eq_false_iff_ne.mpr h]; rfl
    · rw [beq_eq_false_iff_ne.mpr h, Bool.and_false]
  rw [h1, decide_eq_true o.x0, decide_eq_true o.y0, decide_eq_true o.x1, decide_eq_true o.y1]
  rfl
theorem sh_of {L : Ln} (o : OkL L) (bl : BL L) {t b : Int} (hb : 0 < b) (bt : Bd 900 t) (bb : Bd 900 b) : Sh L.a L.c L.x L.y L.p L.q t b := ⟨o.a0, o.c0, hb, bl.ba.up (by decide), bl.bc.up (by decide), bl.bx.up (by decide), bl.by_.up (by decide), bl.bp.up (by decide), bl.bq.up (by decide), bt.up (by decide), bb.up (by decide)⟩
def spGD : Sp := fun ds S Q _ => ∃ a c x y p q, ds = [prD a c, shD x y p q] ∧ OkL ⟨a, c, x, y, p, q⟩ ∧ BL ⟨a, c, x, y, p, q⟩ ∧ ∀ v, FirstC ⟨a, c, x, y, p, q⟩ v → Q v S
end M
namespace M
/-- the folded place over b -/
def fv (s t b : Int) : Int := if t % (2 * s * b) ≤ s * b then t % (2 * s * b) else 2 * s * b - t % (2 * s * b)
def spLF : Sp := fun ds S Q _ => ∃ s t b, ds = [.int s, .int t, .int b] ∧ 0 < s ∧ 0 < b ∧ Bd 1000 s ∧ Bd 1000 b ∧ Q (low (fv s t b) b) S
def spotD (a c x y p q t b : Int) : D := .tup [low (fv a (x * b + p * t) b) b, low (fv c (y * b + q * t) b) b]
def spSpot : Sp := fun ds S Q _ => ∃ a c x y p q t b, ds = [prD a c, shD x y p q, .int t, .int b] ∧ Sh a c x y p q t b ∧ Bd 900 a ∧ Bd 900 c ∧ Bd 900 b ∧ Q (spotD a c x y p q t b) S
/-- fv is even and has 2sb as a period -/
theorem fv_neg {s t b : Int} (hm : 0 < s * b) : fv s (-t) b = fv s t b := by
  have e : 2 * s * b = 2 * (s * b) := Int.mul_assoc ..
  unfold fv
  rw [e]
  generalize s * b = A at *
  have h0 := Int.emod_nonneg t (show 2 * A ≠ 0 by omega)
  have h1 := Int.emod_lt_of_pos t (show 0 < 2 * A by omega)
  have hn : (-t) % (2 * A) = if t % (2 * A) = 0 then 0 else 2 * A - t % (2 * A) := by
    split
    · exact Int.emod_eq_zero_of_dvd ((Int.dvd_neg).mpr (Int.dvd_of_emod_eq_zero ‹_›))
    · have e2 : (-t) % (2 * A) = (2 * A - t % (2 * A)) % (2 * A) := by
        rw [Int.sub_emod, Int.emod_self, Int.emod_emod_of_dvd _ (Int.dvd_refl _), ← Int.zero_emod (2 * A), ← Int.sub_emod, Int.zero_sub]
      rw [e2, Int.emod_eq_of_lt (by omega) (by omega)]
  rw [hn]
  generalize t % (2 * A) = r at *
  split <;> split <;> (try split) <;> omega
theorem fv_per {s t b : Int} : fv s (t + 2 * s * b) b = fv s t b := by
  unfold fv
  rw [Int.add_emod_right]
theorem fv_fold {s t b : Int} : fv s t b = foldT s t b := by
  unfold fv foldT
  have e : 2 * s * b = 2 * (s * b) := Int.mul_assoc ..
  rw [e]
  generalize t % (2 * (s * b)) = r
  generalize s * b = A
  split <;> split <;> omega
/-- folded(side, number) -/
def spFolded : Sp := fun ds S Q _ => ∃ s t b, ds = [.int s, prD t b] ∧ 1 ≤ s ∧ 1 ≤ b ∧ partB (prD t b) = true ∧ Bd 1500 s ∧ Bd 1500 b ∧ ∀ S', Ext S S' → Q (low (foldT s t b) b) S'
/-- the shot at a time, or None -/
def shotD (a c x y p q t b : Int) : D := match low (foldT a (x * b + p * t) b) b, low (foldT c (y * b + q * t) b) b with
  | .tup [.int u, .int v], .tup [.int u', .int v'] => if v = 1 ∧ v' = 1 then .tup [.int u, .int u', .int (wayN a (x * b + p * t) b p), .int (wayN c (y * b + q * t) b q)] else .non
  | _, _ => .non
def spShotOf : Sp := fun ds S Q _ => ∃ a c x y p q t b, ds = [prD a c, shD x y p q, prD t b] ∧ Sh a c x y p q t b ∧ Q (shotD a c x y p q t b) S
theorem txt_shotof {G : Gm} {ds : List D} {S0 : Sto} {Q : VK} {X : XK} {b : Ss} (hb : b = (.cons (.set (.v 3) (.call 14 (.cons (.v 0) (.cons (.v 1) (.cons (.v 2) .nil))))) (.cons (.if_ (.or (.cmp .ne (.ix (.ix (.v 3) (.k (.int 0))) (.k (.int 1))) (.k (.int 1))) (.cons (.cmp .ne (.ix (.ix (.v 3) (.k (.int 1))) (.k (.int 1))) (.k (.int 1))) .nil)) (.cons (.ret (.k .non)) .nil) .nil) (.cons (.ret (.tup (.cons (.ix (.ix (.v 3) (.k (.int 0))) (.k (.int 0))) (.cons (.ix (.ix (.v 3) (.k (.int 1))) (.k (.int 0))) (.star (.call 16 (.cons (.v 0) (.cons (.v 1) (.cons (.v 2) .nil)))) .nil))))) .nil)))) (h12 : G.fn 14 = spPlaceOf) (h14 : G.fn 16 = spWaysOf) (h : spShotOf ds S0 Q X) : ds.length = 3 ∧ wpSs G b (start 4 ds) S0 (kR Q X) := by
  obtain ⟨a, c, x, y, p, q, t, b2, rfl, k, hq⟩ := h
  subst hb
  refine ⟨rfl, ?_⟩
  simp only [wpSs, wpS, wpE, wpEs, wpC, wpAnd, wpOr, wpO, wpIt, opt_some, onI_int, onB_bl, onR_ref, arg1_one, look, joinO, start, List.map_cons, List.map_nil, List.length_cons, List.length_nil, List.replicate, List.cons_append, List.nil_append, List.append_nil, List.getElem?_cons_succ, List.getElem?_cons_zero, kcD, Nat.reduceAdd, Nat.reduceSub, br_t, br_f, br_n, asg, setAll, List.set_cons_succ, List.set_cons_zero, tgs, wipe, eq_ii, ne_ii, lt_ii, le_ii, gt_ii, ge_ii, is_n, isn_n, is_b, isn_b, add_ii, sub_ii, mul_ii, mod_ii, fdiv_ii, pow_ii, isNon, biD, intD_i, intD_b, esLen, beq_self_eq_true, ixD_tup, lsOf_new, seqD_tup, seqD_fl, slD_tup, bools, Option.map_some, true_and, ixD_fl, lenD_tup, lenD_fl, ix30, ix31, ix32, at20, at21, at30, at31, at32, List.filterMap_cons, List.filterMap_nil]
  refine call h12 ⟨a, c, x, y, p, q, t, b2, rfl, k, ?_⟩
  unfold shotD at hq
  unfold placeD
  obtain ⟨u, v, e1⟩ : ∃ u v, low (foldT a (x * b2 + p * t) b2) b2 = prD u v := ⟨_, _, rfl⟩
  obtain ⟨u', v', e2⟩ : ∃ u v, low (foldT c (y * b2 + q * t) b2) b2 = prD u v := ⟨_, _, rfl⟩
  rw [e1, e2] at hq ⊢
  have hq : Q (if v = 1 ∧ v' = 1 then .tup [.int u, .int u', .int (wayN a (x * b2 + p * t) b2 p), .int (wayN c (y * b2 + q * t) b2 q)] else .non) S0 := hq
  simp only [wpSs, wpS, wpE, wpEs, wpC, wpAnd, wpOr, wpO, wpIt, opt_some, onI_int, onB_bl, onR_ref, arg1_one, look, joinO, start, List.map_cons, List.map_nil, List.length_cons, List.length_nil, List.replicate, List.cons_append, List.nil_append, List.append_nil, List.getElem?_cons_succ, List.getElem?_cons_zero, kcD, Nat.reduceAdd, Nat.reduceSub, br_t, br_f, br_n, asg, setAll, List.set_cons_succ, List.set_cons_zero, tgs, wipe, eq_ii, ne_ii, lt_ii, le_ii, gt_ii, ge_ii, is_n, isn_n, is_b, isn_b, add_ii, sub_ii, mul_ii, mod_ii, fdiv_ii, pow_ii, isNon, biD, intD_i, intD_b, esLen, beq_self_eq_true, ixD_tup, lsOf_new, seqD_tup, seqD_fl, slD_tup, bools, Option.map_some, true_and, ixD_fl, lenD_tup, lenD_fl, ix30, ix31, ix32, at20, at21, at30, at31, at32, List.filterMap_cons, List.filterMap_nil]
  refine br_if (fun h => br_if (fun h' => ?_) fun h' => ?_) fun h => ?_
  · have h : v = 1 := by simpa using h
    have h' : v' = 1 := by simpa using h'
    rw [if_pos ⟨h, h'⟩] at hq
    refine call h14 ⟨a, c, x, y, p, q, t, b2, rfl, k, ?_⟩
    simp only [waysD, sqOf, wpSs, wpS, wpE, wpEs, wpC, wpAnd, wpOr, wpO, wpIt, opt_some, onI_int, onB_bl, onR_ref, arg1_one, look, joinO, start, List.map_cons, List.map_nil, List.length_cons, List.length_nil, List.replicate, List.cons_append, List.nil_append, List.append_nil, List.getElem?_cons_succ, List.getElem?_cons_zero, kcD, Nat.reduceAdd, Nat.reduceSub, br_t, br_f, br_n, asg, setAll, List.set_cons_succ, List.set_cons_zero, tgs, wipe, eq_ii, ne_ii, lt_ii, le_ii, gt_ii, ge_ii, is_n, isn_n, is_b, isn_b, add_ii, sub_ii, mul_ii, mod_ii, fdiv_ii, pow_ii, isNon, biD, intD_i, intD_b, esLen, beq_self_eq_true, ixD_tup, lsOf_new, seqD_tup, seqD_fl, slD_tup, bools, Option.map_some, true_and, ixD_fl, lenD_tup, lenD_fl, ix30, ix31, ix32, at20, at21, at30, at31, at32, List.filterMap_cons, List.filterMap_nil]
    exact ⟨len_lim (by decide), hq⟩
  · have h' : v' ≠ 1 := by simpa using h'
    rw [if_neg (fun z => h' z.2)] at hq; exact hq
  · have h : v ≠ 1 := by simpa using h
    rw [if_neg (fun z => h z.1)] at hq; exact hq
def spShotAt : Sp := fun ds S Q _ => ∃ a c x y p q t b, ds = [prD a c, shD x y p q, prD t b] ∧ On a c x y p q t b ∧ ∀ S', Ext S S' → Q (shotD a c x y p q t b) S'
theorem txt_shotat {G : Gm} {ds : List D} {S0 : Sto} {Q : VK} {X : XK} {b : Ss} (hb : b = (.cons (.ex (.call 10 (.cons (.v 0) (.cons (.v 1) .nil)))) (.cons (.ex (.call 11 (.cons (.v 2) .nil))) (.cons (.ret (.call 17 (.cons (.v 0) (.cons (.v 1) (.cons (.v 2) .nil))))) .nil)))) (h8 : G.fn 10 = spCkShot) (h9 : G.fn 11 = spCkTime) (ho : G.fn 17 = spShotOf) (h : spShotAt ds S0 Q X) : ds.length = 3 ∧ wpSs G b (start 3 ds) S0 (kR Q X) := by
  obtain ⟨a, c, x, y, p, q, t, b2, rfl, k, hq⟩ := h
  subst hb
  refine ⟨rfl, ?_⟩
  simp only [wpSs, wpS, wpE, wpEs, wpC, wpAnd, wpOr, wpO, wpIt, opt_some, onI_int, onB_bl, onR_ref, arg1_one, look, joinO, start, List.map_cons, List.map_nil, List.length_cons, List.length_nil, List.replicate, List.cons_append, List.nil_append, List.append_nil, List.getElem?_cons_succ, List.getElem?_cons_zero, kcD, Nat.reduceAdd, Nat.reduceSub, br_t, br_f, br_n, asg, setAll, List.set_cons_succ, List.set_cons_zero, tgs, wipe, eq_ii, ne_ii, lt_ii, le_ii, gt_ii, ge_ii, is_n, isn_n, is_b, isn_b, add_ii, sub_ii, mul_ii, mod_ii, fdiv_ii, pow_ii, isNon, biD, intD_i, intD_b, esLen, beq_self_eq_true, ixD_tup, lsOf_new, seqD_tup, seqD_fl, slD_tup, bools, Option.map_some, true_and, ixD_fl, lenD_tup, lenD_fl, ix30, ix31, ix32, at20, at21, at30, at31, at32, List.filterMap_cons, List.filterMap_nil]
  refine call h8 ⟨a, c, _, rfl, k.sh.a0, k.sh.c0, vl_sh, k.on, fun S1 k1 => ?_⟩
  refine call h9 ⟨_, rfl, vl_tab, k.fr, fun S2 k2 => ?_⟩
  exact call ho ⟨a, c, x, y, p, q, t, b2, rfl, k.sh, hq _ (k1.trans k2)⟩
/-! ### place and way by the state of the lines -/
theorem way_st {x d s n t b : Int} (hs : 0 < s) (hb : 0 < b) (I : LI x d s n t b) : wayN s (x * b + d * t) b d = dr x d s n := by
  by_cases hd : d = 0
  · have e1 : dr x d s n = 0 := dr_zero.mpr hd
    rw [e1]
    unfold wayN
    subst hd
    split <;> rfl
  have p := mulp hs hb
  have h1 := I.lw hd
  have h2 := I.hi hd
  have hq := Int.mul_ediv_add_emod (sg d x) s
  have key : ∀ z : Int, z = sg d x * b + av d * t → z / (s * b) = n + lq x d s := by
    intro z hz
    have e : z = (av d * t + lo x d s * b - n * (s * b)) + (n + lq x d s) * (s * b) := by
      unfold lo lq
      generalize sg d x / s = Q at *
      generalize sg d x % s = r at *
      rw [hz, ← hq]; grind
    rw [e, Int.add_mul_ediv_right _ _ (by omega), Int.ediv_eq_zero_of_lt (by omega) (by
      have : (n + 1) * (s * b) = n * (s * b) + s * b := by grind
      omega)]
    omega
  unfold wayN cellN dr
  by_cases h : 0 < d
  · have ea : av d = d := by unfold av; omega
    have eg : sg d x = x := by unfold sg; rw [if_pos h]
    have := key (x * b + d * t) (by rw [ea, eg])
    rw [if_pos (show d > 0 from h), this, ea]
  · have ea : av d = -d := by unfold av; omega
    have eg : sg d x = -x := by unfold sg; rw [if_neg h]
    have := key (-(x * b + d * t)) (by rw [ea, eg]; grind)
    rw [if_neg (show ¬ d > 0 from h), this, ea]
    generalize n + lq x d s = m
    split <;> split <;> omega
theorem fold_st {x d s n t b : Int} (hs : 0 < s) (hb : 0 < b) (hx : 0 ≤ x) (hx1 : x ≤ s) (I : LI x d s n t b) : foldT s (x * b + d * t) b = mkN x d s n t b := by
  have p := mulp hs hb
  rw [← fv_fold]
  by_cases hd : d = 0
  · subst hd
    unfold mkN
    rw [if_pos rfl, Int.zero_mul, Int.add_zero]
    unfold fv
    have h0 := Int.mul_nonneg hx (Int.le_of_lt hb)
    have h1 := Int.mul_le_mul_of_nonneg_right hx1 (Int.le_of_lt hb)
    rw [Int.mul_assoc 2, Int.emod_eq_of_lt h0 (by omega), if_pos h1]
  have h1 := I.lw hd
  have h2 := I.hi hd
  have hq := Int.mul_ediv_add_emod (sg d x) s
  have key : fv s (sg d x * b + av d * t) b = mkN x d s n t b := by
    have e : sg d x * b + av d * t = (av d * t + lo x d s * b - n * (s * b)) + (n + lq x d s) * (s * b) := by
      unfold lo lq
      generalize sg d x / s = Q at *
      generalize sg d x % s = r at *
      rw [← hq]; grind
    have e3 : (n + 1) * (s * b) = n * (s * b) + s * b := by grind
    unfold mkN
    rw [if_neg hd, e]
    generalize av d * t + lo x d s * b = u at *
    generalize n + lq x d s = m at *
    unfold fv
    rw [Int.mul_assoc 2]
    have r0 : 0 ≤ u - n * (s * b) := by omega
    have r1 : u - n * (s * b) < s * b := by omega
    rw [e3]
    generalize n * (s * b) = N at *
    generalize s * b = A at *
    by_cases hm : m % 2 = 0
    · obtain ⟨j, rfl⟩ : ∃ j, m = 2 * j := ⟨m / 2, by omega⟩
      have e4 : u - N + 2 * j * A = (u - N) + (2 * A) * j := by grind
      rw [e4, Int.add_mul_emod_self_left, Int.emod_eq_of_lt r0 (by omega), if_pos (by omega), if_pos (by omega)]
    · obtain ⟨j, rfl⟩ : ∃ j, m = 2 * j + 1 := ⟨m / 2, by omega⟩
      have e4 : u - N + (2 * j + 1) * A = (u - N + A) + (2 * A) * j := by grind
      rw [e4, Int.add_mul_emod_self_left, Int.emod_eq_of_lt (by omega) (by omega), if_neg hm]
      split <;> omega
  rw [← key]
  by_cases h : 0 < d
  · have ea : av d = d := by unfold av; omega
    have eg : sg d x = x := by unfold sg; rw [if_pos h]
    rw [ea, eg]
  · have ea : av d = -d := by unfold av; omega
    have eg : sg d x = -x := by unfold sg; rw [if_neg h]
    rw [ea, eg, ← fv_neg p]
    congr 1
    grind
end M
namespace M
theorem part_low {t b : Int} (hb : 0 < b) : partB (low t b) = true := by
  show partB (prD (t / ((Int.gcd t b : Nat) : Int)) (b / ((Int.gcd t b : Nat) : Int))) = true
  have p := gdiv_pos (t := t) hb
  rw [part_of, gcd_div hb, decide_eq_true (by omega)]
  rfl
theorem ents_at {L : Ln} {far j : Nat} (h : j < far) : (ents L far)[j]? = some (entD L (sts L j)) := by
  unfold ents
  rw [List.getElem?_map, List.getElem?_range h]; rfl
theorem ents_atI {L : Ln} {far j : Nat} (h : j < far) : atI (ents L far) (j : Int) = some (entD L (sts L j)) := by
  unfold atI ixN
  rw [ents_len, if_pos (by omega), if_pos (by omega)]
  simp only [Option.bind_some]
  rw [Int.toNat_natCast]
  exact ents_at h
/-- an entry's time -/
theorem ent_form {L : Ln} (o : OkL L) (bl : BL L) {j : Nat} (hj : j < 900) : ∃ m n pl, entD L (sts L j) = .tup [prD m n, .str (wordT L (sts L j)), pl] ∧ m * (sts L (j + 1)).b = (sts L (j + 1)).t * n ∧ 0 < n ∧ Bd 220 m ∧ Bd 200 n ∧ partB (prD m n) = true := by
  have I := st_inv o (j + 1)
  obtain ⟨m, n, e, h1, n0, bm, bn⟩ := low_cmp (A := (sts L (j + 1)).t) I.b0
  have p := part_low (t := (sts L (j + 1)).t) I.b0
  rw [e] at p
  refine ⟨m, n, .tup [low (mk1 L (nxt L (sts L j))) (nxt L (sts L j)).b, low (mk2 L (nxt L (sts L j))) (nxt L (sts L j)).b], ?_, h1, n0, bm _ (st_t o bl (j + 1) (by omega)), bn _ (st_b bl (j + 1)), p⟩
  rw [← e]
  rfl
theorem place_ent {L : Ln} (o : OkL L) {j : Nat} {m n : Int} (n0 : 0 < n) (h : m * (sts L (j + 1)).b = (sts L (j + 1)).t * n) : placeD L.a L.c L.x L.y L.p L.q m n = .tup [low (mk1 L (sts L (j + 1))) (sts L (j + 1)).b, low (mk2 L (sts L (j + 1))) (sts L (j + 1)).b] := by
  have hat : At L (j + 1) m n := at_congr (at_hit o (j + 1)) n0 h.symm
  have I := st_inv o (j + 1)
  unfold placeD
  rw [fold_st o.a0 n0 o.x0 o.x1 (li_at1 o hat), fold_st o.c0 n0 o.y0 o.y1 (li_at2 o hat)]
  have e1 := mk_move (x := L.x) (d := L.p) (s := L.a) (n := (sts L (j + 1)).n) (t := (sts L (j + 1)).t) (b := (sts L (j + 1)).b) (t' := m) (b' := n) _ (.inl rfl)
  have e2 := mk_move (x := L.y) (d := L.q) (s := L.c) (n := (sts L (j + 1)).m) (t := (sts L (j + 1)).t) (b := (sts L (j + 1)).b) (t' := m) (b' := n) _ (.inl rfl)
  rw [h, Int.sub_self, Int.mul_zero, Int.add_zero] at e1 e2
  rw [low_eq n0 I.b0 e1, low_eq n0 I.b0 e2]
  rfl
end M
namespace M
def hit_time_B0 : Ss := (.cons (.set (.v 7) (.bin .fdiv (.bin .add (.v 4) (.v 5)) (.k (.int 2)))) (.cons (.if_ (.cmp .ge (.call 29 (.cons (.v 0) (.cons (.v 7) .nil))) (.v 1)) (.cons (.set (.v 5) (.v 7)) .nil) (.cons (.set (.v 4) (.bin .add (.v 7) (.k (.int 1)))) .nil)) .nil))
def hit_time_S0 : St := (.while_ (.cmp .lt (.v 4) (.v 5)) hit_time_B0)
def hit_time_A0 : Ss := (.cons (.if_ (.cmp .eq (.call 29 (.cons (.v 0) (.cons (.v 4) .nil))) (.v 1)) (.cons (.ret (.call 24 (.cons (.v 2) (.cons (.v 4) .nil)))) .nil) .nil) (.cons (.set (.v 6) (.ite (.cmp .gt (.v 4) (.k (.int 1))) (.call 24 (.cons (.v 2) (.cons (.bin .sub (.v 4) (.k (.int 1))) .nil))) (.tup (.cons (.k (.int 0)) (.cons (.k (.int 1)) .nil))))) (.cons (.ret (.call 24 (.cons (.v 3) (.cons (.bin .sub (.bin .add (.call 23 (.cons (.v 3) (.cons (.v 6) .nil))) (.v 1)) (.call 29 (.cons (.v 0) (.cons (.bin .sub (.v 4) (.k (.int 1))) .nil)))) .nil)))) .nil)))
def hit_time_T : Ss := (.cons (.set (.tup [2, 3]) (.v 0)) (.cons (.if_ (.cmp .is_ (.v 2) (.k .non)) (.cons (.ret (.call 24 (.cons (.v 3) (.cons (.v 1) .nil)))) .nil) .nil) (.cons (.par 4 5 (.k (.int 1)) (.v 1)) (.cons hit_time_S0 hit_time_A0))))
theorem n_mono {L : Ln} {i : Nat} : ∀ d : Nat, (sts L i).n ≤ (sts L (i + d)).n
  | 0 => Int.le_refl _
  | d + 1 => by
    have := n_mono (L := L) (i := i) d
    have e : (sts L (i + d + 1)).n = if hit1 L (sts L (i + d)) then (sts L (i + d)).n + 1 else (sts L (i + d)).n := rfl
    show (sts L i).n ≤ (sts L (i + d + 1)).n
    rw [e]
    split <;> omega
theorem n_le {L : Ln} {i j : Nat} (h : i ≤ j) : (sts L i).n ≤ (sts L j).n := by
  obtain ⟨d, rfl⟩ : ∃ d, j = i + d := ⟨j - i, by omega⟩
  exact n_mono d
theorem n_hit {L : Ln} {i : Nat} (h : hit1 L (sts L i) = true) : (sts L (i + 1)).n = (sts L i).n + 1 := by
  show (if hit1 L (sts L i) then (sts L i).n + 1 else (sts L i).n) = _
  rw [h]; rfl
/-- where n stays, m goes on -/
theorem m_on {L : Ln} (o : OkL L) {i : Nat} : ∀ d : Nat, (sts L (i + d)).n = (sts L i).n → (sts L (i + d)).m = (sts L i).m + d
  | 0, _ => by simp
  | d + 1, h => by
    have e : (sts L (i + d + 1)).n = if hit1 L (sts L (i + d)) then (sts L (i + d)).n + 1 else (sts L (i + d)).n := rfl
    have e2 : (sts L (i + d + 1)).m = if hit2 L (sts L (i + d)) then (sts L (i + d)).m + 1 else (sts L (i + d)).m := rfl
    have m0 := n_mono (L := L) (i := i) d
    have h : (sts L (i + d + 1)).n = (sts L i).n := h
    have hh : hit1 L (sts L (i + d)) = false := by
      cases z : hit1 L (sts L (i + d))
      · rfl
      · rw [e, z] at h; simp at h; omega
    have h2 := (hit_some o (sts L (i + d))).resolve_left (by rw [hh]; decide)
    rw [e, hh] at h
    simp only [Bool.false_eq_true, if_false] at h
    have ih := m_on o d h
    show (sts L (i + d + 1)).m = _
    rw [e2, h2, ih]
    simp
    omega
theorem st_hit1 {L : Ln} {j : Nat} (h : hit1 L (sts L j) = true) : (sts L (j + 1)).t = ((sts L j).n + 1) * L.a - lo L.x L.p L.a ∧ (sts L (j + 1)).b = av L.p := by
  refine ⟨?_, ?_⟩
  · show (if hit1 L (sts L j) then w1 L (sts L j) else w2 L (sts L j)) = _
    rw [h]; rfl
  · show (if hit1 L (sts L j) then av L.p else av L.q) = _
    rw [h]; rfl
theorem st_hit2 {L : Ln} {j : Nat} (h : hit1 L (sts L j) = false) : (sts L (j + 1)).t = ((sts L j).m + 1) * L.c - lo L.y L.q L.c ∧ (sts L (j + 1)).b = av L.q := by
  refine ⟨?_, ?_⟩
  · show (if hit1 L (sts L j) then w1 L (sts L j) else w2 L (sts L j)) = _
    rw [h]; rfl
  · show (if hit1 L (sts L j) then av L.p else av L.q) = _
    rw [h]; rfl
theorem tb_bd {L : Ln} (o : OkL L) (bl : BL L) {s x d n : Int} (hs : 0 < s) (bs : Bd 200 s) (bn : Bd 160 n) : Bd 365 (n * s - lo x d s) := by
  have l := lo_in (x := x) (d := d) hs
  exact (((bn.mul bs).up (show 360 ≤ 364 by decide)).sub ((bs.le l.1 (Int.le_of_lt l.2)).up (by decide))).up (by decide)
/-- rank_of(lines, many) -/
def spRank : Sp := fun ds S Q _ => ∃ a c x y p q l, ds = [linesD a c x y p q, .int l] ∧ OkL ⟨a, c, x, y, p, q⟩ ∧ BL ⟨a, c, x, y, p, q⟩ ∧ p ≠ 0 ∧ 0 ≤ l ∧ Bd 150 l ∧ (l = 0 → Q (.int 0) S) ∧ ∀ j : Nat, hit1 ⟨a, c, x, y, p, q⟩ (sts ⟨a, c, x, y, p, q⟩ j) = true → (sts ⟨a, c, x, y, p, q⟩ j).n + 1 = l → Q (.int ((j : Int) + 1)) S
theorem txt_rank {G : Gm} {ds : List D} {S0 : Sto} {Q : VK} {X : XK} {b : Ss} (hb : b = (.cons (.ret (.ite (.cmp .gt (.v 1) (.k (.int 0))) (.call 28 (.cons (.v 0) (.cons (.call 24 (.cons (.ix (.v 0) (.k (.int 0))) (.cons (.v 1) .nil))) .nil))) (.k (.int 0)))) .nil)) (h16 : G.fn 24 = spTime) (h20 : G.fn 28 = spCo) (h : spRank ds S0 Q X) : ds.length = 2 ∧ wpSs G b (start 2 ds) S0 (kR Q X) := by
  obtain ⟨a, c, x, y, p, q, l, rfl, o, bl, hp, l0, bL, hq0, hq⟩ := h
  subst hb
  refine ⟨rfl, ?_⟩
  have el : lnD x p a = lnT (av p) (lo x p a) a (fst p x a) := by unfold lnD; rw [if_neg hp]; rfl
  have e2 : D.tup [lnT (av p) (lo x p a) a (fst p x a), lnD y q c] = linesD a c x y p q := by unfold linesD; rw [el]
  have vp := av_pos hp
  simp only [wpSs, wpS, wpE, wpEs, wpC, wpAnd, wpOr, wpO, wpIt, opt_some, onI_int, onB_bl, onR_ref, arg1_one, look, joinO, start, List.map_cons, List.map_nil, List.length_cons, List.length_nil, List.replicate, List.cons_append, List.nil_append, List.append_nil, List.getElem?_cons_succ, List.getElem?_cons_zero, kcD, Nat.reduceAdd, Nat.reduceSub, br_t, br_f, br_n, asg, setAll, List.set_cons_succ, List.set_cons_zero, tgs, wipe, eq_ii, ne_ii, lt_ii, le_ii, gt_ii, ge_ii, is_n, isn_n, is_b, isn_b, add_ii, sub_ii, mul_ii, mod_ii, fdiv_ii, pow_ii, isNon, biD, intD_i, intD_b, esLen, beq_self_eq_true, ixD_tup, lsOf_new, seqD_tup, seqD_fl, slD_tup, bools, Option.map_some, true_and, ixD_fl, lenD_tup, lenD_fl, ix30, ix31, ix32, at20, at21, at30, at31, at32, List.filterMap_cons, List.filterMap_nil]
  refine br_d (fun hl => ?_) fun hl => hq0 (by omega)
  obtain ⟨j, h1, h2⟩ := reach1 (L := ⟨a, c, x, y, p, q⟩) o hp (l := l) (by omega)
  obtain ⟨t1, t2⟩ := st_hit1 h1
  rw [h2] at t1
  rw [← e2]
  simp only [wpSs, wpS, wpE, wpEs, wpC, wpAnd, wpOr, wpO, wpIt, opt_some, onI_int, onB_bl, onR_ref, arg1_one, look, joinO, start, List.map_cons, List.map_nil, List.length_cons, List.length_nil, List.replicate, List.cons_append, List.nil_append, List.append_nil, List.getElem?_cons_succ, List.getElem?_cons_zero, kcD, Nat.reduceAdd, Nat.reduceSub, br_t, br_f, br_n, asg, setAll, List.set_cons_succ, List.set_cons_zero, tgs, wipe, eq_ii, ne_ii, lt_ii, le_ii, gt_ii, ge_ii, is_n, isn_n, is_b, isn_b, add_ii, sub_ii, mul_ii, mod_ii, fdiv_ii, pow_ii, isNon, biD, intD_i, intD_b, esLen, beq_self_eq_true, ixD_tup, lsOf_new, seqD_tup, seqD_fl, slD_tup, bools, Option.map_some, true_and, ixD_fl, lenD_tup, lenD_fl, ix30, ix31, ix32, at20, at21, at30, at31, at32, List.filterMap_cons, List.filterMap_nil]
  refine call h16 ⟨av p, lo x p a, a, fst p x a, l, rfl, vp, (av_bd bl.bp).up (by decide), bl.ba.up (by decide), bL.up (by decide), ?_⟩
  obtain ⟨m, n, em, e1, n0, bm, bn⟩ := low_cmp (A := l * a - lo x p a) vp
  have bm := bm _ (tb_bd (L := ⟨a, c, x, y, p, q⟩) o bl (x := x) (d := p) o.a0 bl.ba (bL.up (show 150 ≤ 160 by decide)))
  have bn := bn _ (av_bd bl.bp)
  rw [em, e2]
  have hat : At ⟨a, c, x, y, p, q⟩ (j + 1) m n := at_congr (at_hit o (j + 1)) n0 (by rw [t1, t2]; exact e1.symm)
  refine call h20 ⟨a, c, x, y, p, q, m, n, rfl, sh_of (L := ⟨a, c, x, y, p, q⟩) o bl n0 (bm.up (by decide)) (bn.up (by decide)), fun z hz => ?_⟩
  have hu := hitn_uniq o.c0 ⟨z, hz, rfl⟩ (hit_at (L := ⟨a, c, x, y, p, q⟩) o (.inl hat))
  rw [hu]
  exact hq j h1 h2
/-! ### the search -/
theorem bsearch {step : Env → Sto → (Env → Sto → Prop) → Prop} {S : Sto} {mk : Int → Int → Option D → Env} {t N : Int} (hz : ∀ o nx, step (mk t t o) S nx)
    (hs : ∀ lo hi o nx, lo < hi → 1 ≤ lo → lo ≤ t → t ≤ hi → hi ≤ N → (t ≤ (lo + hi) / 2 → ∀ o, nx (mk lo ((lo + hi) / 2) o) S) → ((lo + hi) / 2 < t → ∀ o, nx (mk ((lo + hi) / 2 + 1) hi o) S) → step (mk lo hi o) S nx) :
    ∀ (d : Nat) (lo hi : Int), hi - lo ≤ d → 1 ≤ lo → lo ≤ t → t ≤ hi → hi ≤ N → ∃ m, ∀ o, whileN step m (mk lo hi o) S
  | 0, lo, hi, hd, h1, h2, h3, h4 => by
    have e1 : lo = t := by omega
    have e2 : hi = t := by omega
    subst e1 e2
    exact ⟨1, fun o => hz o _⟩
  | d + 1, lo, hi, hd, h1, h2, h3, h4 => by
    by_cases he : lo = hi
    · have e1 : lo = t := by omega
      have e2 : hi = t := by omega
      subst e1 e2
      exact ⟨1, fun o => hz o _⟩
    · by_cases hm : t ≤ (lo + hi) / 2
      · obtain ⟨m, hm'⟩ := bsearch hz hs d lo ((lo + hi) / 2) (by omega) h1 h2 hm (by omega)
        exact ⟨m + 1, fun o => hs lo hi o _ (by omega) h1 h2 h3 h4 (fun _ o => hm' o) fun z => absurd hm (by omega)⟩
      · obtain ⟨m, hm'⟩ := bsearch hz hs d ((lo + hi) / 2 + 1) hi (by omega) (by omega) (by omega) h3 h4
        exact ⟨m + 1, fun o => hs lo hi o _ (by omega) h1 h2 h3 h4 (fun z => absurd z hm) fun _ o => hm' o⟩
/-- hit_time(lines, number): the time of the hit behind k others -/
def spHT : Sp := fun ds S Q _ => ∃ a c x y p q, ∃ k : Nat, ds = [linesD a c x y p q, .int ((k : Int) + 1)] ∧ OkL ⟨a, c, x, y, p, q⟩ ∧ BL ⟨a, c, x, y, p, q⟩ ∧ Bd 149 (k : Int) ∧ Q (low (sts ⟨a, c, x, y, p, q⟩ (k + 1)).t (sts ⟨a, c, x, y, p, q⟩ (k + 1)).b) S
theorem txt_ht {G : Gm} {ds : List D} {S0 : Sto} {Q : VK} {X : XK} {b : Ss} (hb : b = hit_time_T) (h15 : G.fn 23 = spCnt) (h16 : G.fn 24 = spTime) (h21 : G.fn 29 = spRank) (h : spHT ds S0 Q X) : ds.length = 2 ∧ wpSs G b (start 8 ds) S0 (kR Q X) := by
  obtain ⟨a, c, x, y, p, q, k, rfl, o, bl, bk, hq⟩ := h
  subst hb
  refine ⟨rfl, ?_⟩
  have bk1 : Bd 150 ((k : Int) + 1) := bk.add (lt_two 1 (by decide) (by decide))
  have ck := st_cnt (L := ⟨a, c, x, y, p, q⟩) k
  have Ik := st_inv (L := ⟨a, c, x, y, p, q⟩) o k
  have s2 : smd 2 := smd_of 8 (by decide) (by decide)
  -- a hit of the second line alone
  have second : hit1 ⟨a, c, x, y, p, q⟩ (sts ⟨a, c, x, y, p, q⟩ k) = false → ∀ r : Int, r = (sts ⟨a, c, x, y, p, q⟩ k).m + 1 → ∀ {Xx : XK}, cl (G.fn 24) [lnD y q c, .int r] S0 Q Xx := by
    intro hh r hr Xx
    have h2 := (hit_some o (sts ⟨a, c, x, y, p, q⟩ k)).resolve_left (by rw [hh]; decide)
    have hq0 : q ≠ 0 := by unfold hit2 at h2; exact (of_decide_eq_true h2).1
    obtain ⟨t1, t2⟩ := st_hit2 hh
    rw [t1, t2] at hq
    have el : lnD y q c = lnT (av q) (lo y q c) c (fst q y c) := by unfold lnD; rw [if_neg hq0]; rfl
    rw [el]
    have m0 := Ik.i2.n0
    have br : Bd 150 r := bk1.le (by omega) (by omega)
    refine call h16 ⟨av q, lo y q c, c, fst q y c, r, rfl, av_pos hq0, (av_bd bl.bq).up (by decide), bl.bc.up (by decide), br.up (by decide), ?_⟩
    rw [hr]
    exact hq
  generalize hS : hit_time_S0 = s0
  generalize hA : hit_time_A0 = a0
  by_cases hp : p = 0
  · have el : lnD x p a = .non := by unfold lnD; rw [if_pos hp]
    have hm : ∀ j, hit1 ⟨a, c, x, y, p, q⟩ (sts ⟨a, c, x, y, p, q⟩ j) = false := fun j => by unfold hit1; rw [decide_eq_false_iff_not]; exact fun z => z.1 hp
    simp only [hit_time_T, hS, hA, linesD, el, wpSs, wpS, wpE, wpEs, wpC, wpAnd, wpOr, wpO, wpIt, opt_some, onI_int, onB_bl, onR_ref, arg1_one, look, joinO, start, List.map_cons, List.map_nil, List.length_cons, List.length_nil, List.replicate, List.cons_append, List.nil_append, List.append_nil, List.getElem?_cons_succ, List.getElem?_cons_zero, kcD, Nat.reduceAdd, Nat.reduceSub, br_t, br_f, br_n, asg, setAll, List.set_cons_succ, List.set_cons_zero, tgs, wipe, eq_ii, ne_ii, lt_ii, le_ii, gt_ii, ge_ii, is_n, isn_n, is_b, isn_b, add_ii, sub_ii, mul_ii, mod_ii, fdiv_ii, pow_ii, isNon, biD, intD_i, intD_b, esLen, beq_self_eq_true, ixD_tup, lsOf_new, seqD_tup, seqD_fl, slD_tup, bools, Option.map_some, true_and, ixD_fl, lenD_tup, lenD_fl, ix30, ix31, ix32, at20, at21, at30, at31, at32, List.filterMap_cons, List.filterMap_nil]
    refine second (hm k) _ ?_
    have := m_on (L := ⟨a, c, x, y, p, q⟩) o (i := 0) k (by rw [st_zero1 hp, st_zero1 hp])
    rw [Nat.zero_add] at this
    have e0 : (sts ⟨a, c, x, y, p, q⟩ 0).m = 0 := rfl
    rw [this, e0]; omega
  · have el : lnD x p a = lnT (av p) (lo x p a) a (fst p x a) := by unfold lnD; rw [if_neg hp]; rfl
    have vp := av_pos hp
    simp only [hit_time_T, hS, hA, linesD, el, lnT, wpSs, wpS, wpE, wpEs, wpC, wpAnd, wpOr, wpO, wpIt, opt_some, onI_int, onB_bl, onR_ref, arg1_one, look, joinO, start, List.map_cons, List.map_nil, List.length_cons, List.length_nil, List.replicate, List.cons_append, List.nil_append, List.append_nil, List.getElem?_cons_succ, List.getElem?_cons_zero, kcD, Nat.reduceAdd, Nat.reduceSub, br_t, br_f, br_n, asg, setAll, List.set_cons_succ, List.set_cons_zero, tgs, wipe, eq_ii, ne_ii, lt_ii, le_ii, gt_ii, ge_ii, is_n, isn_n, is_b, isn_b, add_ii, sub_ii, mul_ii, mod_ii, fdiv_ii, pow_ii, isNon, biD, intD_i, intD_b, esLen, beq_self_eq_true, ixD_tup, lsOf_new, seqD_tup, seqD_fl, slD_tup, bools, Option.map_some, true_and, ixD_fl, lenD_tup, lenD_fl, ix30, ix31, ix32, at20, at21, at30, at31, at32, List.filterMap_cons, List.filterMap_nil]
    subst hS hA
    unfold hit_time_S0
    simp only [wpS]
    have hd2 : (0 : Int) < 2 := by decide
    -- what rank_of tells
    have rank : ∀ {l : Int} {R : VK} {Xx : XK}, 1 ≤ l → l ≤ (k : Int) + 1 → (∀ j : Nat, hit1 ⟨a, c, x, y, p, q⟩ (sts ⟨a, c, x, y, p, q⟩ j) = true → (sts ⟨a, c, x, y, p, q⟩ j).n + 1 = l → R (.int ((j : Int) + 1)) S0) → cl (G.fn 29) [linesD a c x y p q, .int l] S0 R Xx := by
      intro l R Xx h1 h2 hR
      exact call h21 ⟨a, c, x, y, p, q, l, rfl, o, bl, hp, by omega, bk1.le (by omega) h2, fun z => absurd z (by omega), hR⟩
    have cmpr : ∀ {l : Int} {j : Nat}, hit1 ⟨a, c, x, y, p, q⟩ (sts ⟨a, c, x, y, p, q⟩ j) = true → (sts ⟨a, c, x, y, p, q⟩ j).n + 1 = l → ((k : Int) + 1 ≤ (j : Int) + 1 ↔ (sts ⟨a, c, x, y, p, q⟩ k).n + 1 ≤ l) := by
      intro l j h1 h2
      constructor
      · intro h
        have := n_le (L := ⟨a, c, x, y, p, q⟩) (i := k) (j := j) (by omega)
        omega
      · intro h
        rcases Nat.lt_or_ge j k with z | z
        · have := n_le (L := ⟨a, c, x, y, p, q⟩) (i := j + 1) (j := k) (by omega)
          rw [n_hit h1] at this
          omega
        · omega
    have go := bsearch (step := fun ρ1 S1 nx => wpE G (.cmp .lt (.v 4) (.v 5)) ρ1 S1 (fun x S2 => onB x fun k => br k (wpSs G hit_time_B0 ρ1 S2 ⟨nx, Q, fun ρ1 S1 => wpSs G hit_time_A0 ρ1 S1 (kR Q X), fun k fs _ S' => X k fs S'⟩) (wpSs G hit_time_A0 ρ1 S2 (kR Q X))) (fun c fs S2 => X c fs S2)) (S := S0) (mk := fun u v o7 => [some (linesD a c x y p q), some (.int ((k : Int) + 1)), some (.tup [.int (av p), .int (lo x p a), .int a, .int (fst p x a)]), some (lnD y q c), some (.int u), some (.int v), none, o7]) (t := (sts ⟨a, c, x, y, p, q⟩ k).n + 1) (N := (k : Int) + 1)
      (fun o7 nx => by
        have n0 := Ik.i1.n0
        have hf : ∀ T : Int, decide (T < T) = false := fun T => by simp
        simp only [wpSs, wpS, wpE, wpEs, wpC, wpAnd, wpOr, wpO, wpIt, opt_some, onI_int, onB_bl, onR_ref, arg1_one, look, joinO, start, List.map_cons, List.map_nil, List.length_cons, List.length_nil, List.replicate, List.cons_append, List.nil_append, List.append_nil, List.getElem?_cons_succ, List.getElem?_cons_zero, kcD, Nat.reduceAdd, Nat.reduceSub, br_t, br_f, br_n, asg, setAll, List.set_cons_succ, List.set_cons_zero, tgs, wipe, eq_ii, ne_ii, lt_ii, le_ii, gt_ii, ge_ii, is_n, isn_n, is_b, isn_b, add_ii, sub_ii, mul_ii, mod_ii, fdiv_ii, pow_ii, isNon, biD, intD_i, intD_b, esLen, beq_self_eq_true, ixD_tup, lsOf_new, seqD_tup, seqD_fl, slD_tup, bools, Option.map_some, true_and, ixD_fl, lenD_tup, lenD_fl, ix30, ix31, ix32, at20, at21, at30, at31, at32, List.filterMap_cons, List.filterMap_nil, hf]
        unfold hit_time_A0
        simp only [wpSs, wpS, wpE, wpEs, wpC, wpAnd, wpOr, wpO, wpIt, opt_some, onI_int, onB_bl, onR_ref, arg1_one, look, joinO, start, List.map_cons, List.map_nil, List.length_cons, List.length_nil, List.replicate, List.cons_append, List.nil_append, List.append_nil, List.getElem?_cons_succ, List.getElem?_cons_zero, kcD, Nat.reduceAdd, Nat.reduceSub, br_t, br_f, br_n, asg, setAll, List.set_cons_succ, List.set_cons_zero, tgs, wipe, eq_ii, ne_ii, lt_ii, le_ii, gt_ii, ge_ii, is_n, isn_n, is_b, isn_b, add_ii, sub_ii, mul_ii, mod_ii, fdiv_ii, pow_ii, isNon, biD, intD_i, intD_b, esLen, beq_self_eq_true, ixD_tup, lsOf_new, seqD_tup, seqD_fl, slD_tup, bools, Option.map_some, true_and, ixD_fl, lenD_tup, lenD_fl, ix30, ix31, ix32, at20, at21, at30, at31, at32, List.filterMap_cons, List.filterMap_nil]
        refine rank (by omega) (by omega) fun j h1 h2 => ?_
        simp only [wpSs, wpS, wpE, wpEs, wpC, wpAnd, wpOr, wpO, wpIt, opt_some, onI_int, onB_bl, onR_ref, arg1_one, look, joinO, start, List.map_cons, List.map_nil, List.length_cons, List.length_nil, List.replicate, List.cons_append, List.nil_append, List.append_nil, List.getElem?_cons_succ, List.getElem?_cons_zero, kcD, Nat.reduceAdd, Nat.reduceSub, br_t, br_f, br_n, asg, setAll, List.set_cons_succ, List.set_cons_zero, tgs, wipe, eq_ii, ne_ii, lt_ii, le_ii, gt_ii, ge_ii, is_n, isn_n, is_b, isn_b, add_ii, sub_ii, mul_ii, mod_ii, fdiv_ii, pow_ii, isNon, biD, intD_i, intD_b, esLen, beq_self_eq_true, ixD_tup, lsOf_new, seqD_tup, seqD_fl, slD_tup, bools, Option.map_some, true_and, ixD_fl, lenD_tup, lenD_fl, ix30, ix31, ix32, at20, at21, at30, at31, at32, List.filterMap_cons, List.filterMap_nil]
        refine br_if (fun z => ?_) fun z => ?_
        · have z : j = k := by have : (j : Int) + 1 = (k : Int) + 1 := by simpa using z
                               omega
          subst z
          obtain ⟨t1, t2⟩ := st_hit1 h1
          rw [t1, t2] at hq
          exact call h16 ⟨av p, lo x p a, a, fst p x a, _, rfl, vp, (av_bd bl.bp).up (by decide), bl.ba.up (by decide), (bk1.le (by omega) (by omega)).up (by decide), hq⟩
        · have z : j ≠ k := by
            intro e; subst e; simp at z
          have hh : hit1 ⟨a, c, x, y, p, q⟩ (sts ⟨a, c, x, y, p, q⟩ k) = false := by
            cases hk : hit1 ⟨a, c, x, y, p, q⟩ (sts ⟨a, c, x, y, p, q⟩ k)
            · rfl
            · exfalso
              rcases Nat.lt_or_gt_of_ne z with z | z
              · have := n_le (L := ⟨a, c, x, y, p, q⟩) (i := j + 1) (j := k) (by omega)
                rw [n_hit h1] at this
                omega
              · have := n_le (L := ⟨a, c, x, y, p, q⟩) (i := k + 1) (j := j) (by omega)
                rw [n_hit hk] at this
                omega
          refine br_d (fun hg => ?_) fun hg => ?_
          · -- behind the hit ahead of it
            obtain ⟨i, i1, i2⟩ := reach1 (L := ⟨a, c, x, y, p, q⟩) o hp (l := (sts ⟨a, c, x, y, p, q⟩ k).n) (by omega)
            have hik : i + 1 ≤ k := by
              rcases Nat.lt_or_ge i k with z' | z'
              · omega
              · have := n_le (L := ⟨a, c, x, y, p, q⟩) (i := k) (j := i) (by omega)
                omega
            have en := n_hit i1
            obtain ⟨t1, t2⟩ := st_hit1 i1
            have Ii := st_inv (L := ⟨a, c, x, y, p, q⟩) o (i + 1)
            have e1 : (sts ⟨a, c, x, y, p, q⟩ k).n + 1 - 1 = (sts ⟨a, c, x, y, p, q⟩ k).n := by omega
            rw [e1]
            refine call h16 ⟨av p, lo x p a, a, fst p x a, _, rfl, vp, (av_bd bl.bp).up (by decide), bl.ba.up (by decide), (bk1.le (by omega) (by omega)).up (by decide), ?_⟩
            rw [← i2, ← t1, ← t2]
            obtain ⟨m, n, em, f1, n0', bm, bn⟩ := low_cmp (A := (sts ⟨a, c, x, y, p, q⟩ (i + 1)).t) Ii.b0
            have bni : Bd 150 ((sts ⟨a, c, x, y, p, q⟩ i).n + 1) := bk1.le (by rw [i2]; omega) (by rw [i2]; omega)
            have bm := bm _ (by rw [t1]; exact tb_bd (L := ⟨a, c, x, y, p, q⟩) o bl (x := x) (d := p) o.a0 bl.ba (bni.up (show 150 ≤ 160 by decide)))
            have bn := bn _ (by rw [t2]; exact av_bd bl.bp)
            rw [em]
            have hat : At ⟨a, c, x, y, p, q⟩ (i + 1) m n := at_congr (at_hit o (i + 1)) n0' f1.symm
            try simp only [wpSs, wpS, wpE, wpEs, wpC, wpAnd, wpOr, wpO, wpIt, opt_some, onI_int, onB_bl, onR_ref, arg1_one, look, joinO, start, List.map_cons, List.map_nil, List.length_cons, List.length_nil, List.replicate, List.cons_append, List.nil_append, List.append_nil, List.getElem?_cons_succ, List.getElem?_cons_zero, kcD, Nat.reduceAdd, Nat.reduceSub, br_t, br_f, br_n, asg, setAll, List.set_cons_succ, List.set_cons_zero, tgs, wipe, eq_ii, ne_ii, lt_ii, le_ii, gt_ii, ge_ii, is_n, isn_n, is_b, isn_b, add_ii, sub_ii, mul_ii, mod_ii, fdiv_ii, pow_ii, isNon, biD, intD_i, intD_b, esLen, beq_self_eq_true, ixD_tup, lsOf_new, seqD_tup, seqD_fl, slD_tup, bools, Option.map_some, true_and, ixD_fl, lenD_tup, lenD_fl, ix30, ix31, ix32, at20, at21, at30, at31, at32, List.filterMap_cons, List.filterMap_nil]
            refine call h15 ⟨y, q, c, m, n, rfl, o.c0, n0', bl.bc.up (by decide), bl.bq.up (by decide), bm.up (by decide), bn.up (by decide), ?_⟩
            have enn : Nn y q c m n = (sts ⟨a, c, x, y, p, q⟩ (i + 1)).m := (nn_at (L := ⟨a, c, x, y, p, q⟩) o (.inl hat)).2
            rw [enn]
            try simp only [wpSs, wpS, wpE, wpEs, wpC, wpAnd, wpOr, wpO, wpIt, opt_some, onI_int, onB_bl, onR_ref, arg1_one, look, joinO, start, List.map_cons, List.map_nil, List.length_cons, List.length_nil, List.replicate, List.cons_append, List.nil_append, List.append_nil, List.getElem?_cons_succ, List.getElem?_cons_zero, kcD, Nat.reduceAdd, Nat.reduceSub, br_t, br_f, br_n, asg, setAll, List.set_cons_succ, List.set_cons_zero, tgs, wipe, eq_ii, ne_ii, lt_ii, le_ii, gt_ii, ge_ii, is_n, isn_n, is_b, isn_b, add_ii, sub_ii, mul_ii, mod_ii, fdiv_ii, pow_ii, isNon, biD, intD_i, intD_b, esLen, beq_self_eq_true, ixD_tup, lsOf_new, seqD_tup, seqD_fl, slD_tup, bools, Option.map_some, true_and, ixD_fl, lenD_tup, lenD_fl, ix30, ix31, ix32, at20, at21, at30, at31, at32, List.filterMap_cons, List.filterMap_nil]
            rw [i2]
            refine rank (by omega) (by omega) fun j' h1' h2' => ?_
            have ej : j' = i := by
              rcases Nat.lt_trichotomy j' i with z' | z' | z'
              · have := n_le (L := ⟨a, c, x, y, p, q⟩) (i := j' + 1) (j := i) (by omega)
                rw [n_hit h1'] at this
                omega
              · exact z'
              · have := n_le (L := ⟨a, c, x, y, p, q⟩) (i := i + 1) (j := j') (by omega)
                omega
            subst ej
            try simp only [wpSs, wpS, wpE, wpEs, wpC, wpAnd, wpOr, wpO, wpIt, opt_some, onI_int, onB_bl, onR_ref, arg1_one, look, joinO, start, List.map_cons, List.map_nil, List.length_cons, List.length_nil, List.replicate, List.cons_append, List.nil_append, List.append_nil, List.getElem?_cons_succ, List.getElem?_cons_zero, kcD, Nat.reduceAdd, Nat.reduceSub, br_t, br_f, br_n, asg, setAll, List.set_cons_succ, List.set_cons_zero, tgs, wipe, eq_ii, ne_ii, lt_ii, le_ii, gt_ii, ge_ii, is_n, isn_n, is_b, isn_b, add_ii, sub_ii, mul_ii, mod_ii, fdiv_ii, pow_ii, isNon, biD, intD_i, intD_b, esLen, beq_self_eq_true, ixD_tup, lsOf_new, seqD_tup, seqD_fl, slD_tup, bools, Option.map_some, true_and, ixD_fl, lenD_tup, lenD_fl, ix30, ix31, ix32, at20, at21, at30, at31, at32, List.filterMap_cons, List.filterMap_nil]
            refine second hh _ ?_
            obtain ⟨d, hd⟩ : ∃ d, k = j' + 1 + d := ⟨k - (j' + 1), by omega⟩
            have := m_on (L := ⟨a, c, x, y, p, q⟩) o (i := j' + 1) d (by rw [← hd, en, i2])
            rw [← hd] at this
            rw [this]
            omega
          · -- ahead of all hits of the first line
            have e1 : (sts ⟨a, c, x, y, p, q⟩ k).n = 0 := by omega
            refine ⟨len_lim (by decide), call h15 ⟨y, q, c, 0, 1, rfl, o.c0, by decide, bl.bc.up (by decide), bl.bq.up (by decide), lt_two 1 (by decide) (by decide), lt_two 1 (by decide) (by decide), ?_⟩⟩
            have enn : Nn y q c 0 1 = 0 := by unfold Nn; rw [if_pos (.inr (by decide))]
            rw [enn, e1]
            try simp only [wpSs, wpS, wpE, wpEs, wpC, wpAnd, wpOr, wpO, wpIt, opt_some, onI_int, onB_bl, onR_ref, arg1_one, look, joinO, start, List.map_cons, List.map_nil, List.length_cons, List.length_nil, List.replicate, List.cons_append, List.nil_append, List.append_nil, List.getElem?_cons_succ, List.getElem?_cons_zero, kcD, Nat.reduceAdd, Nat.reduceSub, br_t, br_f, br_n, asg, setAll, List.set_cons_succ, List.set_cons_zero, tgs, wipe, eq_ii, ne_ii, lt_ii, le_ii, gt_ii, ge_ii, is_n, isn_n, is_b, isn_b, add_ii, sub_ii, mul_ii, mod_ii, fdiv_ii, pow_ii, isNon, biD, intD_i, intD_b, esLen, beq_self_eq_true, ixD_tup, lsOf_new, seqD_tup, seqD_fl, slD_tup, bools, Option.map_some, true_and, ixD_fl, lenD_tup, lenD_fl, ix30, ix31, ix32, at20, at21, at30, at31, at32, List.filterMap_cons, List.filterMap_nil]
            refine call h21 ⟨a, c, x, y, p, q, _, rfl, o, bl, hp, by decide, lt_two 1 (by decide) (by decide), fun _ => ?_, fun j' h1' h2' => ?_⟩
            · refine second hh _ ?_
              have := m_on (L := ⟨a, c, x, y, p, q⟩) o (i := 0) k (by rw [Nat.zero_add, e1]; rfl)
              rw [Nat.zero_add] at this
              have e0 : (sts ⟨a, c, x, y, p, q⟩ 0).m = 0 := rfl
              rw [this, e0]; omega
            · have := (st_inv (L := ⟨a, c, x, y, p, q⟩) o j').i1.n0
              omega)
      (fun u v o7 nx huv h1 h2 h3 h4 k1 k2 => by
        have hlt : decide (u < v) = true := decide_eq_true huv
        simp only [hit_time_B0, wpSs, wpS, wpE, wpEs, wpC, wpAnd, wpOr, wpO, wpIt, opt_some, onI_int, onB_bl, onR_ref, arg1_one, look, joinO, start, List.map_cons, List.map_nil, List.length_cons, List.length_nil, List.replicate, List.cons_append, List.nil_append, List.append_nil, List.getElem?_cons_succ, List.getElem?_cons_zero, kcD, Nat.reduceAdd, Nat.reduceSub, br_t, br_f, br_n, asg, setAll, List.set_cons_succ, List.set_cons_zero, tgs, wipe, eq_ii, ne_ii, lt_ii, le_ii, gt_ii, ge_ii, is_n, isn_n, is_b, isn_b, add_ii, sub_ii, mul_ii, mod_ii, fdiv_ii, pow_ii, isNon, biD, intD_i, intD_b, esLen, beq_self_eq_true, ixD_tup, lsOf_new, seqD_tup, seqD_fl, slD_tup, bools, Option.map_some, true_and, ixD_fl, lenD_tup, lenD_fl, ix30, ix31, ix32, at20, at21, at30, at31, at32, List.filterMap_cons, List.filterMap_nil, hlt, fdiv_pos hd2]
        refine ⟨by decide, s2, rank (by omega) (by omega) fun j e1 e2 => ?_⟩
        simp only [wpSs, wpS, wpE, wpEs, wpC, wpAnd, wpOr, wpO, wpIt, opt_some, onI_int, onB_bl, onR_ref, arg1_one, look, joinO, start, List.map_cons, List.map_nil, List.length_cons, List.length_nil, List.replicate, List.cons_append, List.nil_append, List.append_nil, List.getElem?_cons_succ, List.getElem?_cons_zero, kcD, Nat.reduceAdd, Nat.reduceSub, br_t, br_f, br_n, asg, setAll, List.set_cons_succ, List.set_cons_zero, tgs, wipe, eq_ii, ne_ii, lt_ii, le_ii, gt_ii, ge_ii, is_n, isn_n, is_b, isn_b, add_ii, sub_ii, mul_ii, mod_ii, fdiv_ii, pow_ii, isNon, biD, intD_i, intD_b, esLen, beq_self_eq_true, ixD_tup, lsOf_new, seqD_tup, seqD_fl, slD_tup, bools, Option.map_some, true_and, ixD_fl, lenD_tup, lenD_fl, ix30, ix31, ix32, at20, at21, at30, at31, at32, List.filterMap_cons, List.filterMap_nil]
        have hc := cmpr e1 e2
        refine br_d (fun z => k1 (hc.mp z) _) fun z => k2 ?_ _
        have := fun y => z (hc.mpr y)
        omega)
      k 1 ((k : Int) + 1) (by omega) (Int.le_refl _) (by have := Ik.i1.n0; omega) (by omega) (Int.le_refl _)
    obtain ⟨m, hm⟩ := go
    have eL : D.tup [lnT (av p) (lo x p a) a (fst p x a), lnD y q c] = linesD a c x y p q := by unfold linesD; rw [el]
    refine ⟨m, ?_⟩
    have hm := hm none
    rw [← eL] at hm
    exact hm
end M
namespace M
def word_at_B0 : Ss := (.cons (.if_ (.call 31 (.cons (.v 3) (.cons (.v 1) .nil))) (.cons (.set (.v 2) (.bin .add (.v 2) (.call 25 (.cons (.v 3) (.cons (.v 4) (.cons (.call 23 (.cons (.v 3) (.cons (.v 1) .nil))) .nil)))))) .nil) .nil) .nil)
def word_at_S0 : St := (.for_ (.tup [3, 4]) (.zip (.v 0) (.g 0)) word_at_B0)
def word_at_A0 : Ss := (.cons (.ret (.v 2)) .nil)
def word_at_T : Ss := (.cons (.set (.v 2) (.k (.str []))) (.cons word_at_S0 word_at_A0))
theorem dr_par {x d s n : Int} (h : d ≠ 0) : 0 < dr x d s n ↔ ¬ (fst d x s + n) % 2 = 0 := by
  rw [dr_pos h]
  unfold fst lq sg
  by_cases h1 : 0 < d
  · rw [if_pos h1, if_pos h1]; omega
  · rw [if_neg h1, if_neg h1]; omega
/-- is a hit of the line at t / b -/
def isAt (x d s t b : Int) : Bool := decide (d ≠ 0 ∧ (av d * t + lo x d s * b) % (s * b) = 0)
def spIsAt : Sp := fun ds S Q _ => ∃ x d s t b, ds = [lnD x d s, prD t b] ∧ 0 < s ∧ 0 < b ∧ Bd 1500 s ∧ Bd 1500 d ∧ Bd 1500 t ∧ Bd 1500 b ∧ Q (.bl (isAt x d s t b)) S
theorem txt_isat {G : Gm} {ds : List D} {S0 : Sto} {Q : VK} {X : XK} {b : Ss} (hb : b = (.cons (.ret (.and (.cmp .isn (.v 0) (.k .non)) (.cons (.cmp .eq (.bin .mod (.bin .add (.bin .mul (.ix (.v 0) (.k (.int 0))) (.ix (.v 1) (.k (.int 0)))) (.bin .mul (.ix (.v 0) (.k (.int 1))) (.ix (.v 1) (.k (.int 1))))) (.bin .mul (.ix (.v 0) (.k (.int 2))) (.ix (.v 1) (.k (.int 1))))) (.k (.int 0))) .nil))) .nil)) (h : spIsAt ds S0 Q X) : ds.length = 2 ∧ wpSs G b (start 2 ds) S0 (kR Q X) := by
  obtain ⟨x, d, s, t, b2, rfl, hs, hb', bs, bd, bt, bb, hq⟩ := h
  subst hb
  refine ⟨rfl, ?_⟩
  have p := mulp hs hb'
  unfold isAt at hq
  by_cases h : d = 0
  · have el : lnD x d s = .non := by unfold lnD; rw [if_pos h]
    rw [decide_eq_false (fun z => z.1 h)] at hq
    simp only [el, wpSs, wpS, wpE, wpEs, wpC, wpAnd, wpOr, wpO, wpIt, opt_some, onI_int, onB_bl, onR_ref, arg1_one, look, joinO, start, List.map_cons, List.map_nil, List.length_cons, List.length_nil, List.replicate, List.cons_append, List.nil_append, List.append_nil, List.getElem?_cons_succ, List.getElem?_cons_zero, kcD, Nat.reduceAdd, Nat.reduceSub, br_t, br_f, br_n, asg, setAll, List.set_cons_succ, List.set_cons_zero, tgs, wipe, eq_ii, ne_ii, lt_ii, le_ii, gt_ii, ge_ii, is_n, isn_n, is_b, isn_b, add_ii, sub_ii, mul_ii, mod_ii, fdiv_ii, pow_ii, isNon, biD, intD_i, intD_b, esLen, beq_self_eq_true, ixD_tup, lsOf_new, seqD_tup, seqD_fl, slD_tup, bools, Option.map_some, true_and, ixD_fl, lenD_tup, lenD_fl, ix30, ix31, ix32, at20, at21, at30, at31, at32, List.filterMap_cons, List.filterMap_nil]
    exact hq
  · have el : lnD x d s = lnT (av d) (lo x d s) s (fst d x s) := by unfold lnD; rw [if_neg h]; rfl
    have l1 := lo_in (x := x) (d := d) hs
    simp only [el, lnT, wpSs, wpS, wpE, wpEs, wpC, wpAnd, wpOr, wpO, wpIt, opt_some, onI_int, onB_bl, onR_ref, arg1_one, look, joinO, start, List.map_cons, List.map_nil, List.length_cons, List.length_nil, List.replicate, List.cons_append, List.nil_append, List.append_nil, List.getElem?_cons_succ, List.getElem?_cons_zero, kcD, Nat.reduceAdd, Nat.reduceSub, br_t, br_f, br_n, asg, setAll, List.set_cons_succ, List.set_cons_zero, tgs, wipe, eq_ii, ne_ii, lt_ii, le_ii, gt_ii, ge_ii, is_n, isn_n, is_b, isn_b, add_ii, sub_ii, mul_ii, mod_ii, fdiv_ii, pow_ii, isNon, biD, intD_i, intD_b, esLen, beq_self_eq_true, ixD_tup, lsOf_new, seqD_tup, seqD_fl, slD_tup, bools, Option.map_some, true_and, ixD_fl, lenD_tup, lenD_fl, ix30, ix31, ix32, at20, at21, at30, at31, at32, List.filterMap_cons, List.filterMap_nil, at40, at41, at42, at43, fmod_pos p]
    refine ⟨(av_bd bd).sm (by decide), bt.sm (by decide), (bs.le l1.1 (Int.le_of_lt l1.2)).sm (by decide), bb.sm (by decide), bs.sm (by decide), bb.sm (by decide), by omega, ?_⟩
    have e : ((av d * t + lo x d s * b2) % (s * b2) == 0) = decide (d ≠ 0 ∧ (av d * t + lo x d s * b2) % (s * b2) = 0) := by
      by_cases z : (av d * t + lo x d s * b2) % (s * b2) = 0
      · rw [decide_eq_true ⟨h, z⟩, z]; rfl
      · rw [decide_eq_false fun y => z y.2]; simpa using z
    rw [e]
    exact hq
theorem mod_no {u s n : Int} (h1 : n * s < u) (h2 : u < (n + 1) * s) : u % s ≠ 0 := by
  intro z
  obtain ⟨k, hk⟩ := Int.dvd_of_emod_eq_zero z
  have hs : 0 < s := by
    have : (n + 1) * s = n * s + s := by grind
    omega
  rw [hk, Int.mul_comm s] at h1 h2
  have a1 := Int.lt_of_mul_lt_mul_right h1 (Int.le_of_lt hs)
  have a2 := Int.lt_of_mul_lt_mul_right h2 (Int.le_of_lt hs)
  omega
/-- at the time of the hit behind k others -/
theorem isat1 {L : Ln} (o : OkL L) {k : Nat} {m n : Int} (n0 : 0 < n) (h : m * (sts L (k + 1)).b = (sts L (k + 1)).t * n) : isAt L.x L.p L.a m n = hit1 L (sts L k) := by
  have I := st_inv o k
  have I2 := st_inv o (k + 1)
  unfold isAt
  by_cases hp : L.p = 0
  · have : hit1 L (sts L k) = false := by unfold hit1; rw [decide_eq_false_iff_not]; exact fun z => z.1 hp
    rw [this, decide_eq_false fun z => z.1 hp]
  have hat : At L (k + 1) m n := at_congr (at_hit o (k + 1)) n0 h.symm
  cases hh : hit1 L (sts L k)
  · rw [decide_eq_false_iff_not]
    intro z
    have en : (sts L (k + 1)).n = (sts L k).n := by
      show (if hit1 L (sts L k) then _ else _) = _
      rw [hh]; rfl
    have hl := li_at1 o hat
    rw [en] at hl
    have hi := hl.hi hp
    have lw := I.i1.lw hp
    have tt := (st_next o I).2
    have tt : (sts L k).t * (sts L (k + 1)).b < (sts L (k + 1)).t * (sts L k).b := tt
    have vp := av_pos hp
    have st : (sts L k).n * (L.a * n) < av L.p * m + lo L.x L.p L.a * n := by
      -- over the bottoms
      have b0 := I.b0
      have b1 := I2.b0
      generalize (sts L k).n = N at *
      generalize (sts L k).t = t at *
      generalize (sts L k).b = b at *
      generalize (sts L (k + 1)).t = t' at *
      generalize (sts L (k + 1)).b = b' at *
      generalize lo L.x L.p L.a = e at *
      generalize av L.p = v at *
      have pb := mulp b0 b1
      have x1 : N * (L.a * b) * (b' * n) ≤ (v * t + e * b) * (b' * n) := Int.mul_le_mul_of_nonneg_right lw (Int.le_of_lt (mulp b1 n0))
      have x2 : t * b' * (v * n) < t' * b * (v * n) := Int.mul_lt_mul_of_pos_right tt (mulp vp n0)
      have x3 : N * (L.a * n) * (b * b') < (v * m + e * n) * (b * b') := by
        have e1 : N * (L.a * n) * (b * b') = N * (L.a * b) * (b' * n) := by grind
        have e2 : (v * m + e * n) * (b * b') = v * b * (m * b') + e * b * (b' * n) := by grind
        have e3 : v * b * (t' * n) = t' * b * (v * n) := by grind
        have e4 : (v * t + e * b) * (b' * n) = t * b' * (v * n) + e * b * (b' * n) := by grind
        rw [e1, e2, h, e3]
        omega
      exact Int.lt_of_mul_lt_mul_right x3 (Int.le_of_lt pb)
    exact mod_no st hi z.2
  · rw [decide_eq_true_iff]
    refine ⟨hp, ?_⟩
    obtain ⟨t1, t2⟩ := st_hit1 hh
    have lh := (li_hit (x := L.x) (n := (sts L k).n) o.a0 hp I.i1.n0).2
    have et : wN L.x L.p L.a (sts L k).n = (sts L (k + 1)).t := by rw [t1]; rfl
    rw [et] at lh
    have lh2 : av L.p * (sts L (k + 1)).t + lo L.x L.p L.a * (sts L (k + 1)).b = ((sts L k).n + 1) * (L.a * (sts L (k + 1)).b) := by rw [t2]; exact lh
    have b1 := I2.b0
    have e : av L.p * m + lo L.x L.p L.a * n = ((sts L k).n + 1) * (L.a * n) := by
      refine Int.eq_of_mul_eq_mul_right (show (sts L (k + 1)).b ≠ 0 by omega) ?_
      have e1 : (av L.p * m + lo L.x L.p L.a * n) * (sts L (k + 1)).b = av L.p * (m * (sts L (k + 1)).b) + lo L.x L.p L.a * (sts L (k + 1)).b * n := by grind
      rw [e1, h]
      have e2 : av L.p * ((sts L (k + 1)).t * n) + lo L.x L.p L.a * (sts L (k + 1)).b * n = (av L.p * (sts L (k + 1)).t + lo L.x L.p L.a * (sts L (k + 1)).b) * n := by grind
      rw [e2, lh2]; grind
    rw [e]
    exact Int.mul_emod_left ..
theorem isat2 {L : Ln} (o : OkL L) {k : Nat} {m n : Int} (n0 : 0 < n) (h : m * (sts L (k + 1)).b = (sts L (k + 1)).t * n) : isAt L.y L.q L.c m n = hit2 L (sts L k) := by
  have I := st_inv o k
  have I2 := st_inv o (k + 1)
  unfold isAt
  by_cases hp : L.q = 0
  · have : hit2 L (sts L k) = false := by unfold hit2; rw [decide_eq_false_iff_not]; exact fun z => z.1 hp
    rw [this, decide_eq_false fun z => z.1 hp]
  have hat : At L (k + 1) m n := at_congr (at_hit o (k + 1)) n0 h.symm
  cases hh : hit2 L (sts L k)
  · rw [decide_eq_false_iff_not]
    intro z
    have en : (sts L (k + 1)).m = (sts L k).m := by
      show (if hit2 L (sts L k) then _ else _) = _
      rw [hh]; rfl
    have hl := li_at2 o hat
    rw [en] at hl
    have hi := hl.hi hp
    have lw := I.i2.lw hp
    have tt := (st_next o I).2
    have tt : (sts L k).t * (sts L (k + 1)).b < (sts L (k + 1)).t * (sts L k).b := tt
    have vp := av_pos hp
    have st : (sts L k).m * (L.c * n) < av L.q * m + lo L.y L.q L.c * n := by
      have b0 := I.b0
      have b1 := I2.b0
      generalize (sts L k).m = N at *
      generalize (sts L k).t = t at *
      generalize (sts L k).b = b at *
      generalize (sts L (k + 1)).t = t' at *
      generalize (sts L (k + 1)).b = b' at *
      generalize lo L.y L.q L.c = e at *
      generalize av L.q = v at *
      have pb := mulp b0 b1
      have x1 : N * (L.c * b) * (b' * n) ≤ (v * t + e * b) * (b' * n) := Int.mul_le_mul_of_nonneg_right lw (Int.le_of_lt (mulp b1 n0))
      have x2 : t * b' * (v * n) < t' * b * (v * n) := Int.mul_lt_mul_of_pos_right tt (mulp vp n0)
      have x3 : N * (L.c * n) * (b * b') < (v * m + e * n) * (b * b') := by
        have e1 : N * (L.c * n) * (b * b') = N * (L.c * b) * (b' * n) := by grind
        have e2 : (v * m + e * n) * (b * b') = v * b * (m * b') + e * b * (b' * n) := by grind
        have e3 : v * b * (t' * n) = t' * b * (v * n) := by grind
        have e4 : (v * t + e * b) * (b' * n) = t * b' * (v * n) + e * b * (b' * n) := by grind
        rw [e1, e2, h, e3]
        omega
      exact Int.lt_of_mul_lt_mul_right x3 (Int.le_of_lt pb)
    exact mod_no st hi z.2
  · rw [decide_eq_true_iff]
    refine ⟨hp, ?_⟩
    have lh := (li_hit (x := L.y) (n := (sts L k).m) o.c0 hp I.i2.n0).2
    have em : (sts L (k + 1)).m = (sts L k).m + 1 := by
      show (if hit2 L (sts L k) then _ else _) = _
      rw [hh]; rfl
    -- the state behind the hit has the second line at the cushion
    have key : av L.q * (sts L (k + 1)).t + lo L.y L.q L.c * (sts L (k + 1)).b = ((sts L k).m + 1) * (L.c * (sts L (k + 1)).b) := by
      by_cases h1 : hit1 L (sts L k) = true
      · obtain ⟨t1, t2⟩ := st_hit1 h1
        have hh' := hh
        unfold hit2 at hh'
        have h1' := h1
        unfold hit1 at h1'
        obtain ⟨hp1, q1⟩ := of_decide_eq_true h1'
        obtain ⟨hq1, q2⟩ := of_decide_eq_true hh'
        have eq : w1 L (sts L k) * av L.q = w2 L (sts L k) * av L.p := by omega
        have e1 : (sts L (k + 1)).t = w1 L (sts L k) := t1
        rw [e1, t2, Int.mul_comm (av L.q), eq]
        unfold w2 wN
        grind
      · obtain ⟨t1, t2⟩ := st_hit2 (Bool.eq_false_iff.mpr h1)
        rw [t1, t2]
        grind
    have b1 := I2.b0
    have e : av L.q * m + lo L.y L.q L.c * n = ((sts L k).m + 1) * (L.c * n) := by
      refine Int.eq_of_mul_eq_mul_right (show (sts L (k + 1)).b ≠ 0 by omega) ?_
      have e1 : (av L.q * m + lo L.y L.q L.c * n) * (sts L (k + 1)).b = av L.q * (m * (sts L (k + 1)).b) + lo L.y L.q L.c * (sts L (k + 1)).b * n := by grind
      rw [e1, h]
      have e2 : av L.q * ((sts L (k + 1)).t * n) + lo L.y L.q L.c * (sts L (k + 1)).b * n = (av L.q * (sts L (k + 1)).t + lo L.y L.q L.c * (sts L (k + 1)).b) * n := by grind
      rw [e2, key]; grind
    rw [e]
    exact Int.mul_emod_left ..
theorem add_ss' {x y : Tx} {S : Sto} {Q : VK} : binD .add (.str x) (.str y) S Q = (x.length + y.length ≤ lim ∧ Q (.str (x ++ y)) S) := rfl
def letD' : D := .tup [.str [87, 69], .str [83, 78]]
def spWA : Sp := fun ds S Q _ => ∃ a c x y p q m n, ∃ k : Nat, ds = [linesD a c x y p q, prD m n] ∧ OkL ⟨a, c, x, y, p, q⟩ ∧ BL ⟨a, c, x, y, p, q⟩ ∧ 0 < n ∧ m * (sts ⟨a, c, x, y, p, q⟩ (k + 1)).b = (sts ⟨a, c, x, y, p, q⟩ (k + 1)).t * n ∧ Bd 900 m ∧ Bd 900 n ∧ Q (.str (wordT ⟨a, c, x, y, p, q⟩ (sts ⟨a, c, x, y, p, q⟩ k))) S
theorem txt_wa {G : Gm} {ds : List D} {S0 : Sto} {Q : VK} {X : XK} {b : Ss} (hb : b = word_at_T) (h15 : G.fn 23 = spCnt) (h17 : G.fn 25 = spLet) (h23 : G.fn 31 = spIsAt) (hc : G.con 0 = letD') (h : spWA ds S0 Q X) : ds.length = 2 ∧ wpSs G b (start 5 ds) S0 (kR Q X) := by
  obtain ⟨a, c, x, y, p, q, m, n, k, rfl, o, bl, n0, e, bm, bn, hq⟩ := h
  subst hb
  refine ⟨rfl, ?_⟩
  have i1 := isat1 (L := ⟨a, c, x, y, p, q⟩) o n0 e
  have i2 := isat2 (L := ⟨a, c, x, y, p, q⟩) o n0 e
  have hat : At ⟨a, c, x, y, p, q⟩ (k + 1) m n := at_congr (at_hit o (k + 1)) n0 e.symm
  obtain ⟨c1, c2⟩ := nn_at (L := ⟨a, c, x, y, p, q⟩) o (.inl hat)
  have I := st_inv (L := ⟨a, c, x, y, p, q⟩) o k
  simp only [word_at_T, word_at_S0, word_at_A0, wpSs, wpS, wpE, wpEs, wpC, wpAnd, wpOr, wpO, wpIt, opt_some, onI_int, onB_bl, onR_ref, arg1_one, look, joinO, start, List.map_cons, List.map_nil, List.length_cons, List.length_nil, List.replicate, List.cons_append, List.nil_append, List.append_nil, List.getElem?_cons_succ, List.getElem?_cons_zero, kcD, Nat.reduceAdd, Nat.reduceSub, br_t, br_f, br_n, asg, setAll, List.set_cons_succ, List.set_cons_zero, tgs, wipe, eq_ii, ne_ii, lt_ii, le_ii, gt_ii, ge_ii, is_n, isn_n, is_b, isn_b, add_ii, sub_ii, mul_ii, mod_ii, fdiv_ii, pow_ii, isNon, biD, intD_i, intD_b, esLen, beq_self_eq_true, ixD_tup, lsOf_new, seqD_tup, seqD_fl, slD_tup, bools, Option.map_some, true_and, ixD_fl, lenD_tup, lenD_fl, ix30, ix31, ix32, at20, at21, at30, at31, at32, List.filterMap_cons, List.filterMap_nil, hc, linesD, letD', zipD, zipP, List.zip_cons_cons, List.zip_nil_right]
  simp only [forW, word_at_B0, wpSs, wpS, wpE, wpEs, wpC, wpAnd, wpOr, wpO, wpIt, opt_some, onI_int, onB_bl, onR_ref, arg1_one, look, joinO, start, List.map_cons, List.map_nil, List.length_cons, List.length_nil, List.replicate, List.cons_append, List.nil_append, List.append_nil, List.getElem?_cons_succ, List.getElem?_cons_zero, kcD, Nat.reduceAdd, Nat.reduceSub, br_t, br_f, br_n, asg, setAll, List.set_cons_succ, List.set_cons_zero, tgs, wipe, eq_ii, ne_ii, lt_ii, le_ii, gt_ii, ge_ii, is_n, isn_n, is_b, isn_b, add_ii, sub_ii, mul_ii, mod_ii, fdiv_ii, pow_ii, isNon, biD, intD_i, intD_b, esLen, beq_self_eq_true, ixD_tup, lsOf_new, seqD_tup, seqD_fl, slD_tup, bools, Option.map_some, true_and, ixD_fl, lenD_tup, lenD_fl, ix30, ix31, ix32, at20, at21, at30, at31, at32, List.filterMap_cons, List.filterMap_nil]
  -- the second line, behind any word of the first one
  have second : ∀ w : Tx, w = (if hit1 ⟨a, c, x, y, p, q⟩ (sts ⟨a, c, x, y, p, q⟩ k) then [l1 ⟨a, c, x, y, p, q⟩ (sts ⟨a, c, x, y, p, q⟩ k)] else []) → cl (G.fn 31) [lnD y q c, prD m n] S0 (fun x_1 S1 => onB x_1 fun b => br b (cl (G.fn 23) [lnD y q c, prD m n] S1 (fun y_1 S2 => cl (G.fn 25) [lnD y q c, .str [83, 78], y_1] S2 (fun y_2 S3 => binD .add (.str w) y_2 S3 fun x S1 => Q x S1) (fun c fs S1 => X c fs S1)) (fun c fs S1 => X c fs S1)) (Q (.str w) S1)) (fun c fs S1 => X c fs S1) := by
    intro w hw
    have hl : w.length ≤ 1 := by rw [hw]; split <;> simp
    refine call h23 ⟨y, q, c, m, n, rfl, o.c0, n0, bl.bc.up (by decide), bl.bq.up (by decide), bm.up (by decide), bn.up (by decide), ?_⟩
    have i2 : isAt y q c m n = hit2 ⟨a, c, x, y, p, q⟩ (sts ⟨a, c, x, y, p, q⟩ k) := i2
    rw [i2]
    simp only [wpSs, wpS, wpE, wpEs, wpC, wpAnd, wpOr, wpO, wpIt, opt_some, onI_int, onB_bl, onR_ref, arg1_one, look, joinO, start, List.map_cons, List.map_nil, List.length_cons, List.length_nil, List.replicate, List.cons_append, List.nil_append, List.append_nil, List.getElem?_cons_succ, List.getElem?_cons_zero, kcD, Nat.reduceAdd, Nat.reduceSub, br_t, br_f, br_n, asg, setAll, List.set_cons_succ, List.set_cons_zero, tgs, wipe, eq_ii, ne_ii, lt_ii, le_ii, gt_ii, ge_ii, is_n, isn_n, is_b, isn_b, add_ii, sub_ii, mul_ii, mod_ii, fdiv_ii, pow_ii, isNon, biD, intD_i, intD_b, esLen, beq_self_eq_true, ixD_tup, lsOf_new, seqD_tup, seqD_fl, slD_tup, bools, Option.map_some, true_and, ixD_fl, lenD_tup, lenD_fl, ix30, ix31, ix32, at20, at21, at30, at31, at32, List.filterMap_cons, List.filterMap_nil]
    refine br_if (fun h => ?_) fun h => ?_
    · have hq0 : q ≠ 0 := by have h' := h; unfold hit2 at h'; exact (of_decide_eq_true h').1
      have em : (sts ⟨a, c, x, y, p, q⟩ (k + 1)).m = (sts ⟨a, c, x, y, p, q⟩ k).m + 1 := by
        show (if hit2 ⟨a, c, x, y, p, q⟩ (sts ⟨a, c, x, y, p, q⟩ k) then _ else _) = _
        rw [h]; rfl
      have el : lnD y q c = lnT (av q) (lo y q c) c (fst q y c) := by unfold lnD; rw [if_neg hq0]; rfl
      refine call h15 ⟨y, q, c, m, n, rfl, o.c0, n0, bl.bc.up (by decide), bl.bq.up (by decide), bm.up (by decide), bn.up (by decide), ?_⟩
      have c2 : Nn y q c m n = (sts ⟨a, c, x, y, p, q⟩ (k + 1)).m := c2
      rw [c2, em, el]
      refine call h17 ⟨_, _, _, fst q y c, (sts ⟨a, c, x, y, p, q⟩ k).m + 1, 83, 78, rfl, ?_⟩
      simp only [add_ss']
      have ew : wordT ⟨a, c, x, y, p, q⟩ (sts ⟨a, c, x, y, p, q⟩ k) = w ++ [if (fst q y c + ((sts ⟨a, c, x, y, p, q⟩ k).m + 1) - 1) % 2 = 0 then 83 else 78] := by
        unfold wordT l2
        rw [h, if_pos rfl, hw]
        congr 2
        have d := dr_par (x := y) (s := c) (n := (sts ⟨a, c, x, y, p, q⟩ k).m) hq0
        have e1 : fst q y c + ((sts ⟨a, c, x, y, p, q⟩ k).m + 1) - 1 = fst q y c + (sts ⟨a, c, x, y, p, q⟩ k).m := by omega
        rw [e1]
        by_cases z : (fst q y c + (sts ⟨a, c, x, y, p, q⟩ k).m) % 2 = 0
        · rw [if_pos z, if_neg (fun y => d.mp y z)]
        · rw [if_neg z, if_pos (d.mpr z)]
      rw [← ew]
      exact ⟨len_lim (by simp; omega), hq⟩
    · have ew : wordT ⟨a, c, x, y, p, q⟩ (sts ⟨a, c, x, y, p, q⟩ k) = w := by
        unfold wordT
        rw [h, hw]; simp
      rw [ew] at hq
      exact hq
  refine call h23 ⟨x, p, a, m, n, rfl, o.a0, n0, bl.ba.up (by decide), bl.bp.up (by decide), bm.up (by decide), bn.up (by decide), ?_⟩
  have i1 : isAt x p a m n = hit1 ⟨a, c, x, y, p, q⟩ (sts ⟨a, c, x, y, p, q⟩ k) := i1
  rw [i1]
  simp only [wpSs, wpS, wpE, wpEs, wpC, wpAnd, wpOr, wpO, wpIt, opt_some, onI_int, onB_bl, onR_ref, arg1_one, look, joinO, start, List.map_cons, List.map_nil, List.length_cons, List.length_nil, List.replicate, List.cons_append, List.nil_append, List.append_nil, List.getElem?_cons_succ, List.getElem?_cons_zero, kcD, Nat.reduceAdd, Nat.reduceSub, br_t, br_f, br_n, asg, setAll, List.set_cons_succ, List.set_cons_zero, tgs, wipe, eq_ii, ne_ii, lt_ii, le_ii, gt_ii, ge_ii, is_n, isn_n, is_b, isn_b, add_ii, sub_ii, mul_ii, mod_ii, fdiv_ii, pow_ii, isNon, biD, intD_i, intD_b, esLen, beq_self_eq_true, ixD_tup, lsOf_new, seqD_tup, seqD_fl, slD_tup, bools, Option.map_some, true_and, ixD_fl, lenD_tup, lenD_fl, ix30, ix31, ix32, at20, at21, at30, at31, at32, List.filterMap_cons, List.filterMap_nil]
  refine br_if (fun h => ?_) fun h => ?_
  · have hp0 : p ≠ 0 := by have h' := h; unfold hit1 at h'; exact (of_decide_eq_true h').1
    have en := n_hit h
    have el : lnD x p a = lnT (av p) (lo x p a) a (fst p x a) := by unfold lnD; rw [if_neg hp0]; rfl
    refine call h15 ⟨x, p, a, m, n, rfl, o.a0, n0, bl.ba.up (by decide), bl.bp.up (by decide), bm.up (by decide), bn.up (by decide), ?_⟩
    have c1 : Nn x p a m n = (sts ⟨a, c, x, y, p, q⟩ (k + 1)).n := c1
    rw [c1, en, el]
    refine call h17 ⟨_, _, _, fst p x a, (sts ⟨a, c, x, y, p, q⟩ k).n + 1, 87, 69, rfl, ?_⟩
    simp only [add_ss', List.nil_append]
    refine ⟨len_lim (by simp), second _ ?_⟩
    rw [h, if_pos rfl]
    unfold l1
    congr 1
    have d := dr_par (x := x) (s := a) (n := (sts ⟨a, c, x, y, p, q⟩ k).n) hp0
    have e1 : fst p x a + ((sts ⟨a, c, x, y, p, q⟩ k).n + 1) - 1 = fst p x a + (sts ⟨a, c, x, y, p, q⟩ k).n := by omega
    rw [e1]
    by_cases z : (fst p x a + (sts ⟨a, c, x, y, p, q⟩ k).n) % 2 = 0
    · rw [if_pos z, if_neg (fun y => d.mp y z)]
    · rw [if_neg z, if_pos (d.mpr z)]
  · exact second _ (by rw [h]; rfl)
def spHO : Sp := fun ds S Q _ => ∃ a c x y p q, ∃ k : Nat, ds = [prD a c, shD x y p q, .int ((k : Int) + 1)] ∧ OkL ⟨a, c, x, y, p, q⟩ ∧ BL ⟨a, c, x, y, p, q⟩ ∧ Bd 149 (k : Int) ∧ Q (entD ⟨a, c, x, y, p, q⟩ (sts ⟨a, c, x, y, p, q⟩ k)) S
/-- an entry far on -/
theorem ent_far {L : Ln} (o : OkL L) (bl : BL L) {j : Nat} (hj : Bd 149 (j : Int)) : ∃ m n, low (sts L (j + 1)).t (sts L (j + 1)).b = prD m n ∧ entD L (sts L j) = .tup [prD m n, .str (wordT L (sts L j)), placeD L.a L.c L.x L.y L.p L.q m n] ∧ m * (sts L (j + 1)).b = (sts L (j + 1)).t * n ∧ 0 < n ∧ 0 < m ∧ Bd 365 m ∧ Bd 365 n ∧ partB (prD m n) = true := by
  have I := st_inv o (j + 1)
  have c := st_cnt (L := L) j
  have I0 := st_inv o j
  obtain ⟨m, n, e, h1, n0, bm, bn⟩ := low_cmp (A := (sts L (j + 1)).t) I.b0
  have p := part_low (t := (sts L (j + 1)).t) I.b0
  rw [e] at p
  have bN : Bd 160 ((sts L j).n + 1) := ((hj.le I0.i1.n0 c.1).add (lt_two 1 (by decide) (by decide))).up (by decide)
  have bM : Bd 160 ((sts L j).m + 1) := ((hj.le I0.i2.n0 c.2).add (lt_two 1 (by decide) (by decide))).up (by decide)
  have bt : Bd 365 (sts L (j + 1)).t := by
    cases hh : hit1 L (sts L j)
    · rw [(st_hit2 hh).1]
      exact tb_bd o bl (x := L.y) (d := L.q) o.c0 bl.bc bM
    · rw [(st_hit1 hh).1]
      exact tb_bd o bl (x := L.x) (d := L.p) o.a0 bl.ba bN
  have m0 : 0 < m := by
    have := mulp (t_pos o j) n0
    rw [← h1] at this
    exact Int.pos_of_mul_pos_left this I.b0
  refine ⟨m, n, e, ?_, h1, n0, m0, bm _ bt, bn _ ((st_b bl (j + 1)).up (by decide)), p⟩
  rw [place_ent o n0 h1, ← e]
  rfl
theorem txt_ho {G : Gm} {ds : List D} {S0 : Sto} {Q : VK} {X : XK} {b : Ss} (hb : b = (.cons (.set (.v 3) (.call 22 (.cons (.v 0) (.cons (.v 1) .nil)))) (.cons (.set (.v 4) (.call 30 (.cons (.v 3) (.cons (.v 2) .nil)))) (.cons (.ret (.tup (.cons (.v 4) (.cons (.call 32 (.cons (.v 3) (.cons (.v 4) .nil))) (.cons (.call 14 (.cons (.v 0) (.cons (.v 1) (.cons (.v 4) .nil)))) .nil))))) .nil)))) (h12 : G.fn 14 = spPlaceOf) (h14 : G.fn 22 = spLines) (h22 : G.fn 30 = spHT) (h24 : G.fn 32 = spWA) (h : spHO ds S0 Q X) : ds.length = 3 ∧ wpSs G b (start 5 ds) S0 (kR Q X) := by
  obtain ⟨a, c, x, y, p, q, k, rfl, o, bl, bk, hq⟩ := h
  subst hb
  refine ⟨rfl, ?_⟩
  obtain ⟨m, n, e, ee, h1, n0, m0, bm, bn, hp⟩ := ent_far (L := ⟨a, c, x, y, p, q⟩) o bl bk
  rw [ee] at hq
  simp only [wpSs, wpS, wpE, wpEs, wpC, wpAnd, wpOr, wpO, wpIt, opt_some, onI_int, onB_bl, onR_ref, arg1_one, look, joinO, start, List.map_cons, List.map_nil, List.length_cons, List.length_nil, List.replicate, List.cons_append, List.nil_append, List.append_nil, List.getElem?_cons_succ, List.getElem?_cons_zero, kcD, Nat.reduceAdd, Nat.reduceSub, br_t, br_f, br_n, asg, setAll, List.set_cons_succ, List.set_cons_zero, tgs, wipe, eq_ii, ne_ii, lt_ii, le_ii, gt_ii, ge_ii, is_n, isn_n, is_b, isn_b, add_ii, sub_ii, mul_ii, mod_ii, fdiv_ii, pow_ii, isNon, biD, intD_i, intD_b, esLen, beq_self_eq_true, ixD_tup, lsOf_new, seqD_tup, seqD_fl, slD_tup, bools, Option.map_some, true_and, ixD_fl, lenD_tup, lenD_fl, ix30, ix31, ix32, at20, at21, at30, at31, at32, List.filterMap_cons, List.filterMap_nil]
  refine call h14 ⟨a, c, x, y, p, q, rfl, o.a0, o.c0, bl.ba.up (by decide), bl.bc.up (by decide), ?_⟩
  try simp only [wpSs, wpS, wpE, wpEs, wpC, wpAnd, wpOr, wpO, wpIt, opt_some, onI_int, onB_bl, onR_ref, arg1_one, look, joinO, start, List.map_cons, List.map_nil, List.length_cons, List.length_nil, List.replicate, List.cons_append, List.nil_append, List.append_nil, List.getElem?_cons_succ, List.getElem?_cons_zero, kcD, Nat.reduceAdd, Nat.reduceSub, br_t, br_f, br_n, asg, setAll, List.set_cons_succ, List.set_cons_zero, tgs, wipe, eq_ii, ne_ii, lt_ii, le_ii, gt_ii, ge_ii, is_n, isn_n, is_b, isn_b, add_ii, sub_ii, mul_ii, mod_ii, fdiv_ii, pow_ii, isNon, biD, intD_i, intD_b, esLen, beq_self_eq_true, ixD_tup, lsOf_new, seqD_tup, seqD_fl, slD_tup, bools, Option.map_some, true_and, ixD_fl, lenD_tup, lenD_fl, ix30, ix31, ix32, at20, at21, at30, at31, at32, List.filterMap_cons, List.filterMap_nil]
  refine call h22 ⟨a, c, x, y, p, q, k, rfl, o, bl, bk, ?_⟩
  rw [e]
  try simp only [wpSs, wpS, wpE, wpEs, wpC, wpAnd, wpOr, wpO, wpIt, opt_some, onI_int, onB_bl, onR_ref, arg1_one, look, joinO, start, List.map_cons, List.map_nil, List.length_cons, List.length_nil, List.replicate, List.cons_append, List.nil_append, List.append_nil, List.getElem?_cons_succ, List.getElem?_cons_zero, kcD, Nat.reduceAdd, Nat.reduceSub, br_t, br_f, br_n, asg, setAll, List.set_cons_succ, List.set_cons_zero, tgs, wipe, eq_ii, ne_ii, lt_ii, le_ii, gt_ii, ge_ii, is_n, isn_n, is_b, isn_b, add_ii, sub_ii, mul_ii, mod_ii, fdiv_ii, pow_ii, isNon, biD, intD_i, intD_b, esLen, beq_self_eq_true, ixD_tup, lsOf_new, seqD_tup, seqD_fl, slD_tup, bools, Option.map_some, true_and, ixD_fl, lenD_tup, lenD_fl, ix30, ix31, ix32, at20, at21, at30, at31, at32, List.filterMap_cons, List.filterMap_nil]
  refine call h24 ⟨a, c, x, y, p, q, m, n, k, rfl, o, bl, n0, h1, bm.up (by decide), bn.up (by decide), ?_⟩
  refine call h12 ⟨a, c, x, y, p, q, m, n, rfl, sh_of (L := ⟨a, c, x, y, p, q⟩) o bl n0 (bm.up (by decide)) (bn.up (by decide)), len_lim (by decide), hq⟩
def spNth : Sp := fun ds S Q _ => ∃ a c x y p q, ∃ k : Nat, ds = [prD a c, shD x y p q, .int (k : Int)] ∧ OkL ⟨a, c, x, y, p, q⟩ ∧ BL ⟨a, c, x, y, p, q⟩ ∧ Bd 149 (k : Int) ∧ ∀ S', Ext S S' → Q (entD ⟨a, c, x, y, p, q⟩ (sts ⟨a, c, x, y, p, q⟩ k)) S'
theorem txt_nth {G : Gm} {ds : List D} {S0 : Sto} {Q : VK} {X : XK} {b : Ss} (hb : b = (.cons (.ex (.call 10 (.cons (.v 0) (.cons (.v 1) .nil)))) (.cons (.if_ (.not (.call 0 (.cons (.v 2) (.cons (.k (.int 0)) (.cons (.k .non) .nil))))) (.cons .nev .nil) .nil) (.cons (.ret (.call 33 (.cons (.v 0) (.cons (.v 1) (.cons (.bin .add (.v 2) (.k (.int 1))) .nil))))) .nil)))) (h0 : G.fn 0 = spInt) (h9 : G.fn 10 = spCkShot) (h25 : G.fn 33 = spHO) (h : spNth ds S0 Q X) : ds.length = 3 ∧ wpSs G b (start 3 ds) S0 (kR Q X) := by
  obtain ⟨a, c, x, y, p, q, k, rfl, o, bl, bk, hq⟩ := h
  subst hb
  refine ⟨rfl, ?_⟩
  simp only [wpSs, wpS, wpE, wpEs, wpC, wpAnd, wpOr, wpO, wpIt, opt_some, onI_int, onB_bl, onR_ref, arg1_one, look, joinO, start, List.map_cons, List.map_nil, List.length_cons, List.length_nil, List.replicate, List.cons_append, List.nil_append, List.append_nil, List.getElem?_cons_succ, List.getElem?_cons_zero, kcD, Nat.reduceAdd, Nat.reduceSub, br_t, br_f, br_n, asg, setAll, List.set_cons_succ, List.set_cons_zero, tgs, wipe, eq_ii, ne_ii, lt_ii, le_ii, gt_ii, ge_ii, is_n, isn_n, is_b, isn_b, add_ii, sub_ii, mul_ii, mod_ii, fdiv_ii, pow_ii, isNon, biD, intD_i, intD_b, esLen, beq_self_eq_true, ixD_tup, lsOf_new, seqD_tup, seqD_fl, slD_tup, bools, Option.map_some, true_and, ixD_fl, lenD_tup, lenD_fl, ix30, ix31, ix32, at20, at21, at30, at31, at32, List.filterMap_cons, List.filterMap_nil]
  refine call h9 ⟨a, c, _, rfl, o.a0, o.c0, vl_sh, roll_ok o, fun S1 k1 => ?_⟩
  refine call h0 ⟨.int k, some 0, none, rfl, trivial, ?_⟩
  have e : intB (.int (k : Int)) (some 0) none = true := by simp [intB]
  simp only [wpSs, wpS, wpE, wpEs, wpC, wpAnd, wpOr, wpO, wpIt, opt_some, onI_int, onB_bl, onR_ref, arg1_one, look, joinO, start, List.map_cons, List.map_nil, List.length_cons, List.length_nil, List.replicate, List.cons_append, List.nil_append, List.append_nil, List.getElem?_cons_succ, List.getElem?_cons_zero, kcD, Nat.reduceAdd, Nat.reduceSub, br_t, br_f, br_n, asg, setAll, List.set_cons_succ, List.set_cons_zero, tgs, wipe, eq_ii, ne_ii, lt_ii, le_ii, gt_ii, ge_ii, is_n, isn_n, is_b, isn_b, add_ii, sub_ii, mul_ii, mod_ii, fdiv_ii, pow_ii, isNon, biD, intD_i, intD_b, esLen, beq_self_eq_true, ixD_tup, lsOf_new, seqD_tup, seqD_fl, slD_tup, bools, Option.map_some, true_and, ixD_fl, lenD_tup, lenD_fl, ix30, ix31, ix32, at20, at21, at30, at31, at32, List.filterMap_cons, List.filterMap_nil, e]
  exact call h25 ⟨a, c, x, y, p, q, k, rfl, o, bl, bk, hq _ k1⟩
end M
namespace M
def cntW (L : Ln) (k : Nat) (ch : Nat) : Nat := ((List.range k).filter fun j => (wordT L (sts L j)).contains ch).length
theorem cntW_succ {L : Ln} {k ch : Nat} : ((cntW L (k + 1) ch : Nat) : Int) = cntW L k ch + (if (wordT L (sts L k)).contains ch then 1 else 0) := by
  unfold cntW
  rw [List.range_succ, List.filter_append, List.length_append]
  by_cases h : (wordT L (sts L k)).contains ch = true
  · rw [if_pos h]
    have : ([k].filter fun j => (wordT L (sts L j)).contains ch) = [k] := by simp only [List.filter_cons, h, if_true, List.filter_nil]
    rw [this]; simp
  · rw [if_neg h]
    have : ([k].filter fun j => (wordT L (sts L j)).contains ch) = [] := by simp only [List.filter_cons, h, Bool.false_eq_true, if_false, List.filter_nil]
    rw [this]; simp
theorem lc_succ {n f : Int} {e : Bool} (h : 0 ≤ n) : lc (n + 1) f e = lc n f e + (if ((f + n) % 2 = 0) = (e = true) then 1 else 0) := by
  unfold lc
  rw [if_neg (show ¬ n + 1 = 0 by omega)]
  cases e <;> simp <;> (split <;> split <;> (try split) <;> omega)
/-- what letters a word has -/
theorem word_has {L : Ln} {s : St2} : ((wordT L s).contains 87 = (hit1 L s && !decide (0 < dr L.x L.p L.a s.n))) ∧ ((wordT L s).contains 69 = (hit1 L s && decide (0 < dr L.x L.p L.a s.n))) ∧ ((wordT L s).contains 83 = (hit2 L s && !decide (0 < dr L.y L.q L.c s.m))) ∧ ((wordT L s).contains 78 = (hit2 L s && decide (0 < dr L.y L.q L.c s.m))) := by
  unfold wordT l1 l2
  cases hit1 L s <;> cases hit2 L s <;> by_cases h1 : 0 < dr L.x L.p L.a s.n <;> by_cases h2 : 0 < dr L.y L.q L.c s.m <;> simp [h1, h2]
theorem cnt_line {L : Ln} (o : OkL L) (k : Nat) : (cntW L k 87 : Int) = lc (sts L k).n (fst L.p L.x L.a) true ∧ (cntW L k 69 : Int) = lc (sts L k).n (fst L.p L.x L.a) false ∧ (cntW L k 83 : Int) = lc (sts L k).m (fst L.q L.y L.c) true ∧ (cntW L k 78 : Int) = lc (sts L k).m (fst L.q L.y L.c) false := by
  induction k with
  | zero => exact ⟨rfl, rfl, rfl, rfl⟩
  | succ k ih =>
    obtain ⟨i1, i2, i3, i4⟩ := ih
    obtain ⟨w1', w2', w3, w4⟩ := word_has (L := L) (s := sts L k)
    have I := st_inv o k
    have en : (sts L (k + 1)).n = if hit1 L (sts L k) then (sts L k).n + 1 else (sts L k).n := rfl
    have em : (sts L (k + 1)).m = if hit2 L (sts L k) then (sts L k).m + 1 else (sts L k).m := rfl
    rw [cntW_succ, cntW_succ, cntW_succ, cntW_succ, w1', w2', w3, w4, i1, i2, i3, i4, en, em]
    refine ⟨?_, ?_, ?_, ?_⟩
    · by_cases h : hit1 L (sts L k) = true
      · have hp : L.p ≠ 0 := by unfold hit1 at h; exact (of_decide_eq_true h).1
        have d := dr_par (x := L.x) (s := L.a) (n := (sts L k).n) hp
        rw [h, if_pos rfl, lc_succ I.i1.n0]
        by_cases z : 0 < dr L.x L.p L.a (sts L k).n
        · have z' := d.mp z; simp [z, z']
        · have z' : (fst L.p L.x L.a + (sts L k).n) % 2 = 0 := Decidable.byContradiction fun y => z (d.mpr y)
          simp [z, z']
      · rw [Bool.eq_false_iff.mpr h]; simp
    · by_cases h : hit1 L (sts L k) = true
      · have hp : L.p ≠ 0 := by unfold hit1 at h; exact (of_decide_eq_true h).1
        have d := dr_par (x := L.x) (s := L.a) (n := (sts L k).n) hp
        rw [h, if_pos rfl, lc_succ I.i1.n0]
        by_cases z : 0 < dr L.x L.p L.a (sts L k).n
        · have z' := d.mp z; simp [z, z']
        · have z' : (fst L.p L.x L.a + (sts L k).n) % 2 = 0 := Decidable.byContradiction fun y => z (d.mpr y)
          simp [z, z']
      · rw [Bool.eq_false_iff.mpr h]; simp
    · by_cases h : hit2 L (sts L k) = true
      · have hp : L.q ≠ 0 := by unfold hit2 at h; exact (of_decide_eq_true h).1
        have d := dr_par (x := L.y) (s := L.c) (n := (sts L k).m) hp
        rw [h, if_pos rfl, lc_succ I.i2.n0]
        by_cases z : 0 < dr L.y L.q L.c (sts L k).m
        · have z' := d.mp z; simp [z, z']
        · have z' : (fst L.q L.y L.c + (sts L k).m) % 2 = 0 := Decidable.byContradiction fun y => z (d.mpr y)
          simp [z, z']
      · rw [Bool.eq_false_iff.mpr h]; simp
    · by_cases h : hit2 L (sts L k) = true
      · have hp : L.q ≠ 0 := by unfold hit2 at h; exact (of_decide_eq_true h).1
        have d := dr_par (x := L.y) (s := L.c) (n := (sts L k).m) hp
        rw [h, if_pos rfl, lc_succ I.i2.n0]
        by_cases z : 0 < dr L.y L.q L.c (sts L k).m
        · have z' := d.mp z; simp [z, z']
        · have z' : (fst L.q L.y L.c + (sts L k).m) % 2 = 0 := Decidable.byContradiction fun y => z (d.mpr y)
          simp [z, z']
      · rw [Bool.eq_false_iff.mpr h]; simp
theorem cu_at {L : Ln} (o : OkL L) {k : Nat} {t b : Int} (h : At L k t b ∨ (k = 0 ∧ t ≤ 0)) {ch : Nat} (hc : isL ch) : cuN L.a L.c L.x L.y L.p L.q t b ch = cntW L k ch := by
  obtain ⟨e1, e2⟩ := nn_at o h
  obtain ⟨i1, i2, i3, i4⟩ := cnt_line o k
  unfold cuN
  rw [e1, e2]
  rcases hc with rfl | rfl | rfl | rfl
  · exact i1.symm
  · exact i2.symm
  · exact i3.symm
  · exact i4.symm
/-- times go up -/
theorem t_mono {L : Ln} (o : OkL L) {i : Nat} : ∀ d : Nat, (sts L i).t * (sts L (i + d)).b ≤ (sts L (i + d)).t * (sts L i).b
  | 0 => Int.le_refl _
  | d + 1 => by
    have h := t_mono o (i := i) d
    have I := st_inv o i
    have I1 := st_inv o (i + d)
    have I2 := st_inv o (i + d + 1)
    have h2 := (st_next o I1).2
    have h2 : (sts L (i + d)).t * (sts L (i + d + 1)).b < (sts L (i + d + 1)).t * (sts L (i + d)).b := h2
    show (sts L i).t * (sts L (i + d + 1)).b ≤ (sts L (i + d + 1)).t * (sts L i).b
    have x1 := Int.mul_le_mul_of_nonneg_right h (Int.le_of_lt I2.b0)
    have x2 := Int.mul_le_mul_of_nonneg_right (Int.le_of_lt h2) (Int.le_of_lt I.b0)
    have x3 : (sts L i).t * (sts L (i + d + 1)).b * (sts L (i + d)).b ≤ (sts L (i + d + 1)).t * (sts L i).b * (sts L (i + d)).b := by
      have e1 : (sts L i).t * (sts L (i + d + 1)).b * (sts L (i + d)).b = (sts L i).t * (sts L (i + d)).b * (sts L (i + d + 1)).b := by grind
      have e2 : (sts L (i + d)).t * (sts L i).b * (sts L (i + d + 1)).b = (sts L (i + d)).t * (sts L (i + d + 1)).b * (sts L i).b := by grind
      have e3 : (sts L (i + d + 1)).t * (sts L i).b * (sts L (i + d)).b = (sts L (i + d + 1)).t * (sts L (i + d)).b * (sts L i).b := by grind
      omega
    exact Int.le_of_mul_le_mul_right x3 I1.b0
/-- each time from 0 on stands between two hits -/
theorem at_exists {L : Ln} {t b : Int} (ht : 0 ≤ t) (hb : 0 < b) : ∀ K : Nat, t * (sts L K).b < (sts L K).t * b → ∃ N, N < K ∧ At L N t b
  | 0, h => by
    have : t * 1 < 0 * b := h
    omega
  | K + 1, h => by
    rcases Int.lt_or_le (t * (sts L K).b) ((sts L K).t * b) with z | z
    · obtain ⟨N, h1, h2⟩ := at_exists ht hb K z
      exact ⟨N, by omega, h2⟩
    · exact ⟨K, by omega, hb, z, h⟩
theorem on_of {L : Ln} (o : OkL L) (bl : BL L) {t b : Int} (hf : partB (prD t b) = true) (hb : 0 < b) (bt : Bd 900 t) (bb : Bd 900 b) : On L.a L.c L.x L.y L.p L.q t b := by
  refine ⟨⟨o.a0, o.c0, hb, bl.ba.up (by decide), bl.bc.up (by decide), bl.bx.up (by decide), bl.by_.up (by decide), bl.bp.up (by decide), bl.bq.up (by decide), bt.up (by decide), bb.up (by decide)⟩, ?_, hf⟩
  show ((decide (0 ≤ L.x) && decide (0 ≤ L.y) && !(L.p == 0 && L.q == 0)) && (decide (L.x ≤ L.a) && decide (L.y ≤ L.c))) = true
  have h1 : (L.p == 0 && L.q == 0) = false := by
    rcases o.ne with h | h
    · rw [beq_eq_false_iff_ne.mpr h]; rfl
    · rw [beq_eq_false_iff_ne.mpr h, Bool.and_false]
  rw [h1, decide_eq_true o.x0, decide_eq_true o.y0, decide_eq_true o.x1, decide_eq_true o.y1]
  rfl
end M
namespace M
theorem at_all {L : Ln} (o : OkL L) {t b : Int} (ht : 0 ≤ t) (hb : 0 < b) : ∃ N, At L N t b := by
  by_cases hp : L.p = 0
  · have hq : L.q ≠ 0 := o.ne.resolve_left fun z => z hp
    have pq := av_pos hq
    have hm : ∀ j, hit1 L (sts L j) = false := fun j => by unfold hit1; rw [decide_eq_false_iff_not]; exact fun z => z.1 hp
    have n0 : 0 ≤ av L.q * t := Int.mul_nonneg (Int.le_of_lt pq) ht
    obtain ⟨i, hi⟩ : ∃ i : Nat, (i : Int) = av L.q * t := ⟨(av L.q * t).toNat, by omega⟩
    obtain ⟨t1, b1⟩ := st_hit2 (hm (i + 1))
    have em := m_on (L := L) o (i := 0) (i + 1) (by rw [st_zero1 hp, st_zero1 hp])
    rw [Nat.zero_add] at em
    have e0 : (sts L 0).m = 0 := rfl
    rw [em, e0] at t1
    obtain ⟨N, _, hN⟩ := at_exists (L := L) ht hb (i + 1 + 1) (by
      rw [t1, b1]
      have l := lo_in (x := L.y) (d := L.q) o.c0
      have c0 := o.c0
      have e3 : (0 : Int) + ((i + 1 : Nat) : Int) + 1 = av L.q * t + 2 := by omega
      rw [e3]
      have g : av L.q * t + 1 ≤ (av L.q * t + 2) * L.c - lo L.y L.q L.c := by
        have h1 : (av L.q * t + 1) * 1 ≤ (av L.q * t + 1) * L.c := Int.mul_le_mul_of_nonneg_left (by omega) (by omega)
        have e : (av L.q * t + 2) * L.c = (av L.q * t + 1) * L.c + L.c := by grind
        omega
      have h2 := Int.mul_le_mul_of_nonneg_right g (Int.le_of_lt hb)
      have h3 : (av L.q * t + 1) * 1 ≤ (av L.q * t + 1) * b := Int.mul_le_mul_of_nonneg_left (by omega) (by omega)
      rw [Int.mul_comm t]
      omega)
    exact ⟨N, hN⟩
  · have pp := av_pos hp
    have n0 : 0 ≤ av L.p * t := Int.mul_nonneg (Int.le_of_lt pp) ht
    obtain ⟨j, h1, h2⟩ := reach1 o hp (l := av L.p * t + 2) (by omega)
    obtain ⟨t1, b1⟩ := st_hit1 h1
    rw [h2] at t1
    obtain ⟨N, _, hN⟩ := at_exists (L := L) ht hb (j + 1) (by
      rw [t1, b1]
      have l := lo_in (x := L.x) (d := L.p) o.a0
      have a0 := o.a0
      have g : av L.p * t + 1 ≤ (av L.p * t + 2) * L.a - lo L.x L.p L.a := by
        have h1 : (av L.p * t + 1) * 1 ≤ (av L.p * t + 1) * L.a := Int.mul_le_mul_of_nonneg_left (by omega) (by omega)
        have e : (av L.p * t + 2) * L.a = (av L.p * t + 1) * L.a + L.a := by grind
        omega
      have h2 := Int.mul_le_mul_of_nonneg_right g (Int.le_of_lt hb)
      have h3 : (av L.p * t + 1) * 1 ≤ (av L.p * t + 1) * b := Int.mul_le_mul_of_nonneg_left (by omega) (by omega)
      rw [Int.mul_comm t]
      omega)
    exact ⟨N, hN⟩
/-! ### at a hit the ball is at the cushions of the word -/
theorem mk_edge {x d s n t b : Int} (hd : d ≠ 0) (hs : 0 < s) (hb : 0 < b) (I : LI x d s n t b) {H : Bool} (hH : ((av d * t + lo x d s * b) % (s * b) = 0) ↔ H = true) :
    (mkN x d s n t b = 0 ↔ H = true ∧ ¬ 0 < dr x d s (n - 1)) ∧ (mkN x d s n t b = s * b ↔ H = true ∧ 0 < dr x d s (n - 1)) := by
  have p := mulp hs hb
  have h1 := I.lw hd
  have h2 := I.hi hd
  have e : (n + 1) * (s * b) = n * (s * b) + s * b := by grind
  have em : (av d * t + lo x d s * b) % (s * b) = av d * t + lo x d s * b - n * (s * b) := by
    have : av d * t + lo x d s * b = (av d * t + lo x d s * b - n * (s * b)) + (s * b) * n := by grind
    rw [this, Int.add_mul_emod_self_left, Int.emod_eq_of_lt (by omega) (by omega)]
    grind
  rw [em] at hH
  unfold mkN
  rw [if_neg hd, dr_pos hd, e]
  by_cases z : (n + lq x d s) % 2 = 0
  · rw [if_pos z]
    have z' : ¬ (n - 1 + lq x d s) % 2 = 0 := by omega
    rw [← hH]
    constructor <;> constructor
    · intro h; exact ⟨h, z'⟩
    · intro h; exact h.1
    · intro h; omega
    · intro h; exact absurd h.2 z'
  · rw [if_neg z]
    have z' : (n - 1 + lq x d s) % 2 = 0 := by omega
    rw [← hH]
    constructor <;> constructor
    · intro h; omega
    · intro h; exact absurd z' h.2
    · intro h; exact ⟨by omega, z'⟩
    · intro h; omega
theorem low_edge {M b e : Int} (hb : 0 < b) : low M b = prD e 1 ↔ M = e * b := by
  have : prD e 1 = low e 1 := low_one.symm
  rw [this, low_iff hb (by decide)]
  constructor <;> intro h <;> omega
/-- which edge of a line the ball is at, at the k-th hit -/
theorem edge1 {L : Ln} (o : OkL L) (k : Nat) (hp : L.p ≠ 0) : (low (mk1 L (sts L (k + 1))) (sts L (k + 1)).b = prD 0 1 ↔ hit1 L (sts L k) = true ∧ ¬ 0 < dr L.x L.p L.a (sts L k).n) ∧ (low (mk1 L (sts L (k + 1))) (sts L (k + 1)).b = prD L.a 1 ↔ hit1 L (sts L k) = true ∧ 0 < dr L.x L.p L.a (sts L k).n) := by
  have I := st_inv o (k + 1)
  have h := isat1 o (k := k) I.b0 (m := (sts L (k + 1)).t) rfl
  have hH : ((av L.p * (sts L (k + 1)).t + lo L.x L.p L.a * (sts L (k + 1)).b) % (L.a * (sts L (k + 1)).b) = 0) ↔ hit1 L (sts L k) = true := by
    rw [← h]
    unfold isAt
    rw [decide_eq_true_iff]
    exact ⟨fun z => ⟨hp, z⟩, fun z => z.2⟩
  obtain ⟨e1, e2⟩ := mk_edge hp o.a0 I.b0 I.i1 hH
  rw [low_edge I.b0, low_edge I.b0, Int.zero_mul]
  have en : hit1 L (sts L k) = true → (sts L (k + 1)).n - 1 = (sts L k).n := fun z => by rw [n_hit z]; omega
  constructor
  · exact ⟨fun z => by obtain ⟨h1, h2⟩ := e1.mp z; rw [en h1] at h2; exact ⟨h1, h2⟩, fun z => e1.mpr ⟨z.1, by rw [en z.1]; exact z.2⟩⟩
  · exact ⟨fun z => by obtain ⟨h1, h2⟩ := e2.mp z; rw [en h1] at h2; exact ⟨h1, h2⟩, fun z => e2.mpr ⟨z.1, by rw [en z.1]; exact z.2⟩⟩
theorem m_hit {L : Ln} {i : Nat} (h : hit2 L (sts L i) = true) : (sts L (i + 1)).m = (sts L i).m + 1 := by
  show (if hit2 L (sts L i) then (sts L i).m + 1 else (sts L i).m) = _
  rw [h]; rfl
theorem edge2 {L : Ln} (o : OkL L) (k : Nat) (hq : L.q ≠ 0) : (low (mk2 L (sts L (k + 1))) (sts L (k + 1)).b = prD 0 1 ↔ hit2 L (sts L k) = true ∧ ¬ 0 < dr L.y L.q L.c (sts L k).m) ∧ (low (mk2 L (sts L (k + 1))) (sts L (k + 1)).b = prD L.c 1 ↔ hit2 L (sts L k) = true ∧ 0 < dr L.y L.q L.c (sts L k).m) := by
  have I := st_inv o (k + 1)
  have h := isat2 o (k := k) I.b0 (m := (sts L (k + 1)).t) rfl
  have hH : ((av L.q * (sts L (k + 1)).t + lo L.y L.q L.c * (sts L (k + 1)).b) % (L.c * (sts L (k + 1)).b) = 0) ↔ hit2 L (sts L k) = true := by
    rw [← h]
    unfold isAt
    rw [decide_eq_true_iff]
    exact ⟨fun z => ⟨hq, z⟩, fun z => z.2⟩
  obtain ⟨e1, e2⟩ := mk_edge hq o.c0 I.b0 I.i2 hH
  rw [low_edge I.b0, low_edge I.b0, Int.zero_mul]
  have en : hit2 L (sts L k) = true → (sts L (k + 1)).m - 1 = (sts L k).m := fun z => by rw [m_hit z]; omega
  constructor
  · exact ⟨fun z => by obtain ⟨h1, h2⟩ := e1.mp z; rw [en h1] at h2; exact ⟨h1, h2⟩, fun z => e1.mpr ⟨z.1, by rw [en z.1]; exact z.2⟩⟩
  · exact ⟨fun z => by obtain ⟨h1, h2⟩ := e2.mp z; rw [en h1] at h2; exact ⟨h1, h2⟩, fun z => e2.mpr ⟨z.1, by rw [en z.1]; exact z.2⟩⟩
/-- the way behind a hit -/
theorem dr_hit1 {L : Ln} {k : Nat} : dr L.x L.p L.a (sts L (k + 1)).n = if hit1 L (sts L k) = true then -dr L.x L.p L.a (sts L k).n else dr L.x L.p L.a (sts L k).n := by
  show dr L.x L.p L.a (if hit1 L (sts L k) then (sts L k).n + 1 else (sts L k).n) = _
  by_cases h : hit1 L (sts L k) = true
  · rw [if_pos h, if_pos h, dr_next]
  · rw [if_neg h, if_neg h]
theorem dr_hit2 {L : Ln} {k : Nat} : dr L.y L.q L.c (sts L (k + 1)).m = if hit2 L (sts L k) = true then -dr L.y L.q L.c (sts L k).m else dr L.y L.q L.c (sts L k).m := by
  show dr L.y L.q L.c (if hit2 L (sts L k) then (sts L k).m + 1 else (sts L k).m) = _
  by_cases h : hit2 L (sts L k) = true
  · rw [if_pos h, if_pos h, dr_next]
  · rw [if_neg h, if_neg h]
/-! ### counts -/
theorem lc_sum {n f : Int} (h : 0 ≤ n) : lc n f true + lc n f false = n := by
  unfold lc
  by_cases z : n = 0
  · rw [if_pos z, if_pos z]; omega
  · rw [if_neg z, if_neg z]
    by_cases y : f % 2 = 0 <;> simp [y] <;> omega
theorem parts_sum {L : Ln} (o : OkL L) (k : Nat) : (cntW L k 87 : Int) + (cntW L k 69 + (cntW L k 83 + (cntW L k 78 + 0))) = k + zc L k := by
  obtain ⟨i1, i2, i3, i4⟩ := cnt_line o k
  have I := st_inv o k
  rw [i1, i2, i3, i4]
  have e1 := lc_sum (f := fst L.p L.x L.a) I.i1.n0
  have e2 := lc_sum (f := fst L.q L.y L.c) I.i2.n0
  have := st_sum o k
  omega
def isTwo : D → Bool
  | .str w => w.length == 2
  | _ => false
def words (L : Ln) (far : Nat) : List D := (List.range far).map fun j => .str (wordT L (sts L j))
theorem word_two {L : Ln} {s : St2} : (wordT L s).length = 2 ↔ both L s = true := by
  unfold wordT both
  cases hit1 L s <;> cases hit2 L s <;> simp
theorem zc_words {L : Ln} : ∀ k : Nat, (((words L k).filter isTwo).length : Int) = zc L k
  | 0 => rfl
  | k + 1 => by
    have e : words L (k + 1) = words L k ++ [.str (wordT L (sts L k))] := by
      unfold words
      rw [List.range_succ, List.map_append]; rfl
    have h := zc_words (L := L) k
    rw [e, List.filter_append, List.length_append]
    have ez : zc L (k + 1) = zc L k + if both L (sts L k) = true then 1 else 0 := rfl
    rw [ez, ← h]
    have w := word_two (L := L) (s := sts L k)
    by_cases z : both L (sts L k) = true
    · have z2 : isTwo (.str (wordT L (sts L k))) = true := by show ((wordT L (sts L k)).length == 2) = true; rw [w.mpr z]; rfl
      rw [if_pos z, List.filter_cons, if_pos z2]; simp
    · have z2 : ¬ isTwo (.str (wordT L (sts L k))) = true := by
        show ¬ ((wordT L (sts L k)).length == 2) = true
        intro y
        exact z (w.mp (by simpa using y))
      rw [if_neg z, List.filter_cons, if_neg z2]; simp
theorem zc_le {L : Ln} : ∀ k : Nat, zc L k ≤ k
  | 0 => by show (0 : Int) ≤ 0; decide
  | k + 1 => by
    have h := zc_le (L := L) k
    show zc L k + (if both L (sts L k) = true then 1 else 0) ≤ ((k + 1 : Nat) : Int)
    split <;> omega
end M
namespace M
/-! ### the shot at a whole time -/
theorem new_pos {u s v : Int} (hv : 0 < v) (u0 : 0 ≤ u) (u1 : u < s) : lo u v s = u ∧ lq u v s = 0 := by
  unfold lo lq sg
  rw [if_pos hv, Int.emod_eq_of_lt u0 u1, Int.ediv_eq_zero_of_lt u0 u1]
  exact ⟨rfl, rfl⟩
theorem new_neg {u s v : Int} (hv : 0 < v) (u0 : 0 ≤ u) (u1 : u < s) : lo (s - u) (-v) s = u ∧ lq (s - u) (-v) s = -1 := by
  unfold lo lq sg
  rw [if_neg (show ¬ 0 < -v by omega)]
  have e2 : -(s - u) = u + s * (-1) := by grind
  rw [e2, Int.add_mul_emod_self_left, Int.emod_eq_of_lt u0 u1, Int.add_mul_ediv_left _ _ (by omega), Int.ediv_eq_zero_of_lt u0 u1]
  exact ⟨rfl, rfl⟩
/-- a line begun anew at the time w, behind n hits -/
theorem anew {x d s n w : Int} (hs : 0 < s) (hd : d ≠ 0) (I : LI x d s n w 1) : lo (mkN x d s n w 1) (dr x d s n) s = av d * w + lo x d s - n * s ∧ (lq (mkN x d s n w 1) (dr x d s n) s) % 2 = (n + lq x d s) % 2 := by
  have h1 := I.lw hd
  have h2 := I.hi hd
  have vp := av_pos hd
  simp only [Int.mul_one] at h1 h2
  have e : (n + 1) * s = n * s + s := by grind
  have em : mkN x d s n w 1 = if (n + lq x d s) % 2 = 0 then av d * w + lo x d s - n * s else s - (av d * w + lo x d s - n * s) := by
    unfold mkN
    rw [if_neg hd]
    split
    · rw [Int.mul_one, Int.mul_one]
    · rw [Int.mul_one, Int.mul_one]; omega
  generalize hu : av d * w + lo x d s - n * s = u at *
  have u0 : 0 ≤ u := by omega
  have u1 : u < s := by omega
  rw [em]
  unfold dr
  by_cases z : (n + lq x d s) % 2 = 0
  · rw [if_pos z, if_pos z, (new_pos vp u0 u1).1, (new_pos vp u0 u1).2]
    exact ⟨rfl, by rw [z]; rfl⟩
  · rw [if_neg z, if_neg z, (new_neg vp u0 u1).1, (new_neg vp u0 u1).2]
    exact ⟨rfl, by omega⟩
def later (L : Ln) (N : Nat) (w : Int) : Ln := ⟨L.a, L.c, mkN L.x L.p L.a (sts L N).n w 1, mkN L.y L.q L.c (sts L N).m w 1, dr L.x L.p L.a (sts L N).n, dr L.y L.q L.c (sts L N).m⟩
theorem av_dr {x d s n : Int} : av (dr x d s n) = av d := dr_abs
theorem later_ok {L : Ln} (o : OkL L) {N : Nat} {w : Int} (h : At L N w 1) : OkL (later L N w) := by
  have k1 := mk_in (n := (sts L N).n) (t := w) o.x0 o.x1 (show (0 : Int) < 1 by decide) o.a0 (li_at1 o h)
  have k2 := mk_in (n := (sts L N).m) (t := w) o.y0 o.y1 (show (0 : Int) < 1 by decide) o.c0 (li_at2 o h)
  rw [Int.mul_one] at k1 k2
  refine ⟨o.a0, o.c0, k1.1, k1.2, k2.1, k2.2, ?_⟩
  rcases o.ne with hp | hq
  · exact .inl fun z => hp (dr_zero.mp z)
  · exact .inr fun z => hq (dr_zero.mp z)
theorem later_bl {L : Ln} (o : OkL L) (bl : BL L) {N : Nat} {w : Int} (h : At L N w 1) : BL (later L N w) := by
  have k1 := mk_in (n := (sts L N).n) (t := w) o.x0 o.x1 (show (0 : Int) < 1 by decide) o.a0 (li_at1 o h)
  have k2 := mk_in (n := (sts L N).m) (t := w) o.y0 o.y1 (show (0 : Int) < 1 by decide) o.c0 (li_at2 o h)
  rw [Int.mul_one] at k1 k2
  have bdr : ∀ {x d s n : Int}, Bd 200 d → Bd 200 (dr x d s n) := fun h => by
    unfold dr
    split
    · exact av_bd h
    · exact (av_bd h).neg'
  exact ⟨bl.ba, bl.bc, bl.ba.le k1.1 k1.2, bl.bc.le k2.1 k2.2, bdr bl.bp, bdr bl.bq⟩
/-- what is the same line by line -/
structure Lt (x d s n w x' d' : Int) : Prop where
  v : av d' = av d
  z : d' = 0 ↔ d = 0
  l : d ≠ 0 → lo x' d' s = av d * w + lo x d s - n * s
  q : d ≠ 0 → (lq x' d' s) % 2 = (n + lq x d s) % 2
  p : d = 0 → x' = x
theorem lt_of {x d s n w : Int} (hs : 0 < s) (I : LI x d s n w 1) : Lt x d s n w (mkN x d s n w 1) (dr x d s n) :=
  ⟨av_dr, dr_zero, fun h => (anew hs h I).1, fun h => (anew hs h I).2, fun h => by unfold mkN; rw [if_pos h, Int.mul_one]⟩
theorem Lt.w {x d s n w x' d' : Int} (h : Lt x d s n w x' d') (hd : d ≠ 0) {i : Int} : wN x' d' s i = wN x d s (n + i) - av d * w := by
  unfold wN
  rw [h.l hd]
  grind
theorem Lt.dr {x d s n w x' d' : Int} (h : Lt x d s n w x' d') (hd : d ≠ 0) {i : Int} : dr x' d' s i = M.dr x d s (n + i) := by
  unfold M.dr
  have := h.q hd
  rw [h.v]
  by_cases z : (i + lq x' d' s) % 2 = 0
  · rw [if_pos z, if_pos (by omega)]
  · rw [if_neg z, if_neg (by omega)]
theorem Lt.dr' {x d s n w x' d' : Int} (h : Lt x d s n w x' d') {i : Int} : M.dr x' d' s i = M.dr x d s (n + i) := by
  by_cases hd : d = 0
  · rw [dr_zero.mpr hd, dr_zero.mpr (h.z.mpr hd)]
  · exact h.dr hd
theorem Lt.mkp {x d s n w x' d' : Int} (h : Lt x d s n w x' d') {i t b : Int} : mkN x' d' s i (t - w * b) b = mkN x d s (n + i) t b := by
  unfold mkN
  by_cases hd : d = 0
  · rw [if_pos hd, if_pos (h.z.mpr hd), h.p hd]
  · have := h.q hd
    rw [if_neg hd, if_neg (fun z => hd (h.z.mp z)), h.v, h.l hd]
    by_cases z : (i + lq x' d' s) % 2 = 0
    · rw [if_pos z, if_pos (by omega)]; grind
    · rw [if_neg z, if_neg (by omega)]; grind
section
variable {L : Ln} {N : Nat} {w : Int}
theorem lt1 (o : OkL L) (h : At L N w 1) : Lt L.x L.p L.a (sts L N).n w (later L N w).x (later L N w).p := lt_of o.a0 (li_at1 o h)
theorem lt2 (o : OkL L) (h : At L N w 1) : Lt L.y L.q L.c (sts L N).m w (later L N w).y (later L N w).q := lt_of o.c0 (li_at2 o h)
/-- the hits are alike where the counts are -/
theorem later_hit (o : OkL L) (h : At L N w 1) {s' s : St2} (e1 : s.n = (sts L N).n + s'.n) (e2 : s.m = (sts L N).m + s'.m) : hit1 (later L N w) s' = hit1 L s ∧ hit2 (later L N w) s' = hit2 L s := by
  have l1 := lt1 o h
  have l2 := lt2 o h
  have z1 := l1.z
  have z2 := l2.z
  have x1 : L.p ≠ 0 → w1 (later L N w) s' = w1 L s - av L.p * w := fun hp => by
    show wN (later L N w).x (later L N w).p L.a s'.n = _
    rw [l1.w hp, ← e1]; rfl
  have x2 : L.q ≠ 0 → w2 (later L N w) s' = w2 L s - av L.q * w := fun hp => by
    show wN (later L N w).y (later L N w).q L.c s'.m = _
    rw [l2.w hp, ← e2]; rfl
  have cmp : L.p ≠ 0 → L.q ≠ 0 → (w1 (later L N w) s' * av (later L N w).q = w1 L s * av L.q - av L.p * w * av L.q ∧ w2 (later L N w) s' * av (later L N w).p = w2 L s * av L.p - av L.p * w * av L.q) := fun hp hq => by
    rw [x1 hp, x2 hq, l1.v, l2.v]
    constructor <;> grind
  unfold hit1 hit2
  constructor
  · apply decide_eq_decide.mpr
    by_cases hp : L.p = 0
    · exact ⟨fun y => absurd (z1.mpr hp) y.1, fun y => absurd hp y.1⟩
    · by_cases hq : L.q = 0
      · exact ⟨fun _ => ⟨hp, .inl hq⟩, fun _ => ⟨fun y => hp (z1.mp y), .inl (z2.mpr hq)⟩⟩
      · obtain ⟨c1, c2⟩ := cmp hp hq
        rw [c1, c2]
        constructor
        · rintro ⟨_, y⟩; exact ⟨hp, .inr (by rcases y with y | y; exact absurd (z2.mp y) hq; omega)⟩
        · rintro ⟨_, y⟩; exact ⟨fun y => hp (z1.mp y), .inr (by rcases y with y | y; exact absurd y hq; omega)⟩
  · apply decide_eq_decide.mpr
    by_cases hq : L.q = 0
    · exact ⟨fun y => absurd (z2.mpr hq) y.1, fun y => absurd hq y.1⟩
    · by_cases hp : L.p = 0
      · exact ⟨fun _ => ⟨hq, .inl hp⟩, fun _ => ⟨fun y => hq (z2.mp y), .inl (z1.mpr hp)⟩⟩
      · obtain ⟨c1, c2⟩ := cmp hp hq
        rw [c1, c2]
        constructor
        · rintro ⟨_, y⟩; exact ⟨hq, .inr (by rcases y with y | y; exact absurd (z1.mp y) hp; omega)⟩
        · rintro ⟨_, y⟩; exact ⟨fun y => hq (z2.mp y), .inr (by rcases y with y | y; exact absurd y hp; omega)⟩
theorem later_cnt (o : OkL L) (h : At L N w 1) : ∀ j : Nat, (sts L (N + j)).n = (sts L N).n + (sts (later L N w) j).n ∧ (sts L (N + j)).m = (sts L N).m + (sts (later L N w) j).m
  | 0 => ⟨by rw [Nat.add_zero]; show _ = (sts L N).n + 0; omega, by rw [Nat.add_zero]; show _ = (sts L N).m + 0; omega⟩
  | j + 1 => by
    obtain ⟨i1, i2⟩ := later_cnt o h j
    obtain ⟨h1, h2⟩ := later_hit o h i1 i2
    constructor
    · show (if hit1 L (sts L (N + j)) then (sts L (N + j)).n + 1 else (sts L (N + j)).n) = _ + (if hit1 (later L N w) (sts (later L N w) j) then (sts (later L N w) j).n + 1 else (sts (later L N w) j).n)
      rw [h1, i1]
      split <;> omega
    · show (if hit2 L (sts L (N + j)) then (sts L (N + j)).m + 1 else (sts L (N + j)).m) = _ + (if hit2 (later L N w) (sts (later L N w) j) then (sts (later L N w) j).m + 1 else (sts (later L N w) j).m)
      rw [h2, i2]
      split <;> omega
/-- a hit of the later shot -/
theorem later_st (o : OkL L) (h : At L N w 1) (j : Nat) : (sts (later L N w) (j + 1)).b = (sts L (N + j + 1)).b ∧ (sts (later L N w) (j + 1)).t = (sts L (N + j + 1)).t - w * (sts L (N + j + 1)).b ∧ wordT (later L N w) (sts (later L N w) j) = wordT L (sts L (N + j)) ∧ mk1 (later L N w) (sts (later L N w) (j + 1)) = mk1 L (sts L (N + j + 1)) ∧ mk2 (later L N w) (sts (later L N w) (j + 1)) = mk2 L (sts L (N + j + 1)) := by
  have l1 := lt1 o h
  have l2 := lt2 o h
  obtain ⟨i1, i2⟩ := later_cnt o h j
  obtain ⟨i3, i4⟩ := later_cnt o h (j + 1)
  obtain ⟨h1, h2⟩ := later_hit o h i1 i2
  have word : wordT (later L N w) (sts (later L N w) j) = wordT L (sts L (N + j)) := by
    unfold wordT M.l1 M.l2
    rw [h1, h2]
    have d1 : dr (later L N w).x (later L N w).p (later L N w).a (sts (later L N w) j).n = dr L.x L.p L.a (sts L (N + j)).n := by rw [i1]; exact l1.dr'
    have d2 : dr (later L N w).y (later L N w).q (later L N w).c (sts (later L N w) j).m = dr L.y L.q L.c (sts L (N + j)).m := by rw [i2]; exact l2.dr'
    rw [d1, d2]
  have main : (sts (later L N w) (j + 1)).b = (sts L (N + j + 1)).b ∧ (sts (later L N w) (j + 1)).t = (sts L (N + j + 1)).t - w * (sts L (N + j + 1)).b := by
    cases hh : hit1 L (sts L (N + j))
    · have hh' : hit1 (later L N w) (sts (later L N w) j) = false := by rw [h1, hh]
      obtain ⟨t1, b1⟩ := st_hit2 hh
      obtain ⟨t2, b2⟩ := st_hit2 hh'
      have hq : L.q ≠ 0 := by
        rcases hit_some o (sts L (N + j)) with z | z
        · rw [hh] at z; cases z
        · unfold hit2 at z; exact (of_decide_eq_true z).1
      have e := l2.w hq (i := (sts (later L N w) j).m)
      rw [← i2] at e
      unfold wN at e
      refine ⟨by rw [b1, b2]; exact l2.v, ?_⟩
      rw [t2, t1, b1]
      have e : ((sts (later L N w) j).m + 1) * L.c - lo (later L N w).y (later L N w).q L.c = ((sts L (N + j)).m + 1) * L.c - lo L.y L.q L.c - av L.q * w := e
      show ((sts (later L N w) j).m + 1) * L.c - lo (later L N w).y (later L N w).q L.c = _
      rw [e, Int.mul_comm w]
    · have hh' : hit1 (later L N w) (sts (later L N w) j) = true := by rw [h1, hh]
      obtain ⟨t1, b1⟩ := st_hit1 hh
      obtain ⟨t2, b2⟩ := st_hit1 hh'
      have hp : L.p ≠ 0 := by unfold hit1 at hh; exact (of_decide_eq_true hh).1
      have e := l1.w hp (i := (sts (later L N w) j).n)
      rw [← i1] at e
      unfold wN at e
      refine ⟨by rw [b1, b2]; exact l1.v, ?_⟩
      rw [t2, t1, b1]
      have e : ((sts (later L N w) j).n + 1) * L.a - lo (later L N w).x (later L N w).p L.a = ((sts L (N + j)).n + 1) * L.a - lo L.x L.p L.a - av L.p * w := e
      show ((sts (later L N w) j).n + 1) * L.a - lo (later L N w).x (later L N w).p L.a = _
      rw [e, Int.mul_comm w]
  refine ⟨main.1, main.2, word, ?_, ?_⟩
  · show mkN (later L N w).x (later L N w).p L.a (sts (later L N w) (j + 1)).n (sts (later L N w) (j + 1)).t (sts (later L N w) (j + 1)).b = mkN L.x L.p L.a (sts L (N + (j + 1))).n (sts L (N + j + 1)).t (sts L (N + j + 1)).b
    rw [main.1, main.2, i3]
    exact l1.mkp
  · show mkN (later L N w).y (later L N w).q L.c (sts (later L N w) (j + 1)).m (sts (later L N w) (j + 1)).t (sts (later L N w) (j + 1)).b = mkN L.y L.q L.c (sts L (N + (j + 1))).m (sts L (N + j + 1)).t (sts L (N + j + 1)).b
    rw [main.1, main.2, i4]
    exact l2.mkp
/-- its hits up to w are those up to 2 * w, less those up to w -/
theorem later_at (o : OkL L) (hw : 0 ≤ w) (h : At L N w 1) {M : Nat} (hM : At (later L N w) M w 1) : At L (N + M) (2 * w) 1 := by
  obtain ⟨_, m1, m2⟩ := hM
  obtain ⟨_, n1, n2⟩ := id h
  obtain ⟨b2, t2, _⟩ := later_st o h M
  refine ⟨by decide, ?_, ?_⟩
  · cases M with
    | zero =>
      have b0 := (st_inv o N).b0
      have := Int.mul_nonneg hw (Int.le_of_lt b0)
      show (sts L N).t * 1 ≤ 2 * w * (sts L N).b
      have e : 2 * w * (sts L N).b = w * (sts L N).b + w * (sts L N).b := by grind
      omega
    | succ M =>
      obtain ⟨b1, t1, _⟩ := later_st o h M
      rw [b1, t1] at m1
      show (sts L (N + M + 1)).t * 1 ≤ 2 * w * (sts L (N + M + 1)).b
      have e : 2 * w * (sts L (N + M + 1)).b = w * (sts L (N + M + 1)).b + w * (sts L (N + M + 1)).b := by grind
      omega
  · rw [b2, t2] at m2
    have e : 2 * w * (sts L (N + M + 1)).b = w * (sts L (N + M + 1)).b + w * (sts L (N + M + 1)).b := by grind
    omega
/-- the number of hits is not great -/
theorem at_bd (o : OkL L) {t b : Int} (h : At L N t b) (ht : 0 ≤ t) : (N : Int) ≤ av L.p * t + 1 + (av L.q * t + 1) := by
  have s := st_sum o N
  have z := zc_nonneg (L := L) N
  have one : ∀ {x d s n : Int}, 0 < s → LI x d s n t b → (d = 0 → n = 0) → n ≤ av d * t + 1 := by
    intro x d s n hs I hz
    by_cases hd : d = 0
    · rw [hz hd]
      have : av d = 0 := by rw [hd]; rfl
      rw [this]; omega
    · have vp := av_pos hd
      have l := lo_in (x := x) (d := d) hs
      have h1 := I.lw hd
      have b0 := h.1
      have p := mulp hs b0
      have q := Int.mul_nonneg (Int.le_of_lt vp) ht
      rcases Int.lt_or_le (av d * t + 1) n with y | y
      · exfalso
        have y1 : av d * t + 2 ≤ n := by omega
        have y2 := Int.mul_le_mul_of_nonneg_right y1 (Int.le_of_lt p)
        have y3 : (av d * t + 2) * (s * b) = (av d * t + 1) * (s * b) + s * b := by grind
        have y4 : (av d * t + 1) * 1 ≤ (av d * t + 1) * (s * b) := Int.mul_le_mul_of_nonneg_left (by omega) (by omega)
        have y5 : lo x d s * b ≤ s * b := Int.mul_le_mul_of_nonneg_right (Int.le_of_lt l.2) (Int.le_of_lt b0)
        omega
      · exact y
  have e1 := one (n := (sts L N).n) o.a0 (li_at1 o h) fun z => st_zero1 z N
  have e2 := one (n := (sts L N).m) o.c0 (li_at2 o h) fun z => st_zero2 z N
  omega
end
end M
namespace M
theorem hits_at {G : Gm} (h18 : G.fn 34 = spHits) {L : Ln} (o : OkL L) {t b : Int} {k : Nat} {S : Sto} {Q : VK} {X : XK} (on : On L.a L.c L.x L.y L.p L.q t b) (h : At L k t b) (hq : ∀ S', Ext S S' → Q (.int k) S') : cl (G.fn 34) [prD L.a L.c, shD L.x L.y L.p L.q, prD t b] S Q X := by
  obtain ⟨z, hz, e⟩ := hit_at o (.inl h)
  refine call h18 ⟨L.a, L.c, L.x, L.y, L.p, L.q, t, b, rfl, on, fun z' S' x hz' => ?_⟩
  rw [cnr_uniq o.c0 hz' hz, ← e]
  exact hq S' x
theorem ways_at {L : Ln} (o : OkL L) {k : Nat} {t b : Int} (h : At L k t b) : waysD L.a L.c L.x L.y L.p L.q t b = prD (dr L.x L.p L.a (sts L k).n) (dr L.y L.q L.c (sts L k).m) := by
  unfold waysD
  rw [way_st o.a0 h.1 (li_at1 o h), way_st o.c0 h.1 (li_at2 o h)]
def spMid : Sp := fun ds S Q _ => ∃ a b c d, ds = [prD a b, prD c d] ∧ 0 < b ∧ 0 < d ∧ Bd 900 a ∧ Bd 900 b ∧ Bd 900 c ∧ Bd 900 d ∧ Q (low (a * d + c * b) (2 * b * d)) S
theorem txt_mid {G : Gm} {ds : List D} {S0 : Sto} {Q : VK} {X : XK} {b : Ss} (hb : b = (.cons (.set (.tup [2, 3]) (.v 0)) (.cons (.set (.tup [4, 5]) (.v 1)) (.cons (.ret (.call 46 (.cons (.bin .add (.bin .mul (.v 2) (.v 5)) (.bin .mul (.v 4) (.v 3))) (.cons (.bin .mul (.bin .mul (.k (.int 2)) (.v 3)) (.v 5)) .nil)))) .nil)))) (h46 : G.fn 46 = spLow) (h : spMid ds S0 Q X) : ds.length = 2 ∧ wpSs G b (start 6 ds) S0 (kR Q X) := by
  obtain ⟨a, b2, c, d, rfl, b0, d0, ba, bb, bc, bd, hq⟩ := h
  subst hb
  refine ⟨rfl, ?_⟩
  simp only [wpSs, wpS, wpE, wpEs, wpC, wpAnd, wpOr, wpO, wpIt, opt_some, onI_int, onB_bl, onR_ref, arg1_one, look, joinO, start, List.map_cons, List.map_nil, List.length_cons, List.length_nil, List.replicate, List.cons_append, List.nil_append, List.append_nil, List.getElem?_cons_succ, List.getElem?_cons_zero, kcD, Nat.reduceAdd, Nat.reduceSub, br_t, br_f, br_n, asg, setAll, List.set_cons_succ, List.set_cons_zero, tgs, wipe, eq_ii, ne_ii, lt_ii, le_ii, gt_ii, ge_ii, is_n, isn_n, is_b, isn_b, add_ii, sub_ii, mul_ii, mod_ii, fdiv_ii, pow_ii, isNon, biD, intD_i, intD_b, esLen, beq_self_eq_true, ixD_tup, lsOf_new, seqD_tup, seqD_fl, slD_tup, bools, Option.map_some, true_and, ixD_fl, lenD_tup, lenD_fl, ix30, ix31, ix32, at20, at21, at30, at31, at32, List.filterMap_cons, List.filterMap_nil]
  exact ⟨ba.sm (by decide), bd.sm (by decide), bc.sm (by decide), bb.sm (by decide), bd2.sm (by decide), bb.sm (by decide), (bd2.mul bb).sm (by decide), bd.sm (by decide), call h46 ⟨_, _, rfl, mulp (by omega) d0, ((bd2.mul bb).mul bd).up (by decide), hq⟩⟩
/-! ### hit_words -/
def spHW : Sp := fun ds S Q _ => ∃ L, ∃ k : Nat, ds = [prD (Ln.a L) L.c, shD L.x L.y L.p L.q, .int (k : Int)] ∧ OkL L ∧ BL L ∧ k ≤ 100 ∧ ∀ r S', Ext S S' → S' r = some (.lst (words L k)) → Q (.ref r) S'
theorem rng_map {chk : Sto → Prop} {step : D → Sto → (Option D → Sto → Prop) → Prop} {Q : VK} {f : Nat → D} {S : Sto} {k : Nat} (hc : chk S) (hs : ∀ j : Nat, j < k → ∀ kk : Option D → Sto → Prop, kk (some (f j)) S → step (.int (0 + (j : Nat))) S kk) (hq : ∀ p, S p = none → Q (.ref p) (upd S p (.lst ((List.range k).map f)))) : ∀ (m i : Nat), i + m = k → ∀ {items : List D}, items = (List.range' i m).map (fun j => D.int (0 + (j : Nat))) → compW chk step Q items ((List.range i).map f) S
  | 0, i, h, items, e => by
    subst e
    have : i = k := by omega
    subst this
    exact ⟨hc, hq⟩
  | m + 1, i, h, items, e => by
    subst e
    refine ⟨hc, hs i (by omega) _ ?_⟩
    have e1 : (List.range i).map f ++ (some (f i)).toList = (List.range (i + 1)).map f := by
      rw [List.range_succ, List.map_append]; rfl
    rw [e1]
    exact rng_map hc hs hq m (i + 1) (by omega) rfl
theorem txt_hw {G : Gm} {ds : List D} {S0 : Sto} {Q : VK} {X : XK} {b : Ss} (hb : b = (.cons (.ex (.call 10 (.cons (.v 0) (.cons (.v 1) .nil)))) (.cons (.if_ (.not (.call 0 (.cons (.v 2) (.cons (.k (.int 0)) (.cons (.k .non) .nil))))) (.cons .nev .nil) .nil) (.cons (.ret (.comp (.ix (.call 33 (.cons (.v 0) (.cons (.v 1) (.cons (.bin .add (.v 3) (.k (.int 1))) .nil)))) (.k (.int 1))) (.v 3) (.rng (.v 2)) .none)) .nil)))) (h0 : G.fn 0 = spInt) (h10 : G.fn 10 = spCkShot) (h33 : G.fn 33 = spHO) (h : spHW ds S0 Q X) : ds.length = 3 ∧ wpSs G b (start 4 ds) S0 (kR Q X) := by
  obtain ⟨L, k, rfl, o, bl, hk, hq⟩ := h
  subst hb
  refine ⟨rfl, ?_⟩
  simp only [wpSs, wpS, wpE, wpEs, wpC, wpAnd, wpOr, wpO, wpIt, opt_some, onI_int, onB_bl, onR_ref, arg1_one, look, joinO, start, List.map_cons, List.map_nil, List.length_cons, List.length_nil, List.replicate, List.cons_append, List.nil_append, List.append_nil, List.getElem?_cons_succ, List.getElem?_cons_zero, kcD, Nat.reduceAdd, Nat.reduceSub, br_t, br_f, br_n, asg, setAll, List.set_cons_succ, List.set_cons_zero, tgs, wipe, eq_ii, ne_ii, lt_ii, le_ii, gt_ii, ge_ii, is_n, isn_n, is_b, isn_b, add_ii, sub_ii, mul_ii, mod_ii, fdiv_ii, pow_ii, isNon, biD, intD_i, intD_b, esLen, beq_self_eq_true, ixD_tup, lsOf_new, seqD_tup, seqD_fl, slD_tup, bools, Option.map_some, true_and, ixD_fl, lenD_tup, lenD_fl, ix30, ix31, ix32, at20, at21, at30, at31, at32, List.filterMap_cons, List.filterMap_nil]
  refine call h10 ⟨L.a, L.c, _, rfl, o.a0, o.c0, vl_sh, roll_ok (L := L) o, fun S1 k1 => ?_⟩
  refine call h0 ⟨.int k, some 0, none, rfl, trivial, ?_⟩
  have e : intB (.int (k : Int)) (some 0) none = true := by simp [intB]
  simp only [wpSs, wpS, wpE, wpEs, wpC, wpAnd, wpOr, wpO, wpIt, opt_some, onI_int, onB_bl, onR_ref, arg1_one, look, joinO, start, List.map_cons, List.map_nil, List.length_cons, List.length_nil, List.replicate, List.cons_append, List.nil_append, List.append_nil, List.getElem?_cons_succ, List.getElem?_cons_zero, kcD, Nat.reduceAdd, Nat.reduceSub, br_t, br_f, br_n, asg, setAll, List.set_cons_succ, List.set_cons_zero, tgs, wipe, eq_ii, ne_ii, lt_ii, le_ii, gt_ii, ge_ii, is_n, isn_n, is_b, isn_b, add_ii, sub_ii, mul_ii, mod_ii, fdiv_ii, pow_ii, isNon, biD, intD_i, intD_b, esLen, beq_self_eq_true, ixD_tup, lsOf_new, seqD_tup, seqD_fl, slD_tup, bools, Option.map_some, true_and, ixD_fl, lenD_tup, lenD_fl, ix30, ix31, ix32, at20, at21, at30, at31, at32, List.filterMap_cons, List.filterMap_nil, e]
  refine ⟨by decide, by decide, by omega, by omega, by simp; exact len_lim (by omega), ?_⟩
  refine rng_map (f := fun j => .str (wordT L (sts L j))) (k := k) trivial (fun j hj kk h => ?_) (fun p hp => ?_) k 0 (by omega) (by rw [List.range_eq_range']; simp)
  · have ej : (0 : Int) + j + 1 = (j : Int) + 1 := by omega
    simp only [wpSs, wpS, wpE, wpEs, wpC, wpAnd, wpOr, wpO, wpIt, opt_some, onI_int, onB_bl, onR_ref, arg1_one, look, joinO, start, List.map_cons, List.map_nil, List.length_cons, List.length_nil, List.replicate, List.cons_append, List.nil_append, List.append_nil, List.getElem?_cons_succ, List.getElem?_cons_zero, kcD, Nat.reduceAdd, Nat.reduceSub, br_t, br_f, br_n, asg, setAll, List.set_cons_succ, List.set_cons_zero, tgs, wipe, eq_ii, ne_ii, lt_ii, le_ii, gt_ii, ge_ii, is_n, isn_n, is_b, isn_b, add_ii, sub_ii, mul_ii, mod_ii, fdiv_ii, pow_ii, isNon, biD, intD_i, intD_b, esLen, beq_self_eq_true, ixD_tup, lsOf_new, seqD_tup, seqD_fl, slD_tup, bools, Option.map_some, true_and, ixD_fl, lenD_tup, lenD_fl, ix30, ix31, ix32, at20, at21, at30, at31, at32, List.filterMap_cons, List.filterMap_nil, ej]
    refine call h33 ⟨L.a, L.c, L.x, L.y, L.p, L.q, j, rfl, o, bl, bd_of' (k := 149) (by omega) (by omega), ?_⟩
    exact h
  · exact hq p _ (k1.trans (Ext.new hp)) upd_at
/-! ### a hit: its time, the one before, halfway -/
def _law_hit_right_B1 : Ss := (.cons (.if_ (.and (.cmp .ne (.ix (.v 1) (.bin .add (.v 11) (.k (.int 2)))) (.k (.int 0))) (.cons (.cmp .eq (.ix (.v 5) (.v 11)) (.tup (.cons (.v 16) (.cons (.k (.int 1)) .nil)))) .nil)) (.cons (.set (.v 10) (.bin .add (.v 10) (.v 15))) .nil) .nil) .nil)
def _law_hit_right_S1 : St := (.for_ (.tup [15, 16]) (.zip (.v 12) (.tup (.cons (.k (.int 0)) (.cons (.ix (.v 0) (.v 11)) .nil)))) _law_hit_right_B1)
def _law_hit_right_A1 : Ss := (.cons (.ex (.mt .append (.v 9) (.cons (.ite (.cmp .gt (.bi .len (.cons (.v 10) .nil)) (.v 14)) (.bin .sub (.k (.int 0)) (.ix (.v 8) (.v 11))) (.ix (.v 8) (.v 11))) .nil))) .nil)
def _law_hit_right_B0 : Ss := (.cons (.set (.v 14) (.bi .len (.cons (.v 10) .nil))) (.cons _law_hit_right_S1 _law_hit_right_A1))
def _law_hit_right_S0 : St := (.for_ (.tup [11, 12]) (.seq (.tup (.cons (.tup (.cons (.k (.int 0)) (.cons (.k (.str [87, 69])) .nil))) (.cons (.tup (.cons (.k (.int 1)) (.cons (.k (.str [83, 78])) .nil))) .nil)))) _law_hit_right_B0)
def _law_hit_right_A0 : Ss := (.cons (.if_ (.or (.cmp .ne (.v 4) (.v 10)) (.cons (.cmp .eq (.v 4) (.k (.str []))) (.cons (.not (.call 43 (.cons (.call 19 (.cons (.v 0) (.cons (.v 1) (.cons (.v 3) .nil)))) (.cons (.bi .tuple (.cons (.v 9) .nil)) .nil)))) .nil))) (.cons (.ret (.k (.bl false))) .nil) .nil) (.cons (.set (.v 13) (.comp (.call 40 (.cons (.v 0) (.cons (.v 1) (.cons (.v 18) (.cons (.v 3) .nil))))) (.v 18) (.seq (.k (.str [87, 69, 83, 78]))) .none)) (.cons (.if_ (.cmp .lt (.v 2) (.k (.int 30))) (.cons (.set (.v 17) (.comp (.v 19) (.v 19) (.seq (.call 36 (.cons (.v 0) (.cons (.v 1) (.cons (.bin .add (.v 2) (.k (.int 1))) .nil))))) (.some (.cmp .eq (.bi .len (.cons (.v 19) .nil)) (.k (.int 2)))))) (.cons (.ret (.cmp .eq (.bi .sum (.cons (.v 13) .nil)) (.bin .add (.bin .add (.v 2) (.k (.int 1))) (.bi .len (.cons (.v 17) .nil))))) .nil)) .nil) (.cons (.ret (.chain .le .le (.bin .add (.v 2) (.k (.int 1))) (.bi .sum (.cons (.v 13) .nil)) (.bin .add (.bin .mul (.k (.int 2)) (.v 2)) (.k (.int 2))))) .nil))))
def _law_hit_right_T : Ss := (.cons (.set (.tup [3, 4, 5]) (.call 35 (.cons (.v 0) (.cons (.v 1) (.cons (.v 2) .nil))))) (.cons (.set (.v 6) (.ite (.cmp .gt (.v 2) (.k (.int 0))) (.ix (.call 35 (.cons (.v 0) (.cons (.v 1) (.cons (.bin .sub (.v 2) (.k (.int 1))) .nil)))) (.k (.int 0))) (.tup (.cons (.k (.int 0)) (.cons (.k (.int 1)) .nil))))) (.cons (.set (.v 7) (.call 47 (.cons (.v 6) (.cons (.v 3) .nil)))) (.cons (.if_ (.or (.not (.call 43 (.cons (.call 18 (.cons (.v 0) (.cons (.v 1) (.cons (.v 3) .nil)))) (.cons (.v 5) .nil)))) (.cons (.cmp .ne (.call 34 (.cons (.v 0) (.cons (.v 1) (.cons (.v 3) .nil)))) (.bin .add (.v 2) (.k (.int 1)))) .nil)) (.cons (.ret (.k (.bl false))) .nil) .nil) (.cons (.if_ (.or (.cmp .ge (.bin .mul (.ix (.v 6) (.k (.int 0))) (.ix (.v 3) (.k (.int 1)))) (.bin .mul (.ix (.v 3) (.k (.int 0))) (.ix (.v 6) (.k (.int 1))))) (.cons (.cmp .ne (.call 34 (.cons (.v 0) (.cons (.v 1) (.cons (.v 7) .nil)))) (.v 2)) .nil)) (.cons (.ret (.k (.bl false))) .nil) .nil) (.cons (.par3 8 9 10 (.call 19 (.cons (.v 0) (.cons (.v 1) (.cons (.v 7) .nil)))) (.lst .nil) (.k (.str []))) (.cons _law_hit_right_S0 _law_hit_right_A0)))))))
/-- what is known of the times -/
structure Hm (L : Ln) (k : Nat) (m n e f u v : Int) : Prop where
  n0 : 0 < n
  f0 : 0 < f
  v0 : 0 < v
  now : m * (sts L (k + 1)).b = (sts L (k + 1)).t * n
  ear : e * (sts L k).b = (sts L k).t * f
  haf : At L k u v
  bm : Bd 365 m
  bn : Bd 365 n
  bu : Bd 900 u
  bv : Bd 900 v
  pn : partB (prD m n) = true
  pu : partB (prD u v) = true
  lt : e * n < m * f
  be : Bd 365 e
  bf : Bd 365 f
def goalD (L : Ln) (k : Nat) : D := .tup [low (mk1 L (sts L (k + 1))) (sts L (k + 1)).b, low (mk2 L (sts L (k + 1))) (sts L (k + 1)).b]
theorem h_1 {s1 : Ss} {G : Gm} (h35 : G.fn 35 = spNth) (h47 : G.fn 47 = spMid) {L : Ln} (o : OkL L) (bl : BL L) {k : Nat} (bk : Bd 148 (k : Int)) {S : Sto} {K : Kt} {o3 o4 o5 o6 o7 o8 o9 o10 o11 o12 o13 o14 o15 o16 o17 o18 o19 : Option D}
    (kk : ∀ m n e f u v S', Ext S S' → Hm L k m n e f u v → wpSs G s1 [some (prD L.a L.c), some (shD L.x L.y L.p L.q), some (.int (k : Int)), some (prD m n), some (.str (wordT L (sts L k))), some (goalD L k), some (prD e f), some (prD u v), o8, o9, o10, o11, o12, o13, o14, o15, o16, o17, o18, o19] S' K) :
    wpSs G (.cons (.set (.tup [3, 4, 5]) (.call 35 (.cons (.v 0) (.cons (.v 1) (.cons (.v 2) .nil))))) (.cons (.set (.v 6) (.ite (.cmp .gt (.v 2) (.k (.int 0))) (.ix (.call 35 (.cons (.v 0) (.cons (.v 1) (.cons (.bin .sub (.v 2) (.k (.int 1))) .nil)))) (.k (.int 0))) (.tup (.cons (.k (.int 0)) (.cons (.k (.int 1)) .nil))))) (.cons (.set (.v 7) (.call 47 (.cons (.v 6) (.cons (.v 3) .nil)))) s1))) [some (prD L.a L.c), some (shD L.x L.y L.p L.q), some (.int (k : Int)), o3, o4, o5, o6, o7, o8, o9, o10, o11, o12, o13, o14, o15, o16, o17, o18, o19] S K := by
  simp only [wpSs, wpS, wpE, wpEs, wpC, wpAnd, wpOr, wpO, wpIt, opt_some, onI_int, onB_bl, onR_ref, arg1_one, look, joinO, start, List.map_cons, List.map_nil, List.length_cons, List.length_nil, List.replicate, List.cons_append, List.nil_append, List.append_nil, List.getElem?_cons_succ, List.getElem?_cons_zero, kcD, Nat.reduceAdd, Nat.reduceSub, br_t, br_f, br_n, asg, setAll, List.set_cons_succ, List.set_cons_zero, tgs, wipe, eq_ii, ne_ii, lt_ii, le_ii, gt_ii, ge_ii, is_n, isn_n, is_b, isn_b, add_ii, sub_ii, mul_ii, mod_ii, fdiv_ii, pow_ii, isNon, biD, intD_i, intD_b, esLen, beq_self_eq_true, ixD_tup, lsOf_new, seqD_tup, seqD_fl, slD_tup, bools, Option.map_some, true_and, ixD_fl, lenD_tup, lenD_fl, ix30, ix31, ix32, at20, at21, at30, at31, at32, List.filterMap_cons, List.filterMap_nil]
  refine call h35 ⟨L.a, L.c, L.x, L.y, L.p, L.q, k, rfl, o, bl, bk.up (by decide), fun S1 k1 => ?_⟩
  obtain ⟨m, n, el, eD, e1, n0, m0, bm, bn, pn⟩ := ent_far o bl (bk.up (show 148 ≤ 149 by decide))
  have I := st_inv o k
  have I1 := st_inv o (k + 1)
  have eg : entD ⟨L.a, L.c, L.x, L.y, L.p, L.q⟩ (sts ⟨L.a, L.c, L.x, L.y, L.p, L.q⟩ k) = .tup [prD m n, .str (wordT L (sts L k)), goalD L k] := by
    rw [← el]; rfl
  simp only [eg, wpSs, wpS, wpE, wpEs, wpC, wpAnd, wpOr, wpO, wpIt, opt_some, onI_int, onB_bl, onR_ref, arg1_one, look, joinO, start, List.map_cons, List.map_nil, List.length_cons, List.length_nil, List.replicate, List.cons_append, List.nil_append, List.append_nil, List.getElem?_cons_succ, List.getElem?_cons_zero, kcD, Nat.reduceAdd, Nat.reduceSub, br_t, br_f, br_n, asg, setAll, List.set_cons_succ, List.set_cons_zero, tgs, wipe, eq_ii, ne_ii, lt_ii, le_ii, gt_ii, ge_ii, is_n, isn_n, is_b, isn_b, add_ii, sub_ii, mul_ii, mod_ii, fdiv_ii, pow_ii, isNon, biD, intD_i, intD_b, esLen, beq_self_eq_true, ixD_tup, lsOf_new, seqD_tup, seqD_fl, slD_tup, bools, Option.map_some, true_and, ixD_fl, lenD_tup, lenD_fl, ix30, ix31, ix32, at20, at21, at30, at31, at32, List.filterMap_cons, List.filterMap_nil]
  have fin : ∀ (e f : Int) (S2 : Sto), Ext S S2 → 0 < f → e * (sts L k).b = (sts L k).t * f → Bd 365 e → Bd 365 f → cl (G.fn 47) [prD e f, prD m n] S2 (fun x S3 => wpSs G s1 [some (prD L.a L.c), some (shD L.x L.y L.p L.q), some (.int (k : Int)), some (prD m n), some (.str (wordT L (sts L k))), some (goalD L k), some (prD e f), some x, o8, o9, o10, o11, o12, o13, o14, o15, o16, o17, o18, o19] S3 K) (fun c fs S1 => K.xe c fs [some (prD L.a L.c), some (shD L.x L.y L.p L.q), some (.int (k : Int)), some (prD m n), some (.str (wordT L (sts L k))), some (goalD L k), some (prD e f), o7, o8, o9, o10, o11, o12, o13, o14, o15, o16, o17, o18, o19] S1) := by
    intro e f S2 k2 f0 e2 be bf
    refine call h47 ⟨e, f, m, n, rfl, f0, n0, be.up (by decide), bf.up (by decide), bm.up (by decide), bn.up (by decide), ?_⟩
    have pd := mulp (show 0 < 2 * f by omega) n0
    have pu := part_low (t := e * n + m * f) pd
    obtain ⟨u, v, eu, e3, v0, bu, bv⟩ := low_cmp (A := e * n + m * f) pd
    rw [eu] at pu ⊢
    have bA : Bd 731 (e * n + m * f) := (be.mul bn).add (bm.mul bf)
    have bB : Bd 732 (2 * f * n) := (bd2.mul bf).mul bn
    have nx := (st_next o I).2
    refine kk m n e f u v S2 k2 ⟨n0, f0, v0, e1, e2, ?_, bm, bn, (bu _ bA).up (by decide), (bv _ bB).up (by decide), pn, pu, ?_, be, bf⟩
    · refine at_congr (at_mid o k) v0 ?_
      generalize (sts L k).b = Yb0 at *
      generalize (sts L k).t = Yt0 at *
      generalize (sts L (k + 1)).b = Yb1 at *
      generalize (sts L (k + 1)).t = Yt1 at *
      refine Int.eq_of_mul_eq_mul_right (show 2 * f * n ≠ 0 by omega) ?_
      have x1 : (Yt0 * Yb1 + Yt1 * Yb0) * v * (2 * f * n) = (2 * (Yt0 * f) * Yb1 * n + 2 * (Yt1 * n) * Yb0 * f) * v := by grind
      have x2 : u * (2 * Yb0 * Yb1) * (2 * f * n) = (u * (2 * f * n)) * (2 * Yb0 * Yb1) := by grind
      rw [x1, x2, e3, ← e1, ← e2]; grind
    · have b0 := I.b0
      have b1 := I1.b0
      have nx : (sts L k).t * (sts L (k + 1)).b < (sts L (k + 1)).t * (sts L k).b := nx
      generalize (sts L k).b = Yb0 at *
      generalize (sts L k).t = Yt0 at *
      generalize (sts L (k + 1)).b = Yb1 at *
      generalize (sts L (k + 1)).t = Yt1 at *
      have p1 := mulp b0 b1
      have p2 := mulp n0 f0
      have y := Int.mul_lt_mul_of_pos_right nx p2
      have y1 : Yt0 * Yb1 * (n * f) = e * n * (Yb0 * Yb1) := by
        have : Yt0 * Yb1 * (n * f) = (Yt0 * f) * Yb1 * n := by grind
        rw [this, ← e2]; grind
      have y2 : Yt1 * Yb0 * (n * f) = m * f * (Yb0 * Yb1) := by
        have : Yt1 * Yb0 * (n * f) = (Yt1 * n) * Yb0 * f := by grind
        rw [this, ← e1]; grind
      rw [y1, y2] at y
      exact Int.lt_of_mul_lt_mul_right y (Int.le_of_lt p1)
  refine br_d (fun hk => ?_) fun hk => ?_
  · obtain ⟨j, rfl⟩ : ∃ j, k = j + 1 := ⟨k - 1, by omega⟩
    have ej : ((j + 1 : Nat) : Int) - 1 = (j : Int) := by omega
    rw [ej]
    have bj : Bd 149 (j : Int) := by
      refine bd_of' (k := 149) (by omega) ?_
      have : ((j + 1 : Nat) : Int).natAbs < 2 ^ 148 := bk
      have h2 : (2 : Int) ^ 148 < 2 ^ 149 := by decide
      omega
    refine call h35 ⟨L.a, L.c, L.x, L.y, L.p, L.q, j, rfl, o, bl, bj, fun S2 k2 => ?_⟩
    obtain ⟨e, f, el', eD', e1', f0, _, be, bf, _⟩ := ent_far o bl bj
    have eg' : entD ⟨L.a, L.c, L.x, L.y, L.p, L.q⟩ (sts ⟨L.a, L.c, L.x, L.y, L.p, L.q⟩ j) = .tup [prD e f, .str (wordT L (sts L j)), goalD L j] := by
      rw [← el']; rfl
    simp only [eg', wpSs, wpS, wpE, wpEs, wpC, wpAnd, wpOr, wpO, wpIt, opt_some, onI_int, onB_bl, onR_ref, arg1_one, look, joinO, start, List.map_cons, List.map_nil, List.length_cons, List.length_nil, List.replicate, List.cons_append, List.nil_append, List.append_nil, List.getElem?_cons_succ, List.getElem?_cons_zero, kcD, Nat.reduceAdd, Nat.reduceSub, br_t, br_f, br_n, asg, setAll, List.set_cons_succ, List.set_cons_zero, tgs, wipe, eq_ii, ne_ii, lt_ii, le_ii, gt_ii, ge_ii, is_n, isn_n, is_b, isn_b, add_ii, sub_ii, mul_ii, mod_ii, fdiv_ii, pow_ii, isNon, biD, intD_i, intD_b, esLen, beq_self_eq_true, ixD_tup, lsOf_new, seqD_tup, seqD_fl, slD_tup, bools, Option.map_some, true_and, ixD_fl, lenD_tup, lenD_fl, ix30, ix31, ix32, at20, at21, at30, at31, at32, List.filterMap_cons, List.filterMap_nil]
    exact fin e f S2 (k1.trans k2) f0 e1' be bf
  · have hk : k = 0 := by omega
    subst hk
    refine ⟨len_lim (by decide), ?_⟩
    exact fin 0 1 S1 k1 (by decide) rfl (lt_two 8 (by decide) (by decide)) (lt_two 8 (by decide) (by decide))
theorem sm_goal {n : Nat} {S : Sto} {L : Ln} {k : Nat} : Sm (n + 4) S (goalD L k) (goalD L k) := sm_pair sm_pr sm_pr
theorem sh_on {L : Ln} {k : Nat} {m n e f u v : Int} (o : OkL L) (bl : BL L) (h : Hm L k m n e f u v) : On L.a L.c L.x L.y L.p L.q m n ∧ On L.a L.c L.x L.y L.p L.q u v := ⟨on_of o bl h.pn h.n0 (h.bm.up (by decide)) (h.bn.up (by decide)), on_of o bl h.pu h.v0 h.bu h.bv⟩
/-- places and counts; the way before -/
theorem h_2 {s1 : Ss} {G : Gm} (h18 : G.fn 18 = spPlace) (h19 : G.fn 19 = spWay) (h34 : G.fn 34 = spHits) (h43 : G.fn 43 = spSm) {L : Ln} (o : OkL L) (bl : BL L) {k : Nat} {m n e f u v : Int} (h : Hm L k m n e f u v) {S : Sto} {K : Kt} {o4 o8 o9 o10 o11 o12 o13 o14 o15 o16 o17 o18 o19 : Option D}
    (kk : ∀ r S', S r = none → Ext S S' → S' r = some (.lst []) → wpSs G s1 [some (prD L.a L.c), some (shD L.x L.y L.p L.q), some (.int (k : Int)), some (prD m n), o4, some (goalD L k), some (prD e f), some (prD u v), some (prD (dr L.x L.p L.a (sts L k).n) (dr L.y L.q L.c (sts L k).m)), some (.ref r), some (.str []), o11, o12, o13, o14, o15, o16, o17, o18, o19] S' K) :
    wpSs G (.cons (.if_ (.or (.not (.call 43 (.cons (.call 18 (.cons (.v 0) (.cons (.v 1) (.cons (.v 3) .nil)))) (.cons (.v 5) .nil)))) (.cons (.cmp .ne (.call 34 (.cons (.v 0) (.cons (.v 1) (.cons (.v 3) .nil)))) (.bin .add (.v 2) (.k (.int 1)))) .nil)) (.cons (.ret (.k (.bl false))) .nil) .nil) (.cons (.if_ (.or (.cmp .ge (.bin .mul (.ix (.v 6) (.k (.int 0))) (.ix (.v 3) (.k (.int 1)))) (.bin .mul (.ix (.v 3) (.k (.int 0))) (.ix (.v 6) (.k (.int 1))))) (.cons (.cmp .ne (.call 34 (.cons (.v 0) (.cons (.v 1) (.cons (.v 7) .nil)))) (.v 2)) .nil)) (.cons (.ret (.k (.bl false))) .nil) .nil) (.cons (.par3 8 9 10 (.call 19 (.cons (.v 0) (.cons (.v 1) (.cons (.v 7) .nil)))) (.lst .nil) (.k (.str []))) s1))) [some (prD L.a L.c), some (shD L.x L.y L.p L.q), some (.int (k : Int)), some (prD m n), o4, some (goalD L k), some (prD e f), some (prD u v), o8, o9, o10, o11, o12, o13, o14, o15, o16, o17, o18, o19] S K := by
  obtain ⟨on1, on2⟩ := sh_on o bl h
  have pe : placeD L.a L.c L.x L.y L.p L.q m n = goalD L k := place_ent o h.n0 h.now
  have at1 : At L (k + 1) m n := at_congr (at_hit o (k + 1)) h.n0 h.now.symm
  have ec : ((k + 1 : Nat) : Int) = (k : Int) + 1 := by omega
  simp only [wpSs, wpS, wpE, wpEs, wpC, wpAnd, wpOr, wpO, wpIt, opt_some, onI_int, onB_bl, onR_ref, arg1_one, look, joinO, start, List.map_cons, List.map_nil, List.length_cons, List.length_nil, List.replicate, List.cons_append, List.nil_append, List.append_nil, List.getElem?_cons_succ, List.getElem?_cons_zero, kcD, Nat.reduceAdd, Nat.reduceSub, br_t, br_f, br_n, asg, setAll, List.set_cons_succ, List.set_cons_zero, tgs, wipe, eq_ii, ne_ii, lt_ii, le_ii, gt_ii, ge_ii, is_n, isn_n, is_b, isn_b, add_ii, sub_ii, mul_ii, mod_ii, fdiv_ii, pow_ii, isNon, biD, intD_i, intD_b, esLen, beq_self_eq_true, ixD_tup, lsOf_new, seqD_tup, seqD_fl, slD_tup, bools, Option.map_some, true_and, ixD_fl, lenD_tup, lenD_fl, ix30, ix31, ix32, at20, at21, at30, at31, at32, List.filterMap_cons, List.filterMap_nil]
  refine call h18 ⟨L.a, L.c, L.x, L.y, L.p, L.q, m, n, rfl, on1, fun S1 k1 => ?_⟩
  rw [pe]
  refine call h43 ⟨11, by decide, _, _, rfl, sm_goal, fun S2 k2 => ?_⟩
  simp only [wpSs, wpS, wpE, wpEs, wpC, wpAnd, wpOr, wpO, wpIt, opt_some, onI_int, onB_bl, onR_ref, arg1_one, look, joinO, start, List.map_cons, List.map_nil, List.length_cons, List.length_nil, List.replicate, List.cons_append, List.nil_append, List.append_nil, List.getElem?_cons_succ, List.getElem?_cons_zero, kcD, Nat.reduceAdd, Nat.reduceSub, br_t, br_f, br_n, asg, setAll, List.set_cons_succ, List.set_cons_zero, tgs, wipe, eq_ii, ne_ii, lt_ii, le_ii, gt_ii, ge_ii, is_n, isn_n, is_b, isn_b, add_ii, sub_ii, mul_ii, mod_ii, fdiv_ii, pow_ii, isNon, biD, intD_i, intD_b, esLen, beq_self_eq_true, ixD_tup, lsOf_new, seqD_tup, seqD_fl, slD_tup, bools, Option.map_some, true_and, ixD_fl, lenD_tup, lenD_fl, ix30, ix31, ix32, at20, at21, at30, at31, at32, List.filterMap_cons, List.filterMap_nil]
  refine hits_at h34 o on1 at1 fun S3 k3 => ?_
  rw [ec]
  refine ne_int' (u := .int _) (v := .int _) trivial trivial (fun _ => ?_) fun z => absurd rfl z
  refine br_if (fun z => by cases z) fun _ => ?_
  refine ⟨h.be.sm (by decide), h.bn.sm (by decide), h.bm.sm (by decide), h.bf.sm (by decide), br_d (fun z => absurd h.lt (by omega)) fun _ => ?_⟩
  refine hits_at h34 o on2 h.haf fun S4 k4 => ?_
  refine ne_int' (u := .int _) (v := .int _) trivial trivial (fun _ => ?_) fun z => absurd rfl z
  refine br_if (fun z => by cases z) fun _ => ?_
  refine call h19 ⟨L.a, L.c, L.x, L.y, L.p, L.q, u, v, rfl, on2, fun S5 k5 => ?_⟩
  rw [ways_at o h.haf]
  refine mkL_ok (by simp) fun r hr => ?_
  try simp only [wpSs, wpS, wpE, wpEs, wpC, wpAnd, wpOr, wpO, wpIt, opt_some, onI_int, onB_bl, onR_ref, arg1_one, look, joinO, start, List.map_cons, List.map_nil, List.length_cons, List.length_nil, List.replicate, List.cons_append, List.nil_append, List.append_nil, List.getElem?_cons_succ, List.getElem?_cons_zero, kcD, Nat.reduceAdd, Nat.reduceSub, br_t, br_f, br_n, asg, setAll, List.set_cons_succ, List.set_cons_zero, tgs, wipe, eq_ii, ne_ii, lt_ii, le_ii, gt_ii, ge_ii, is_n, isn_n, is_b, isn_b, add_ii, sub_ii, mul_ii, mod_ii, fdiv_ii, pow_ii, isNon, biD, intD_i, intD_b, esLen, beq_self_eq_true, ixD_tup, lsOf_new, seqD_tup, seqD_fl, slD_tup, bools, Option.map_some, true_and, ixD_fl, lenD_tup, lenD_fl, ix30, ix31, ix32, at20, at21, at30, at31, at32, List.filterMap_cons, List.filterMap_nil]
  have nr : S r = none := by
    cases e : S r with
    | none => rfl
    | some ob =>
      have := ((((k1.trans k2).trans k3).trans k4).trans k5) _ _ e
      rw [hr] at this; cases this
  exact kk r _ nr (((((k1.trans k2).trans k3).trans k4).trans k5).trans (Ext.new hr)) upd_at
/-! ### the cushions -/
theorem tst_c {G : Gm} {i d e : Int} {gd : D} {c : Nat} {desk roll goal : List D} {W0 : Tx} (h2 : atI roll (i + 2) = some (.int d)) (hg : atI goal i = some gd) (it : IntT 8 gd) (hw : W0.length ≤ 4) {S : Sto} {K : Kt} {o2 o3 o4 o6 o7 o8 o9 o12 o13 o14 o17 o18 o19 : Option D}
    (k1 : d ≠ 0 → gd = prD e 1 → K.nx [some (.tup desk), some (.tup roll), o2, o3, o4, some (.tup goal), o6, o7, o8, o9, some (.str (W0 ++ [c])), some (.int i), o12, o13, o14, some (.str [c]), some (.int e), o17, o18, o19] S)
    (k2 : ¬ (d ≠ 0 ∧ gd = prD e 1) → K.nx [some (.tup desk), some (.tup roll), o2, o3, o4, some (.tup goal), o6, o7, o8, o9, some (.str W0), some (.int i), o12, o13, o14, some (.str [c]), some (.int e), o17, o18, o19] S) :
    wpSs G _law_hit_right_B1 [some (.tup desk), some (.tup roll), o2, o3, o4, some (.tup goal), o6, o7, o8, o9, some (.str W0), some (.int i), o12, o13, o14, some (.str [c]), some (.int e), o17, o18, o19] S K := by
  have l2 : 2 ≤ lim := len_lim (by decide)
  have el : ([c] : Tx).length = 1 := rfl
  simp only [_law_hit_right_B1, wpSs, wpS, wpE, wpEs, wpC, wpAnd, wpOr, wpO, wpIt, opt_some, onI_int, onB_bl, onR_ref, arg1_one, look, joinO, start, List.map_cons, List.map_nil, List.length_cons, List.length_nil, List.replicate, List.cons_append, List.nil_append, List.append_nil, List.getElem?_cons_succ, List.getElem?_cons_zero, kcD, Nat.reduceAdd, Nat.reduceSub, br_t, br_f, br_n, asg, setAll, List.set_cons_succ, List.set_cons_zero, tgs, wipe, eq_ii, ne_ii, lt_ii, le_ii, gt_ii, ge_ii, is_n, isn_n, is_b, isn_b, add_ii, sub_ii, mul_ii, mod_ii, fdiv_ii, pow_ii, isNon, biD, intD_i, intD_b, esLen, beq_self_eq_true, ixD_tup, lsOf_new, seqD_tup, seqD_fl, slD_tup, bools, Option.map_some, true_and, ixD_fl, lenD_tup, lenD_fl, ix30, ix31, ix32, at20, at21, at30, at31, at32, List.filterMap_cons, List.filterMap_nil, h2, hg]
  refine br_if (fun z => ?_) fun z => ?_
  · have z : d = 0 := by simpa using z
    exact k2 fun y => y.1 z
  · have z : d ≠ 0 := by simpa using z
    refine ⟨l2, eq_dec' (.inr it) (.inr it_pr) fun Bv hB => ?_⟩
    refine br_if (fun y => ?_) fun y => ?_
    · refine ⟨Nat.le_trans (show W0.length + ([c] : Tx).length ≤ 5 by rw [el]; omega) (len_lim (by decide)), k1 z (hB.mp y)⟩
    · exact k2 fun x => by rw [hB.mpr x.2] at y; cases y
theorem fin_c {G : Gm} {i bef : Int} {W0 W1 : Tx} {bf : List D} (hb : atI bf i = some (.int bef)) (h1 : W1.length ≤ 4) {S : Sto} {K : Kt} {r : Nat} {xs : List D} (er : S r = some (.lst xs)) (hx : xs.length < 5) {o0 o1 o2 o3 o4 o5 o6 o7 o12 o13 o15 o16 o17 o18 o19 : Option D}
    (kk : K.nx [o0, o1, o2, o3, o4, o5, o6, o7, some (.tup bf), some (.ref r), some (.str W1), some (.int i), o12, o13, some (.int W0.length), o15, o16, o17, o18, o19] (upd S r (.lst (xs ++ [.int (if W0.length < W1.length then -bef else bef)])))) :
    wpSs G _law_hit_right_A1 [o0, o1, o2, o3, o4, o5, o6, o7, some (.tup bf), some (.ref r), some (.str W1), some (.int i), o12, o13, some (.int W0.length), o15, o16, o17, o18, o19] S K := by
  simp only [_law_hit_right_A1, wpSs, wpS, wpE, wpEs, wpC, wpAnd, wpOr, wpO, wpIt, opt_some, onI_int, onB_bl, onR_ref, arg1_one, look, joinO, start, List.map_cons, List.map_nil, List.length_cons, List.length_nil, List.replicate, List.cons_append, List.nil_append, List.append_nil, List.getElem?_cons_succ, List.getElem?_cons_zero, kcD, Nat.reduceAdd, Nat.reduceSub, br_t, br_f, br_n, asg, setAll, List.set_cons_succ, List.set_cons_zero, tgs, wipe, eq_ii, ne_ii, lt_ii, le_ii, gt_ii, ge_ii, is_n, isn_n, is_b, isn_b, add_ii, sub_ii, mul_ii, mod_ii, fdiv_ii, pow_ii, isNon, biD, intD_i, intD_b, esLen, beq_self_eq_true, ixD_tup, lsOf_new, seqD_tup, seqD_fl, slD_tup, bools, Option.map_some, true_and, ixD_fl, lenD_tup, lenD_fl, ix30, ix31, ix32, at20, at21, at30, at31, at32, List.filterMap_cons, List.filterMap_nil, hb, lsOf_ref er]
  refine ⟨Nat.le_trans h1 (len_lim (by decide)), br_d (fun z => ?_) fun z => ?_⟩
  · rw [if_pos (by omega)] at kk
    have e : 0 - bef = -bef := by omega
    rw [e]
    exact append_ref er (by omega) kk
  · rw [if_neg (by omega)] at kk
    exact append_ref er (by omega) kk
theorem turn_c {G : Gm} {i d s bef : Int} {gd : D} {c0 c1 : Nat} {desk roll goal bf : List D} {W0 : Tx} {H : Bool} {P : Prop} [Decidable P] (h2 : atI roll (i + 2) = some (.int d)) (hs : atI desk i = some (.int s)) (hg : atI goal i = some gd) (hb : atI bf i = some (.int bef)) (it : IntT 8 gd) (g0 : d ≠ 0 → (gd = prD 0 1 ↔ H = true ∧ ¬ P)) (g1 : d ≠ 0 → (gd = prD s 1 ↔ H = true ∧ P)) (hd : H = true → d ≠ 0) (hw : W0.length ≤ 1) {S : Sto} {K : Kt} {r : Nat} {xs : List D} (er : S r = some (.lst xs)) (hx : xs.length < 5) {o2 o3 o4 o6 o7 o13 o14 o15 o16 o17 o18 o19 : Option D}
    (kk : ∀ o14 o15 o16 S', Kp r S S' → S' r = some (.lst (xs ++ [.int (if H = true then -bef else bef)])) → K.nx [some (.tup desk), some (.tup roll), o2, o3, o4, some (.tup goal), o6, o7, some (.tup bf), some (.ref r), some (.str (W0 ++ if H = true then [if P then c1 else c0] else [])), some (.int i), some (.str [c0, c1]), o13, o14, o15, o16, o17, o18, o19] S') :
    wpSs G _law_hit_right_B0 [some (.tup desk), some (.tup roll), o2, o3, o4, some (.tup goal), o6, o7, some (.tup bf), some (.ref r), some (.str W0), some (.int i), some (.str [c0, c1]), o13, o14, o15, o16, o17, o18, o19] S K := by
  have l2 : 2 ≤ lim := len_lim (by decide)
  generalize hS : _law_hit_right_S1 = s1
  generalize hA : _law_hit_right_A1 = a1
  simp only [_law_hit_right_B0, hS, hA, wpSs, wpS, wpE, wpEs, wpC, wpAnd, wpOr, wpO, wpIt, opt_some, onI_int, onB_bl, onR_ref, arg1_one, look, joinO, start, List.map_cons, List.map_nil, List.length_cons, List.length_nil, List.replicate, List.cons_append, List.nil_append, List.append_nil, List.getElem?_cons_succ, List.getElem?_cons_zero, kcD, Nat.reduceAdd, Nat.reduceSub, br_t, br_f, br_n, asg, setAll, List.set_cons_succ, List.set_cons_zero, tgs, wipe, eq_ii, ne_ii, lt_ii, le_ii, gt_ii, ge_ii, is_n, isn_n, is_b, isn_b, add_ii, sub_ii, mul_ii, mod_ii, fdiv_ii, pow_ii, isNon, biD, intD_i, intD_b, esLen, beq_self_eq_true, ixD_tup, lsOf_new, seqD_tup, seqD_fl, slD_tup, bools, Option.map_some, true_and, ixD_fl, lenD_tup, lenD_fl, ix30, ix31, ix32, at20, at21, at30, at31, at32, List.filterMap_cons, List.filterMap_nil]
  subst hS hA
  refine ⟨Nat.le_trans hw (len_lim (by decide)), ?_⟩
  simp only [_law_hit_right_S1, wpSs, wpS, wpE, wpEs, wpC, wpAnd, wpOr, wpO, wpIt, opt_some, onI_int, onB_bl, onR_ref, arg1_one, look, joinO, start, List.map_cons, List.map_nil, List.length_cons, List.length_nil, List.replicate, List.cons_append, List.nil_append, List.append_nil, List.getElem?_cons_succ, List.getElem?_cons_zero, kcD, Nat.reduceAdd, Nat.reduceSub, br_t, br_f, br_n, asg, setAll, List.set_cons_succ, List.set_cons_zero, tgs, wipe, eq_ii, ne_ii, lt_ii, le_ii, gt_ii, ge_ii, is_n, isn_n, is_b, isn_b, add_ii, sub_ii, mul_ii, mod_ii, fdiv_ii, pow_ii, isNon, biD, intD_i, intD_b, esLen, beq_self_eq_true, ixD_tup, lsOf_new, seqD_tup, seqD_fl, slD_tup, bools, Option.map_some, true_and, ixD_fl, lenD_tup, lenD_fl, ix30, ix31, ix32, at20, at21, at30, at31, at32, List.filterMap_cons, List.filterMap_nil, hs, zipD, zipP, List.map_cons, List.map_nil, List.zip_cons_cons, List.zip_nil_right, forW, asg, setAll, List.length_cons, List.length_nil, true_and]
  refine ⟨l2, ?_⟩
  have e0 : ∀ c : Nat, (W0 ++ [c]).length = W0.length + 1 := fun c => by simp
  refine tst_c h2 hg it (by omega) (fun z y => ?_) fun z => ?_
  · obtain ⟨hH, hP⟩ := (g0 z).mp y
    simp only [List.set_cons_succ, List.set_cons_zero]
    refine tst_c h2 hg it (by rw [e0]; omega) (fun _ y' => absurd ((g1 z).mp y').2 hP) fun _ => ?_
    refine fin_c hb (by rw [e0]; omega) er hx ?_
    rw [e0, if_pos (by omega)]
    have kk := kk (some (.int W0.length)) (some (.str [c1])) (some (.int s)) _ Kp.wr upd_at
    rw [if_pos hH, if_pos hH, if_neg hP] at kk
    exact kk
  · simp only [List.set_cons_succ, List.set_cons_zero]
    refine tst_c h2 hg it (by omega) (fun z' y => ?_) fun z' => ?_
    · obtain ⟨hH, hP⟩ := (g1 z').mp y
      refine fin_c hb (by rw [e0]; omega) er hx ?_
      rw [e0, if_pos (by omega)]
      have kk := kk (some (.int W0.length)) (some (.str [c1])) (some (.int s)) _ Kp.wr upd_at
      rw [if_pos hH, if_pos hH, if_pos hP] at kk
      exact kk
    · have hH : ¬ H = true := fun hH => by
        have hd := hd hH
        by_cases hP : P
        · exact z' ⟨hd, (g1 hd).mpr ⟨hH, hP⟩⟩
        · exact z ⟨hd, (g0 hd).mpr ⟨hH, hP⟩⟩
      refine fin_c hb (by omega) er hx ?_
      rw [if_neg (by omega)]
      have kk := kk (some (.int W0.length)) (some (.str [c1])) (some (.int s)) _ Kp.wr upd_at
      rw [if_neg hH, if_neg hH, List.append_nil] at kk
      exact kk
/-- the word and the way behind the hit -/
theorem h_3 {s1 : Ss} {G : Gm} {L : Ln} (o : OkL L) {k : Nat} {S : Sto} {K : Kt} {r : Nat} {o2 o3 o4 o6 o7 o11 o12 o13 o14 o15 o16 o17 o18 o19 : Option D} (er : S r = some (.lst []))
    (kk : ∀ o11 o12 o14 o15 o16 S', Kp r S S' → S' r = some (.lst [.int (dr L.x L.p L.a (sts L (k + 1)).n), .int (dr L.y L.q L.c (sts L (k + 1)).m)]) → wpSs G s1 [some (prD L.a L.c), some (shD L.x L.y L.p L.q), o2, o3, o4, some (goalD L k), o6, o7, some (prD (dr L.x L.p L.a (sts L k).n) (dr L.y L.q L.c (sts L k).m)), some (.ref r), some (.str (wordT L (sts L k))), o11, o12, o13, o14, o15, o16, o17, o18, o19] S' K) :
    wpSs G (.cons _law_hit_right_S0 s1) [some (prD L.a L.c), some (shD L.x L.y L.p L.q), o2, o3, o4, some (goalD L k), o6, o7, some (prD (dr L.x L.p L.a (sts L k).n) (dr L.y L.q L.c (sts L k).m)), some (.ref r), some (.str []), o11, o12, o13, o14, o15, o16, o17, o18, o19] S K := by
  have l2 : 2 ≤ lim := len_lim (by decide)
  have hp1 : hit1 L (sts L k) = true → L.p ≠ 0 := fun z => by unfold hit1 at z; exact (of_decide_eq_true z).1
  have hq1 : hit2 L (sts L k) = true → L.q ≠ 0 := fun z => by unfold hit2 at z; exact (of_decide_eq_true z).1
  simp only [_law_hit_right_S0, wpSs, wpS, wpE, wpEs, wpC, wpAnd, wpOr, wpO, wpIt, opt_some, onI_int, onB_bl, onR_ref, arg1_one, look, joinO, start, List.map_cons, List.map_nil, List.length_cons, List.length_nil, List.replicate, List.cons_append, List.nil_append, List.append_nil, List.getElem?_cons_succ, List.getElem?_cons_zero, kcD, Nat.reduceAdd, Nat.reduceSub, br_t, br_f, br_n, asg, setAll, List.set_cons_succ, List.set_cons_zero, tgs, wipe, eq_ii, ne_ii, lt_ii, le_ii, gt_ii, ge_ii, is_n, isn_n, is_b, isn_b, add_ii, sub_ii, mul_ii, mod_ii, fdiv_ii, pow_ii, isNon, biD, intD_i, intD_b, esLen, beq_self_eq_true, ixD_tup, lsOf_new, seqD_tup, seqD_fl, slD_tup, bools, Option.map_some, true_and, ixD_fl, lenD_tup, lenD_fl, ix30, ix31, ix32, at20, at21, at30, at31, at32, List.filterMap_cons, List.filterMap_nil, forW, asg, setAll, List.set_cons_succ, List.set_cons_zero, List.length_cons, List.length_nil, true_and]
  refine ⟨l2, l2, l2, ?_⟩
  refine turn_c (i := 0) (d := L.p) (s := L.a) (H := hit1 L (sts L k)) (P := 0 < dr L.x L.p L.a (sts L k).n) rfl rfl rfl rfl it_pr (fun z => (edge1 o k z).1) (fun z => (edge1 o k z).2) hp1 (by simp) er (by simp) fun o14 o15 o16 S1 k1 er1 => ?_
  simp only [List.set_cons_succ, List.set_cons_zero]
  refine turn_c (i := 1) (d := L.q) (s := L.c) (H := hit2 L (sts L k)) (P := 0 < dr L.y L.q L.c (sts L k).m) rfl rfl rfl rfl it_pr (fun z => (edge2 o k z).1) (fun z => (edge2 o k z).2) hq1 (by split <;> simp) er1 (by simp) fun o14' o15' o16' S2 k2 er2 => ?_
  have ew : ([] ++ (if hit1 L (sts L k) = true then [if 0 < dr L.x L.p L.a (sts L k).n then 69 else 87] else []) ++ if hit2 L (sts L k) = true then [if 0 < dr L.y L.q L.c (sts L k).m then 78 else 83] else []) = wordT L (sts L k) := by
    unfold wordT l1 M.l2
    rfl
  rw [ew]
  refine kk _ _ _ _ _ S2 (k1.trans k2) ?_
  rw [er2, dr_hit1, dr_hit2]
  rfl
theorem word_ne {L : Ln} (o : OkL L) {s : St2} : wordT L s ≠ [] := by
  intro h
  unfold wordT at h
  rcases hit_some o s with z | z
  · rw [z] at h; simp at h
  · rw [z] at h; simp at h
theorem cu_call {G : Gm} (h22 : G.fn 40 = spCount) {L : Ln} (o : OkL L) {t b : Int} {k : Nat} {S : Sto} {Q : VK} {X : XK} (on : On L.a L.c L.x L.y L.p L.q t b) (hat : At L k t b) (ch : Nat) (hc : isL ch) (hq : ∀ S', Ext S S' → Q (.int (cntW L k ch)) S') : cl (G.fn 40) [prD L.a L.c, shD L.x L.y L.p L.q, .str [ch], prD t b] S Q X :=
  call h22 ⟨_, _, _, _, _, _, t, b, ch, rfl, hc, on, fun S' e => by rw [cu_at o (.inl hat) hc]; exact hq S' e⟩
theorem isl : isL 87 ∧ isL 69 ∧ isL 83 ∧ isL 78 := by unfold isL; decide
theorem seqD_str {x : Tx} {S : Sto} {R : IK} : seqD (.str x) S R = R (x.map fun c => .str [c]) (fun _ => True) S := rfl
theorem compW_filt {chk : Sto → Prop} {step : D → Sto → (Option D → Sto → Prop) → Prop} {Q : VK} {f : D → Bool} {S : Sto} (hc : chk S) : ∀ {xs acc : List D}, (∀ d ∈ xs, ∀ k : Option D → Sto → Prop, k (if f d = true then some d else none) S → step d S k) → (∀ p, S p = none → Q (.ref p) (upd S p (.lst (acc ++ xs.filter f)))) → compW chk step Q xs acc S
  | [], acc, _, h => ⟨hc, fun p hp => by have := h p hp; rwa [List.filter_nil, List.append_nil] at this⟩
  | x :: xs, acc, hs, h => ⟨hc, hs x (by simp) _ (by
      by_cases hf : f x = true
      · rw [if_pos hf]
        refine compW_filt hc (fun d hd => hs d (by simp [hd])) fun p hp => ?_
        have := h p hp
        rw [List.filter_cons, if_pos hf] at this
        simpa [Option.toList] using this
      · rw [if_neg hf]
        refine compW_filt hc (fun d hd => hs d (by simp [hd])) fun p hp => ?_
        have := h p hp
        rw [List.filter_cons, if_neg hf] at this
        simpa [Option.toList] using this)⟩
theorem h_4 {G : Gm} (h19 : G.fn 19 = spWay) (h36 : G.fn 36 = spHW) (h40 : G.fn 40 = spCount) (h43 : G.fn 43 = spSm) {L : Ln} (o : OkL L) (bl : BL L) {k : Nat} {m n e f u v : Int} (h : Hm L k m n e f u v) (bk : Bd 148 (k : Int)) {S : Sto} {Q : VK} {X : XK} {r : Nat} {o5 o6 o7 o8 o11 o12 o13 o14 o15 o16 o17 o18 o19 : Option D} (er : S r = some (.lst [.int (dr L.x L.p L.a (sts L (k + 1)).n), .int (dr L.y L.q L.c (sts L (k + 1)).m)])) (hq : ∀ S', Ext S S' → Q (.bl true) S') :
    wpSs G _law_hit_right_A0 [some (prD L.a L.c), some (shD L.x L.y L.p L.q), some (.int (k : Int)), some (prD m n), some (.str (wordT L (sts L k))), o5, o6, o7, o8, some (.ref r), some (.str (wordT L (sts L k))), o11, o12, o13, o14, o15, o16, o17, o18, o19] S (kR Q X) := by
  obtain ⟨on1, on2⟩ := sh_on o bl h
  have at1 : At L (k + 1) m n := at_congr (at_hit o (k + 1)) h.n0 h.now.symm
  simp only [_law_hit_right_A0, wpSs, wpS, wpE, wpEs, wpC, wpAnd, wpOr, wpO, wpIt, opt_some, onI_int, onB_bl, onR_ref, arg1_one, look, joinO, start, List.map_cons, List.map_nil, List.length_cons, List.length_nil, List.replicate, List.cons_append, List.nil_append, List.append_nil, List.getElem?_cons_succ, List.getElem?_cons_zero, kcD, Nat.reduceAdd, Nat.reduceSub, br_t, br_f, br_n, asg, setAll, List.set_cons_succ, List.set_cons_zero, tgs, wipe, eq_ii, ne_ii, lt_ii, le_ii, gt_ii, ge_ii, is_n, isn_n, is_b, isn_b, add_ii, sub_ii, mul_ii, mod_ii, fdiv_ii, pow_ii, isNon, biD, intD_i, intD_b, esLen, beq_self_eq_true, ixD_tup, lsOf_new, seqD_tup, seqD_fl, slD_tup, bools, Option.map_some, true_and, ixD_fl, lenD_tup, lenD_fl, ix30, ix31, ix32, at20, at21, at30, at31, at32, List.filterMap_cons, List.filterMap_nil, seqD_str, compW, Option.toList, bne_self_eq_false]
  rw [ne_ss, eq_ss]
  refine br_if (fun z => absurd z (by simp)) fun _ => ?_
  refine br_if (fun z => absurd (by simpa using z) (word_ne (s := sts L k) o)) fun _ => ?_
  refine call h19 ⟨L.a, L.c, L.x, L.y, L.p, L.q, m, n, rfl, on1, fun S1 k1 => ?_⟩
  have e1 : sqOf S1 (.ref r) = some [.int (dr L.x L.p L.a (sts L (k + 1)).n), .int (dr L.y L.q L.c (sts L (k + 1)).m)] := lstAt_eq (k1 _ _ er)
  simp only [e1, opt_some, ways_at o at1]
  refine call h43 ⟨11, by decide, _, _, rfl, sm_pr, fun S2 k2 => ?_⟩
  simp only [wpSs, wpS, wpE, wpEs, wpC, wpAnd, wpOr, wpO, wpIt, opt_some, onI_int, onB_bl, onR_ref, arg1_one, look, joinO, start, List.map_cons, List.map_nil, List.length_cons, List.length_nil, List.replicate, List.cons_append, List.nil_append, List.append_nil, List.getElem?_cons_succ, List.getElem?_cons_zero, kcD, Nat.reduceAdd, Nat.reduceSub, br_t, br_f, br_n, asg, setAll, List.set_cons_succ, List.set_cons_zero, tgs, wipe, eq_ii, ne_ii, lt_ii, le_ii, gt_ii, ge_ii, is_n, isn_n, is_b, isn_b, add_ii, sub_ii, mul_ii, mod_ii, fdiv_ii, pow_ii, isNon, biD, intD_i, intD_b, esLen, beq_self_eq_true, ixD_tup, lsOf_new, seqD_tup, seqD_fl, slD_tup, bools, Option.map_some, true_and, ixD_fl, lenD_tup, lenD_fl, ix30, ix31, ix32, at20, at21, at30, at31, at32, List.filterMap_cons, List.filterMap_nil]
  refine ⟨len_lim (by decide), ?_⟩
  refine cu_call h40 o on1 at1 87 isl.1 fun S3 k3 => ?_
  refine cu_call h40 o on1 at1 69 isl.2.1 fun S4 k4 => ?_
  refine cu_call h40 o on1 at1 83 isl.2.2.1 fun S5 k5 => ?_
  refine cu_call h40 o on1 at1 78 isl.2.2.2 fun S6 k6 => ?_
  intro p hp
  have ep : (upd S6 p (.lst [.int (cntW L (k + 1) 87), .int (cntW L (k + 1) 69), .int (cntW L (k + 1) 83), .int (cntW L (k + 1) 78)])) p = some (.lst [.int (cntW L (k + 1) 87), .int (cntW L (k + 1) 69), .int (cntW L (k + 1) 83), .int (cntW L (k + 1) 78)]) := upd_at
  have k7 : Ext S6 (upd S6 p (.lst [.int (cntW L (k + 1) 87), .int (cntW L (k + 1) 69), .int (cntW L (k + 1) 83), .int (cntW L (k + 1) 78)])) := Ext.new hp
  generalize upd S6 p (.lst [.int (cntW L (k + 1) 87), .int (cntW L (k + 1) 69), .int (cntW L (k + 1) 83), .int (cntW L (k + 1) 78)]) = S7 at *
  have k17 := (((((k1.trans k2).trans k3).trans k4).trans k5).trans k6).trans k7
  have ei : intsD [.int (cntW L (k + 1) 87), .int (cntW L (k + 1) 69), .int (cntW L (k + 1) 83), .int (cntW L (k + 1) 78)] = some [(cntW L (k + 1) 87 : Int), cntW L (k + 1) 69, cntW L (k + 1) 83, cntW L (k + 1) 78] := rfl
  have es : [(cntW L (k + 1) 87 : Int), cntW L (k + 1) 69, cntW L (k + 1) 83, cntW L (k + 1) 78].sum = (k : Int) + 1 + zc L (k + 1) := by
    have := parts_sum o (k + 1)
    show (cntW L (k + 1) 87 : Int) + (cntW L (k + 1) 69 + (cntW L (k + 1) 83 + (cntW L (k + 1) 78 + 0))) = _
    omega
  refine br_d (fun hk => ?_) fun hk => ?_
  · have ek : (k : Int) + 1 = ((k + 1 : Nat) : Int) := by omega
    rw [ek]
    refine call h36 ⟨L, k + 1, rfl, o, bl, by omega, fun f S8 k8 ef => ?_⟩
    simp only [seqD_ref ef]
    refine ⟨len_lim (by unfold words; simp; omega), ?_⟩
    refine compW_filt (f := isTwo) ef (fun d hd kk hh => ?_) fun g hg => ?_
    · unfold words at hd
      obtain ⟨j, _, rfl⟩ := List.mem_map.mp hd
      have hh : kk (if ((wordT L (sts L j)).length == 2) = true then some (.str (wordT L (sts L j))) else none) S8 := hh
      have wl : (wordT L (sts L j)).length ≤ 2 := by
        unfold wordT
        cases hit1 L (sts L j) <;> cases hit2 L (sts L j) <;> simp
      show (wordT L (sts L j)).length ≤ lim ∧ cmpD .eq (.int ((wordT L (sts L j)).length : Nat)) (.int 2) S8 _
      refine ⟨Nat.le_trans wl (len_lim (by decide)), ?_⟩
      refine eq_dec' (u := .int _) (v := .int 2) (.inr trivial) (.inr trivial) fun Bv hB => ?_
      refine br_if (fun z => ?_) fun z => ?_
      · have : ((wordT L (sts L j)).length == 2) = true := by
          have := hB.mp z
          injection this with this
          simp; omega
        rw [if_pos this] at hh; exact hh
      · have : ¬ ((wordT L (sts L j)).length == 2) = true := fun y => by
          have y : (wordT L (sts L j)).length = 2 := by simpa using y
          rw [hB.mpr (by rw [y]; rfl)] at z; cases z
        rw [if_neg this] at hh; exact hh
    · have eg : (upd S8 g (.lst ([] ++ (words L (k + 1)).filter isTwo))) g = some (.lst ((words L (k + 1)).filter isTwo)) := upd_at
      have k9 : Ext S8 (upd S8 g (.lst ([] ++ (words L (k + 1)).filter isTwo))) := Ext.new hg
      generalize upd S8 g (.lst ([] ++ (words L (k + 1)).filter isTwo)) = S9 at *
      have e7 : sqOf S9 (.ref p) = some _ := lstAt_eq (k9 _ _ (k8 _ _ ep))
      simp only [e7, opt_some, ei, es, wpSs, wpS, wpE, wpEs, wpC, wpAnd, wpOr, wpO, wpIt, opt_some, onI_int, onB_bl, onR_ref, arg1_one, look, joinO, start, List.map_cons, List.map_nil, List.length_cons, List.length_nil, List.replicate, List.cons_append, List.nil_append, List.append_nil, List.getElem?_cons_succ, List.getElem?_cons_zero, kcD, Nat.reduceAdd, Nat.reduceSub, br_t, br_f, br_n, asg, setAll, List.set_cons_succ, List.set_cons_zero, tgs, wipe, eq_ii, ne_ii, lt_ii, le_ii, gt_ii, ge_ii, is_n, isn_n, is_b, isn_b, add_ii, sub_ii, mul_ii, mod_ii, fdiv_ii, pow_ii, isNon, biD, intD_i, intD_b, esLen, beq_self_eq_true, ixD_tup, lsOf_new, seqD_tup, seqD_fl, slD_tup, bools, Option.map_some, true_and, ixD_fl, lenD_tup, lenD_fl, ix30, ix31, ix32, at20, at21, at30, at31, at32, List.filterMap_cons, List.filterMap_nil, lenD_ref eg, zc_words]
      have hb : ((k : Int) + 1 + zc L (k + 1) == ((k + 1 : Nat) : Int) + zc L (k + 1)) = true := by simp
      rw [hb]
      exact hq _ ((k17.trans k8).trans k9)
  · have e7 : sqOf S7 (.ref p) = some _ := lstAt_eq ep
    have z0 := zc_nonneg (L := L) (k + 1)
    have z1 := zc_le (L := L) (k + 1)
    simp only [e7, opt_some, ei, es, wpSs, wpS, wpE, wpEs, wpC, wpAnd, wpOr, wpO, wpIt, opt_some, onI_int, onB_bl, onR_ref, arg1_one, look, joinO, start, List.map_cons, List.map_nil, List.length_cons, List.length_nil, List.replicate, List.cons_append, List.nil_append, List.append_nil, List.getElem?_cons_succ, List.getElem?_cons_zero, kcD, Nat.reduceAdd, Nat.reduceSub, br_t, br_f, br_n, asg, setAll, List.set_cons_succ, List.set_cons_zero, tgs, wipe, eq_ii, ne_ii, lt_ii, le_ii, gt_ii, ge_ii, is_n, isn_n, is_b, isn_b, add_ii, sub_ii, mul_ii, mod_ii, fdiv_ii, pow_ii, isNon, biD, intD_i, intD_b, esLen, beq_self_eq_true, ixD_tup, lsOf_new, seqD_tup, seqD_fl, slD_tup, bools, Option.map_some, true_and, ixD_fl, lenD_tup, lenD_fl, ix30, ix31, ix32, at20, at21, at30, at31, at32, List.filterMap_cons, List.filterMap_nil]
    refine br_d (fun _ => ⟨bd2.sm (by decide), bk.sm (by decide), ?_⟩) fun z => absurd z (by omega)
    have hb : decide ((k : Int) + 1 + zc L (k + 1) ≤ 2 * k + 2) = true := decide_eq_true (by omega)
    rw [hb]
    exact hq _ k17
def spHR : Sp := fun ds S Q _ => ∃ L, ∃ k : Nat, ds = [prD (Ln.a L) L.c, shD L.x L.y L.p L.q, .int (k : Int)] ∧ OkL L ∧ BL L ∧ Bd 148 (k : Int) ∧ ∀ S', Ext S S' → Q (.bl true) S'
theorem txt_hr {G : Gm} {ds : List D} {S0 : Sto} {Q : VK} {X : XK} {b : Ss} (hb : b = _law_hit_right_T) (h18 : G.fn 18 = spPlace) (h19 : G.fn 19 = spWay) (h34 : G.fn 34 = spHits) (h35 : G.fn 35 = spNth) (h36 : G.fn 36 = spHW) (h40 : G.fn 40 = spCount) (h43 : G.fn 43 = spSm) (h47 : G.fn 47 = spMid) (h : spHR ds S0 Q X) : ds.length = 3 ∧ wpSs G b (start 20 ds) S0 (kR Q X) := by
  obtain ⟨L, k, rfl, o, bl, bk, hq⟩ := h
  subst hb
  refine ⟨rfl, ?_⟩
  unfold _law_hit_right_T
  refine h_1 h35 h47 o bl bk fun m n e f u v S1 k1 hm => ?_
  refine h_2 h18 h19 h34 h43 o bl hm fun r S2 nr k2 er => ?_
  refine h_3 o er fun o11 o12 o14 o15 o16 S3 k3 er3 => ?_
  have x13 : Ext S1 S3 := fun z ob e => k3 z ob (fun y => by rw [y, nr] at e; cases e) (k2 z ob e)
  exact h_4 h19 h36 h40 h43 o bl hm bk er3 fun S4 k4 => hq _ ((k1.trans x13).trans k4)
end M
namespace M
def _law_later_right_B0 : Ss := (.cons (.set (.tup [6, 7, 8]) (.call 35 (.cons (.v 0) (.cons (.v 1) (.cons (.bin .add (.v 4) (.v 5)) .nil))))) (.cons (.set (.v 9) (.call 35 (.cons (.v 0) (.cons (.v 3) (.cons (.v 5) .nil))))) (.cons (.if_ (.not (.call 43 (.cons (.v 9) (.cons (.tup (.cons (.call 46 (.cons (.bin .sub (.ix (.v 6) (.k (.int 0))) (.bin .mul (.v 2) (.ix (.v 6) (.k (.int 1))))) (.cons (.ix (.v 6) (.k (.int 1))) .nil))) (.cons (.v 7) (.cons (.v 8) .nil)))) .nil)))) (.cons (.ret (.k (.bl false))) .nil) .nil) .nil)))
def _law_later_right_S0 : St := (.for_ (.v 5) (.rng (.k (.int 3))) _law_later_right_B0)
def _law_later_right_A0 : Ss := (.cons (.ret (.cmp .eq (.call 34 (.cons (.v 0) (.cons (.v 3) (.cons (.tup (.cons (.v 2) (.cons (.k (.int 1)) .nil))) .nil)))) (.bin .sub (.call 34 (.cons (.v 0) (.cons (.v 1) (.cons (.tup (.cons (.bin .mul (.k (.int 2)) (.v 2)) (.cons (.k (.int 1)) .nil))) .nil)))) (.v 4)))) .nil)
def _law_later_right_T : Ss := (.cons (.set (.v 3) (.call 20 (.cons (.v 0) (.cons (.v 1) (.cons (.tup (.cons (.v 2) (.cons (.k (.int 1)) .nil))) .nil))))) (.cons (.set (.v 4) (.call 34 (.cons (.v 0) (.cons (.v 1) (.cons (.tup (.cons (.v 2) (.cons (.k (.int 1)) .nil))) .nil))))) (.cons (.if_ (.cmp .is_ (.v 3) (.k .non)) (.cons (.ret (.k (.bl false))) .nil) .nil) (.cons (.if_ (.not (.call 43 (.cons (.call 18 (.cons (.v 0) (.cons (.v 1) (.cons (.tup (.cons (.v 2) (.cons (.k (.int 1)) .nil))) .nil)))) (.cons (.tup (.cons (.tup (.cons (.ix (.v 3) (.k (.int 0))) (.cons (.k (.int 1)) .nil))) (.cons (.tup (.cons (.ix (.v 3) (.k (.int 1))) (.cons (.k (.int 1)) .nil))) .nil))) .nil)))) (.cons (.ret (.k (.bl false))) .nil) .nil) (.cons _law_later_right_S0 _law_later_right_A0)))))
theorem shot_later {L : Ln} (o : OkL L) {N : Nat} {w : Int} (h : At L N w 1) : shotD L.a L.c L.x L.y L.p L.q w 1 = shD (later L N w).x (later L N w).y (later L N w).p (later L N w).q ∧ placeD L.a L.c L.x L.y L.p L.q w 1 = .tup [prD (later L N w).x 1, prD (later L N w).y 1] := by
  have f1 : foldT L.a (L.x * 1 + L.p * w) 1 = (later L N w).x := fold_st o.a0 (by decide) o.x0 o.x1 (li_at1 o h)
  have f2 : foldT L.c (L.y * 1 + L.q * w) 1 = (later L N w).y := fold_st o.c0 (by decide) o.y0 o.y1 (li_at2 o h)
  have g1 : wayN L.a (L.x * 1 + L.p * w) 1 L.p = (later L N w).p := way_st o.a0 (by decide) (li_at1 o h)
  have g2 : wayN L.c (L.y * 1 + L.q * w) 1 L.q = (later L N w).q := way_st o.c0 (by decide) (li_at2 o h)
  constructor
  · unfold shotD
    rw [f1, f2, low_one, low_one, g1, g2]
    rfl
  · unfold placeD
    rw [f1, f2, low_one, low_one]
def spLR : Sp := fun ds S Q _ => ∃ L w, ds = [prD (Ln.a L) L.c, shD L.x L.y L.p L.q, .int w] ∧ OkL L ∧ BL L ∧ 0 ≤ w ∧ w ≤ 10000000000 ∧ av L.p ≤ 10000000000000 ∧ av L.q ≤ 10000000000000 ∧ ∀ S', Ext S S' → Q (.bl true) S'
theorem txt_lr {G : Gm} {ds : List D} {S0 : Sto} {Q : VK} {X : XK} {b : Ss} (hb : b = _law_later_right_T) (h18 : G.fn 18 = spPlace) (h20 : G.fn 20 = spShotAt) (h34 : G.fn 34 = spHits) (h35 : G.fn 35 = spNth) (h43 : G.fn 43 = spSm) (h46 : G.fn 46 = spLow) (h : spLR ds S0 Q X) : ds.length = 3 ∧ wpSs G b (start 10 ds) S0 (kR Q X) := by
  obtain ⟨L, w, rfl, o, bl, w0, w1, vp, vq, hq⟩ := h
  subst hb
  refine ⟨rfl, ?_⟩
  have l2 : 2 ≤ lim := len_lim (by decide)
  obtain ⟨N, hN⟩ := at_all o w0 (b := 1) (by decide)
  have bw : Bd 40 w := bd_of' w0 (by omega)
  have onw : On L.a L.c L.x L.y L.p L.q w 1 := on_of o bl (by rw [part_of, Int.gcd_one_right]; rfl) (by decide) (bw.up (by decide)) (lt_two 8 (by decide) (by decide))
  obtain ⟨es, ep⟩ := shot_later o hN
  have nb := at_bd o hN w0
  have np : av L.p * w ≤ 10000000000000 * 10000000000 := Int.mul_le_mul vp w1 w0 (by decide)
  have nq : av L.q * w ≤ 10000000000000 * 10000000000 := Int.mul_le_mul vq w1 w0 (by decide)
  generalize hS : _law_later_right_S0 = s0
  generalize hA : _law_later_right_A0 = a0'
  simp only [_law_later_right_T, hS, hA, wpSs, wpS, wpE, wpEs, wpC, wpAnd, wpOr, wpO, wpIt, opt_some, onI_int, onB_bl, onR_ref, arg1_one, look, joinO, start, List.map_cons, List.map_nil, List.length_cons, List.length_nil, List.replicate, List.cons_append, List.nil_append, List.append_nil, List.getElem?_cons_succ, List.getElem?_cons_zero, kcD, Nat.reduceAdd, Nat.reduceSub, br_t, br_f, br_n, asg, setAll, List.set_cons_succ, List.set_cons_zero, tgs, wipe, eq_ii, ne_ii, lt_ii, le_ii, gt_ii, ge_ii, is_n, isn_n, is_b, isn_b, add_ii, sub_ii, mul_ii, mod_ii, fdiv_ii, pow_ii, isNon, biD, intD_i, intD_b, esLen, beq_self_eq_true, ixD_tup, lsOf_new, seqD_tup, seqD_fl, slD_tup, bools, Option.map_some, true_and, ixD_fl, lenD_tup, lenD_fl, ix30, ix31, ix32, at20, at21, at30, at31, at32, List.filterMap_cons, List.filterMap_nil]
  refine ⟨l2, call h20 ⟨L.a, L.c, L.x, L.y, L.p, L.q, w, 1, rfl, onw, fun S1 k1 => ?_⟩⟩
  simp only [es, wpSs, wpS, wpE, wpEs, wpC, wpAnd, wpOr, wpO, wpIt, opt_some, onI_int, onB_bl, onR_ref, arg1_one, look, joinO, start, List.map_cons, List.map_nil, List.length_cons, List.length_nil, List.replicate, List.cons_append, List.nil_append, List.append_nil, List.getElem?_cons_succ, List.getElem?_cons_zero, kcD, Nat.reduceAdd, Nat.reduceSub, br_t, br_f, br_n, asg, setAll, List.set_cons_succ, List.set_cons_zero, tgs, wipe, eq_ii, ne_ii, lt_ii, le_ii, gt_ii, ge_ii, is_n, isn_n, is_b, isn_b, add_ii, sub_ii, mul_ii, mod_ii, fdiv_ii, pow_ii, isNon, biD, intD_i, intD_b, esLen, beq_self_eq_true, ixD_tup, lsOf_new, seqD_tup, seqD_fl, slD_tup, bools, Option.map_some, true_and, ixD_fl, lenD_tup, lenD_fl, ix30, ix31, ix32, at20, at21, at30, at31, at32, List.filterMap_cons, List.filterMap_nil]
  refine ⟨l2, hits_at h34 o onw hN fun S2 k2 => ?_⟩
  refine ⟨l2, call h18 ⟨L.a, L.c, L.x, L.y, L.p, L.q, w, 1, rfl, onw, fun S3 k3 => ?_⟩⟩
  have a0 : atI [D.int (later L N w).x, .int (later L N w).y, .int (later L N w).p, .int (later L N w).q] 0 = some (.int (later L N w).x) := rfl
  have a1 : atI [D.int (later L N w).x, .int (later L N w).y, .int (later L N w).p, .int (later L N w).q] 1 = some (.int (later L N w).y) := rfl
  simp only [a0, a1, opt_some, ep]
  refine ⟨l2, l2, l2, call h43 ⟨11, by decide, _, _, rfl, sm_pair sm_pr sm_pr, fun S4 k4 => ?_⟩⟩
  simp only [wpSs, wpS, wpE, wpEs, wpC, wpAnd, wpOr, wpO, wpIt, opt_some, onI_int, onB_bl, onR_ref, arg1_one, look, joinO, start, List.map_cons, List.map_nil, List.length_cons, List.length_nil, List.replicate, List.cons_append, List.nil_append, List.append_nil, List.getElem?_cons_succ, List.getElem?_cons_zero, kcD, Nat.reduceAdd, Nat.reduceSub, br_t, br_f, br_n, asg, setAll, List.set_cons_succ, List.set_cons_zero, tgs, wipe, eq_ii, ne_ii, lt_ii, le_ii, gt_ii, ge_ii, is_n, isn_n, is_b, isn_b, add_ii, sub_ii, mul_ii, mod_ii, fdiv_ii, pow_ii, isNon, biD, intD_i, intD_b, esLen, beq_self_eq_true, ixD_tup, lsOf_new, seqD_tup, seqD_fl, slD_tup, bools, Option.map_some, true_and, ixD_fl, lenD_tup, lenD_fl, ix30, ix31, ix32, at20, at21, at30, at31, at32, List.filterMap_cons, List.filterMap_nil]
  subst hS hA
  simp only [_law_later_right_S0, wpSs, wpS, wpE, wpEs, wpC, wpAnd, wpOr, wpO, wpIt, opt_some, onI_int, onB_bl, onR_ref, arg1_one, look, joinO, start, List.map_cons, List.map_nil, List.length_cons, List.length_nil, List.replicate, List.cons_append, List.nil_append, List.append_nil, List.getElem?_cons_succ, List.getElem?_cons_zero, kcD, Nat.reduceAdd, Nat.reduceSub, br_t, br_f, br_n, asg, setAll, List.set_cons_succ, List.set_cons_zero, tgs, wipe, eq_ii, ne_ii, lt_ii, le_ii, gt_ii, ge_ii, is_n, isn_n, is_b, isn_b, add_ii, sub_ii, mul_ii, mod_ii, fdiv_ii, pow_ii, isNon, biD, intD_i, intD_b, esLen, beq_self_eq_true, ixD_tup, lsOf_new, seqD_tup, seqD_fl, slD_tup, bools, Option.map_some, true_and, ixD_fl, lenD_tup, lenD_fl, ix30, ix31, ix32, at20, at21, at30, at31, at32, List.filterMap_cons, List.filterMap_nil]
  refine ⟨by decide, by decide, by decide, by decide, ?_⟩
  have o' := later_ok o hN
  have bl' := later_bl o bl hN
  refine rng_ok (fun j ρ S' => Ext S4 S' ∧ ∃ o5 o6 o7 o8 o9, ρ = [some (prD L.a L.c), some (shD L.x L.y L.p L.q), some (.int w), some (shD (later L N w).x (later L N w).y (later L N w).p (later L N w).q), some (.int N), o5, o6, o7, o8, o9]) ⟨Ext.refl, _, _, _, _, _, rfl⟩ ?_ ?_
  · rintro j ρ S5 nx' hlt ⟨k5, o5, o6, o7, o8, o9, rfl⟩ hnx
    refine ⟨trivial, ?_⟩
    have ej : (0 : Int) + j = (j : Int) := by omega
    rw [ej]
    have eN : (N : Int) + j = ((N + j : Nat) : Int) := by omega
    simp only [_law_later_right_B0, wpSs, wpS, wpE, wpEs, wpC, wpAnd, wpOr, wpO, wpIt, opt_some, onI_int, onB_bl, onR_ref, arg1_one, look, joinO, start, List.map_cons, List.map_nil, List.length_cons, List.length_nil, List.replicate, List.cons_append, List.nil_append, List.append_nil, List.getElem?_cons_succ, List.getElem?_cons_zero, kcD, Nat.reduceAdd, Nat.reduceSub, br_t, br_f, br_n, asg, setAll, List.set_cons_succ, List.set_cons_zero, tgs, wipe, eq_ii, ne_ii, lt_ii, le_ii, gt_ii, ge_ii, is_n, isn_n, is_b, isn_b, add_ii, sub_ii, mul_ii, mod_ii, fdiv_ii, pow_ii, isNon, biD, intD_i, intD_b, esLen, beq_self_eq_true, ixD_tup, lsOf_new, seqD_tup, seqD_fl, slD_tup, bools, Option.map_some, true_and, ixD_fl, lenD_tup, lenD_fl, ix30, ix31, ix32, at20, at21, at30, at31, at32, List.filterMap_cons, List.filterMap_nil, eN]
    have bN : Bd 149 (((N + j : Nat) : Int)) := bd_of' (k := 149) (by omega) (by omega)
    refine call h35 ⟨L.a, L.c, L.x, L.y, L.p, L.q, N + j, rfl, o, bl, bN, fun S6 k6 => ?_⟩
    obtain ⟨m, n, el, eD, e1, n0, m0, bm, bn, pn⟩ := ent_far o bl bN
    have eg : entD ⟨L.a, L.c, L.x, L.y, L.p, L.q⟩ (sts ⟨L.a, L.c, L.x, L.y, L.p, L.q⟩ (N + j)) = .tup [prD m n, .str (wordT L (sts L (N + j))), goalD L (N + j)] := by
      rw [← el]; rfl
    simp only [eg, wpSs, wpS, wpE, wpEs, wpC, wpAnd, wpOr, wpO, wpIt, opt_some, onI_int, onB_bl, onR_ref, arg1_one, look, joinO, start, List.map_cons, List.map_nil, List.length_cons, List.length_nil, List.replicate, List.cons_append, List.nil_append, List.append_nil, List.getElem?_cons_succ, List.getElem?_cons_zero, kcD, Nat.reduceAdd, Nat.reduceSub, br_t, br_f, br_n, asg, setAll, List.set_cons_succ, List.set_cons_zero, tgs, wipe, eq_ii, ne_ii, lt_ii, le_ii, gt_ii, ge_ii, is_n, isn_n, is_b, isn_b, add_ii, sub_ii, mul_ii, mod_ii, fdiv_ii, pow_ii, isNon, biD, intD_i, intD_b, esLen, beq_self_eq_true, ixD_tup, lsOf_new, seqD_tup, seqD_fl, slD_tup, bools, Option.map_some, true_and, ixD_fl, lenD_tup, lenD_fl, ix30, ix31, ix32, at20, at21, at30, at31, at32, List.filterMap_cons, List.filterMap_nil]
    refine call h35 ⟨L.a, L.c, (later L N w).x, (later L N w).y, (later L N w).p, (later L N w).q, j, rfl, o', bl', bd_of' (k := 149) (by omega) (by omega), fun S7 k7 => ?_⟩
    obtain ⟨b1, t1, w1', m1, m2⟩ := later_st o hN j
    have eg2 : entD ⟨L.a, L.c, (later L N w).x, (later L N w).y, (later L N w).p, (later L N w).q⟩ (sts ⟨L.a, L.c, (later L N w).x, (later L N w).y, (later L N w).p, (later L N w).q⟩ j) = .tup [low (m - w * n) n, .str (wordT L (sts L (N + j))), goalD L (N + j)] := by
      show D.tup [low (sts (later L N w) (j + 1)).t (sts (later L N w) (j + 1)).b, .str (wordT (later L N w) (sts (later L N w) j)), .tup [low (mk1 (later L N w) (sts (later L N w) (j + 1))) (sts (later L N w) (j + 1)).b, low (mk2 (later L N w) (sts (later L N w) (j + 1))) (sts (later L N w) (j + 1)).b]] = _
      rw [b1, t1, w1', m1, m2]
      have : low ((sts L (N + j + 1)).t - w * (sts L (N + j + 1)).b) (sts L (N + j + 1)).b = low (m - w * n) n := by
        refine low_eq (st_inv o _).b0 n0 ?_
        have x1 : (m - w * n) * (sts L (N + j + 1)).b = m * (sts L (N + j + 1)).b - w * n * (sts L (N + j + 1)).b := by grind
        rw [x1, e1]; grind
      rw [this]
      rfl
    simp only [eg2, wpSs, wpS, wpE, wpEs, wpC, wpAnd, wpOr, wpO, wpIt, opt_some, onI_int, onB_bl, onR_ref, arg1_one, look, joinO, start, List.map_cons, List.map_nil, List.length_cons, List.length_nil, List.replicate, List.cons_append, List.nil_append, List.append_nil, List.getElem?_cons_succ, List.getElem?_cons_zero, kcD, Nat.reduceAdd, Nat.reduceSub, br_t, br_f, br_n, asg, setAll, List.set_cons_succ, List.set_cons_zero, tgs, wipe, eq_ii, ne_ii, lt_ii, le_ii, gt_ii, ge_ii, is_n, isn_n, is_b, isn_b, add_ii, sub_ii, mul_ii, mod_ii, fdiv_ii, pow_ii, isNon, biD, intD_i, intD_b, esLen, beq_self_eq_true, ixD_tup, lsOf_new, seqD_tup, seqD_fl, slD_tup, bools, Option.map_some, true_and, ixD_fl, lenD_tup, lenD_fl, ix30, ix31, ix32, at20, at21, at30, at31, at32, List.filterMap_cons, List.filterMap_nil]
    refine ⟨(bw.up (show 40 ≤ 365 by decide)).sm (by decide), bn.sm (by decide), call h46 ⟨_, _, rfl, n0, bn.up (by decide), ?_⟩⟩
    refine ⟨len_lim (by decide), call h43 ⟨11, by decide, _, _, rfl, ⟨rfl, by show 3 ≤ 1000; decide, fun y hy => ?_⟩, fun S8 k8 => ?_⟩⟩
    · simp only [List.mem_cons, List.not_mem_nil, or_false] at hy
      rcases hy with rfl | rfl | rfl
      · exact sm_pr
      · show wordT L (sts L (N + j)) = wordT L (sts L (N + j)); rfl
      · exact sm_goal
    · simp only [wpSs, wpS, wpE, wpEs, wpC, wpAnd, wpOr, wpO, wpIt, opt_some, onI_int, onB_bl, onR_ref, arg1_one, look, joinO, start, List.map_cons, List.map_nil, List.length_cons, List.length_nil, List.replicate, List.cons_append, List.nil_append, List.append_nil, List.getElem?_cons_succ, List.getElem?_cons_zero, kcD, Nat.reduceAdd, Nat.reduceSub, br_t, br_f, br_n, asg, setAll, List.set_cons_succ, List.set_cons_zero, tgs, wipe, eq_ii, ne_ii, lt_ii, le_ii, gt_ii, ge_ii, is_n, isn_n, is_b, isn_b, add_ii, sub_ii, mul_ii, mod_ii, fdiv_ii, pow_ii, isNon, biD, intD_i, intD_b, esLen, beq_self_eq_true, ixD_tup, lsOf_new, seqD_tup, seqD_fl, slD_tup, bools, Option.map_some, true_and, ixD_fl, lenD_tup, lenD_fl, ix30, ix31, ix32, at20, at21, at30, at31, at32, List.filterMap_cons, List.filterMap_nil]
      exact hnx _ _ ⟨((k5.trans k6).trans k7).trans k8, _, _, _, _, _, rfl⟩
  · rintro ρ S5 ⟨k5, o5, o6, o7, o8, o9, rfl⟩
    refine ⟨trivial, ?_⟩
    simp only [_law_later_right_A0, wpSs, wpS, wpE, wpEs, wpC, wpAnd, wpOr, wpO, wpIt, opt_some, onI_int, onB_bl, onR_ref, arg1_one, look, joinO, start, List.map_cons, List.map_nil, List.length_cons, List.length_nil, List.replicate, List.cons_append, List.nil_append, List.append_nil, List.getElem?_cons_succ, List.getElem?_cons_zero, kcD, Nat.reduceAdd, Nat.reduceSub, br_t, br_f, br_n, asg, setAll, List.set_cons_succ, List.set_cons_zero, tgs, wipe, eq_ii, ne_ii, lt_ii, le_ii, gt_ii, ge_ii, is_n, isn_n, is_b, isn_b, add_ii, sub_ii, mul_ii, mod_ii, fdiv_ii, pow_ii, isNon, biD, intD_i, intD_b, esLen, beq_self_eq_true, ixD_tup, lsOf_new, seqD_tup, seqD_fl, slD_tup, bools, Option.map_some, true_and, ixD_fl, lenD_tup, lenD_fl, ix30, ix31, ix32, at20, at21, at30, at31, at32, List.filterMap_cons, List.filterMap_nil]
    obtain ⟨J, hJ⟩ := at_all o' w0 (b := 1) (by decide)
    have at2 := later_at o w0 hN hJ
    have on2 : On (later L N w).a (later L N w).c (later L N w).x (later L N w).y (later L N w).p (later L N w).q w 1 := on_of o' bl' (by rw [part_of, Int.gcd_one_right]; rfl) (by decide) (bw.up (by decide)) (lt_two 8 (by decide) (by decide))
    have b2w : Bd 42 (2 * w) := bd2.mul bw
    have on3 : On L.a L.c L.x L.y L.p L.q (2 * w) 1 := on_of o bl (by rw [part_of, Int.gcd_one_right]; rfl) (by decide) (b2w.up (by decide)) (lt_two 8 (by decide) (by decide))
    refine ⟨l2, hits_at (L := later L N w) h34 o' on2 hJ fun S6 k6 => ?_⟩
    try simp only [wpSs, wpS, wpE, wpEs, wpC, wpAnd, wpOr, wpO, wpIt, opt_some, onI_int, onB_bl, onR_ref, arg1_one, look, joinO, start, List.map_cons, List.map_nil, List.length_cons, List.length_nil, List.replicate, List.cons_append, List.nil_append, List.append_nil, List.getElem?_cons_succ, List.getElem?_cons_zero, kcD, Nat.reduceAdd, Nat.reduceSub, br_t, br_f, br_n, asg, setAll, List.set_cons_succ, List.set_cons_zero, tgs, wipe, eq_ii, ne_ii, lt_ii, le_ii, gt_ii, ge_ii, is_n, isn_n, is_b, isn_b, add_ii, sub_ii, mul_ii, mod_ii, fdiv_ii, pow_ii, isNon, biD, intD_i, intD_b, esLen, beq_self_eq_true, ixD_tup, lsOf_new, seqD_tup, seqD_fl, slD_tup, bools, Option.map_some, true_and, ixD_fl, lenD_tup, lenD_fl, ix30, ix31, ix32, at20, at21, at30, at31, at32, List.filterMap_cons, List.filterMap_nil]
    refine ⟨bd2.sm (by decide), bw.sm (by decide), l2, hits_at h34 o on3 at2 fun S7 k7 => ?_⟩
    have eb : ((J : Int) == ((N + J : Nat) : Int) - N) = true := by
      rw [beq_iff_eq]; omega
    simp only [wpSs, wpS, wpE, wpEs, wpC, wpAnd, wpOr, wpO, wpIt, opt_some, onI_int, onB_bl, onR_ref, arg1_one, look, joinO, start, List.map_cons, List.map_nil, List.length_cons, List.length_nil, List.replicate, List.cons_append, List.nil_append, List.append_nil, List.getElem?_cons_succ, List.getElem?_cons_zero, kcD, Nat.reduceAdd, Nat.reduceSub, br_t, br_f, br_n, asg, setAll, List.set_cons_succ, List.set_cons_zero, tgs, wipe, eq_ii, ne_ii, lt_ii, le_ii, gt_ii, ge_ii, is_n, isn_n, is_b, isn_b, add_ii, sub_ii, mul_ii, mod_ii, fdiv_ii, pow_ii, isNon, biD, intD_i, intD_b, esLen, beq_self_eq_true, ixD_tup, lsOf_new, seqD_tup, seqD_fl, slD_tup, bools, Option.map_some, true_and, ixD_fl, lenD_tup, lenD_fl, ix30, ix31, ix32, at20, at21, at30, at31, at32, List.filterMap_cons, List.filterMap_nil, eb]
    exact hq _ ((((((k1.trans k2).trans k3).trans k4).trans k5).trans k6).trans k7)
end M
namespace M
def law_B2 : Ss := (.cons (.if_ (.not (.call 48 (.cons (.v 5) (.cons (.v 6) (.cons (.v 7) .nil))))) (.cons (.ret (.k (.bl false))) .nil) .nil) .nil)
def law_S2 : St := (.for_ (.v 7) (.seq (.tup (.cons (.call 42 (.cons (.v 2) (.cons (.k (.int 4)) .nil))) (.cons (.call 42 (.cons (.v 2) (.cons (.v 4) .nil))) .nil)))) law_B2)
def law_A2 : Ss := (.cons (.if_ (.not (.call 49 (.cons (.v 5) (.cons (.v 6) (.cons (.call 42 (.cons (.v 2) (.cons (.v 4) .nil))) .nil))))) (.cons (.ret (.k (.bl false))) .nil) .nil) .nil)
def law_B1 : Ss := (.cons (.set (.v 5) (.call 44 (.cons (.v 2) (.cons (.v 3) .nil)))) (.cons (.set (.v 6) (.call 45 (.cons (.v 2) (.cons (.v 5) (.cons (.v 3) .nil))))) (.cons law_S2 law_A2)))
def law_S1 : St := (.for_ (.tup [3, 4]) (.seq (.tup (.cons (.tup (.cons (.k (.int 12)) (.cons (.k (.int 40)) .nil))) (.cons (.tup (.cons (.bin .pow (.k (.int 10)) (.k (.int 6))) (.cons (.bin .pow (.k (.int 10)) (.k (.int 9))) .nil))) (.cons (.tup (.cons (.bin .pow (.k (.int 10)) (.k (.int 12))) (.cons (.bin .pow (.k (.int 10)) (.k (.int 9))) .nil))) .nil))))) law_B1)
def law_B0 : Ss := (.cons (.set (.v 2) (.call 41 (.cons (.v 0) (.cons (.v 1) .nil)))) (.cons law_S1 .nil))
def law_S0 : St := (.for_ (.v 1) (.rng (.bi .max (.cons (.k (.int 1)) (.cons (.bi .min (.cons (.k (.int 3)) (.cons (.bi .len (.cons (.v 0) .nil)) .nil))) .nil)))) law_B0)
def law_A0 : Ss := (.cons (.ret (.and (.call 48 (.cons (.tup (.cons (.k (.int 4)) (.cons (.k (.int 2)) .nil))) (.cons (.tup (.cons (.k (.int 1)) (.cons (.k (.int 1)) (.cons (.k (.int 1)) (.cons (.k (.int 1)) .nil))))) (.cons (.k (.int 1)) .nil)))) (.cons (.call 49 (.cons (.tup (.cons (.k (.int 4)) (.cons (.k (.int 2)) .nil))) (.cons (.tup (.cons (.k (.int 0)) (.cons (.k (.int 0)) (.cons (.k (.int 0)) (.cons (.neg (.k (.int 1))) .nil))))) (.cons (.k (.int 7)) .nil)))) .nil))) .nil)
def law_T : Ss := (.cons law_S0 law_A0)
def spLaw : Sp := fun ds S Q _ => ∃ ns : List Int, ds = [.fl (ns.map .int)] ∧ ns.length ≤ 63 ∧ ∀ S', Q (.bl true) S'
theorem turn_l {G : Gm} (h42 : G.fn 42 = spDraw) (h44 : G.fn 44 = spDesk) (h45 : G.fn 45 = spRoll) (h48 : G.fn 48 = spHR) (h49 : G.fn 49 = spLR) {S : Sto} {K : Kt} {w n : Nat} {m f : Int} {o0 o1 o5 o6 o7 : Option D} (m0 : 1 ≤ m) (m1 : m ≤ 1000000000000) (f0 : 1 ≤ f) (f1 : f ≤ 1000000000) (hw : Well n S w) (hn : n + 40 < 2 ^ 57)
    (kk : ∀ o5 o6 o7 S', Well (n + 20) S' w → K.nx [o0, o1, some (.ref w), some (.int m), some (.int f), o5, o6, o7] S') :
    wpSs G law_B1 [o0, o1, some (.ref w), some (.int m), some (.int f), o5, o6, o7] S K := by
  have l2 : 2 ≤ lim := len_lim (by decide)
  generalize hS : law_S2 = s2
  generalize hA : law_A2 = a2
  simp only [law_B1, hS, hA, wpSs, wpS, wpE, wpEs, wpC, wpAnd, wpOr, wpO, wpIt, opt_some, onI_int, onB_bl, onR_ref, arg1_one, look, joinO, start, List.map_cons, List.map_nil, List.length_cons, List.length_nil, List.replicate, List.cons_append, List.nil_append, List.append_nil, List.getElem?_cons_succ, List.getElem?_cons_zero, kcD, Nat.reduceAdd, Nat.reduceSub, br_t, br_f, br_n, asg, setAll, List.set_cons_succ, List.set_cons_zero, tgs, wipe, eq_ii, ne_ii, lt_ii, le_ii, gt_ii, ge_ii, is_n, isn_n, is_b, isn_b, add_ii, sub_ii, mul_ii, mod_ii, fdiv_ii, pow_ii, isNon, biD, intD_i, intD_b, esLen, beq_self_eq_true, ixD_tup, lsOf_new, seqD_tup, seqD_fl, slD_tup, bools, Option.map_some, true_and, ixD_fl, lenD_tup, lenD_fl, ix30, ix31, ix32, at20, at21, at30, at31, at32, List.filterMap_cons, List.filterMap_nil]
  refine call h44 ⟨w, m, n, rfl, by omega, by omega, hw, by omega, fun a c S1 a0 a1 c0 c1 w1 k1 => ?_⟩
  simp only [wpSs, wpS, wpE, wpEs, wpC, wpAnd, wpOr, wpO, wpIt, opt_some, onI_int, onB_bl, onR_ref, arg1_one, look, joinO, start, List.map_cons, List.map_nil, List.length_cons, List.length_nil, List.replicate, List.cons_append, List.nil_append, List.append_nil, List.getElem?_cons_succ, List.getElem?_cons_zero, kcD, Nat.reduceAdd, Nat.reduceSub, br_t, br_f, br_n, asg, setAll, List.set_cons_succ, List.set_cons_zero, tgs, wipe, eq_ii, ne_ii, lt_ii, le_ii, gt_ii, ge_ii, is_n, isn_n, is_b, isn_b, add_ii, sub_ii, mul_ii, mod_ii, fdiv_ii, pow_ii, isNon, biD, intD_i, intD_b, esLen, beq_self_eq_true, ixD_tup, lsOf_new, seqD_tup, seqD_fl, slD_tup, bools, Option.map_some, true_and, ixD_fl, lenD_tup, lenD_fl, ix30, ix31, ix32, at20, at21, at30, at31, at32, List.filterMap_cons, List.filterMap_nil]
  refine call h45 ⟨w, a, c, m, _, rfl, by omega, by omega, a0, by omega, c0, by omega, w1, by omega, fun x y p q S2 x0 x1 y0 y1 hpq p0 p1 q0 q1 w2 k2 => ?_⟩
  subst hS hA
  try simp only [law_S2, wpSs, wpS, wpE, wpEs, wpC, wpAnd, wpOr, wpO, wpIt, opt_some, onI_int, onB_bl, onR_ref, arg1_one, look, joinO, start, List.map_cons, List.map_nil, List.length_cons, List.length_nil, List.replicate, List.cons_append, List.nil_append, List.append_nil, List.getElem?_cons_succ, List.getElem?_cons_zero, kcD, Nat.reduceAdd, Nat.reduceSub, br_t, br_f, br_n, asg, setAll, List.set_cons_succ, List.set_cons_zero, tgs, wipe, eq_ii, ne_ii, lt_ii, le_ii, gt_ii, ge_ii, is_n, isn_n, is_b, isn_b, add_ii, sub_ii, mul_ii, mod_ii, fdiv_ii, pow_ii, isNon, biD, intD_i, intD_b, esLen, beq_self_eq_true, ixD_tup, lsOf_new, seqD_tup, seqD_fl, slD_tup, bools, Option.map_some, true_and, ixD_fl, lenD_tup, lenD_fl, ix30, ix31, ix32, at20, at21, at30, at31, at32, List.filterMap_cons, List.filterMap_nil]
  have big : ∀ i : Int, i.natAbs < 2 ^ 60 → Bd 200 i := fun i h => lt_two 60 h (by decide)
  have o : OkL ⟨a, c, x, y, p, q⟩ := ⟨a0, c0, x0, x1, y0, y1, hpq⟩
  have bl : BL ⟨a, c, x, y, p, q⟩ := ⟨big a (by omega), big c (by omega), big x (by omega), big y (by omega), big p (by omega), big q (by omega)⟩
  have vp : av p ≤ 10000000000000 := by unfold av; omega
  have vq : av q ≤ 10000000000000 := by unfold av; omega
  have bk : ∀ i : Int, 0 ≤ i → i < 2 ^ 60 → Bd 148 i := fun i h1 h2 => lt_two 60 (by omega) (by decide)
  refine call h42 ⟨w, 4, _, rfl, by decide, by decide, w2, by omega, fun r S3 r0 r1 w3 k3 => ?_⟩
  refine call h42 ⟨w, f, _, rfl, by omega, by omega, w3, by omega, fun r' S4 r0' r1' w4 k4 => ?_⟩
  obtain ⟨j, rfl⟩ : ∃ j : Nat, r = j := ⟨r.toNat, by omega⟩
  obtain ⟨j', rfl⟩ : ∃ j : Nat, r' = j := ⟨r'.toNat, by omega⟩
  refine ⟨l2, ?_⟩
  simp only [forW, List.set_cons_succ, List.set_cons_zero, true_and]
  simp only [law_B2, wpSs, wpS, wpE, wpEs, wpC, wpAnd, wpOr, wpO, wpIt, opt_some, onI_int, onB_bl, onR_ref, arg1_one, look, joinO, start, List.map_cons, List.map_nil, List.length_cons, List.length_nil, List.replicate, List.cons_append, List.nil_append, List.append_nil, List.getElem?_cons_succ, List.getElem?_cons_zero, kcD, Nat.reduceAdd, Nat.reduceSub, br_t, br_f, br_n, asg, setAll, List.set_cons_succ, List.set_cons_zero, tgs, wipe, eq_ii, ne_ii, lt_ii, le_ii, gt_ii, ge_ii, is_n, isn_n, is_b, isn_b, add_ii, sub_ii, mul_ii, mod_ii, fdiv_ii, pow_ii, isNon, biD, intD_i, intD_b, esLen, beq_self_eq_true, ixD_tup, lsOf_new, seqD_tup, seqD_fl, slD_tup, bools, Option.map_some, true_and, ixD_fl, lenD_tup, lenD_fl, ix30, ix31, ix32, at20, at21, at30, at31, at32, List.filterMap_cons, List.filterMap_nil]
  refine call h48 ⟨⟨a, c, x, y, p, q⟩, j, rfl, o, bl, bk _ (by omega) (by omega), fun S5 k5 => ?_⟩
  simp only [wpSs, wpS, wpE, wpEs, wpC, wpAnd, wpOr, wpO, wpIt, opt_some, onI_int, onB_bl, onR_ref, arg1_one, look, joinO, start, List.map_cons, List.map_nil, List.length_cons, List.length_nil, List.replicate, List.cons_append, List.nil_append, List.append_nil, List.getElem?_cons_succ, List.getElem?_cons_zero, kcD, Nat.reduceAdd, Nat.reduceSub, br_t, br_f, br_n, asg, setAll, List.set_cons_succ, List.set_cons_zero, tgs, wipe, eq_ii, ne_ii, lt_ii, le_ii, gt_ii, ge_ii, is_n, isn_n, is_b, isn_b, add_ii, sub_ii, mul_ii, mod_ii, fdiv_ii, pow_ii, isNon, biD, intD_i, intD_b, esLen, beq_self_eq_true, ixD_tup, lsOf_new, seqD_tup, seqD_fl, slD_tup, bools, Option.map_some, true_and, ixD_fl, lenD_tup, lenD_fl, ix30, ix31, ix32, at20, at21, at30, at31, at32, List.filterMap_cons, List.filterMap_nil]
  refine call h48 ⟨⟨a, c, x, y, p, q⟩, j', rfl, o, bl, bk _ (by omega) (by omega), fun S6 k6 => ?_⟩
  simp only [law_A2, wpSs, wpS, wpE, wpEs, wpC, wpAnd, wpOr, wpO, wpIt, opt_some, onI_int, onB_bl, onR_ref, arg1_one, look, joinO, start, List.map_cons, List.map_nil, List.length_cons, List.length_nil, List.replicate, List.cons_append, List.nil_append, List.append_nil, List.getElem?_cons_succ, List.getElem?_cons_zero, kcD, Nat.reduceAdd, Nat.reduceSub, br_t, br_f, br_n, asg, setAll, List.set_cons_succ, List.set_cons_zero, tgs, wipe, eq_ii, ne_ii, lt_ii, le_ii, gt_ii, ge_ii, is_n, isn_n, is_b, isn_b, add_ii, sub_ii, mul_ii, mod_ii, fdiv_ii, pow_ii, isNon, biD, intD_i, intD_b, esLen, beq_self_eq_true, ixD_tup, lsOf_new, seqD_tup, seqD_fl, slD_tup, bools, Option.map_some, true_and, ixD_fl, lenD_tup, lenD_fl, ix30, ix31, ix32, at20, at21, at30, at31, at32, List.filterMap_cons, List.filterMap_nil]
  have w6 := (w4.ext k5).ext k6
  refine call h42 ⟨w, f, _, rfl, by omega, by omega, w6, by omega, fun r2 S7 r20 r21 w7 k7 => ?_⟩
  refine call h49 ⟨⟨a, c, x, y, p, q⟩, r2, rfl, o, bl, by omega, by omega, vp, vq, fun S8 k8 => ?_⟩
  simp only [wpSs, wpS, wpE, wpEs, wpC, wpAnd, wpOr, wpO, wpIt, opt_some, onI_int, onB_bl, onR_ref, arg1_one, look, joinO, start, List.map_cons, List.map_nil, List.length_cons, List.length_nil, List.replicate, List.cons_append, List.nil_append, List.append_nil, List.getElem?_cons_succ, List.getElem?_cons_zero, kcD, Nat.reduceAdd, Nat.reduceSub, br_t, br_f, br_n, asg, setAll, List.set_cons_succ, List.set_cons_zero, tgs, wipe, eq_ii, ne_ii, lt_ii, le_ii, gt_ii, ge_ii, is_n, isn_n, is_b, isn_b, add_ii, sub_ii, mul_ii, mod_ii, fdiv_ii, pow_ii, isNon, biD, intD_i, intD_b, esLen, beq_self_eq_true, ixD_tup, lsOf_new, seqD_tup, seqD_fl, slD_tup, bools, Option.map_some, true_and, ixD_fl, lenD_tup, lenD_fl, ix30, ix31, ix32, at20, at21, at30, at31, at32, List.filterMap_cons, List.filterMap_nil]
  exact kk _ _ _ _ ((w7.ext k8).le (by omega))
theorem last_ok {G : Gm} (h48 : G.fn 48 = spHR) (h49 : G.fn 49 = spLR) {S : Sto} {Q : VK} {X : XK} {o0 o1 o2 o3 o4 o5 o6 o7 : Option D} (hq : ∀ S', Q (.bl true) S') : wpSs G law_A0 [o0, o1, o2, o3, o4, o5, o6, o7] S (kR Q X) := by
  have l2 : 2 ≤ lim := len_lim (by decide)
  have l4 : 4 ≤ lim := len_lim (by decide)
  have big : ∀ i : Int, i.natAbs < 2 ^ 60 → Bd 200 i := fun i h => lt_two 60 h (by decide)
  have oA : OkL ⟨4, 2, 1, 1, 1, 1⟩ := ⟨by decide, by decide, by decide, by decide, by decide, by decide, by decide⟩
  have oB : OkL ⟨4, 2, 0, 0, 0, -1⟩ := ⟨by decide, by decide, by decide, by decide, by decide, by decide, by decide⟩
  have bA : BL ⟨4, 2, 1, 1, 1, 1⟩ := ⟨big _ (by decide), big _ (by decide), big _ (by decide), big _ (by decide), big _ (by decide), big _ (by decide)⟩
  have bB : BL ⟨4, 2, 0, 0, 0, -1⟩ := ⟨big _ (by decide), big _ (by decide), big _ (by decide), big _ (by decide), big _ (by decide), big _ (by decide)⟩
  simp only [law_A0, wpSs, wpS, wpE, wpEs, wpC, wpAnd, wpOr, wpO, wpIt, opt_some, onI_int, onB_bl, onR_ref, arg1_one, look, joinO, start, List.map_cons, List.map_nil, List.length_cons, List.length_nil, List.replicate, List.cons_append, List.nil_append, List.append_nil, List.getElem?_cons_succ, List.getElem?_cons_zero, kcD, Nat.reduceAdd, Nat.reduceSub, br_t, br_f, br_n, asg, setAll, List.set_cons_succ, List.set_cons_zero, tgs, wipe, eq_ii, ne_ii, lt_ii, le_ii, gt_ii, ge_ii, is_n, isn_n, is_b, isn_b, add_ii, sub_ii, mul_ii, mod_ii, fdiv_ii, pow_ii, isNon, biD, intD_i, intD_b, esLen, beq_self_eq_true, ixD_tup, lsOf_new, seqD_tup, seqD_fl, slD_tup, bools, Option.map_some, true_and, ixD_fl, lenD_tup, lenD_fl, ix30, ix31, ix32, at20, at21, at30, at31, at32, List.filterMap_cons, List.filterMap_nil]
  refine ⟨l2, l4, call h48 ⟨⟨4, 2, 1, 1, 1, 1⟩, 1, rfl, oA, bA, lt_two 8 (by decide) (by decide), fun S1 k1 => ?_⟩⟩
  simp only [wpSs, wpS, wpE, wpEs, wpC, wpAnd, wpOr, wpO, wpIt, opt_some, onI_int, onB_bl, onR_ref, arg1_one, look, joinO, start, List.map_cons, List.map_nil, List.length_cons, List.length_nil, List.replicate, List.cons_append, List.nil_append, List.append_nil, List.getElem?_cons_succ, List.getElem?_cons_zero, kcD, Nat.reduceAdd, Nat.reduceSub, br_t, br_f, br_n, asg, setAll, List.set_cons_succ, List.set_cons_zero, tgs, wipe, eq_ii, ne_ii, lt_ii, le_ii, gt_ii, ge_ii, is_n, isn_n, is_b, isn_b, add_ii, sub_ii, mul_ii, mod_ii, fdiv_ii, pow_ii, isNon, biD, intD_i, intD_b, esLen, beq_self_eq_true, ixD_tup, lsOf_new, seqD_tup, seqD_fl, slD_tup, bools, Option.map_some, true_and, ixD_fl, lenD_tup, lenD_fl, ix30, ix31, ix32, at20, at21, at30, at31, at32, List.filterMap_cons, List.filterMap_nil]
  refine ⟨l2, l4, call h49 ⟨⟨4, 2, 0, 0, 0, -1⟩, 7, rfl, oB, bB, by decide, by decide, by decide, by decide, fun S2 k2 => ?_⟩⟩
  exact hq _
theorem law_ok {G : Gm} {ds : List D} {S0 : Sto} {Q : VK} {X : XK} {b : Ss} (hb : b = law_T) (h41 : G.fn 41 = spWell) (h42 : G.fn 42 = spDraw) (h44 : G.fn 44 = spDesk) (h45 : G.fn 45 = spRoll) (h48 : G.fn 48 = spHR) (h49 : G.fn 49 = spLR) (h : spLaw ds S0 Q X) : ds.length = 1 ∧ wpSs G b (start 8 ds) S0 (kR Q X) := by
  obtain ⟨ns, rfl, hl, hq⟩ := h
  subst hb
  refine ⟨rfl, ?_⟩
  simp only [law_T, law_S0]
  generalize hA : law_A0 = A0
  simp only [wpSs, wpS, wpE, wpEs, wpC, wpAnd, wpOr, wpO, wpIt, opt_some, onI_int, onB_bl, onR_ref, arg1_one, look, joinO, start, List.map_cons, List.map_nil, List.length_cons, List.length_nil, List.replicate, List.cons_append, List.nil_append, List.append_nil, List.getElem?_cons_succ, List.getElem?_cons_zero, kcD, Nat.reduceAdd, Nat.reduceSub, br_t, br_f, br_n, asg, setAll, List.set_cons_succ, List.set_cons_zero, tgs, wipe, eq_ii, ne_ii, lt_ii, le_ii, gt_ii, ge_ii, is_n, isn_n, is_b, isn_b, add_ii, sub_ii, mul_ii, mod_ii, fdiv_ii, pow_ii, isNon, biD, intD_i, intD_b, esLen, beq_self_eq_true, ixD_tup, lsOf_new, seqD_tup, seqD_fl, slD_tup, bools, Option.map_some, true_and, ixD_fl, lenD_tup, lenD_fl, ix30, ix31, ix32, at20, at21, at30, at31, at32, List.filterMap_cons, List.filterMap_nil, List.length_map]
  subst hA
  have hn : ∀ c : Int, 0 ≤ c → c ≤ 63 → (if (if c < 3 then c else 3) > 1 then (if c < 3 then c else 3) else 1) ≤ 3 ∧ 1 ≤ (if (if c < 3 then c else 3) > 1 then (if c < 3 then c else 3) else 1) := fun c h0 h1 => by split <;> (try split) <;> omega
  obtain ⟨hj, hj0⟩ := hn ns.length (by omega) (by omega)
  generalize (if (if ((ns.length : Nat) : Int) < 3 then ((ns.length : Nat) : Int) else 3) > 1 then (if ((ns.length : Nat) : Int) < 3 then ((ns.length : Nat) : Int) else 3) else 1) = j at *
  have l2 : 2 ≤ lim := len_lim (by decide)
  have s10 : sm 10 := sm_of 8 (by decide) (by decide)
  refine ⟨by omega, by omega, by omega, by omega, ?_⟩
  refine rng_ok (fun _ ρ S' => ∃ o1 o2 o3 o4 o5 o6 o7, ρ = [some (.fl (ns.map .int)), o1, o2, o3, o4, o5, o6, o7]) ⟨_, _, _, _, _, _, _, rfl⟩ ?_ ?_
  · rintro i ρ S2 nx' hlt ⟨o1, o2, o3, o4, o5, o6, o7, rfl⟩ hnx
    refine ⟨trivial, ?_⟩
    generalize hS1 : law_S1 = s1
    simp only [law_B0, hS1, wpSs, wpS, wpE, wpEs, wpC, wpAnd, wpOr, wpO, wpIt, opt_some, onI_int, onB_bl, onR_ref, arg1_one, look, joinO, start, List.map_cons, List.map_nil, List.length_cons, List.length_nil, List.replicate, List.cons_append, List.nil_append, List.append_nil, List.getElem?_cons_succ, List.getElem?_cons_zero, kcD, Nat.reduceAdd, Nat.reduceSub, br_t, br_f, br_n, asg, setAll, List.set_cons_succ, List.set_cons_zero, tgs, wipe, eq_ii, ne_ii, lt_ii, le_ii, gt_ii, ge_ii, is_n, isn_n, is_b, isn_b, add_ii, sub_ii, mul_ii, mod_ii, fdiv_ii, pow_ii, isNon, biD, intD_i, intD_b, esLen, beq_self_eq_true, ixD_tup, lsOf_new, seqD_tup, seqD_fl, slD_tup, bools, Option.map_some, true_and, ixD_fl, lenD_tup, lenD_fl, ix30, ix31, ix32, at20, at21, at30, at31, at32, List.filterMap_cons, List.filterMap_nil]
    refine call h41 ⟨ns, _, rfl, by omega, by omega, fun w hp S3 x3 hw => ?_⟩
    subst hS1
    simp only [law_S1, wpSs, wpS, wpE, wpEs, wpC, wpAnd, wpOr, wpO, wpIt, opt_some, onI_int, onB_bl, onR_ref, arg1_one, look, joinO, start, List.map_cons, List.map_nil, List.length_cons, List.length_nil, List.replicate, List.cons_append, List.nil_append, List.append_nil, List.getElem?_cons_succ, List.getElem?_cons_zero, kcD, Nat.reduceAdd, Nat.reduceSub, br_t, br_f, br_n, asg, setAll, List.set_cons_succ, List.set_cons_zero, tgs, wipe, eq_ii, ne_ii, lt_ii, le_ii, gt_ii, ge_ii, is_n, isn_n, is_b, isn_b, add_ii, sub_ii, mul_ii, mod_ii, fdiv_ii, pow_ii, isNon, biD, intD_i, intD_b, esLen, beq_self_eq_true, ixD_tup, lsOf_new, seqD_tup, seqD_fl, slD_tup, bools, Option.map_some, true_and, ixD_fl, lenD_tup, lenD_fl, ix30, ix31, ix32, at20, at21, at30, at31, at32, List.filterMap_cons, List.filterMap_nil]
    refine ⟨l2, s10, by decide, by decide, s10, by decide, by decide, l2, s10, by decide, by decide, s10, by decide, by decide, l2, len_lim (by decide), ?_⟩
    refine forW_ok (I := fun i ρ S' => i ≤ 3 ∧ Well (20 * i) S' w ∧ ∃ o1 o3 o4 o5 o6 o7, ρ = [some (.fl (ns.map .int)), o1, some (.ref w), o3, o4, o5, o6, o7]) _ 0 _ _ ⟨by decide, hw, _, _, _, _, _, _, rfl⟩ ?_ ?_
    · rintro i d ρ S4 nx2 hlt hd ⟨hi, w4, o1, o3, o4, o5, o6, o7, rfl⟩ hnx2
      refine ⟨trivial, ?_⟩
      have h5 : i < 3 := by simpa using hlt
      have hd : ∃ m f : Int, d = prD m f ∧ (1 ≤ m ∧ m ≤ 1000000000000) ∧ 1 ≤ f ∧ f ≤ 1000000000 := by
        simp only [List.mem_cons, List.not_mem_nil, or_false] at hd
        rcases hd with rfl | rfl | rfl
        · exact ⟨12, 40, rfl, by decide⟩
        · exact ⟨10 ^ Int.toNat 6, 10 ^ Int.toNat 9, rfl, by decide⟩
        · exact ⟨10 ^ Int.toNat 12, 10 ^ Int.toNat 9, rfl, by decide⟩
      obtain ⟨m, f, rfl, ⟨m0, m1⟩, f0, f1⟩ := hd
      simp only [asg, setAll, List.set_cons_succ, List.set_cons_zero, List.length_cons, List.length_nil, true_and]
      exact turn_l h42 h44 h45 h48 h49 m0 m1 f0 f1 w4 (by omega) fun o5 o6 o7 S5 w5 => hnx2 _ _ ⟨h5, w5.le (by omega), _, _, _, _, _, _, rfl⟩
    · rintro ρ S4 ⟨hi, w4, o1, o3, o4, o5, o6, o7, rfl⟩
      exact ⟨trivial, hnx _ _ ⟨_, _, _, _, _, _, _, rfl⟩⟩
  · rintro ρ S2 ⟨o1, o2, o3, o4, o5, o6, o7, rfl⟩
    exact ⟨trivial, last_ok h48 h49 hq⟩
end M
namespace K64.A
/-- is_integer: value, least, most -/
def b0 : M.Ss := (.cons (.if_ (.or (.not (.isi (.v 0) .int)) (.cons (.isi (.v 0) .bool) .nil)) (.cons (.ret (.k (.bl false))) .nil) .nil) (.cons (.ret (.and (.or (.cmp .is_ (.v 1) (.k .non)) (.cons (.cmp .le (.v 1) (.v 0)) .nil)) (.cons (.or (.cmp .is_ (.v 2) (.k .non)) (.cons (.cmp .le (.v 0) (.v 2)) .nil)) .nil))) .nil))
/-- divisor: one, other, here, there, rest -/
def b1 : M.Ss := (.cons (.par 2 3 (.bi .abs (.cons (.v 0) .nil)) (.bi .abs (.cons (.v 1) .nil))) (.cons (.while_ (.cmp .ne (.v 3) (.k (.int 0))) (.cons (.set (.v 4) (.bin .mod (.v 2) (.v 3))) (.cons (.set (.v 2) (.v 3)) (.cons (.set (.v 3) (.v 4)) .nil)))) (.cons (.ret (.v 2)) .nil)))
/-- fraction: top, bottom, common -/
def b2 : M.Ss := (.cons (.set (.v 2) (.ite (.cmp .gt (.v 1) (.k (.int 0))) (.call 1 (.cons (.v 0) (.cons (.v 1) .nil))) (.neg (.call 1 (.cons (.v 0) (.cons (.v 1) .nil)))))) (.cons (.ret (.tup (.cons (.bin .fdiv (.v 0) (.v 2)) (.cons (.bin .fdiv (.v 1) (.v 2)) .nil)))) .nil))
/-- inverse: number, modulus, here, there, back, forth, times, rest -/
def b3 : M.Ss := (.cons (.par 2 3 (.v 1) (.bin .mod (.v 0) (.v 1))) (.cons (.set (.tup [4, 5]) (.tup (.cons (.k (.int 0)) (.cons (.k (.int 1)) .nil)))) (.cons (.while_ (.cmp .ne (.v 3) (.k (.int 0))) (.cons (.set (.v 6) (.bin .fdiv (.v 2) (.v 3))) (.cons (.set (.v 7) (.bin .sub (.v 2) (.bin .mul (.v 6) (.v 3)))) (.cons (.set (.v 2) (.v 3)) (.cons (.set (.v 3) (.v 7)) (.cons (.set (.v 7) (.bin .sub (.v 4) (.bin .mul (.v 6) (.v 5)))) (.cons (.set (.v 4) (.v 5)) (.cons (.set (.v 5) (.v 7)) .nil)))))))) (.cons (.ret (.bin .mod (.v 4) (.v 1))) .nil))))
/-- least_solution: factor, rest, modulus, common, step -/
def b4 : M.Ss := (.cons (.set (.v 3) (.call 1 (.cons (.v 0) (.cons (.v 2) .nil)))) (.cons (.if_ (.cmp .ne (.bin .mod (.v 1) (.v 3)) (.k (.int 0))) (.cons (.ret (.k .non)) .nil) .nil) (.cons (.set (.v 4) (.bin .fdiv (.v 2) (.v 3))) (.cons (.ret (.tup (.cons (.bin .mod (.bin .mul (.bin .fdiv (.v 1) (.v 3)) (.call 3 (.cons (.bin .fdiv (.v 0) (.v 3)) (.cons (.v 4) .nil)))) (.v 4)) (.cons (.v 4) .nil)))) .nil))))
/-- are_table: value, side -/
def b5 : M.Ss := (.cons (.ret (.and (.isi (.v 0) .tuple) (.cons (.cmp .eq (.bi .len (.cons (.v 0) .nil)) (.k (.int 2))) (.cons (.bi .all (.cons (.comp (.call 0 (.cons (.v 1) (.cons (.k (.int 1)) (.cons (.k .non) .nil)))) (.v 1) (.seq (.v 0)) .none) .nil)) .nil)))) .nil)
/-- is_free_shot: value, one -/
def b6 : M.Ss := (.cons (.if_ (.or (.not (.isi (.v 0) .tuple)) (.cons (.cmp .ne (.bi .len (.cons (.v 0) .nil)) (.k (.int 4))) (.cons (.not (.bi .all (.cons (.comp (.call 0 (.cons (.v 1) (.cons (.k .non) (.cons (.k .non) .nil)))) (.v 1) (.seq (.v 0)) .none) .nil))) .nil))) (.cons (.ret (.k (.bl false))) .nil) .nil) (.cons (.ret (.and (.cmp .ge (.ix (.v 0) (.k (.int 0))) (.k (.int 0))) (.cons (.cmp .ge (.ix (.v 0) (.k (.int 1))) (.k (.int 0))) (.cons (.cmp .ne (.sl (.v 0) (.some (.k (.int 2))) .none) (.tup (.cons (.k (.int 0)) (.cons (.k (.int 0)) .nil)))) .nil)))) .nil))
/-- is_shot_on: table, value -/
def b7 : M.Ss := (.cons (.ret (.and (.call 6 (.cons (.v 1) .nil)) (.cons (.cmp .le (.ix (.v 1) (.k (.int 0))) (.ix (.v 0) (.k (.int 0)))) (.cons (.cmp .le (.ix (.v 1) (.k (.int 1))) (.ix (.v 0) (.k (.int 1)))) .nil)))) .nil)
/-- are_fraction: value -/
def b8 : M.Ss := (.cons (.if_ (.or (.not (.isi (.v 0) .tuple)) (.cons (.cmp .ne (.bi .len (.cons (.v 0) .nil)) (.k (.int 2))) (.cons (.not (.call 0 (.cons (.ix (.v 0) (.k (.int 0))) (.cons (.k .non) (.cons (.k .non) .nil))))) .nil))) (.cons (.ret (.k (.bl false))) .nil) .nil) (.cons (.ret (.and (.call 0 (.cons (.ix (.v 0) (.k (.int 1))) (.cons (.k (.int 1)) (.cons (.k .non) .nil)))) (.cons (.cmp .eq (.call 1 (.cons (.ix (.v 0) (.k (.int 0))) (.cons (.ix (.v 0) (.k (.int 1))) .nil))) (.k (.int 1))) .nil))) .nil))
/-- check_table: table -/
def b9 : M.Ss := (.cons (.if_ (.not (.call 5 (.cons (.v 0) .nil))) (.cons .nev .nil) .nil) .nil)
/-- check_shot: table, shot -/
def b10 : M.Ss := (.cons (.ex (.call 9 (.cons (.v 0) .nil))) (.cons (.if_ (.not (.call 7 (.cons (.v 0) (.cons (.v 1) .nil)))) (.cons .nev .nil) .nil) .nil))
/-- check_time: time -/
def b11 : M.Ss := (.cons (.if_ (.not (.call 8 (.cons (.v 0) .nil))) (.cons .nev .nil) .nil) .nil)
/-- fold: side, number, top, bottom, rest -/
def b12 : M.Ss := (.cons (.set (.tup [2, 3]) (.v 1)) (.cons (.set (.v 4) (.bin .mod (.v 2) (.bin .mul (.bin .mul (.k (.int 2)) (.v 0)) (.v 3)))) (.cons (.ret (.call 2 (.cons (.bi .min (.cons (.v 4) (.cons (.bin .sub (.bin .mul (.bin .mul (.k (.int 2)) (.v 0)) (.v 3)) (.v 4)) .nil))) (.cons (.v 3) .nil)))) .nil)))
/-- free_place: shot, time, top, bottom -/
def b13 : M.Ss := (.cons (.set (.tup [2, 3]) (.v 1)) (.cons (.ret (.tup (.cons (.tup (.cons (.bin .add (.bin .mul (.ix (.v 0) (.k (.int 0))) (.v 3)) (.bin .mul (.ix (.v 0) (.k (.int 2))) (.v 2))) (.cons (.v 3) .nil))) (.cons (.tup (.cons (.bin .add (.bin .mul (.ix (.v 0) (.k (.int 1))) (.v 3)) (.bin .mul (.ix (.v 0) (.k (.int 3))) (.v 2))) (.cons (.v 3) .nil))) .nil)))) .nil))
/-- place_of: table, shot, time, first, second -/
def b14 : M.Ss := (.cons (.set (.tup [3, 4]) (.call 13 (.cons (.v 1) (.cons (.v 2) .nil)))) (.cons (.ret (.tup (.cons (.call 12 (.cons (.ix (.v 0) (.k (.int 0))) (.cons (.v 3) .nil))) (.cons (.call 12 (.cons (.ix (.v 0) (.k (.int 1))) (.cons (.v 4) .nil))) .nil)))) .nil))
/-- way_of: side, number, direction, top, bottom, cell -/
def b15 : M.Ss := (.cons (.set (.tup [3, 4]) (.v 1)) (.cons (.set (.v 5) (.ite (.cmp .gt (.v 2) (.k (.int 0))) (.bin .fdiv (.v 3) (.bin .mul (.v 0) (.v 4))) (.bin .sub (.neg (.bin .fdiv (.neg (.v 3)) (.bin .mul (.v 0) (.v 4)))) (.k (.int 1))))) (.cons (.ret (.ite (.cmp .eq (.bin .mod (.v 5) (.k (.int 2))) (.k (.int 0))) (.v 2) (.neg (.v 2)))) .nil)))
/-- ways_of: table, shot, time, first, second -/
def b16 : M.Ss := (.cons (.set (.tup [3, 4]) (.call 13 (.cons (.v 1) (.cons (.v 2) .nil)))) (.cons (.ret (.tup (.cons (.call 15 (.cons (.ix (.v 0) (.k (.int 0))) (.cons (.v 3) (.cons (.ix (.v 1) (.k (.int 2))) .nil)))) (.cons (.call 15 (.cons (.ix (.v 0) (.k (.int 1))) (.cons (.v 4) (.cons (.ix (.v 1) (.k (.int 3))) .nil)))) .nil)))) .nil))
/-- shot_of: table, shot, time, place -/
def b17 : M.Ss := (.cons (.set (.v 3) (.call 14 (.cons (.v 0) (.cons (.v 1) (.cons (.v 2) .nil))))) (.cons (.if_ (.or (.cmp .ne (.ix (.ix (.v 3) (.k (.int 0))) (.k (.int 1))) (.k (.int 1))) (.cons (.cmp .ne (.ix (.ix (.v 3) (.k (.int 1))) (.k (.int 1))) (.k (.int 1))) .nil)) (.cons (.ret (.k .non)) .nil) .nil) (.cons (.ret (.tup (.cons (.ix (.ix (.v 3) (.k (.int 0))) (.k (.int 0))) (.cons (.ix (.ix (.v 3) (.k (.int 1))) (.k (.int 0))) (.star (.call 16 (.cons (.v 0) (.cons (.v 1) (.cons (.v 2) .nil)))) .nil))))) .nil)))
/-- place_at: table, shot, time -/
def b18 : M.Ss := (.cons (.ex (.call 10 (.cons (.v 0) (.cons (.v 1) .nil)))) (.cons (.ex (.call 11 (.cons (.v 2) .nil))) (.cons (.ret (.call 14 (.cons (.v 0) (.cons (.v 1) (.cons (.v 2) .nil))))) .nil)))
/-- way_at: table, shot, time -/
def b19 : M.Ss := (.cons (.ex (.call 10 (.cons (.v 0) (.cons (.v 1) .nil)))) (.cons (.ex (.call 11 (.cons (.v 2) .nil))) (.cons (.ret (.call 16 (.cons (.v 0) (.cons (.v 1) (.cons (.v 2) .nil))))) .nil)))
/-- shot_at: table, shot, time -/
def b20 : M.Ss := (.cons (.ex (.call 10 (.cons (.v 0) (.cons (.v 1) .nil)))) (.cons (.ex (.call 11 (.cons (.v 2) .nil))) (.cons (.ret (.call 17 (.cons (.v 0) (.cons (.v 1) (.cons (.v 2) .nil))))) .nil)))
/-- line_of: start, direction, side -/
def b21 : M.Ss := (.cons (.if_ (.cmp .eq (.v 1) (.k (.int 0))) (.cons (.ret (.k .non)) .nil) .nil) (.cons (.if_ (.cmp .gt (.v 1) (.k (.int 0))) (.cons (.ret (.tup (.cons (.v 1) (.cons (.bin .mod (.v 0) (.v 2)) (.cons (.v 2) (.cons (.bin .add (.bin .fdiv (.v 0) (.v 2)) (.k (.int 1))) .nil)))))) .nil) .nil) (.cons (.ret (.tup (.cons (.neg (.v 1)) (.cons (.bin .mod (.neg (.v 0)) (.v 2)) (.cons (.v 2) (.cons (.bin .sub (.neg (.bin .fdiv (.neg (.v 0)) (.v 2))) (.k (.int 1))) .nil)))))) .nil)))
/-- lines_of: table, shot -/
def b22 : M.Ss := (.cons (.ret (.tup (.cons (.call 21 (.cons (.ix (.v 1) (.k (.int 0))) (.cons (.ix (.v 1) (.k (.int 2))) (.cons (.ix (.v 0) (.k (.int 0))) .nil)))) (.cons (.call 21 (.cons (.ix (.v 1) (.k (.int 1))) (.cons (.ix (.v 1) (.k (.int 3))) (.cons (.ix (.v 0) (.k (.int 1))) .nil)))) .nil)))) .nil)
/-- line_count: line, time -/
def b23 : M.Ss := (.cons (.if_ (.or (.cmp .is_ (.v 0) (.k .non)) (.cons (.cmp .le (.ix (.v 1) (.k (.int 0))) (.k (.int 0))) .nil)) (.cons (.ret (.k (.int 0))) .nil) .nil) (.cons (.ret (.bin .fdiv (.bin .add (.bin .mul (.ix (.v 0) (.k (.int 0))) (.ix (.v 1) (.k (.int 0)))) (.bin .mul (.ix (.v 0) (.k (.int 1))) (.ix (.v 1) (.k (.int 1))))) (.bin .mul (.ix (.v 0) (.k (.int 2))) (.ix (.v 1) (.k (.int 1)))))) .nil))
/-- line_time: line, many -/
def b24 : M.Ss := (.cons (.ret (.call 2 (.cons (.bin .sub (.bin .mul (.v 1) (.ix (.v 0) (.k (.int 2)))) (.ix (.v 0) (.k (.int 1)))) (.cons (.ix (.v 0) (.k (.int 0))) .nil)))) .nil)
/-- line_letter: line, letters, many -/
def b25 : M.Ss := (.cons (.ret (.ix (.v 1) (.bin .mod (.bin .sub (.bin .add (.ix (.v 0) (.k (.int 3))) (.v 2)) (.k (.int 1))) (.k (.int 2))))) .nil)
/-- corners_of: lines, first, second, rest, found -/
def b26 : M.Ss := (.cons (.set (.tup [1, 2]) (.v 0)) (.cons (.if_ (.or (.cmp .is_ (.v 1) (.k .non)) (.cons (.cmp .is_ (.v 2) (.k .non)) .nil)) (.cons (.ret (.k .non)) .nil) .nil) (.cons (.set (.v 3) (.bin .sub (.bin .mul (.ix (.v 2) (.k (.int 0))) (.ix (.v 1) (.k (.int 1)))) (.bin .mul (.ix (.v 1) (.k (.int 0))) (.ix (.v 2) (.k (.int 1)))))) (.cons (.set (.v 4) (.call 4 (.cons (.bin .mul (.ix (.v 2) (.k (.int 0))) (.ix (.v 1) (.k (.int 2)))) (.cons (.v 3) (.cons (.bin .mul (.ix (.v 1) (.k (.int 0))) (.ix (.v 2) (.k (.int 2)))) .nil))))) (.cons (.if_ (.cmp .is_ (.v 4) (.k .non)) (.cons (.ret (.k .non)) .nil) .nil) (.cons (.ret (.tup (.cons (.ite (.cmp .gt (.ix (.v 4) (.k (.int 0))) (.k (.int 0))) (.ix (.v 4) (.k (.int 0))) (.ix (.v 4) (.k (.int 1)))) (.cons (.ix (.v 4) (.k (.int 1))) .nil)))) .nil))))))
/-- corner_count: corners, many -/
def b27 : M.Ss := (.cons (.if_ (.or (.cmp .is_ (.v 0) (.k .non)) (.cons (.cmp .lt (.v 1) (.ix (.v 0) (.k (.int 0)))) .nil)) (.cons (.ret (.k (.int 0))) .nil) .nil) (.cons (.ret (.bin .add (.bin .fdiv (.bin .sub (.v 1) (.ix (.v 0) (.k (.int 0)))) (.ix (.v 0) (.k (.int 1)))) (.k (.int 1)))) .nil))
/-- count_of: lines, time, first -/
def b28 : M.Ss := (.cons (.set (.v 2) (.call 23 (.cons (.ix (.v 0) (.k (.int 0))) (.cons (.v 1) .nil)))) (.cons (.ret (.bin .sub (.bin .add (.v 2) (.call 23 (.cons (.ix (.v 0) (.k (.int 1))) (.cons (.v 1) .nil)))) (.call 27 (.cons (.call 26 (.cons (.v 0) .nil)) (.cons (.v 2) .nil))))) .nil))
/-- rank_of: lines, many -/
def b29 : M.Ss := (.cons (.ret (.ite (.cmp .gt (.v 1) (.k (.int 0))) (.call 28 (.cons (.v 0) (.cons (.call 24 (.cons (.ix (.v 0) (.k (.int 0))) (.cons (.v 1) .nil))) .nil))) (.k (.int 0)))) .nil)
/-- hit_time: lines, number, first, second, least, most, before, middle -/
def b30 : M.Ss := (.cons (.set (.tup [2, 3]) (.v 0)) (.cons (.if_ (.cmp .is_ (.v 2) (.k .non)) (.cons (.ret (.call 24 (.cons (.v 3) (.cons (.v 1) .nil)))) .nil) .nil) (.cons (.par 4 5 (.k (.int 1)) (.v 1)) (.cons (.while_ (.cmp .lt (.v 4) (.v 5)) (.cons (.set (.v 7) (.bin .fdiv (.bin .add (.v 4) (.v 5)) (.k (.int 2)))) (.cons (.if_ (.cmp .ge (.call 29 (.cons (.v 0) (.cons (.v 7) .nil))) (.v 1)) (.cons (.set (.v 5) (.v 7)) .nil) (.cons (.set (.v 4) (.bin .add (.v 7) (.k (.int 1)))) .nil)) .nil))) (.cons (.if_ (.cmp .eq (.call 29 (.cons (.v 0) (.cons (.v 4) .nil))) (.v 1)) (.cons (.ret (.call 24 (.cons (.v 2) (.cons (.v 4) .nil)))) .nil) .nil) (.cons (.set (.v 6) (.ite (.cmp .gt (.v 4) (.k (.int 1))) (.call 24 (.cons (.v 2) (.cons (.bin .sub (.v 4) (.k (.int 1))) .nil))) (.tup (.cons (.k (.int 0)) (.cons (.k (.int 1)) .nil))))) (.cons (.ret (.call 24 (.cons (.v 3) (.cons (.bin .sub (.bin .add (.call 23 (.cons (.v 3) (.cons (.v 6) .nil))) (.v 1)) (.call 29 (.cons (.v 0) (.cons (.bin .sub (.v 4) (.k (.int 1))) .nil)))) .nil)))) .nil)))))))
/-- is_at: line, time -/
def b31 : M.Ss := (.cons (.ret (.and (.cmp .isn (.v 0) (.k .non)) (.cons (.cmp .eq (.bin .mod (.bin .add (.bin .mul (.ix (.v 0) (.k (.int 0))) (.ix (.v 1) (.k (.int 0)))) (.bin .mul (.ix (.v 0) (.k (.int 1))) (.ix (.v 1) (.k (.int 1))))) (.bin .mul (.ix (.v 0) (.k (.int 2))) (.ix (.v 1) (.k (.int 1))))) (.k (.int 0))) .nil))) .nil)
/-- word_at: lines, time, found, line, letters -/
def b32 : M.Ss := (.cons (.set (.v 2) (.k (.str []))) (.cons (.for_ (.tup [3, 4]) (.zip (.v 0) (.g 0)) (.cons (.if_ (.call 31 (.cons (.v 3) (.cons (.v 1) .nil))) (.cons (.set (.v 2) (.bin .add (.v 2) (.call 25 (.cons (.v 3) (.cons (.v 4) (.cons (.call 23 (.cons (.v 3) (.cons (.v 1) .nil))) .nil)))))) .nil) .nil) .nil)) (.cons (.ret (.v 2)) .nil)))
/-- hit_of: table, shot, number, lines, time -/
def b33 : M.Ss := (.cons (.set (.v 3) (.call 22 (.cons (.v 0) (.cons (.v 1) .nil)))) (.cons (.set (.v 4) (.call 30 (.cons (.v 3) (.cons (.v 2) .nil)))) (.cons (.ret (.tup (.cons (.v 4) (.cons (.call 32 (.cons (.v 3) (.cons (.v 4) .nil))) (.cons (.call 14 (.cons (.v 0) (.cons (.v 1) (.cons (.v 4) .nil)))) .nil))))) .nil)))
/-- count_hits: table, shot, time -/
def b34 : M.Ss := (.cons (.ex (.call 10 (.cons (.v 0) (.cons (.v 1) .nil)))) (.cons (.ex (.call 11 (.cons (.v 2) .nil))) (.cons (.ret (.call 28 (.cons (.call 22 (.cons (.v 0) (.cons (.v 1) .nil))) (.cons (.v 2) .nil)))) .nil)))
/-- nth_hit: table, shot, index -/
def b35 : M.Ss := (.cons (.ex (.call 10 (.cons (.v 0) (.cons (.v 1) .nil)))) (.cons (.if_ (.not (.call 0 (.cons (.v 2) (.cons (.k (.int 0)) (.cons (.k .non) .nil))))) (.cons .nev .nil) .nil) (.cons (.ret (.call 33 (.cons (.v 0) (.cons (.v 1) (.cons (.bin .add (.v 2) (.k (.int 1))) .nil))))) .nil)))
/-- hit_words: table, shot, many, number -/
def b36 : M.Ss := (.cons (.ex (.call 10 (.cons (.v 0) (.cons (.v 1) .nil)))) (.cons (.if_ (.not (.call 0 (.cons (.v 2) (.cons (.k (.int 0)) (.cons (.k .non) .nil))))) (.cons .nev .nil) .nil) (.cons (.ret (.comp (.ix (.call 33 (.cons (.v 0) (.cons (.v 1) (.cons (.bin .add (.v 3) (.k (.int 1))) .nil)))) (.k (.int 1))) (.v 3) (.rng (.v 2)) .none)) .nil)))
/-- is_cushion: value -/
def b37 : M.Ss := (.cons (.ret (.and (.isi (.v 0) .str) (.cons (.cmp .in_ (.v 0) (.tup (.cons (.k (.str [87])) (.cons (.k (.str [69])) (.cons (.k (.str [83])) (.cons (.k (.str [78])) .nil)))))) .nil))) .nil)
/-- letter_count: line, letters, cushion, time, many -/
def b38 : M.Ss := (.cons (.set (.v 4) (.call 23 (.cons (.v 0) (.cons (.v 3) .nil)))) (.cons (.if_ (.cmp .eq (.v 4) (.k (.int 0))) (.cons (.ret (.k (.int 0))) .nil) .nil) (.cons (.ret (.ite (.cmp .eq (.call 25 (.cons (.v 0) (.cons (.v 1) (.cons (.k (.int 1)) .nil)))) (.v 2)) (.bin .fdiv (.bin .add (.v 4) (.k (.int 1))) (.k (.int 2))) (.bin .fdiv (.v 4) (.k (.int 2))))) .nil)))
/-- cushion_count: lines, cushion, time, spot -/
def b39 : M.Ss := (.cons (.set (.v 3) (.ite (.cmp .in_ (.v 1) (.ix (.g 0) (.k (.int 0)))) (.k (.int 0)) (.k (.int 1)))) (.cons (.ret (.call 38 (.cons (.ix (.v 0) (.v 3)) (.cons (.ix (.g 0) (.v 3)) (.cons (.v 1) (.cons (.v 2) .nil)))))) .nil))
/-- count_cushion: table, shot, cushion, time -/
def b40 : M.Ss := (.cons (.ex (.call 10 (.cons (.v 0) (.cons (.v 1) .nil)))) (.cons (.if_ (.not (.call 37 (.cons (.v 2) .nil))) (.cons .nev .nil) .nil) (.cons (.ex (.call 11 (.cons (.v 3) .nil))) (.cons (.ret (.call 39 (.cons (.call 22 (.cons (.v 0) (.cons (.v 1) .nil))) (.cons (.v 2) (.cons (.v 3) .nil))))) .nil))))
/-- _law_well: script, at, cell -/
def b41 : M.Ss := (.cons (.set (.v 2) (.ite (.cmp .lt (.v 1) (.bi .len (.cons (.v 0) .nil))) (.ix (.v 0) (.v 1)) (.k (.int 0)))) (.cons (.ret (.lst (.cons (.bi .max (.cons (.k (.int 0)) (.cons (.bin .sub (.bi .abs (.cons (.v 2) .nil)) (.bin .pow (.k (.int 10)) (.k (.int 18)))) .nil))) (.cons (.bin .add (.bin .add (.bin .mul (.bin .mod (.bi .int (.cons (.v 2) .nil)) (.bin .add (.bin .pow (.k (.int 10)) (.k (.int 37))) (.k (.int 151)))) (.k (.int 103))) (.bin .mul (.k (.int 71)) (.v 1))) (.k (.int 43))) (.cons (.k (.int 0)) .nil))))) .nil))
/-- _law_draw: well, most, blend, digit -/
def b42 : M.Ss := (.cons (.if_ (.cmp .gt (.ix (.v 0) (.k (.int 0))) (.k (.int 0))) (.cons (.set (.v 3) (.bin .mod (.bi .int (.cons (.ix (.v 0) (.k (.int 0))) .nil)) (.v 1))) (.cons (.six (.v 0) (.k (.int 0)) (.bin .fdiv (.ix (.v 0) (.k (.int 0))) (.v 1))) (.cons (.ret (.v 3)) .nil))) .nil) (.cons (.six (.v 0) (.k (.int 2)) (.bin .add (.ix (.v 0) (.k (.int 2))) (.k (.int 1)))) (.cons (.set (.v 2) (.bin .mod (.bin .pow (.bi .int (.cons (.bin .add (.ix (.v 0) (.k (.int 1))) (.bin .mul (.k (.int 961748941)) (.ix (.v 0) (.k (.int 2))))) .nil)) (.k (.int 3))) (.bin .add (.bin .pow (.k (.int 10)) (.k (.int 41))) (.k (.int 109))))) (.cons (.set (.v 2) (.bin .mod (.bin .pow (.bi .int (.cons (.bin .add (.v 2) (.bin .mul (.k (.int 217645199)) (.ix (.v 0) (.k (.int 2))))) .nil)) (.k (.int 3))) (.bin .add (.bin .pow (.k (.int 10)) (.k (.int 39))) (.k (.int 3))))) (.cons (.ret (.bin .mod (.bi .int (.cons (.bin .fdiv (.v 2) (.k (.int 1048576))) .nil)) (.v 1))) .nil)))))
/-- _law_same: found, due, k -/
def b43 : M.Ss := (.cons (.if_ (.or (.isi (.v 0) .bool) (.cons (.isi (.v 1) .bool) .nil)) (.cons (.ret (.and (.isi (.v 0) .bool) (.cons (.isi (.v 1) .bool) (.cons (.cmp .eq (.v 0) (.v 1)) .nil)))) .nil) .nil) (.cons (.if_ (.cmp .ne (.isi (.v 0) .list) (.isi (.v 1) .list)) (.cons (.ret (.k (.bl false))) .nil) .nil) (.cons (.if_ (.and (.isi2 (.v 0) .list .tuple) (.cons (.isi2 (.v 1) .list .tuple) .nil)) (.cons (.if_ (.cmp .ne (.bi .len (.cons (.v 0) .nil)) (.bi .len (.cons (.v 1) .nil))) (.cons (.ret (.k (.bl false))) .nil) .nil) (.cons (.ret (.cmp .eq (.comp (.v 2) (.v 2) (.rng (.bi .len (.cons (.v 1) .nil))) (.some (.not (.call 43 (.cons (.ix (.v 0) (.v 2)) (.cons (.ix (.v 1) (.v 2)) .nil)))))) (.lst .nil))) .nil)) .nil) (.cons (.ret (.and (.cmp .eq (.v 0) (.v 1)) (.cons (.cmp .eq (.isi (.v 0) .int) (.isi (.v 1) .int)) .nil))) .nil))))
/-- _law_desk: well, most, wide, tall -/
def b44 : M.Ss := (.cons (.set (.v 2) (.bin .add (.k (.int 1)) (.call 42 (.cons (.v 0) (.cons (.v 1) .nil))))) (.cons (.set (.v 3) (.ix (.lst (.cons (.bin .add (.k (.int 1)) (.call 42 (.cons (.v 0) (.cons (.v 1) .nil)))) (.cons (.v 2) (.cons (.bin .mul (.v 2) (.k (.int 2))) (.cons (.bin .add (.k (.int 1)) (.call 42 (.cons (.v 0) (.cons (.k (.int 4)) .nil)))) .nil))))) (.call 42 (.cons (.v 0) (.cons (.k (.int 4)) .nil))))) (.cons (.ret (.tup (.cons (.v 2) (.cons (.v 3) .nil)))) .nil)))
/-- _law_roll: well, desk, most, x, y, p, q -/
def b45 : M.Ss := (.cons (.set (.v 3) (.ix (.lst (.cons (.k (.int 0)) (.cons (.ix (.v 1) (.k (.int 0))) (.cons (.call 42 (.cons (.v 0) (.cons (.bin .add (.ix (.v 1) (.k (.int 0))) (.k (.int 1))) .nil))) .nil)))) (.bi .min (.cons (.k (.int 2)) (.cons (.call 42 (.cons (.v 0) (.cons (.k (.int 5)) .nil))) .nil))))) (.cons (.set (.v 4) (.ix (.lst (.cons (.k (.int 0)) (.cons (.ix (.v 1) (.k (.int 1))) (.cons (.call 42 (.cons (.v 0) (.cons (.bin .add (.ix (.v 1) (.k (.int 1))) (.k (.int 1))) .nil))) .nil)))) (.bi .min (.cons (.k (.int 2)) (.cons (.call 42 (.cons (.v 0) (.cons (.k (.int 5)) .nil))) .nil))))) (.cons (.par 5 6 (.bin .sub (.call 42 (.cons (.v 0) (.cons (.bin .add (.bin .mul (.k (.int 2)) (.v 2)) (.k (.int 1))) .nil))) (.v 2)) (.bin .sub (.call 42 (.cons (.v 0) (.cons (.bin .add (.bin .mul (.k (.int 2)) (.v 2)) (.k (.int 1))) .nil))) (.v 2))) (.cons (.if_ (.cmp .eq (.call 42 (.cons (.v 0) (.cons (.k (.int 8)) .nil))) (.k (.int 0))) (.cons (.set (.v 5) (.k (.int 0))) .nil) (.cons (.if_ (.cmp .eq (.call 42 (.cons (.v 0) (.cons (.k (.int 8)) .nil))) (.k (.int 0))) (.cons (.set (.v 6) (.k (.int 0))) .nil) .nil) .nil)) (.cons (.ret (.ite (.cmp .ne (.tup (.cons (.v 5) (.cons (.v 6) .nil))) (.tup (.cons (.k (.int 0)) (.cons (.k (.int 0)) .nil)))) (.tup (.cons (.v 3) (.cons (.v 4) (.cons (.v 5) (.cons (.v 6) .nil))))) (.tup (.cons (.v 3) (.cons (.v 4) (.cons (.k (.int 1)) (.cons (.k (.int 1)) .nil))))))) .nil)))))
/-- _law_low: top, bottom, a, b -/
def b46 : M.Ss := (.cons (.par 2 3 (.bi .abs (.cons (.v 0) .nil)) (.bi .abs (.cons (.v 1) .nil))) (.cons (.while_ (.cmp .ne (.v 3) (.k (.int 0))) (.cons (.par 2 3 (.v 3) (.bin .mod (.bi .int (.cons (.v 2) .nil)) (.v 3))) .nil)) (.cons (.ret (.ite (.cmp .gt (.v 1) (.k (.int 0))) (.tup (.cons (.bin .fdiv (.v 0) (.v 2)) (.cons (.bin .fdiv (.v 1) (.v 2)) .nil))) (.tup (.cons (.bin .fdiv (.neg (.v 0)) (.v 2)) (.cons (.bin .fdiv (.neg (.v 1)) (.v 2)) .nil))))) .nil)))
/-- _law_mid: first, second, a, b, c, d -/
def b47 : M.Ss := (.cons (.set (.tup [2, 3]) (.v 0)) (.cons (.set (.tup [4, 5]) (.v 1)) (.cons (.ret (.call 46 (.cons (.bin .add (.bin .mul (.v 2) (.v 5)) (.bin .mul (.v 4) (.v 3))) (.cons (.bin .mul (.bin .mul (.k (.int 2)) (.v 3)) (.v 5)) .nil)))) .nil)))
/-- _law_hit_right: desk, roll, at, now, word, goal, early, half, before, due, signs, k, letters, parts, size, sign, edge, corners_here, letter, one -/
def b48 : M.Ss := (.cons (.set (.tup [3, 4, 5]) (.call 35 (.cons (.v 0) (.cons (.v 1) (.cons (.v 2) .nil))))) (.cons (.set (.v 6) (.ite (.cmp .gt (.v 2) (.k (.int 0))) (.ix (.call 35 (.cons (.v 0) (.cons (.v 1) (.cons (.bin .sub (.v 2) (.k (.int 1))) .nil)))) (.k (.int 0))) (.tup (.cons (.k (.int 0)) (.cons (.k (.int 1)) .nil))))) (.cons (.set (.v 7) (.call 47 (.cons (.v 6) (.cons (.v 3) .nil)))) (.cons (.if_ (.or (.not (.call 43 (.cons (.call 18 (.cons (.v 0) (.cons (.v 1) (.cons (.v 3) .nil)))) (.cons (.v 5) .nil)))) (.cons (.cmp .ne (.call 34 (.cons (.v 0) (.cons (.v 1) (.cons (.v 3) .nil)))) (.bin .add (.v 2) (.k (.int 1)))) .nil)) (.cons (.ret (.k (.bl false))) .nil) .nil) (.cons (.if_ (.or (.cmp .ge (.bin .mul (.ix (.v 6) (.k (.int 0))) (.ix (.v 3) (.k (.int 1)))) (.bin .mul (.ix (.v 3) (.k (.int 0))) (.ix (.v 6) (.k (.int 1))))) (.cons (.cmp .ne (.call 34 (.cons (.v 0) (.cons (.v 1) (.cons (.v 7) .nil)))) (.v 2)) .nil)) (.cons (.ret (.k (.bl false))) .nil) .nil) (.cons (.par3 8 9 10 (.call 19 (.cons (.v 0) (.cons (.v 1) (.cons (.v 7) .nil)))) (.lst .nil) (.k (.str []))) (.cons (.for_ (.tup [11, 12]) (.seq (.tup (.cons (.tup (.cons (.k (.int 0)) (.cons (.k (.str [87, 69])) .nil))) (.cons (.tup (.cons (.k (.int 1)) (.cons (.k (.str [83, 78])) .nil))) .nil)))) (.cons (.set (.v 14) (.bi .len (.cons (.v 10) .nil))) (.cons (.for_ (.tup [15, 16]) (.zip (.v 12) (.tup (.cons (.k (.int 0)) (.cons (.ix (.v 0) (.v 11)) .nil)))) (.cons (.if_ (.and (.cmp .ne (.ix (.v 1) (.bin .add (.v 11) (.k (.int 2)))) (.k (.int 0))) (.cons (.cmp .eq (.ix (.v 5) (.v 11)) (.tup (.cons (.v 16) (.cons (.k (.int 1)) .nil)))) .nil)) (.cons (.set (.v 10) (.bin .add (.v 10) (.v 15))) .nil) .nil) .nil)) (.cons (.ex (.mt .append (.v 9) (.cons (.ite (.cmp .gt (.bi .len (.cons (.v 10) .nil)) (.v 14)) (.bin .sub (.k (.int 0)) (.ix (.v 8) (.v 11))) (.ix (.v 8) (.v 11))) .nil))) .nil)))) (.cons (.if_ (.or (.cmp .ne (.v 4) (.v 10)) (.cons (.cmp .eq (.v 4) (.k (.str []))) (.cons (.not (.call 43 (.cons (.call 19 (.cons (.v 0) (.cons (.v 1) (.cons (.v 3) .nil)))) (.cons (.bi .tuple (.cons (.v 9) .nil)) .nil)))) .nil))) (.cons (.ret (.k (.bl false))) .nil) .nil) (.cons (.set (.v 13) (.comp (.call 40 (.cons (.v 0) (.cons (.v 1) (.cons (.v 18) (.cons (.v 3) .nil))))) (.v 18) (.seq (.k (.str [87, 69, 83, 78]))) .none)) (.cons (.if_ (.cmp .lt (.v 2) (.k (.int 30))) (.cons (.set (.v 17) (.comp (.v 19) (.v 19) (.seq (.call 36 (.cons (.v 0) (.cons (.v 1) (.cons (.bin .add (.v 2) (.k (.int 1))) .nil))))) (.some (.cmp .eq (.bi .len (.cons (.v 19) .nil)) (.k (.int 2)))))) (.cons (.ret (.cmp .eq (.bi .sum (.cons (.v 13) .nil)) (.bin .add (.bin .add (.v 2) (.k (.int 1))) (.bi .len (.cons (.v 17) .nil))))) .nil)) .nil) (.cons (.ret (.chain .le .le (.bin .add (.v 2) (.k (.int 1))) (.bi .sum (.cons (.v 13) .nil)) (.bin .add (.bin .mul (.k (.int 2)) (.v 2)) (.k (.int 2))))) .nil)))))))))))
/-- _law_later_right: desk, roll, wait, later, least, at, now, word, goal, told -/
def b49 : M.Ss := (.cons (.set (.v 3) (.call 20 (.cons (.v 0) (.cons (.v 1) (.cons (.tup (.cons (.v 2) (.cons (.k (.int 1)) .nil))) .nil))))) (.cons (.set (.v 4) (.call 34 (.cons (.v 0) (.cons (.v 1) (.cons (.tup (.cons (.v 2) (.cons (.k (.int 1)) .nil))) .nil))))) (.cons (.if_ (.cmp .is_ (.v 3) (.k .non)) (.cons (.ret (.k (.bl false))) .nil) .nil) (.cons (.if_ (.not (.call 43 (.cons (.call 18 (.cons (.v 0) (.cons (.v 1) (.cons (.tup (.cons (.v 2) (.cons (.k (.int 1)) .nil))) .nil)))) (.cons (.tup (.cons (.tup (.cons (.ix (.v 3) (.k (.int 0))) (.cons (.k (.int 1)) .nil))) (.cons (.tup (.cons (.ix (.v 3) (.k (.int 1))) (.cons (.k (.int 1)) .nil))) .nil))) .nil)))) (.cons (.ret (.k (.bl false))) .nil) .nil) (.cons (.for_ (.v 5) (.rng (.k (.int 3))) (.cons (.set (.tup [6, 7, 8]) (.call 35 (.cons (.v 0) (.cons (.v 1) (.cons (.bin .add (.v 4) (.v 5)) .nil))))) (.cons (.set (.v 9) (.call 35 (.cons (.v 0) (.cons (.v 3) (.cons (.v 5) .nil))))) (.cons (.if_ (.not (.call 43 (.cons (.v 9) (.cons (.tup (.cons (.call 46 (.cons (.bin .sub (.ix (.v 6) (.k (.int 0))) (.bin .mul (.v 2) (.ix (.v 6) (.k (.int 1))))) (.cons (.ix (.v 6) (.k (.int 1))) .nil))) (.cons (.v 7) (.cons (.v 8) .nil)))) .nil)))) (.cons (.ret (.k (.bl false))) .nil) .nil) .nil)))) (.cons (.ret (.cmp .eq (.call 34 (.cons (.v 0) (.cons (.v 3) (.cons (.tup (.cons (.v 2) (.cons (.k (.int 1)) .nil))) .nil)))) (.bin .sub (.call 34 (.cons (.v 0) (.cons (.v 1) (.cons (.tup (.cons (.bin .mul (.k (.int 2)) (.v 2)) (.cons (.k (.int 1)) .nil))) .nil)))) (.v 4)))) .nil))))))
/-- law: script, at, well, most, far, desk, roll, k -/
def b50 : M.Ss := (.cons (.for_ (.v 1) (.rng (.bi .max (.cons (.k (.int 1)) (.cons (.bi .min (.cons (.k (.int 3)) (.cons (.bi .len (.cons (.v 0) .nil)) .nil))) .nil)))) (.cons (.set (.v 2) (.call 41 (.cons (.v 0) (.cons (.v 1) .nil)))) (.cons (.for_ (.tup [3, 4]) (.seq (.tup (.cons (.tup (.cons (.k (.int 12)) (.cons (.k (.int 40)) .nil))) (.cons (.tup (.cons (.bin .pow (.k (.int 10)) (.k (.int 6))) (.cons (.bin .pow (.k (.int 10)) (.k (.int 9))) .nil))) (.cons (.tup (.cons (.bin .pow (.k (.int 10)) (.k (.int 12))) (.cons (.bin .pow (.k (.int 10)) (.k (.int 9))) .nil))) .nil))))) (.cons (.set (.v 5) (.call 44 (.cons (.v 2) (.cons (.v 3) .nil)))) (.cons (.set (.v 6) (.call 45 (.cons (.v 2) (.cons (.v 5) (.cons (.v 3) .nil))))) (.cons (.for_ (.v 7) (.seq (.tup (.cons (.call 42 (.cons (.v 2) (.cons (.k (.int 4)) .nil))) (.cons (.call 42 (.cons (.v 2) (.cons (.v 4) .nil))) .nil)))) (.cons (.if_ (.not (.call 48 (.cons (.v 5) (.cons (.v 6) (.cons (.v 7) .nil))))) (.cons (.ret (.k (.bl false))) .nil) .nil) .nil)) (.cons (.if_ (.not (.call 49 (.cons (.v 5) (.cons (.v 6) (.cons (.call 42 (.cons (.v 2) (.cons (.v 4) .nil))) .nil))))) (.cons (.ret (.k (.bl false))) .nil) .nil) .nil))))) .nil))) (.cons (.ret (.and (.call 48 (.cons (.tup (.cons (.k (.int 4)) (.cons (.k (.int 2)) .nil))) (.cons (.tup (.cons (.k (.int 1)) (.cons (.k (.int 1)) (.cons (.k (.int 1)) (.cons (.k (.int 1)) .nil))))) (.cons (.k (.int 1)) .nil)))) (.cons (.call 49 (.cons (.tup (.cons (.k (.int 4)) (.cons (.k (.int 2)) .nil))) (.cons (.tup (.cons (.k (.int 0)) (.cons (.k (.int 0)) (.cons (.k (.int 0)) (.cons (.neg (.k (.int 1))) .nil))))) (.cons (.k (.int 7)) .nil)))) .nil))) .nil))
/-- LETTERS -/
def c0 : M.D := (.tup [(.str [87, 69]), (.str [83, 78])])
def con : Nat → M.D
  | 0 => c0
  | _ => .non
end K64.A
namespace K64.P
open M
def fuel : Nat → M.Sp := spSame
theorem fuel0 (ds : List M.D) (S : M.Sto) (Q : M.VK) (X : M.XK) : ¬ fuel 0 ds S Q X := fun ⟨_, _, _, h, _⟩ => h
def sp : Nat → M.Sp
  | 0 => spInt | 1 => spGcd | 2 => spFrac | 3 => spInv | 4 => spLeast | 5 => spTab | 6 => spFree | 7 => spOn | 8 => spPart | 9 => spCheck | 10 => spCkShot | 11 => spCkTime | 12 => spFold | 13 => spFreeP | 14 => spPlaceOf | 15 => spWayOf | 16 => spWaysOf | 17 => spShotOf | 18 => spPlace | 19 => spWay | 20 => spShotAt | 21 => spLine | 22 => spLines | 23 => spCnt | 24 => spTime | 25 => spLet | 26 => spCorn | 27 => spCc | 28 => spCo | 29 => spRank | 30 => spHT | 31 => spIsAt | 32 => spWA | 33 => spHO | 34 => spHits | 35 => spNth | 36 => spHW | 37 => spCush | 38 => spLc | 39 => spCu | 40 => spCount | 41 => spWell | 42 => spDraw | 43 => spSm | 44 => spDesk | 45 => spRoll | 46 => spLow | 47 => spMid | 48 => spHR | 49 => spLR | 50 => spLaw
  | _ => fun _ _ _ _ => False
def con := A.con
theorem body0 (G : M.Gm) (hG : G.fn = M.upto 0 sp) (hc : G.con = con) : ∀ ds S0 Q X, sp 0 ds S0 Q X → ds.length = 3 ∧ M.wpSs G A.b0 (M.start 3 ds) S0 ⟨fun _ S' => Q .non S', Q, fun _ _ => False, fun k fs _ S' => X k fs S'⟩ := fun ds S0 Q X h => txt_int (b := A.b0) rfl  h
theorem body1 (G : M.Gm) (hG : G.fn = M.upto 1 sp) (hc : G.con = con) : ∀ ds S0 Q X, sp 1 ds S0 Q X → ds.length = 2 ∧ M.wpSs G A.b1 (M.start 5 ds) S0 ⟨fun _ S' => Q .non S', Q, fun _ _ => False, fun k fs _ S' => X k fs S'⟩ := fun ds S0 Q X h => txt_gcd (b := A.b1) rfl  h
theorem body2 (G : M.Gm) (hG : G.fn = M.upto 2 sp) (hc : G.con = con) : ∀ ds S0 Q X, sp 2 ds S0 Q X → ds.length = 2 ∧ M.wpSs G A.b2 (M.start 3 ds) S0 ⟨fun _ S' => Q .non S', Q, fun _ _ => False, fun k fs _ S' => X k fs S'⟩ := fun ds S0 Q X h => txt_frac (b := A.b2) rfl ((upto_at hG (by decide)).trans (rfl : sp 1 = _)) h
theorem body3 (G : M.Gm) (hG : G.fn = M.upto 3 sp) (hc : G.con = con) : ∀ ds S0 Q X, sp 3 ds S0 Q X → ds.length = 2 ∧ M.wpSs G A.b3 (M.start 8 ds) S0 ⟨fun _ S' => Q .non S', Q, fun _ _ => False, fun k fs _ S' => X k fs S'⟩ := fun ds S0 Q X h => txt_inv (b := A.b3) rfl  h
theorem body4 (G : M.Gm) (hG : G.fn = M.upto 4 sp) (hc : G.con = con) : ∀ ds S0 Q X, sp 4 ds S0 Q X → ds.length = 3 ∧ M.wpSs G A.b4 (M.start 5 ds) S0 ⟨fun _ S' => Q .non S', Q, fun _ _ => False, fun k fs _ S' => X k fs S'⟩ := fun ds S0 Q X h => txt_least (b := A.b4) rfl ((upto_at hG (by decide)).trans (rfl : sp 1 = _)) ((upto_at hG (by decide)).trans (rfl : sp 3 = _)) h
theorem body5 (G : M.Gm) (hG : G.fn = M.upto 5 sp) (hc : G.con = con) : ∀ ds S0 Q X, sp 5 ds S0 Q X → ds.length = 1 ∧ M.wpSs G A.b5 (M.start 2 ds) S0 ⟨fun _ S' => Q .non S', Q, fun _ _ => False, fun k fs _ S' => X k fs S'⟩ := fun ds S0 Q X h => txt_tab (b := A.b5) rfl ((upto_at hG (by decide)).trans (rfl : sp 0 = _)) h
theorem body6 (G : M.Gm) (hG : G.fn = M.upto 6 sp) (hc : G.con = con) : ∀ ds S0 Q X, sp 6 ds S0 Q X → ds.length = 1 ∧ M.wpSs G A.b6 (M.start 2 ds) S0 ⟨fun _ S' => Q .non S', Q, fun _ _ => False, fun k fs _ S' => X k fs S'⟩ := fun ds S0 Q X h => txt_free (b := A.b6) rfl ((upto_at hG (by decide)).trans (rfl : sp 0 = _)) h
theorem body7 (G : M.Gm) (hG : G.fn = M.upto 7 sp) (hc : G.con = con) : ∀ ds S0 Q X, sp 7 ds S0 Q X → ds.length = 2 ∧ M.wpSs G A.b7 (M.start 2 ds) S0 ⟨fun _ S' => Q .non S', Q, fun _ _ => False, fun k fs _ S' => X k fs S'⟩ := fun ds S0 Q X h => txt_on (b := A.b7) rfl ((upto_at hG (by decide)).trans (rfl : sp 6 = _)) h
theorem body8 (G : M.Gm) (hG : G.fn = M.upto 8 sp) (hc : G.con = con) : ∀ ds S0 Q X, sp 8 ds S0 Q X → ds.length = 1 ∧ M.wpSs G A.b8 (M.start 1 ds) S0 ⟨fun _ S' => Q .non S', Q, fun _ _ => False, fun k fs _ S' => X k fs S'⟩ := fun ds S0 Q X h => txt_part (b := A.b8) rfl ((upto_at hG (by decide)).trans (rfl : sp 0 = _)) ((upto_at hG (by decide)).trans (rfl : sp 1 = _)) h
theorem body9 (G : M.Gm) (hG : G.fn = M.upto 9 sp) (hc : G.con = con) : ∀ ds S0 Q X, sp 9 ds S0 Q X → ds.length = 1 ∧ M.wpSs G A.b9 (M.start 1 ds) S0 ⟨fun _ S' => Q .non S', Q, fun _ _ => False, fun k fs _ S' => X k fs S'⟩ := fun ds S0 Q X h => txt_check (b := A.b9) rfl ((upto_at hG (by decide)).trans (rfl : sp 5 = _)) h
theorem body10 (G : M.Gm) (hG : G.fn = M.upto 10 sp) (hc : G.con = con) : ∀ ds S0 Q X, sp 10 ds S0 Q X → ds.length = 2 ∧ M.wpSs G A.b10 (M.start 2 ds) S0 ⟨fun _ S' => Q .non S', Q, fun _ _ => False, fun k fs _ S' => X k fs S'⟩ := fun ds S0 Q X h => txt_ckshot (b := A.b10) rfl ((upto_at hG (by decide)).trans (rfl : sp 9 = _)) ((upto_at hG (by decide)).trans (rfl : sp 7 = _)) h
theorem body11 (G : M.Gm) (hG : G.fn = M.upto 11 sp) (hc : G.con = con) : ∀ ds S0 Q X, sp 11 ds S0 Q X → ds.length = 1 ∧ M.wpSs G A.b11 (M.start 1 ds) S0 ⟨fun _ S' => Q .non S', Q, fun _ _ => False, fun k fs _ S' => X k fs S'⟩ := fun ds S0 Q X h => txt_cktime (b := A.b11) rfl ((upto_at hG (by decide)).trans (rfl : sp 8 = _)) h
theorem body12 (G : M.Gm) (hG : G.fn = M.upto 12 sp) (hc : G.con = con) : ∀ ds S0 Q X, sp 12 ds S0 Q X → ds.length = 2 ∧ M.wpSs G A.b12 (M.start 5 ds) S0 ⟨fun _ S' => Q .non S', Q, fun _ _ => False, fun k fs _ S' => X k fs S'⟩ := fun ds S0 Q X h => txt_fold (b := A.b12) rfl ((upto_at hG (by decide)).trans (rfl : sp 2 = _)) h
theorem body13 (G : M.Gm) (hG : G.fn = M.upto 13 sp) (hc : G.con = con) : ∀ ds S0 Q X, sp 13 ds S0 Q X → ds.length = 2 ∧ M.wpSs G A.b13 (M.start 4 ds) S0 ⟨fun _ S' => Q .non S', Q, fun _ _ => False, fun k fs _ S' => X k fs S'⟩ := fun ds S0 Q X h => txt_freep (b := A.b13) rfl  h
theorem body14 (G : M.Gm) (hG : G.fn = M.upto 14 sp) (hc : G.con = con) : ∀ ds S0 Q X, sp 14 ds S0 Q X → ds.length = 3 ∧ M.wpSs G A.b14 (M.start 5 ds) S0 ⟨fun _ S' => Q .non S', Q, fun _ _ => False, fun k fs _ S' => X k fs S'⟩ := fun ds S0 Q X h => txt_placeof (b := A.b14) rfl ((upto_at hG (by decide)).trans (rfl : sp 13 = _)) ((upto_at hG (by decide)).trans (rfl : sp 12 = _)) h
theorem body15 (G : M.Gm) (hG : G.fn = M.upto 15 sp) (hc : G.con = con) : ∀ ds S0 Q X, sp 15 ds S0 Q X → ds.length = 3 ∧ M.wpSs G A.b15 (M.start 6 ds) S0 ⟨fun _ S' => Q .non S', Q, fun _ _ => False, fun k fs _ S' => X k fs S'⟩ := fun ds S0 Q X h => txt_wayof (b := A.b15) rfl  h
theorem body16 (G : M.Gm) (hG : G.fn = M.upto 16 sp) (hc : G.con = con) : ∀ ds S0 Q X, sp 16 ds S0 Q X → ds.length = 3 ∧ M.wpSs G A.b16 (M.start 5 ds) S0 ⟨fun _ S' => Q .non S', Q, fun _ _ => False, fun k fs _ S' => X k fs S'⟩ := fun ds S0 Q X h => txt_waysof (b := A.b16) rfl ((upto_at hG (by decide)).trans (rfl : sp 13 = _)) ((upto_at hG (by decide)).trans (rfl : sp 15 = _)) h
theorem body17 (G : M.Gm) (hG : G.fn = M.upto 17 sp) (hc : G.con = con) : ∀ ds S0 Q X, sp 17 ds S0 Q X → ds.length = 3 ∧ M.wpSs G A.b17 (M.start 4 ds) S0 ⟨fun _ S' => Q .non S', Q, fun _ _ => False, fun k fs _ S' => X k fs S'⟩ := fun ds S0 Q X h => txt_shotof (b := A.b17) rfl ((upto_at hG (by decide)).trans (rfl : sp 14 = _)) ((upto_at hG (by decide)).trans (rfl : sp 16 = _)) h
theorem body18 (G : M.Gm) (hG : G.fn = M.upto 18 sp) (hc : G.con = con) : ∀ ds S0 Q X, sp 18 ds S0 Q X → ds.length = 3 ∧ M.wpSs G A.b18 (M.start 3 ds) S0 ⟨fun _ S' => Q .non S', Q, fun _ _ => False, fun k fs _ S' => X k fs S'⟩ := fun ds S0 Q X h => txt_place (b := A.b18) rfl ((upto_at hG (by decide)).trans (rfl : sp 10 = _)) ((upto_at hG (by decide)).trans (rfl : sp 11 = _)) ((upto_at hG (by decide)).trans (rfl : sp 14 = _)) h
theorem body19 (G : M.Gm) (hG : G.fn = M.upto 19 sp) (hc : G.con = con) : ∀ ds S0 Q X, sp 19 ds S0 Q X → ds.length = 3 ∧ M.wpSs G A.b19 (M.start 3 ds) S0 ⟨fun _ S' => Q .non S', Q, fun _ _ => False, fun k fs _ S' => X k fs S'⟩ := fun ds S0 Q X h => txt_way (b := A.b19) rfl ((upto_at hG (by decide)).trans (rfl : sp 10 = _)) ((upto_at hG (by decide)).trans (rfl : sp 11 = _)) ((upto_at hG (by decide)).trans (rfl : sp 16 = _)) h
theorem body20 (G : M.Gm) (hG : G.fn = M.upto 20 sp) (hc : G.con = con) : ∀ ds S0 Q X, sp 20 ds S0 Q X → ds.length = 3 ∧ M.wpSs G A.b20 (M.start 3 ds) S0 ⟨fun _ S' => Q .non S', Q, fun _ _ => False, fun k fs _ S' => X k fs S'⟩ := fun ds S0 Q X h => txt_shotat (b := A.b20) rfl ((upto_at hG (by decide)).trans (rfl : sp 10 = _)) ((upto_at hG (by decide)).trans (rfl : sp 11 = _)) ((upto_at hG (by decide)).trans (rfl : sp 17 = _)) h
theorem body21 (G : M.Gm) (hG : G.fn = M.upto 21 sp) (hc : G.con = con) : ∀ ds S0 Q X, sp 21 ds S0 Q X → ds.length = 3 ∧ M.wpSs G A.b21 (M.start 3 ds) S0 ⟨fun _ S' => Q .non S', Q, fun _ _ => False, fun k fs _ S' => X k fs S'⟩ := fun ds S0 Q X h => txt_line (b := A.b21) rfl  h
theorem body22 (G : M.Gm) (hG : G.fn = M.upto 22 sp) (hc : G.con = con) : ∀ ds S0 Q X, sp 22 ds S0 Q X → ds.length = 2 ∧ M.wpSs G A.b22 (M.start 2 ds) S0 ⟨fun _ S' => Q .non S', Q, fun _ _ => False, fun k fs _ S' => X k fs S'⟩ := fun ds S0 Q X h => txt_lines (b := A.b22) rfl ((upto_at hG (by decide)).trans (rfl : sp 21 = _)) h
theorem body23 (G : M.Gm) (hG : G.fn = M.upto 23 sp) (hc : G.con = con) : ∀ ds S0 Q X, sp 23 ds S0 Q X → ds.length = 2 ∧ M.wpSs G A.b23 (M.start 2 ds) S0 ⟨fun _ S' => Q .non S', Q, fun _ _ => False, fun k fs _ S' => X k fs S'⟩ := fun ds S0 Q X h => txt_cnt (b := A.b23) rfl  h
theorem body24 (G : M.Gm) (hG : G.fn = M.upto 24 sp) (hc : G.con = con) : ∀ ds S0 Q X, sp 24 ds S0 Q X → ds.length = 2 ∧ M.wpSs G A.b24 (M.start 2 ds) S0 ⟨fun _ S' => Q .non S', Q, fun _ _ => False, fun k fs _ S' => X k fs S'⟩ := fun ds S0 Q X h => txt_time (b := A.b24) rfl ((upto_at hG (by decide)).trans (rfl : sp 2 = _)) h
theorem body25 (G : M.Gm) (hG : G.fn = M.upto 25 sp) (hc : G.con = con) : ∀ ds S0 Q X, sp 25 ds S0 Q X → ds.length = 3 ∧ M.wpSs G A.b25 (M.start 3 ds) S0 ⟨fun _ S' => Q .non S', Q, fun _ _ => False, fun k fs _ S' => X k fs S'⟩ := fun ds S0 Q X h => txt_let (b := A.b25) rfl  h
theorem body26 (G : M.Gm) (hG : G.fn = M.upto 26 sp) (hc : G.con = con) : ∀ ds S0 Q X, sp 26 ds S0 Q X → ds.length = 1 ∧ M.wpSs G A.b26 (M.start 5 ds) S0 ⟨fun _ S' => Q .non S', Q, fun _ _ => False, fun k fs _ S' => X k fs S'⟩ := fun ds S0 Q X h => txt_corn (b := A.b26) rfl ((upto_at hG (by decide)).trans (rfl : sp 4 = _)) h
theorem body27 (G : M.Gm) (hG : G.fn = M.upto 27 sp) (hc : G.con = con) : ∀ ds S0 Q X, sp 27 ds S0 Q X → ds.length = 2 ∧ M.wpSs G A.b27 (M.start 2 ds) S0 ⟨fun _ S' => Q .non S', Q, fun _ _ => False, fun k fs _ S' => X k fs S'⟩ := fun ds S0 Q X h => txt_cc (b := A.b27) rfl  h
theorem body28 (G : M.Gm) (hG : G.fn = M.upto 28 sp) (hc : G.con = con) : ∀ ds S0 Q X, sp 28 ds S0 Q X → ds.length = 2 ∧ M.wpSs G A.b28 (M.start 3 ds) S0 ⟨fun _ S' => Q .non S', Q, fun _ _ => False, fun k fs _ S' => X k fs S'⟩ := fun ds S0 Q X h => txt_co (b := A.b28) rfl ((upto_at hG (by decide)).trans (rfl : sp 23 = _)) ((upto_at hG (by decide)).trans (rfl : sp 26 = _)) ((upto_at hG (by decide)).trans (rfl : sp 27 = _)) h
theorem body29 (G : M.Gm) (hG : G.fn = M.upto 29 sp) (hc : G.con = con) : ∀ ds S0 Q X, sp 29 ds S0 Q X → ds.length = 2 ∧ M.wpSs G A.b29 (M.start 2 ds) S0 ⟨fun _ S' => Q .non S', Q, fun _ _ => False, fun k fs _ S' => X k fs S'⟩ := fun ds S0 Q X h => txt_rank (b := A.b29) rfl ((upto_at hG (by decide)).trans (rfl : sp 24 = _)) ((upto_at hG (by decide)).trans (rfl : sp 28 = _)) h
theorem body30 (G : M.Gm) (hG : G.fn = M.upto 30 sp) (hc : G.con = con) : ∀ ds S0 Q X, sp 30 ds S0 Q X → ds.length = 2 ∧ M.wpSs G A.b30 (M.start 8 ds) S0 ⟨fun _ S' => Q .non S', Q, fun _ _ => False, fun k fs _ S' => X k fs S'⟩ := fun ds S0 Q X h => txt_ht (b := A.b30) rfl ((upto_at hG (by decide)).trans (rfl : sp 23 = _)) ((upto_at hG (by decide)).trans (rfl : sp 24 = _)) ((upto_at hG (by decide)).trans (rfl : sp 29 = _)) h
theorem body31 (G : M.Gm) (hG : G.fn = M.upto 31 sp) (hc : G.con = con) : ∀ ds S0 Q X, sp 31 ds S0 Q X → ds.length = 2 ∧ M.wpSs G A.b31 (M.start 2 ds) S0 ⟨fun _ S' => Q .non S', Q, fun _ _ => False, fun k fs _ S' => X k fs S'⟩ := fun ds S0 Q X h => txt_isat (b := A.b31) rfl  h
theorem body32 (G : M.Gm) (hG : G.fn = M.upto 32 sp) (hc : G.con = con) : ∀ ds S0 Q X, sp 32 ds S0 Q X → ds.length = 2 ∧ M.wpSs G A.b32 (M.start 5 ds) S0 ⟨fun _ S' => Q .non S', Q, fun _ _ => False, fun k fs _ S' => X k fs S'⟩ := fun ds S0 Q X h => txt_wa (b := A.b32) rfl ((upto_at hG (by decide)).trans (rfl : sp 23 = _)) ((upto_at hG (by decide)).trans (rfl : sp 25 = _)) ((upto_at hG (by decide)).trans (rfl : sp 31 = _)) ((congrFun hc 0).trans (rfl : con 0 = _)) h
theorem body33 (G : M.Gm) (hG : G.fn = M.upto 33 sp) (hc : G.con = con) : ∀ ds S0 Q X, sp 33 ds S0 Q X → ds.length = 3 ∧ M.wpSs G A.b33 (M.start 5 ds) S0 ⟨fun _ S' => Q .non S', Q, fun _ _ => False, fun k fs _ S' => X k fs S'⟩ := fun ds S0 Q X h => txt_ho (b := A.b33) rfl ((upto_at hG (by decide)).trans (rfl : sp 14 = _)) ((upto_at hG (by decide)).trans (rfl : sp 22 = _)) ((upto_at hG (by decide)).trans (rfl : sp 30 = _)) ((upto_at hG (by decide)).trans (rfl : sp 32 = _)) h
theorem body34 (G : M.Gm) (hG : G.fn = M.upto 34 sp) (hc : G.con = con) : ∀ ds S0 Q X, sp 34 ds S0 Q X → ds.length = 3 ∧ M.wpSs G A.b34 (M.start 3 ds) S0 ⟨fun _ S' => Q .non S', Q, fun _ _ => False, fun k fs _ S' => X k fs S'⟩ := fun ds S0 Q X h => txt_hits (b := A.b34) rfl ((upto_at hG (by decide)).trans (rfl : sp 10 = _)) ((upto_at hG (by decide)).trans (rfl : sp 11 = _)) ((upto_at hG (by decide)).trans (rfl : sp 22 = _)) ((upto_at hG (by decide)).trans (rfl : sp 28 = _)) h
theorem body35 (G : M.Gm) (hG : G.fn = M.upto 35 sp) (hc : G.con = con) : ∀ ds S0 Q X, sp 35 ds S0 Q X → ds.length = 3 ∧ M.wpSs G A.b35 (M.start 3 ds) S0 ⟨fun _ S' => Q .non S', Q, fun _ _ => False, fun k fs _ S' => X k fs S'⟩ := fun ds S0 Q X h => txt_nth (b := A.b35) rfl ((upto_at hG (by decide)).trans (rfl : sp 0 = _)) ((upto_at hG (by decide)).trans (rfl : sp 10 = _)) ((upto_at hG (by decide)).trans (rfl : sp 33 = _)) h
theorem body36 (G : M.Gm) (hG : G.fn = M.upto 36 sp) (hc : G.con = con) : ∀ ds S0 Q X, sp 36 ds S0 Q X → ds.length = 3 ∧ M.wpSs G A.b36 (M.start 4 ds) S0 ⟨fun _ S' => Q .non S', Q, fun _ _ => False, fun k fs _ S' => X k fs S'⟩ := fun ds S0 Q X h => txt_hw (b := A.b36) rfl ((upto_at hG (by decide)).trans (rfl : sp 0 = _)) ((upto_at hG (by decide)).trans (rfl : sp 10 = _)) ((upto_at hG (by decide)).trans (rfl : sp 33 = _)) h
theorem body37 (G : M.Gm) (hG : G.fn = M.upto 37 sp) (hc : G.con = con) : ∀ ds S0 Q X, sp 37 ds S0 Q X → ds.length = 1 ∧ M.wpSs G A.b37 (M.start 1 ds) S0 ⟨fun _ S' => Q .non S', Q, fun _ _ => False, fun k fs _ S' => X k fs S'⟩ := fun ds S0 Q X h => txt_cush (b := A.b37) rfl  h
theorem body38 (G : M.Gm) (hG : G.fn = M.upto 38 sp) (hc : G.con = con) : ∀ ds S0 Q X, sp 38 ds S0 Q X → ds.length = 4 ∧ M.wpSs G A.b38 (M.start 5 ds) S0 ⟨fun _ S' => Q .non S', Q, fun _ _ => False, fun k fs _ S' => X k fs S'⟩ := fun ds S0 Q X h => txt_lc (b := A.b38) rfl ((upto_at hG (by decide)).trans (rfl : sp 23 = _)) ((upto_at hG (by decide)).trans (rfl : sp 25 = _)) h
theorem body39 (G : M.Gm) (hG : G.fn = M.upto 39 sp) (hc : G.con = con) : ∀ ds S0 Q X, sp 39 ds S0 Q X → ds.length = 3 ∧ M.wpSs G A.b39 (M.start 4 ds) S0 ⟨fun _ S' => Q .non S', Q, fun _ _ => False, fun k fs _ S' => X k fs S'⟩ := fun ds S0 Q X h => txt_cu (b := A.b39) rfl ((upto_at hG (by decide)).trans (rfl : sp 38 = _)) ((congrFun hc 0).trans (rfl : con 0 = _)) h
theorem body40 (G : M.Gm) (hG : G.fn = M.upto 40 sp) (hc : G.con = con) : ∀ ds S0 Q X, sp 40 ds S0 Q X → ds.length = 4 ∧ M.wpSs G A.b40 (M.start 4 ds) S0 ⟨fun _ S' => Q .non S', Q, fun _ _ => False, fun k fs _ S' => X k fs S'⟩ := fun ds S0 Q X h => txt_count (b := A.b40) rfl ((upto_at hG (by decide)).trans (rfl : sp 10 = _)) ((upto_at hG (by decide)).trans (rfl : sp 11 = _)) ((upto_at hG (by decide)).trans (rfl : sp 22 = _)) ((upto_at hG (by decide)).trans (rfl : sp 37 = _)) ((upto_at hG (by decide)).trans (rfl : sp 39 = _)) h
theorem body41 (G : M.Gm) (hG : G.fn = M.upto 41 sp) (hc : G.con = con) : ∀ ds S0 Q X, sp 41 ds S0 Q X → ds.length = 2 ∧ M.wpSs G A.b41 (M.start 3 ds) S0 ⟨fun _ S' => Q .non S', Q, fun _ _ => False, fun k fs _ S' => X k fs S'⟩ := fun ds S0 Q X h => txt_well (b := A.b41) rfl  h
theorem body42 (G : M.Gm) (hG : G.fn = M.upto 42 sp) (hc : G.con = con) : ∀ ds S0 Q X, sp 42 ds S0 Q X → ds.length = 2 ∧ M.wpSs G A.b42 (M.start 4 ds) S0 ⟨fun _ S' => Q .non S', Q, fun _ _ => False, fun k fs _ S' => X k fs S'⟩ := fun ds S0 Q X h => txt_draw (b := A.b42) rfl  h
theorem body43 (m : Nat) (G : M.Gm) (hG : G.fn = fun i => if i = 43 then fuel m else M.upto 43 sp i) (hc : G.con = con) : ∀ ds S0 Q X, fuel (m + 1) ds S0 Q X → ds.length = 2 ∧ M.wpSs G A.b43 (M.start 3 ds) S0 ⟨fun _ S' => Q .non S', Q, fun _ _ => False, fun k fs _ S' => X k fs S'⟩ := fun ds S0 Q X h => txt_same m (b := A.b43) rfl (by rw [hG]; rfl) h
theorem body44 (G : M.Gm) (hG : G.fn = M.upto 44 sp) (hc : G.con = con) : ∀ ds S0 Q X, sp 44 ds S0 Q X → ds.length = 2 ∧ M.wpSs G A.b44 (M.start 4 ds) S0 ⟨fun _ S' => Q .non S', Q, fun _ _ => False, fun k fs _ S' => X k fs S'⟩ := fun ds S0 Q X h => txt_desk (b := A.b44) rfl ((upto_at hG (by decide)).trans (rfl : sp 42 = _)) h
theorem body45 (G : M.Gm) (hG : G.fn = M.upto 45 sp) (hc : G.con = con) : ∀ ds S0 Q X, sp 45 ds S0 Q X → ds.length = 3 ∧ M.wpSs G A.b45 (M.start 7 ds) S0 ⟨fun _ S' => Q .non S', Q, fun _ _ => False, fun k fs _ S' => X k fs S'⟩ := fun ds S0 Q X h => txt_roll (b := A.b45) rfl ((upto_at hG (by decide)).trans (rfl : sp 42 = _)) h
theorem body46 (G : M.Gm) (hG : G.fn = M.upto 46 sp) (hc : G.con = con) : ∀ ds S0 Q X, sp 46 ds S0 Q X → ds.length = 2 ∧ M.wpSs G A.b46 (M.start 4 ds) S0 ⟨fun _ S' => Q .non S', Q, fun _ _ => False, fun k fs _ S' => X k fs S'⟩ := fun ds S0 Q X h => txt_low (b := A.b46) rfl  h
theorem body47 (G : M.Gm) (hG : G.fn = M.upto 47 sp) (hc : G.con = con) : ∀ ds S0 Q X, sp 47 ds S0 Q X → ds.length = 2 ∧ M.wpSs G A.b47 (M.start 6 ds) S0 ⟨fun _ S' => Q .non S', Q, fun _ _ => False, fun k fs _ S' => X k fs S'⟩ := fun ds S0 Q X h => txt_mid (b := A.b47) rfl ((upto_at hG (by decide)).trans (rfl : sp 46 = _)) h
theorem body48 (G : M.Gm) (hG : G.fn = M.upto 48 sp) (hc : G.con = con) : ∀ ds S0 Q X, sp 48 ds S0 Q X → ds.length = 3 ∧ M.wpSs G A.b48 (M.start 20 ds) S0 ⟨fun _ S' => Q .non S', Q, fun _ _ => False, fun k fs _ S' => X k fs S'⟩ := fun ds S0 Q X h => txt_hr (b := A.b48) rfl ((upto_at hG (by decide)).trans (rfl : sp 18 = _)) ((upto_at hG (by decide)).trans (rfl : sp 19 = _)) ((upto_at hG (by decide)).trans (rfl : sp 34 = _)) ((upto_at hG (by decide)).trans (rfl : sp 35 = _)) ((upto_at hG (by decide)).trans (rfl : sp 36 = _)) ((upto_at hG (by decide)).trans (rfl : sp 40 = _)) ((upto_at hG (by decide)).trans (rfl : sp 43 = _)) ((upto_at hG (by decide)).trans (rfl : sp 47 = _)) h
theorem body49 (G : M.Gm) (hG : G.fn = M.upto 49 sp) (hc : G.con = con) : ∀ ds S0 Q X, sp 49 ds S0 Q X → ds.length = 3 ∧ M.wpSs G A.b49 (M.start 10 ds) S0 ⟨fun _ S' => Q .non S', Q, fun _ _ => False, fun k fs _ S' => X k fs S'⟩ := fun ds S0 Q X h => txt_lr (b := A.b49) rfl ((upto_at hG (by decide)).trans (rfl : sp 18 = _)) ((upto_at hG (by decide)).trans (rfl : sp 20 = _)) ((upto_at hG (by decide)).trans (rfl : sp 34 = _)) ((upto_at hG (by decide)).trans (rfl : sp 35 = _)) ((upto_at hG (by decide)).trans (rfl : sp 43 = _)) ((upto_at hG (by decide)).trans (rfl : sp 46 = _)) h
theorem body50 (G : M.Gm) (hG : G.fn = M.upto 50 sp) (hc : G.con = con) : ∀ ds S0 Q X, sp 50 ds S0 Q X → ds.length = 1 ∧ M.wpSs G A.b50 (M.start 8 ds) S0 ⟨fun _ S' => Q .non S', Q, fun _ _ => False, fun k fs _ S' => X k fs S'⟩ := fun ds S0 Q X h => law_ok (b := A.b50) rfl ((upto_at hG (by decide)).trans (rfl : sp 41 = _)) ((upto_at hG (by decide)).trans (rfl : sp 42 = _)) ((upto_at hG (by decide)).trans (rfl : sp 44 = _)) ((upto_at hG (by decide)).trans (rfl : sp 45 = _)) ((upto_at hG (by decide)).trans (rfl : sp 48 = _)) ((upto_at hG (by decide)).trans (rfl : sp 49 = _)) h
end K64.P
namespace K64
open PySem PySem.Spec PyProof.Rows L2
abbrev pw : Program := PySem.Challenge.pw_cushionshots_k64_whole_hits_and_places
def top (i : Nat) : Stmt := pw.main.body.getD i (.Pass ⟨0, 0, 0, 0⟩)
def T : Snd.Tb := { fns := ((["is_integer", "divisor", "fraction", "inverse", "least_solution", "are_table", "is_free_shot", "is_shot_on", "are_fraction", "check_table", "check_shot", "check_time", "fold", "free_place", "place_of", "way_of", "ways_of", "shot_of", "place_at", "way_at"] : List Str) ++ (["shot_at", "line_of", "lines_of", "line_count", "line_time", "line_letter", "corners_of", "corner_count", "count_of", "rank_of", "hit_time", "is_at", "word_at", "hit_of", "count_hits", "nth_hit", "hit_words", "is_cushion", "letter_count", "cushion_count"] : List Str) ++ (["count_cushion", "_law_well", "_law_draw", "_law_same", "_law_desk", "_law_roll", "_law_low", "_law_mid", "_law_hit_right", "_law_later_right", "law"] : List Str)), cons := ["LETTERS"], cls := ["ShotError", "InvalidTable", "InvalidShot", "InvalidTime", "InvalidNumber", "InvalidIndex", "InvalidCushion"], bts := ["abs", "all", "bool", "int", "isinstance", "len", "list", "max", "min", "range", "str", "sum", "tuple", "zip"], kws := [] }
def n0 : List Str := ["value", "least", "most"]
theorem ck0 : Snd.chkSs T n0 A.b0 (defScope (top 9)) (defBody (top 9)) = true := by kernel_rfl
def n1 : List Str := ["one", "other", "here", "there", "rest"]
theorem ck1 : Snd.chkSs T n1 A.b1 (defScope (top 10)) (defBody (top 10)) = true := by kernel_rfl
def n2 : List Str := ["top", "bottom", "common"]
theorem ck2 : Snd.chkSs T n2 A.b2 (defScope (top 11)) (defBody (top 11)) = true := by kernel_rfl
def n3 : List Str := ["number", "modulus", "here", "there", "back", "forth", "times", "rest"]
theorem ck3 : Snd.chkSs T n3 A.b3 (defScope (top 12)) (defBody (top 12)) = true := by kernel_rfl
def n4 : List Str := ["factor", "rest", "modulus", "common", "step"]
theorem ck4 : Snd.chkSs T n4 A.b4 (defScope (top 13)) (defBody (top 13)) = true := by kernel_rfl
def n5 : List Str := ["value", "side"]
theorem ck5 : Snd.chkSs T n5 A.b5 (defScope (top 15)) (defBody (top 15)) = true := by kernel_rfl
def n6 : List Str := ["value", "one"]
theorem ck6 : Snd.chkSs T n6 A.b6 (defScope (top 16)) (defBody (top 16)) = true := by kernel_rfl
def n7 : List Str := ["table", "value"]
theorem ck7 : Snd.chkSs T n7 A.b7 (defScope (top 17)) (defBody (top 17)) = true := by kernel_rfl
def n8 : List Str := ["value"]
theorem ck8 : Snd.chkSs T n8 A.b8 (defScope (top 18)) (defBody (top 18)) = true := by kernel_rfl
def n9 : List Str := ["table"]
theorem ck9 : Snd.chkSs T n9 A.b9 (defScope (top 19)) (defBody (top 19)) = true := by kernel_rfl
def n10 : List Str := ["table", "shot"]
theorem ck10 : Snd.chkSs T n10 A.b10 (defScope (top 20)) (defBody (top 20)) = true := by kernel_rfl
def n11 : List Str := ["time"]
theorem ck11 : Snd.chkSs T n11 A.b11 (defScope (top 21)) (defBody (top 21)) = true := by kernel_rfl
def n12 : List Str := ["side", "number", "top", "bottom", "rest"]
theorem ck12 : Snd.chkSs T n12 A.b12 (defScope (top 22)) (defBody (top 22)) = true := by kernel_rfl
def n13 : List Str := ["shot", "time", "top", "bottom"]
theorem ck13 : Snd.chkSs T n13 A.b13 (defScope (top 23)) (defBody (top 23)) = true := by kernel_rfl
def n14 : List Str := ["table", "shot", "time", "first", "second"]
theorem ck14 : Snd.chkSs T n14 A.b14 (defScope (top 24)) (defBody (top 24)) = true := by kernel_rfl
def n15 : List Str := ["side", "number", "direction", "top", "bottom", "cell"]
theorem ck15 : Snd.chkSs T n15 A.b15 (defScope (top 25)) (defBody (top 25)) = true := by kernel_rfl
def n16 : List Str := ["table", "shot", "time", "first", "second"]
theorem ck16 : Snd.chkSs T n16 A.b16 (defScope (top 26)) (defBody (top 26)) = true := by kernel_rfl
def n17 : List Str := ["table", "shot", "time", "place"]
theorem ck17 : Snd.chkSs T n17 A.b17 (defScope (top 27)) (defBody (top 27)) = true := by kernel_rfl
def n18 : List Str := ["table", "shot", "time"]
theorem ck18 : Snd.chkSs T n18 A.b18 (defScope (top 28)) (defBody (top 28)) = true := by kernel_rfl
def n19 : List Str := ["table", "shot", "time"]
theorem ck19 : Snd.chkSs T n19 A.b19 (defScope (top 29)) (defBody (top 29)) = true := by kernel_rfl
def n20 : List Str := ["table", "shot", "time"]
theorem ck20 : Snd.chkSs T n20 A.b20 (defScope (top 30)) (defBody (top 30)) = true := by kernel_rfl
def n21 : List Str := ["start", "direction", "side"]
theorem ck21 : Snd.chkSs T n21 A.b21 (defScope (top 33)) (defBody (top 33)) = true := by kernel_rfl
def n22 : List Str := ["table", "shot"]
theorem ck22 : Snd.chkSs T n22 A.b22 (defScope (top 34)) (defBody (top 34)) = true := by kernel_rfl
def n23 : List Str := ["line", "time"]
theorem ck23 : Snd.chkSs T n23 A.b23 (defScope (top 35)) (defBody (top 35)) = true := by kernel_rfl
def n24 : List Str := ["line", "many"]
theorem ck24 : Snd.chkSs T n24 A.b24 (defScope (top 36)) (defBody (top 36)) = true := by kernel_rfl
def n25 : List Str := ["line", "letters", "many"]
theorem ck25 : Snd.chkSs T n25 A.b25 (defScope (top 37)) (defBody (top 37)) = true := by kernel_rfl
def n26 : List Str := ["lines", "first", "second", "rest", "found"]
theorem ck26 : Snd.chkSs T n26 A.b26 (defScope (top 38)) (defBody (top 38)) = true := by kernel_rfl
def n27 : List Str := ["corners", "many"]
theorem ck27 : Snd.chkSs T n27 A.b27 (defScope (top 39)) (defBody (top 39)) = true := by kernel_rfl
def n28 : List Str := ["lines", "time", "first"]
theorem ck28 : Snd.chkSs T n28 A.b28 (defScope (top 40)) (defBody (top 40)) = true := by kernel_rfl
def n29 : List Str := ["lines", "many"]
theorem ck29 : Snd.chkSs T n29 A.b29 (defScope (top 41)) (defBody (top 41)) = true := by kernel_rfl
def n30 : List Str := ["lines", "number", "first", "second", "least", "most", "before", "middle"]
theorem ck30 : Snd.chkSs T n30 A.b30 (defScope (top 42)) (defBody (top 42)) = true := by kernel_rfl
def n31 : List Str := ["line", "time"]
theorem ck31 : Snd.chkSs T n31 A.b31 (defScope (top 43)) (defBody (top 43)) = true := by kernel_rfl
def n32 : List Str := ["lines", "time", "found", "line", "letters"]
theorem ck32 : Snd.chkSs T n32 A.b32 (defScope (top 44)) (defBody (top 44)) = true := by kernel_rfl
def n33 : List Str := ["table", "shot", "number", "lines", "time"]
theorem ck33 : Snd.chkSs T n33 A.b33 (defScope (top 45)) (defBody (top 45)) = true := by kernel_rfl
def n34 : List Str := ["table", "shot", "time"]
theorem ck34 : Snd.chkSs T n34 A.b34 (defScope (top 46)) (defBody (top 46)) = true := by kernel_rfl
def n35 : List Str := ["table", "shot", "index"]
theorem ck35 : Snd.chkSs T n35 A.b35 (defScope (top 47)) (defBody (top 47)) = true := by kernel_rfl
def n36 : List Str := ["table", "shot", "many", "number"]
theorem ck36 : Snd.chkSs T n36 A.b36 (defScope (top 48)) (defBody (top 48)) = true := by kernel_rfl
def n37 : List Str := ["value"]
theorem ck37 : Snd.chkSs T n37 A.b37 (defScope (top 49)) (defBody (top 49)) = true := by kernel_rfl
def n38 : List Str := ["line", "letters", "cushion", "time", "many"]
theorem ck38 : Snd.chkSs T n38 A.b38 (defScope (top 50)) (defBody (top 50)) = true := by kernel_rfl
def n39 : List Str := ["lines", "cushion", "time", "spot"]
theorem ck39 : Snd.chkSs T n39 A.b39 (defScope (top 51)) (defBody (top 51)) = true := by kernel_rfl
def n40 : List Str := ["table", "shot", "cushion", "time"]
theorem ck40 : Snd.chkSs T n40 A.b40 (defScope (top 52)) (defBody (top 52)) = true := by kernel_rfl
def n41 : List Str := ["script", "at", "cell"]
theorem ck41 : Snd.chkSs T n41 A.b41 (defScope (top 54)) (defBody (top 54)) = true := by kernel_rfl
def n42 : List Str := ["well", "most", "blend", "digit"]
theorem ck42 : Snd.chkSs T n42 A.b42 (defScope (top 55)) (defBody (top 55)) = true := by kernel_rfl
def n43 : List Str := ["found", "due", "k"]
theorem ck43 : Snd.chkSs T n43 A.b43 (defScope (top 56)) (defBody (top 56)) = true := by kernel_rfl
def n44 : List Str := ["well", "most", "wide", "tall"]
theorem ck44 : Snd.chkSs T n44 A.b44 (defScope (top 57)) (defBody (top 57)) = true := by kernel_rfl
def n45 : List Str := ["well", "desk", "most", "x", "y", "p", "q"]
theorem ck45 : Snd.chkSs T n45 A.b45 (defScope (top 58)) (defBody (top 58)) = true := by kernel_rfl
def n46 : List Str := ["top", "bottom", "a", "b"]
theorem ck46 : Snd.chkSs T n46 A.b46 (defScope (top 59)) (defBody (top 59)) = true := by kernel_rfl
def n47 : List Str := ["first", "second", "a", "b", "c", "d"]
theorem ck47 : Snd.chkSs T n47 A.b47 (defScope (top 60)) (defBody (top 60)) = true := by kernel_rfl
def n48 : List Str := ["desk", "roll", "at", "now", "word", "goal", "early", "half", "before", "due", "signs", "k", "letters", "parts", "size", "sign", "edge", "corners_here", "letter", "one"]
theorem ck48 : Snd.chkSs T n48 A.b48 (defScope (top 61)) (defBody (top 61)) = true := by kernel_rfl
def n49 : List Str := ["desk", "roll", "wait", "later", "least", "at", "now", "word", "goal", "told"]
theorem ck49 : Snd.chkSs T n49 A.b49 (defScope (top 62)) (defBody (top 62)) = true := by kernel_rfl
def n50 : List Str := ["script", "at", "well", "most", "far", "desk", "roll", "k"]
theorem ck50 : Snd.chkSs T n50 A.b50 (defScope (top 63)) (defBody (top 63)) = true := by kernel_rfl
def dd (x : Str) (i : Nat) : He.DefD := ⟨(x, none), x, x, defArgs (top i), defBody (top i), defScope (top i), [], []⟩
def fnl : List He.DefD := [dd "is_integer" 9, dd "divisor" 10, dd "fraction" 11, dd "inverse" 12, dd "least_solution" 13, dd "are_table" 15, dd "is_free_shot" 16, dd "is_shot_on" 17, dd "are_fraction" 18, dd "check_table" 19, dd "check_shot" 20, dd "check_time" 21, dd "fold" 22, dd "free_place" 23, dd "place_of" 24, dd "way_of" 25, dd "ways_of" 26, dd "shot_of" 27, dd "place_at" 28, dd "way_at" 29, dd "shot_at" 30, dd "line_of" 33, dd "lines_of" 34, dd "line_count" 35, dd "line_time" 36, dd "line_letter" 37, dd "corners_of" 38, dd "corner_count" 39, dd "count_of" 40, dd "rank_of" 41, dd "hit_time" 42, dd "is_at" 43, dd "word_at" 44, dd "hit_of" 45, dd "count_hits" 46, dd "nth_hit" 47, dd "hit_words" 48, dd "is_cushion" 49, dd "letter_count" 50, dd "cushion_count" 51, dd "count_cushion" 52, dd "_law_well" 54, dd "_law_draw" 55, dd "_law_same" 56, dd "_law_desk" 57, dd "_law_roll" 58, dd "_law_low" 59, dd "_law_mid" 60, dd "_law_hit_right" 61, dd "_law_later_right" 62, dd "law" 63]
def fal : List He.Fa := [.glo "is_integer", .glo "divisor", .glo "fraction", .glo "inverse", .glo "least_solution", .glo "are_table", .glo "is_free_shot", .glo "is_shot_on", .glo "are_fraction", .glo "check_table", .glo "check_shot", .glo "check_time", .glo "fold", .glo "free_place", .glo "place_of", .glo "way_of", .glo "ways_of", .glo "shot_of", .glo "place_at", .glo "way_at", .glo "shot_at", .glo "line_of", .glo "lines_of", .glo "line_count", .glo "line_time", .glo "line_letter", .glo "corners_of", .glo "corner_count", .glo "count_of", .glo "rank_of", .glo "hit_time", .glo "is_at", .glo "word_at", .glo "hit_of", .glo "count_hits", .glo "nth_hit", .glo "hit_words", .glo "is_cushion", .glo "letter_count", .glo "cushion_count", .glo "count_cushion", .glo "_law_well", .glo "_law_draw", .glo "_law_same", .glo "_law_desk", .glo "_law_roll", .glo "_law_low", .glo "_law_mid", .glo "_law_hit_right", .glo "_law_later_right", .glo "law", .free "abs", .free "all", .free "bool", .free "int", .free "isinstance", .free "len", .free "list", .free "max", .free "min", .free "range", .free "str", .free "sum", .free "tuple", .free "zip"]
def loose0 : List Str := ["ShotError", "InvalidTable", "InvalidShot", "InvalidTime", "InvalidNumber", "InvalidIndex", "InvalidCushion", "is_integer", "divisor", "fraction", "inverse", "least_solution", "are_table", "is_free_shot", "is_shot_on", "are_fraction", "check_table", "check_shot", "check_time", "fold"]
def loose1 : List Str := ["free_place", "place_of", "way_of", "ways_of", "shot_of", "place_at", "way_at", "shot_at", "LETTERS", "line_of", "lines_of", "line_count", "line_time", "line_letter", "corners_of", "corner_count", "count_of", "rank_of", "hit_time", "is_at"]
def loose2 : List Str := ["word_at", "hit_of", "count_hits", "nth_hit", "hit_words", "is_cushion", "letter_count", "cushion_count", "count_cushion", "_law_well", "_law_draw", "_law_same", "_law_desk", "_law_roll", "_law_low", "_law_mid", "_law_hit_right", "_law_later_right"]
def loose : List Str := loose0 ++ loose1 ++ loose2
abbrev rowL : PySem.W.OpenRow := PySem.W.OpenLaw.row PySem.Challenge.rw_cushionshots_k64_whole_hits_and_places
def cl : List (Str × M.D) := [("LETTERS", A.c0)]
abbrev hk : PySem.W.Hook := Snd.hookE 4 cl fal fnl
def ob (s : PySem.W.SharedT) : He.AlD := Snd.obsE cl fal fnl (He.frG (HandSHeadRun.getT s) (He.asD (HandSHeadRun.getT s) 4))
theorem ob_eq (s : PySem.W.SharedT) : ob s = hk.obs s.abs := Snd.obsE_eq (HandSHeadRun.getT_eq s)
theorem run (w : World) : HandSHeadRun.RunEq rowL (PySem.W.view rowL.prog [63]) hk ob 12000 loose w := by
  intro os
  kernel_rfl
theorem sc0 : FnScope n0 ["value", "least", "most"] (defScope (top 9)) := ⟨rfl, rfl, rfl, by decide +kernel, rfl, by decide +kernel, by decide +kernel⟩
theorem sc1 : FnScope n1 ["one", "other"] (defScope (top 10)) := ⟨rfl, rfl, rfl, by decide +kernel, rfl, by decide +kernel, by decide +kernel⟩
theorem sc2 : FnScope n2 ["top", "bottom"] (defScope (top 11)) := ⟨rfl, rfl, rfl, by decide +kernel, rfl, by decide +kernel, by decide +kernel⟩
theorem sc3 : FnScope n3 ["number", "modulus"] (defScope (top 12)) := ⟨rfl, rfl, rfl, by decide +kernel, rfl, by decide +kernel, by decide +kernel⟩
theorem sc4 : FnScope n4 ["factor", "rest", "modulus"] (defScope (top 13)) := ⟨rfl, rfl, rfl, by decide +kernel, rfl, by decide +kernel, by decide +kernel⟩
theorem sc5 : FnScope n5 ["value"] (defScope (top 15)) := ⟨rfl, rfl, rfl, by decide +kernel, rfl, by decide +kernel, by decide +kernel⟩
theorem sc6 : FnScope n6 ["value"] (defScope (top 16)) := ⟨rfl, rfl, rfl, by decide +kernel, rfl, by decide +kernel, by decide +kernel⟩
theorem sc7 : FnScope n7 ["table", "value"] (defScope (top 17)) := ⟨rfl, rfl, rfl, by decide +kernel, rfl, by decide +kernel, by decide +kernel⟩
theorem sc8 : FnScope n8 ["value"] (defScope (top 18)) := ⟨rfl, rfl, rfl, by decide +kernel, rfl, by decide +kernel, by decide +kernel⟩
theorem sc9 : FnScope n9 ["table"] (defScope (top 19)) := ⟨rfl, rfl, rfl, by decide +kernel, rfl, by decide +kernel, by decide +kernel⟩
theorem sc10 : FnScope n10 ["table", "shot"] (defScope (top 20)) := ⟨rfl, rfl, rfl, by decide +kernel, rfl, by decide +kernel, by decide +kernel⟩
theorem sc11 : FnScope n11 ["time"] (defScope (top 21)) := ⟨rfl, rfl, rfl, by decide +kernel, rfl, by decide +kernel, by decide +kernel⟩
theorem sc12 : FnScope n12 ["side", "number"] (defScope (top 22)) := ⟨rfl, rfl, rfl, by decide +kernel, rfl, by decide +kernel, by decide +kernel⟩
theorem sc13 : FnScope n13 ["shot", "time"] (defScope (top 23)) := ⟨rfl, rfl, rfl, by decide +kernel, rfl, by decide +kernel, by decide +kernel⟩
theorem sc14 : FnScope n14 ["table", "shot", "time"] (defScope (top 24)) := ⟨rfl, rfl, rfl, by decide +kernel, rfl, by decide +kernel, by decide +kernel⟩
theorem sc15 : FnScope n15 ["side", "number", "direction"] (defScope (top 25)) := ⟨rfl, rfl, rfl, by decide +kernel, rfl, by decide +kernel, by decide +kernel⟩
theorem sc16 : FnScope n16 ["table", "shot", "time"] (defScope (top 26)) := ⟨rfl, rfl, rfl, by decide +kernel, rfl, by decide +kernel, by decide +kernel⟩
theorem sc17 : FnScope n17 ["table", "shot", "time"] (defScope (top 27)) := ⟨rfl, rfl, rfl, by decide +kernel, rfl, by decide +kernel, by decide +kernel⟩
theorem sc18 : FnScope n18 ["table", "shot", "time"] (defScope (top 28)) := ⟨rfl, rfl, rfl, by decide +kernel, rfl, by decide +kernel, by decide +kernel⟩
theorem sc19 : FnScope n19 ["table", "shot", "time"] (defScope (top 29)) := ⟨rfl, rfl, rfl, by decide +kernel, rfl, by decide +kernel, by decide +kernel⟩
theorem sc20 : FnScope n20 ["table", "shot", "time"] (defScope (top 30)) := ⟨rfl, rfl, rfl, by decide +kernel, rfl, by decide +kernel, by decide +kernel⟩
theorem sc21 : FnScope n21 ["start", "direction", "side"] (defScope (top 33)) := ⟨rfl, rfl, rfl, by decide +kernel, rfl, by decide +kernel, by decide +kernel⟩
theorem sc22 : FnScope n22 ["table", "shot"] (defScope (top 34)) := ⟨rfl, rfl, rfl, by decide +kernel, rfl, by decide +kernel, by decide +kernel⟩
theorem sc23 : FnScope n23 ["line", "time"] (defScope (top 35)) := ⟨rfl, rfl, rfl, by decide +kernel, rfl, by decide +kernel, by decide +kernel⟩
theorem sc24 : FnScope n24 ["line", "many"] (defScope (top 36)) := ⟨rfl, rfl, rfl, by decide +kernel, rfl, by decide +kernel, by decide +kernel⟩
theorem sc25 : FnScope n25 ["line", "letters", "many"] (defScope (top 37)) := ⟨rfl, rfl, rfl, by decide +kernel, rfl, by decide +kernel, by decide +kernel⟩
theorem sc26 : FnScope n26 ["lines"] (defScope (top 38)) := ⟨rfl, rfl, rfl, by decide +kernel, rfl, by decide +kernel, by decide +kernel⟩
theorem sc27 : FnScope n27 ["corners", "many"] (defScope (top 39)) := ⟨rfl, rfl, rfl, by decide +kernel, rfl, by decide +kernel, by decide +kernel⟩
theorem sc28 : FnScope n28 ["lines", "time"] (defScope (top 40)) := ⟨rfl, rfl, rfl, by decide +kernel, rfl, by decide +kernel, by decide +kernel⟩
theorem sc29 : FnScope n29 ["lines", "many"] (defScope (top 41)) := ⟨rfl, rfl, rfl, by decide +kernel, rfl, by decide +kernel, by decide +kernel⟩
theorem sc30 : FnScope n30 ["lines", "number"] (defScope (top 42)) := ⟨rfl, rfl, rfl, by decide +kernel, rfl, by decide +kernel, by decide +kernel⟩
theorem sc31 : FnScope n31 ["line", "time"] (defScope (top 43)) := ⟨rfl, rfl, rfl, by decide +kernel, rfl, by decide +kernel, by decide +kernel⟩
theorem sc32 : FnScope n32 ["lines", "time"] (defScope (top 44)) := ⟨rfl, rfl, rfl, by decide +kernel, rfl, by decide +kernel, by decide +kernel⟩
theorem sc33 : FnScope n33 ["table", "shot", "number"] (defScope (top 45)) := ⟨rfl, rfl, rfl, by decide +kernel, rfl, by decide +kernel, by decide +kernel⟩
theorem sc34 : FnScope n34 ["table", "shot", "time"] (defScope (top 46)) := ⟨rfl, rfl, rfl, by decide +kernel, rfl, by decide +kernel, by decide +kernel⟩
theorem sc35 : FnScope n35 ["table", "shot", "index"] (defScope (top 47)) := ⟨rfl, rfl, rfl, by decide +kernel, rfl, by decide +kernel, by decide +kernel⟩
theorem sc36 : FnScope n36 ["table", "shot", "many"] (defScope (top 48)) := ⟨rfl, rfl, rfl, by decide +kernel, rfl, by decide +kernel, by decide +kernel⟩
theorem sc37 : FnScope n37 ["value"] (defScope (top 49)) := ⟨rfl, rfl, rfl, by decide +kernel, rfl, by decide +kernel, by decide +kernel⟩
theorem sc38 : FnScope n38 ["line", "letters", "cushion", "time"] (defScope (top 50)) := ⟨rfl, rfl, rfl, by decide +kernel, rfl, by decide +kernel, by decide +kernel⟩
theorem sc39 : FnScope n39 ["lines", "cushion", "time"] (defScope (top 51)) := ⟨rfl, rfl, rfl, by decide +kernel, rfl, by decide +kernel, by decide +kernel⟩
theorem sc40 : FnScope n40 ["table", "shot", "cushion", "time"] (defScope (top 52)) := ⟨rfl, rfl, rfl, by decide +kernel, rfl, by decide +kernel, by decide +kernel⟩
theorem sc41 : FnScope n41 ["script", "at"] (defScope (top 54)) := ⟨rfl, rfl, rfl, by decide +kernel, rfl, by decide +kernel, by decide +kernel⟩
theorem sc42 : FnScope n42 ["well", "most"] (defScope (top 55)) := ⟨rfl, rfl, rfl, by decide +kernel, rfl, by decide +kernel, by decide +kernel⟩
theorem sc43 : FnScope n43 ["found", "due"] (defScope (top 56)) := ⟨rfl, rfl, rfl, by decide +kernel, rfl, by decide +kernel, by decide +kernel⟩
theorem sc44 : FnScope n44 ["well", "most"] (defScope (top 57)) := ⟨rfl, rfl, rfl, by decide +kernel, rfl, by decide +kernel, by decide +kernel⟩
theorem sc45 : FnScope n45 ["well", "desk", "most"] (defScope (top 58)) := ⟨rfl, rfl, rfl, by decide +kernel, rfl, by decide +kernel, by decide +kernel⟩
theorem sc46 : FnScope n46 ["top", "bottom"] (defScope (top 59)) := ⟨rfl, rfl, rfl, by decide +kernel, rfl, by decide +kernel, by decide +kernel⟩
theorem sc47 : FnScope n47 ["first", "second"] (defScope (top 60)) := ⟨rfl, rfl, rfl, by decide +kernel, rfl, by decide +kernel, by decide +kernel⟩
theorem sc48 : FnScope n48 ["desk", "roll", "at"] (defScope (top 61)) := ⟨rfl, rfl, rfl, by decide +kernel, rfl, by decide +kernel, by decide +kernel⟩
theorem sc49 : FnScope n49 ["desk", "roll", "wait"] (defScope (top 62)) := ⟨rfl, rfl, rfl, by decide +kernel, rfl, by decide +kernel, by decide +kernel⟩
theorem sc50 : FnScope n50 ["script"] (defScope (top 63)) := ⟨rfl, rfl, rfl, by decide +kernel, rfl, by decide +kernel, by decide +kernel⟩
section
variable {Pg : Program} {w : World} {K : PySem.W.Frag} {mg : Str → Option Value} {base : Heap}
abbrev Fn (K : PySem.W.Frag) (x : Str) (i : Nat) (fd : FuncData) : Prop := FunD K x x (defArgs (top i)) (defBody (top i)) (defScope (top i)) [] [] (He.ga K x) fd
theorem df0 {fd : FuncData} (F : Fn K "is_integer" 9 fd) (g : mg "is_integer" = some (.ref (He.ga K "is_integer"))) : Snd.Def K mg T 0 "is_integer" (He.ga K "is_integer") fd ["value", "least", "most"] := ⟨g, F.kp, F.bindsN fun _ _ _ _ _ _ us hl => match us, hl with | [_, _, _], _ => rfl, fun m ks perm h => by cases h⟩
theorem df1 {fd : FuncData} (F : Fn K "divisor" 10 fd) (g : mg "divisor" = some (.ref (He.ga K "divisor"))) : Snd.Def K mg T 1 "divisor" (He.ga K "divisor") fd ["one", "other"] := ⟨g, F.kp, F.bindsN fun _ _ _ _ _ _ us hl => match us, hl with | [_, _], _ => rfl, fun m ks perm h => by cases h⟩
theorem df2 {fd : FuncData} (F : Fn K "fraction" 11 fd) (g : mg "fraction" = some (.ref (He.ga K "fraction"))) : Snd.Def K mg T 2 "fraction" (He.ga K "fraction") fd ["top", "bottom"] := ⟨g, F.kp, F.bindsN fun _ _ _ _ _ _ us hl => match us, hl with | [_, _], _ => rfl, fun m ks perm h => by cases h⟩
theorem df3 {fd : FuncData} (F : Fn K "inverse" 12 fd) (g : mg "inverse" = some (.ref (He.ga K "inverse"))) : Snd.Def K mg T 3 "inverse" (He.ga K "inverse") fd ["number", "modulus"] := ⟨g, F.kp, F.bindsN fun _ _ _ _ _ _ us hl => match us, hl with | [_, _], _ => rfl, fun m ks perm h => by cases h⟩
theorem df4 {fd : FuncData} (F : Fn K "least_solution" 13 fd) (g : mg "least_solution" = some (.ref (He.ga K "least_solution"))) : Snd.Def K mg T 4 "least_solution" (He.ga K "least_solution") fd ["factor", "rest", "modulus"] := ⟨g, F.kp, F.bindsN fun _ _ _ _ _ _ us hl => match us, hl with | [_, _, _], _ => rfl, fun m ks perm h => by cases h⟩
theorem df5 {fd : FuncData} (F : Fn K "are_table" 15 fd) (g : mg "are_table" = some (.ref (He.ga K "are_table"))) : Snd.Def K mg T 5 "are_table" (He.ga K "are_table") fd ["value"] := ⟨g, F.kp, F.bindsN fun _ _ _ _ _ _ us hl => match us, hl with | [_], _ => rfl, fun m ks perm h => by cases h⟩
theorem df6 {fd : FuncData} (F : Fn K "is_free_shot" 16 fd) (g : mg "is_free_shot" = some (.ref (He.ga K "is_free_shot"))) : Snd.Def K mg T 6 "is_free_shot" (He.ga K "is_free_shot") fd ["value"] := ⟨g, F.kp, F.bindsN fun _ _ _ _ _ _ us hl => match us, hl with | [_], _ => rfl, fun m ks perm h => by cases h⟩
theorem df7 {fd : FuncData} (F : Fn K "is_shot_on" 17 fd) (g : mg "is_shot_on" = some (.ref (He.ga K "is_shot_on"))) : Snd.Def K mg T 7 "is_shot_on" (He.ga K "is_shot_on") fd ["table", "value"] := ⟨g, F.kp, F.bindsN fun _ _ _ _ _ _ us hl => match us, hl with | [_, _], _ => rfl, fun m ks perm h => by cases h⟩
theorem df8 {fd : FuncData} (F : Fn K "are_fraction" 18 fd) (g : mg "are_fraction" = some (.ref (He.ga K "are_fraction"))) : Snd.Def K mg T 8 "are_fraction" (He.ga K "are_fraction") fd ["value"] := ⟨g, F.kp, F.bindsN fun _ _ _ _ _ _ us hl => match us, hl with | [_], _ => rfl, fun m ks perm h => by cases h⟩
theorem df9 {fd : FuncData} (F : Fn K "check_table" 19 fd) (g : mg "check_table" = some (.ref (He.ga K "check_table"))) : Snd.Def K mg T 9 "check_table" (He.ga K "check_table") fd ["table"] := ⟨g, F.kp, F.bindsN fun _ _ _ _ _ _ us hl => match us, hl with | [_], _ => rfl, fun m ks perm h => by cases h⟩
theorem df10 {fd : FuncData} (F : Fn K "check_shot" 20 fd) (g : mg "check_shot" = some (.ref (He.ga K "check_shot"))) : Snd.Def K mg T 10 "check_shot" (He.ga K "check_shot") fd ["table", "shot"] := ⟨g, F.kp, F.bindsN fun _ _ _ _ _ _ us hl => match us, hl with | [_, _], _ => rfl, fun m ks perm h => by cases h⟩
theorem df11 {fd : FuncData} (F : Fn K "check_time" 21 fd) (g : mg "check_time" = some (.ref (He.ga K "check_time"))) : Snd.Def K mg T 11 "check_time" (He.ga K "check_time") fd ["time"] := ⟨g, F.kp, F.bindsN fun _ _ _ _ _ _ us hl => match us, hl with | [_], _ => rfl, fun m ks perm h => by cases h⟩
theorem df12 {fd : FuncData} (F : Fn K "fold" 22 fd) (g : mg "fold" = some (.ref (He.ga K "fold"))) : Snd.Def K mg T 12 "fold" (He.ga K "fold") fd ["side", "number"] := ⟨g, F.kp, F.bindsN fun _ _ _ _ _ _ us hl => match us, hl with | [_, _], _ => rfl, fun m ks perm h => by cases h⟩
theorem df13 {fd : FuncData} (F : Fn K "free_place" 23 fd) (g : mg "free_place" = some (.ref (He.ga K "free_place"))) : Snd.Def K mg T 13 "free_place" (He.ga K "free_place") fd ["shot", "time"] := ⟨g, F.kp, F.bindsN fun _ _ _ _ _ _ us hl => match us, hl with | [_, _], _ => rfl, fun m ks perm h => by cases h⟩
theorem df14 {fd : FuncData} (F : Fn K "place_of" 24 fd) (g : mg "place_of" = some (.ref (He.ga K "place_of"))) : Snd.Def K mg T 14 "place_of" (He.ga K "place_of") fd ["table", "shot", "time"] := ⟨g, F.kp, F.bindsN fun _ _ _ _ _ _ us hl => match us, hl with | [_, _, _], _ => rfl, fun m ks perm h => by cases h⟩
theorem df15 {fd : FuncData} (F : Fn K "way_of" 25 fd) (g : mg "way_of" = some (.ref (He.ga K "way_of"))) : Snd.Def K mg T 15 "way_of" (He.ga K "way_of") fd ["side", "number", "direction"] := ⟨g, F.kp, F.bindsN fun _ _ _ _ _ _ us hl => match us, hl with | [_, _, _], _ => rfl, fun m ks perm h => by cases h⟩
theorem df16 {fd : FuncData} (F : Fn K "ways_of" 26 fd) (g : mg "ways_of" = some (.ref (He.ga K "ways_of"))) : Snd.Def K mg T 16 "ways_of" (He.ga K "ways_of") fd ["table", "shot", "time"] := ⟨g, F.kp, F.bindsN fun _ _ _ _ _ _ us hl => match us, hl with | [_, _, _], _ => rfl, fun m ks perm h => by cases h⟩
theorem df17 {fd : FuncData} (F : Fn K "shot_of" 27 fd) (g : mg "shot_of" = some (.ref (He.ga K "shot_of"))) : Snd.Def K mg T 17 "shot_of" (He.ga K "shot_of") fd ["table", "shot", "time"] := ⟨g, F.kp, F.bindsN fun _ _ _ _ _ _ us hl => match us, hl with | [_, _, _], _ => rfl, fun m ks perm h => by cases h⟩
theorem df18 {fd : FuncData} (F : Fn K "place_at" 28 fd) (g : mg "place_at" = some (.ref (He.ga K "place_at"))) : Snd.Def K mg T 18 "place_at" (He.ga K "place_at") fd ["table", "shot", "time"] := ⟨g, F.kp, F.bindsN fun _ _ _ _ _ _ us hl => match us, hl with | [_, _, _], _ => rfl, fun m ks perm h => by cases h⟩
theorem df19 {fd : FuncData} (F : Fn K "way_at" 29 fd) (g : mg "way_at" = some (.ref (He.ga K "way_at"))) : Snd.Def K mg T 19 "way_at" (He.ga K "way_at") fd ["table", "shot", "time"] := ⟨g, F.kp, F.bindsN fun _ _ _ _ _ _ us hl => match us, hl with | [_, _, _], _ => rfl, fun m ks perm h => by cases h⟩
theorem df20 {fd : FuncData} (F : Fn K "shot_at" 30 fd) (g : mg "shot_at" = some (.ref (He.ga K "shot_at"))) : Snd.Def K mg T 20 "shot_at" (He.ga K "shot_at") fd ["table", "shot", "time"] := ⟨g, F.kp, F.bindsN fun _ _ _ _ _ _ us hl => match us, hl with | [_, _, _], _ => rfl, fun m ks perm h => by cases h⟩
theorem df21 {fd : FuncData} (F : Fn K "line_of" 33 fd) (g : mg "line_of" = some (.ref (He.ga K "line_of"))) : Snd.Def K mg T 21 "line_of" (He.ga K "line_of") fd ["start", "direction", "side"] := ⟨g, F.kp, F.bindsN fun _ _ _ _ _ _ us hl => match us, hl with | [_, _, _], _ => rfl, fun m ks perm h => by cases h⟩
theorem df22 {fd : FuncData} (F : Fn K "lines_of" 34 fd) (g : mg "lines_of" = some (.ref (He.ga K "lines_of"))) : Snd.Def K mg T 22 "lines_of" (He.ga K "lines_of") fd ["table", "shot"] := ⟨g, F.kp, F.bindsN fun _ _ _ _ _ _ us hl => match us, hl with | [_, _], _ => rfl, fun m ks perm h => by cases h⟩
theorem df23 {fd : FuncData} (F : Fn K "line_count" 35 fd) (g : mg "line_count" = some (.ref (He.ga K "line_count"))) : Snd.Def K mg T 23 "line_count" (He.ga K "line_count") fd ["line", "time"] := ⟨g, F.kp, F.bindsN fun _ _ _ _ _ _ us hl => match us, hl with | [_, _], _ => rfl, fun m ks perm h => by cases h⟩
theorem df24 {fd : FuncData} (F : Fn K "line_time" 36 fd) (g : mg "line_time" = some (.ref (He.ga K "line_time"))) : Snd.Def K mg T 24 "line_time" (He.ga K "line_time") fd ["line", "many"] := ⟨g, F.kp, F.bindsN fun _ _ _ _ _ _ us hl => match us, hl with | [_, _], _ => rfl, fun m ks perm h => by cases h⟩
theorem df25 {fd : FuncData} (F : Fn K "line_letter" 37 fd) (g : mg "line_letter" = some (.ref (He.ga K "line_letter"))) : Snd.Def K mg T 25 "line_letter" (He.ga K "line_letter") fd ["line", "letters", "many"] := ⟨g, F.kp, F.bindsN fun _ _ _ _ _ _ us hl => match us, hl with | [_, _, _], _ => rfl, fun m ks perm h => by cases h⟩
theorem df26 {fd : FuncData} (F : Fn K "corners_of" 38 fd) (g : mg "corners_of" = some (.ref (He.ga K "corners_of"))) : Snd.Def K mg T 26 "corners_of" (He.ga K "corners_of") fd ["lines"] := ⟨g, F.kp, F.bindsN fun _ _ _ _ _ _ us hl => match us, hl with | [_], _ => rfl, fun m ks perm h => by cases h⟩
theorem df27 {fd : FuncData} (F : Fn K "corner_count" 39 fd) (g : mg "corner_count" = some (.ref (He.ga K "corner_count"))) : Snd.Def K mg T 27 "corner_count" (He.ga K "corner_count") fd ["corners", "many"] := ⟨g, F.kp, F.bindsN fun _ _ _ _ _ _ us hl => match us, hl with | [_, _], _ => rfl, fun m ks perm h => by cases h⟩
theorem df28 {fd : FuncData} (F : Fn K "count_of" 40 fd) (g : mg "count_of" = some (.ref (He.ga K "count_of"))) : Snd.Def K mg T 28 "count_of" (He.ga K "count_of") fd ["lines", "time"] := ⟨g, F.kp, F.bindsN fun _ _ _ _ _ _ us hl => match us, hl with | [_, _], _ => rfl, fun m ks perm h => by cases h⟩
theorem df29 {fd : FuncData} (F : Fn K "rank_of" 41 fd) (g : mg "rank_of" = some (.ref (He.ga K "rank_of"))) : Snd.Def K mg T 29 "rank_of" (He.ga K "rank_of") fd ["lines", "many"] := ⟨g, F.kp, F.bindsN fun _ _ _ _ _ _ us hl => match us, hl with | [_, _], _ => rfl, fun m ks perm h => by cases h⟩
theorem df30 {fd : FuncData} (F : Fn K "hit_time" 42 fd) (g : mg "hit_time" = some (.ref (He.ga K "hit_time"))) : Snd.Def K mg T 30 "hit_time" (He.ga K "hit_time") fd ["lines", "number"] := ⟨g, F.kp, F.bindsN fun _ _ _ _ _ _ us hl => match us, hl with | [_, _], _ => rfl, fun m ks perm h => by cases h⟩
theorem df31 {fd : FuncData} (F : Fn K "is_at" 43 fd) (g : mg "is_at" = some (.ref (He.ga K "is_at"))) : Snd.Def K mg T 31 "is_at" (He.ga K "is_at") fd ["line", "time"] := ⟨g, F.kp, F.bindsN fun _ _ _ _ _ _ us hl => match us, hl with | [_, _], _ => rfl, fun m ks perm h => by cases h⟩
theorem df32 {fd : FuncData} (F : Fn K "word_at" 44 fd) (g : mg "word_at" = some (.ref (He.ga K "word_at"))) : Snd.Def K mg T 32 "word_at" (He.ga K "word_at") fd ["lines", "time"] := ⟨g, F.kp, F.bindsN fun _ _ _ _ _ _ us hl => match us, hl with | [_, _], _ => rfl, fun m ks perm h => by cases h⟩
theorem df33 {fd : FuncData} (F : Fn K "hit_of" 45 fd) (g : mg "hit_of" = some (.ref (He.ga K "hit_of"))) : Snd.Def K mg T 33 "hit_of" (He.ga K "hit_of") fd ["table", "shot", "number"] := ⟨g, F.kp, F.bindsN fun _ _ _ _ _ _ us hl => match us, hl with | [_, _, _], _ => rfl, fun m ks perm h => by cases h⟩
theorem df34 {fd : FuncData} (F : Fn K "count_hits" 46 fd) (g : mg "count_hits" = some (.ref (He.ga K "count_hits"))) : Snd.Def K mg T 34 "count_hits" (He.ga K "count_hits") fd ["table", "shot", "time"] := ⟨g, F.kp, F.bindsN fun _ _ _ _ _ _ us hl => match us, hl with | [_, _, _], _ => rfl, fun m ks perm h => by cases h⟩
theorem df35 {fd : FuncData} (F : Fn K "nth_hit" 47 fd) (g : mg "nth_hit" = some (.ref (He.ga K "nth_hit"))) : Snd.Def K mg T 35 "nth_hit" (He.ga K "nth_hit") fd ["table", "shot", "index"] := ⟨g, F.kp, F.bindsN fun _ _ _ _ _ _ us hl => match us, hl with | [_, _, _], _ => rfl, fun m ks perm h => by cases h⟩
theorem df36 {fd : FuncData} (F : Fn K "hit_words" 48 fd) (g : mg "hit_words" = some (.ref (He.ga K "hit_words"))) : Snd.Def K mg T 36 "hit_words" (He.ga K "hit_words") fd ["table", "shot", "many"] := ⟨g, F.kp, F.bindsN fun _ _ _ _ _ _ us hl => match us, hl with | [_, _, _], _ => rfl, fun m ks perm h => by cases h⟩
theorem df37 {fd : FuncData} (F : Fn K "is_cushion" 49 fd) (g : mg "is_cushion" = some (.ref (He.ga K "is_cushion"))) : Snd.Def K mg T 37 "is_cushion" (He.ga K "is_cushion") fd ["value"] := ⟨g, F.kp, F.bindsN fun _ _ _ _ _ _ us hl => match us, hl with | [_], _ => rfl, fun m ks perm h => by cases h⟩
theorem df38 {fd : FuncData} (F : Fn K "letter_count" 50 fd) (g : mg "letter_count" = some (.ref (He.ga K "letter_count"))) : Snd.Def K mg T 38 "letter_count" (He.ga K "letter_count") fd ["line", "letters", "cushion", "time"] := ⟨g, F.kp, F.bindsN fun _ _ _ _ _ _ us hl => match us, hl with | [_, _, _, _], _ => rfl, fun m ks perm h => by cases h⟩
theorem df39 {fd : FuncData} (F : Fn K "cushion_count" 51 fd) (g : mg "cushion_count" = some (.ref (He.ga K "cushion_count"))) : Snd.Def K mg T 39 "cushion_count" (He.ga K "cushion_count") fd ["lines", "cushion", "time"] := ⟨g, F.kp, F.bindsN fun _ _ _ _ _ _ us hl => match us, hl with | [_, _, _], _ => rfl, fun m ks perm h => by cases h⟩
theorem df40 {fd : FuncData} (F : Fn K "count_cushion" 52 fd) (g : mg "count_cushion" = some (.ref (He.ga K "count_cushion"))) : Snd.Def K mg T 40 "count_cushion" (He.ga K "count_cushion") fd ["table", "shot", "cushion", "time"] := ⟨g, F.kp, F.bindsN fun _ _ _ _ _ _ us hl => match us, hl with | [_, _, _, _], _ => rfl, fun m ks perm h => by cases h⟩
theorem df41 {fd : FuncData} (F : Fn K "_law_well" 54 fd) (g : mg "_law_well" = some (.ref (He.ga K "_law_well"))) : Snd.Def K mg T 41 "_law_well" (He.ga K "_law_well") fd ["script", "at"] := ⟨g, F.kp, F.bindsN fun _ _ _ _ _ _ us hl => match us, hl with | [_, _], _ => rfl, fun m ks perm h => by cases h⟩
theorem df42 {fd : FuncData} (F : Fn K "_law_draw" 55 fd) (g : mg "_law_draw" = some (.ref (He.ga K "_law_draw"))) : Snd.Def K mg T 42 "_law_draw" (He.ga K "_law_draw") fd ["well", "most"] := ⟨g, F.kp, F.bindsN fun _ _ _ _ _ _ us hl => match us, hl with | [_, _], _ => rfl, fun m ks perm h => by cases h⟩
theorem df43 {fd : FuncData} (F : Fn K "_law_same" 56 fd) (g : mg "_law_same" = some (.ref (He.ga K "_law_same"))) : Snd.Def K mg T 43 "_law_same" (He.ga K "_law_same") fd ["found", "due"] := ⟨g, F.kp, F.bindsN fun _ _ _ _ _ _ us hl => match us, hl with | [_, _], _ => rfl, fun m ks perm h => by cases h⟩
theorem df44 {fd : FuncData} (F : Fn K "_law_desk" 57 fd) (g : mg "_law_desk" = some (.ref (He.ga K "_law_desk"))) : Snd.Def K mg T 44 "_law_desk" (He.ga K "_law_desk") fd ["well", "most"] := ⟨g, F.kp, F.bindsN fun _ _ _ _ _ _ us hl => match us, hl with | [_, _], _ => rfl, fun m ks perm h => by cases h⟩
theorem df45 {fd : FuncData} (F : Fn K "_law_roll" 58 fd) (g : mg "_law_roll" = some (.ref (He.ga K "_law_roll"))) : Snd.Def K mg T 45 "_law_roll" (He.ga K "_law_roll") fd ["well", "desk", "most"] := ⟨g, F.kp, F.bindsN fun _ _ _ _ _ _ us hl => match us, hl with | [_, _, _], _ => rfl, fun m ks perm h => by cases h⟩
theorem df46 {fd : FuncData} (F : Fn K "_law_low" 59 fd) (g : mg "_law_low" = some (.ref (He.ga K "_law_low"))) : Snd.Def K mg T 46 "_law_low" (He.ga K "_law_low") fd ["top", "bottom"] := ⟨g, F.kp, F.bindsN fun _ _ _ _ _ _ us hl => match us, hl with | [_, _], _ => rfl, fun m ks perm h => by cases h⟩
theorem df47 {fd : FuncData} (F : Fn K "_law_mid" 60 fd) (g : mg "_law_mid" = some (.ref (He.ga K "_law_mid"))) : Snd.Def K mg T 47 "_law_mid" (He.ga K "_law_mid") fd ["first", "second"] := ⟨g, F.kp, F.bindsN fun _ _ _ _ _ _ us hl => match us, hl with | [_, _], _ => rfl, fun m ks perm h => by cases h⟩
theorem df48 {fd : FuncData} (F : Fn K "_law_hit_right" 61 fd) (g : mg "_law_hit_right" = some (.ref (He.ga K "_law_hit_right"))) : Snd.Def K mg T 48 "_law_hit_right" (He.ga K "_law_hit_right") fd ["desk", "roll", "at"] := ⟨g, F.kp, F.bindsN fun _ _ _ _ _ _ us hl => match us, hl with | [_, _, _], _ => rfl, fun m ks perm h => by cases h⟩
theorem df49 {fd : FuncData} (F : Fn K "_law_later_right" 62 fd) (g : mg "_law_later_right" = some (.ref (He.ga K "_law_later_right"))) : Snd.Def K mg T 49 "_law_later_right" (He.ga K "_law_later_right") fd ["desk", "roll", "wait"] := ⟨g, F.kp, F.bindsN fun _ _ _ _ _ _ us hl => match us, hl with | [_, _, _], _ => rfl, fun m ks perm h => by cases h⟩
theorem df50 {fd : FuncData} (F : Fn K "law" 63 fd) (g : mg "law" = some (.ref (He.ga K "law"))) : Snd.Def K mg T 50 "law" (He.ga K "law") fd ["script"] := ⟨g, F.kp, F.bindsN fun _ _ _ _ _ _ us hl => match us, hl with | [_], _ => rfl, fun m ks perm h => by cases h⟩
/-- what the head tells -/
theorem all (h : Heap) (X : K.In h) (G : h.Ns mainGlobals mg) (c : He.SaysD fal fnl K) (cc : Snd.consK cl K = true) : Snd.Law ⟨K, mg, T, Snd.stage P.sp P.con 50⟩ Pg w base 61 := by
  obtain ⟨fd0, F0⟩ := c.def_ 0 (d := dd "is_integer" 9) rfl
  obtain ⟨fd1, F1⟩ := c.def_ 1 (d := dd "divisor" 10) rfl
  obtain ⟨fd2, F2⟩ := c.def_ 2 (d := dd "fraction" 11) rfl
  obtain ⟨fd3, F3⟩ := c.def_ 3 (d := dd "inverse" 12) rfl
  obtain ⟨fd4, F4⟩ := c.def_ 4 (d := dd "least_solution" 13) rfl
  obtain ⟨fd5, F5⟩ := c.def_ 5 (d := dd "are_table" 15) rfl
  obtain ⟨fd6, F6⟩ := c.def_ 6 (d := dd "is_free_shot" 16) rfl
  obtain ⟨fd7, F7⟩ := c.def_ 7 (d := dd "is_shot_on" 17) rfl
  obtain ⟨fd8, F8⟩ := c.def_ 8 (d := dd "are_fraction" 18) rfl
  obtain ⟨fd9, F9⟩ := c.def_ 9 (d := dd "check_table" 19) rfl
  obtain ⟨fd10, F10⟩ := c.def_ 10 (d := dd "check_shot" 20) rfl
  obtain ⟨fd11, F11⟩ := c.def_ 11 (d := dd "check_time" 21) rfl
  obtain ⟨fd12, F12⟩ := c.def_ 12 (d := dd "fold" 22) rfl
  obtain ⟨fd13, F13⟩ := c.def_ 13 (d := dd "free_place" 23) rfl
  obtain ⟨fd14, F14⟩ := c.def_ 14 (d := dd "place_of" 24) rfl
  obtain ⟨fd15, F15⟩ := c.def_ 15 (d := dd "way_of" 25) rfl
  obtain ⟨fd16, F16⟩ := c.def_ 16 (d := dd "ways_of" 26) rfl
  obtain ⟨fd17, F17⟩ := c.def_ 17 (d := dd "shot_of" 27) rfl
  obtain ⟨fd18, F18⟩ := c.def_ 18 (d := dd "place_at" 28) rfl
  obtain ⟨fd19, F19⟩ := c.def_ 19 (d := dd "way_at" 29) rfl
  obtain ⟨fd20, F20⟩ := c.def_ 20 (d := dd "shot_at" 30) rfl
  obtain ⟨fd21, F21⟩ := c.def_ 21 (d := dd "line_of" 33) rfl
  obtain ⟨fd22, F22⟩ := c.def_ 22 (d := dd "lines_of" 34) rfl
  obtain ⟨fd23, F23⟩ := c.def_ 23 (d := dd "line_count" 35) rfl
  obtain ⟨fd24, F24⟩ := c.def_ 24 (d := dd "line_time" 36) rfl
  obtain ⟨fd25, F25⟩ := c.def_ 25 (d := dd "line_letter" 37) rfl
  obtain ⟨fd26, F26⟩ := c.def_ 26 (d := dd "corners_of" 38) rfl
  obtain ⟨fd27, F27⟩ := c.def_ 27 (d := dd "corner_count" 39) rfl
  obtain ⟨fd28, F28⟩ := c.def_ 28 (d := dd "count_of" 40) rfl
  obtain ⟨fd29, F29⟩ := c.def_ 29 (d := dd "rank_of" 41) rfl
  obtain ⟨fd30, F30⟩ := c.def_ 30 (d := dd "hit_time" 42) rfl
  obtain ⟨fd31, F31⟩ := c.def_ 31 (d := dd "is_at" 43) rfl
  obtain ⟨fd32, F32⟩ := c.def_ 32 (d := dd "word_at" 44) rfl
  obtain ⟨fd33, F33⟩ := c.def_ 33 (d := dd "hit_of" 45) rfl
  obtain ⟨fd34, F34⟩ := c.def_ 34 (d := dd "count_hits" 46) rfl
  obtain ⟨fd35, F35⟩ := c.def_ 35 (d := dd "nth_hit" 47) rfl
  obtain ⟨fd36, F36⟩ := c.def_ 36 (d := dd "hit_words" 48) rfl
  obtain ⟨fd37, F37⟩ := c.def_ 37 (d := dd "is_cushion" 49) rfl
  obtain ⟨fd38, F38⟩ := c.def_ 38 (d := dd "letter_count" 50) rfl
  obtain ⟨fd39, F39⟩ := c.def_ 39 (d := dd "cushion_count" 51) rfl
  obtain ⟨fd40, F40⟩ := c.def_ 40 (d := dd "count_cushion" 52) rfl
  obtain ⟨fd41, F41⟩ := c.def_ 41 (d := dd "_law_well" 54) rfl
  obtain ⟨fd42, F42⟩ := c.def_ 42 (d := dd "_law_draw" 55) rfl
  obtain ⟨fd43, F43⟩ := c.def_ 43 (d := dd "_law_same" 56) rfl
  obtain ⟨fd44, F44⟩ := c.def_ 44 (d := dd "_law_desk" 57) rfl
  obtain ⟨fd45, F45⟩ := c.def_ 45 (d := dd "_law_roll" 58) rfl
  obtain ⟨fd46, F46⟩ := c.def_ 46 (d := dd "_law_low" 59) rfl
  obtain ⟨fd47, F47⟩ := c.def_ 47 (d := dd "_law_mid" 60) rfl
  obtain ⟨fd48, F48⟩ := c.def_ 48 (d := dd "_law_hit_right" 61) rfl
  obtain ⟨fd49, F49⟩ := c.def_ 49 (d := dd "_law_later_right" 62) rfl
  obtain ⟨fd50, F50⟩ := c.def_ 50 (d := dd "law" 63) rfl
  have bts : ∀ x ∈ T.bts, mg x = none := fun x hx => by
    unfold T at hx
    simp only [List.mem_cons, List.not_mem_nil, or_false] at hx
    rcases hx with rfl | rfl | rfl | rfl | rfl | rfl | rfl | rfl | rfl | rfl | rfl | rfl | rfl | rfl
    · exact He.free_ok X G (c.fact 51 (f := .free "abs") rfl)
    · exact He.free_ok X G (c.fact 52 (f := .free "all") rfl)
    · exact He.free_ok X G (c.fact 53 (f := .free "bool") rfl)
    · exact He.free_ok X G (c.fact 54 (f := .free "int") rfl)
    · exact He.free_ok X G (c.fact 55 (f := .free "isinstance") rfl)
    · exact He.free_ok X G (c.fact 56 (f := .free "len") rfl)
    · exact He.free_ok X G (c.fact 57 (f := .free "list") rfl)
    · exact He.free_ok X G (c.fact 58 (f := .free "max") rfl)
    · exact He.free_ok X G (c.fact 59 (f := .free "min") rfl)
    · exact He.free_ok X G (c.fact 60 (f := .free "range") rfl)
    · exact He.free_ok X G (c.fact 61 (f := .free "str") rfl)
    · exact He.free_ok X G (c.fact 62 (f := .free "sum") rfl)
    · exact He.free_ok X G (c.fact 63 (f := .free "tuple") rfl)
    · exact He.free_ok X G (c.fact 64 (f := .free "zip") rfl)
  have cns : ∀ n x, T.cons[n]? = some x → ∃ u v, mg x = some u ∧ RelV v u ∧ ∀ H, Snd.RelD K H (P.con n) v := fun n x h => by
    match n, h with
    | 0, h => obtain rfl : "LETTERS" = x := Option.some.inj h; exact Snd.consK_ok X G cc (d := A.c0) (.head _)
    | k + 1, h => cases h
  refine Snd.chain (fun n => n + (if 43 < n then 11 else 0)) (fun n => if n = 43 then 12 else 1) (fun m n h => by (try dsimp only); split <;> split <;> split <;> omega) bts cns (fun n x h => ?_) 50
  match n, h with
  | 0, h => obtain rfl : "is_integer" = x := Option.some.inj h; exact ⟨_, fd0, _, (df0 F0 (He.glo_ok X G (c.fact 0 (f := .glo "is_integer") rfl))), fun k L => Snd.fn_ok L F0 sc0 ck0 (P.body0 (Snd.stage P.sp P.con 0) rfl rfl)⟩
  | 1, h => obtain rfl : "divisor" = x := Option.some.inj h; exact ⟨_, fd1, _, (df1 F1 (He.glo_ok X G (c.fact 1 (f := .glo "divisor") rfl))), fun k L => Snd.fn_ok L F1 sc1 ck1 (P.body1 (Snd.stage P.sp P.con 1) rfl rfl)⟩
  | 2, h => obtain rfl : "fraction" = x := Option.some.inj h; exact ⟨_, fd2, _, (df2 F2 (He.glo_ok X G (c.fact 2 (f := .glo "fraction") rfl))), fun k L => Snd.fn_ok L F2 sc2 ck2 (P.body2 (Snd.stage P.sp P.con 2) rfl rfl)⟩
  | 3, h => obtain rfl : "inverse" = x := Option.some.inj h; exact ⟨_, fd3, _, (df3 F3 (He.glo_ok X G (c.fact 3 (f := .glo "inverse") rfl))), fun k L => Snd.fn_ok L F3 sc3 ck3 (P.body3 (Snd.stage P.sp P.con 3) rfl rfl)⟩
  | 4, h => obtain rfl : "least_solution" = x := Option.some.inj h; exact ⟨_, fd4, _, (df4 F4 (He.glo_ok X G (c.fact 4 (f := .glo "least_solution") rfl))), fun k L => Snd.fn_ok L F4 sc4 ck4 (P.body4 (Snd.stage P.sp P.con 4) rfl rfl)⟩
  | 5, h => obtain rfl : "are_table" = x := Option.some.inj h; exact ⟨_, fd5, _, (df5 F5 (He.glo_ok X G (c.fact 5 (f := .glo "are_table") rfl))), fun k L => Snd.fn_ok L F5 sc5 ck5 (P.body5 (Snd.stage P.sp P.con 5) rfl rfl)⟩
  | 6, h => obtain rfl : "is_free_shot" = x := Option.some.inj h; exact ⟨_, fd6, _, (df6 F6 (He.glo_ok X G (c.fact 6 (f := .glo "is_free_shot") rfl))), fun k L => Snd.fn_ok L F6 sc6 ck6 (P.body6 (Snd.stage P.sp P.con 6) rfl rfl)⟩
  | 7, h => obtain rfl : "is_shot_on" = x := Option.some.inj h; exact ⟨_, fd7, _, (df7 F7 (He.glo_ok X G (c.fact 7 (f := .glo "is_shot_on") rfl))), fun k L => Snd.fn_ok L F7 sc7 ck7 (P.body7 (Snd.stage P.sp P.con 7) rfl rfl)⟩
  | 8, h => obtain rfl : "are_fraction" = x := Option.some.inj h; exact ⟨_, fd8, _, (df8 F8 (He.glo_ok X G (c.fact 8 (f := .glo "are_fraction") rfl))), fun k L => Snd.fn_ok L F8 sc8 ck8 (P.body8 (Snd.stage P.sp P.con 8) rfl rfl)⟩
  | 9, h => obtain rfl : "check_table" = x := Option.some.inj h; exact ⟨_, fd9, _, (df9 F9 (He.glo_ok X G (c.fact 9 (f := .glo "check_table") rfl))), fun k L => Snd.fn_ok L F9 sc9 ck9 (P.body9 (Snd.stage P.sp P.con 9) rfl rfl)⟩
  | 10, h => obtain rfl : "check_shot" = x := Option.some.inj h; exact ⟨_, fd10, _, (df10 F10 (He.glo_ok X G (c.fact 10 (f := .glo "check_shot") rfl))), fun k L => Snd.fn_ok L F10 sc10 ck10 (P.body10 (Snd.stage P.sp P.con 10) rfl rfl)⟩
  | 11, h => obtain rfl : "check_time" = x := Option.some.inj h; exact ⟨_, fd11, _, (df11 F11 (He.glo_ok X G (c.fact 11 (f := .glo "check_time") rfl))), fun k L => Snd.fn_ok L F11 sc11 ck11 (P.body11 (Snd.stage P.sp P.con 11) rfl rfl)⟩
  | 12, h => obtain rfl : "fold" = x := Option.some.inj h; exact ⟨_, fd12, _, (df12 F12 (He.glo_ok X G (c.fact 12 (f := .glo "fold") rfl))), fun k L => Snd.fn_ok L F12 sc12 ck12 (P.body12 (Snd.stage P.sp P.con 12) rfl rfl)⟩
  | 13, h => obtain rfl : "free_place" = x := Option.some.inj h; exact ⟨_, fd13, _, (df13 F13 (He.glo_ok X G (c.fact 13 (f := .glo "free_place") rfl))), fun k L => Snd.fn_ok L F13 sc13 ck13 (P.body13 (Snd.stage P.sp P.con 13) rfl rfl)⟩
  | 14, h => obtain rfl : "place_of" = x := Option.some.inj h; exact ⟨_, fd14, _, (df14 F14 (He.glo_ok X G (c.fact 14 (f := .glo "place_of") rfl))), fun k L => Snd.fn_ok L F14 sc14 ck14 (P.body14 (Snd.stage P.sp P.con 14) rfl rfl)⟩
  | 15, h => obtain rfl : "way_of" = x := Option.some.inj h; exact ⟨_, fd15, _, (df15 F15 (He.glo_ok X G (c.fact 15 (f := .glo "way_of") rfl))), fun k L => Snd.fn_ok L F15 sc15 ck15 (P.body15 (Snd.stage P.sp P.con 15) rfl rfl)⟩
  | 16, h => obtain rfl : "ways_of" = x := Option.some.inj h; exact ⟨_, fd16, _, (df16 F16 (He.glo_ok X G (c.fact 16 (f := .glo "ways_of") rfl))), fun k L => Snd.fn_ok L F16 sc16 ck16 (P.body16 (Snd.stage P.sp P.con 16) rfl rfl)⟩
  | 17, h => obtain rfl : "shot_of" = x := Option.some.inj h; exact ⟨_, fd17, _, (df17 F17 (He.glo_ok X G (c.fact 17 (f := .glo "shot_of") rfl))), fun k L => Snd.fn_ok L F17 sc17 ck17 (P.body17 (Snd.stage P.sp P.con 17) rfl rfl)⟩
  | 18, h => obtain rfl : "place_at" = x := Option.some.inj h; exact ⟨_, fd18, _, (df18 F18 (He.glo_ok X G (c.fact 18 (f := .glo "place_at") rfl))), fun k L => Snd.fn_ok L F18 sc18 ck18 (P.body18 (Snd.stage P.sp P.con 18) rfl rfl)⟩
  | 19, h => obtain rfl : "way_at" = x := Option.some.inj h; exact ⟨_, fd19, _, (df19 F19 (He.glo_ok X G (c.fact 19 (f := .glo "way_at") rfl))), fun k L => Snd.fn_ok L F19 sc19 ck19 (P.body19 (Snd.stage P.sp P.con 19) rfl rfl)⟩
  | 20, h => obtain rfl : "shot_at" = x := Option.some.inj h; exact ⟨_, fd20, _, (df20 F20 (He.glo_ok X G (c.fact 20 (f := .glo "shot_at") rfl))), fun k L => Snd.fn_ok L F20 sc20 ck20 (P.body20 (Snd.stage P.sp P.con 20) rfl rfl)⟩
  | 21, h => obtain rfl : "line_of" = x := Option.some.inj h; exact ⟨_, fd21, _, (df21 F21 (He.glo_ok X G (c.fact 21 (f := .glo "line_of") rfl))), fun k L => Snd.fn_ok L F21 sc21 ck21 (P.body21 (Snd.stage P.sp P.con 21) rfl rfl)⟩
  | 22, h => obtain rfl : "lines_of" = x := Option.some.inj h; exact ⟨_, fd22, _, (df22 F22 (He.glo_ok X G (c.fact 22 (f := .glo "lines_of") rfl))), fun k L => Snd.fn_ok L F22 sc22 ck22 (P.body22 (Snd.stage P.sp P.con 22) rfl rfl)⟩
  | 23, h => obtain rfl : "line_count" = x := Option.some.inj h; exact ⟨_, fd23, _, (df23 F23 (He.glo_ok X G (c.fact 23 (f := .glo "line_count") rfl))), fun k L => Snd.fn_ok L F23 sc23 ck23 (P.body23 (Snd.stage P.sp P.con 23) rfl rfl)⟩
  | 24, h => obtain rfl : "line_time" = x := Option.some.inj h; exact ⟨_, fd24, _, (df24 F24 (He.glo_ok X G (c.fact 24 (f := .glo "line_time") rfl))), fun k L => Snd.fn_ok L F24 sc24 ck24 (P.body24 (Snd.stage P.sp P.con 24) rfl rfl)⟩
  | 25, h => obtain rfl : "line_letter" = x := Option.some.inj h; exact ⟨_, fd25, _, (df25 F25 (He.glo_ok X G (c.fact 25 (f := .glo "line_letter") rfl))), fun k L => Snd.fn_ok L F25 sc25 ck25 (P.body25 (Snd.stage P.sp P.con 25) rfl rfl)⟩
  | 26, h => obtain rfl : "corners_of" = x := Option.some.inj h; exact ⟨_, fd26, _, (df26 F26 (He.glo_ok X G (c.fact 26 (f := .glo "corners_of") rfl))), fun k L => Snd.fn_ok L F26 sc26 ck26 (P.body26 (Snd.stage P.sp P.con 26) rfl rfl)⟩
  | 27, h => obtain rfl : "corner_count" = x := Option.some.inj h; exact ⟨_, fd27, _, (df27 F27 (He.glo_ok X G (c.fact 27 (f := .glo "corner_count") rfl))), fun k L => Snd.fn_ok L F27 sc27 ck27 (P.body27 (Snd.stage P.sp P.con 27) rfl rfl)⟩
  | 28, h => obtain rfl : "count_of" = x := Option.some.inj h; exact ⟨_, fd28, _, (df28 F28 (He.glo_ok X G (c.fact 28 (f := .glo "count_of") rfl))), fun k L => Snd.fn_ok L F28 sc28 ck28 (P.body28 (Snd.stage P.sp P.con 28) rfl rfl)⟩
  | 29, h => obtain rfl : "rank_of" = x := Option.some.inj h; exact ⟨_, fd29, _, (df29 F29 (He.glo_ok X G (c.fact 29 (f := .glo "rank_of") rfl))), fun k L => Snd.fn_ok L F29 sc29 ck29 (P.body29 (Snd.stage P.sp P.con 29) rfl rfl)⟩
  | 30, h => obtain rfl : "hit_time" = x := Option.some.inj h; exact ⟨_, fd30, _, (df30 F30 (He.glo_ok X G (c.fact 30 (f := .glo "hit_time") rfl))), fun k L => Snd.fn_ok L F30 sc30 ck30 (P.body30 (Snd.stage P.sp P.con 30) rfl rfl)⟩
  | 31, h => obtain rfl : "is_at" = x := Option.some.inj h; exact ⟨_, fd31, _, (df31 F31 (He.glo_ok X G (c.fact 31 (f := .glo "is_at") rfl))), fun k L => Snd.fn_ok L F31 sc31 ck31 (P.body31 (Snd.stage P.sp P.con 31) rfl rfl)⟩
  | 32, h => obtain rfl : "word_at" = x := Option.some.inj h; exact ⟨_, fd32, _, (df32 F32 (He.glo_ok X G (c.fact 32 (f := .glo "word_at") rfl))), fun k L => Snd.fn_ok L F32 sc32 ck32 (P.body32 (Snd.stage P.sp P.con 32) rfl rfl)⟩
  | 33, h => obtain rfl : "hit_of" = x := Option.some.inj h; exact ⟨_, fd33, _, (df33 F33 (He.glo_ok X G (c.fact 33 (f := .glo "hit_of") rfl))), fun k L => Snd.fn_ok L F33 sc33 ck33 (P.body33 (Snd.stage P.sp P.con 33) rfl rfl)⟩
  | 34, h => obtain rfl : "count_hits" = x := Option.some.inj h; exact ⟨_, fd34, _, (df34 F34 (He.glo_ok X G (c.fact 34 (f := .glo "count_hits") rfl))), fun k L => Snd.fn_ok L F34 sc34 ck34 (P.body34 (Snd.stage P.sp P.con 34) rfl rfl)⟩
  | 35, h => obtain rfl : "nth_hit" = x := Option.some.inj h; exact ⟨_, fd35, _, (df35 F35 (He.glo_ok X G (c.fact 35 (f := .glo "nth_hit") rfl))), fun k L => Snd.fn_ok L F35 sc35 ck35 (P.body35 (Snd.stage P.sp P.con 35) rfl rfl)⟩
  | 36, h => obtain rfl : "hit_words" = x := Option.some.inj h; exact ⟨_, fd36, _, (df36 F36 (He.glo_ok X G (c.fact 36 (f := .glo "hit_words") rfl))), fun k L => Snd.fn_ok L F36 sc36 ck36 (P.body36 (Snd.stage P.sp P.con 36) rfl rfl)⟩
  | 37, h => obtain rfl : "is_cushion" = x := Option.some.inj h; exact ⟨_, fd37, _, (df37 F37 (He.glo_ok X G (c.fact 37 (f := .glo "is_cushion") rfl))), fun k L => Snd.fn_ok L F37 sc37 ck37 (P.body37 (Snd.stage P.sp P.con 37) rfl rfl)⟩
  | 38, h => obtain rfl : "letter_count" = x := Option.some.inj h; exact ⟨_, fd38, _, (df38 F38 (He.glo_ok X G (c.fact 38 (f := .glo "letter_count") rfl))), fun k L => Snd.fn_ok L F38 sc38 ck38 (P.body38 (Snd.stage P.sp P.con 38) rfl rfl)⟩
  | 39, h => obtain rfl : "cushion_count" = x := Option.some.inj h; exact ⟨_, fd39, _, (df39 F39 (He.glo_ok X G (c.fact 39 (f := .glo "cushion_count") rfl))), fun k L => Snd.fn_ok L F39 sc39 ck39 (P.body39 (Snd.stage P.sp P.con 39) rfl rfl)⟩
  | 40, h => obtain rfl : "count_cushion" = x := Option.some.inj h; exact ⟨_, fd40, _, (df40 F40 (He.glo_ok X G (c.fact 40 (f := .glo "count_cushion") rfl))), fun k L => Snd.fn_ok L F40 sc40 ck40 (P.body40 (Snd.stage P.sp P.con 40) rfl rfl)⟩
  | 41, h => obtain rfl : "_law_well" = x := Option.some.inj h; exact ⟨_, fd41, _, (df41 F41 (He.glo_ok X G (c.fact 41 (f := .glo "_law_well") rfl))), fun k L => Snd.fn_ok L F41 sc41 ck41 (P.body41 (Snd.stage P.sp P.con 41) rfl rfl)⟩
  | 42, h => obtain rfl : "_law_draw" = x := Option.some.inj h; exact ⟨_, fd42, _, (df42 F42 (He.glo_ok X G (c.fact 42 (f := .glo "_law_draw") rfl))), fun k L => Snd.fn_ok L F42 sc42 ck42 (P.body42 (Snd.stage P.sp P.con 42) rfl rfl)⟩
  | 43, h => obtain rfl : "_law_same" = x := Option.some.inj h; exact ⟨_, fd43, _, (df43 F43 (He.glo_ok X G (c.fact 43 (f := .glo "_law_same") rfl))), fun k L => Snd.rec_all (c := ⟨K, mg, T, Snd.stage P.sp P.con 43⟩) (B := 12) (Snd.rec_fn L (df43 F43 (He.glo_ok X G (c.fact 43 (f := .glo "_law_same") rfl))) rfl P.fuel P.fuel0 fun m k L => Snd.fn_ok L F43 sc43 ck43 (P.body43 m _ rfl rfl))⟩
  | 44, h => obtain rfl : "_law_desk" = x := Option.some.inj h; exact ⟨_, fd44, _, (df44 F44 (He.glo_ok X G (c.fact 44 (f := .glo "_law_desk") rfl))), fun k L => Snd.fn_ok L F44 sc44 ck44 (P.body44 (Snd.stage P.sp P.con 44) rfl rfl)⟩
  | 45, h => obtain rfl : "_law_roll" = x := Option.some.inj h; exact ⟨_, fd45, _, (df45 F45 (He.glo_ok X G (c.fact 45 (f := .glo "_law_roll") rfl))), fun k L => Snd.fn_ok L F45 sc45 ck45 (P.body45 (Snd.stage P.sp P.con 45) rfl rfl)⟩
  | 46, h => obtain rfl : "_law_low" = x := Option.some.inj h; exact ⟨_, fd46, _, (df46 F46 (He.glo_ok X G (c.fact 46 (f := .glo "_law_low") rfl))), fun k L => Snd.fn_ok L F46 sc46 ck46 (P.body46 (Snd.stage P.sp P.con 46) rfl rfl)⟩
  | 47, h => obtain rfl : "_law_mid" = x := Option.some.inj h; exact ⟨_, fd47, _, (df47 F47 (He.glo_ok X G (c.fact 47 (f := .glo "_law_mid") rfl))), fun k L => Snd.fn_ok L F47 sc47 ck47 (P.body47 (Snd.stage P.sp P.con 47) rfl rfl)⟩
  | 48, h => obtain rfl : "_law_hit_right" = x := Option.some.inj h; exact ⟨_, fd48, _, (df48 F48 (He.glo_ok X G (c.fact 48 (f := .glo "_law_hit_right") rfl))), fun k L => Snd.fn_ok L F48 sc48 ck48 (P.body48 (Snd.stage P.sp P.con 48) rfl rfl)⟩
  | 49, h => obtain rfl : "_law_later_right" = x := Option.some.inj h; exact ⟨_, fd49, _, (df49 F49 (He.glo_ok X G (c.fact 49 (f := .glo "_law_later_right") rfl))), fun k L => Snd.fn_ok L F49 sc49 ck49 (P.body49 (Snd.stage P.sp P.con 49) rfl rfl)⟩
  | 50, h => obtain rfl : "law" = x := Option.some.inj h; exact ⟨_, fd50, _, (df50 F50 (He.glo_ok X G (c.fact 50 (f := .glo "law") rfl))), fun k L => Snd.fn_ok L F50 sc50 ck50 (P.body50 (Snd.stage P.sp P.con 50) rfl rfl)⟩
  | k + 51, h => cases h
end
/-- the law's def -/
theorem last {Pg : Program} {w : World} {K : PySem.W.Frag} {h : Heap} {mg : Str → Option Value} {f : Addr} (X : K.In h) (G : h.Ns mainGlobals mg) (hf : mg ("law" : Str) = some (.ref f)) (c : He.SaysD fal fnl K) (cc : Snd.consK cl K = true) :
    ∃ fd : FuncData, (∀ (s : Shared) (v : Value), BindsTo s fd ⟨[v], []⟩ [("script", v)]) ∧ ∀ base : Heap, Snd.FnG Pg w K mg base 62 f fd ["script"] (Snd.lift ⟨K, mg, T, Snd.stage P.sp P.con 50⟩ (M.cl (P.sp 50))) := by
  obtain ⟨fd, F⟩ := c.def_ 50 (d := dd "law" 63) rfl
  have e := hf.symm.trans (He.glo_ok X G (c.fact 50 (f := .glo "law") rfl))
  cases e
  have b := FunD.bindsA (ps := ["script"]) F fun _ _ _ _ _ _ us hl => match us, hl with | [_], _ => rfl
  refine ⟨fd, fun s v => b s [v] rfl, fun base => ?_⟩
  exact Snd.fn_ok (all h X G c cc) F sc50 ck50 (P.body50 (Snd.stage P.sp P.con 50) rfl rfl)
end K64
open PySem PySem.W PySem.Calls PyProof.Rows
theorem PySem.Challenge.cw_cushionshots_k64_whole_hits_and_places_holds : PySem.Challenge.rw_cushionshots_k64_whole_hits_and_places.Holds := by
  w_on; o_law
  refine HandSHeadRun.head_any (r := OpenLaw.row PySem.Challenge.rw_cushionshots_k64_whole_hits_and_places) (q := view (OpenLaw.row PySem.Challenge.rw_cushionshots_k64_whole_hits_and_places).prog [63]) (H := K64.hk) (ob := K64.ob) (M := 12000) (loose := K64.loose) (d := HandSHeadRun.topDef (OpenLaw.row PySem.Challenge.rw_cushionshots_k64_whole_hits_and_places).prog 63) (kwd := []) K64.ob_eq
    (by kernel_rfl) (fun s => by kernel_rfl) K64.run (by kernel_rfl) (by kernel_rfl) (by kernel_rfl) (by rfl) (by first | assumption | decide +kernel) (by decide +kernel) ⟨rfl, rfl, rfl, rfl, rfl, by decide +kernel⟩ ?hw ?hc
  case hw => w_witness2
  case hc =>
    refine Snd.walkG (l := PySem.Challenge.rw_cushionshots_k64_whole_hits_and_places) (n := 63) (k := 62) (x := "script") (sp := K64.P.sp 50) rfl (by decide) (by kernel_rfl) ⟨rfl, by decide, by decide⟩ (fun ns h => ⟨ns, rfl, h, fun _ => rfl⟩) ?F
    intro w mg fa h Y G hmg0
    obtain ⟨K, KX, c⟩ := Y
    obtain ⟨c, cc⟩ := Snd.obsE_says c
    have hmg : mg ("law" : PySem.Str) = some (.ref fa) := by
      have e : (HandSHeadRun.topDef (OpenLaw.row PySem.Challenge.rw_cushionshots_k64_whole_hits_and_places).prog 63).name = ("law" : PySem.Str) := by kernel_rfl
      rw [← e]
      exact hmg0
    obtain ⟨fd, hb, hF⟩ := K64.last (Pg := PySem.Challenge.rw_cushionshots_k64_whole_hits_and_places.prog) (w := w) KX G hmg c cc
    exact ⟨K, fd, K64.T, _, KX, hb, fun base _ _ => hF base⟩
