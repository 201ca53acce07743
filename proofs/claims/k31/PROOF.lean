import PyProof.Rows.All
import Wide.All
import OpenK.AllK
import Wide.FinOn
import HandS.Base
import HandS.Call
import HandS.List
import HandS.Comp
import HandS.Exc
import HandS.ExcIs
import HandS.ExcOwn
import HandS.Words
import HandS.Iter
import HandS.Zip
import HandS.IsInst
import HandS.Deep
import HandS.TupAny
import HandS.Style
import HandS.Text
import HandS.Wide
import KE.IntTextLaws
import HandS.Codes
import HandS.Conv
import KE.KTupSum
import HandS.Flt
import HandS.SortInts
import KE.KStar
import KE.DatumOrd
import HandS.SortRule
import PyProof.ReprRoads
import PyProof.ReprLen
import PyProof.FitsInt
import HandS.ExcValue
import KE.GoesMore
import HandS.NoneIn
import HandS.Dict
import HandS.StrMore
import PyProof.Rows.StrSplitCount
import PyProof.StrLawsTight
import HandS.Ends
import HandS.HeadEnd
import HandS.Defaults
import HandS.HeadHook2
import HandS.HeadHook1
import HandS.Head0
import HandS.Head1
import HandS.Head2
import PySem.Challenge.RW_cushionshots_k31_texts_of_tables_and_sho
set_option Elab.async false
set_option linter.all false
set_option maxRecDepth 100000
set_option maxHeartbeats 0
set_option exponentiation.threshold 10000
/-! Mini: a small language of data, with weakest preconditions. -/
namespace M
abbrev Tx := List Nat
/-- data: a tuple by value, a list by its place in the store; fl: a list that is never written -/
inductive D where
  | non | bl (b : Bool) | int (i : Int) | str (x : Tx) | tup (xs : List D) | fl (xs : List D) | ref (a : Nat) | xn (c : Nat) (fs : List D)
inductive O where
  | lst (xs : List D) | dic | dct (kvs : List (Tx × D))
abbrev Sto := Nat → Option O
def upd (S : Sto) (a : Nat) (o : O) : Sto := fun b => if b = a then some o else S b
abbrev Env := List (Option D)
abbrev VK := D → Sto → Prop
abbrev XK := Nat → List D → Sto → Prop
abbrev Sp := List D → Sto → VK → XK → Prop
/-- the greatest length -/
def lim : Nat := 16777216
/-- what a number may be that is multiplied -/
def big : Nat := 2 ^ 4000
def bigd : Nat := 2 ^ 8500
def sm (i : Int) : Prop := i.natAbs < big
def smd (i : Int) : Prop := i.natAbs < bigd
def br (b : Bool) (A B : Prop) : Prop := (b = true → A) ∧ (b = false → B)
inductive Bo where | add | sub | mul | fdiv | mod | pow
  deriving DecidableEq
inductive Co where | eq | ne | lt | le | gt | ge | is_ | isn | in_ | nin
  deriving DecidableEq
inductive Bi where | len | abs | int | min | max | all | any | sum | list | tuple | str | sorted | minp | sortp
  deriving DecidableEq
inductive Ty where | int | bool | tuple | list | str
  deriving DecidableEq
inductive Mt where | append | extend | count | index | pop
  deriving DecidableEq
/-- methods of texts with one argument -/
inductive Mo where | split | join | strip
  deriving DecidableEq
inductive Kc where | non | bl (b : Bool) | int (i : Int) | str (x : Tx)
  deriving DecidableEq
inductive Tg where | v (i : Nat) | tup (is : List Nat)
  deriving DecidableEq
mutual
inductive Ex where
  | v (i : Nat)
  | k (c : Kc)
  | g (n : Nat)
  | bin (o : Bo) (a b : Ex)
  | neg (a : Ex)
  | not (a : Ex)
  | cmp (o : Co) (a b : Ex)
  | chain (o p : Co) (a b c : Ex)
  | and (a : Ex) (r : Es)
  | or (a : Ex) (r : Es)
  | ite (c a b : Ex)
  | tup (es : Es)
  | lst (es : Es)
  | ix (a i : Ex)
  | sl (a : Ex) (lo hi : Oe)
  | rev (a : Ex)
  | call (f : Nat) (es : Es)
  | callk (f : Nat) (es ks : Es) (perm : List Nat)
  | rep (a : Ex)
  | bi (b : Bi) (es : Es)
  | mt (m : Mt) (a : Ex) (es : Es)
  | m2 (o : Mo) (a e : Ex)
  | isi (a : Ex) (t : Ty)
  | isi2 (a : Ex) (t u : Ty)
  | isx (a : Ex) (cs : List Nat)
  | dic
  | dct (ks : List Tx) (es : Es)
  | comp (e : Ex) (t : Tg) (it : It) (c : Oe)
inductive Es where
  | nil | cons (e : Ex) (r : Es) | star (e : Ex) (r : Es)
inductive Oe where
  | none | some (e : Ex)
inductive It where
  | seq (e : Ex) | rng (e : Ex) | rng2 (a b : Ex) | zip (a b : Ex) | zip3 (a b c : Ex) | enum (e : Ex)
end
mutual
inductive St where
  | set (t : Tg) (e : Ex)
  | par (i j : Nat) (a b : Ex)
  | par3 (i j l : Nat) (a b c : Ex)
  | nev
  | six (a i e : Ex)
  | psx (a i : Ex) (j : Nat) (e : Ex)
  | ex (e : Ex)
  | ret (e : Ex)
  | retn
  | if_ (c : Ex) (a b : Ss)
  | while_ (c : Ex) (b : Ss)
  | for_ (t : Tg) (it : It) (b : Ss)
  | brk
  | pass
  | raise (c : Nat) (es : Es)
  | try_ (b : Ss) (c i : Nat) (h : Ss)
inductive Ss where
  | nil | cons (s : St) (r : Ss)
end
/-! ### what the pieces do -/
def onB : D → (Bool → Prop) → Prop
  | .bl b, P => P b
  | _, _ => False
def onI : D → (Int → Prop) → Prop
  | .int i, P => P i
  | _, _ => False
def onC1 : Tx → (Nat → Prop) → Prop
  | [c], P => P c
  | _, _ => False
/-- one sign -/
def onC : D → (Nat → Prop) → Prop
  | .str a, P => onC1 a P
  | _, _ => False
def isNon : D → Bool
  | .non => true
  | _ => false
def b2i (b : Bool) : Int := if b then 1 else 0
def opt {α : Type} : Option α → (α → Prop) → Prop
  | some a, P => P a
  | none, _ => False
def optB {α : Type} : Option α → (α → Bool) → Bool
  | some a, P => P a
  | none, _ => false
def joinO {α : Type} : Option (Option α) → Option α
  | some (some a) => some a
  | _ => none
def look (ρ : Env) (i : Nat) : Option D := joinO ρ[i]?
def lstO : Option O → Option (List D)
  | some (.lst xs) => some xs
  | _ => none
/-- the list at a -/
def lstAt (S : Sto) (a : Nat) : Option (List D) := lstO (S a)
def lsOf (S : Sto) : D → Option (List D)
  | .ref a => lstAt S a
  | .fl xs => some xs
  | _ => none
def sqOf (S : Sto) : D → Option (List D)
  | .ref a => lstAt S a
  | .fl xs => some xs
  | .tup xs => some xs
  | _ => none
/-- are all of these data that == tells of -/
def fitL (ok : D → Bool) : List D → Bool
  | [] => true
  | x :: xs => ok x && fitL ok xs
def fit : Nat → Sto → D → Bool
  | 0, _, _ => false
  | n + 1, S, d => (match d with
    | .non => true | .bl _ => true | .int _ => true | .str x => x.all (fun c => decide (c < 1114112))
    | .tup xs => fitL (fit n S) xs
    | .fl xs => fitL (fit n S) xs
    | .ref a => optB (lstAt S a) (fitL (fit n S))
    | .xn _ _ => false)
def eqLB (eq : D → D → Bool) : List D → List D → Bool
  | [], [] => true
  | x :: xs, y :: ys => eq x y && eqLB eq xs ys
  | _, _ => false
def eqO (eq : List D → List D → Bool) : Option (List D) → Option (List D) → Bool
  | some xs, some ys => eq xs ys
  | _, _ => false
def eqB : Nat → Sto → D → D → Bool
  | 0, _, _, _ => false
  | n + 1, S, x, y => (match x, y with
    | .non, .non => true
    | .bl a, .bl b => a == b
    | .bl a, .int j => b2i a == j
    | .int i, .bl b => i == b2i b
    | .int i, .int j => i == j
    | .str a, .str b => a == b
    | .tup xs, .tup ys => eqLB (eqB n S) xs ys
    | .ref a, y => eqO (eqLB (eqB n S)) (lstAt S a) (lsOf S y)
    | .fl xs, y => eqO (eqLB (eqB n S)) (some xs) (lsOf S y)
    | _, _ => false)
/-- the locals at the entry -/
def start (n : Nat) (ds : List D) : Env := ds.map some ++ List.replicate (n - ds.length) none
abbrev dep : Nat := 8
def ixN (n : Nat) (i : Int) : Option Nat := if 0 ≤ i then (if i < n then some i.toNat else none) else if -(n : Int) ≤ i then some (i + n).toNat else none
def atI {α : Type} (xs : List α) (i : Int) : Option α := (ixN xs.length i).bind fun j => xs[j]?
def sIx (n d : Nat) : Option Int → Nat
  | none => d
  | some v => if v < 0 then (v + n).toNat else min v.toNat n
def cut {α : Type} (xs : List α) (lo hi : Option Int) : List α := (xs.drop (sIx xs.length 0 lo)).take (sIx xs.length xs.length hi - sIx xs.length 0 lo)
/-- a new list -/
def mkL (xs : List D) (S : Sto) (Q : VK) : Prop := xs.length ≤ lim ∧ ∀ p, S p = none → Q (.ref p) (upd S p (.lst xs))
def binD : Bo → D → D → Sto → VK → Prop
  | .add, x, y, S, Q => (match x, y with
    | .int i, .int j => Q (.int (i + j)) S
    | .str a, .str b => a.length + b.length ≤ lim ∧ Q (.str (a ++ b)) S
    | .tup a, .tup b => a.length + b.length ≤ lim ∧ Q (.tup (a ++ b)) S
    | .ref a, .ref b => opt (lstAt S a) fun xs => opt (lstAt S b) fun ys => mkL (xs ++ ys) S Q
    | _, _ => False)
  | .sub, x, y, S, Q => onI x fun i => onI y fun j => Q (.int (i - j)) S
  | .mul, x, y, S, Q => (match x, y with
    | .int i, .int j => sm i ∧ sm j ∧ Q (.int (i * j)) S
    | .ref a, .int k => opt (lstAt S a) fun xs => 0 ≤ k ∧ k < 1000 ∧ mkL ((List.replicate k.toNat xs).flatten) S Q
    | _, _ => False)
  | .fdiv, x, y, S, Q => onI x fun i => onI y fun j => j ≠ 0 ∧ smd j ∧ Q (.int (i.fdiv j)) S
  | .mod, x, y, S, Q => onI x fun i => onI y fun j => j ≠ 0 ∧ Q (.int (i.fmod j)) S
  | .pow, x, y, S, Q => onI x fun i => onI y fun j => sm i ∧ 0 ≤ j ∧ j ≤ 1000 ∧ Q (.int (i ^ j.toNat)) S
def inB (S : Sto) (x : D) (ys : List D) : Bool := ys.any fun y => eqB dep S y x
/-- texts in their order -/
def leT (a b : Tx) : Bool := !decide (b < a)
def cmpD : Co → D → D → Sto → (Bool → Prop) → Prop
  | .lt, x, y, _, Q => onI x fun i => onI y fun j => Q (decide (i < j))
  | .le, x, y, _, Q => (match x, y with
    | .str a, .str b => Q (leT a b)
    | x, y => onI x fun i => onI y fun j => Q (decide (i ≤ j)))
  | .gt, x, y, _, Q => onI x fun i => onI y fun j => Q (decide (j < i))
  | .ge, x, y, _, Q => onI x fun i => onI y fun j => Q (decide (j ≤ i))
  | .eq, x, y, S, Q => (match x, y with
    | .str a, .str b => Q (a == b)
    | x, y => fit dep S x = true ∧ fit dep S y = true ∧ Q (eqB dep S x y))
  | .ne, x, y, S, Q => (match x, y with
    | .str a, .str b => Q (!(a == b))
    | x, y => fit dep S x = true ∧ fit dep S y = true ∧ Q (!eqB dep S x y))
  | .is_, x, y, _, Q => (match y with
    | .non => Q (isNon x)
    | .bl b => onB x fun a => Q (a == b)
    | _ => False)
  | .isn, x, y, _, Q => (match y with
    | .non => Q (!isNon x)
    | .bl b => onB x fun a => Q (!(a == b))
    | _ => False)
  | .in_, x, y, S, Q => (match y with
    | .str b => onC x fun c => Q (b.contains c)
    | y => opt (sqOf S y) fun ys => fit dep S x = true ∧ fitL (fit dep S) ys = true ∧ Q (inB S x ys))
  | .nin, x, y, S, Q => (match y with
    | .str b => onC x fun c => Q (!b.contains c)
    | y => opt (sqOf S y) fun ys => fit dep S x = true ∧ fitL (fit dep S) ys = true ∧ Q (!inB S x ys))
def ixD (x i : D) (S : Sto) (Q : VK) : Prop := match i with
  | .int k => (match x with
    | .str a => a.length ≤ lim ∧ opt (atI a k) fun c => Q (.str [c]) S
    | x => opt (sqOf S x) fun xs => opt (atI xs k) fun d => Q d S)
  | _ => False
def slD (x : D) (lo hi : Option Int) (S : Sto) (Q : VK) : Prop := match x with
  | .str a => a.length ≤ lim ∧ Q (.str (cut a lo hi)) S
  | .tup xs => Q (.tup (cut xs lo hi)) S
  | x => opt (lsOf S x) fun xs => ∀ p, S p = none → Q (.ref p) (upd S p (.lst (cut xs lo hi)))
def revD (x : D) (S : Sto) (Q : VK) : Prop := match x with
  | .tup xs => Q (.tup xs.reverse) S
  | x => opt (lsOf S x) fun xs => ∀ p, S p = none → Q (.ref p) (upd S p (.lst xs.reverse))
def intsD : List D → Option (List Int)
  | [] => some []
  | .int i :: r => (intsD r).map (i :: ·)
  | _ => none
def bools : List D → Option (List Bool)
  | [] => some []
  | .bl i :: r => (bools r).map (i :: ·)
  | _ => none
def minL : Int → List Int → Int
  | m, [] => m
  | m, i :: r => minL (if i < m then i else m) r
def maxL : Int → List Int → Int
  | m, [] => m
  | m, i :: r => maxL (if m < i then i else m) r
/-- decimal digits -/
def txI (i : Int) : Tx := (toString i).toList.map Char.toNat
def arg1 : List D → (D → Prop) → Prop
  | [x], P => P x
  | _, _ => False
def lenD (x : D) (S : Sto) (Q : VK) : Prop := match x with
  | .str a => a.length ≤ lim ∧ Q (.int a.length) S
  | x => opt (sqOf S x) fun xs => Q (.int xs.length) S
def onCons : List Int → (Int → List Int → Prop) → Prop
  | i :: r, P => P i r
  | [], _ => False
/-- the number that digits write, maybe behind a minus -/
def digB (c : Nat) : Bool := decide (48 ≤ c) && decide (c ≤ 57)
def valT (cs : Tx) : Nat := cs.foldl (fun n c => n * 10 + (c - 48)) 0
def numT : Tx → Option Int
  | [] => none
  | c :: r => if c = 45 then (if !r.isEmpty && r.all digB then some (-((valT r : Nat) : Int)) else none) else (if (c :: r).all digB then some ((valT (c :: r) : Nat) : Int) else none)
def intD (x : D) (S : Sto) (Q : VK) : Prop := match x with
  | .int i => Q (.int i) S
  | .bl b => Q (.int (b2i b)) S
  | .str x => opt (numT x) fun n => x.length ≤ 640 ∧ Q (.int n) S
  | _ => False
/-- pairs of numbers -/
def prV (p : Int × Int) : D := .tup [.int p.1, .int p.2]
def prsD : List D → Option (List (Int × Int))
  | [] => some []
  | .tup [.int i, .int j] :: r => (prsD r).map ((i, j) :: ·)
  | _ => none
def ltP (p q : Int × Int) : Bool := if p.1 = q.1 then decide (p.2 < q.2) else decide (p.1 < q.1)
def minP : Int × Int → List (Int × Int) → Int × Int
  | m, [] => m
  | m, i :: r => minP (if ltP i m then i else m) r
def onConsP : List (Int × Int) → (Int × Int → List (Int × Int) → Prop) → Prop
  | i :: r, P => P i r
  | [], _ => False
def biD : Bi → List D → Sto → VK → Prop
  | .len, ds, S, Q => arg1 ds fun x => lenD x S Q
  | .abs, ds, S, Q => arg1 ds fun x => onI x fun i => Q (.int (if i < 0 then -i else i)) S
  | .int, ds, S, Q => arg1 ds fun x => intD x S Q
  | .min, ds, S, Q => (match ds with
    | [x] => opt (lsOf S x) fun xs => opt (intsD xs) fun is => onCons is fun i r => Q (.int (minL i r)) S
    | [x, y] => onI x fun i => onI y fun j => Q (.int (if j < i then j else i)) S
    | _ => False)
  | .max, ds, S, Q => (match ds with
    | [x] => opt (lsOf S x) fun xs => opt (intsD xs) fun is => onCons is fun i r => Q (.int (maxL i r)) S
    | [x, y] => onI x fun i => onI y fun j => Q (.int (if j > i then j else i)) S
    | [x, y, z] => onI x fun i => onI y fun j => onI z fun k => Q (.int (if k > (if j > i then j else i) then k else (if j > i then j else i))) S
    | _ => False)
  | .all, ds, S, Q => arg1 ds fun x => opt (lsOf S x) fun xs => opt (bools xs) fun bs => Q (.bl (bs.all id)) S
  | .any, ds, S, Q => arg1 ds fun x => opt (lsOf S x) fun xs => opt (bools xs) fun bs => Q (.bl (bs.any id)) S
  | .sum, ds, S, Q => arg1 ds fun x => opt (sqOf S x) fun xs => opt (intsD xs) fun is => Q (.int is.sum) S
  | .list, ds, S, Q => arg1 ds fun x => opt (sqOf S x) fun xs => ∀ p, S p = none → Q (.ref p) (upd S p (.lst xs))
  | .tuple, ds, S, Q => arg1 ds fun x => opt (sqOf S x) fun xs => Q (.tup xs) S
  | .str, ds, S, Q => arg1 ds fun x => onI x fun i => i.natAbs.log2 < 1920 ∧ Q (.str (txI i)) S
  | .minp, ds, S, Q => arg1 ds fun x => opt (lsOf S x) fun xs => opt (prsD xs) fun ps => onConsP ps fun p r => Q (prV (minP p r)) S
  | .sortp, ds, S, Q => arg1 ds fun x => opt (lsOf S x) fun xs => opt (prsD xs) fun ps => ∀ qs : List (Int × Int), qs.Perm ps → qs.Pairwise (fun p q => ltP q p = false) → ∀ p, S p = none → Q (.ref p) (upd S p (.lst (qs.map prV)))
  | .sorted, ds, S, Q => arg1 ds fun x => opt (lsOf S x) fun xs => opt (intsD xs) fun is => ∀ js : List Int, js.Perm is → js.Pairwise (· ≤ ·) → ∀ p, S p = none → Q (.ref p) (upd S p (.lst (js.map .int)))
/-- texts -/
def onS : D → (Tx → Prop) → Prop
  | .str x, P => P x
  | _, _ => False
def strsD : List D → Option (List Tx)
  | [] => some []
  | .str x :: r => (strsD r).map (x :: ·)
  | _ => none
def joinT (s : Tx) : List Tx → Tx
  | [] => []
  | [x] => x
  | x :: r => x ++ s ++ joinT s r
def splitT (c : Nat) : Tx → List Tx
  | [] => [[]]
  | d :: r => if d = c then [] :: splitT c r else (match splitT c r with
    | [] => [[d]]
    | w :: ws => (d :: w) :: ws)
def m2D : Mo → Tx → D → Sto → VK → Prop
  | .split, a, y, S, Q => onS y fun b => onC1 b fun c => a.length + 2 ≤ lim ∧ ∀ p, S p = none → Q (.ref p) (upd S p (.lst ((splitT c a).map .str)))
  | .strip, a, y, S, Q => onS y fun b => a.length ≤ lim ∧ ∀ r : Tx, r.length ≤ a.length → (r = [] ↔ ∀ c ∈ a, c ∈ b) → Q (.str r) S
  | .join, a, y, S, Q => opt (sqOf S y) fun xs => opt (strsD xs) fun ts => (ts.map (·.length)).sum + ts.length * a.length ≤ lim ∧ Q (.str (joinT a ts)) S
/-- the first place of b -/
def ixB (b : Bool) : List Bool → Option Nat
  | [] => none
  | c :: r => if c = b then some 0 else (ixB b r).map (· + 1)
/-- an error -/
def onP : D → (D → D → Prop) → Prop
  | .tup [x, y], P => P x y
  | _, _ => False
def onX : D → (Nat → Prop) → Prop
  | .xn C _, P => P C
  | _, _ => False
/-- o.m(..) -/
def onR : D → (Nat → Prop) → Prop
  | .ref a, P => P a
  | _, _ => False
def mtD : Mt → D → List D → Sto → VK → Prop
  | .append, x, ds, S, Q => onR x fun a => arg1 ds fun d => opt (lstAt S a) fun xs => xs.length < lim ∧ Q .non (upd S a (.lst (xs ++ [d])))
  | .extend, x, ds, S, Q => onR x fun a => arg1 ds fun y => onR y fun b => opt (lstAt S a) fun xs => opt (lstAt S b) fun ys => xs.length + ys.length ≤ lim ∧ Q .non (upd S a (.lst (xs ++ ys)))
  | .pop, x, ds, S, Q => onR x fun a => (match ds with
    | [] => opt (lstAt S a) fun xs => opt xs[xs.length - 1]? fun d => Q d (upd S a (.lst xs.dropLast))
    | _ => False)
  | .count, x, ds, S, Q => arg1 ds fun y => onB y fun b => opt (lsOf S x) fun xs => opt (bools xs) fun bs => Q (.int ((bs.count b : Nat) : Int)) S
  | .index, x, ds, S, Q => arg1 ds fun y => onB y fun b => opt (lsOf S x) fun xs => opt (bools xs) fun bs => opt (ixB b bs) fun j => Q (.int ((j : Nat) : Int)) S
def tyO : Option O → Ty → Option Bool
  | some (.lst _), t => some (decide (t = .list))
  | some .dic, _ => some false
  | some (.dct _), _ => some false
  | none, _ => none
def isTy (S : Sto) : D → Ty → Option Bool
  | .non, _ => some false
  | .bl _, t => some (decide (t = .bool) || decide (t = .int))
  | .int _, t => some (decide (t = .int))
  | .str _, t => some (decide (t = .str))
  | .tup _, t => some (decide (t = .tuple))
  | .fl _, t => some (decide (t = .list))
  | .ref a, t => tyO (S a) t
  | .xn _ _, _ => none
def kcD : Kc → D
  | .non => .non | .bl b => .bl b | .int i => .int i | .str x => .str x
def setAll : List Nat → List D → Env → Env
  | i :: is, d :: ds, ρ => setAll is ds (ρ.set i (some d))
  | _, _, ρ => ρ
def asg (t : Tg) (d : D) (S : Sto) (ρ : Env) (Q : Env → Prop) : Prop := match t with
  | .v i => Q (ρ.set i (some d))
  | .tup is => (match d with
    | .tup xs => xs.length = is.length ∧ Q (setAll is xs ρ)
    | d => opt (lsOf S d) fun xs => xs.length = is.length ∧ Q (setAll is xs ρ))
def tgs : Tg → List Nat
  | .v i => [i]
  | .tup is => is
def wipe (ρ : Env) : List Nat → Env
  | [] => ρ
  | i :: is => (wipe ρ is).set i none
/-- o[i] = d -/
def sixD (x i d : D) (S : Sto) (Q : Sto → Prop) : Prop := onR x fun a => onI i fun k => opt (lstAt S a) fun xs => opt (ixN xs.length k) fun j => Q (upd S a (.lst (xs.set j d)))
/-- what is walked -/
abbrev IK := List D → (Sto → Prop) → Sto → Prop
def seqD (x : D) (S : Sto) (R : IK) : Prop := match x with
  | .ref a => opt (lstAt S a) fun xs => R xs (fun S' => S' a = some (.lst xs)) S
  | .fl xs => R xs (fun _ => True) S
  | .tup xs => R xs (fun _ => True) S
  | .str a => R (a.map fun c => .str [c]) (fun _ => True) S
  | _ => False
def zipP (xs ys : List D) : List D := (xs.zip ys).map fun p => .tup [p.1, p.2]
def zipD (x y : D) (S : Sto) (R : IK) : Prop := match x, y with
  | .tup xs, .tup ys => R (zipP xs ys) (fun _ => True) S
  | .str a, .tup ys => R (zipP (a.map fun c => .str [c]) ys) (fun _ => True) S
  | x, y => opt (lsOf S x) fun xs => opt (lsOf S y) fun ys => R (zipP xs ys) (fun S' => lsOf S' x = some xs ∧ lsOf S' y = some ys) S
def zipP3 (xs ys zs : List D) : List D := (xs.zip (ys.zip zs)).map fun p => .tup [p.1, p.2.1, p.2.2]
def zip3D (x y z : D) (S : Sto) (R : IK) : Prop := match x, y, z with
  | .tup xs, .tup ys, .tup zs => R (zipP3 xs ys zs) (fun _ => True) S
  | _, _, _ => False
def rngD (lo hi : Int) (S : Sto) (R : IK) : Prop := -(2 ^ 62) ≤ lo ∧ lo < 2 ^ 62 ∧ -(2 ^ 62) ≤ hi ∧ hi < 2 ^ 62 ∧ R ((List.range (hi - lo).toNat).map fun i => .int (lo + (i : Nat))) (fun _ => True) S
def enumL : Nat → List D → List D
  | _, [] => []
  | n, d :: ds => .tup [.int n, d] :: enumL (n + 1) ds
def enumD (x : D) (S : Sto) (R : IK) : Prop := opt (lsOf S x) fun xs => R (enumL 0 xs) (fun S' => lsOf S' x = some xs) S
def forW (chk : Sto → Prop) (step : D → Env → Sto → (Env → Sto → Prop) → Prop) (nx : Env → Sto → Prop) : List D → Env → Sto → Prop
  | [], ρ, S => chk S ∧ nx ρ S
  | d :: ds, ρ, S => chk S ∧ step d ρ S (forW chk step nx ds)
def whileN (step : Env → Sto → (Env → Sto → Prop) → Prop) : Nat → Env → Sto → Prop
  | 0, _, _ => False
  | n + 1, ρ, S => step ρ S (whileN step n)
def compW (chk : Sto → Prop) (step : D → Sto → (Option D → Sto → Prop) → Prop) (Q : VK) : List D → List D → Sto → Prop
  | [], acc, S => chk S ∧ ∀ p, S p = none → Q (.ref p) (upd S p (.lst acc))
  | d :: ds, acc, S => chk S ∧ step d S fun r S1 => compW chk step Q ds (acc ++ r.toList) S1
/-- a promise, with more wanted than it says -/
def cl (sp : Sp) : Sp := fun ds S Q X => ∃ (Q0 : VK) (X0 : XK), sp ds S Q0 X0 ∧ (∀ d S, Q0 d S → Q d S) ∧ (∀ c fs S, X0 c fs S → X c fs S)
theorem cl_of {sp : Sp} {ds : List D} {S : Sto} {Q : VK} {X : XK} (h : sp ds S Q X) : cl sp ds S Q X := ⟨Q, X, h, fun _ _ x => x, fun _ _ _ x => x⟩
/-- what a text of a value tells -/
inductive P where
  | non | bl (b : Bool) | int (i : Int) | str (x : Tx) | tup (xs : List P) | lst (xs : List P) | dic | dct (kvs : List (Tx × P))
def toQ : Nat → Sto → D → P
  | 0, _, _ => .non
  | n + 1, S, d => (match d with
    | .non => .non
    | .bl b => .bl b
    | .int i => .int i
    | .str x => .str x
    | .tup xs => .tup (xs.map (toQ n S))
    | .fl xs => .lst (xs.map (toQ n S))
    | .ref a => (match S a with
      | some (.lst xs) => .lst (xs.map (toQ n S))
      | some (.dct kvs) => .dct (kvs.map fun p => (p.1, toQ n S p.2))
      | _ => .dic)
    | .xn _ _ => .non)
def bigr : Nat := 2 ^ 1900
def smr (i : Int) : Prop := i.natAbs < bigr
def fitR : Nat → Sto → D → Prop
  | 0, _, _ => False
  | n + 1, S, d => (match d with
    | .non => True
    | .bl _ => True
    | .int i => smr i
    | .str x => ∀ c ∈ x, c < 1114112
    | .tup xs => ∀ y ∈ xs, fitR n S y
    | .fl xs => ∀ y ∈ xs, fitR n S y
    | .ref a => opt (lstAt S a) fun xs => ∀ y ∈ xs, fitR n S y
    | .xn _ _ => False)
def isDic : Option O → Prop
  | some .dic => True
  | _ => False
def isDicD (S : Sto) : D → Prop
  | .ref a => isDic (S a)
  | _ => False
/-- with dicts within -/
def fitO (f : D → Prop) : Option O → Prop
  | some (.lst xs) => ∀ y ∈ xs, f y
  | some .dic => True
  | some (.dct kvs) => kvs.length < 1000 ∧ ∀ p ∈ kvs, (∀ c ∈ p.1, c < 1114112) ∧ f p.2
  | none => False
def fitQ : Nat → Sto → D → Prop
  | 0, _, _ => False
  | n + 1, S, d => (match d with
    | .non => True
    | .bl _ => True
    | .int i => smr i
    | .str x => ∀ c ∈ x, c < 1114112
    | .tup xs => ∀ y ∈ xs, fitQ n S y
    | .fl xs => ∀ y ∈ xs, fitQ n S y
    | .ref a => fitO (fitQ n S) (S a)
    | .xn _ _ => False)
def fitD (S : Sto) (d : D) : Prop := (isDicD S d ∨ fitQ dep S d) ∨ fitR dep S d
def sumN : List Nat → Nat
  | [] => 0
  | a :: r => a + sumN r
/-- no text of the value is longer -/
def szR : Nat → Sto → D → Nat
  | 0, _, _ => 0
  | n + 1, S, d => (match d with
    | .non => 4
    | .bl _ => 5
    | .int _ => 1902
    | .str x => 10 * x.length + 2
    | .tup xs => sumN (xs.map fun y => szR n S y + 2) + 3
    | .fl xs => sumN (xs.map fun y => szR n S y + 2) + 3
    | .ref a => (match S a with
      | some (.lst xs) => sumN (xs.map fun y => szR n S y + 2) + 3
      | some (.dct kvs) => sumN (kvs.map fun p => 10 * p.1.length + 2 + szR n S p.2 + 4) + 3
      | _ => 2)
    | .xn _ _ => 0)
structure Gm where
  fn : Nat → Sp
  con : Nat → D
  sub : Nat → Nat → Bool
  /-- where the class stands -/
  adr : Nat → Option Nat
  rp : P → Tx
def esLen : Es → Nat
  | .nil => 0
  | .cons _ r => esLen r + 1
  | .star _ r => esLen r + 1
/-- the promises of the defs below n -/
def upto (n : Nat) (sp : Nat → Sp) : Nat → Sp := fun i => if i < n then sp i else fun _ _ _ _ => False
def X0 : XK := fun _ _ _ => False
mutual
def wpE (G : Gm) : Ex → Env → Sto → VK → XK → Prop
  | .v i, ρ, S, Q, _ => opt (look ρ i) fun d => Q d S
  | .k c, _, S, Q, _ => Q (kcD c) S
  | .g n, _, S, Q, _ => Q (G.con n) S
  | .bin o a b, ρ, S, Q, X => wpE G a ρ S (fun x S1 => wpE G b ρ S1 (fun y S2 => binD o x y S2 Q) X) X
  | .neg a, ρ, S, Q, X => wpE G a ρ S (fun x S1 => onI x fun i => Q (.int (-i)) S1) X
  | .not a, ρ, S, Q, X => wpE G a ρ S (fun x S1 => onB x fun b => Q (.bl (!b)) S1) X
  | .cmp o a b, ρ, S, Q, X => wpE G a ρ S (fun x S1 => wpE G b ρ S1 (fun y S2 => cmpD o x y S2 fun c => Q (.bl c) S2) X) X
  | .chain o p a b c, ρ, S, Q, X => wpE G a ρ S (fun x S1 => wpE G b ρ S1 (fun y S2 => cmpD o x y S2 fun k => br k (wpE G c ρ S2 (fun z S3 => cmpD p y z S3 fun k' => Q (.bl k') S3) X) (Q (.bl false) S2)) X) X
  | .and a r, ρ, S, Q, X => wpE G a ρ S (fun x S1 => onB x fun b => br b (wpAnd G r ρ S1 Q X) (Q (.bl false) S1)) X
  | .or a r, ρ, S, Q, X => wpE G a ρ S (fun x S1 => onB x fun b => br b (Q (.bl true) S1) (wpOr G r ρ S1 Q X)) X
  | .ite c a b, ρ, S, Q, X => wpE G c ρ S (fun x S1 => onB x fun k => br k (wpE G a ρ S1 Q X) (wpE G b ρ S1 Q X)) X
  | .tup es, ρ, S, Q, X => wpEs G es ρ S (fun ds S1 => ds.length ≤ lim ∧ Q (.tup ds) S1) X
  | .lst es, ρ, S, Q, X => wpEs G es ρ S (fun ds S1 => mkL ds S1 Q) X
  | .ix a i, ρ, S, Q, X => wpE G a ρ S (fun x S1 => wpE G i ρ S1 (fun y S2 => ixD x y S2 Q) X) X
  | .sl a lo hi, ρ, S, Q, X => wpE G a ρ S (fun x S1 => wpO G lo ρ S1 (fun l S2 => wpO G hi ρ S2 (fun h S3 => slD x l h S3 Q) X) X) X
  | .rev a, ρ, S, Q, X => wpE G a ρ S (fun x S1 => revD x S1 Q) X
  | .call f es, ρ, S, Q, X => wpEs G es ρ S (fun ds S1 => cl (G.fn f) ds S1 Q X) X
  | .callk f es ks perm, ρ, S, Q, X => wpEs G es ρ S (fun ds S1 => wpEs G ks ρ S1 (fun ws S2 => ds.length = esLen es ∧ ws.length = esLen ks ∧ cl (G.fn f) (perm.filterMap fun i => (ds ++ ws)[i]?) S2 Q X) X) X
  | .rep a, ρ, S, Q, X => wpE G a ρ S (fun x S1 => fitD S1 x ∧ szR dep S1 x ≤ lim ∧ Q (.str (G.rp (toQ dep S1 x))) S1) X
  | .bi b es, ρ, S, Q, X => wpEs G es ρ S (fun ds S1 => biD b ds S1 Q) X
  | .mt m a es, ρ, S, Q, X => wpE G a ρ S (fun x S1 => opt (lsOf S1 x) fun _ => wpEs G es ρ S1 (fun ds S2 => mtD m x ds S2 Q) X) X
  | .m2 o a e, ρ, S, Q, X => wpE G a ρ S (fun x S1 => onS x fun s => wpE G e ρ S1 (fun y S2 => m2D o s y S2 Q) X) X
  | .isi a t, ρ, S, Q, X => wpE G a ρ S (fun x S1 => opt (isTy S1 x t) fun b => Q (.bl b) S1) X
  | .isi2 a t u, ρ, S, Q, X => wpE G a ρ S (fun x S1 => opt (isTy S1 x t) fun b => opt (isTy S1 x u) fun d => Q (.bl (b || d)) S1) X
  | .isx a cs, ρ, S, Q, X => wpE G a ρ S (fun x S1 => onX x fun C => ∃ k, G.adr k = some C ∧ Q (.bl (cs.any (G.sub k))) S1) X
  | .dic, _, S, Q, _ => ∀ p, S p = none → Q (.ref p) (upd S p .dic)
  | .dct ks es, ρ, S, Q, X => wpEs G es ρ S (fun ds S1 => ds.length = ks.length ∧ ∀ p, S1 p = none → Q (.ref p) (upd S1 p (.dct (ks.zip ds)))) X
  | .comp e t it c, ρ, S, Q, X => wpIt G it ρ S (fun items chk S1 => items.length ≤ lim ∧ compW chk (fun d S2 k => asg t d S2 (wipe ρ (tgs t)) fun ρ2 => wpC G c ρ2 S2 (fun b S3 => br b (wpE G e ρ2 S3 (fun x S4 => k (some x) S4) X0) (k none S3))) Q items [] S1) X
def wpC (G : Gm) : Oe → Env → Sto → (Bool → Sto → Prop) → Prop
  | .none, _, S, Q => Q true S
  | .some e, ρ, S, Q => wpE G e ρ S (fun x S1 => onB x fun b => Q b S1) X0
def wpO (G : Gm) : Oe → Env → Sto → (Option Int → Sto → Prop) → XK → Prop
  | .none, _, S, Q, _ => Q none S
  | .some e, ρ, S, Q, X => wpE G e ρ S (fun x S1 => onI x fun i => Q (some i) S1) X
def wpAnd (G : Gm) : Es → Env → Sto → VK → XK → Prop
  | .cons e r, ρ, S, Q, X => wpE G e ρ S (fun x S1 => match r with
    | .nil => Q x S1
    | _ => (onB x fun b => br b (wpAnd G r ρ S1 Q X) (Q (.bl false) S1))) X
  | _, _, _, _, _ => False
def wpOr (G : Gm) : Es → Env → Sto → VK → XK → Prop
  | .cons e r, ρ, S, Q, X => wpE G e ρ S (fun x S1 => match r with
    | .nil => Q x S1
    | _ => (onB x fun b => br b (Q (.bl true) S1) (wpOr G r ρ S1 Q X))) X
  | _, _, _, _, _ => False
def wpEs (G : Gm) : Es → Env → Sto → (List D → Sto → Prop) → XK → Prop
  | .nil, _, S, Q, _ => Q [] S
  | .cons e r, ρ, S, Q, X => wpE G e ρ S (fun x S1 => wpEs G r ρ S1 (fun ds S2 => Q (x :: ds) S2) X) X
  | .star e r, ρ, S, Q, X => wpE G e ρ S (fun x S1 => opt (sqOf S1 x) fun xs => wpEs G r ρ S1 (fun ds S2 => Q (xs ++ ds) S2) X) X
def wpIt (G : Gm) : It → Env → Sto → IK → XK → Prop
  | .seq e, ρ, S, R, X => wpE G e ρ S (fun x S1 => seqD x S1 R) X
  | .rng e, ρ, S, R, X => wpE G e ρ S (fun x S1 => onI x fun j => rngD 0 j S1 R) X
  | .rng2 a b, ρ, S, R, X => wpE G a ρ S (fun x S1 => wpE G b ρ S1 (fun y S2 => onI x fun i => onI y fun j => rngD i j S2 R) X) X
  | .zip a b, ρ, S, R, X => wpE G a ρ S (fun x S1 => wpE G b ρ S1 (fun y S2 => zipD x y S2 R) X) X
  | .zip3 a b c, ρ, S, R, X => wpE G a ρ S (fun x S1 => wpE G b ρ S1 (fun y S2 => wpE G c ρ S2 (fun z S3 => zip3D x y z S3 R) X) X) X
  | .enum e, ρ, S, R, X => wpE G e ρ S (fun x S1 => enumD x S1 R) X
end
structure Kt where
  nx : Env → Sto → Prop
  rt : VK
  bk : Env → Sto → Prop
  xe : Nat → List D → Env → Sto → Prop
mutual
def wpS (G : Gm) : St → Env → Sto → Kt → Prop
  | .set t e, ρ, S, K => wpE G e ρ S (fun x S1 => asg t x S1 ρ fun ρ1 => K.nx ρ1 S1) (fun c fs S1 => K.xe c fs ρ S1)
  | .par i j a b, ρ, S, K => wpE G a ρ S (fun x S1 => wpE G b ρ S1 (fun y S2 => K.nx ((ρ.set i (some x)).set j (some y)) S2) (fun c fs S2 => K.xe c fs ρ S2)) (fun c fs S1 => K.xe c fs ρ S1)
  | .par3 i j l a b c, ρ, S, K => wpE G a ρ S (fun x S1 => wpE G b ρ S1 (fun y S2 => wpE G c ρ S2 (fun z S3 => K.nx (((ρ.set i (some x)).set j (some y)).set l (some z)) S3) (fun c fs S3 => K.xe c fs ρ S3)) (fun c fs S2 => K.xe c fs ρ S2)) (fun c fs S1 => K.xe c fs ρ S1)
  | .nev, _, _, _ => False
  | .six a i e, ρ, S, K => wpE G e ρ S (fun x S1 => wpE G a ρ S1 (fun o S2 => wpE G i ρ S2 (fun y S3 => sixD o y x S3 fun S4 => K.nx ρ S4) (fun c fs S3 => K.xe c fs ρ S3)) (fun c fs S2 => K.xe c fs ρ S2)) (fun c fs S1 => K.xe c fs ρ S1)
  | .psx a i j e, ρ, S, K => wpE G e ρ S (fun v S1 => onP v fun x y => wpE G a ρ S1 (fun o S2 => wpE G i ρ S2 (fun z S3 => sixD o z x S3 fun S4 => K.nx (ρ.set j (some y)) S4) (fun c fs S3 => K.xe c fs ρ S3)) (fun c fs S2 => K.xe c fs ρ S2)) (fun c fs S1 => K.xe c fs ρ S1)
  | .ex e, ρ, S, K => wpE G e ρ S (fun _ S1 => K.nx ρ S1) (fun c fs S1 => K.xe c fs ρ S1)
  | .ret e, ρ, S, K => wpE G e ρ S K.rt (fun c fs S1 => K.xe c fs ρ S1)
  | .retn, _, S, K => K.rt .non S
  | .if_ c a b, ρ, S, K => wpE G c ρ S (fun x S1 => onB x fun k => br k (wpSs G a ρ S1 K) (wpSs G b ρ S1 K)) (fun c fs S1 => K.xe c fs ρ S1)
  | .while_ c b, ρ, S, K => ∃ n, whileN (fun ρ1 S1 nx => wpE G c ρ1 S1 (fun x S2 => onB x fun k => br k (wpSs G b ρ1 S2 { K with nx := nx, bk := K.nx }) (K.nx ρ1 S2)) (fun c fs S2 => K.xe c fs ρ1 S2)) n ρ S
  | .for_ t it b, ρ, S, K => wpIt G it ρ S (fun items chk S1 => forW chk (fun d ρ1 S2 nx => asg t d S2 ρ1 fun ρ2 => wpSs G b ρ2 S2 { K with nx := nx, bk := K.nx }) K.nx items ρ S1) (fun c fs S1 => K.xe c fs ρ S1)
  | .brk, ρ, S, K => K.bk ρ S
  | .pass, ρ, S, K => K.nx ρ S
  | .raise c es, ρ, S, K => wpEs G es ρ S (fun ds S1 => K.xe c ds ρ S1) (fun c fs S1 => K.xe c fs ρ S1)
  | .try_ b c i h, ρ, S, K => wpSs G b ρ S { K with xe := fun k fs ρ1 S1 => br (G.sub k c) (∀ C, G.adr k = some C → wpSs G h (ρ1.set i (some (.xn C []))) S1 { nx := fun ρ2 S2 => K.nx (ρ2.set i none) S2, rt := K.rt, bk := fun ρ2 S2 => K.bk (ρ2.set i none) S2, xe := fun _ _ _ _ => False }) (K.xe k fs ρ1 S1) }
def wpSs (G : Gm) : Ss → Env → Sto → Kt → Prop
  | .nil, ρ, S, K => K.nx ρ S
  | .cons s r, ρ, S, K => wpS G s ρ S { K with nx := fun ρ1 S1 => wpSs G r ρ1 S1 K }
end
end M
namespace Snd
open PySem PySem.Spec PyProof.Rows L2
abbrev Frag := PySem.W.Frag
abbrev Sl := L2.St
def stx (x : M.Tx) : Str := ⟨x.toArray⟩
/-- a list that is never written -/
def SqF (K : Frag) (H : Hp) (a : Addr) (xs : List V) : Prop :=
  (∃ o, H a = some (.frz o (.lst xs))) ∨
    ∃ (o : Obj) (its : Array Value) (n : Nat), K.lookup a = some o ∧ o.cls = .type "list" ∧ o.dict = none ∧ o.data = .seq its n ∧ its.size ≤ sizeLine ∧ Vals xs its.toList
theorem SqF.sq {K : Frag} {H : Hp} {a : Addr} {xs : List V} (h : SqF K H a xs) : SqL K H a xs := by
  rcases h with ⟨o, h⟩ | h
  · exact .inl (.inr ⟨o, h⟩)
  · exact .inr h
/-- an error of the class at C stands at a -/
def XO (C a : Addr) : HO := .ext fun h => ∃ (oe : Obj) (vs : Array Value), h.get? a = some oe ∧ Zc (.ref C) none oe ∧ oe.data = .fields vs
mutual
inductive RelD (K : Frag) (H : Hp) : M.D → V → Prop
  | non : RelD K H .non .non
  | bl (b : Bool) : RelD K H (.bl b) (.bl b)
  | int (i : Int) : RelD K H (.int i) (.int i)
  | str (x : M.Tx) : RelD K H (.str x) (.str (stx x))
  | tup {a : Addr} {ds : List M.D} {vs : List V} : SqT K H a vs → RelDs K H ds vs → RelD K H (.tup ds) (.ref a)
  | fl {a : Addr} {ds : List M.D} {vs : List V} : SqF K H a vs → RelDs K H ds vs → RelD K H (.fl ds) (.ref a)
  | ref (a : Addr) : RelD K H (.ref a) (.ref a)
  | xn {C a : Addr} {fs : List M.D} : H a = some (XO C a) → RelD K H (.xn C fs) (.ref a)
inductive RelDs (K : Frag) (H : Hp) : List M.D → List V → Prop
  | nil : RelDs K H [] []
  | cons {d : M.D} {v : V} {ds : List M.D} {vs : List V} : RelD K H d v → RelDs K H ds vs → RelDs K H (d :: ds) (v :: vs)
end
def RelO (K : Frag) (H : Hp) (a : Addr) : M.O → Prop
  | .lst ds => ∃ vs, H a = some (.lst vs) ∧ RelDs K H ds vs
  | .dic => H a = some (.dK [])
  | .dct kvs => ∃ vs, H a = some (.dK ((kvs.map fun p => (Sum.inr (stx p.1) : Key)).zip vs)) ∧ RelDs K H (kvs.map (·.2)) vs
def RelS (K : Frag) (H : Hp) (S : M.Sto) : Prop := ∀ a o, S a = some o → RelO K H a o
/-- what was tracked and not in the store is as it was -/
def Fr (S : M.Sto) (H : Hp) (S' : M.Sto) (H' : Hp) : Prop := ∀ a o, H a = some o → S a = none → H' a = some o ∧ S' a = none
section
variable {K : Frag} {H H' H2 : Hp} {S S' S2 : M.Sto}
theorem Fr.refl : Fr S H S H := fun _ _ h n => ⟨h, n⟩
theorem Fr.trans (a : Fr S H S' H') (b : Fr S' H' S2 H2) : Fr S H S2 H2 := fun c o h n => let ⟨h1, n1⟩ := a c o h n; b c o h1 n1
theorem RelS.none (r : RelS K H S) {a : Addr} (h : H a = none) : S a = none := by
  cases e : S a with
  | none => rfl
  | some o =>
    have q := r a o e
    cases o with
    | lst ds => obtain ⟨vs, q, _⟩ := q; rw [h] at q; cases q
    | dic => have q' : H a = _ := q; rw [h] at q'; cases q'
    | dct kvs => obtain ⟨vs, q, _⟩ := q; rw [h] at q; cases q
theorem RelS.tup (r : RelS K H S) {a : Addr} {vs : List V} (h : H a = some (.tup vs)) : S a = .none := by
  cases e : S a with
  | none => rfl
  | some o =>
    have q := r a o e
    cases o with
    | lst ds => obtain ⟨vs, q, _⟩ := q; rw [h] at q; cases q
    | dic => have q' : H a = _ := q; rw [h] at q'; cases q'
    | dct kvs => obtain ⟨vs, q, _⟩ := q; rw [h] at q; cases q
theorem RelS.frz (r : RelS K H S) {a : Addr} {ob : Obj} {u : HO} (h : H a = some (.frz ob u)) : S a = .none := by
  cases e : S a with
  | none => rfl
  | some o =>
    have q := r a o e
    cases o with
    | lst ds => obtain ⟨vs, q, _⟩ := q; rw [h] at q; cases q
    | dic => have q' : H a = _ := q; rw [h] at q'; cases q'
    | dct kvs => obtain ⟨vs, q, _⟩ := q; rw [h] at q; cases q
theorem RelS.xo (r : RelS K H S) {C a : Addr} (h : H a = some (XO C a)) : S a = .none := by
  cases e : S a with
  | none => rfl
  | some o =>
    have q := r a o e
    cases o with
    | lst ds => obtain ⟨vs, q, _⟩ := q; rw [h] at q; cases q
    | dic => have q' : H a = _ := q; rw [h] at q'; cases q'
    | dct kvs => obtain ⟨vs, q, _⟩ := q; rw [h] at q; cases q
theorem sqt_mono (r : RelS K H S) (f : Fr S H S' H') {a : Addr} {vs : List V} (h : SqT K H a vs) : SqT K H' a vs := by
  rcases h with (h | ⟨o, h⟩) | h
  · exact .inl (.inl (f _ _ h (r.tup h)).1)
  · exact .inl (.inr ⟨o, (f _ _ h (r.frz h)).1⟩)
  · exact .inr h
theorem sqf_mono (r : RelS K H S) (f : Fr S H S' H') {a : Addr} {vs : List V} (h : SqF K H a vs) : SqF K H' a vs := by
  rcases h with ⟨o, h⟩ | h
  · exact .inl ⟨o, (f _ _ h (r.frz h)).1⟩
  · exact .inr h
mutual
theorem RelD.mono (r : RelS K H S) (f : Fr S H S' H') : ∀ {d : M.D} {v : V}, RelD K H d v → RelD K H' d v
  | _, _, .non => .non
  | _, _, .bl b => .bl b
  | _, _, .int i => .int i
  | _, _, .str x => .str x
  | _, _, .tup h t => .tup (sqt_mono r f h) (RelDs.mono r f t)
  | _, _, .fl h t => .fl (sqf_mono r f h) (RelDs.mono r f t)
  | _, _, .ref a => .ref a
  | _, _, .xn h => .xn (f _ _ h (r.xo h)).1
theorem RelDs.mono (r : RelS K H S) (f : Fr S H S' H') : ∀ {ds : List M.D} {vs : List V}, RelDs K H ds vs → RelDs K H' ds vs
  | _, _, .nil => .nil
  | _, _, .cons h t => .cons (RelD.mono r f h) (RelDs.mono r f t)
end
theorem RelDs.length : ∀ {ds : List M.D} {vs : List V}, RelDs K H ds vs → ds.length = vs.length
  | _, _, .nil => rfl
  | _, _, .cons _ t => by rw [List.length_cons, List.length_cons, RelDs.length t]
theorem RelDs.get : ∀ {ds : List M.D} {vs : List V} {i : Nat} {d : M.D}, RelDs K H ds vs → ds[i]? = some d → ∃ v, vs[i]? = some v ∧ RelD K H d v
  | _, _, _, _, .nil, e => by simp at e
  | _, _, 0, d, .cons h _, e => by simp at e; subst e; exact ⟨_, rfl, h⟩
  | _, _, i + 1, d, .cons _ t, e => by
    obtain ⟨v, h1, h2⟩ := RelDs.get (i := i) t (by simpa using e)
    exact ⟨v, by simpa using h1, h2⟩
theorem RelDs.get' : ∀ {ds : List M.D} {vs : List V} {i : Nat} {v : V}, RelDs K H ds vs → vs[i]? = some v → ∃ d, ds[i]? = some d ∧ RelD K H d v
  | _, _, _, _, .nil, e => by simp at e
  | _, _, 0, d, .cons h _, e => by simp at e; subst e; exact ⟨_, rfl, h⟩
  | _, _, i + 1, d, .cons _ t, e => by
    obtain ⟨v, h1, h2⟩ := RelDs.get' (i := i) t (by simpa using e)
    exact ⟨v, by simpa using h1, h2⟩
theorem RelDs.append : ∀ {ds es : List M.D} {vs us : List V}, RelDs K H ds vs → RelDs K H es us → RelDs K H (ds ++ es) (vs ++ us)
  | _, _, _, _, .nil, s => s
  | _, _, _, _, .cons h t, s => .cons h (RelDs.append t s)
theorem RelDs.take : ∀ {ds : List M.D} {vs : List V} (n : Nat), RelDs K H ds vs → RelDs K H (ds.take n) (vs.take n)
  | _, _, 0, _ => .nil
  | _, _, _ + 1, .nil => .nil
  | _, _, n + 1, .cons h t => .cons h (RelDs.take n t)
theorem RelDs.drop : ∀ {ds : List M.D} {vs : List V} (n : Nat), RelDs K H ds vs → RelDs K H (ds.drop n) (vs.drop n)
  | _, _, 0, h => h
  | _, _, _ + 1, .nil => .nil
  | _, _, n + 1, .cons _ t => RelDs.drop n t
theorem RelDs.set : ∀ {ds : List M.D} {vs : List V} {d : M.D} {v : V} (i : Nat), RelD K H d v → RelDs K H ds vs → RelDs K H (ds.set i d) (vs.set i v)
  | _, _, _, _, _, _, .nil => .nil
  | _, _, _, _, 0, q, .cons _ t => .cons q t
  | _, _, _, _, i + 1, q, .cons h t => .cons h (RelDs.set i q t)
theorem RelDs.reverse {ds : List M.D} {vs : List V} (h : RelDs K H ds vs) : RelDs K H ds.reverse vs.reverse := by
  induction ds generalizing vs with
  | nil => cases h; exact .nil
  | cons d ds ih =>
    cases h with
    | cons a b =>
      rw [List.reverse_cons, List.reverse_cons]
      exact (ih b).append (.cons a .nil)
theorem RelDs.dropLast {ds : List M.D} {vs : List V} (h : RelDs K H ds vs) : RelDs K H ds.dropLast vs.dropLast := by
  rw [List.dropLast_eq_take, List.dropLast_eq_take, h.length]
  exact h.take _
theorem RelDs.rep {ds : List M.D} {vs : List V} (h : RelDs K H ds vs) : ∀ k : Nat, RelDs K H (List.replicate k ds).flatten (List.replicate k vs).flatten
  | 0 => .nil
  | k + 1 => by
    rw [List.replicate_succ, List.replicate_succ, List.flatten_cons, List.flatten_cons]
    exact h.append (RelDs.rep h k)
end
/-! ### slots -/
def RelE (K : Frag) (H : Hp) (ρ : M.Env) (σ : Sl) : Prop := ∀ (i : Nat) (d : M.D), ρ[i]? = some (some d) → ∃ v, σ[i]? = some (some v) ∧ RelD K H d v
section
variable {K : Frag} {H H' : Hp} {S S' : M.Sto} {ρ : M.Env} {σ : Sl}
theorem RelE.mono (h : RelE K H ρ σ) (r : RelS K H S) (f : Fr S H S' H') : RelE K H' ρ σ := fun i d e => let ⟨v, h1, h2⟩ := h i d e; ⟨v, h1, h2.mono r f⟩
theorem RelE.set (h : RelE K H ρ σ) (hl : ρ.length = σ.length) {d : M.D} {v : V} (q : RelD K H d v) (i : Nat) : RelE K H (ρ.set i (some d)) (σ.set i (some v)) := fun j e hj => by
  by_cases hi : i = j
  · subst hi
    by_cases hlt : i < ρ.length
    · rw [List.getElem?_set_self hlt] at hj
      cases hj
      exact ⟨v, List.getElem?_set_self (by omega), q⟩
    · rw [List.getElem?_eq_none (by simpa using hlt)] at hj; cases hj
  · rw [List.getElem?_set_ne hi] at hj
    obtain ⟨w, h1, h2⟩ := h j e hj
    exact ⟨w, by rw [List.getElem?_set_ne hi]; exact h1, h2⟩
theorem RelE.unset (h : RelE K H ρ σ) (i : Nat) : RelE K H (ρ.set i none) (σ.set i none) := fun j e hj => by
  by_cases hi : i = j
  · subst hi
    by_cases hlt : i < ρ.length
    · rw [List.getElem?_set_self hlt] at hj; cases hj
    · rw [List.getElem?_eq_none (by simpa using hlt)] at hj; cases hj
  · rw [List.getElem?_set_ne hi] at hj
    obtain ⟨w, h1, h2⟩ := h j e hj
    exact ⟨w, by rw [List.getElem?_set_ne hi]; exact h1, h2⟩
theorem RelE.wipe (h : RelE K H ρ σ) : ∀ is : List Nat, RelE K H (M.wipe ρ is) (L2.wipe σ is)
  | [] => h
  | i :: is => (RelE.wipe h is).unset i
theorem wipe_len (ρ : M.Env) : ∀ is : List Nat, (M.wipe ρ is).length = ρ.length
  | [] => rfl
  | i :: is => by show ((M.wipe ρ is).set i none).length = _; rw [List.length_set, wipe_len ρ is]
end
/-! ### exceptions -/
/-- text's tables: defs, constants, classes by number -/
structure Tb where
  fns : List Str
  cons : List Str
  cls : List Str
  /-- free names of the built-ins -/
  bts : List Str
  /-- calls with names: the def, how many positional values, the names, the values' places -/
  kws : List (Nat × Nat × List Str × List Nat)
  /-- the first classes are those that are raised -/
  nr : Nat := 0
  /-- is an error handled here -/
  hot : Bool := false
  /-- defs that are called where an error is handled -/
  hots : List Nat := []
/-- an exception of the class c with the fields fs -/
def RelX (K : Frag) (mg : Str → Option Value) (T : Tb) (c : Nat) (fs : List M.D) (cls : Value) (d : Option Addr) (H : Hp) : Prop :=
  fs = [] ∧ d = none ∧ c < T.nr ∧ ∃ x C, T.cls[c]? = some x ∧ mg x = some (.ref C) ∧ cls = .ref C
/-! ### the readings -/
structure Cn where
  K : Frag
  mg : Str → Option Value
  T : Tb
  G : M.Gm
/-- where an error is handled -/
abbrev Cn.h (c : Cn) : Cn := { c with T := { c.T with hot := true } }
/-- wished of a value -/
def OkV (K : Frag) (S : M.Sto) (H : Hp) (Qd : M.VK) (Q : VK) : Prop := ∀ d S' v H', Fr S H S' H' → RelS K H' S' → RelD K H' d v → Qd d S' → Q v H'
def OkX (c : Cn) (S : M.Sto) (H : Hp) (Xd : M.XK) (W : Value → Option Addr → Hp → Prop) : Prop := ∀ k fs S' H' cls d, Fr S H S' H' → RelS c.K H' S' → RelX c.K c.mg c.T k fs cls d H' → Xd k fs S' → W cls d H'
def tE (c : Cn) (W : WX) (e : M.Ex) : TE := fun σ H Q => ∃ ρ S Qd Xd, ρ.length = σ.length ∧ RelE c.K H ρ σ ∧ RelS c.K H S ∧ M.wpE c.G e ρ S Qd Xd ∧ OkV c.K S H Qd Q ∧ OkX c S H Xd fun cls d H' => W cls d σ H'
def OkL (K : Frag) (S : M.Sto) (H : Hp) (Qd : List M.D → M.Sto → Prop) (Q : List V → Hp → Prop) : Prop := ∀ ds S' vs H', Fr S H S' H' → RelS K H' S' → RelDs K H' ds vs → Qd ds S' → Q vs H'
def tEs (c : Cn) (W : WX) (es : M.Es) : TA := fun σ H Q => ∃ ρ S Qd Xd, ρ.length = σ.length ∧ RelE c.K H ρ σ ∧ RelS c.K H S ∧ M.wpEs c.G es ρ S Qd Xd ∧ OkL c.K S H Qd Q ∧ OkX c S H Xd fun cls d H' => W cls d σ H'
/-- a def's promise -/
def lift (c : Cn) (sp : M.Sp) : L2.Sp := fun vs H Q E => ∃ ds S Qd Xd, RelDs c.K H ds vs ∧ RelS c.K H S ∧ sp ds S Qd Xd ∧ OkV c.K S H Qd Q ∧ OkX c S H Xd E
section
variable {K : Frag} {S S' : M.Sto} {H H' : Hp}
theorem OkV.after {Qd : M.VK} {Q : VK} (h : OkV K S H Qd Q) (f : Fr S H S' H') : OkV K S' H' Qd Q := fun d S2 v H2 f2 r2 rd q => h d S2 v H2 (f.trans f2) r2 rd q
theorem OkL.after {Qd : List M.D → M.Sto → Prop} {Q : List V → Hp → Prop} (h : OkL K S H Qd Q) (f : Fr S H S' H') : OkL K S' H' Qd Q := fun d S2 v H2 f2 r2 rd q => h d S2 v H2 (f.trans f2) r2 rd q
theorem OkX.after {c : Cn} {Xd : M.XK} {W : Value → Option Addr → Hp → Prop} (h : OkX c S H Xd W) (f : Fr S H S' H') : OkX c S' H' Xd W := fun k fs S2 H2 cls d f2 r2 rx q => h k fs S2 H2 cls d (f.trans f2) r2 rx q
end
theorem PE.imp {X : Cx} {e : Expr} {t t' : TE} (h : PE X e t) (i : ∀ σ H Q, t' σ H Q → t σ H Q) : PE X e t' := ⟨fun pins s σ H Q I q => h.run pins s σ H Q I (i σ H Q q)⟩
theorem PT.imp {X : Cx} {e : Expr} {t t' : TT} (h : PT X e t) (i : ∀ σ H Q, t' σ H Q → t σ H Q) : PT X e t' := ⟨fun pins s σ H Q I q => h.run pins s σ H Q I (i σ H Q q)⟩
theorem PA.imp {X : Cx} {e : List Expr} {t t' : TA} (h : PA X e t) (i : ∀ σ H Q, t' σ H Q → t σ H Q) : PA X e t' := ⟨fun pos pins s σ H Q I q => h.run pos pins s σ H Q I (i σ H Q q)⟩
end Snd
namespace Snd
open PySem PySem.Spec PyProof.Rows L2
/-! ### the heap grows -/
section
variable {K : Frag} {S : M.Sto} {H : Hp} {p : Addr} {o : HO}
theorem Fr.laid (hp : H p = none) : Fr S H S (L2.upd H p o) := fun a ob h n => ⟨by rw [L2.upd_ne (ne_of_none h hp)]; exact h, n⟩
theorem mupd_same {S : M.Sto} {a : Nat} {o : M.O} : M.upd S a o a = some o := by unfold M.upd; rw [if_pos rfl]
theorem mupd_ne {S : M.Sto} {a b : Nat} {o : M.O} (h : b ≠ a) : M.upd S a o b = S b := by unfold M.upd; rw [if_neg h]
theorem Fr.laidS {mo : M.O} (hp : H p = none) : Fr S H (M.upd S p mo) (L2.upd H p o) := fun a ob h n =>
  have ne := ne_of_none h hp
  ⟨by rw [L2.upd_ne ne]; exact h, by rw [mupd_ne ne]; exact n⟩
theorem RelO.mono {S' : M.Sto} {H' : Hp} (r : RelS K H S) (f : Fr S H S' H') {a : Addr} {mo : M.O} (h : RelO K H a mo) (k : ∀ ob, H a = some ob → H' a = some ob) : RelO K H' a mo := by
  cases mo with
  | lst ds => obtain ⟨vs, h1, h2⟩ := h; exact ⟨vs, k _ h1, h2.mono r f⟩
  | dic => exact k _ h
  | dct kvs => obtain ⟨vs, h1, h2⟩ := h; exact ⟨vs, k _ h1, h2.mono r f⟩
theorem RelS.there (r : RelS K H S) {a : Addr} {mo : M.O} (h : S a = some mo) : ∃ ob, H a = some ob := by
  have q := r a mo h
  cases mo with
  | lst ds => obtain ⟨vs, h1, _⟩ := q; exact ⟨_, h1⟩
  | dic => exact ⟨_, q⟩
  | dct kvs => obtain ⟨vs, h1, _⟩ := q; exact ⟨_, h1⟩
theorem RelS.laid (r : RelS K H S) (hp : H p = Option.none) : RelS K (L2.upd H p o) S := fun a mo h => by
  obtain ⟨ob, hb⟩ := r.there h
  exact (r a mo h).mono r (Fr.laid hp) fun ob h1 => by rw [L2.upd_ne (ne_of_none h1 hp)]; exact h1
theorem RelS.lst (r : RelS K H S) (hp : H p = Option.none) {ds : List M.D} {vs : List V} (h : RelDs K H ds vs) : RelS K (L2.upd H p (.lst vs)) (M.upd S p (.lst ds)) := fun a mo e => by
  have f : Fr S H (M.upd S p (.lst ds)) (L2.upd H p (.lst vs)) := Fr.laidS hp
  by_cases ha : a = p
  · subst ha
    rw [mupd_same] at e
    cases e
    exact ⟨vs, L2.upd_same, h.mono r f⟩
  · rw [mupd_ne ha] at e
    exact (r a mo e).mono r f fun ob h1 => by rw [L2.upd_ne ha]; exact h1
theorem RelS.dic (r : RelS K H S) (hp : H p = Option.none) : RelS K (L2.upd H p (.dK [])) (M.upd S p .dic) := fun a mo e => by
  have f : Fr S H (M.upd S p .dic) (L2.upd H p (.dK [])) := Fr.laidS hp
  by_cases ha : a = p
  · subst ha
    rw [mupd_same] at e
    cases e
    exact L2.upd_same
  · rw [mupd_ne ha] at e
    exact (r a mo e).mono r f fun ob h1 => by rw [L2.upd_ne ha]; exact h1
theorem RelS.dct (r : RelS K H S) (hp : H p = Option.none) {ks : List M.Tx} {ds : List M.D} {vs : List V} (hl : ds.length = ks.length) (h : RelDs K H ds vs) : RelS K (L2.upd H p (.dK ((ks.map fun k => (Sum.inr (stx k) : Key)).zip vs))) (M.upd S p (.dct (ks.zip ds))) := fun a mo e => by
  have f : Fr S H (M.upd S p (.dct (ks.zip ds))) (L2.upd H p (.dK ((ks.map fun k => (Sum.inr (stx k) : Key)).zip vs))) := Fr.laidS hp
  by_cases ha : a = p
  · subst ha
    rw [mupd_same] at e
    cases e
    have e1 : ((ks.zip ds).map fun p => (Sum.inr (stx p.1) : Key)) = ks.map fun k => (Sum.inr (stx k) : Key) := by
      have : ((ks.zip ds).map fun p => (Sum.inr (stx p.1) : Key)) = ((ks.zip ds).map (·.1)).map fun k => (Sum.inr (stx k) : Key) := by rw [List.map_map]; rfl
      rw [this, List.map_fst_zip (by omega)]
    have e2 : (ks.zip ds).map (·.2) = ds := List.map_snd_zip (by omega)
    exact ⟨vs, by rw [e1]; exact L2.upd_same, by rw [e2]; exact h.mono r f⟩
  · rw [mupd_ne ha] at e
    exact (r a mo e).mono r f fun ob h1 => by rw [L2.upd_ne ha]; exact h1
/-- a list of the store is written -/
theorem Fr.wr {xs : List M.D} {a : Addr} {mo : M.O} (h : S a = some (.lst xs)) : Fr S H (M.upd S a mo) (L2.upd H a o) := fun b ob hb n => by
  have ne : b ≠ a := fun z => by rw [z, h] at n; cases n
  exact ⟨by rw [L2.upd_ne ne]; exact hb, by rw [mupd_ne ne]; exact n⟩
theorem RelS.wr (r : RelS K H S) {xs ds : List M.D} {vs : List V} {a : Addr} (h : S a = some (.lst xs)) (hd : RelDs K H ds vs) : RelS K (L2.upd H a (.lst vs)) (M.upd S a (.lst ds)) := fun b mo e => by
  have f : Fr S H (M.upd S a (.lst ds)) (L2.upd H a (.lst vs)) := Fr.wr h
  by_cases hb : b = a
  · subst hb
    rw [mupd_same] at e
    cases e
    exact ⟨vs, L2.upd_same, hd.mono r f⟩
  · rw [mupd_ne hb] at e
    exact (r b mo e).mono r f fun ob h1 => by rw [L2.upd_ne hb]; exact h1
end
section
variable {K : Frag} {S : M.Sto} {H : Hp} {Qd : M.VK} {Q : VK}
theorem OkV.same (h : OkV K S H Qd Q) (r : RelS K H S) {d : M.D} {v : V} (rd : RelD K H d v) (q : Qd d S) : Q v H := h d S v H Fr.refl r rd q
/-- a new tuple -/
theorem OkV.newT (h : OkV K S H Qd Q) (r : RelS K H S) {ds : List M.D} {vs : List V} (rd : RelDs K H ds vs) (q : Qd (.tup ds) S) : ∀ p, H p = none → Q (.ref p) (L2.upd H p (.tup vs)) := fun p hp =>
  h _ _ _ _ (Fr.laid hp) (r.laid hp) (.tup (SqT.of L2.upd_same) (rd.mono r (Fr.laid hp))) q
/-- a new list -/
theorem OkV.newL (h : OkV K S H Qd Q) (r : RelS K H S) {ds : List M.D} {vs : List V} (rd : RelDs K H ds vs) (q : ∀ p, S p = none → Qd (.ref p) (M.upd S p (.lst ds))) : ∀ p, H p = none → Q (.ref p) (L2.upd H p (.lst vs)) := fun p hp =>
  h _ _ _ _ (Fr.laidS hp) (r.lst hp rd) (.ref p) (q p (r.none hp))
end
theorem stx_len (x : M.Tx) : (stx x).length = x.length := by
  show x.toArray.size = _
  simp
theorem stx_app (x y : M.Tx) : stx x ++ stx y = stx (x ++ y) := by
  show Str.append _ _ = _
  unfold Str.append stx
  simp
theorem stx_cps (x : M.Tx) : (stx x).cps.toList = x := by unfold stx; simp
theorem stx_inj {x y : M.Tx} : stx x = stx y ↔ x = y := by
  constructor
  · intro h
    have := congrArg (fun z : Str => z.cps.toList) h
    simpa [stx] using this
  · rintro rfl; rfl
theorem lim_eq : M.lim = sizeLine := by rw [sizeLine_eq]; rfl
theorem log_lt {x n : Nat} (h0 : 0 < n) (h : x < 2 ^ n) : x.log2 < n := by
  by_cases h1 : x = 0
  · subst h1
    rw [Nat.log2_zero]
    exact h0
  · exact (Nat.log2_lt h1).mpr h
theorem sm_log {i : Int} (h : M.sm i) : i.natAbs.log2 < 4000 := by
  unfold M.sm M.big at h
  exact log_lt (Nat.succ_pos _) h
theorem smd_log {i : Int} (h : M.smd i) : i.natAbs.log2 < 8500 := by
  unfold M.smd M.bigd at h
  exact log_lt (Nat.succ_pos _) h
theorem opt_of {α : Type} {o : Option α} {P : α → Prop} (h : M.opt o P) : ∃ a, o = some a ∧ P a := by
  cases o with
  | none => exact False.elim h
  | some a => exact ⟨a, rfl, h⟩
theorem onI_of {d : M.D} {P : Int → Prop} (h : M.onI d P) : ∃ i, d = .int i ∧ P i := by
  cases d with
  | int i => exact ⟨i, rfl, h⟩
  | _ => exact False.elim h
theorem onB_of {d : M.D} {P : Bool → Prop} (h : M.onB d P) : ∃ i, d = .bl i ∧ P i := by
  cases d with
  | bl i => exact ⟨i, rfl, h⟩
  | _ => exact False.elim h
theorem onR_of {d : M.D} {P : Nat → Prop} (h : M.onR d P) : ∃ i, d = .ref i ∧ P i := by
  cases d with
  | ref i => exact ⟨i, rfl, h⟩
  | _ => exact False.elim h
theorem lstAt_some {S : M.Sto} {a : Nat} {xs : List M.D} (h : M.lstAt S a = some xs) : S a = some (.lst xs) := by
  unfold M.lstAt at h
  cases e : S a with
  | none => rw [e] at h; cases h
  | some o =>
    rw [e] at h
    cases o with
    | dic => cases h
    | dct kvs => cases h
    | lst ys => cases h; rfl
theorem lstAt_of {S : M.Sto} {a : Nat} {xs : List M.D} (h : S a = some (.lst xs)) : M.lstAt S a = some xs := by
  unfold M.lstAt
  rw [h] <;> rfl
theorem RelS.at {K : Frag} {H : Hp} {S : M.Sto} (r : RelS K H S) {a : Nat} {xs : List M.D} (h : M.lstAt S a = some xs) : ∃ vs, H a = some (.lst vs) ∧ RelDs K H xs vs := r a _ (lstAt_some h)
/-- a list, by value or of the store, to be read -/
theorem lsOf_rel {K : Frag} {H : Hp} {S : M.Sto} (r : RelS K H S) {d : M.D} {v : V} {xs : List M.D} (rd : RelD K H d v) (h : M.lsOf S d = some xs) : ∃ a vs, v = .ref a ∧ SqL K H a vs ∧ RelDs K H xs vs := by
  cases rd with
  | ref a => obtain ⟨vs, h1, h2⟩ := r.at h; exact ⟨a, vs, rfl, SqL.of h1, h2⟩
  | fl h1 h2 => cases h; exact ⟨_, _, rfl, h1.sq, h2⟩
  | _ => cases h
theorem sqOf_rel {K : Frag} {H : Hp} {S : M.Sto} (r : RelS K H S) {d : M.D} {v : V} {xs : List M.D} (rd : RelD K H d v) (h : M.sqOf S d = some xs) : ∃ a vs, v = .ref a ∧ (SqL K H a vs ∨ SqT K H a vs) ∧ RelDs K H xs vs := by
  cases rd with
  | ref a => obtain ⟨vs, h1, h2⟩ := r.at h; exact ⟨a, vs, rfl, .inl (SqL.of h1), h2⟩
  | fl h1 h2 => cases h; exact ⟨_, _, rfl, .inl h1.sq, h2⟩
  | tup h1 h2 => cases h; exact ⟨_, _, rfl, .inr h1, h2⟩
  | _ => cases h
/-! ### two-place operators -/
def rB (K : Frag) (o : M.Bo) : R2 := fun v u H Q => ∃ x y S Qd, RelS K H S ∧ RelD K H x v ∧ RelD K H y u ∧ M.binD o x y S Qd ∧ OkV K S H Qd Q
def boOk : M.Bo → Operator → Bool
  | .add, .Add => true | .sub, .Sub => true | .mul, .Mult => true | .fdiv, .FloorDiv => true | .mod, .Mod => true | .pow, .Pow => true
  | _, _ => false
section
variable {X : Cx}
theorem ob_add : OpR X (binaryOp .Add) (rB X.K .add) := by
  intro pins s σ H v u vv uu Q I rv ru h
  obtain ⟨x, y, S, Qd, r, rx, ry, w, hq⟩ := h
  cases rx with
  | int i =>
    cases ry with
    | int j => exact op_add pins s σ H _ _ vv uu Q I rv ru ⟨i, j, rfl, rfl, hq.same r (.int _) w⟩
    | _ => exact False.elim w
  | str a =>
    cases ry with
    | str b =>
      obtain ⟨hz, w⟩ := w
      exact op_add_str pins s σ H _ _ vv uu Q I rv ru ⟨_, _, rfl, rfl, by rw [stx_len, stx_len, ← lim_eq]; exact hz, by rw [stx_app]; exact hq.same r (.str _) w⟩
    | _ => exact False.elim w
  | tup hs hd =>
    cases ry with
    | tup hs2 hd2 =>
      obtain ⟨hz, w⟩ := w
      refine op_catA pins s σ H _ _ vv uu Q I rv ru ⟨_, _, _, _, rfl, rfl, hs, hs2, by rw [← hd.length, ← hd2.length, ← lim_eq]; exact hz, fun e => ?_, fun _ e => ?_, fun _ _ => hq.newT r (hd.append hd2) w⟩
      · subst e
        cases hd
        exact hq.same r (.tup hs2 hd2) w
      · subst e
        cases hd2
        rw [List.append_nil] at w
        exact hq.same r (.tup hs hd) w
    | _ => exact False.elim w
  | ref a =>
    cases ry with
    | ref b =>
      obtain ⟨xs, e1, w⟩ := opt_of w
      obtain ⟨ys, e2, hz, w⟩ := opt_of w
      obtain ⟨vs, h1, d1⟩ := r.at e1
      obtain ⟨us, h2, d2⟩ := r.at e2
      refine op_cat pins s σ H _ _ vv uu Q I rv ru ⟨a, b, vs, us, rfl, rfl, h1, h2, ?_, hq.newL r (d1.append d2) w⟩
      rw [← d1.length, ← d2.length, ← lim_eq, ← List.length_append]
      exact hz
    | _ => exact False.elim w
  | _ => exact False.elim w
theorem ob_sub : OpR X (binaryOp .Sub) (rB X.K .sub) := by
  intro pins s σ H v u vv uu Q I rv ru h
  obtain ⟨x, y, S, Qd, r, rx, ry, w, hq⟩ := h
  obtain ⟨i, rfl, w⟩ := onI_of w
  obtain ⟨j, rfl, w⟩ := onI_of w
  cases rx
  cases ry
  exact op_sub pins s σ H _ _ vv uu Q I rv ru ⟨i, j, rfl, rfl, hq.same r (.int _) w⟩
theorem ob_mul : OpR X (binaryOp .Mult) (rB X.K .mul) := by
  intro pins s σ H v u vv uu Q I rv ru h
  obtain ⟨x, y, S, Qd, r, rx, ry, w, hq⟩ := h
  cases rx with
  | int i =>
    cases ry with
    | int j =>
      obtain ⟨s1, s2, w⟩ := w
      have l1 := sm_log s1
      have l2 := sm_log s2
      exact op_mulW pins s σ H _ _ vv uu Q I rv ru ⟨i, j, rfl, rfl, by show _ + _ < 1000000; omega, hq.same r (.int _) w⟩
    | _ => exact False.elim w
  | ref a =>
    cases ry with
    | int k =>
      obtain ⟨xs, e1, k0, k1, hz, w⟩ := opt_of w
      obtain ⟨vs, h1, d1⟩ := r.at e1
      refine op_rep pins s σ H _ _ vv uu Q I rv ru ⟨a, k, vs, rfl, rfl, h1, by omega, by omega, ?_, hq.newL r (d1.rep _) w⟩
      rw [List.length_flatten, List.map_replicate, List.sum_replicate_nat] at hz
      rw [← d1.length, ← lim_eq, Nat.mul_comm]
      exact hz
    | _ => exact False.elim w
  | _ => exact False.elim w
theorem ob_fdiv : OpR X (binaryOp .FloorDiv) (rB X.K .fdiv) := by
  intro pins s σ H v u vv uu Q I rv ru h
  obtain ⟨x, y, S, Qd, r, rx, ry, w, hq⟩ := h
  obtain ⟨i, rfl, w⟩ := onI_of w
  obtain ⟨j, rfl, w⟩ := onI_of w
  cases rx
  cases ry
  obtain ⟨s1, s2, w⟩ := w
  obtain ⟨t, rfl⟩ := rv
  obtain ⟨t', rfl⟩ := ru
  have l2 := smd_log s2
  exact floordiv_int s1 ⟨.int (i.fdiv j), H, I.tok _, ⟨_, rfl⟩, hq.same r (.int _) w⟩ (.inl (PyProof.noPylong_of_log2 (by omega)))
theorem ob_mod : OpR X (binaryOp .Mod) (rB X.K .mod) := by
  intro pins s σ H v u vv uu Q I rv ru h
  obtain ⟨x, y, S, Qd, r, rx, ry, w, hq⟩ := h
  obtain ⟨i, rfl, w⟩ := onI_of w
  obtain ⟨j, rfl, w⟩ := onI_of w
  cases rx
  cases ry
  obtain ⟨s1, w⟩ := w
  exact op_modN pins s σ H _ _ vv uu Q I rv ru ⟨i, j, rfl, rfl, s1, hq.same r (.int _) w⟩
theorem ob_pow : OpR X (binaryOp .Pow) (rB X.K .pow) := by
  intro pins s σ H v u vv uu Q I rv ru h
  obtain ⟨x, y, S, Qd, r, rx, ry, w, hq⟩ := h
  obtain ⟨i, rfl, w⟩ := onI_of w
  obtain ⟨j, rfl, w⟩ := onI_of w
  cases rx
  cases ry
  obtain ⟨s1, s2, s3, w⟩ := w
  obtain ⟨t, rfl⟩ := rv
  obtain ⟨t', rfl⟩ := ru
  have l1 := sm_log s1
  have b : (Builtin.Int.intBits i : Int) ≤ 4001 := by
    unfold Builtin.Int.intBits
    split <;> omega
  refine PyProof.Rows.pow_int s2 ?_ ⟨.int (i ^ j.toNat), H, I.tok _, ⟨_, rfl⟩, hq.same r (.int _) w⟩
  have : (Builtin.Int.intBits i : Int) * j ≤ 4001 * 1000 := by
    refine Int.le_trans (Int.mul_le_mul_of_nonneg_right b s2) ?_
    omega
  omega
theorem ob_all : ∀ {o : M.Bo} {p : Operator} (h : boOk o p = true), OpR X (binaryOp p) (rB X.K o)
  | .add, .Add, _ => ob_add
  | .sub, .Sub, _ => ob_sub
  | .mul, .Mult, _ => ob_mul
  | .fdiv, .FloorDiv, _ => ob_fdiv
  | .mod, .Mod, _ => ob_mod
  | .pow, .Pow, _ => ob_pow
end
end Snd
namespace Snd
open PySem PySem.Spec PyProof.Rows L2
/-! ### == of data -/
def toP : Nat → M.Sto → M.D → PyData
  | 0, _, _ => .none
  | n + 1, S, d => (match d with
    | .non => .none
    | .bl b => .bool b
    | .int i => .int i
    | .str x => .str (stx x)
    | .tup xs => .tuple (xs.map (toP n S))
    | .fl xs => .list (xs.map (toP n S))
    | .ref a => .list (((M.lstAt S a).getD []).map (toP n S))
    | .xn _ _ => .none)
theorem optB_of {α : Type} {o : Option α} {P : α → Bool} (h : M.optB o P = true) : ∃ a, o = some a ∧ P a = true := by
  cases o with
  | none => cases h
  | some a => exact ⟨a, rfl, h⟩
theorem depthAll_le {n : Nat} {f : M.D → PyData} (h : ∀ d, (f d).depth ≤ n) : ∀ xs : List M.D, PyData.depthAll (xs.map f) ≤ n
  | [] => Nat.zero_le _
  | x :: xs => by
    rw [List.map_cons]
    unfold PyData.depthAll
    exact Nat.max_le.mpr ⟨h x, depthAll_le h xs⟩
theorem toP_depth : ∀ (n : Nat) (S : M.Sto) (d : M.D), (toP n S d).depth ≤ n
  | 0, _, _ => by simp [toP, PyData.depth]
  | n + 1, S, d => by
    unfold toP
    have ih := toP_depth n S
    cases d with
    | tup xs => simp only [PyData.depth]; have := depthAll_le ih xs; omega
    | fl xs => simp only [PyData.depth]; have := depthAll_le ih xs; omega
    | ref a => simp only [PyData.depth]; have := depthAll_le ih ((M.lstAt S a).getD []); omega
    | _ => simp [PyData.depth]
theorem canAll {f : M.D → PyData} {ok : M.D → Bool} (h : ∀ d, ok d = true → (f d).canLay0 = true) : ∀ {xs : List M.D}, M.fitL ok xs = true → PyData.canLayAll0 (xs.map f) = true
  | [], _ => by simp [PyData.canLayAll0]
  | x :: xs, e => by
    unfold M.fitL at e
    obtain ⟨e1, e2⟩ := Bool.and_eq_true_iff.mp e
    rw [List.map_cons]
    unfold PyData.canLayAll0
    rw [h x e1, canAll h e2]
    rfl
theorem fit_lay : ∀ {n : Nat} {S : M.Sto} {d : M.D}, M.fit n S d = true → (toP n S d).canLay0 = true
  | 0, _, _, h => by simp [M.fit] at h
  | n + 1, S, d, h => by
    unfold M.fit at h
    unfold toP
    have ih : ∀ d, M.fit n S d = true → (toP n S d).canLay0 = true := fun d => fit_lay
    cases d with
    | tup xs => simp only [PyData.canLay0]; exact canAll ih h
    | fl xs => simp only [PyData.canLay0]; exact canAll ih h
    | ref a =>
      obtain ⟨xs, e, h⟩ := optB_of h
      simp only [PyData.canLay0, e, Option.getD_some]; exact canAll ih h
    | str x =>
      simp only [PyData.canLay0, PyData.strOk, stx]
      simpa using h
    | xn c fs => cases h
    | _ => simp [PyData.canLay0]
section
variable {K : Frag} {H : Hp} {S : M.Sto}
theorem dpAll {f : M.D → PyData} {ok : M.D → Bool} (h : ∀ d v, ok d = true → RelD K H d v → Dp K H v (f d)) : ∀ {xs : List M.D} {vs : List V}, M.fitL ok xs = true → RelDs K H xs vs → DpAll K H vs (xs.map f)
  | [], _, _, .nil => .nil
  | x :: xs, _, e, .cons a b => by
    unfold M.fitL at e
    obtain ⟨e1, e2⟩ := Bool.and_eq_true_iff.mp e
    exact .cons (h x _ e1 a) (dpAll h e2 b)
theorem fit_dp (r : RelS K H S) : ∀ {n : Nat} {d : M.D} {v : V}, M.fit n S d = true → RelD K H d v → Dp K H v (toP n S d)
  | 0, _, _, h, _ => by simp [M.fit] at h
  | n + 1, d, v, h, rd => by
    unfold M.fit at h
    unfold toP
    have ih : ∀ d v, M.fit n S d = true → RelD K H d v → Dp K H v (toP n S d) := fun d v => fit_dp r
    cases rd with
    | non => exact .non
    | bl b => exact .bl b
    | int i => exact .int i
    | str x => exact .str _
    | tup hs hd => exact .tup hs (dpAll ih h hd)
    | fl hs hd => exact .lst hs.sq (dpAll ih h hd)
    | ref a =>
      obtain ⟨xs, e, h⟩ := optB_of h
      obtain ⟨vs, h1, h2⟩ := r.at e
      simp only [e, Option.getD_some]
      exact .lst (SqL.of h1) (dpAll ih h h2)
    | xn _ => cases h
theorem eqLB_ok {f : M.D → PyData} {ok : M.D → Bool} {eq : M.D → M.D → Bool} (h : ∀ x y, ok x = true → ok y = true → eq x y = PyData.eqv (f x) (f y)) :
    ∀ xs ys : List M.D, M.fitL ok xs = true → M.fitL ok ys = true → M.eqLB eq xs ys = PyData.eqvAll (xs.map f) (ys.map f)
  | [], [], _, _ => by simp [M.eqLB, PyData.eqvAll]
  | [], _ :: _, _, _ => by simp [M.eqLB, PyData.eqvAll]
  | _ :: _, [], _, _ => by simp [M.eqLB, PyData.eqvAll]
  | x :: xs, y :: ys, h1, h2 => by
    unfold M.fitL at h1 h2
    obtain ⟨a1, a2⟩ := Bool.and_eq_true_iff.mp h1
    obtain ⟨b1, b2⟩ := Bool.and_eq_true_iff.mp h2
    simp only [M.eqLB, List.map_cons, PyData.eqvAll, h x y a1 b1, eqLB_ok h xs ys a2 b2]
theorem stx_beq (x y : M.Tx) : (stx x == stx y) = (x == y) := by
  rw [Bool.eq_iff_iff]
  simp [stx_inj]
/-- a list of the store reads like one by value -/
theorem ref_fl {n : Nat} {a : Nat} {xs : List M.D} (e : M.lstAt S a = some xs) : toP (n + 1) S (.ref a) = toP (n + 1) S (.fl xs) ∧ M.fit (n + 1) S (.ref a) = M.fit (n + 1) S (.fl xs) ∧ (∀ y, M.eqB (n + 1) S (.ref a) y = M.eqB (n + 1) S (.fl xs) y) ∧ ∀ y, M.eqB (n + 1) S y (.ref a) = M.eqB (n + 1) S y (.fl xs) := by
  refine ⟨?_, ?_, fun y => ?_, fun y => ?_⟩
  · show PyData.list (((M.lstAt S a).getD []).map (toP n S)) = PyData.list (xs.map (toP n S))
    rw [e] <;> rfl
  · show M.optB (M.lstAt S a) (M.fitL (M.fit n S)) = M.fitL (M.fit n S) xs
    rw [e] <;> rfl
  · have q : M.eqO (M.eqLB (M.eqB n S)) (M.lstAt S a) (M.lsOf S y) = M.eqO (M.eqLB (M.eqB n S)) (some xs) (M.lsOf S y) := by rw [e]
    cases y <;> exact q
  · cases y <;> first
      | rfl
      | (rename_i b; exact (show M.eqO (M.eqLB (M.eqB n S)) (M.lstAt S b) (M.lstAt S a) = M.eqO (M.eqLB (M.eqB n S)) (M.lstAt S b) (some xs) by rw [e]))
      | (rename_i ys; exact (show M.eqO (M.eqLB (M.eqB n S)) (some ys) (M.lstAt S a) = M.eqO (M.eqLB (M.eqB n S)) (some ys) (some xs) by rw [e]))
theorem fit_ref {n : Nat} {a : Nat} (h : M.fit (n + 1) S (.ref a) = true) : ∃ xs, M.lstAt S a = some xs := let ⟨xs, e, _⟩ := optB_of h; ⟨xs, e⟩
theorem eqv_tl {xs ys : List PyData} : PyData.eqv (.tuple xs) (.list ys) = false ∧ PyData.eqv (.list xs) (.tuple ys) = false := by
  constructor <;> simp [PyData.eqv]
theorem eqB_ok (S : M.Sto) (n : Nat) : ∀ (x y : M.D), M.fit n S x = true → M.fit n S y = true → M.eqB n S x y = PyData.eqv (toP n S x) (toP n S y) := by
  induction n with
  | zero => intro _ _ h _; simp [M.fit] at h
  | succ n ih =>
    have main : ∀ (x y : M.D), (∀ a, x ≠ .ref a) → (∀ a, y ≠ .ref a) → M.fit (n + 1) S x = true → M.fit (n + 1) S y = true → M.eqB (n + 1) S x y = PyData.eqv (toP (n + 1) S x) (toP (n + 1) S y) := by
      intro x y nx ny h1 h2
      cases x <;> cases y <;> first
        | exact absurd rfl (nx _)
        | exact absurd rfl (ny _)
        | exact absurd (show false = true from h1) Bool.false_ne_true
        | exact absurd (show false = true from h2) Bool.false_ne_true
        | (show M.eqLB (M.eqB n S) _ _ = PyData.eqv (.tuple _) (.tuple _); rw [PyData.eqv]; exact eqLB_ok ih _ _ h1 h2)
        | (show M.eqLB (M.eqB n S) _ _ = PyData.eqv (.list _) (.list _); rw [PyData.eqv]; exact eqLB_ok ih _ _ h1 h2)
        | (show (_ == _) = PyData.eqv (.str _) (.str _); rw [PyData.eqv, stx_beq])
        | (show _ = PyData.eqv _ _; unfold toP; simp only [PyData.eqv]; rfl)
    have m2 : ∀ (x y : M.D), (∀ a, x ≠ .ref a) → M.fit (n + 1) S x = true → M.fit (n + 1) S y = true → M.eqB (n + 1) S x y = PyData.eqv (toP (n + 1) S x) (toP (n + 1) S y) := by
      intro x y nx h1 h2
      by_cases hy : ∃ a, y = .ref a
      · obtain ⟨a, rfl⟩ := hy
        obtain ⟨xs, e⟩ := fit_ref h2
        obtain ⟨e1, e2, _, e4⟩ := ref_fl (n := n) e
        rw [e1, e4]
        exact main _ _ nx (fun _ z => nomatch z) h1 (by rw [← e2]; exact h2)
      · exact main _ _ nx (fun a z => hy ⟨a, z⟩) h1 h2
    intro x y h1 h2
    by_cases hx : ∃ a, x = .ref a
    · obtain ⟨a, rfl⟩ := hx
      obtain ⟨xs, e⟩ := fit_ref h1
      obtain ⟨e1, e2, e3, _⟩ := ref_fl (n := n) e
      rw [e1, e3]
      exact m2 _ _ (fun _ z => nomatch z) (by rw [← e2]; exact h1) h2
    · exact m2 _ _ (fun a z => hx ⟨a, z⟩) h1 h2
theorem shaped_of {n : Nat} {d : M.D} (hn : n ≤ 32) (h : M.fit n S d = true) : SeqAt.shaped (toP n S d) = true := by
  unfold SeqAt.shaped
  rw [fit_lay h]
  have := toP_depth n S d
  simp only [Bool.true_and, decide_eq_true_eq]
  omega
end
end Snd
namespace Snd
open PySem PySem.Spec PyProof.Rows L2
/-! ### comparisons -/
def coOk : M.Co → CmpOp → Bool
  | .eq, .Eq => true | .ne, .NotEq => true | .lt, .Lt => true | .le, .LtE => true | .gt, .Gt => true | .ge, .GtE => true
  | .is_, .Is => true | .isn, .IsNot => true | .in_, .In => true | .nin, .NotIn => true
  | _, _ => false
def rCm (K : Frag) (o : M.Co) : R2 := fun v u H Q => ∃ x y S P, RelS K H S ∧ RelD K H x v ∧ RelD K H y u ∧ M.cmpD o x y S P ∧ ∀ b, P b → Q (.bl b) H
section
variable {X : Cx}
theorem oc_lt : OpR X (compareOp .Lt) (rCm X.K .lt) := by
  intro pins s σ H v u vv uu Q I rv ru h
  obtain ⟨x, y, S, P, r, rx, ry, w, hq⟩ := h
  obtain ⟨i, rfl, w⟩ := onI_of w
  obtain ⟨j, rfl, w⟩ := onI_of w
  cases rx
  cases ry
  exact op_lt pins s σ H _ _ vv uu Q I rv ru ⟨i, j, rfl, rfl, hq _ w⟩
theorem oc_le : OpR X (compareOp .LtE) (rCm X.K .le) := by
  intro pins s σ H v u vv uu Q I rv ru h
  obtain ⟨x, y, S, P, r, rx, ry, w, hq⟩ := h
  have cs : (∃ a b, x = .str a ∧ y = .str b ∧ P (M.leT a b)) ∨ M.onI x fun i => M.onI y fun j => P (decide (i ≤ j)) := by
    cases x <;> cases y <;> first | exact .inl ⟨_, _, rfl, rfl, w⟩ | exact .inr w
  rcases cs with ⟨a, b, rfl, rfl, w⟩ | w
  · cases rx
    cases ry
    refine op_le_str pins s σ H _ _ vv uu Q I rv ru ⟨_, _, rfl, rfl, ?_⟩
    rw [stx_cps, stx_cps]
    exact hq _ w
  obtain ⟨i, ei, w2⟩ := onI_of w
  obtain ⟨j, ej, w3⟩ := onI_of w2
  subst ei ej
  cases rx
  cases ry
  exact op_le pins s σ H _ _ vv uu Q I rv ru ⟨i, j, rfl, rfl, hq _ w3⟩
theorem oc_gt : OpR X (compareOp .Gt) (rCm X.K .gt) := by
  intro pins s σ H v u vv uu Q I rv ru h
  obtain ⟨x, y, S, P, r, rx, ry, w, hq⟩ := h
  obtain ⟨i, rfl, w⟩ := onI_of w
  obtain ⟨j, rfl, w⟩ := onI_of w
  cases rx
  cases ry
  exact op_gt pins s σ H _ _ vv uu Q I rv ru ⟨i, j, rfl, rfl, hq _ w⟩
theorem oc_ge : OpR X (compareOp .GtE) (rCm X.K .ge) := by
  intro pins s σ H v u vv uu Q I rv ru h
  obtain ⟨x, y, S, P, r, rx, ry, w, hq⟩ := h
  obtain ⟨i, rfl, w⟩ := onI_of w
  obtain ⟨j, rfl, w⟩ := onI_of w
  cases rx
  cases ry
  exact op_ge pins s σ H _ _ vv uu Q I rv ru ⟨i, j, rfl, rfl, hq _ w⟩
theorem eq_cases {x y : M.D} {S : M.Sto} {P : Bool → Prop} (w : M.cmpD .eq x y S P) : (∃ a b, x = .str a ∧ y = .str b ∧ P (a == b)) ∨ (M.fit M.dep S x = true ∧ M.fit M.dep S y = true ∧ P (M.eqB M.dep S x y)) := by
  cases x <;> cases y <;> first | exact .inl ⟨_, _, rfl, rfl, w⟩ | exact .inr w
theorem ne_cases {x y : M.D} {S : M.Sto} {P : Bool → Prop} (w : M.cmpD .ne x y S P) : (∃ a b, x = .str a ∧ y = .str b ∧ P (!(a == b))) ∨ (M.fit M.dep S x = true ∧ M.fit M.dep S y = true ∧ P (!M.eqB M.dep S x y)) := by
  cases x <;> cases y <;> first | exact .inl ⟨_, _, rfl, rfl, w⟩ | exact .inr w
theorem dec_stx {a b : M.Tx} : decide (V.str (stx a) = V.str (stx b)) = (a == b) := by
  by_cases h : a = b
  · subst h; simp
  · have h2 : ¬ V.str (stx a) = V.str (stx b) := fun e => h (stx_inj.mp (V.str.inj e))
    rw [decide_eq_false h2]
    exact (beq_eq_false_iff_ne.mpr h).symm
theorem oc_eq (hu : X.A.units + 64 < cLine) : OpR X (compareOp .Eq) (rCm X.K .eq) := by
  intro pins s σ H v u vv uu Q I rv ru h
  obtain ⟨x, y, S, P, r, rx, ry, w, hq⟩ := h
  rcases eq_cases w with ⟨a, b, rfl, rfl, w⟩ | ⟨f1, f2, w⟩
  · cases rx
    cases ry
    exact op_eq pins s σ H _ _ vv uu Q I rv ru ⟨rfl, by rw [dec_stx]; exact hq _ w⟩
  · refine op_eqD hu pins s σ H _ _ vv uu Q I rv ru ⟨_, _, fit_dp r f1 rx, fit_dp r f2 ry, shaped_of (by decide) f1, shaped_of (by decide) f2, ?_⟩
    rw [← eqB_ok S _ x y f1 f2]
    exact hq _ w
theorem oc_ne (hu : X.A.units + 64 < cLine) : OpR X (compareOp .NotEq) (rCm X.K .ne) := by
  intro pins s σ H v u vv uu Q I rv ru h
  obtain ⟨x, y, S, P, r, rx, ry, w, hq⟩ := h
  rcases ne_cases w with ⟨a, b, rfl, rfl, w⟩ | ⟨f1, f2, w⟩
  · cases rx
    cases ry
    exact op_ne pins s σ H _ _ vv uu Q I rv ru ⟨rfl, by rw [dec_stx]; exact hq _ w⟩
  · refine op_neD hu pins s σ H _ _ vv uu Q I rv ru ⟨_, _, fit_dp r f1 rx, fit_dp r f2 ry, shaped_of (by decide) f1, shaped_of (by decide) f2, ?_⟩
    rw [← eqB_ok S _ x y f1 f2]
    exact hq _ w
theorem is_non {K : Frag} {H : Hp} {x : M.D} {v : V} (r : RelD K H x v) : decide (v = .non) = M.isNon x := by
  cases r <;> simp [M.isNon]
theorem oc_is : OpR X (compareOp .Is) (rCm X.K .is_) := by
  intro pins s σ H v u vv uu Q I rv ru h
  obtain ⟨x, y, S, P, r, rx, ry, w, hq⟩ := h
  cases ry with
  | non => exact op_isN pins s σ H _ _ vv uu Q I rv ru ⟨rfl, by rw [is_non rx]; exact hq _ w⟩
  | bl b =>
    obtain ⟨a, rfl, w⟩ := onB_of w
    cases rx
    exact op_isBl pins s σ H _ _ vv uu Q I rv ru ⟨a, b, rfl, rfl, by have e : (a == b) = decide (a = b) := (by cases a <;> cases b <;> rfl); first | exact hq _ w | (rw [← e]; exact hq _ w)⟩
  | _ => exact False.elim w
theorem oc_isn : OpR X (compareOp .IsNot) (rCm X.K .isn) := by
  intro pins s σ H v u vv uu Q I rv ru h
  obtain ⟨x, y, S, P, r, rx, ry, w, hq⟩ := h
  cases ry with
  | non => exact op_notN pins s σ H _ _ vv uu Q I rv ru ⟨rfl, by rw [is_non rx]; exact hq _ w⟩
  | bl b =>
    obtain ⟨a, rfl, w⟩ := onB_of w
    cases rx
    exact op_notBl pins s σ H _ _ vv uu Q I rv ru ⟨a, b, rfl, rfl, by have e : (a == b) = decide (a = b) := (by cases a <;> cases b <;> rfl); first | exact hq _ w | (rw [← e]; exact hq _ w)⟩
  | _ => exact False.elim w
theorem any_eqB {S : M.Sto} {n : Nat} {x : M.D} (fx : M.fit n S x = true) : ∀ {ys : List M.D}, M.fitL (M.fit n S) ys = true → (ys.any fun y => M.eqB n S y x) = ((ys.map (toP n S)).any fun z => PyData.eqv z (toP n S x))
  | [], _ => rfl
  | y :: ys, h => by
    unfold M.fitL at h
    obtain ⟨h1, h2⟩ := Bool.and_eq_true_iff.mp h
    rw [List.any_cons, List.map_cons, List.any_cons, any_eqB fx h2, eqB_ok S n y x h1 fx]
theorem room_in {A : Around} {n : Nat} {S : M.Sto} {x : M.D} {ys : List PyData} (hn : n ≤ 32) (hu : A.units + 64 < cLine) : A.units + 1 + min (PyData.depthAll ys) (toP n S x).depth < cLine := by
  have h1 := toP_depth n S x
  have h2 : min (PyData.depthAll ys) (toP n S x).depth ≤ (toP n S x).depth := Nat.min_le_right _ _
  omega
theorem onC_of {d : M.D} {P : Nat → Prop} (h : M.onC d P) : ∃ c, d = .str [c] ∧ P c := by
  cases d with
  | str a =>
    match a, h with
    | [c], h => exact ⟨c, rfl, h⟩
  | _ => exact False.elim h
theorem oc_in (hu : X.A.units + 64 < cLine) : OpR X (compareOp .In) (rCm X.K .in_) := by
  intro pins s σ H v u vv uu Q I rv ru h
  obtain ⟨x, y, S, P, r, rx, ry, w, hq⟩ := h
  have seq : ∀ ys, M.sqOf S y = some ys → M.fit M.dep S x = true → M.fitL (M.fit M.dep S) ys = true → P (M.inB S x ys) → wpAny (model X.prog X.w) X.A (compareOp .In vv uu) (EP X pins σ Q) X.xe s := by
    intro ys e f1 f2 w
    obtain ⟨a, vs, rfl, hs, hd⟩ := sqOf_rel r ry e
    cases ru
    obtain ⟨as, r1⟩ := Dp.reads I _ v vv (fit_dp r f1 rx) rv
    have dps := dpAll (K := X.K) (H := H) (f := toP M.dep S) (fun d v h1 h2 => fit_dp r h1 h2) f2 hd
    have cl : PyData.canLayAll0 (ys.map (toP M.dep S)) = true := canAll (fun d h => fit_lay h) f2
    have w2 : P ((ys.map (toP M.dep S)).any fun z => PyData.eqv z (toP M.dep S x)) := by rw [← any_eqB f1 f2]; exact w
    rcases hs with hs | hs
    · obtain ⟨bs, r2⟩ := Dp.reads I (.list (ys.map (toP M.dep S))) _ _ (Dp.lst hs dps) rfl
      exact SeqAt.in_list_reads r2 r1 cl (fit_lay f1) (room_in (by decide) hu) ⟨.bl _, H, I, rfl, hq _ w2⟩
    · obtain ⟨bs, r2⟩ := Dp.reads I (.tuple (ys.map (toP M.dep S))) _ _ (Dp.tup hs dps) rfl
      exact SeqAt.in_tuple_reads r2 r1 cl (fit_lay f1) (room_in (by decide) hu) ⟨.bl _, H, I, rfl, hq _ w2⟩
  cases ry with
  | str b =>
    obtain ⟨c, rfl, w⟩ := onC_of w
    cases rx
    refine op_in_sign pins s σ H _ _ vv uu Q I rv ru ⟨c, _, rfl, rfl, ?_⟩
    have e : decide (c ∈ (stx b).cps.toList) = b.contains c := by rw [stx_cps]; simp
    rw [e]
    exact hq _ w
  | ref a => obtain ⟨ys, e, f1, f2, w⟩ := opt_of (show M.opt (M.sqOf S (.ref a)) (fun ys => M.fit M.dep S x = true ∧ M.fitL (M.fit M.dep S) ys = true ∧ P (M.inB S x ys)) from w); exact seq ys e f1 f2 w
  | tup h1 h2 => obtain ⟨ys, e, f1, f2, w⟩ := opt_of (show M.opt (M.sqOf S (.tup _)) (fun ys => M.fit M.dep S x = true ∧ M.fitL (M.fit M.dep S) ys = true ∧ P (M.inB S x ys)) from w); exact seq ys e f1 f2 w
  | fl h1 h2 => obtain ⟨ys, e, f1, f2, w⟩ := opt_of (show M.opt (M.sqOf S (.fl _)) (fun ys => M.fit M.dep S x = true ∧ M.fitL (M.fit M.dep S) ys = true ∧ P (M.inB S x ys)) from w); exact seq ys e f1 f2 w
  | _ => exact False.elim w
theorem oc_nin (hu : X.A.units + 64 < cLine) : OpR X (compareOp .NotIn) (rCm X.K .nin) := by
  intro pins s σ H v u vv uu Q I rv ru h
  obtain ⟨x, y, S, P, r, rx, ry, w, hq⟩ := h
  have seq : ∀ ys, M.sqOf S y = some ys → M.fit M.dep S x = true → M.fitL (M.fit M.dep S) ys = true → P (!M.inB S x ys) → wpAny (model X.prog X.w) X.A (compareOp .NotIn vv uu) (EP X pins σ Q) X.xe s := by
    intro ys e f1 f2 w
    obtain ⟨a, vs, rfl, hs, hd⟩ := sqOf_rel r ry e
    cases ru
    obtain ⟨as, r1⟩ := Dp.reads I _ v vv (fit_dp r f1 rx) rv
    have dps := dpAll (K := X.K) (H := H) (f := toP M.dep S) (fun d v h1 h2 => fit_dp r h1 h2) f2 hd
    have cl : PyData.canLayAll0 (ys.map (toP M.dep S)) = true := canAll (fun d h => fit_lay h) f2
    have w2 : P (!(ys.map (toP M.dep S)).any fun z => PyData.eqv z (toP M.dep S x)) := by rw [← any_eqB f1 f2]; exact w
    rcases hs with hs | hs
    · obtain ⟨bs, r2⟩ := Dp.reads I (.list (ys.map (toP M.dep S))) _ _ (Dp.lst hs dps) rfl
      exact SeqAt.notIn_list_reads r2 r1 cl (fit_lay f1) (room_in (by decide) hu) ⟨.bl _, H, I, rfl, hq _ w2⟩
    · obtain ⟨bs, r2⟩ := Dp.reads I (.tuple (ys.map (toP M.dep S))) _ _ (Dp.tup hs dps) rfl
      exact SeqAt.notIn_tuple_reads r2 r1 cl (fit_lay f1) (room_in (by decide) hu) ⟨.bl _, H, I, rfl, hq _ w2⟩
  cases ry with
  | str b =>
    obtain ⟨c, rfl, w⟩ := onC_of w
    cases rx
    refine op_notIn_sign pins s σ H _ _ vv uu Q I rv ru ⟨c, _, rfl, rfl, ?_⟩
    have e : decide (c ∈ (stx b).cps.toList) = b.contains c := by rw [stx_cps]; simp
    rw [e]
    exact hq _ w
  | ref a => obtain ⟨ys, e, f1, f2, w⟩ := opt_of (show M.opt (M.sqOf S (.ref a)) (fun ys => M.fit M.dep S x = true ∧ M.fitL (M.fit M.dep S) ys = true ∧ P (!M.inB S x ys)) from w); exact seq ys e f1 f2 w
  | tup h1 h2 => obtain ⟨ys, e, f1, f2, w⟩ := opt_of (show M.opt (M.sqOf S (.tup _)) (fun ys => M.fit M.dep S x = true ∧ M.fitL (M.fit M.dep S) ys = true ∧ P (!M.inB S x ys)) from w); exact seq ys e f1 f2 w
  | fl h1 h2 => obtain ⟨ys, e, f1, f2, w⟩ := opt_of (show M.opt (M.sqOf S (.fl _)) (fun ys => M.fit M.dep S x = true ∧ M.fitL (M.fit M.dep S) ys = true ∧ P (!M.inB S x ys)) from w); exact seq ys e f1 f2 w
  | _ => exact False.elim w
theorem oc_all (hu : X.A.units + 64 < cLine) : ∀ {o : M.Co} {p : CmpOp} (h : coOk o p = true), OpR X (compareOp p) (rCm X.K o)
  | .eq, .Eq, _ => oc_eq hu
  | .ne, .NotEq, _ => oc_ne hu
  | .lt, .Lt, _ => oc_lt
  | .le, .LtE, _ => oc_le
  | .gt, .Gt, _ => oc_gt
  | .ge, .GtE, _ => oc_ge
  | .is_, .Is, _ => oc_is
  | .isn, .IsNot, _ => oc_isn
  | .in_, .In, _ => oc_in hu
  | .nin, .NotIn, _ => oc_nin hu
end
end Snd
namespace Snd
open PySem PySem.Spec PyProof.Rows L2
section
variable {prog : Program} {w : World} {A : Around} {E : Value → Shared → Prop} {s : Shared} {l : Addr} {its : List Value} {ns : List Int} {Q : Value → Shared → Prop}
theorem sumT_raw (hh : A.handled = none) (hl : s.heap.IsTuple l its.toArray) (hi : IntsAre its ns)
    (h : ∀ h' tk t', (∀ b o, s.heap.get? b = some o → h'.get? b = some o) → Q (.int ns.sum t') { s with heap := h', toks := tk }) : wpAny (model prog w) A (call (.builtin "sum") [.ref l]) Q E s := by
  obtain ⟨xs, e⟩ := hi.allInts.items
  have hn : numsOf (intItems xs).toList = ns := by rw [← e]; exact hi.numsOf
  rw [nums_intItems] at hn
  rw [e] at hl
  refine PySem.W.ktm_sumG hh hl fun h' tk t' hk => ?_
  have := h h' tk t' hk
  rw [preSum_eq, List.take_of_length_le (by simp), hn]; exact this
end
section
variable {X : Cx}
def rSumT (K : Frag) : List V → Hp → VK → Prop := fun vs H Q => ∃ (a : Addr) (ns : List Int), vs = [V.ref a] ∧ SqT K H a (ns.map V.int) ∧ Q (.int ns.sum) H
theorem cr_sumT (hc : X.calm = true) : CallR X (.builtin "sum") (rSumT X.K) := by
  intro pins s σ H vs us Q I r h
  obtain ⟨a, ns, rfl, hs, q⟩ := h
  obtain ⟨its, rv, hl, _⟩ := I.tuple hs
  rw [Vals.ref1 r]
  exact sumT_raw (I.ok.hd hc) hl rv.ints fun h' tk t' hk => ⟨.int _, H, I.kept hk, ⟨_, rfl⟩, q⟩
end
/-! ### subscripts -/
def rIxM (K : Frag) : R2 := fun v u H Q => ∃ x i S Qd, RelS K H S ∧ RelD K H x v ∧ RelD K H i u ∧ M.ixD x i S Qd ∧ OkV K S H Qd Q
theorem atI_rel {K : Frag} {H : Hp} {ds : List M.D} {vs : List V} {k : Int} {d : M.D} (h : RelDs K H ds vs) (e : M.atI ds k = some d) : ∃ v, L2.atI vs k = some v ∧ RelD K H d v := by
  unfold M.atI at e
  obtain ⟨j, e1, e2⟩ := Option.bind_eq_some_iff.mp e
  obtain ⟨v, h1, h2⟩ := h.get e2
  refine ⟨v, ?_, h2⟩
  unfold L2.atI
  rw [← h.length]
  exact Option.bind_eq_some_iff.mpr ⟨j, e1, h1⟩
section
variable {X : Cx}
theorem ix_all : IxR X (rIxM X.K) := by
  intro value slice pins s σ H v u vv uu Q I rv ru h hsl
  obtain ⟨x, i, S, Qd, r, rx, ri, w, hq⟩ := h
  have seq : ∀ k xs, u = .int k → M.sqOf S x = some xs → M.opt (M.atI xs k) (fun d => Qd d S) → wpAny (model X.prog X.w) X.A (subscriptTail value slice vv uu) (EP X pins σ Q) X.xe s := by
    intro k xs eu e w
    subst eu
    obtain ⟨d, ea, w⟩ := opt_of w
    obtain ⟨a, vs, rfl, hs, hd⟩ := sqOf_rel r rx e
    obtain ⟨z, hz, rz⟩ := atI_rel hd ea
    rcases hs with hs | hs
    · exact ix_list value slice pins s σ H _ _ vv uu Q I rv ru ⟨a, vs, k, z, rfl, rfl, hs, hz, hq.same r rz w⟩ hsl
    · exact ix_tup value slice pins s σ H _ _ vv uu Q I rv ru ⟨a, vs, k, z, rfl, rfl, hs, hz, hq.same r rz w⟩ hsl
  cases ri with
  | int k =>
    cases rx with
    | str a =>
      obtain ⟨hl, w⟩ := w
      obtain ⟨c, ea, w⟩ := opt_of w
      refine ix_str value slice pins s σ H _ _ vv uu Q I rv ru ⟨_, k, c, rfl, rfl, by rw [stx_len, ← lim_eq]; exact hl, ?_, hq.same r (.str [c]) w⟩ hsl
      rw [stx_cps]
      exact ea
    | tup h1 h2 => exact seq k _ rfl rfl w
    | fl h1 h2 => exact seq k _ rfl rfl w
    | ref a =>
      obtain ⟨xs, e, w⟩ := opt_of (show M.opt (M.sqOf S (.ref a)) (fun xs => M.opt (M.atI xs k) fun d => Qd d S) from w)
      exact seq k xs rfl e w
    | non => exact False.elim w
    | bl b => exact False.elim w
    | int j => exact False.elim w
    | xn _ => exact False.elim w
  | _ => exact False.elim w
end
/-! ### slices -/
def rSlM (K : Frag) : V → Option Int → Option Int → Hp → VK → Prop := fun v lo hi H Q => ∃ x S Qd, RelS K H S ∧ RelD K H x v ∧ M.slD x lo hi S Qd ∧ OkV K S H Qd Q
theorem cut_rel {K : Frag} {H : Hp} {ds : List M.D} {vs : List V} (h : RelDs K H ds vs) (lo hi : Option Int) : RelDs K H (M.cut ds lo hi) (cutV vs lo hi) := by
  have e : M.cut ds lo hi = (ds.drop (HT.sIx vs.length 0 lo)).take (HT.sIx vs.length vs.length hi - HT.sIx vs.length 0 lo) := by
    rw [← h.length]
    rfl
  rw [e]
  exact (h.drop _).take _
theorem stx_cut (x : M.Tx) (lo hi : Option Int) : cutS (stx x) lo hi = stx (M.cut x lo hi) := by
  unfold cutS M.cut
  rw [stx_cps, stx_len]
  rfl
section
variable {X : Cx}
theorem sl_allM : SlR X (rSlM X.K) := by
  intro pins s σ H v vv vl vu lo hi sl Q I rv hs pl pu h
  obtain ⟨x, S, Qd, r, rx, w, hq⟩ := h
  cases rx with
  | str a =>
    obtain ⟨hl, w⟩ := w
    exact sl_str pins s σ H _ vv vl vu lo hi sl Q I rv hs pl pu ⟨_, rfl, by rw [stx_len, ← lim_eq]; exact hl, by rw [stx_cut]; exact hq.same r (.str _) w⟩
  | @tup a ds vs h1 h2 =>
    refine sl_tupA pins s σ H _ vv vl vu lo hi sl Q I rv hs pl pu ⟨a, vs, rfl, h1, fun e => ?_, fun _ => hq.newT r (cut_rel h2 lo hi) w⟩
    have e3 : M.cut ds lo hi = ds := by
      unfold M.cut
      have e1 : M.sIx ds.length 0 lo = 0 := by rw [h2.length]; exact e.1
      have e2 : M.sIx ds.length ds.length hi = ds.length := by rw [h2.length]; exact e.2
      rw [e1, e2]
      simp
    have w' : Qd (.tup (M.cut ds lo hi)) S := w
    rw [e3] at w'
    exact hq.same r (.tup h1 h2) w'
  | fl h1 h2 =>
    exact sl_list pins s σ H _ vv vl vu lo hi sl Q I rv hs pl pu ⟨_, _, rfl, h1.sq, hq.newL r (cut_rel h2 lo hi) w⟩
  | ref a =>
    obtain ⟨xs, e, w⟩ := opt_of (show M.opt (M.lsOf S (.ref a)) (fun xs => ∀ p, S p = none → Qd (.ref p) (M.upd S p (.lst (M.cut xs lo hi)))) from w)
    obtain ⟨vs, h1, h2⟩ := r.at e
    exact sl_list pins s σ H _ vv vl vu lo hi sl Q I rv hs pl pu ⟨_, _, rfl, SqL.of h1, hq.newL r (cut_rel h2 lo hi) w⟩
  | non => exact False.elim w
  | bl b => exact False.elim w
  | int i => exact False.elim w
  | xn _ => exact False.elim w
end
/-! ### built-ins -/
def rBi (K : Frag) (b : M.Bi) : List V → Hp → VK → Prop := fun vs H Q => ∃ ds S Qd, RelS K H S ∧ RelDs K H ds vs ∧ M.biD b ds S Qd ∧ OkV K S H Qd Q
theorem ints_rel {K : Frag} {H : Hp} : ∀ {ds : List M.D} {vs : List V} {is : List Int}, RelDs K H ds vs → M.intsD ds = some is → vs = is.map V.int
  | [], _, is, .nil, e => by cases e; rfl
  | _ :: ds, _ :: vs, is, .cons a b, e => by
    cases a with
    | int i =>
      obtain ⟨js, e1, e2⟩ := Option.map_eq_some_iff.mp (show (M.intsD ds).map (i :: ·) = some is from e)
      subst e2
      rw [List.map_cons, ints_rel b e1]
    | _ => cases e
theorem bools_rel {K : Frag} {H : Hp} : ∀ {ds : List M.D} {vs : List V} {is : List Bool}, RelDs K H ds vs → M.bools ds = some is → vs = is.map V.bl
  | [], _, is, .nil, e => by cases e; rfl
  | _ :: ds, _ :: vs, is, .cons a b, e => by
    cases a with
    | bl i =>
      obtain ⟨js, e1, e2⟩ := Option.map_eq_some_iff.mp (show (M.bools ds).map (i :: ·) = some is from e)
      subst e2
      rw [List.map_cons, bools_rel b e1]
    | _ => cases e
theorem minL_ok : ∀ (r : List Int) (m : Int), (M.minL m r = m ∨ M.minL m r ∈ r) ∧ M.minL m r ≤ m ∧ ∀ y ∈ r, M.minL m r ≤ y
  | [], m => ⟨.inl rfl, Int.le_refl _, fun _ h => nomatch h⟩
  | i :: r, m => by
    show (M.minL (if i < m then i else m) r = m ∨ M.minL (if i < m then i else m) r ∈ i :: r) ∧ M.minL (if i < m then i else m) r ≤ m ∧ ∀ y ∈ i :: r, M.minL (if i < m then i else m) r ≤ y
    by_cases h : i < m
    · rw [if_pos h]
      obtain ⟨h1, h2, h3⟩ := minL_ok r i
      refine ⟨.inr ?_, by omega, fun y hy => ?_⟩
      · rcases h1 with h1 | h1
        · rw [h1]; exact List.mem_cons_self
        · exact List.mem_cons_of_mem _ h1
      · rcases List.mem_cons.mp hy with e | e
        · subst e; exact h2
        · exact h3 y e
    · rw [if_neg h]
      obtain ⟨h1, h2, h3⟩ := minL_ok r m
      refine ⟨?_, h2, fun y hy => ?_⟩
      · rcases h1 with h1 | h1
        · exact .inl h1
        · exact .inr (List.mem_cons_of_mem _ h1)
      · rcases List.mem_cons.mp hy with e | e
        · subst e; omega
        · exact h3 y e
theorem maxL_ok : ∀ (r : List Int) (m : Int), (M.maxL m r = m ∨ M.maxL m r ∈ r) ∧ m ≤ M.maxL m r ∧ ∀ y ∈ r, y ≤ M.maxL m r
  | [], m => ⟨.inl rfl, Int.le_refl _, fun _ h => nomatch h⟩
  | i :: r, m => by
    show (M.maxL (if m < i then i else m) r = m ∨ M.maxL (if m < i then i else m) r ∈ i :: r) ∧ m ≤ M.maxL (if m < i then i else m) r ∧ ∀ y ∈ i :: r, y ≤ M.maxL (if m < i then i else m) r
    by_cases h : m < i
    · rw [if_pos h]
      obtain ⟨h1, h2, h3⟩ := maxL_ok r i
      refine ⟨.inr ?_, by omega, fun y hy => ?_⟩
      · rcases h1 with h1 | h1
        · rw [h1]; exact List.mem_cons_self
        · exact List.mem_cons_of_mem _ h1
      · rcases List.mem_cons.mp hy with e | e
        · subst e; exact h2
        · exact h3 y e
    · rw [if_neg h]
      obtain ⟨h1, h2, h3⟩ := maxL_ok r m
      refine ⟨?_, h2, fun y hy => ?_⟩
      · rcases h1 with h1 | h1
        · exact .inl h1
        · exact .inr (List.mem_cons_of_mem _ h1)
      · rcases List.mem_cons.mp hy with e | e
        · subst e; omega
        · exact h3 y e
theorem stx_txI (i : Int) : Str.ofString (toString i) = stx (M.txI i) := by
  rw [Str.ofString_eq_toList]
  rfl
section
variable {X : Cx}
theorem arg1_of {ds : List M.D} {P : M.D → Prop} (h : M.arg1 ds P) : ∃ d, ds = [d] ∧ P d := by
  match ds, h with
  | [d], h => exact ⟨d, rfl, h⟩
theorem onCons_of {l : List Int} {P : Int → List Int → Prop} (h : M.onCons l P) : ∃ i r, l = i :: r ∧ P i r := by
  cases l with
  | cons i r => exact ⟨i, r, rfl, h⟩
  | nil => exact False.elim h
theorem rel1 {K : Frag} {H : Hp} {d : M.D} {vs : List V} (h : RelDs K H [d] vs) : ∃ v, vs = [v] ∧ RelD K H d v := by
  cases h with
  | cons a b => cases b; exact ⟨_, rfl, a⟩
theorem bi_len : CallR X (.builtin "len") (rBi X.K .len) := by
  intro pins s σ H vs us Q I rv h
  obtain ⟨ds, S, Qd, r, rd, w, hq⟩ := h
  obtain ⟨d, rfl, w⟩ := arg1_of w
  obtain ⟨v, rfl, rx⟩ := rel1 rd
  have seq : M.opt (M.sqOf S d) (fun xs => Qd (.int xs.length) S) → wpAny (model X.prog X.w) X.A (call (.builtin "len") us) (EP X pins σ Q) X.xe s := fun w => by
    obtain ⟨xs, e, w⟩ := opt_of w
    obtain ⟨a, ws, rfl, hs, hd⟩ := sqOf_rel r rx e
    exact call_len_seq pins s σ H _ us Q I rv ⟨a, ws, rfl, hs, by rw [← hd.length]; exact hq.same r (.int _) w⟩
  cases rx with
  | str a =>
    obtain ⟨hl, w⟩ := w
    exact call_len_str pins s σ H _ us Q I rv ⟨_, rfl, by rw [stx_len, ← lim_eq]; exact hl, by rw [stx_len]; exact hq.same r (.int _) w⟩
  | tup h1 h2 => exact seq w
  | fl h1 h2 => exact seq w
  | ref a => exact seq w
  | non => exact seq w
  | bl b => exact seq w
  | int i => exact seq w
  | xn _ => exact seq w
theorem bi_abs : CallR X (.builtin "abs") (rBi X.K .abs) := by
  intro pins s σ H vs us Q I rv h
  obtain ⟨ds, S, Qd, r, rd, w, hq⟩ := h
  obtain ⟨d, rfl, w⟩ := arg1_of w
  obtain ⟨v, rfl, rx⟩ := rel1 rd
  obtain ⟨i, rfl, w⟩ := onI_of w
  cases rx
  exact call_abs pins s σ H _ us Q I rv ⟨i, rfl, hq.same r (.int _) w⟩
/-- int(text) -/
theorem int_text {x : M.Tx} {n : Int} (h : M.numT x = some n) (hl : x.length ≤ 640) : PySem.intText? (stx x) = some n := by
  have ec : (stx x).cps.toList = x := stx_cps x
  have dig : ∀ {r : M.Tx}, r.all M.digB = true → PySem.NumText.AllDigits r := fun h c hc => by
    obtain ⟨h1, h2⟩ := Bool.and_eq_true_iff.mp (List.all_eq_true.mp h c hc)
    exact ⟨of_decide_eq_true h1, of_decide_eq_true h2⟩
  cases x with
  | nil => cases h
  | cons c r =>
    have h2 : (if c = 45 then (if !r.isEmpty && r.all M.digB then some (-((M.valT r : Nat) : Int)) else none) else (if (c :: r).all M.digB then some ((M.valT (c :: r) : Nat) : Int) else none)) = some n := h
    clear h
    split at h2
    · rename_i hc
      subst hc
      split at h2
      · rename_i h5
        cases h2
        obtain ⟨h3, h4⟩ := Bool.and_eq_true_iff.mp h5
        exact intText_neg (cs := r) (by rw [ec]) (dig h4) (by intro z; subst z; cases h3) (by rw [stx_len]; omega)
      · cases h2
    · split at h2
      · rename_i h5
        cases h2
        have := intText_digits (x := stx (c :: r)) (by rw [ec]; exact dig h5) (by rw [ec]; intro z; cases z) (by rw [stx_len]; omega)
        rw [ec] at this
        exact this
      · cases h2
theorem bi_int : CallR X (.type "int") (rBi X.K .int) := by
  intro pins s σ H vs us Q I rv h
  obtain ⟨ds, S, Qd, r, rd, w, hq⟩ := h
  obtain ⟨d, rfl, w⟩ := arg1_of w
  obtain ⟨v, rfl, rx⟩ := rel1 rd
  cases rx with
  | int i => exact call_int1 pins s σ H _ us Q I rv (.inl ⟨i, rfl, hq.same r (.int _) w⟩)
  | bl b => exact call_int1 pins s σ H _ us Q I rv (.inr ⟨b, rfl, hq.same r (.int _) w⟩)
  | str x =>
    obtain ⟨n, e, w1, w2⟩ := opt_of (show M.opt (M.numT x) (fun n => x.length ≤ 640 ∧ Qd (.int n) S) from w)
    exact call_int_str pins s σ H _ us Q I rv ⟨_, n, rfl, int_text e w1, by rw [stx_len]; exact w1, hq.same r (.int _) w2⟩
  | _ => exact False.elim w
theorem bi_min (hc : X.calm = true) : CallR X (.builtin "min") (rBi X.K .min) := by
  intro pins s σ H vs us Q I rv h
  obtain ⟨ds, S, Qd, r, rd, w, hq⟩ := h
  match ds, rd, w with
  | [], _, w => exact False.elim w
  | _ :: _ :: _ :: _, _, w => exact False.elim w
  | [d, e], .cons rx (.cons ry .nil), w =>
    obtain ⟨i, rfl, w⟩ := onI_of w
    obtain ⟨j, rfl, w⟩ := onI_of w
    cases rx
    cases ry
    exact call_min2 hc pins s σ H _ us Q I rv ⟨i, j, rfl, hq.same r (.int _) w⟩
  | [d], .cons rx .nil, w =>
    obtain ⟨xs, e, w⟩ := opt_of w
    obtain ⟨is, e2, w⟩ := opt_of w
    obtain ⟨i, js, rfl, w⟩ := onCons_of w
    obtain ⟨a, ws, rfl, hs, hd⟩ := lsOf_rel r rx e
    have e3 := ints_rel hd e2
    subst e3
    refine cr_min hc pins s σ H _ us Q I rv ⟨a, i :: js, rfl, hs, Nat.succ_pos _, fun m hm hle => ?_⟩
    obtain ⟨h1, h2, h3⟩ := minL_ok js i
    have em : m = M.minL i js := by
      refine Int.le_antisymm ?_ ?_
      · rcases h1 with h1 | h1
        · rw [h1]; exact hle i List.mem_cons_self
        · exact hle _ (List.mem_cons_of_mem _ h1)
      · rcases List.mem_cons.mp hm with e | e
        · rw [e]; exact h2
        · exact h3 m e
    rw [em]
    exact hq.same r (.int _) w
theorem bi_max (hc : X.calm = true) : CallR X (.builtin "max") (rBi X.K .max) := by
  intro pins s σ H vs us Q I rv h
  obtain ⟨ds, S, Qd, r, rd, w, hq⟩ := h
  match ds, rd, w with
  | [], _, w => exact False.elim w
  | _ :: _ :: _ :: _ :: _, _, w => exact False.elim w
  | [d, e, f], .cons rx (.cons ry (.cons rz .nil)), w =>
    obtain ⟨i, rfl, w⟩ := onI_of w
    obtain ⟨j, rfl, w⟩ := onI_of w
    obtain ⟨k, rfl, w⟩ := onI_of w
    cases rx
    cases ry
    cases rz
    refine call_max3Nu hc pins s σ H _ us Q I rv ⟨.int i, .int j, .int k, .int (if k > (if j > i then j else i) then k else (if j > i then j else i)), rfl, ?_, hq.same r (.int _) w⟩
    show (nuMax2 (.int i) (.int j)).bind (fun m => nuMax2 m (.int k)) = _
    have e1 : nuMax2 (.int i) (.int j) = some (.int (if j > i then j else i)) := by
      show (some (decide (i < j))).map (fun c => if c = true then V.int j else V.int i) = _
      by_cases c : i < j
      · simp [c]
      · simp [c]
    rw [e1]
    show nuMax2 (.int (if j > i then j else i)) (.int k) = _
    generalize (if j > i then j else i) = m
    show (some (decide (m < k))).map (fun c => if c = true then V.int k else V.int m) = _
    by_cases c : m < k
    · simp [c]
    · simp [c]
  | [d, e], .cons rx (.cons ry .nil), w =>
    obtain ⟨i, rfl, w⟩ := onI_of w
    obtain ⟨j, rfl, w⟩ := onI_of w
    cases rx
    cases ry
    exact call_max2 hc pins s σ H _ us Q I rv ⟨i, j, rfl, hq.same r (.int _) w⟩
  | [d], .cons rx .nil, w =>
    obtain ⟨xs, e, w⟩ := opt_of w
    obtain ⟨is, e2, w⟩ := opt_of w
    obtain ⟨i, js, rfl, w⟩ := onCons_of w
    obtain ⟨a, ws, rfl, hs, hd⟩ := lsOf_rel r rx e
    have e3 := ints_rel hd e2
    subst e3
    refine cr_max hc pins s σ H _ us Q I rv ⟨a, i :: js, rfl, hs, Nat.succ_pos _, fun m hm hle => ?_⟩
    obtain ⟨h1, h2, h3⟩ := maxL_ok js i
    have em : m = M.maxL i js := by
      refine Int.le_antisymm ?_ ?_
      · rcases List.mem_cons.mp hm with e | e
        · rw [e]; exact h2
        · exact h3 m e
      · rcases h1 with h1 | h1
        · rw [h1]; exact hle i List.mem_cons_self
        · exact hle _ (List.mem_cons_of_mem _ h1)
    rw [em]
    exact hq.same r (.int _) w
theorem bi_all (hc : X.calm = true) : CallR X (.builtin "all") (rBi X.K .all) := by
  intro pins s σ H vs us Q I rv h
  obtain ⟨ds, S, Qd, r, rd, w, hq⟩ := h
  obtain ⟨d, rfl, w⟩ := arg1_of w
  obtain ⟨v, rfl, rx⟩ := rel1 rd
  obtain ⟨xs, e, w⟩ := opt_of w
  obtain ⟨is, e2, w⟩ := opt_of w
  obtain ⟨a, ws, rfl, hs, hd⟩ := lsOf_rel r rx e
  have e3 := bools_rel hd e2
  subst e3
  exact cr_all hc pins s σ H _ us Q I rv ⟨a, is, rfl, hs, hq.same r (.bl _) w⟩
theorem bi_any (hc : X.calm = true) : CallR X (.builtin "any") (rBi X.K .any) := by
  intro pins s σ H vs us Q I rv h
  obtain ⟨ds, S, Qd, r, rd, w, hq⟩ := h
  obtain ⟨d, rfl, w⟩ := arg1_of w
  obtain ⟨v, rfl, rx⟩ := rel1 rd
  obtain ⟨xs, e, w⟩ := opt_of w
  obtain ⟨is, e2, w⟩ := opt_of w
  obtain ⟨a, ws, rfl, hs, hd⟩ := lsOf_rel r rx e
  have e3 := bools_rel hd e2
  subst e3
  exact cr_any hc pins s σ H _ us Q I rv ⟨a, is, rfl, hs, hq.same r (.bl _) w⟩
theorem bi_sum (hc : X.calm = true) : CallR X (.builtin "sum") (rBi X.K .sum) := by
  intro pins s σ H vs us Q I rv h
  obtain ⟨ds, S, Qd, r, rd, w, hq⟩ := h
  obtain ⟨d, rfl, w⟩ := arg1_of w
  obtain ⟨v, rfl, rx⟩ := rel1 rd
  obtain ⟨xs, e, w⟩ := opt_of w
  obtain ⟨is, e2, w⟩ := opt_of w
  obtain ⟨a, ws, rfl, hs, hd⟩ := sqOf_rel r rx e
  have e3 := ints_rel hd e2
  subst e3
  rcases hs with hs | hs
  · exact cr_sum hc pins s σ H _ us Q I rv ⟨a, is, rfl, hs, hq.same r (.int _) w⟩
  · exact cr_sumT hc pins s σ H _ us Q I rv ⟨a, is, rfl, hs, hq.same r (.int _) w⟩
theorem ints_backD {K : Frag} {H : Hp} : ∀ (is : List Int), RelDs K H (is.map M.D.int) (is.map V.int)
  | [] => .nil
  | i :: is => .cons (.int i) (ints_backD is)
theorem bi_sorted : CallR X (.builtin "sorted") (rBi X.K .sorted) := by
  intro pins s σ H vs us Q I rv h
  obtain ⟨ds, S, Qd, r, rd, w, hq⟩ := h
  obtain ⟨d, rfl, w⟩ := arg1_of w
  obtain ⟨v, rfl, rx⟩ := rel1 rd
  obtain ⟨xs, e, w⟩ := opt_of w
  obtain ⟨is, e2, w⟩ := opt_of w
  obtain ⟨a, ws, rfl, hs, hd⟩ := lsOf_rel r rx e
  have e3 := ints_rel hd e2
  subst e3
  exact cr_sortedI pins s σ H _ us Q I rv ⟨a, is, rfl, hs, fun js p h1 h2 hp => hq.newL r (ints_backD js) (w js h1 h2) p hp⟩
theorem bi_list : CallR X (.type "list") (rBi X.K .list) := by
  intro pins s σ H vs us Q I rv h
  obtain ⟨ds, S, Qd, r, rd, w, hq⟩ := h
  obtain ⟨d, rfl, w⟩ := arg1_of w
  obtain ⟨v, rfl, rx⟩ := rel1 rd
  obtain ⟨xs, e, w⟩ := opt_of w
  obtain ⟨a, ws, rfl, hs, hd⟩ := sqOf_rel r rx e
  exact call_list_of pins s σ H _ us Q I rv ⟨a, ws, rfl, hs, hq.newL r hd w⟩
theorem bi_tuple : CallR X (.type "tuple") (rBi X.K .tuple) := by
  intro pins s σ H vs us Q I rv h
  obtain ⟨ds, S, Qd, r, rd, w, hq⟩ := h
  obtain ⟨d, rfl, w⟩ := arg1_of w
  obtain ⟨v, rfl, rx⟩ := rel1 rd
  obtain ⟨xs, e, w⟩ := opt_of w
  obtain ⟨a, ws, rfl, hs, hd⟩ := sqOf_rel r rx e
  rcases hs with hs | hs
  · exact call_tuple_of pins s σ H _ us Q I rv ⟨a, ws, rfl, .inl ⟨hs, hq.newT r hd w⟩⟩
  · exact call_tuple_of pins s σ H _ us Q I rv ⟨a, ws, rfl, .inr ⟨hs, hq.same r (.tup hs hd) w⟩⟩
theorem bi_str : CallR X (.type "str") (rBi X.K .str) := by
  intro pins s σ H vs us Q I rv h
  obtain ⟨ds, S, Qd, r, rd, w, hq⟩ := h
  obtain ⟨d, rfl, w⟩ := arg1_of w
  obtain ⟨v, rfl, rx⟩ := rel1 rd
  obtain ⟨i, rfl, w⟩ := onI_of w
  cases rx
  refine call_str_int pins s σ H _ us Q I rv ⟨i, rfl, w.1, ?_⟩
  have e : Str.ofString (toString i) = stx (M.txI i) := stx_txI i
  show Q (.str (Str.ofString (toString i))) H
  rw [e]
  exact hq.same r (.str _) w.2
/-! ### methods -/
def rMt (K : Frag) (m : M.Mt) : V → List V → Hp → VK → Prop := fun v vs H Q => ∃ x ds S Qd, RelS K H S ∧ RelD K H x v ∧ RelDs K H ds vs ∧ M.mtD m x ds S Qd ∧ OkV K S H Qd Q
/-- a list of the store was written: what is wanted -/
theorem OkV.wrote {K : Frag} {S : M.Sto} {H : Hp} {Qd : M.VK} {Q : VK} (h : OkV K S H Qd Q) (r : RelS K H S) {a : Nat} {xs ds : List M.D} {vs : List V} (e : M.lstAt S a = some xs) (rd : RelDs K H ds vs) {d : M.D} {v : V} (rx : RelD K H d v)
    (q : Qd d (M.upd S a (.lst ds))) : Q v (L2.upd H a (.lst vs)) :=
  have f : Fr S H (M.upd S a (.lst ds)) (L2.upd H a (.lst vs)) := Fr.wr (lstAt_some e)
  h _ _ _ _ f (r.wr (lstAt_some e) rd) (rx.mono r f) q
theorem mt_appendM : MtM X "list.append" (rMt X.K .append) := by
  intro pins s σ H v vs vv us Q I rv rvs h
  obtain ⟨x, ds, S, Qd, r, rx, rd, w, hq⟩ := h
  obtain ⟨a, rfl, w⟩ := onR_of w
  obtain ⟨d, rfl, w⟩ := arg1_of w
  obtain ⟨y, rfl, ry⟩ := rel1 rd
  obtain ⟨xs, e, hl, w⟩ := opt_of w
  obtain ⟨ws, h1, h2⟩ := r.at e
  cases rx
  exact mt_append pins s σ H _ _ vv us Q I rv rvs ⟨a, ws, y, rfl, rfl, h1, by rw [← h2.length, ← lim_eq]; exact hl, hq.wrote r e (h2.append (.cons ry .nil)) .non w⟩
theorem mt_extendM : MtM X "list.extend" (rMt X.K .extend) := by
  intro pins s σ H v vs vv us Q I rv rvs h
  obtain ⟨x, ds, S, Qd, r, rx, rd, w, hq⟩ := h
  obtain ⟨a, rfl, w⟩ := onR_of w
  obtain ⟨d, rfl, w⟩ := arg1_of w
  obtain ⟨y, rfl, ry⟩ := rel1 rd
  obtain ⟨b, rfl, w⟩ := onR_of w
  obtain ⟨xs, e, w⟩ := opt_of w
  obtain ⟨ys, e2, hl, w⟩ := opt_of w
  obtain ⟨ws, h1, h2⟩ := r.at e
  obtain ⟨zs, h3, h4⟩ := r.at e2
  cases rx
  cases ry
  exact mt_extend pins s σ H _ _ vv us Q I rv rvs ⟨a, b, ws, zs, rfl, rfl, h1, h3, by rw [← h2.length, ← h4.length, ← lim_eq]; exact hl, hq.wrote r e (h2.append h4) .non w⟩
theorem mt_popM : MtM X "list.pop" (rMt X.K .pop) := by
  intro pins s σ H v vs vv us Q I rv rvs h
  obtain ⟨x, ds, S, Qd, r, rx, rd, w, hq⟩ := h
  obtain ⟨a, rfl, w⟩ := onR_of w
  match ds, rd, w with
  | [], .nil, w =>
    obtain ⟨xs, e, w⟩ := opt_of w
    obtain ⟨d, e2, w⟩ := opt_of w
    obtain ⟨ws, h1, h2⟩ := r.at e
    obtain ⟨y, h3, h4⟩ := h2.get e2
    cases rx
    exact mt_pop pins s σ H _ _ vv us Q I rv rvs ⟨a, ws, y, rfl, rfl, h1, by rw [← h2.length]; exact h3, hq.wrote r e h2.dropLast h4 w⟩
  | _ :: _, _, w => exact False.elim w
def boolU (k : Bool) : Value → Bool
  | .bool b => b == k
  | _ => false
theorem boolU_at {k : Bool} : ∀ {bs : List Bool} {us : List Value}, Vals (bs.map V.bl) us → (∀ y ∈ us, ∀ (A : Around) (s : Shared), SeqAt.EqAt A s y (.bool k) (boolU k y)) ∧ us.countP (boolU k) = bs.count k
  | [], _, .nil => ⟨(fun y hy => nomatch hy), rfl⟩
  | b :: bs, _, .cons r t => by
    cases r
    obtain ⟨h1, h2⟩ := boolU_at (k := k) t
    refine ⟨fun y hy A s => ?_, ?_⟩
    · rcases List.mem_cons.mp hy with e | e
      · rw [e]; exact SeqAt.EqAt.bool_bool b k
      · exact h1 y e A s
    · rw [List.countP_cons, List.count_cons, h2] <;> rfl
theorem mt_countM : MtR X "list.count" (rMt X.K .count) := by
  intro pins s σ H v vs vv us Q I rv rvs h
  obtain ⟨x, ds, S, Qd, r, rx, rd, w, hq⟩ := h
  obtain ⟨d, rfl, w⟩ := arg1_of w
  obtain ⟨y, rfl, ry⟩ := rel1 rd
  obtain ⟨b, rfl, w⟩ := onB_of w
  obtain ⟨xs, e, w⟩ := opt_of w
  obtain ⟨bs, e2, w⟩ := opt_of w
  obtain ⟨a, ws, rfl, hs, hd⟩ := lsOf_rel r rx e
  have e3 := bools_rel hd e2
  subst e3
  cases ry
  cases rv
  obtain ⟨u, rfl, ru⟩ := rvs.one
  cases ru
  obtain ⟨its, rv, ⟨⟨cls, dd, data, sl⟩, n, ho, hc, hdn, hdt⟩, hlen⟩ := I.list hs
  simp only at hc hdt
  subst hc hdt
  obtain ⟨g1, g2⟩ := boolU_at (k := b) rv
  refine call_meets PySem.F.slot_list_count ⟨_, ho, rfl⟩ PySem.F.entry_list_count (PySem.F.args_list_count_2 _ _)
    (SeqAt.list_countAt a its.toArray n dd sl (.bool b) (boolU b)) ⟨ho, fun y hy => g1 y (by simpa using hy) _ _, ?_⟩
  have ec : its.toArray.toList.countP (boolU b) = bs.count b := g2
  refine ⟨.int (bs.count b : Nat), H, I.tok _, ⟨s.toks, ?_⟩, hq.same r (.int _) w⟩
  show Value.int ((its.toArray.toList.countP (boolU b) : Nat) : Int) s.toks = Value.int ((bs.count b : Nat) : Int) s.toks
  rw [ec]
theorem ixB_ok {b : Bool} : ∀ {bs : List Bool} {j : Nat}, M.ixB b bs = some j → bs[j]? = some b ∧ ∀ m, m < j → ∀ c, bs[m]? = some c → c ≠ b
  | [], _, h => nomatch h
  | c :: bs, j, h => by
    unfold M.ixB at h
    split at h
    · rename_i hc
      cases h
      exact ⟨by rw [hc]; rfl, fun m hm => absurd hm (Nat.not_lt_zero _)⟩
    · rename_i hc
      obtain ⟨k, hk, rfl⟩ := Option.map_eq_some_iff.mp h
      obtain ⟨h1, h2⟩ := ixB_ok hk
      refine ⟨by simpa using h1, fun m hm c' hc' => ?_⟩
      cases m with
      | zero => simp at hc'; rw [← hc']; exact hc
      | succ m => exact h2 m (by omega) c' (by simpa using hc')
theorem mt_indexM : MtR X "list.index" (rMt X.K .index) := by
  intro pins s σ H v vs vv us Q I rv rvs h
  obtain ⟨x, ds, S, Qd, r, rx, rd, w, hq⟩ := h
  obtain ⟨d, rfl, w⟩ := arg1_of w
  obtain ⟨y, rfl, ry⟩ := rel1 rd
  obtain ⟨b, rfl, w⟩ := onB_of w
  obtain ⟨xs, e, w⟩ := opt_of w
  obtain ⟨bs, e2, w⟩ := opt_of w
  obtain ⟨j, e4, w⟩ := opt_of w
  obtain ⟨a, ws, rfl, hs, hd⟩ := lsOf_rel r rx e
  have e3 := bools_rel hd e2
  subst e3
  cases ry
  obtain ⟨h1, h2⟩ := ixB_ok e4
  refine mt_index pins s σ H _ _ vv us Q I rv rvs ⟨a, bs.map V.bl, .bl b, j, .bl b, rfl, rfl, hs, rfl, ?_, by rw [List.getElem?_map, h1]; rfl, (show (b == b) = true from beq_self_eq_true b), fun m z hm hz => ?_, hq.same r (.int _) w⟩
  · rw [List.all_map]
    exact List.all_eq_true.mpr fun _ _ => rfl
  · rw [List.getElem?_map] at hz
    obtain ⟨c, hc, rfl⟩ := Option.map_eq_some_iff.mp hz
    exact beq_eq_false_iff_ne.mpr (h2 m hm c hc)
/-! ### o[i] = v -/
def tSx (K : Frag) : V → V → V → Hp → (Hp → Prop) → Prop := fun o i v H Q => ∃ x y z S Qs, RelS K H S ∧ RelD K H x o ∧ RelD K H y i ∧ RelD K H z v ∧ M.sixD x y z S Qs ∧ ∀ S' H', Fr S H S' H' → RelS K H' S' → Qs S' → Q H'
theorem set_listM : PSet X (tSx X.K) := by
  intro pins s σ H o i v ov iv u Q I ro ri rv h
  obtain ⟨x, y, z, S, Qs, r, rx, ry, rz, w, hq⟩ := h
  obtain ⟨a, rfl, w⟩ := onR_of w
  obtain ⟨k, rfl, w⟩ := onI_of w
  obtain ⟨xs, e, w⟩ := opt_of w
  obtain ⟨j, e2, w⟩ := opt_of w
  obtain ⟨ws, h1, h2⟩ := r.at e
  cases rx
  cases ry
  refine set_list pins s σ H _ _ _ ov iv u Q I ro ri rv ⟨a, ws, k, j, rfl, rfl, h1, by rw [← h2.length]; exact e2, ?_⟩
  exact hq _ _ (Fr.wr (lstAt_some e)) (r.wr (lstAt_some e) (h2.set j rz)) w
end
end Snd
namespace Snd
open PySem PySem.Spec PyProof.Rows L2
/-! ### isinstance -/
def tyN : M.Ty → String
  | .int => "int" | .bool => "bool" | .tuple => "tuple" | .list => "list" | .str => "str"
def tyS : M.Ty → Str
  | .int => "int" | .bool => "bool" | .tuple => "tuple" | .list => "list" | .str => "str"
theorem tyB (t : M.Ty) : bootBuiltins (tyS t) = some (.type (tyN t)) := by cases t <;> decide +kernel
theorem ky_none (t : M.Ty) : kitB "NoneType" (tyN t) = some false := by cases t <;> decide +kernel
theorem ky_bool (t : M.Ty) : kitB "bool" (tyN t) = some (decide (t = .bool) || decide (t = .int)) := by cases t <;> decide +kernel
theorem ky_int (t : M.Ty) : kitB "int" (tyN t) = some (decide (t = .int)) := by cases t <;> decide +kernel
theorem ky_str (t : M.Ty) : kitB "str" (tyN t) = some (decide (t = .str)) := by cases t <;> decide +kernel
theorem ky_tup (t : M.Ty) : kitB "tuple" (tyN t) = some (decide (t = .tuple)) := by cases t <;> decide +kernel
theorem ky_lst (t : M.Ty) : kitB "list" (tyN t) = some (decide (t = .list)) := by cases t <;> decide +kernel
theorem ky_dic (t : M.Ty) : kitB "dict" (tyN t) = some false := by cases t <;> decide +kernel
theorem isTy_all {K : Frag} {H : Hp} {S : M.Sto} (r : RelS K H S) {d : M.D} {v : V} (rd : RelD K H d v) {t0 : M.Ty} {b0 : Bool} (e0 : M.isTy S d t0 = some b0) :
    ∃ n, TyX K H v (.type n) ∧ ∀ t b, M.isTy S d t = some b → kitB n (tyN t) = some b := by
  cases rd with
  | non => exact ⟨_, .base .non, fun t b e => by cases e; exact ky_none t⟩
  | bl x => exact ⟨_, .base (.bl x), fun t b e => by cases e; exact ky_bool t⟩
  | int x => exact ⟨_, .base (.int x), fun t b e => by cases e; exact ky_int t⟩
  | str x => exact ⟨_, .base (.str _), fun t b e => by cases e; exact ky_str t⟩
  | tup h1 h2 =>
    refine ⟨"tuple", ?_, fun t b e => by cases e; exact ky_tup t⟩
    rcases h1 with (h | ⟨o, h⟩) | ⟨o, its, n, hk, hc, _⟩
    · exact .base (.tup h)
    · exact .fTuple h
    · exact .kTuple hk hc
  | fl h1 h2 =>
    refine ⟨"list", ?_, fun t b e => by cases e; exact ky_lst t⟩
    rcases h1 with ⟨o, h⟩ | ⟨o, its, n, hk, hc, _⟩
    · exact .base (.frz h)
    · exact .kList hk hc
  | xn _ => cases e0
  | ref a =>
    have e' : M.tyO (S a) t0 = some b0 := e0
    cases q : S a with
    | none => rw [q] at e'; cases e'
    | some o =>
      cases o with
      | lst ds =>
        obtain ⟨vs, h1, _⟩ := r a _ q
        refine ⟨_, .base (.lst h1), fun t b e => ?_⟩
        have e : M.tyO (S a) t = some b := e
        rw [q] at e
        cases e
        exact ky_lst t
      | dic =>
        refine ⟨_, .base (.dK (r a _ q)), fun t b e => ?_⟩
        have e : M.tyO (S a) t = some b := e
        rw [q] at e
        cases e
        exact ky_dic t
      | dct kvs =>
        obtain ⟨vs, h1, _⟩ := r a _ q
        refine ⟨_, .base (.dK h1), fun t b e => ?_⟩
        have e : M.tyO (S a) t = some b := e
        rw [q] at e
        cases e
        exact ky_dic t
theorem isTy_rel {K : Frag} {H : Hp} {S : M.Sto} (r : RelS K H S) {d : M.D} {v : V} (rd : RelD K H d v) {t : M.Ty} {b : Bool} (e : M.isTy S d t = some b) :
    ∃ n, TyX K H v (.type n) ∧ kitB n (tyN t) = some b := by
  obtain ⟨n, h1, h2⟩ := isTy_all r rd e
  exact ⟨n, h1, h2 t b e⟩
/-! ### [::-1] -/
section
variable {X : Cx}
theorem places_rev (n : Nat) : Builtin.Slice.slicePlaces ((n : Int) - 1) (-1) (-1) = n := by
  unfold Builtin.Slice.slicePlaces
  have h1 : ¬ ((-1 : Int) > 0) := by decide
  simp only [h1, if_false]
  have e : (-(-1 : Int)) = 1 := by decide
  rw [e, Int.ediv_one]
  split <;> omega
theorem sliceApplied_rev {prog : Program} {w : World} {A : Around} {E : Value → Shared → Prop} {s : Shared} {sl : Addr} {vl vu vs : Value} {n : Nat} {Q : Int × Int × Nat → Shared → Prop} (hs : s.heap.IsSliceOf sl vl vu vs) (pl : IsPart vl none) (pu : IsPart vu none) (ps : IsPart vs (some (-1)))
    (h : Q ((n : Int) - 1, -1, n) s) : wpAny (model prog w) A (Builtin.Slice.sliceApplied (.ref sl) (pure (n : Int))) Q E s := by
  obtain ⟨os, hos, hcs, hds⟩ := id hs
  unfold Builtin.Slice.sliceApplied Builtin.Slice.sliceFields
  refine wpAny_bind (wpAny_bind (wpAny_field hos hds (x := vl) rfl (wpAny_bind (wpAny_field hos hds (x := vu) rfl (wpAny_bind (wpAny_field hos hds (x := vs) rfl (wpAny_pure ?_)))))))
  refine wpAny_bind (HT.slicePart_ ps ?_)
  show wpAny _ _ (if ((-1 : Int) == 0) = true then _ else _) _ _ s
  rw [if_neg (by decide)]
  refine wpAny_bind (HT.slicePart_ pl (wpAny_bind (HT.slicePart_ pu (wpAny_bind (wpAny_pure ?_)))))
  show wpAny _ _ (pure ((n : Int) - 1, (-1 : Int), Builtin.Slice.slicePlaces ((n : Int) - 1) (-1) (-1))) _ _ s
  rw [places_rev]
  exact wpAny_pure h
theorem fm_congr {α β : Type} {f g : α → Option β} : ∀ {l : List α}, (∀ x ∈ l, f x = g x) → l.filterMap f = l.filterMap g
  | [], _ => rfl
  | x :: l, h => by
    rw [List.filterMap_cons, List.filterMap_cons, h x List.mem_cons_self, fm_congr fun y hy => h y (List.mem_cons_of_mem _ hy)]
theorem pick_rev (its : List Value) : ((List.range its.length).filterMap fun (k : Nat) => its.toArray[(((its.length : Int) - 1) + (k : Int) * -1).toNat]?).toArray = its.reverse.toArray := by
  have e : (List.range its.length).filterMap (fun (k : Nat) => its.toArray[(((its.length : Int) - 1) + (k : Int) * -1).toNat]?) = ((List.range its.length).map fun k => its.length - 1 - k).filterMap (fun j => its.toArray[j]?) := by
    rw [List.filterMap_map]
    refine fm_congr fun k hk => ?_
    have := List.mem_range.mp hk
    have e : (((its.length : Int) - 1) + (k : Int) * -1).toNat = its.length - 1 - k := by omega
    show its.toArray[(((its.length : Int) - 1) + (k : Int) * -1).toNat]? = its.toArray[its.length - 1 - k]?
    rw [e]
  have a := PySem.W.krv_all its.toArray
  rw [e, PySem.W.krv_range, List.filterMap_reverse]
  simp only [List.size_toArray] at a
  rw [a]
theorem getItem_tuple_rev {prog : Program} {w : World} {A : Around} {E : Value → Shared → Prop} {s : Shared} {t sl : Addr} {its : List Value} {vl vu vs : Value} {Q : Value → Shared → Prop} (ht : IsTup s.heap t its.toArray) (hs : s.heap.IsSliceOf sl vl vu vs) (pl : IsPart vl none) (pu : IsPart vu none) (ps : IsPart vs (some (-1)))
    (hz : its.length ≤ sizeLine) (h : Q (.ref s.heap.objs.size) { s with heap := s.heap.push { cls := .type "tuple", data := .seq its.reverse.toArray } }) :
    wpAny (model prog w) A (getItem (.ref t) (.ref sl)) Q E s := by
  obtain ⟨os, hos, hcs, hds⟩ := id hs
  have hTs : s.TypeIs (.ref sl) "slice" := ⟨os, hos, hcs⟩
  unfold getItem
  try with_reducible refine wpAny_holding ?_
  first | refine wpAny_bind (wpAny_pure ?_) | skip
  refine wpAny_bind (wpAny_sequenceKey ht.typeIs (by decide) ?_)
  refine wpAny_bind (wpAny_callSpecial?_slot (name := Str.ofString "__getitem__") ht.typeIs PyProof.Rows.slot_tuple_getitem
    (wpAny_call_entry PyProof.Rows.slot_tuple_getitem ht.typeIs entry_tuple_getitem ?_ (args_tuple_getitem _ _)))
  show wpAny _ _ (Builtin.Tuple.tupleItemsOf (.ref t) >>= _) _ _ s
  refine wpAny_bind (tupleItemsOf_ ht ?_)
  refine wpAny_bind (wpAny_typeOf hTs ?_)
  rw [if_pos (by decide)]
  refine wpAny_bind (sliceApplied_rev hs pl pu ps ?_)
  have hno : ¬ ((((its.toArray.size : Int) - 1) == 0 && (-1 : Int) == 1 && its.toArray.size == its.toArray.size) = true) := by
    rw [show ((-1 : Int) == 1) = false by decide]
    simp
  show wpAny _ _ (if (((its.toArray.size : Int) - 1) == 0 && (-1 : Int) == 1 && its.toArray.size == its.toArray.size) = true then _ else _) _ _ s
  rw [if_neg hno]
  have e := pick_rev its
  have e2 : its.toArray.size = its.length := List.size_toArray
  rw [e2, e]
  have hsz : sizeOk (.seq its.reverse.toArray) := by
    show its.reverse.toArray.size ≤ sizeLine
    rw [List.size_toArray, List.length_reverse]
    exact hz
  first
    | exact wpAny_bind (m := Builtin.Tuple.tupleExact _) (wpAny_newObj_type (wpAny_pure ⟨_, rfl, wpAny_pure h⟩) hsz)
    | exact wpAny_bind (m := Builtin.Tuple.tupleExact _) (wpAny_newObj_type (wpAny_bind (wpAny_pure (wpAny_pure ⟨_, rfl, wpAny_pure h⟩))) hsz)
    | exact wpAny_bind (wpAny_bind (m := Builtin.Tuple.tupleExact _) (wpAny_newObj_type (wpAny_pure (wpAny_pure ⟨_, rfl, wpAny_pure h⟩)) hsz))
    | exact wpAny_bind (wpAny_bind (m := Builtin.Tuple.tupleExact _) (wpAny_newObj_type (wpAny_pure ⟨_, rfl, wpAny_pure h⟩) hsz))
def rRv (K : Frag) : V → Hp → VK → Prop := fun v H Q => ∃ x S Qd, RelS K H S ∧ RelD K H x v ∧ M.revD x S Qd ∧ OkV K S H Qd Q
theorem pe_revM {e : Expr} {te : TE} {k : Nat} {p1 p2 p3 pos : Pos} (he : PE X e te) : PE X (.Subscript e (.Slice none none (some (.UnaryOp .USub (.Constant (.int 1) k p1) p2)) p3) pos) (fun σ H Q => te σ H fun v H1 => rRv X.K v H1 Q) := by
  refine ⟨fun pins s σ H Q I h => ?_⟩
  refine Subscript_ (thn (he.run pins s σ H _ I h) fun v s1 ⟨x, H1, I1, r1, q1⟩ => ?_)
  obtain ⟨d, S, Qd, r, rd, w, hq⟩ := q1
  have hst : PO X (some (.UnaryOp .USub (.Constant (.int 1) k p1) p2)) (tPart (tUn (rU fun i => .int (-i)) (tC (.int 1)))) := po_some (pe_un un_neg pe_int)
  refine wpAny_Slice (thn (po_none.run pins s1 σ H1 (fun o H2 => o = none ∧ H2 = H1) I1 ⟨rfl, rfl⟩) fun vl s2 ⟨l, H2, I2, pl, el, e2⟩ => ?_)
  subst el e2
  refine thn (po_none.run pins s2 σ H2 (fun o H3 => o = none ∧ H3 = H2) I2 ⟨rfl, rfl⟩) fun vu s3 ⟨u, H3, I3, pu, eu, e3⟩ => ?_
  subst eu e3
  refine thn (hst.run pins s3 σ H3 (fun o H4 => o = some (-1) ∧ H4 = H3) I3 ⟨1, rfl, -1, rfl, rfl, rfl⟩) fun vs s4 ⟨o, H4, I4, ps, eo, e4⟩ => ?_
  subst eo e4
  have I5 : Inv X pins σ H4 { s4 with heap := s4.heap.push { cls := .type "slice", data := .fields #[vl, vu, vs] } } := I4.kept (t' := s4.toks) fun b ob q => Heap.get?_push_of_some _ q
  have lst : ∀ a ws xs, x = .ref a → SqL X.K H4 a ws → RelDs X.K H4 xs ws → (∀ p, S p = none → Qd (.ref p) (M.upd S p (.lst xs.reverse))) → wpAny (model X.prog X.w) X.A (subscriptTail e (.Slice none none (some (.UnaryOp .USub (.Constant (.int 1) k p1) p2)) p3) v (.ref s4.heap.objs.size)) (EP X pins σ Q) X.xe { s4 with heap := s4.heap.push { cls := .type "slice", data := .fields #[vl, vu, vs] } } := by
    intro a ws xs ex hx hd w
    subst ex
    cases r1
    obtain ⟨its, rr, ht, hz⟩ := I5.list hx
    have hlen := rr.length
    refine tail_any (ops := [.ref a, .ref s4.heap.objs.size]) ht.isList.typeIs (PySem.slot_list_getitem.lookup) ?_ (by with_unfolding_all rfl)
    refine wpAny_getItem_list_slice ht.isList (Heap.IsSliceOf.new _ vl vu vs) pl pu ps (by decide) ?_ (by rw [List.size_toArray]; omega)
    rw [PySem.W.krv_pick]
    refine ⟨.ref _, _, I5.laid (t' := s4.toks) (o := .lst ws.reverse) (fun b ob q => Heap.get?_push_of_some _ q) (Nat.le_refl _) ?_, rfl, hq.newL r hd.reverse w _ (I5.hok.fresh (Nat.le_refl _))⟩
    exact ⟨by rw [List.length_reverse]; exact hz, _, 0, rr.reverse, Heap.get?_push_size _ rfl⟩
  show wpAny (model X.prog X.w) X.A (subscriptTail e (.Slice none none (some (.UnaryOp .USub (.Constant (.int 1) k p1) p2)) p3) v (.ref s4.heap.objs.size)) (EP X pins σ Q) X.xe { s4 with heap := s4.heap.push { cls := .type "slice", data := .fields #[vl, vu, vs] } }
  cases rd with
  | @tup a ds ws h1 h2 =>
    cases r1
    obtain ⟨its, rr, ht, hz⟩ := I5.tuple h1
    have hlen := rr.length
    refine tail_any (ops := [.ref a, .ref s4.heap.objs.size]) ht.typeIs (PyProof.Rows.slot_tuple_getitem.lookup) ?_ (by with_unfolding_all rfl)
    refine getItem_tuple_rev ht (Heap.IsSliceOf.new _ vl vu vs) pl pu ps (by omega) ?_
    refine ⟨.ref _, _, I5.laid (t' := s4.toks) (o := .tup ws.reverse) (fun b ob q => Heap.get?_push_of_some _ q) (Nat.le_refl _) ?_, rfl, hq.newT r h2.reverse w _ (I5.hok.fresh (Nat.le_refl _))⟩
    exact ⟨by rw [List.length_reverse]; exact hz, _, rr.reverse, IsTup.new _ _⟩
  | fl h1 h2 => exact lst _ _ _ rfl h1.sq h2 w
  | ref a =>
    obtain ⟨xs, e, w⟩ := opt_of (show M.opt (M.lsOf S (.ref a)) (fun xs => ∀ p, S p = none → Qd (.ref p) (M.upd S p (.lst xs.reverse))) from w)
    obtain ⟨ws, h1, h2⟩ := r.at e
    exact lst a ws xs rfl (SqL.of h1) h2 w
  | non => exact False.elim w
  | bl b => exact False.elim w
  | int i => exact False.elim w
  | str x => exact False.elim w
  | xn _ => exact False.elim w
/-! ### a starred item of a display -/
theorem star_sq {pins : List (Addr × Obj)} {s : Shared} {σ : Sl} {H : Hp} {a : Addr} {vs : List V} {Q : List Value → Shared → Prop} (I : Inv X pins σ H s) (h : SqL X.K H a vs ∨ SqT X.K H a vs) (hq : ∀ us s', Inv X pins σ H s' → Vals vs us → Q us s') :
    PySem.W.StarOf (model X.prog X.w) X.A X.xe (.ref a) Q s := by
  have go : ∀ {T : String} {o : Obj} {its : List Value} {n : Nat}, (T = "list" ∨ T = "tuple") → s.heap.get? a = some o → o.cls = .type T → o.data = .seq its.toArray n → its.length ≤ sizeLine → Vals vs its → PySem.W.StarOf (model X.prog X.w) X.A X.xe (.ref a) Q s := by
    intro T o its n hT ho hc hd hz rv
    have hT' : s.TypeIs (.ref a) T := ⟨o, ho, hc⟩
    have z : wpAny (model X.prog X.w) X.A (collect (.ref a)) Q X.xe s :=
      wpAny_collect_seq a hT ho hc hd (fun h' hk => hq _ _ (I.kept (t' := s.toks) hk) (by simpa using rv)) (by simpa using hz)
    unfold PySem.W.StarOf notIterableAtAll
    rcases hT with rfl | rfl
    · exact wpAny_bind (wpAny_specialOf hT' PySem.F.slot_list_iter.lookup (wpAny_pure ⟨rfl, z⟩))
    · exact wpAny_bind (wpAny_specialOf hT' PySem.F.slot_tuple_iter.lookup (wpAny_pure ⟨rfl, z⟩))
  rcases h with h | h
  · obtain ⟨its, rv, ⟨o, n, ho, hc, _, hd⟩, hz⟩ := I.list h
    exact go (.inl rfl) ho hc hd (by rw [← rv.length]; exact hz) rv
  · obtain ⟨its, rv, ⟨o, ho, hc, n, hd⟩, hz⟩ := I.tuple h
    exact go (.inr rfl) ho hc hd (by rw [← rv.length]; exact hz) rv
theorem pa_star {e : Expr} {es : List Expr} {te : TE} {t : TA} {p : Pos} {r : V → Hp → (List V → Hp → Prop) → Prop}
    (hr : ∀ v H Q, r v H Q → ∃ a vs, v = .ref a ∧ (SqL X.K H a vs ∨ SqT X.K H a vs) ∧ Q vs H) (ha : PE X e te) (ht : PA X es t) :
    PA X (.Starred e p :: es) (fun σ H Q => te σ H fun v H1 => r v H1 fun xs H2 => t σ H2 fun ys H3 => Q (xs ++ ys) H3) := by
  refine ⟨fun pos pins s σ H Q I h => ?_⟩
  refine PySem.W.items_star (thn (ha.run pins s σ H _ I h) fun v s1 ⟨x, H1, I1, r1, q1⟩ => ?_)
  obtain ⟨a, vs, rfl, hs, q⟩ := hr _ _ _ q1
  cases r1
  refine star_sq I1 hs fun us s2 I2 rv => ?_
  exact thn (ht.run pos pins s2 σ H1 _ I2 q) fun ws s3 ⟨ys, H3, I3, rw', q3⟩ => ⟨_, H3, I3, rv.append rw', q3⟩
end
end Snd
namespace Snd
open PySem PySem.Spec PyProof.Rows L2
theorem prs_map : ∀ {ds : List M.D} {ps : List (Int × Int)}, M.prsD ds = some ps → ds = ps.map M.prV
  | [], ps, h => by cases h; rfl
  | d :: ds, ps, h => by
    match d, h with
    | .tup [.int i, .int j], h =>
      obtain ⟨qs, e1, e2⟩ := Option.map_eq_some_iff.mp (show (M.prsD ds).map ((i, j) :: ·) = some ps from h)
      subst e2
      rw [prs_map e1]; rfl
section
variable {X : Cx} {pins : List (Addr × Obj)} {σ : L2.St} {H : Hp} {s : Shared}
theorem pr_rel (I : Inv X pins σ H s) {p : Int × Int} {v : V} {u : Value} (h : RelD X.K H (M.prV p) v) (hv : RelV v u) : ∃ a t1 t2, v = .ref a ∧ u = .ref a ∧ s.heap.IsTuple a #[.int p.1 t1, .int p.2 t2] := by
  cases h with
  | @tup a ds vs h1 h2 =>
    cases h2 with
    | cons r1 r2 =>
      cases r2 with
      | cons r3 r4 =>
        cases r4
        cases r1
        cases r3
        obtain ⟨its, rv, hl, _⟩ := I.tuple h1
        obtain ⟨u1, u2, rfl, ri, rj⟩ := vals2 rv
        obtain ⟨t1, rfl⟩ := ri
        obtain ⟨t2, rfl⟩ := rj
        obtain rfl : u = Value.ref a := hv
        exact ⟨a, t1, t2, rfl, rfl, hl⟩
theorem prs_hold (I : Inv X pins σ H s) : ∀ {ps : List (Int × Int)} {vs : List V} {its : List Value}, RelDs X.K H (ps.map M.prV) vs → Vals vs its → PySem.W.HoldAll s.heap its ps
  | [], _, _, .nil, .nil => PySem.W.HoldAll.nil
  | p :: ps, _, _, .cons r rs, .cons v vs => by
    obtain ⟨a, t1, t2, rfl, rfl, hl⟩ := pr_rel I r v
    exact PySem.W.HoldAll.cons (PySem.W.holds_pair hl (PySem.W.holds_int _ _) (PySem.W.holds_int _ _)) (prs_hold I rs vs)
theorem minP_eq : ∀ (r : List (Int × Int)) (p : Int × Int), PySem.W.minOf p r = M.minP p r
  | [], p => rfl
  | i :: r, p => by
    show PySem.W.minOf (if PySem.W.DatumOrd.lt i p = true then i else p) r = M.minP (if M.ltP i p then i else p) r
    rw [minP_eq r]
    rfl
theorem onConsP_of {l : List (Int × Int)} {P : Int × Int → List (Int × Int) → Prop} (h : M.onConsP l P) : ∃ i r, l = i :: r ∧ P i r := by
  cases l with
  | cons i r => exact ⟨i, r, rfl, h⟩
  | nil => exact False.elim h
theorem RelDs.at {K : Frag} {H : Hp} : ∀ {ds : List M.D} {vs : List V} {i : Nat} {d : M.D}, RelDs K H ds vs → ds[i]? = some d → ∃ v, vs[i]? = some v ∧ RelD K H d v := fun r e => r.get e
end
section
variable {X : Cx}
theorem bi_minp (hc : X.calm = true) (hu : X.A.units + 64 < cLine) : CallR X (.builtin "min") (rBi X.K .minp) := by
  intro pins s σ H vs us Q I rv h
  obtain ⟨ds, S, Qd, r, rd, w, hq⟩ := h
  obtain ⟨d, rfl, w⟩ := arg1_of w
  obtain ⟨v, rfl, rx⟩ := rel1 rd
  obtain ⟨xs, e, w⟩ := opt_of w
  obtain ⟨ps, e2, w⟩ := opt_of w
  obtain ⟨p, ps, rfl, wq⟩ := onConsP_of w
  obtain ⟨a, ws, rfl, hs, hd⟩ := lsOf_rel r rx e
  have e3 := prs_map e2
  subst e3
  obtain ⟨its, rw', hl, _⟩ := I.list hs
  rw [Vals.ref1 rv]
  have hold := prs_hold I hd rw'
  have hdep : PySem.W.Datum.depth (Int × Int) ≤ 10 := by decide
  refine PySem.W.min_list_datum (x := p) (xs := ps) (I.ok.hd hc) hl.isList (by simpa using hold) (by omega) fun i v h' tk hi hh hk => ?_
  have hi' : its[i]? = some v := by simpa using hi
  obtain ⟨x, hx, hv⟩ := hold.at hi'
  obtain ⟨as1, r1⟩ := hv
  obtain ⟨as2, r2⟩ := hh
  obtain ⟨ed, _⟩ := reads_det (fun b o eb _ => hk b o eb) r1 r2
  have ex : PySem.W.minOf p ps = x := by
    have : PyData.tuple [.int (PySem.W.minOf p ps).1, .int (PySem.W.minOf p ps).2] = PyData.tuple [.int x.1, .int x.2] := ed
    injection this with this
    injection this with q1 this
    injection this with q2 _
    injection q1 with q1
    injection q2 with q2
    exact Prod.ext q1 q2
  obtain ⟨vv, hvv, rvv⟩ := hd.get (show ((p :: ps).map M.prV)[i]? = some (M.prV x) by rw [List.getElem?_map, hx]; rfl)
  obtain ⟨v', hv', rel⟩ := rw'.get hvv
  rw [hi'] at hv'
  injection hv' with hv'
  subst hv'
  rw [← minP_eq, ex] at wq
  exact ⟨vv, H, I.kept hk, rel, hq.same r rvv wq⟩
end
section
variable {X : Cx} {pins : List (Addr × Obj)} {σ : L2.St} {H : Hp} {s : Shared}
theorem pair_uniq {h : Heap} {v : Value} {x y x' y' : Int} (p : Srt.IsPair h v x y) (q : Srt.IsPair h v x' y') : x = x' ∧ y = y' := by
  obtain ⟨a, o, t, u, n, rfl, ho, hc, hd⟩ := p
  obtain ⟨a', o', t', u', n', e, ho', hc', hd'⟩ := q
  injection e with e
  subst e
  rw [ho] at ho'
  injection ho' with ho'
  subst ho'
  rw [hd] at hd'
  injection hd' with e1 _
  have e2 := congrArg Array.toList e1
  injection e2 with e3 e4
  injection e4 with e5 _
  injection e3 with e3 _
  injection e5 with e5 _
  exact ⟨e3, e5⟩
open Classical in
noncomputable def kOf (h : Heap) (v : Value) : Int × Int := if e : ∃ p : Int × Int, Srt.IsPair h v p.1 p.2 then e.choose else (0, 0)
theorem kOf_is {h : Heap} {v : Value} {p : Int × Int} (hp : Srt.IsPair h v p.1 p.2) : kOf h v = p := by
  have e : ∃ p : Int × Int, Srt.IsPair h v p.1 p.2 := ⟨p, hp⟩
  unfold kOf
  rw [dif_pos e]
  obtain ⟨h1, h2⟩ := pair_uniq e.choose_spec hp
  exact Prod.ext h1 h2
theorem prs_k (I : Inv X pins σ H s) : ∀ {ps : List (Int × Int)} {vs : List V} {its : List Value}, RelDs X.K H (ps.map M.prV) vs → Vals vs its → its.map (kOf s.heap) = ps ∧ ∀ v ∈ its, Srt.IsPair s.heap v (kOf s.heap v).1 (kOf s.heap v).2 ∧ (∃ a, v = Value.ref a) ∧ RelD X.K H (M.prV (kOf s.heap v)) (backV v)
  | [], _, _, .nil, .nil => ⟨rfl, fun v hv => by cases hv⟩
  | p :: ps, _, _, .cons r rs, .cons q qs => by
    obtain ⟨h1, h2⟩ := prs_k I rs qs
    obtain ⟨a, t1, t2, rfl, rfl, o, ho, hc, n, hd⟩ := pr_rel I r q
    have ip : Srt.IsPair s.heap (.ref a) p.1 p.2 := ⟨a, o, t1, t2, n, rfl, ho, hc, hd⟩
    have kp := kOf_is ip
    refine ⟨by rw [List.map_cons, kp, h1], fun v hv => ?_⟩
    rcases List.mem_cons.mp hv with rfl | hv
    · rw [kp]
      exact ⟨ip, ⟨a, rfl⟩, r⟩
    · exact h2 v hv
theorem rel_map {K : Frag} {H : Hp} {f : Value → M.D} {g : Value → V} : ∀ {l : List Value}, (∀ v ∈ l, RelD K H (f v) (g v)) → RelDs K H (l.map f) (l.map g)
  | [], _ => .nil
  | v :: l, h => .cons (h v List.mem_cons_self) (rel_map fun u hu => h u (List.mem_cons_of_mem _ hu))
end
section
variable {X : Cx}
theorem bi_sortp : CallR X (.builtin "sorted") (rBi X.K .sortp) := by
  intro pins s σ H vs us Q I rv h
  obtain ⟨ds, S, Qd, r, rd, w, hq⟩ := h
  obtain ⟨d, rfl, w⟩ := arg1_of w
  obtain ⟨v, rfl, rx⟩ := rel1 rd
  obtain ⟨xs, e, w⟩ := opt_of w
  obtain ⟨ps, e2, wq⟩ := opt_of w
  obtain ⟨a, ws, rfl, hs, hd⟩ := lsOf_rel r rx e
  have e3 := prs_map e2
  subst e3
  obtain ⟨its, rw', hl, hz⟩ := I.list hs
  rw [Vals.ref1 rv]
  obtain ⟨k1, k2⟩ := prs_k I hd rw'
  refine SrtO.sorted_pairsO (k := kOf s.heap) hl.isList (by rw [← rw'.length]; exact hz) (fun v hv => (k2 v hv).1) fun h' d out h1 h2 kp hd' hn => ?_
  have h3 : ∀ u ∈ out, ∃ a, u = Value.ref a := fun u hu => (k2 u (h2.perm.mem_iff.mp hu)).2.1
  obtain ⟨n, hn⟩ := hn
  have rel : RelDs X.K H ((out.map (kOf s.heap)).map M.prV) (out.map backV) := by
    rw [List.map_map]
    exact rel_map fun v hv => (k2 v (h2.perm.mem_iff.mp hv)).2.2
  have perm : (out.map (kOf s.heap)).Perm ps := by
    have := h2.perm.map (kOf s.heap)
    rwa [k1] at this
  have pw : (out.map (kOf s.heap)).Pairwise (fun p q => M.ltP q p = false) := List.pairwise_map.mpr h1
  refine ⟨.ref d, upd H d (.lst (out.map backV)), I.laid (t' := s.toks) kp hd' ⟨?_, out, n, vals_back h3, hn⟩, rfl, hq.newL r rel (wq _ perm pw) d (I.hok.fresh hd')⟩
  rw [List.length_map, h2.perm.length_eq, ← rw'.length]
  exact hz
end
end Snd
namespace Snd
open PySem PySem.Spec PyProof.Rows L2
/-! ### repr -/
mutual
def pyOf : M.P → PyData
  | .non => .none
  | .bl b => .bool b
  | .int i => .int i
  | .str x => .str (stx x)
  | .tup xs => .tuple (pyOfL xs)
  | .lst xs => .list (pyOfL xs)
  | .dic => .dict []
  | .dct kvs => .dict (pyOfK kvs)
def pyOfL : List M.P → List PyData
  | [] => []
  | x :: r => pyOf x :: pyOfL r
def pyOfK : List (M.Tx × M.P) → List (PyData × PyData)
  | [] => []
  | (k, x) :: r => (.str (stx k), pyOf x) :: pyOfK r
end
def rpF (p : M.P) : M.Tx := (pyOf p).shown.cps.toList
theorem stx_rpF (p : M.P) : stx (rpF p) = (pyOf p).shown := by
  unfold stx rpF
  rw [Array.toArray_toList]
section
variable {X : Cx} {pins : List (Addr × Obj)} {σ : Sl} {H : Hp} {s : Shared} {S : M.Sto}
theorem reads_all {f : M.D → M.P} {ok : M.D → Prop} (h : ∀ d v u, ok d → RelD X.K H d v → RelV v u → ∃ as, Reads s.heap u (pyOf (f d)) as) : ∀ {xs : List M.D} {vs : List V} {us : List Value}, (∀ y ∈ xs, ok y) → RelDs X.K H xs vs → Vals vs us → ∃ as, ReadsAll s.heap us (pyOfL (xs.map f)) as
  | [], _, _, _, .nil, .nil => ⟨_, .nil⟩
  | x :: xs, _, _, o, .cons a b, .cons c d => by
    obtain ⟨as, q1⟩ := h x _ _ (o x List.mem_cons_self) a c
    obtain ⟨bs, q2⟩ := reads_all h (fun y hy => o y (List.mem_cons_of_mem _ hy)) b d
    exact ⟨_, .cons q1 q2⟩
theorem reads_fit (I : Inv X pins σ H s) (r : RelS X.K H S) : ∀ (n : Nat) (d : M.D) (v : V) (u : Value), M.fitR n S d → RelD X.K H d v → RelV v u → ∃ as, Reads s.heap u (pyOf (M.toQ n S d)) as
  | 0, _, _, _, h, _, _ => False.elim h
  | n + 1, d, v, u, h, rd, rv => by
    have ih := reads_fit I r n
    unfold M.fitR at h
    unfold M.toQ
    cases rd with
    | non => cases rv; exact ⟨_, .none⟩
    | bl b => cases rv; exact ⟨_, .bool b⟩
    | int i => obtain ⟨t, rfl⟩ := rv; exact ⟨_, .int i t⟩
    | str x => obtain ⟨t, rfl⟩ := rv; exact ⟨_, .str _ t⟩
    | tup hs hd =>
      cases rv
      obtain ⟨its, rr, ⟨o, ho, hc, m, hdat⟩, _⟩ := I.tuple hs
      obtain ⟨as, q⟩ := reads_all ih h hd rr
      exact ⟨_, .tuple ho hc hdat q⟩
    | fl hs hd =>
      cases rv
      obtain ⟨its, rr, ⟨o, m, ho, hc, _, hdat⟩, _⟩ := I.list hs.sq
      obtain ⟨as, q⟩ := reads_all ih h hd rr
      exact ⟨_, .list ho hc hdat q⟩
    | ref a =>
      cases rv
      obtain ⟨xs, e, h⟩ := opt_of h
      obtain ⟨vs, h1, h2⟩ := r.at e
      obtain ⟨its, rr, ⟨o, m, ho, hc, _, hdat⟩, _⟩ := I.list (SqL.of h1)
      obtain ⟨as, q⟩ := reads_all ih h h2 rr
      simp only [lstAt_some e]
      exact ⟨_, .list ho hc hdat q⟩
    | xn _ => exact False.elim h
/-! ### with dicts within -/
theorem readsQ_all {f : M.D → M.P} {ok : M.D → Prop} (h : ∀ d v u, ok d → RelD X.K H d v → RelV v u → ∃ as, Reads s.heap u (pyOf (f d)) as ∧ sysModules ∉ as) : ∀ {xs : List M.D} {vs : List V} {us : List Value}, (∀ y ∈ xs, ok y) → RelDs X.K H xs vs → Vals vs us → ∃ as, ReadsAll s.heap us (pyOfL (xs.map f)) as ∧ sysModules ∉ as
  | [], _, _, _, .nil, .nil => ⟨_, .nil, fun z => nomatch z⟩
  | x :: xs, _, _, o, .cons a b, .cons c d => by
    obtain ⟨as, q1, n1⟩ := h x _ _ (o x List.mem_cons_self) a c
    obtain ⟨bs, q2, n2⟩ := readsQ_all h (fun y hy => o y (List.mem_cons_of_mem _ hy)) b d
    exact ⟨_, .cons q1 q2, fun z => (List.mem_append.mp z).elim n1 n2⟩
theorem kv_entries : ∀ {es : List (Key × Value)} {kvs : List (M.Tx × M.D)} {vs : List V}, KV ((kvs.map fun p => (Sum.inr (stx p.1) : Key)).zip vs) es → RelDs X.K H (kvs.map (·.2)) vs → Vals vs (es.map (·.2)) ∧ es.map (·.1) = kvs.map fun p => (Sum.inr (stx p.1) : Key)
  | es, [], vs, h, r => by
    cases r
    cases h
    exact ⟨.nil, rfl⟩
  | es, (k, d) :: kvs, vs, h, r => by
    cases r with
    | cons a b =>
      cases h with
      | cons c e =>
        obtain ⟨h1, h2⟩ := kv_entries e b
        exact ⟨.cons c.2 h1, by rw [List.map_cons, List.map_cons, h2, ← c.1]⟩
theorem keys_read : ∀ {us : List Value} {ks : List M.Tx}, Paired (fun (k : M.Tx) (u : Value) => ∃ t, u = Value.str (stx k) t) ks us → ReadsAll s.heap us (ks.map fun k => PyData.str (stx k)) []
  | _, [], .nil => .nil
  | _, k :: ks, .cons a b => by
    obtain ⟨t, rfl⟩ := a
    exact .cons (as := []) (bs := []) (.str _ t) (keys_read b)
theorem pyOfK_fst : ∀ kvs : List (M.Tx × M.P), (pyOfK kvs).map (·.1) = (kvs.map (·.1)).map fun k => PyData.str (stx k)
  | [] => rfl
  | (k, x) :: r => by simp only [pyOfK, List.map_cons, pyOfK_fst r]
theorem pyOfK_snd : ∀ kvs : List (M.Tx × M.P), (pyOfK kvs).map (·.2) = pyOfL (kvs.map (·.2))
  | [] => rfl
  | (k, x) :: r => by simp only [pyOfK, pyOfL, List.map_cons, pyOfK_snd r]
theorem ent_keys {P : Program} {w : World} : ∀ {es : List DictEntry} {vs : List (Key × Value)} {ks : List M.Tx}, Pairs (mixKind P w) es vs → vs.map (·.1) = ks.map (fun k => (Sum.inr (stx k) : Key)) → Paired (fun (k : M.Tx) (u : Value) => ∃ t, u = Value.str (stx k) t) ks (es.map (·.key)) ∧ es.map (·.val) = vs.map (·.2)
  | _, _, [], .nil, _ => ⟨.nil, rfl⟩
  | _, _, _ :: _, .nil, h => nomatch h
  | _, _, [], .cons _ _ _, h => nomatch h
  | _, _, k :: ks, .cons (e := e) (kv := v) a1 a2 b, h => by
    rw [List.map_cons, List.map_cons] at h
    injection h with h1 h2
    obtain ⟨g1, g2⟩ := ent_keys b h2
    have a1 : keyIs v.1 e.key = true := a1
    rw [h1] at a1
    refine ⟨.cons ?_ g1, by rw [List.map_cons, List.map_cons, g2, a2]⟩
    obtain ⟨t, e2⟩ := Value.isStrOf_shape (x := stx k) (v := e.key) a1
    exact ⟨t, e2⟩
/-- the place of the modules' table is no list -/
def SysK (K : Frag) : Prop := ∃ o, K.lookup sysModules = some o ∧ o.cls = .type "dict"
theorem SysK.ne (h : SysK X.K) (I : Inv X pins σ H s) {a : Addr} {o : Obj} (ho : s.heap.get? a = some o) (hc : o.cls = .type "list") : a ≠ sysModules := fun z => by
  obtain ⟨o', h1, h2⟩ := h
  have q := I.kIn _ _ h1
  rw [z, q] at ho
  cases ho
  rw [h2] at hc
  exact absurd hc (by decide)
theorem reads_fitQ (I : Inv X pins σ H s) (sy : SysK X.K) (r : RelS X.K H S) : ∀ (n : Nat) (d : M.D) (v : V) (u : Value), M.fitQ n S d → RelD X.K H d v → RelV v u → ∃ as, Reads s.heap u (pyOf (M.toQ n S d)) as ∧ sysModules ∉ as
  | 0, _, _, _, h, _, _ => False.elim h
  | n + 1, d, v, u, h, rd, rv => by
    have ih := reads_fitQ I sy r n
    unfold M.fitQ at h
    unfold M.toQ
    cases rd with
    | non => cases rv; exact ⟨_, .none, fun z => nomatch z⟩
    | bl b => cases rv; exact ⟨_, .bool b, fun z => nomatch z⟩
    | int i => obtain ⟨t, rfl⟩ := rv; exact ⟨_, .int i t, fun z => nomatch z⟩
    | str x => obtain ⟨t, rfl⟩ := rv; exact ⟨_, .str _ t, fun z => nomatch z⟩
    | tup hs hd =>
      cases rv
      obtain ⟨its, rr, ⟨o, ho, hc, m, hdat⟩, _⟩ := I.tuple hs
      obtain ⟨as, q, nq⟩ := readsQ_all ih h hd rr
      exact ⟨_, .tuple ho hc hdat q, nq⟩
    | fl hs hd =>
      cases rv
      obtain ⟨its, rr, ⟨o, m, ho, hc, _, hdat⟩, _⟩ := I.list hs.sq
      obtain ⟨as, q, nq⟩ := readsQ_all ih h hd rr
      exact ⟨_, .list ho hc hdat q, fun z => (List.mem_cons.mp z).elim (fun z => sy.ne I ho hc z.symm) nq⟩
    | ref a =>
      cases rv
      have h : M.fitO (M.fitQ n S) (S a) := h
      cases e : S a with
      | none => rw [e] at h; exact False.elim h
      | some o =>
        rw [e] at h
        cases o with
        | lst xs =>
          obtain ⟨vs, h1, h2⟩ := r a _ e
          obtain ⟨its, rr, ⟨o, m, ho, hc, _, hdat⟩, _⟩ := I.list (SqL.of h1)
          obtain ⟨as, q, nq⟩ := readsQ_all ih h h2 rr
          simp only [e]
          exact ⟨_, .list ho hc hdat q, fun z => (List.mem_cons.mp z).elim (fun z => sy.ne I ho hc z.symm) nq⟩
        | dic =>
          have hH : H a = some (.dK []) := r a _ e
          obtain ⟨z, hS, vs, kv, o, es, ep, ho, hc, hdat, hk, hp, hn⟩ := dk_of I.hok hH
          have hne : a ≠ sysModules := by simpa using hS
          cases kv
          have hes : es.toList = [] := List.eq_nil_of_length_eq_zero (hp.length)
          simp only [e]
          refine ⟨a :: [] ++ [], .dict (kvs := []) (as := []) (bs := []) ho hc.1 hdat (by rw [hes]; exact .nil) (by rw [hes]; exact .nil), ?_⟩
          simp [Ne.symm hne]
        | dct kvs =>
          obtain ⟨ws, hH, h2⟩ := r a _ e
          obtain ⟨z, hS, vs, kv, o, es, ep, ho, hc, hdat, hk, hp, hn⟩ := dk_of I.hok hH
          have hne : a ≠ sysModules := by simpa using hS
          obtain ⟨g1, g2⟩ := kv_entries kv h2
          have g2' : vs.map (·.1) = (kvs.map (·.1)).map fun k => (Sum.inr (stx k) : Key) := by rw [g2, List.map_map]; rfl
          obtain ⟨k1, k2⟩ := ent_keys hp g2'
          simp only [e]
          obtain ⟨bs, q, nq⟩ := readsQ_all (f := M.toQ n S) (ok := M.fitQ n S) ih (fun y hy => by
            obtain ⟨p, hp', rfl⟩ := List.mem_map.mp hy
            exact (h.2 p hp').2) h2 g1
          refine ⟨a :: [] ++ bs, .dict (kvs := pyOfK (kvs.map fun p : M.Tx × M.D => (p.1, M.toQ n S p.2))) (as := []) (bs := bs) ho hc.1 hdat ?_ ?_, ?_⟩
          · have e2 : (kvs.map fun p : M.Tx × M.D => (p.1, M.toQ n S p.2)).map (·.1) = kvs.map (·.1) := by rw [List.map_map]; rfl
            rw [pyOfK_fst, e2]
            exact keys_read k1
          · rw [pyOfK_snd, List.map_map, k2]
            rw [List.map_map] at q
            exact q
          · intro z
            rcases List.mem_append.mp z with z | z
            · rcases List.mem_cons.mp z with z | z
              · exact hne z.symm
              · cases z
            · exact nq z
    | xn _ => exact False.elim h
end
/-- what is needed of a readable value -/
structure Shw (p : M.P) (n z : Nat) : Prop where
  nd : (pyOf p).hasDict = false
  sh : (pyOf p).showable = true
  dp : (pyOf p).depth ≤ n
  ln : (pyOf p).shown.length ≤ z
theorem shw_all {f : M.D → M.P} {g : M.D → Nat} {n : Nat} {ok : M.D → Prop} (h : ∀ d, ok d → Shw (f d) n (g d)) : ∀ {xs : List M.D}, (∀ y ∈ xs, ok y) →
    PyData.hasDictAll (pyOfL (xs.map f)) = false ∧ PyData.showableAll (pyOfL (xs.map f)) = true ∧ PyData.depthAll (pyOfL (xs.map f)) ≤ n ∧ ((PyData.shownAll (pyOfL (xs.map f))).map (·.length)).sum + 2 * (PyData.shownAll (pyOfL (xs.map f))).length ≤ M.sumN (xs.map fun y => g y + 2)
  | [], _ => by simp [pyOfL, PyData.hasDictAll, PyData.showableAll, PyData.depthAll, PyData.shownAll, M.sumN]
  | x :: xs, o => by
    obtain ⟨a1, a2, a3, a4⟩ := shw_all h (xs := xs) fun y hy => o y (List.mem_cons_of_mem _ hy)
    obtain ⟨b1, b2, b3, b4⟩ := h x (o x List.mem_cons_self)
    simp only [List.map_cons, pyOfL, PyData.hasDictAll, PyData.showableAll, PyData.depthAll, PyData.shownAll, M.sumN, a1, a2, b1, b2, List.sum_cons, List.length_cons]
    refine ⟨rfl, rfl, Nat.max_le.mpr ⟨b3, a3⟩, by omega⟩
theorem shw_fit : ∀ (n : Nat) (S : M.Sto) (d : M.D), M.fitR n S d → Shw (M.toQ n S d) n (M.szR n S d)
  | 0, _, _, h => False.elim h
  | n + 1, S, d, h => by
    have ih := fun d => shw_fit n S d
    unfold M.fitR at h
    unfold M.toQ M.szR
    cases d with
    | non => exact ⟨by simp [pyOf, PyData.hasDict], by simp [pyOf, PyData.showable], by simp [pyOf, PyData.depth], by simp only [pyOf]; exact (show (PyData.shown .none).length ≤ 4 by decide +kernel)⟩
    | bl b => exact ⟨by simp [pyOf, PyData.hasDict], by simp [pyOf, PyData.showable], by simp [pyOf, PyData.depth], by simp only [pyOf]; cases b <;> decide +kernel⟩
    | int i =>
      have hl : i.natAbs.log2 < 1900 := log_lt (by decide) h
      refine ⟨by simp [pyOf, PyData.hasDict], by simp only [pyOf, PyData.showable]; exact decide_eq_true (by omega), by simp [pyOf, PyData.depth], ?_⟩
      simp only [pyOf, PyData.shown]
      have e := int_text_length_le (a := i) (k := 1900) (by decide) hl
      have e2 : (Str.ofString (toString i)).length ≤ 1901 := by
        rw [Str.ofString_eq_toList]
        show (List.toArray _).size ≤ _
        rw [List.size_toArray, List.length_map, String.length_toList]; exact e
      exact Nat.le_trans e2 (by decide)
    | str x =>
      refine ⟨by simp [pyOf, PyData.hasDict], by simp [pyOf, PyData.showable], by simp [pyOf, PyData.depth], ?_⟩
      simp only [pyOf, PyData.shown]
      have e := StrLaws.reprText_len (stx x) (fun c hc => by
        rw [stx_cps] at hc
        have := h c hc
        have e16 : (16 : Nat) ^ 8 = 4294967296 := by decide
        omega)
      rw [stx_len] at e
      exact e
    | tup xs =>
      obtain ⟨a1, a2, a3, a4⟩ := shw_all ih h
      refine ⟨by simp only [pyOf, PyData.hasDict]; exact a1, by simp only [pyOf, PyData.showable]; exact a2, by simp only [pyOf, PyData.depth]; omega, ?_⟩
      simp only [pyOf, PyData.shown]
      have := tupleText_len_le (PyData.shownAll (pyOfL (xs.map (M.toQ n S))))
      omega
    | fl xs =>
      obtain ⟨a1, a2, a3, a4⟩ := shw_all ih h
      refine ⟨by simp only [pyOf, PyData.hasDict]; exact a1, by simp only [pyOf, PyData.showable]; exact a2, by simp only [pyOf, PyData.depth]; omega, ?_⟩
      simp only [pyOf, PyData.shown]
      have := listText_len_le (PyData.shownAll (pyOfL (xs.map (M.toQ n S))))
      omega
    | ref a =>
      obtain ⟨xs, e, h⟩ := opt_of h
      obtain ⟨a1, a2, a3, a4⟩ := shw_all ih h
      simp only [lstAt_some e]
      refine ⟨by simp only [pyOf, PyData.hasDict]; exact a1, by simp only [pyOf, PyData.showable]; exact a2, by simp only [pyOf, PyData.depth]; omega, ?_⟩
      simp only [pyOf, PyData.shown]
      have := listText_len_le (PyData.shownAll (pyOfL (xs.map (M.toQ n S))))
      omega
    | xn c fs => exact False.elim h
structure Shq (p : M.P) (n z : Nat) : Prop where
  sh : (pyOf p).showable = true
  dp : (pyOf p).depth ≤ n
  ln : (pyOf p).shown.length ≤ z
theorem shq_all {f : M.D → M.P} {g : M.D → Nat} {n : Nat} {ok : M.D → Prop} (h : ∀ d, ok d → Shq (f d) n (g d)) : ∀ {xs : List M.D}, (∀ y ∈ xs, ok y) →
    PyData.showableAll (pyOfL (xs.map f)) = true ∧ PyData.depthAll (pyOfL (xs.map f)) ≤ n ∧ ((PyData.shownAll (pyOfL (xs.map f))).map (·.length)).sum + 2 * (PyData.shownAll (pyOfL (xs.map f))).length ≤ M.sumN (xs.map fun y => g y + 2)
  | [], _ => by simp [pyOfL, PyData.showableAll, PyData.depthAll, PyData.shownAll, M.sumN]
  | x :: xs, o => by
    obtain ⟨a2, a3, a4⟩ := shq_all h (xs := xs) fun y hy => o y (List.mem_cons_of_mem _ hy)
    obtain ⟨b2, b3, b4⟩ := h x (o x List.mem_cons_self)
    simp only [List.map_cons, pyOfL, PyData.showableAll, PyData.depthAll, PyData.shownAll, M.sumN, a2, b2, List.sum_cons, List.length_cons]
    refine ⟨rfl, Nat.max_le.mpr ⟨b3, a3⟩, by omega⟩
theorem shw_str (x : M.Tx) (h : ∀ c ∈ x, c < 1114112) : (PyData.str (stx x)).shown.length ≤ 10 * x.length + 2 := by
  simp only [PyData.shown]
  have e := StrLaws.reprText_len (stx x) (fun c hc => by
    rw [stx_cps] at hc
    have := h c hc
    have e16 : (16 : Nat) ^ 8 = 4294967296 := by decide
    omega)
  rw [stx_len] at e
  exact e
theorem shq_kv {f : M.D → M.P} {g : M.D → Nat} {n : Nat} {ok : M.D → Prop} (h : ∀ d, ok d → Shq (f d) n (g d)) : ∀ {xs : List (M.Tx × M.D)}, (∀ p ∈ xs, (∀ c ∈ p.1, c < 1114112) ∧ ok p.2) →
    PyData.showableKv (pyOfK (xs.map fun p => (p.1, f p.2))) = true ∧ PyData.depthKv (pyOfK (xs.map fun p => (p.1, f p.2))) ≤ max n 1 ∧ ((PyData.shownKv (pyOfK (xs.map fun p => (p.1, f p.2)))).map (·.length)).sum + 2 * (PyData.shownKv (pyOfK (xs.map fun p => (p.1, f p.2)))).length ≤ M.sumN (xs.map fun p => 10 * p.1.length + 2 + g p.2 + 4)
  | [], _ => by simp [pyOfK, PyData.showableKv, PyData.depthKv, PyData.shownKv, M.sumN]
  | x :: xs, o => by
    obtain ⟨a2, a3, a4⟩ := shq_kv h (xs := xs) fun y hy => o y (List.mem_cons_of_mem _ hy)
    obtain ⟨o1, o2⟩ := o x List.mem_cons_self
    obtain ⟨b2, b3, b4⟩ := h x.2 o2
    have b1 := shw_str x.1 o1
    simp only [List.map_cons, pyOfK, PyData.showableKv, PyData.depthKv, PyData.shownKv, M.sumN, a2, b2, List.sum_cons, List.length_cons]
    refine ⟨by simp [PyData.showable], Nat.max_le.mpr ⟨Nat.max_le.mpr ⟨by simp [PyData.depth], by omega⟩, a3⟩, ?_⟩
    rw [strLen_append, strLen_append]
    have : ((": " : Str)).length = 2 := rfl
    omega
theorem shq_fit : ∀ (n : Nat) (S : M.Sto) (d : M.D), M.fitQ n S d → Shq (M.toQ n S d) (n + 1) (M.szR n S d)
  | 0, _, _, h => False.elim h
  | n + 1, S, d, h => by
    have ih := fun d => shq_fit n S d
    unfold M.fitQ at h
    unfold M.toQ M.szR
    cases d with
    | non => exact ⟨by simp [pyOf, PyData.showable], by simp [pyOf, PyData.depth], by simp only [pyOf]; exact (show (PyData.shown .none).length ≤ 4 by decide +kernel)⟩
    | bl b => exact ⟨by simp [pyOf, PyData.showable], by simp [pyOf, PyData.depth], by simp only [pyOf]; cases b <;> decide +kernel⟩
    | int i =>
      have q := shw_fit 1 S (.int i) h
      exact ⟨q.sh, Nat.le_trans q.dp (by omega), q.ln⟩
    | str x => exact ⟨by simp [pyOf, PyData.showable], by simp [pyOf, PyData.depth], by simp only [pyOf]; exact shw_str x h⟩
    | tup xs =>
      obtain ⟨a2, a3, a4⟩ := shq_all ih h
      refine ⟨by simp only [pyOf, PyData.showable]; exact a2, by simp only [pyOf, PyData.depth]; omega, ?_⟩
      simp only [pyOf, PyData.shown]
      have := tupleText_len_le (PyData.shownAll (pyOfL (xs.map (M.toQ n S))))
      omega
    | fl xs =>
      obtain ⟨a2, a3, a4⟩ := shq_all ih h
      refine ⟨by simp only [pyOf, PyData.showable]; exact a2, by simp only [pyOf, PyData.depth]; omega, ?_⟩
      simp only [pyOf, PyData.shown]
      have := listText_len_le (PyData.shownAll (pyOfL (xs.map (M.toQ n S))))
      omega
    | ref a =>
      have h : M.fitO (M.fitQ n S) (S a) := h
      cases e : S a with
      | none => rw [e] at h; exact False.elim h
      | some o =>
        rw [e] at h
        cases o with
        | lst xs =>
          obtain ⟨a2, a3, a4⟩ := shq_all ih h
          simp only [e]
          refine ⟨by simp only [pyOf, PyData.showable]; exact a2, by simp only [pyOf, PyData.depth]; omega, ?_⟩
          simp only [pyOf, PyData.shown]
          have := listText_len_le (PyData.shownAll (pyOfL (xs.map (M.toQ n S))))
          omega
        | dic =>
          simp only [e]
          exact ⟨by simp [pyOf, PyData.showable, PyData.showableKv], by simp [pyOf, PyData.depth, PyData.depthKv], by simp only [pyOf]; decide +kernel⟩
        | dct kvs =>
          obtain ⟨a2, a3, a4⟩ := shq_kv ih h.2
          simp only [e]
          refine ⟨by simp only [pyOf, PyData.showable]; exact a2, by simp only [pyOf, PyData.depth]; omega, ?_⟩
          simp only [pyOf, PyData.shown]
          have := dictText_len_le (PyData.shownKv (pyOfK (kvs.map fun p : M.Tx × M.D => (p.1, M.toQ n S p.2))))
          omega
    | xn c fs => exact False.elim h
def rRep (K : Frag) : List V → Hp → VK → Prop := fun vs H Q => ∃ x v S Qd, vs = [v] ∧ RelS K H S ∧ RelD K H x v ∧ M.fitD S x ∧ M.szR M.dep S x ≤ M.lim ∧ Qd (.str (rpF (M.toQ M.dep S x))) S ∧ OkV K S H Qd Q
theorem bi_rep {X : Cx} (hg : X.A.guards = some []) (hu : X.A.units + 64 < cLine) (sy : SysK X.K) : CallR X (.builtin "repr") (rRep X.K) := by
  intro pins s σ H vs us Q I rv h
  obtain ⟨x, v, S, Qd, rfl, r, rd, ft, hz, w, hq⟩ := h
  obtain ⟨u, rfl, r1⟩ := vals1 rv
  have fin : ∀ {h' : Heap} {t : Tok} {tk : Nat}, (∀ b o, s.heap.get? b = some o → h'.get? b = some o) → EP X pins σ Q (.str (pyOf (M.toQ M.dep S x)).shown t) { s with heap := h', toks := tk } := fun {h' t tk} hk =>
    ⟨.str (stx (rpF (M.toQ M.dep S x))), H, I.kept (t' := tk) hk, ⟨t, by rw [stx_rpF]⟩, hq.same r (.str _) w⟩
  have hL : M.lim = sizeLine := lim_eq
  have hdep : M.dep = 8 := rfl
  have go : ∀ {as}, Reads s.heap u (pyOf (M.toQ M.dep S x)) as → ((pyOf (M.toQ M.dep S x)).hasDict = true → sysModules ∉ as) → (pyOf (M.toQ M.dep S x)).showable = true → (pyOf (M.toQ M.dep S x)).depth ≤ 9 → (pyOf (M.toQ M.dep S x)).shown.length ≤ M.szR M.dep S x → wpAny (model X.prog X.w) X.A (call (.builtin "repr") [u]) (EP X pins σ Q) X.xe s := by
    intro as hr hs a2 a3 a4
    have hz2 : (pyOf (M.toQ M.dep S x)).shown.length ≤ sizeLine := by omega
    generalize hp : pyOf (M.toQ M.dep S x) = p at *
    cases hr with
    | none => exact PySem.P.repr_of_none (fin (fun b o e => e))
    | bool b => exact PySem.P.repr_of_bool (fin (fun b o e => e))
    | int i t => exact PySem.P.repr_of_int (by simpa [PyData.showable] using a2) (fin (fun b o e => e))
    | str x t => exact PySem.P.repr_of_str (fin (fun b o e => e)) hz2
    | list h1 h2 h3 h4 => exact repr_of_reads' (.list h1 h2 h3 h4) a2 hs hg (by omega) (fun b o e => e) (fun h' u tk hk => fin hk) hz2
    | tuple h1 h2 h3 h4 => exact repr_of_reads' (.tuple h1 h2 h3 h4) a2 hs hg (by omega) (fun b o e => e) (fun h' u tk hk => fin hk) hz2
    | dict h1 h2 h3 h4 h5 => exact repr_of_reads' (.dict h1 h2 h3 h4 h5) a2 hs hg (by omega) (fun b o e => e) (fun h' u tk hk => fin hk) hz2
  rcases ft with ft | ft
  · have ft : M.fitQ M.dep S x := by
      rcases ft with ft | ft
      · cases x with
        | ref a =>
          have ft' : M.isDic (S a) := ft
          show M.fitO (M.fitQ 7 S) (S a)
          cases e : S a with
          | none => rw [e] at ft'; exact False.elim ft'
          | some o => cases o with
            | lst xs => rw [e] at ft'; exact False.elim ft'
            | dic => exact True.intro
            | dct kvs => rw [e] at ft'; exact False.elim ft'
        | _ => exact False.elim ft
      · exact ft
    obtain ⟨a2, a3, a4⟩ := shq_fit M.dep S x ft
    obtain ⟨as, hr, hn⟩ := reads_fitQ I sy r M.dep x v u ft rd r1
    exact go hr (fun _ => hn) a2 (by omega) a4
  · obtain ⟨a1, a2, a3, a4⟩ := shw_fit M.dep S x ft
    obtain ⟨as, hr⟩ := reads_fit I r M.dep x v u ft rd r1
    exact go hr (PyData.noDict_hsm a1) a2 (by omega) a4
end Snd
namespace Snd
open PySem PySem.Spec PyProof.Rows L2
/-! ### an error that is caught is tracked -/
section
variable {X : Cx} {pins : List (Addr × Obj)} {σ : Sl} {H : Hp} {s : Shared}
theorem xo_ok {P : Program} {w : World} {H : Hp} {h : Heap} {C a : Addr} {oe : Obj} {vs : Array Value} (e : h.get? a = some oe) (z : Zc (.ref C) none oe) (d : oe.data = .fields vs) : ObjOk P w H h a (XO C a) :=
  ⟨⟨oe, vs, e, z, d⟩, ⟨oe, e⟩, fun _ _ ⟨o, v, q, r⟩ k => ⟨o, v, k o q, r⟩⟩
/-- what stands there and isn't tracked, tracked from now on -/
theorem track {a : Addr} {o : HO} {oe : Obj} {vs : Array Value} (I : Inv X pins σ H s) (hex : X.ex = []) (n0 : X.s_0.heap.get? a = none) (ha : s.heap.get? a = some oe) (hd : oe.data = .fields vs) (na : H a = none) (nL : a ≠ X.env.locals)
    (np : ∀ p ∈ X.pn ++ pins, p.1 ≠ a) (new : ObjOk X.prog X.w (L2.upd H a o) s.heap a o) : Inv X pins σ (L2.upd H a o) s where
  ok := I.ok
  os := I.os
  bare := I.bare
  base := {
    keep := I.base.keep
    slot := I.base.slot
    free := fun b ob e n hb => by
      have hne : b ≠ a := fun z => by rw [z, n0] at e; cases e
      rw [L2.upd_ne hne]
      exact I.base.free b ob e n hb
    there := I.base.there
    tups := fun b xs e => by
      have q := I.base.tups b xs e
      have hne : b ≠ a := fun z => by rw [z, na] at q; cases q
      rw [L2.upd_ne hne]; exact q
    frzs := fun b ob u e => by
      have q := I.base.frzs b ob u e
      have hne : b ≠ a := fun z => by rw [z, na] at q; cases q
      rw [L2.upd_ne hne]; exact q
    tbls := fun b ps e => by
      obtain ⟨m, q⟩ := I.base.tbls b ps e
      have hne : b ≠ a := fun z => by rw [z, na] at q; cases q
      exact ⟨m, by rw [L2.upd_ne hne]; exact q⟩ }
  loc := I.loc
  cell := I.cell
  free := by rw [L2.upd_ne (Ne.symm nL)]; exact I.free
  freeC := fun x c e => by
    have hne : c ≠ a := fun z => by
      obtain ⟨v, ob, h1, h2⟩ := I.cell x c e
      rw [z, ha] at h1
      cases h1
      rw [hd] at h2; cases h2
    rw [L2.upd_ne hne]; exact I.freeC x c e
  pin := fun p hp => by
    obtain ⟨q1, q2, q3⟩ := I.pin p hp
    exact ⟨q1, by rw [L2.upd_ne (np p hp)]; exact q2, q3⟩
  hok := I.hok.laidN (fun _ _ e => e) na new
  len := I.len
theorem Inv.suiteT (I : Inv X pins σ H s) (a : Addr) : Inv (X.suite a (X.pn ++ pins)) [] σ H s :=
  ⟨I.ok.suite _ _, I.os, I.bare, I.base, I.loc, I.cell, I.free, I.freeC, fun p hp => I.pin p (by rw [List.append_nil] at hp; exact hp), I.hok, I.len⟩
theorem Inv.unsuiteT {a : Addr} {pn' : List (Addr × Obj)} (I : Inv (X.suite a (X.pn ++ pins)) pn' σ H s) (ok : X.Ok) : Inv X pins σ H s :=
  ⟨ok, I.os, I.bare, I.base, I.loc, I.cell, I.free, I.freeC, fun p hp => I.pin p (List.mem_append_left _ hp), I.hok, I.len⟩
end
/-- the wish of a try: caught, the error stands at a new place -/
def wAsT (K : Frag) (c : Value) (i : Nat) (ts : Addr → TS) (Wout : WX) (D : Ends) : WX := fun cls d σ H => ∃ b, PySem.W.exmOne K cls c = some b ∧
  (b = true → d = none ∧ ∃ C, cls = .ref C ∧ ∀ a, H a = none → ts a { nx := fun σ' H' => D.nx (σ'.set i none) H', rt := D.rt, bk := fun σ' H' => D.bk (σ'.set i none) H', ct := fun σ' H' => D.ct (σ'.set i none) H' } (σ.set i (some (.ref a))) (L2.upd H a (XO C a))) ∧ (b = false → Wout cls d σ H)
section
variable {X : Cx} {x n : Str} {c : Value} {i : Nat} {body suite : List Stmt} {b₀ : Stmt} {np pos pos' : Pos} {tb : WX → TS} {ts : Addr → TS} {Wout : WX}
theorem ps_try_asT (hs : X.stack = X.env :: X.outer) (hf : X.env.frame = some X.env.locals) (hex : X.ex = []) (hN : X.N.Nodup) (hi : X.N[i]? = some n) (hln : X.env.kindOf n = some .local) (hc : Names X x c) (tk : Takes X Wout)
    (hb : ∀ (W : WX) (pn : List (Addr × Obj)) (xe : Value → Shared → Prop), Takes (X.tr pn xe) W → PassesOwn (model X.prog X.w) X.A X.env xe → PSs (X.tr pn xe) body (tb W))
    (hsu : ∀ (a : Addr) (pn : List (Addr × Obj)), PSs (X.suite a pn) (b₀ :: suite) (ts a)) :
    PS X (.Try body [.ExceptHandler (some (.Name x np)) (some n) (b₀ :: suite) pos'] [] [] pos) (fun D σ H => tb (wAsT X.K c i ts Wout D) D σ H) := by
  refine ⟨fun pins s σ H D I h => ?_⟩
  have ok := I.ok
  have hfr : X.A.frames = some (X.env :: X.outer) := by rw [ok.frames, hs]
  have hloc : Loc X.env.scope n := .inl hln
  refine wpAny_Try_except ?_
  refine wpAny_mono ((hb (wAsT X.K c i ts Wout D) (X.pn ++ pins) (fun e s₁ => wpAny (model X.prog X.w) X.A (noteFrame e X.env) (fun _ s₂ => wpAny (model X.prog X.w) X.A (setFlight e none) (fun _ s₃ =>
    wpAny (model X.prog X.w) X.A (handleBy e X.env [.ExceptHandler (some (.Name x np)) (some n) (b₀ :: suite) pos']) (SP X pins D) X.xe s₃) X.xe s₂) X.xe s₁) (fun u s' xx => ?_) PassesOwn.looking).run [] s σ H D (I.toTry _) h) (fun f s1 hsp => ?_) (fun e s1 he => he)
  · -- the catch
    obtain ⟨a, B, sI, pins', σ', H', cls, d, rfl, J', nb, up, sky, na, os, ag, b, hb1, hyes, hno⟩ := xx
    have J : Inv X pins σ' H' sI := J'.ofTry ok
    have sky' : Sky B (X.env :: X.outer) a (Zc cls d) X.env.locals s'.heap := by rw [← hs]; exact sky
    show wpAny (model X.prog X.w) X.A (noteFrame (.ref a) X.env) _ _ _
    refine Sky.land Zc.steady hfr hf sky' fun h3 fl3 up3 => ?_
    have J3 : Inv X pins σ' H' { s' with heap := h3 } := J.landed nb fl3.1 (up.trans up3) os ag
    obtain ⟨oe3, vs3, he3, hz3, hd3⟩ := fl3.there
    have notFr : ∀ {h : Heap} {o : Obj} {vs : Array Value}, h.FunFrames B (X.env :: X.outer) → h.get? a = some o → o.data = .fields vs → a ∉ frs (X.env :: X.outer) := fun {h o vs} ff e dd hm => by
      obtain ⟨_, o', e', hnf⟩ := ff.mem hm
      rw [e] at e'; cases e'
      exact hnf _ dd
    have nfr := notFr fl3.2.2.1 he3 hd3
    have nL : a ≠ X.env.locals := fun z => nfr (List.mem_filterMap.mpr ⟨X.env, List.mem_cons_self, by rw [hf, z]⟩)
    have nF : a ∉ X.fs := fun hm => by
      obtain ⟨e, he, q⟩ := List.mem_filterMap.mp hm
      exact nfr (List.mem_filterMap.mpr ⟨e, List.mem_cons_of_mem _ he, q⟩)
    have nI : sI.heap.get? a = none := by
      cases q : sI.heap.get? a with
      | none => rfl
      | some o =>
        have z := nb a o q (by rw [hs]; exact nfr)
        rw [fl3.2.1] at z; cases z
    have n0 : X.s_0.heap.get? a = none := by
      cases q : X.s_0.heap.get? a with
      | none => rfl
      | some o =>
        obtain ⟨o', z⟩ := J.base.there a o q (by rw [hex]; exact fun z => nomatch z)
        rw [nI] at z; cases z
    have npn : ∀ p ∈ X.pn ++ pins, p.1 ≠ a := fun p hp z => by
      have q := (J.pin p hp).1
      rw [z, nI] at q; cases q
    have S3 := J3.suite he3 hd3 na nL nF
    refine wpAny_handleBy_cons (codeAny_handlers_test ?_) (by intro q; cases q)
    have LT : PySem.W.Looks (model X.prog X.w) h3 (typeOf (.ref a)) cls := fun A Q E s k q => wpAny_typeOf_ref (k _ _ he3) (by rw [hz3.1]; exact q)
    have LM := PySem.W.exm_one (M := model X.prog X.w) (J3.kIn) LT hb1
    have test : ∀ {Q : Value → Shared → Prop} {E : Value → Shared → Prop}, Q c { s' with heap := h3 } → wpAny (model X.prog X.w) (X.A.mark (some (.ref a))) (eval (.Name x np) X.env) Q E { s' with heap := h3 } := fun {Q E} q => by
      obtain ⟨hg, hdbg, hm | ⟨hm, hv, hnn⟩⟩ := hc
      · exact ld_glob (X := X.suite a ((a, oe3) :: (X.pn ++ pins))) S3 hg hm q hdbg
      · exact ld_blt (X := X.suite a ((a, oe3) :: (X.pn ++ pins))) S3 hg hm hv q hnn hdbg
    refine test (LM.here ?_)
    cases b with
    | true =>
      obtain ⟨ed, C, ec, hyes2⟩ := hyes rfl
      subst ed ec
      refine codeAny_handlers_suite_as ?_
      refine HandSPX.lands_againZ fl3 fun h4 fl4 up4 => ?_
      have J4 : Inv X pins σ' H' { s' with heap := h4 } := J.landed nb fl4.1 ((up.trans up3).trans up4) os ag
      obtain ⟨oe4, vs4, he4, hz4, hd4⟩ := fl4.there
      have J5 : Inv X pins σ' (L2.upd H' a (XO C a)) { s' with heap := h4 } := track J4 hex n0 he4 hd4 na nL npn (xo_ok he4 hz4 hd4)
      have S4 := Inv.suiteT J5 a
      refine store_ok (X := X.suite a (X.pn ++ pins)) (v := .ref a) S4 hN hi hloc rfl (fun s5 S5 => ?_) (.inr hln)
      refine wpAny_mono ((hsu a (X.pn ++ pins)).run [] s5 _ _ _ S5 (hyes2 a na)) (fun f s6 hsp => ?_) (fun _ _ z => False.elim z)
      have end_ : ∀ {σ6 : Sl} {H6 : Hp} {Q : Shared → Prop}, Inv (X.suite a (X.pn ++ pins)) [] σ6 H6 s6 → (∀ s7, Inv X pins (σ6.set i none) H6 s7 → Q s7) →
          wpAny (model X.prog X.w) X.A (do bindName X.env n .none; unbindBehindTheSuite X.env n pos') (fun _ s7 => Q s7) X.xe s6 := fun {σ6 H6 Q} S6 hq => gone_ok (Inv.unsuiteT S6 ok) hN hi hln hq
      cases f with
      | next =>
        obtain ⟨σ6, H6, S6, q6⟩ := hsp
        exact end_ S6 fun s7 J7 => ⟨_, _, J7, q6⟩
      | brk =>
        obtain ⟨σ6, H6, S6, q6⟩ := hsp
        exact end_ S6 fun s7 J7 => ⟨_, _, J7, q6⟩
      | cont =>
        obtain ⟨σ6, H6, S6, q6⟩ := hsp
        exact end_ S6 fun s7 J7 => ⟨_, _, J7, q6⟩
      | ret u =>
        obtain ⟨v6, σ6, H6, S6, r6, q6⟩ := hsp
        exact end_ S6 fun s7 J7 => ⟨_, _, _, J7, r6, q6⟩
    | false =>
      show wpAny _ X.A (handleBy (.ref a) X.env []) _ _ _
      refine wpAny_handleBy_nil ?_
      obtain ⟨k1, k2, k3, oe, vs, T, oT, ts', he, hz, hd, h1, hr⟩ := id fl3
      unfold PySem.passOn
      refine wpAny_bind (wpAny_field he hd h1 ?_)
      rw [if_neg (show ¬ ((Value.ref T == Value.none) = true) from by simp)]
      have fin : wpAny (model X.prog X.w) X.A (setFlight (.ref a) X.env.frame) (fun _ s4 => wpAny (model X.prog X.w) X.A (throw (.ref a) : Sem Flow) (SP X pins D) X.xe s4) X.xe { s' with heap := h3 } := by
        rw [hf]
        refine HandSPX.setFlight_upZ fl3 fun h4 hh4 up4 => wpAny_throw (tk _ _ ?_)
        exact ⟨a, B, sI, pins, σ', H', cls, d, rfl, J, nb, (up.trans up3).trans up4, .inr (.inr (by rw [hs]; exact hh4)), na, os, ag, hno rfl⟩
      first
        | exact wpAny_bind (wpAny_pure (wpAny_bind fin))
        | exact wpAny_bind fin
  · cases f with
    | next =>
      obtain ⟨σ', H', J', q⟩ := hsp
      exact wpAny_execs_nil ⟨σ', H', J'.ofTry ok, q⟩
    | brk =>
      obtain ⟨σ', H', J', q⟩ := hsp
      exact ⟨σ', H', J'.ofTry ok, q⟩
    | cont =>
      obtain ⟨σ', H', J', q⟩ := hsp
      exact ⟨σ', H', J'.ofTry ok, q⟩
    | ret u =>
      obtain ⟨v, σ', H', J', r, q⟩ := hsp
      exact ⟨v, σ', H', J'.ofTry ok, r, q⟩
end
/-! ### isinstance of a tracked error -/
section
variable {X : Cx}
theorem inst_of {pins : List (Addr × Obj)} {σ : Sl} {H : Hp} {s : Shared} {C a : Addr} (I : Inv X pins σ H s) (h : H a = some (XO C a)) : ∃ oe, PySem.W.InstAt s.heap a oe C none := by
  obtain ⟨⟨oe, vs, h1, h2, h3⟩, _, _⟩ := I.hok a _ h
  refine ⟨oe, ?_⟩
  obtain ⟨oc, od, oda, osl⟩ := oe
  obtain ⟨z1, z2⟩ := h2
  dsimp only at z1 z2 h3
  subst z1 z2 h3
  exact ⟨h1, rfl, rfl, trivial⟩
/-- isinstance(e, c), e a tracked error of the class D -/
def rIsX (K : Frag) (D : Addr) : List V → Hp → VK → Prop := fun xs H Q => ∃ (a : Addr) (c : V) (cv : Value) (b : Bool), xs = [.ref a, c] ∧ H a = some (XO D a) ∧ (∀ u, RelV c u → u = cv) ∧ PySem.W.kitOne K (.ref D) cv = some b ∧ Q (.bl b) H
theorem call_isX {D : Addr} (C : ExcC X.K D) : CallR X (.builtin "isinstance") (rIsX X.K D) := by
  intro pins s σ H xs us Q I r h
  obtain ⟨a, c, cv, b, rfl, ha, hcv, e, q⟩ := h
  cases r with
  | cons rx rr =>
    cases rr with
    | cons rt rr =>
      cases rr
      cases rx
      have ec := hcv _ rt
      subst ec
      obtain ⟨oe, J⟩ := inst_of I ha
      exact PySem.W.kia_one (PySem.W.handS_kitx_exc C.hg C.hk C.hs C.hd C.ha C.hn C.ht C.hm) I.kIn J e (fun z => nomatch z) fun tk => ⟨.bl b, H, I.kept (t' := tk) fun _ _ z => z, rfl, q⟩
/-- isinstance(e, (c, ..)) -/
def rIsXT (K : Frag) (D : Addr) : List V → Hp → VK → Prop := fun xs H Q => ∃ (a tp : Addr) (cs : List V) (ws : List Value) (b : Bool), xs = [.ref a, .ref tp] ∧ H a = some (XO D a) ∧ H tp = some (.tup cs) ∧ (∀ us, Vals cs us → us = ws) ∧ PySem.W.kitAny K (.ref D) ws = some b ∧ Q (.bl b) H
theorem call_isXT {D : Addr} (C : ExcC X.K D) : CallR X (.builtin "isinstance") (rIsXT X.K D) := by
  intro pins s σ H xs us Q I r h
  obtain ⟨a, tp, cs, ws, b, rfl, ha, hT, hcv, e, q⟩ := h
  cases r with
  | cons rx rr =>
    cases rr with
    | cons rt rr =>
      cases rr
      cases rx
      cases rt
      obtain ⟨oe, J⟩ := inst_of I ha
      obtain ⟨_, its, rv, o, h1, h2, n, h3⟩ := (show ObjOk X.prog X.w H s.heap tp (.tup cs) from I.hok tp _ hT)
      have e3 := hcv _ rv
      subst e3
      obtain ⟨oc, od, dt, sl⟩ := o
      simp only at h2 h3
      subst h2 h3
      exact PySem.W.kia_tup (PySem.W.handS_kitx_exc C.hg C.hk C.hs C.hd C.ha C.hn C.ht C.hm) I.kIn J h1 e (fun z => nomatch z) fun tk => ⟨.bl b, H, I.kept (t' := tk) fun _ _ z => z, rfl, q⟩
/-! ### raise C() -/
theorem pmk_own0 {C : Addr} {bmB : List Value} {B newId initId : String} {x : Str} {p pos : Pos} (F : ExcBaseFacts B newId initId bmB) (q : PySem.W.excIn X.K C bmB newId = true) (gC : X.mg x = some (.ref C)) (kC : PySem.W.keepIn X.K (.ref C) = true) (r : Raises X (.ref C)) (hg : Gl X x)
    (hdb : (x == ("__debug__" : Str)) = false) : PMk X (.Call (.Name x p) [] [] pos) (fun _ H Q => Q (.ref C) none H) := by
  intro pins s σ H Q I h
  refine wpAny_Call_Name_kw (ld_glob I hg gC ?_ hdb)
  refine PySem.W.callWith_K0 I.kIn kC ?_
  show wpAny _ _ (call (.ref C) []) _ _ _
  obtain ⟨bm, N, nm, qn, bs, hdct, sn, sub, ab, col, dd, k0, k1, k2, k3, k5, mN, hC, hN, hni, T⟩ := exc_obj I.kIn q
  refine wpAny_call_exc_subT F T hC hN hni (fun h' e hm => ?_) (by show 0 ≤ sizeLine; rw [sizeLine_eq]; omega)
  exact mk_of I hm r h (I.hok.gone hm.new)
end
end Snd
namespace Snd
open PySem PySem.Spec PyProof.Rows L2
/-! ### defs, where no repr is under way -/
/-- room, whether an error is handled or not -/
structure RoomB (hot : Bool) (k : Nat) (A : Around) : Prop where
  hd : hot = false → A.handled = none
  dp : A.depth + 3 * k + 5 < recursionLimit
  un : A.units + 16 * k + 200 < cLine
section
variable {hot : Bool} {j k : Nat} {A : Around}
theorem RoomB.room (r : RoomB false k A) : Room k A := ⟨r.hd rfl, r.dp, r.un⟩
theorem roomB (r : Room k A) (hot : Bool) : RoomB hot k A := ⟨fun _ => r.hd, r.dp, r.un⟩
theorem RoomB.mono (r : RoomB hot k A) (h : j ≤ k) : RoomB hot j A := ⟨r.hd, by have := r.dp; omega, by have := r.un; omega⟩
theorem RoomB.deeper (r : RoomB hot (k + 1) A) (env : Env) : RoomB hot k (A.deeper env) :=
  ⟨r.hd, by have := r.dp; show A.depth + 1 + 3 * k + 5 < _; omega, by have := r.un; show A.units + 3 + 16 * k + 200 < _; omega⟩
theorem RoomB.depth (r : RoomB hot k A) : A.depth < recursionLimit := by have := r.dp; omega
theorem RoomB.units (r : RoomB hot k A) : A.units + 64 < cLine := by have := r.un; omega
end
structure FnG (P : Program) (w : World) (K : Frag) (mg : Str → Option Value) (base : Heap) (hot : Bool) (k : Nat) (f : Addr) (fd : FuncData) (ps : List Str) (sp : L2.Sp) : Prop where
  len : ∀ vs H Q E, sp vs H Q E → vs.length = ps.length
  run : ∀ (A : Around) (outer : List Env) (s : Shared) (H : Hp) (args : Args) (us : List Value) (vs : List V) (Q : VK) (E : XK), RoomB hot k A → A.guards = some [] → Env0 P w K mg base A outer s H → BindsTo s fd args (ps.zip us) → Vals vs us → sp vs H Q E →
    codeAny (model P w) A (.call (.ref f) args) (CR (L2.CX P w) outer P w H s Q E) s
theorem FnG.mono {P : Program} {w : World} {K : Frag} {mg : Str → Option Value} {base : Heap} {hot : Bool} {j k : Nat} {f : Addr} {fd : FuncData} {ps : List Str} {sp : L2.Sp} (F : FnG P w K mg base hot j f fd ps sp) (h : j ≤ k) :
    FnG P w K mg base hot k f fd ps sp := ⟨F.len, fun A outer s H args us vs Q E hr => F.run A outer s H args us vs Q E (hr.mono h)⟩
theorem FnG.never {P : Program} {w : World} {K : Frag} {mg : Str → Option Value} {base : Heap} {hot : Bool} {k : Nat} {f : Addr} {fd : FuncData} {ps : List Str} {sp : L2.Sp} (h : ∀ vs H Q E, ¬ sp vs H Q E) :
    FnG P w K mg base hot k f fd ps sp := ⟨fun vs H Q E q => (h _ _ _ _ q).elim, fun A outer s H args us vs Q E _ _ _ _ _ q => (h _ _ _ _ q).elim⟩
/-- how the positional and the named values bind -/
def KB (K : Frag) (fd : FuncData) (ps : List Str) (m : Nat) (ks : List Str) (perm : List Nat) : Prop :=
  ∀ (s : Shared) (us ws : List Value), K.In s.heap → us.length = m → ws.length = ks.length → BindsTo s fd ⟨us, ks.zip ws⟩ (ps.zip (perm.filterMap fun i => (us ++ ws)[i]?))
/-- how a def of the text stands -/
structure Def (K : Frag) (mg : Str → Option Value) (T : Tb) (n : Nat) (x : Str) (f : Addr) (fd : FuncData) (ps : List Str) : Prop where
  mg : mg x = some (.ref f)
  kp : PySem.W.keepIn K (.ref f) = true
  bd : Binds K fd ps []
  kb : ∀ m ks perm, (n, m, ks, perm) ∈ T.kws → KB K fd ps m ks perm
/-- the mro of an own error below its own classes -/
def bmVE : List Value := [.type "ValueError", .type "Exception", .type "BaseException", .type "object"]
/-- what is known of an own class of errors -/
structure ErrC (K : Frag) (C : Addr) : Prop where
  ex : PySem.W.excIn K C bmVE "ValueError.__new__" = true
  kp : PySem.W.keepIn K (.ref C) = true
  sb : PySem.W.subIn K (.ref C) (.type "BaseException") = some true
  ty : PySem.W.typeIn K (.ref C) = some (.type "type")
  ec : ExcC K C
/-- what is known of the text's own errors; the number behind them: ValueError -/
structure Errs (K : Frag) (mg : Str → Option Value) (T : Tb) (G : M.Gm) : Prop where
  at_ : ∀ j x, T.cls[j]? = some x → ∃ D, mg x = some (.ref D) ∧ (j < T.nr → G.adr j = some D) ∧ ∀ k C, G.adr k = some C → PySem.W.kitOne K (.ref C) (.ref D) = some (G.sub k j) ∧ PySem.W.exmOne K (.ref C) (.ref D) = some (G.sub k j)
  ok : ∀ k C, G.adr k = some C → ErrC K C
  ve : ∀ k C, G.adr k = some C → PySem.W.kitOne K (.ref C) (.type "ValueError") = some (G.sub k T.cls.length)
structure Ok (c : Cn) (k : Nat) (N : List Str) (sc : Scope) (X : Cx) (W : WX) : Prop where
  eN : X.N = N
  es : X.env.scope = sc
  eK : X.K = c.K
  em : X.mg = c.mg
  nd : N.Nodup
  calm : c.T.hot = false → X.calm = true
  room : RoomB c.T.hot k X.A
  gd : X.A.guards = some []
  rp : c.G.rp = rpF
  bt : ∀ x ∈ c.T.bts, c.mg x = none
  con : ∀ n x, c.T.cons[n]? = some x → ∃ u v, c.mg x = some u ∧ RelV v u ∧ ∀ H, RelD c.K H (c.G.con n) v
  fns : ∀ n x, c.T.fns[n]? = some x → ∃ f fd ps, Def c.K c.mg c.T n x f fd ps ∧ FnG X.prog X.w c.K c.mg X.base (c.T.hots.contains n) k f fd ps (lift c (M.cl (c.G.fn n)))
  tk : Takes X W
  sys : SysK c.K
  er : Errs c.K c.mg c.T c.G
/-! ### the checks -/
def kOk : M.Kc → Const → Bool
  | .non, .none => true
  | .bl b, .bool d => b == d
  | .int i, .int j => decide (i = j)
  | .str x, .str y => decide (stx x = y)
  | _, _ => false
def visB (sc : Scope) (x : Str) : Bool := match sc.names.lookup x with
  | some .local => true | some .cell => true | some .free => true | _ => false
def glB (sc : Scope) (x : Str) : Bool := match sc.names.lookup x with
  | some .globalImplicit => true | _ => false
def locB (sc : Scope) (x : Str) : Bool := match sc.names.lookup x with
  | some .local => true | _ => false
def locCB (sc : Scope) (x : Str) : Bool := match sc.names.lookup x with
  | some .local => true | some .cell => true | _ => false
def dbgB (x : Str) : Bool := (x == ("__debug__" : Str)) || (x == ("__classdict__" : Str))
def plB : Expr → Bool
  | .Starred .. => false | .Slice .. => false | _ => true
def bareB : Expr → Bool
  | .Call .. => false | .Starred .. => false | .Slice .. => false | _ => true
def biN : M.Bi → Str
  | .len => "len" | .abs => "abs" | .int => "int" | .min => "min" | .max => "max" | .all => "all" | .any => "any" | .sum => "sum" | .list => "list" | .tuple => "tuple" | .str => "str" | .sorted => "sorted" | .minp => "min" | .sortp => "sorted"
def mtN : M.Mt → Str
  | .append => "append" | .extend => "extend" | .pop => "pop" | .count => "count" | .index => "index"
def mtOk : M.Mt → Bool
  | .append => true | .extend => true | .pop => true | .count => true | .index => true
def moN : M.Mo → Str
  | .split => "split" | .join => "join" | .strip => "strip"
def ownOf (N : List Str) (is : List Nat) : List (Str × Nat) := is.filterMap fun i => N[i]?.map fun x => (x, i)
def nameAt (N : List Str) (ok : Str → Bool) (i : Nat) : Expr → Bool
  | .Name x _ => decide (N[i]? = some x) && ok x && !dbgB x
  | _ => false
def namesAt (N : List Str) (ok : Str → Bool) : List Nat → List Expr → Bool
  | [], [] => true
  | i :: is, e :: es => nameAt N ok i e && namesAt N ok is es
  | _, _ => false
def chkTg (N : List Str) (ok : Str → Bool) : M.Tg → Expr → Bool
  | .v i, e => nameAt N ok i e
  | .tup is, .Tuple es _ _ => namesAt N ok is es
  | _, _ => false
def noSet : Expr → Bool
  | .Set .. => false | .Starred .. => false | .Slice .. => false | _ => true
def isTupB : Expr → Bool
  | .Tuple .. => true | _ => false
/-- a call of a free built-in name with such arguments -/
def biCall (T : Tb) (sc : Scope) (nm : Str) (ok : List Expr → Bool) : Expr → Bool
  | .Call (.Name x _) es ks _ => decide (x = nm) && decide (nm ∈ T.bts) && glB sc x && !dbgB x && ks.isEmpty && ok es
  | _ => false
def kwsB : List Keyword → Option (List Str)
  | [] => some []
  | ⟨some x, _, _⟩ :: r => (kwsB r).map (x :: ·)
  | _ => none
def one (p : Expr → Bool) : List Expr → Bool
  | [e] => plB e && p e
  | _ => false
def two (p q : Expr → Bool) : List Expr → Bool
  | [e, d] => plB e && plB d && p e && q d
  | _ => false
def three (p q r : Expr → Bool) : List Expr → Bool
  | [e, d, f] => plB e && plB d && plB f && p e && q d && r f
  | _ => false
/-- a block's own name: a local, or a cell that a block within takes -/
def cellB (scope : Scope) (x : Str) : Bool := scope.names.lookup x == some .cell
def tgB (scope sc : Scope) (x : Str) : Bool := locB (relS scope sc) x || cellB scope x
/-- the name of a built-in type -/
def clsB (T : Tb) (sc : Scope) (t : M.Ty) (z : Str) : Bool := decide (z = tyS t) && decide (z ∈ T.bts) && glB sc z && !dbgB z
/-- a class of errors by its name -/
def clsX (T : Tb) (sc : Scope) (c : Nat) (z : Str) : Bool := glB sc z && !dbgB z && (decide (T.cls[c]? = some z) || (decide (c = T.cls.length) && decide (z = "ValueError") && decide (z ∈ T.bts)))
def clsXs (T : Tb) (sc : Scope) : List Nat → List Expr → Bool
  | [], [] => true
  | c :: cs, .Name z _ :: es => clsX T sc c z && clsXs T sc cs es
  | _, _ => false
def clsM (T : Tb) (sc : Scope) (cs : List Nat) : Expr → Bool
  | .Name z _ => decide (cs.length = 1) && clsX T sc (cs.headD 0) z
  | .Tuple zs _ _ => decide (zs.length ≤ 20) && clsXs T sc cs zs
  | _ => false
def keysB : List M.Tx → List (Option Expr) → Bool
  | [], [] => true
  | k :: ks, some (.Constant (.str y) _ _) :: es => decide (stx k = y) && keysB ks es
  | _, _ => false
mutual
def chkE (T : Tb) (N : List Str) : M.Ex → Scope → Expr → Bool
  | .v i => fun sc ex => nameAt N (visB sc) i ex
  | .k c => fun sc ex => (match ex with | .Constant d _ _ => kOk c d | _ => false)
  | .g n => fun sc ex => (match ex with | .Name x _ => decide (T.cons[n]? = some x) && glB sc x && !dbgB x | _ => false)
  | .bin o a b => fun sc ex => (match ex with | .BinOp a' p b' _ => boOk o p && chkE T N a sc a' && chkE T N b sc b' | _ => false)
  | .neg a => fun sc ex => (match ex with | .UnaryOp .USub a' _ => chkE T N a sc a' | _ => false)
  | .not a => fun sc ex => (match ex with | .UnaryOp .Not a' _ => chkE T N a sc a' | _ => false)
  | .cmp o a b => fun sc ex => (match ex with | .Compare a' [p] [b'] _ => coOk o p && chkE T N a sc a' && chkE T N b sc b' && !behindInMarks p b' | _ => false)
  | .chain o p a b c => fun sc ex => (match ex with | .Compare a' [o', p'] [b', c'] _ => coOk o o' && coOk p p' && chkE T N a sc a' && chkE T N b sc b' && chkE T N c sc c' && !lastMarks [o', p'] [b', c'] | _ => false)
  | .and a r => fun sc ex => (match ex with | .BoolOp .And (a' :: b' :: r') _ => chkE T N a sc a' && chkR T N r sc (b' :: r') | _ => false)
  | .or a r => fun sc ex => (match ex with | .BoolOp .Or (a' :: b' :: r') _ => chkE T N a sc a' && chkR T N r sc (b' :: r') | _ => false)
  | .ite c a b => fun sc ex => (match ex with | .IfExp c' a' b' _ => chkE T N c sc c' && chkE T N a sc a' && chkE T N b sc b' | _ => false)
  | .tup es => fun sc ex => (match ex with | .Tuple es' _ _ => chkEs T N es sc es' | _ => false)
  | .lst es => fun sc ex => (match ex with | .List es' _ => chkEs T N es sc es' | _ => false)
  | .ix a i => fun sc ex => (match ex with | .Subscript a' i' _ => plB i' && chkE T N a sc a' && chkE T N i sc i' | _ => false)
  | .sl a lo hi => fun sc ex => (match ex with | .Subscript a' (.Slice lo' hi' none _) _ => chkE T N a sc a' && chkO T N lo sc lo' && chkO T N hi sc hi' | _ => false)
  | .rev a => fun sc ex => (match ex with | .Subscript a' (.Slice none none (some (.UnaryOp .USub (.Constant (.int i) _ _) _)) _) _ => decide (i = 1) && chkE T N a sc a' | _ => false)
  | .call f es => fun sc ex => (match ex with | .Call (.Name x _) es' [] _ => decide (T.fns[f]? = some x) && (T.hots.contains f == T.hot) && glB sc x && !dbgB x && es'.all plB && chkEs T N es sc es' | _ => false)
  | .callk f es ks perm => fun sc ex => (match ex with
    | .Call (.Name x _) es' kw _ => decide (T.fns[f]? = some x) && (T.hots.contains f == T.hot) && glB sc x && !dbgB x && es'.all plB && chkEs T N es sc es' && (match kwsB kw with
      | some nms => decide ((f, M.esLen es, nms, perm) ∈ T.kws) && decide (nms.length = M.esLen ks) && (kw.map (·.value)).all plB && chkEs T N ks sc (kw.map (·.value))
      | none => false)
    | _ => false)
  | .rep a => fun sc ex => biCall T sc "repr" (one (chkE T N a sc)) ex
  | .bi b es => fun sc ex => !T.hot && biCall T sc (biN b) (fun es' => !es'.isEmpty && es'.all plB && chkEs T N es sc es') ex
  | .mt m a es => fun sc ex => (match ex with | .Call (.Attribute a' nm apos) es' [] cpos => decide (nm = mtN m) && mtOk m && (apos.endLine == cpos.line) && bareB a' && chkE T N a sc a' && es'.all plB && decide (es'.length < 29) && chkEs T N es sc es' | _ => false)
  | .m2 m a e => fun sc ex => (match ex with | .Call (.Attribute a' nm apos) [e'] [] cpos => decide (nm = moN m) && (apos.endLine == cpos.line) && bareB a' && plB e' && chkE T N a sc a' && chkE T N e sc e' | _ => false)
  | .isi a t => fun sc ex => biCall T sc "isinstance" (two (chkE T N a sc) (fun y => match y with | .Name z _ => decide (z = tyS t) && decide (z ∈ T.bts) && glB sc z && !dbgB z | _ => false)) ex
  | .isi2 a t u => fun sc ex => biCall T sc "isinstance" (two (chkE T N a sc) (fun y => match y with | .Tuple [.Name z _, .Name z2 _] _ _ => clsB T sc t z && clsB T sc u z2 | _ => false)) ex
  | .isx a cs => fun sc ex => biCall T sc "isinstance" (two (chkE T N a sc) (clsM T sc cs)) ex
  | .dic => fun sc ex => (match ex with | .Dict [] [] _ => true | _ => false)
  | .dct ks es => fun sc ex => (match ex with | .Dict kes vs _ => decide (ks ≠ []) && decide (ks.Nodup) && decide (ks.length ≤ 15) && keysB ks kes && decide (vs.length = ks.length) && vs.all plB && chkEs T N es sc vs | _ => false)
  | .comp e t it c => fun sc ex => (match ex with
    | .ListComp e' [⟨tg, it', ifs, k⟩] scope _ => !T.hot && decide (k = 0) && blkC N sc scope (ownOf N (M.tgs t)) && decide ((ownOf N (M.tgs t)).map (·.2) = M.tgs t) && decide (M.tgs t).Nodup && noSet it' && chkIt T N it sc it' (isTupB tg) && chkTg N (tgB scope sc) t tg
        && (match ifs with | [] => chkO T N c (relS scope sc) none | [d] => chkO T N c (relS scope sc) (some d) | _ => false) && chkE T N e (relS scope sc) e'
    | _ => false)
def chkEs (T : Tb) (N : List Str) : M.Es → Scope → List Expr → Bool
  | .nil => fun sc es' => es'.isEmpty
  | .cons e r => fun sc es' => (match es' with | e' :: r' => plB e' && chkE T N e sc e' && chkEs T N r sc r' | [] => false)
  | .star e r => fun sc es' => (match es' with | .Starred e' _ :: r' => chkE T N e sc e' && chkEs T N r sc r' | _ => false)
/-- what stands behind the first of and, or -/
def chkR (T : Tb) (N : List Str) : M.Es → Scope → List Expr → Bool
  | .nil => fun sc es' => es'.isEmpty
  | .cons e r => fun sc es' => (match es' with | e' :: r' => chkE T N e sc e' && chkR T N r sc r' | [] => false)
  | .star e r => fun sc es' => false
def chkO (T : Tb) (N : List Str) : M.Oe → Scope → Option Expr → Bool
  | .none => fun sc o => o.isNone
  | .some e => fun sc o => (match o with | some e' => chkE T N e sc e' | none => false)
def chkIt (T : Tb) (N : List Str) : M.It → Scope → Expr → Bool → Bool
  | .seq e => fun sc ex tp => chkE T N e sc ex
  | .rng e => fun sc ex tp => biCall T sc "range" (one (chkE T N e sc)) ex
  | .rng2 a b => fun sc ex tp => biCall T sc "range" (two (chkE T N a sc) (chkE T N b sc)) ex
  | .zip3 a b d => fun sc ex tp => tp && biCall T sc "zip" (three (chkE T N a sc) (chkE T N b sc) (chkE T N d sc)) ex
  | .zip a b => fun sc ex tp => tp && biCall T sc "zip" (two (chkE T N a sc) (chkE T N b sc)) ex
  | .enum e => fun sc ex tp => tp && biCall T sc "enumerate" (one (chkE T N e sc)) ex
end
end Snd
namespace Snd
open PySem PySem.Spec PyProof.Rows L2
/-! ### zip over sources of any kind -/
inductive Sc where | lst (a : Addr) | tup (a : Addr) | txt (x : Str)
def chrs (x : Str) : List V := x.cps.toList.map fun c => .str ⟨#[c]⟩
def Sc.has (K : Frag) (H : Hp) : Sc → List V → Prop
  | .lst a, xs => SqL K H a xs
  | .tup a, xs => SqT K H a xs
  | .txt x, xs => xs = chrs x
def Sc.st : Sc → Addr → Nat → Heap → Prop
  | .lst a, it, i, h => h.IsListIter it a i
  | .tup a, it, i, h => h.IsTupleIter it a i
  | .txt x, it, i, h => ∃ t, h.IsStrIter it (strIterType x) x t i
def Sc.adr : Sc → List Addr
  | .lst a => [a]
  | .tup a => [a]
  | .txt _ => []
theorem Sc.obj {p : Sc} {it : Addr} {i : Nat} {h : Heap} (s : p.st it i h) : ∃ o, h.get? it = some o ∧ ∀ v, o.data ≠ .cell v := by
  cases p with
  | lst a => obtain ⟨o, e, _, d⟩ := s; exact ⟨o, e, fun v q => by rw [d] at q; cases q⟩
  | tup a => obtain ⟨o, e, _, d⟩ := s; exact ⟨o, e, fun v q => by rw [d] at q; cases q⟩
  | txt x => obtain ⟨t, o, e, _, d⟩ := s; exact ⟨o, e, fun v q => by rw [d] at q; cases q⟩
theorem Sc.keep {p : Sc} {it : Addr} {i : Nat} {h h' : Heap} (s : p.st it i h) (k : ∀ o, h.get? it = some o → h'.get? it = some o) : p.st it i h' := by
  cases p with
  | lst a => exact Heap.IsListIter.at s k
  | tup a => exact Heap.IsTupleIter.at s k
  | txt x => obtain ⟨t, o, e, r⟩ := s; exact ⟨t, o, k o e, r⟩
theorem Sc.inj {X : Cx} {pins : List (Addr × Obj)} {σ : L2.St} {H : Hp} {s : Shared} (I : Inv X pins σ H s) {p : Sc} {xs ys : List V} (h1 : p.has X.K H xs) (h2 : p.has X.K H ys) : xs = ys := by
  cases p with
  | lst a => exact I.list_inj h1 h2
  | tup a => exact I.tuple_inj h1 h2
  | txt x => exact h1.trans h2.symm
/-- its iterator draws the values -/
theorem Sc.draws {X : Cx} {pins : List (Addr × Obj)} {σ : L2.St} {H : Hp} {s : Shared} (I : Inv X pins σ H s) (hc : X.calm = true) {p : Sc} {xs : List V} (h : p.has X.K H xs) {it : Addr} {i : Nat} (hs : p.st it i s.heap) (ha : it ∉ p.adr) :
    ∃ (P : Nat → Value → Prop) (St : Nat → Heap → Prop), Draws X.prog X.w X.A.in1 it (it :: p.adr) xs.length P St ∧ St i s.heap ∧ (∀ j h', St j h' → p.st it j h') ∧ ∀ j v x, P j v → xs[j]? = some x → RelV x v := by
  have hh : X.A.in1.handled = none := I.ok.hd hc
  cases p with
  | lst a =>
    obtain ⟨its, rv, q, _⟩ := I.list h
    have e : its.toArray.size = xs.length := by rw [List.size_toArray, rv.length]
    have D := Draws.list (prog := X.prog) (w := X.w) hh it a (fun z => ha (by simp [Sc.adr, z])) its.toArray
    rw [e] at D
    refine ⟨_, _, D, ⟨hs, q.isList⟩, fun j h' z => z.1, fun j v x hp hx => ?_⟩
    obtain ⟨u, hu, ru⟩ := rv.get hx
    have hp : its[j]? = some v := by simpa using hp
    rw [hu] at hp
    cases hp
    exact ru
  | tup a =>
    obtain ⟨its, rv, q, _⟩ := I.tuple h
    have e : its.toArray.size = xs.length := by rw [List.size_toArray, rv.length]
    have D := Draws.tuple (prog := X.prog) (w := X.w) hh it a (fun z => ha (by simp [Sc.adr, z])) its.toArray
    rw [e] at D
    refine ⟨_, _, D, ⟨hs, q⟩, fun j h' z => z.1, fun j v x hp hx => ?_⟩
    obtain ⟨u, hu, ru⟩ := rv.get hx
    have hp : its[j]? = some v := by simpa using hp
    rw [hu] at hp
    cases hp
    exact ru
  | txt x =>
    have h : xs = chrs x := h
    subst h
    obtain ⟨t, hs⟩ := hs
    have D := Draws.text (prog := X.prog) (w := X.w) hh it x t
    have e : x.cps.size = (chrs x).length := by unfold chrs; simp
    rw [e] at D
    refine ⟨_, _, D, hs, fun j h' z => ⟨t, z⟩, fun j v y hp hx => ?_⟩
    obtain ⟨c, u, hc', rfl⟩ := hp
    have hx : (x.cps[j]?).map (fun c => V.str ⟨#[c]⟩) = some y := by
      unfold chrs at hx
      simpa using hx
    rw [hc'] at hx
    cases hx
    exact ⟨u, rfl⟩
def ItzM (K : Frag) (p q : Sc) : It :=
  ⟨fun i H => ∃ (xs ys : List V) (x y : V), p.has K H xs ∧ q.has K H ys ∧ xs[i]? = some x ∧ ys[i]? = some y,
    fun i H v H' => ∃ T x y, v = .ref T ∧ H T = none ∧ H' = upd H T (.tup [x, y]) ∧ (∀ xs, p.has K H xs → xs[i]? = some x) ∧ ∀ ys, q.has K H ys → ys[i]? = some y,
    fun i H => ∃ xs ys : List V, p.has K H xs ∧ q.has K H ys ∧ i = min xs.length ys.length⟩
/-- the cells lie apart -/
structure Apt (z TI TO i1 i2 : Addr) (ds : List Addr) : Prop where
  nd : [z, TI, TO, i1, i2].Nodup
  ds : ∀ c ∈ [z, TI, TO, i1, i2], c ∉ ds
theorem Apt.sep {z TI TO i1 i2 : Addr} {d1 d2 : List Addr} (D : Apt z TI TO i1 i2 (d1 ++ d2)) : ZipSep2 z TI TO i1 i2 (i1 :: d1) (i2 :: d2) := by
  have nd := D.nd
  simp at nd
  have a : ∀ c ∈ [z, TI, TO, i1, i2], c ∉ d1 ∧ c ∉ d2 := fun c hc => ⟨fun z => D.ds c hc (List.mem_append_left _ z), fun z => D.ds c hc (List.mem_append_right _ z)⟩
  have az := a z (by simp)
  have aT := a TO (by simp)
  have a1 := a i1 (by simp)
  have a2 := a i2 (by simp)
  obtain ⟨⟨n1, n2, n3, n4⟩, ⟨n5, n6, n7⟩, ⟨n8, n9⟩, n10⟩ := nd
  exact ⟨Ne.symm n1, Ne.symm n2, n5, n6, by simp, by simp [n3, az.1], by simp [n8, aT.1], n7, by simp, by simp [n4, az.2], by simp [n9, aT.2], by simp [n10, a1.2], by simp [Ne.symm n10, a2.1]⟩
theorem turn_zipM {P : Program} {w : World} {K : Frag} {elts : List Expr} {kk : Nat} {tpos : Pos} {p q : Sc} {z TI TO i1 i2 : Addr} (D : Apt z TI TO i1 i2 (p.adr ++ q.adr)) :
    Turn P w K (.Tuple elts kk tpos) (ItzM K p q) [z, TI, TO, i1, i2] z (fun i h => IsZip h z TI TO .none ∧ IsTupOf2 h TI (.ref i1) (.ref i2) ∧ (∃ x y, IsTupOf2 h TO x y) ∧ p.st i1 i h ∧ q.st i2 i h) where
  mem := by simp
  obj := fun i h st c hc => by
    obtain ⟨hz, hTI, ⟨x, y, hTO⟩, h1, h2⟩ := st
    simp only [List.mem_cons, List.not_mem_nil, or_false] at hc
    rcases hc with rfl | rfl | rfl | rfl | rfl
    · exact ⟨_, hz, fun v q => nomatch q⟩
    · exact ⟨_, hTI, fun v q => nomatch q⟩
    · exact ⟨_, hTO, fun v q => nomatch q⟩
    · exact Sc.obj (p := p) h1
    · exact Sc.obj (p := q) h2
  keep := fun i h h' st k => by
    obtain ⟨hz, hTI, ⟨x, y, hTO⟩, h1, h2⟩ := st
    exact ⟨k z (by simp) _ hz, k TI (by simp) _ hTI, ⟨x, y, k TO (by simp) _ hTO⟩, Sc.keep (p := p) h1 fun o e => k i1 (by simp) o e, Sc.keep (p := q) h2 fun o e => k i2 (by simp) o e⟩
  item := by
    intro X hP hw hK hc i pins s σ H E I hf st hg
    subst hP hw hK
    obtain ⟨hz, hTI, ⟨x0, y0, hTO⟩, h1, h2⟩ := st
    obtain ⟨xs, ys, x, y, hp, hq, hx, hy⟩ := hg
    have S := D.sep
    have n1 : i1 ∉ p.adr := fun z => D.ds i1 (by simp) (List.mem_append_left _ z)
    have n2 : i2 ∉ q.adr := fun z => D.ds i2 (by simp) (List.mem_append_right _ z)
    obtain ⟨P1, St1, D1, s1, b1, v1⟩ := Sc.draws I hc hp h1 n1
    obtain ⟨P2, St2, D2, s2, b2, v2⟩ := Sc.draws I hc hq h2 n2
    have l1 := (List.getElem?_eq_some_iff.mp hx).1
    have l2 := (List.getElem?_eq_some_iff.mp hy).1
    have hzl : z < s.heap.objs.size := Heap.lt_size hz
    refine wpAny_pyNext_zipD2_item S D1 D2 hz hTI hTO s1 s2 l1 l2 fun u1 u2 h' tk pu1 pu2 z' TO' t1 t2 hT hsz hk => ?_
    refine ⟨_, rfl, wpAny_letOwnedTupleGo_zip (s := { s with heap := h', toks := tk }) z' fun h'' z'' sb => ?_⟩
    have hT2 : h''.get? s.heap.objs.size = some { cls := .type "tuple", data := .seq #[u1, u2] } := (sb.2 _ (Nat.ne_of_gt hzl)).trans hT
    have new : ObjOk X.prog X.w (upd H s.heap.objs.size (.tup [x, y])) h'' s.heap.objs.size (.tup [x, y]) :=
      ⟨by show 2 ≤ sizeLine; decide, [u1, u2], .cons (v1 i u1 x pu1 hx) (.cons (v2 i u2 y pu2 hy) .nil), ⟨_, hT2, rfl, _, rfl⟩⟩
    have I1 : Inv X pins σ (upd H s.heap.objs.size (.tup [x, y])) { s with heap := h'', toks := tk } :=
      I.turnedNew (t' := tk) (ch := [z, TI, TO, i1, i2]) (fun c o hb e => (sb.2 c (fun q' => hb (by simp [q']))).trans (hk c o (fun q' => hb (by simp [q'])) (fun q' => hb (by simp [q'])) (fun q' => hb (by simp [q'])) (fun q' => hb (by simp [q'])) e)) hf (Nat.le_refl _) new
    refine ⟨.ref s.heap.objs.size, _, I1, rfl, ⟨_, x, y, rfl, I.hok.fresh (Nat.le_refl _), rfl, fun l hl => by rw [Sc.inj I hl hp]; exact hx, fun l hl => by rw [Sc.inj I hl hq]; exact hy⟩, ⟨z'', ?_, ⟨u1, u2, ?_⟩, ?_, ?_⟩, fun c hcm => ?_⟩
    · exact (sb.2 _ S.TIz).trans (hk _ _ S.TIz S.TITO S.TIi1 S.TIi2 hTI)
    · exact (sb.2 _ S.TOz).trans TO'
    · exact Sc.keep (p := p) (b1 _ _ t1) fun o e => (sb.2 _ (Ne.symm S.zi1)).trans e
    · exact Sc.keep (p := q) (b2 _ _ t2) fun o e => (sb.2 _ (Ne.symm S.zi2)).trans e
    · have hlt : c < s.heap.objs.size := by
        simp only [List.mem_cons, List.not_mem_nil, or_false] at hcm
        rcases hcm with rfl | rfl | rfl | rfl | rfl
        · exact hzl
        · exact Heap.lt_size hTI
        · exact Heap.lt_size hTO
        · obtain ⟨o, e, _⟩ := Sc.obj (p := p) h1; exact Heap.lt_size e
        · obtain ⟨o, e, _⟩ := Sc.obj (p := q) h2; exact Heap.lt_size e
      rw [upd_ne (Nat.ne_of_lt hlt)]
      exact (hf c hcm).1
  done := by
    intro X hP hw hK hc i pins s σ H E I hf st hg
    subst hP hw hK
    obtain ⟨hz, hTI, ⟨x0, y0, hTO⟩, h1, h2⟩ := st
    obtain ⟨xs, ys, hp, hq, hend⟩ := hg
    have S := D.sep
    have n1 : i1 ∉ p.adr := fun z => D.ds i1 (by simp) (List.mem_append_left _ z)
    have n2 : i2 ∉ q.adr := fun z => D.ds i2 (by simp) (List.mem_append_right _ z)
    obtain ⟨P1, St1, D1, s1, b1, v1⟩ := Sc.draws I hc hp h1 n1
    obtain ⟨P2, St2, D2, s2, b2, v2⟩ := Sc.draws I hc hq h2 n2
    refine wpAny_pyNext_zipD2_end S D1 D2 hz hTI hTO s1 s2 (by omega) (by omega) (by omega) fun h' tk hk => ⟨rfl, I.turnedL (t' := tk) (ch := [z, TI, TO, i1, i2]) (fun c o hb e =>
      hk c o (fun q' => hb (by simp [q'])) (fun q' => hb (by simp [q'])) (fun q' => hb (by simp [q'])) (fun q' => hb (by simp [q'])) e) hf⟩
  self := fun A i s Q E st h => wpAny_pyIter_zip st.1 h
def Sc.is (v : V) : Sc → Prop
  | .lst a => v = .ref a
  | .tup a => v = .ref a
  | .txt x => v = .str x
/-- how it begins -/
theorem Sc.begins {X : Cx} {pins : List (Addr × Obj)} {σ : L2.St} {H : Hp} {s : Shared} (I : Inv X pins σ H s) {p : Sc} {xs : List V} (h : p.has X.K H xs) {v : V} {u : Value} (hv : RelV v u) (hp : Sc.is v p) :
    ∃ (o : Obj) (HH : Heap → Prop), Begins u o HH ∧ HH s.heap ∧ (∀ (it : Addr) (h' : Heap), h'.get? it = some o → p.st it 0 h') ∧ ∀ b ∈ p.adr, b < s.heap.objs.size := by
  cases p with
  | lst a =>
    have hp : v = .ref a := hp
    subst hp
    cases hv
    obtain ⟨its, rv, q, _⟩ := I.list h
    exact ⟨_, _, begins_list a its.toArray, q.isList, fun it h' e => ⟨_, e, rfl, rfl⟩, fun b hb => by
      have : b = a := by simpa [Sc.adr] using hb
      rw [this]; exact q.lt⟩
  | tup a =>
    have hp : v = .ref a := hp
    subst hp
    cases hv
    obtain ⟨its, rv, q, _⟩ := I.tuple h
    exact ⟨_, _, begins_tuple a its.toArray, q, fun it h' e => ⟨_, e, rfl, rfl⟩, fun b hb => by
      have : b = a := by simpa [Sc.adr] using hb
      obtain ⟨o, e, _⟩ := q
      rw [this]; exact Heap.lt_size e⟩
  | txt x =>
    have hp : v = .str x := hp
    subst hp
    obtain ⟨t, rfl⟩ := hv
    exact ⟨_, _, begins_text x t, trivial, fun it h' e => ⟨t, _, e, rfl, rfl⟩, fun b hb => by simp [Sc.adr] at hb⟩
def iZipM (K : Frag) (ta : TA) : TI := fun σ H R => ta σ H fun vs H1 => ∃ v w p q xs ys, vs = [v, w] ∧ Sc.is v p ∧ Sc.is w q ∧ p.has K H1 xs ∧ q.has K H1 ys ∧ R (ItzM K p q) H1
theorem pi_zipM {X : Cx} {e e2 : Expr} {ta : TA} {p pos tpos : Pos} {elts : List Expr} {kk : Nat} (hg : Gl X "zip") (hm : X.mg "zip" = none) (ha : PA X [e, e2] ta)
    (hs : starEach [e, e2] X.env = (false, eval e X.env) :: starEach [e2] X.env := by rfl) (hpl : (backTo pos (starEach [e2] X.env)).any (·.1) = false := by rfl) :
    PI X (.Tuple elts kk tpos) (.Call (.Name "zip" p) [e, e2] [] pos) (iZipM X.K ta) := by
  refine ⟨fun pins s σ H R I h => ?_⟩
  refine Call_ (ld_blt I hg hm PyProof.Rows.boot_zip (PyProof.Rows.callWith_type1 (thn (ha.run pos pins s σ H _ I h) fun us s1 ⟨vs, H1, I1, r1, q1⟩ => ?_) hs hpl))
  obtain ⟨v, w', a, b, xs, ys, ex, hv, hw, h1, h2, q1⟩ := q1
  subst ex
  cases r1 with
  | cons r rr =>
    cases rr with
    | cons r' rr =>
      cases rr
      obtain ⟨o1, H1', B1, g1, t1, ad1⟩ := Sc.begins I1 h1 r hv
      obtain ⟨o2, H2', B2, g2, t2, ad2⟩ := Sc.begins I1 h2 r' hw
      refine zip_begins2 B1 B2 g1 g2 fun h' hz hTI hTO k1 k2 hsz hk => wpAny_pyIter_zip hz ?_
      have I2 : Inv X pins σ H1 { s1 with heap := h' } := I1.kept (t' := s1.toks) hk
      have new : ∀ c ∈ [s1.heap.objs.size + 4, s1.heap.objs.size + 2, s1.heap.objs.size + 3, s1.heap.objs.size, s1.heap.objs.size + 1], s1.heap.objs.size ≤ c := fun c hc => by
        simp only [List.mem_cons, List.not_mem_nil, or_false] at hc
        rcases hc with rfl | rfl | rfl | rfl | rfl
        · exact Nat.le_add_right _ _
        · exact Nat.le_add_right _ _
        · exact Nat.le_add_right _ _
        · exact Nat.le_refl _
        · exact Nat.le_add_right _ _
      have D : Apt (s1.heap.objs.size + 4) (s1.heap.objs.size + 2) (s1.heap.objs.size + 3) s1.heap.objs.size (s1.heap.objs.size + 1) (a.adr ++ b.adr) := by
        refine ⟨?_, fun c hc hd => ?_⟩
        · generalize s1.heap.objs.size = n
          simp
        · have hn := new c hc
          rcases List.mem_append.mp hd with z | z
          · exact absurd (ad1 c z) (Nat.not_lt.mpr hn)
          · exact absurd (ad2 c z) (Nat.not_lt.mpr hn)
      exact ⟨s1.heap.objs.size + 4, [s1.heap.objs.size + 4, s1.heap.objs.size + 2, s1.heap.objs.size + 3, s1.heap.objs.size, s1.heap.objs.size + 1], _, _, H1, rfl, I2, turn_zipM D, ⟨hz, hTI, ⟨_, _, hTO⟩, t1 _ _ k1, t2 _ _ k2⟩, fun c hc => I1.fpOk (new c hc) (I1.hok.fresh (new c hc)), q1⟩
end Snd
namespace Snd
open PySem PySem.Spec PyProof.Rows L2
/-! ### zip over three sources of any kind -/
def Itz3 (K : Frag) (p q r : Sc) : It :=
  ⟨fun i H => ∃ (xs ys zs : List V) (x y z : V), p.has K H xs ∧ q.has K H ys ∧ r.has K H zs ∧ xs[i]? = some x ∧ ys[i]? = some y ∧ zs[i]? = some z,
    fun i H v H' => ∃ T x y z, v = .ref T ∧ H T = none ∧ H' = upd H T (.tup [x, y, z]) ∧ (∀ xs, p.has K H xs → xs[i]? = some x) ∧ (∀ ys, q.has K H ys → ys[i]? = some y) ∧ ∀ zs, r.has K H zs → zs[i]? = some z,
    fun i H => ∃ xs ys zs : List V, p.has K H xs ∧ q.has K H ys ∧ r.has K H zs ∧ i = min (min xs.length ys.length) zs.length⟩
structure Apt3 (z TI TO i1 i2 i3 : Addr) (ds : List Addr) : Prop where
  nd : [z, TI, TO, i1, i2, i3].Nodup
  ds : ∀ c ∈ [z, TI, TO, i1, i2, i3], c ∉ ds
theorem Apt3.sep {z TI TO i1 i2 i3 : Addr} {d1 d2 d3 : List Addr} (D : Apt3 z TI TO i1 i2 i3 (d1 ++ (d2 ++ d3))) : ZipSep3 z TI TO i1 i2 i3 (i1 :: d1) (i2 :: d2) (i3 :: d3) := by
  have nd := D.nd
  simp at nd
  have a : ∀ c ∈ [z, TI, TO, i1, i2, i3], c ∉ d1 ∧ c ∉ d2 ∧ c ∉ d3 := fun c hc => ⟨fun z => D.ds c hc (List.mem_append_left _ z), fun z => D.ds c hc (List.mem_append_right _ (List.mem_append_left _ z)), fun z => D.ds c hc (List.mem_append_right _ (List.mem_append_right _ z))⟩
  have az := a z (by simp)
  have aT := a TO (by simp)
  have a1 := a i1 (by simp)
  have a2 := a i2 (by simp)
  have a3 := a i3 (by simp)
  obtain ⟨⟨n1, n2, n3, n4, n5⟩, ⟨n6, n7, n8, n9⟩, ⟨n10, n11, n12⟩, ⟨n13, n14⟩, n15⟩ := nd
  exact { TIz := Ne.symm n1, TOz := Ne.symm n2, TITO := n6, TIi1 := n7, mem1 := by simp, zf1 := by simp [n3, az.1], Tf1 := by simp [n10, aT.1], TIi2 := n8, mem2 := by simp, zf2 := by simp [n4, az.2.1], Tf2 := by simp [n11, aT.2.1], TIi3 := n9, mem3 := by simp, zf3 := by simp [n5, az.2.2], Tf3 := by simp [n12, aT.2.2], sep1_2 := by simp [n13, a1.2.1], sep1_3 := by simp [n14, a1.2.2], sep2_1 := by simp [Ne.symm n13, a2.1], sep2_3 := by simp [n15, a2.2.2], sep3_1 := by simp [Ne.symm n14, a3.1], sep3_2 := by simp [Ne.symm n15, a3.2.1] }
theorem turn_zip3 {P : Program} {w : World} {K : Frag} {elts : List Expr} {kk : Nat} {tpos : Pos} {p q r : Sc} {z TI TO i1 i2 i3 : Addr} (D : Apt3 z TI TO i1 i2 i3 (p.adr ++ (q.adr ++ r.adr))) :
    Turn P w K (.Tuple elts kk tpos) (Itz3 K p q r) [z, TI, TO, i1, i2, i3] z (fun i h => IsZip h z TI TO .none ∧ IsTupOf3 h TI (.ref i1) (.ref i2) (.ref i3) ∧ (∃ x y w, IsTupOf3 h TO x y w) ∧ p.st i1 i h ∧ q.st i2 i h ∧ r.st i3 i h) where
  mem := by simp
  obj := fun i h st c hc => by
    obtain ⟨hz, hTI, ⟨x, y, u, hTO⟩, h1, h2, h3⟩ := st
    simp only [List.mem_cons, List.not_mem_nil, or_false] at hc
    rcases hc with rfl | rfl | rfl | rfl | rfl | rfl
    · exact ⟨_, hz, fun v q => nomatch q⟩
    · exact ⟨_, hTI, fun v q => nomatch q⟩
    · exact ⟨_, hTO, fun v q => nomatch q⟩
    · exact Sc.obj (p := p) h1
    · exact Sc.obj (p := q) h2
    · exact Sc.obj (p := r) h3
  keep := fun i h h' st k => by
    obtain ⟨hz, hTI, ⟨x, y, u, hTO⟩, h1, h2, h3⟩ := st
    exact ⟨k z (by simp) _ hz, k TI (by simp) _ hTI, ⟨x, y, u, k TO (by simp) _ hTO⟩, Sc.keep (p := p) h1 fun o e => k i1 (by simp) o e, Sc.keep (p := q) h2 fun o e => k i2 (by simp) o e, Sc.keep (p := r) h3 fun o e => k i3 (by simp) o e⟩
  item := by
    intro X hP hw hK hc i pins s σ H E I hf st hg
    subst hP hw hK
    obtain ⟨hz, hTI, ⟨x0, y0, u0, hTO⟩, h1, h2, h3⟩ := st
    obtain ⟨xs, ys, zs, x, y, u, hp, hq, hr, hx, hy, hu⟩ := hg
    have S := D.sep
    have n1 : i1 ∉ p.adr := fun z => D.ds i1 (by simp) (List.mem_append_left _ z)
    have n2 : i2 ∉ q.adr := fun z => D.ds i2 (by simp) (List.mem_append_right _ (List.mem_append_left _ z))
    have n3 : i3 ∉ r.adr := fun z => D.ds i3 (by simp) (List.mem_append_right _ (List.mem_append_right _ z))
    obtain ⟨P1, St1, D1, s1, b1, v1⟩ := Sc.draws I hc hp h1 n1
    obtain ⟨P2, St2, D2, s2, b2, v2⟩ := Sc.draws I hc hq h2 n2
    obtain ⟨P3, St3, D3, s3, b3, v3⟩ := Sc.draws I hc hr h3 n3
    have l1 := (List.getElem?_eq_some_iff.mp hx).1
    have l2 := (List.getElem?_eq_some_iff.mp hy).1
    have l3 := (List.getElem?_eq_some_iff.mp hu).1
    have hzl : z < s.heap.objs.size := Heap.lt_size hz
    have zi3 : z ≠ i3 := fun e => S.zf3 (by rw [e]; exact S.mem3)
    have zi2 : z ≠ i2 := fun e => S.zf2 (by rw [e]; exact S.mem2)
    refine wpAny_pyNext_zipD3_item S D1 D2 D3 hz hTI hTO s1 s2 s3 l1 l2 l3 fun u1 u2 u3 h' tk pu1 pu2 pu3 z' TO' t1 t2 t3 hT hsz hk => ?_
    refine ⟨_, rfl, wpAny_letOwnedTupleGo_zip (s := { s with heap := h', toks := tk }) z' fun h'' z'' sb => ?_⟩
    have hT2 : h''.get? s.heap.objs.size = some { cls := .type "tuple", data := .seq #[u1, u2, u3] } := (sb.2 _ (Nat.ne_of_gt hzl)).trans hT
    have new : ObjOk X.prog X.w (upd H s.heap.objs.size (.tup [x, y, u])) h'' s.heap.objs.size (.tup [x, y, u]) :=
      ⟨by show 3 ≤ sizeLine; decide, [u1, u2, u3], .cons (v1 i u1 x pu1 hx) (.cons (v2 i u2 y pu2 hy) (.cons (v3 i u3 u pu3 hu) .nil)), ⟨_, hT2, rfl, _, rfl⟩⟩
    have I1 : Inv X pins σ (upd H s.heap.objs.size (.tup [x, y, u])) { s with heap := h'', toks := tk } :=
      I.turnedNew (t' := tk) (ch := [z, TI, TO, i1, i2, i3]) (fun c o hb e => (sb.2 c (fun q' => hb (by simp [q']))).trans (hk c o (fun q' => hb (by simp [q'])) (fun q' => hb (by simp [q'])) (fun q' => hb (by simp [q'])) (fun q' => hb (by simp [q'])) (fun q' => hb (by simp [q'])) e)) hf (Nat.le_refl _) new
    refine ⟨.ref s.heap.objs.size, _, I1, rfl, ⟨_, x, y, u, rfl, I.hok.fresh (Nat.le_refl _), rfl, fun l hl => by rw [Sc.inj I hl hp]; exact hx, fun l hl => by rw [Sc.inj I hl hq]; exact hy, fun l hl => by rw [Sc.inj I hl hr]; exact hu⟩, ⟨z'', ?_, ⟨u1, u2, u3, ?_⟩, ?_, ?_, ?_⟩, fun c hcm => ?_⟩
    · exact (sb.2 _ S.TIz).trans (hk _ _ S.TIz S.TITO S.TIi1 S.TIi2 S.TIi3 hTI)
    · exact (sb.2 _ S.TOz).trans TO'
    · exact Sc.keep (p := p) (b1 _ _ t1) fun o e => (sb.2 _ (Ne.symm S.zi1)).trans e
    · exact Sc.keep (p := q) (b2 _ _ t2) fun o e => (sb.2 _ (Ne.symm zi2)).trans e
    · exact Sc.keep (p := r) (b3 _ _ t3) fun o e => (sb.2 _ (Ne.symm zi3)).trans e
    · have hlt : c < s.heap.objs.size := by
        simp only [List.mem_cons, List.not_mem_nil, or_false] at hcm
        rcases hcm with rfl | rfl | rfl | rfl | rfl | rfl
        · exact hzl
        · exact Heap.lt_size hTI
        · exact Heap.lt_size hTO
        · obtain ⟨o, e, _⟩ := Sc.obj (p := p) h1; exact Heap.lt_size e
        · obtain ⟨o, e, _⟩ := Sc.obj (p := q) h2; exact Heap.lt_size e
        · obtain ⟨o, e, _⟩ := Sc.obj (p := r) h3; exact Heap.lt_size e
      rw [upd_ne (Nat.ne_of_lt hlt)]
      exact (hf c hcm).1
  done := by
    intro X hP hw hK hc i pins s σ H E I hf st hg
    subst hP hw hK
    obtain ⟨hz, hTI, ⟨x0, y0, u0, hTO⟩, h1, h2, h3⟩ := st
    obtain ⟨xs, ys, zs, hp, hq, hr, hend⟩ := hg
    have S := D.sep
    have n1 : i1 ∉ p.adr := fun z => D.ds i1 (by simp) (List.mem_append_left _ z)
    have n2 : i2 ∉ q.adr := fun z => D.ds i2 (by simp) (List.mem_append_right _ (List.mem_append_left _ z))
    have n3 : i3 ∉ r.adr := fun z => D.ds i3 (by simp) (List.mem_append_right _ (List.mem_append_right _ z))
    obtain ⟨P1, St1, D1, s1, b1, v1⟩ := Sc.draws I hc hp h1 n1
    obtain ⟨P2, St2, D2, s2, b2, v2⟩ := Sc.draws I hc hq h2 n2
    obtain ⟨P3, St3, D3, s3, b3, v3⟩ := Sc.draws I hc hr h3 n3
    refine wpAny_pyNext_zipD3_end S D1 D2 D3 hz hTI hTO s1 s2 s3 (by omega) (by omega) (by omega) (by omega) fun h' tk hk => ⟨rfl, I.turnedL (t' := tk) (ch := [z, TI, TO, i1, i2, i3]) (fun c o hb e =>
      hk c o (fun q' => hb (by simp [q'])) (fun q' => hb (by simp [q'])) (fun q' => hb (by simp [q'])) (fun q' => hb (by simp [q'])) (fun q' => hb (by simp [q'])) e) hf⟩
  self := fun A i s Q E st h => wpAny_pyIter_zip st.1 h
def iZip3 (K : Frag) (ta : TA) : TI := fun σ H R => ta σ H fun vs H1 => ∃ v w u p q r xs ys zs, vs = [v, w, u] ∧ Sc.is v p ∧ Sc.is w q ∧ Sc.is u r ∧ p.has K H1 xs ∧ q.has K H1 ys ∧ r.has K H1 zs ∧ R (Itz3 K p q r) H1
theorem pi_zip3 {X : Cx} {e e2 e3 : Expr} {ta : TA} {p pos tpos : Pos} {elts : List Expr} {kk : Nat} (hg : Gl X "zip") (hm : X.mg "zip" = none) (ha : PA X [e, e2, e3] ta)
    (hs : starEach [e, e2, e3] X.env = (false, eval e X.env) :: starEach [e2, e3] X.env := by rfl) (hpl : (backTo pos (starEach [e2, e3] X.env)).any (·.1) = false := by rfl) :
    PI X (.Tuple elts kk tpos) (.Call (.Name "zip" p) [e, e2, e3] [] pos) (iZip3 X.K ta) := by
  refine ⟨fun pins s σ H R I h => ?_⟩
  refine Call_ (ld_blt I hg hm PyProof.Rows.boot_zip (PyProof.Rows.callWith_type1 (thn (ha.run pos pins s σ H _ I h) fun us s1 ⟨vs, H1, I1, r1, q1⟩ => ?_) hs hpl))
  obtain ⟨v, w', u', a, b, d, xs, ys, zs, ex, hv, hw, hu, h1, h2, h3, q1⟩ := q1
  subst ex
  cases r1 with
  | cons r rr =>
    cases rr with
    | cons r' rr =>
      cases rr with
      | cons r'' rr =>
        cases rr
        obtain ⟨o1, H1', B1, g1, t1, ad1⟩ := Sc.begins I1 h1 r hv
        obtain ⟨o2, H2', B2, g2, t2, ad2⟩ := Sc.begins I1 h2 r' hw
        obtain ⟨o3, H3', B3, g3, t3, ad3⟩ := Sc.begins I1 h3 r'' hu
        refine zip_begins3 B1 B2 B3 g1 g2 g3 fun h' hz hTI hTO k1 k2 k3 hsz hk => wpAny_pyIter_zip hz ?_
        have I2 : Inv X pins σ H1 { s1 with heap := h' } := I1.kept (t' := s1.toks) hk
        have new : ∀ c ∈ [s1.heap.objs.size + 5, s1.heap.objs.size + 3, s1.heap.objs.size + 4, s1.heap.objs.size, s1.heap.objs.size + 1, s1.heap.objs.size + 2], s1.heap.objs.size ≤ c := fun c hc => by
          simp only [List.mem_cons, List.not_mem_nil, or_false] at hc
          rcases hc with rfl | rfl | rfl | rfl | rfl | rfl
          · exact Nat.le_add_right _ _
          · exact Nat.le_add_right _ _
          · exact Nat.le_add_right _ _
          · exact Nat.le_refl _
          · exact Nat.le_add_right _ _
          · exact Nat.le_add_right _ _
        have D : Apt3 (s1.heap.objs.size + 5) (s1.heap.objs.size + 3) (s1.heap.objs.size + 4) s1.heap.objs.size (s1.heap.objs.size + 1) (s1.heap.objs.size + 2) (a.adr ++ (b.adr ++ d.adr)) := by
          refine ⟨?_, fun c hc hd => ?_⟩
          · generalize s1.heap.objs.size = n
            simp
          · have hn := new c hc
            rcases List.mem_append.mp hd with z | z
            · exact absurd (ad1 c z) (Nat.not_lt.mpr hn)
            · rcases List.mem_append.mp z with z | z
              · exact absurd (ad2 c z) (Nat.not_lt.mpr hn)
              · exact absurd (ad3 c z) (Nat.not_lt.mpr hn)
        exact ⟨s1.heap.objs.size + 5, [s1.heap.objs.size + 5, s1.heap.objs.size + 3, s1.heap.objs.size + 4, s1.heap.objs.size, s1.heap.objs.size + 1, s1.heap.objs.size + 2], _, _, H1, rfl, I2, turn_zip3 D, ⟨hz, hTI, ⟨_, _, _, hTO⟩, t1 _ _ k1, t2 _ _ k2, t3 _ _ k3⟩, fun c hc => I1.fpOk (new c hc) (I1.hok.fresh (new c hc)), q1⟩
end Snd
namespace Snd
open PySem PySem.Spec PyProof.Rows L2 RZ
/-! ### what is walked -/
/-- the turns of J yield these items as long as the store is as chk says -/
def Mat (K : Frag) (S : M.Sto) (H : Hp) (J : It) (items : List M.D) (chk : M.Sto → Prop) : Prop :=
  ∀ i S2 H2, Fr S H S2 H2 → RelS K H2 S2 → chk S2 → (∀ d, items[i]? = some d → J.go i H2 ∧ ∀ x H3, J.yld i H2 x H3 → Fr S2 H2 S2 H3 ∧ RelS K H3 S2 ∧ RelD K H3 d x) ∧ (i = items.length → J.stop i H2)
def OkI (K : Frag) (S : M.Sto) (H : Hp) (Rd : M.IK) (R : It → Hp → Prop) : Prop := ∀ items chk S' H' J, Fr S H S' H' → RelS K H' S' → Mat K S' H' J items chk → Rd items chk S' → R J H'
theorem OkI.after {K : Frag} {S S' : M.Sto} {H H' : Hp} {Rd : M.IK} {R : It → Hp → Prop} (h : OkI K S H Rd R) (f : Fr S H S' H') : OkI K S' H' Rd R := fun items chk S2 H2 J f2 r2 m q => h items chk S2 H2 J (f.trans f2) r2 m q
theorem OkI.here {K : Frag} {S : M.Sto} {H : Hp} {Rd : M.IK} {R : It → Hp → Prop} (h : OkI K S H Rd R) (r : RelS K H S) {J : It} {items : List M.D} {chk : M.Sto → Prop} (m : Mat K S H J items chk) (q : Rd items chk S) : R J H := h _ _ _ _ _ Fr.refl r m q
def tIt (c : Cn) (W : WX) (it : M.It) : TI := fun σ H R => ∃ ρ S Rd Xd, ρ.length = σ.length ∧ RelE c.K H ρ σ ∧ RelS c.K H S ∧ M.wpIt c.G it ρ S Rd Xd ∧ OkI c.K S H Rd R ∧ OkX c S H Xd fun cls d H' => W cls d σ H'
theorem get_lt {α : Type} {xs : List α} {i : Nat} {d : α} (h : xs[i]? = some d) : i < xs.length := (List.getElem?_eq_some_iff.mp h).1
/-- what lsOf tells stays told -/
theorem ls_at {K : Frag} {H H2 : Hp} {S S2 : M.Sto} (r : RelS K H S) (f : Fr S H S2 H2) (r2 : RelS K H2 S2) {d : M.D} {a : Addr} {xs : List M.D} (rd : RelD K H d (.ref a)) (e : M.lsOf S2 d = some xs) : ∃ vs, SqL K H2 a vs ∧ RelDs K H2 xs vs := by
  obtain ⟨b, vs, eb, h1, h2⟩ := lsOf_rel r2 (rd.mono r f) e
  cases eb
  exact ⟨vs, h1, h2⟩
theorem mat_list {K : Frag} {H : Hp} {S : M.Sto} (r : RelS K H S) {d : M.D} {a : Addr} {xs : List M.D} (rd : RelD K H d (.ref a)) : Mat K S H (Itl K a) xs fun S' => M.lsOf S' d = some xs := by
  intro i S2 H2 f r2 ch
  obtain ⟨vs, h1, h2⟩ := ls_at r f r2 rd ch
  refine ⟨fun y hy => ?_, fun hl0 => have hl := Nat.le_of_eq hl0.symm; ⟨vs, h1, by rw [← h2.length]; exact hl⟩⟩
  obtain ⟨v, e, rv⟩ := h2.get hy
  refine ⟨⟨vs, v, h1, e⟩, fun x H3 q => ?_⟩
  obtain ⟨e3, q⟩ := q
  subst e3
  have e4 := q vs h1
  rw [e] at e4
  cases e4
  exact ⟨Fr.refl, r2, rv⟩
theorem mat_tup {K : Frag} {H : Hp} {S : M.Sto} (r : RelS K H S) {a : Addr} {xs : List M.D} {vs : List V} (h1 : SqT K H a vs) (h2 : RelDs K H xs vs) : Mat K S H (Itt K a) xs fun _ => True := by
  intro i S2 H2 f r2 ch
  have h1 := sqt_mono r f h1
  have h2 := h2.mono r f
  refine ⟨fun y hy => ?_, fun hl0 => have hl := Nat.le_of_eq hl0.symm; ⟨vs, h1, by rw [← h2.length]; exact hl⟩⟩
  obtain ⟨v, e, rv⟩ := h2.get hy
  refine ⟨⟨vs, v, h1, e⟩, fun x H3 q => ?_⟩
  obtain ⟨e3, q⟩ := q
  subst e3
  have e4 := q vs h1
  rw [e] at e4
  cases e4
  exact ⟨Fr.refl, r2, rv⟩
theorem mat_str {K : Frag} {H : Hp} {S : M.Sto} {a : M.Tx} : Mat K S H (Its (stx a)) (a.map fun c => .str [c]) fun _ => True := by
  intro i S2 H2 f r2 ch
  have hs : (stx a).cps.size = a.length := by unfold stx; simp
  refine ⟨fun y hy => ?_, fun hl0 => have hl := Nat.le_of_eq hl0.symm; ?_⟩
  · rw [List.getElem?_map] at hy
    obtain ⟨c, e, ey⟩ := Option.map_eq_some_iff.mp hy
    subst ey
    refine ⟨by show i < (stx a).cps.size; rw [hs]; exact get_lt e, fun x H3 q => ?_⟩
    obtain ⟨e3, c', e4, ex⟩ := q
    subst e3 ex
    have e5 : (stx a).cps[i]? = a[i]? := by unfold stx; simp
    rw [e5, e] at e4
    cases e4
    exact ⟨Fr.refl, r2, .str [c]⟩
  · show (stx a).cps.size ≤ i
    rw [hs]
    simpa using hl
theorem mat_rng {K : Frag} {H : Hp} {S : M.Sto} {lo : Int} {n : Nat} : Mat K S H (Itr lo n) ((List.range n).map fun i => .int (lo + (i : Nat))) fun _ => True := by
  intro i S2 H2 f r2 ch
  refine ⟨fun y hy => ?_, fun hl0 => have hl := Nat.le_of_eq hl0.symm; by show n ≤ i; simpa using hl⟩
  have hl := get_lt hy
  rw [List.length_map, List.length_range] at hl
  rw [List.getElem?_map, List.getElem?_range hl] at hy
  cases hy
  refine ⟨hl, fun x H3 q => ?_⟩
  obtain ⟨e3, ex⟩ := q
  subst e3 ex
  exact ⟨Fr.refl, r2, .int _⟩
theorem enumL_get : ∀ {xs : List M.D} {n i : Nat} {y : M.D}, (M.enumL n xs)[i]? = some y → ∃ d, xs[i]? = some d ∧ y = .tup [.int ((n + i : Nat) : Int), d]
  | [], _, _, _, h => by simp [M.enumL] at h
  | d :: ds, n, 0, y, h => by simp [M.enumL] at h; exact ⟨d, rfl, by simpa using h.symm⟩
  | d :: ds, n, i + 1, y, h => by
    obtain ⟨d', e1, e2⟩ := enumL_get (xs := ds) (n := n + 1) (i := i) (y := y) (by simpa [M.enumL] using h)
    exact ⟨d', by simpa using e1, by rw [e2]; congr 3; omega⟩
theorem enumL_len : ∀ (xs : List M.D) (n : Nat), (M.enumL n xs).length = xs.length
  | [], _ => rfl
  | _ :: ds, n => by simp [M.enumL, enumL_len ds (n + 1)]
theorem pair_new {K : Frag} {H : Hp} {S : M.Sto} {T : Addr} {x y : V} {d e : M.D} (r : RelS K H S) (hT : H T = none) (rx : RelD K H d x) (ry : RelD K H e y) :
    Fr S H S (L2.upd H T (.tup [x, y])) ∧ RelS K (L2.upd H T (.tup [x, y])) S ∧ RelD K (L2.upd H T (.tup [x, y])) (.tup [d, e]) (.ref T) := by
  have f : Fr S H S (L2.upd H T (.tup [x, y])) := Fr.laid hT
  exact ⟨f, r.laid hT, .tup (SqT.of upd_same) (.cons (rx.mono r f) (.cons (ry.mono r f) .nil))⟩
theorem mat_enum {K : Frag} {H : Hp} {S : M.Sto} (r : RelS K H S) {d : M.D} {a : Addr} {xs : List M.D} (rd : RelD K H d (.ref a)) : Mat K S H (Ite K a) (M.enumL 0 xs) fun S' => M.lsOf S' d = some xs := by
  intro i S2 H2 f r2 ch
  obtain ⟨vs, h1, h2⟩ := ls_at r f r2 rd ch
  refine ⟨fun y hy => ?_, fun hl0 => have hl := Nat.le_of_eq hl0.symm; ⟨vs, h1, by rw [← h2.length]; rwa [enumL_len] at hl⟩⟩
  obtain ⟨d', e1, ey⟩ := enumL_get hy
  subst ey
  obtain ⟨v, e, rv⟩ := h2.get e1
  refine ⟨⟨vs, v, h1, e⟩, fun x H3 q => ?_⟩
  obtain ⟨T, z, ex, hT, e3, q⟩ := q
  subst ex e3
  have e4 := q vs h1
  rw [e] at e4
  cases e4
  rw [Nat.zero_add]
  exact pair_new r2 hT (.int _) rv
theorem zipP_get {xs ys : List M.D} {i : Nat} {y : M.D} (h : (M.zipP xs ys)[i]? = some y) : ∃ d e, xs[i]? = some d ∧ ys[i]? = some e ∧ y = .tup [d, e] := by
  unfold M.zipP at h
  rw [List.getElem?_map] at h
  obtain ⟨⟨d, e⟩, hz, hy⟩ := Option.map_eq_some_iff.mp h
  obtain ⟨h1, h2⟩ := List.getElem?_zip_eq_some.mp hz
  exact ⟨d, e, h1, h2, hy.symm⟩
theorem zipP_len (xs ys : List M.D) : (M.zipP xs ys).length = min xs.length ys.length := by unfold M.zipP; simp
theorem mat_zipM {K : Frag} {H : Hp} {S : M.Sto} {p q : Sc} {xs ys : List M.D} {chk : M.Sto → Prop} (hp : ∀ S2 H2, Fr S H S2 H2 → RelS K H2 S2 → chk S2 → ∃ vs, p.has K H2 vs ∧ RelDs K H2 xs vs) (hq : ∀ S2 H2, Fr S H S2 H2 → RelS K H2 S2 → chk S2 → ∃ vs, q.has K H2 vs ∧ RelDs K H2 ys vs) :
    Mat K S H (ItzM K p q) (M.zipP xs ys) chk := by
  intro i S2 H2 f r2 ch
  obtain ⟨vs, h1, h2⟩ := hp S2 H2 f r2 ch
  obtain ⟨us, g1, g2⟩ := hq S2 H2 f r2 ch
  refine ⟨fun y hy => ?_, fun hl => ⟨vs, us, h1, g1, by rw [zipP_len, h2.length, g2.length] at hl; exact hl⟩⟩
  obtain ⟨d', e', e1, e2, ey⟩ := zipP_get hy
  subst ey
  obtain ⟨v, ev, rv⟩ := h2.get e1
  obtain ⟨u, eu, ru⟩ := g2.get e2
  refine ⟨⟨vs, us, v, u, h1, g1, ev, eu⟩, fun x H3 q' => ?_⟩
  obtain ⟨T, z, z', ex, hT, e3, w1, w2⟩ := q'
  subst ex e3
  have e4 := w1 vs h1
  rw [ev] at e4
  cases e4
  have e4 := w2 us g1
  rw [eu] at e4
  cases e4
  exact pair_new r2 hT rv ru
theorem zipP3_get {xs ys zs : List M.D} {i : Nat} {y : M.D} (h : (M.zipP3 xs ys zs)[i]? = some y) : ∃ d e f, xs[i]? = some d ∧ ys[i]? = some e ∧ zs[i]? = some f ∧ y = .tup [d, e, f] := by
  unfold M.zipP3 at h
  rw [List.getElem?_map] at h
  cases hz : (xs.zip (ys.zip zs))[i]? with
  | none => rw [hz] at h; cases h
  | some q =>
    rw [hz] at h
    injection h with h
    obtain ⟨h1, h2⟩ := List.getElem?_zip_eq_some.mp hz
    obtain ⟨h3, h4⟩ := List.getElem?_zip_eq_some.mp h2
    exact ⟨_, _, _, h1, h3, h4, h.symm⟩
theorem zipP3_len (xs ys zs : List M.D) : (M.zipP3 xs ys zs).length = min (min xs.length ys.length) zs.length := by unfold M.zipP3; simp [Nat.min_assoc]
theorem triple_new {K : Frag} {H : Hp} {S : M.Sto} {T : Addr} {x y z : V} {d e f : M.D} (r : RelS K H S) (hT : H T = none) (rx : RelD K H d x) (ry : RelD K H e y) (rz : RelD K H f z) :
    Fr S H S (L2.upd H T (.tup [x, y, z])) ∧ RelS K (L2.upd H T (.tup [x, y, z])) S ∧ RelD K (L2.upd H T (.tup [x, y, z])) (.tup [d, e, f]) (.ref T) := by
  have g : Fr S H S (L2.upd H T (.tup [x, y, z])) := Fr.laid hT
  exact ⟨g, r.laid hT, .tup (SqT.of upd_same) (.cons (rx.mono r g) (.cons (ry.mono r g) (.cons (rz.mono r g) .nil)))⟩
theorem mat_zip3 {K : Frag} {H : Hp} {S : M.Sto} {p q t : Sc} {xs ys zs : List M.D} {chk : M.Sto → Prop} (hp : ∀ S2 H2, Fr S H S2 H2 → RelS K H2 S2 → chk S2 → ∃ vs, p.has K H2 vs ∧ RelDs K H2 xs vs) (hq : ∀ S2 H2, Fr S H S2 H2 → RelS K H2 S2 → chk S2 → ∃ vs, q.has K H2 vs ∧ RelDs K H2 ys vs) (ht : ∀ S2 H2, Fr S H S2 H2 → RelS K H2 S2 → chk S2 → ∃ vs, t.has K H2 vs ∧ RelDs K H2 zs vs) :
    Mat K S H (Itz3 K p q t) (M.zipP3 xs ys zs) chk := by
  intro i S2 H2 f r2 ch
  obtain ⟨vs, h1, h2⟩ := hp S2 H2 f r2 ch
  obtain ⟨us, g1, g2⟩ := hq S2 H2 f r2 ch
  obtain ⟨ws, k1, k2⟩ := ht S2 H2 f r2 ch
  refine ⟨fun y hy => ?_, fun hl => ⟨vs, us, ws, h1, g1, k1, by rw [zipP3_len, h2.length, g2.length, k2.length] at hl; exact hl⟩⟩
  obtain ⟨d', e', f', e1, e2, e3, ey⟩ := zipP3_get hy
  subst ey
  obtain ⟨v, ev, rv⟩ := h2.get e1
  obtain ⟨u, eu, ru⟩ := g2.get e2
  obtain ⟨w, ew, rw'⟩ := k2.get e3
  refine ⟨⟨vs, us, ws, v, u, w, h1, g1, k1, ev, eu, ew⟩, fun x H3 q' => ?_⟩
  obtain ⟨T, z, z', z'', ex, hT, e3, w1, w2, w3⟩ := q'
  subst ex e3
  have e4 := w1 vs h1
  rw [ev] at e4
  cases e4
  have e4 := w2 us g1
  rw [eu] at e4
  cases e4
  have e4 := w3 ws k1
  rw [ew] at e4
  cases e4
  exact triple_new r2 hT rv ru rw'
theorem chrs_rel {K : Frag} {H : Hp} : ∀ a : M.Tx, RelDs K H (a.map fun c => .str [c]) (chrs (stx a))
  | [] => .nil
  | c :: r => .cons (.str [c]) (chrs_rel r)
/-! ### over a list, a tuple, a text -/
theorem PI.imp {X : Cx} {tg e : Expr} {t t' : TI} (h : PI X tg e t) (i : ∀ σ H R, t' σ H R → t σ H R) : PI X tg e t' := ⟨fun pins s σ H R I q => h.run pins s σ H R I (i σ H R q)⟩
def iSeq (K : Frag) (te : TE) : TI := fun σ H R => te σ H fun v H1 => (∃ a xs, v = .ref a ∧ SqL K H1 a xs ∧ R (Itl K a) H1) ∨ (∃ a xs, v = .ref a ∧ SqT K H1 a xs ∧ R (Itt K a) H1) ∨ ∃ x, v = .str x ∧ R (Its x) H1
theorem pi_seqM {X : Cx} {tg e : Expr} {te : TE} (he : PE X e te) : PI X tg e (iSeq X.K te) := by
  refine ⟨fun pins s σ H R I h => ?_⟩
  refine thn (he.run pins s σ H _ I h) fun v s1 ⟨y, H1, I1, r1, q⟩ => ?_
  rcases q with ⟨a, xs, ey, hq, q⟩ | ⟨a, xs, ey, hq, q⟩ | ⟨x, ey, q⟩
  · subst ey
    cases r1
    obtain ⟨its, rv, p, hz⟩ := I1.list hq
    exact wpAny_pyIter_list p.isList (pi_one (tk := s1.toks) I1 _ (turn_list a _) ⟨_, Heap.get?_push_size _ rfl, rfl, rfl⟩ q)
  · subst ey
    cases r1
    obtain ⟨its, rv, p, hz⟩ := I1.tuple hq
    exact wpAny_pyIter_tuple (show s1.heap.IsTuple a its.toArray from p) (pi_one (tk := s1.toks) I1 _ (turn_tuple a _) ⟨_, Heap.get?_push_size _ rfl, rfl, rfl⟩ q)
  · subst ey
    obtain ⟨t, rfl⟩ := r1
    cases ha : x.cps.all (· < 128)
    · exact wpAny_pyIter_wide ha (pi_one (tk := s1.toks) I1 _ (turn_str _ x t "str_iterator" (.inr rfl)) ⟨_, Heap.get?_push_size _ rfl, rfl, rfl⟩ q)
    · exact wpAny_pyIter_ascii ha (pi_one (tk := s1.toks) I1 _ (turn_str _ x t "str_ascii_iterator" (.inl rfl)) ⟨_, Heap.get?_push_size _ rfl, rfl, rfl⟩ q)
/-- the reading of what is walked, by value -/
theorem seq_rel {K : Frag} {H : Hp} {S : M.Sto} {d : M.D} {v : V} {Rd : M.IK} {R : It → Hp → Prop} (r : RelS K H S) (rd : RelD K H d v) (w : M.seqD d S Rd) (q : OkI K S H Rd R) :
    (∃ a xs, v = .ref a ∧ SqL K H a xs ∧ R (Itl K a) H) ∨ (∃ a xs, v = .ref a ∧ SqT K H a xs ∧ R (Itt K a) H) ∨ ∃ x, v = .str x ∧ R (Its x) H := by
  cases rd with
  | ref a =>
    obtain ⟨xs, e, w⟩ := opt_of (show M.opt (M.lstAt S a) (fun xs => Rd xs (fun S' => S' a = some (.lst xs)) S) from w)
    obtain ⟨vs, h1, h2⟩ := r.at e
    refine .inl ⟨a, vs, rfl, SqL.of h1, q.here r ?_ w⟩
    intro i S2 H2 f r2 ch
    exact mat_list r (.ref a) i S2 H2 f r2 (show M.lsOf S2 (.ref a) = some xs from lstAt_of ch)
  | fl h1 h2 => exact .inl ⟨_, _, rfl, h1.sq, q.here r (fun i S2 H2 f r2 _ => mat_list r (.fl h1 h2) i S2 H2 f r2 rfl) w⟩
  | tup h1 h2 => exact .inr (.inl ⟨_, _, rfl, h1, q.here r (mat_tup r h1 h2) w⟩)
  | str x => exact .inr (.inr ⟨_, rfl, q.here r mat_str w⟩)
  | non => exact False.elim w
  | bl b => exact False.elim w
  | int i => exact False.elim w
  | xn _ => exact False.elim w
end Snd
namespace Snd
open PySem PySem.Spec PyProof.Rows L2
/-! ### from the checks -/
theorem and2 {a b : Bool} (h : (a && b) = true) : a = true ∧ b = true := Bool.and_eq_true_iff.mp h
theorem not1 {a : Bool} (h : (!a) = true) : a = false := by cases a <;> first | rfl | cases h
theorem vis_of {sc : Scope} {x : Str} (h : visB sc x = true) : Vis sc x := by
  unfold visB at h
  split at h <;> first | exact .inl (by assumption) | exact .inr (.inl (by assumption)) | exact .inr (.inr (by assumption)) | cases h
theorem gl_of {X : Cx} {sc : Scope} {x : Str} (hs : X.env.scope = sc) (h : glB sc x = true) : Gl X x := by
  unfold glB at h
  subst hs
  split at h <;> first | assumption | cases h
theorem loc_of {sc : Scope} {x : Str} (h : locB sc x = true) : sc.names.lookup x = some .local := by
  unfold locB at h
  split at h <;> first | assumption | cases h
theorem tgB_of {scope sc : Scope} {x : Str} (h : tgB scope sc x = true) : Loc (relS scope sc) x ∧ ((scope.names.lookup x == some NameKind.cell) = true ∨ (relS scope sc).names.lookup x = some .local) := by
  rcases Bool.or_eq_true_iff.mp h with h | h
  · exact ⟨.inl (loc_of h), .inr (loc_of h)⟩
  · have e : scope.names.lookup x = some .cell := eq_of_beq h
    exact ⟨.inr (lookup_relS_keep (by decide) e), .inl h⟩
theorem locC_of {sc : Scope} {x : Str} (h : locCB sc x = true) : Loc sc x := by
  unfold locCB at h
  split at h <;> first | exact .inl (by assumption) | exact .inr (by assumption) | cases h
theorem dbg_of {x : Str} (h : (!dbgB x) = true) : (x == ("__debug__" : Str)) = false ∧ (x == ("__classdict__" : Str)) = false := by
  have h := not1 h
  unfold dbgB at h
  exact Bool.or_eq_false_iff.mp h
theorem plB_star {e : Expr} {es : List Expr} {env : Env} (h : plB e = true) : starEach (e :: es) env = (false, eval e env) :: starEach es env := by
  cases e <;> first | rfl | cases h
theorem plB_all {pos : Pos} {env : Env} : ∀ {es : List Expr}, es.all plB = true → (backTo pos (starEach es env)).any (·.1) = false
  | [], _ => rfl
  | e :: es, h => by
    have h := and2 (show (plB e && es.all plB) = true from h)
    rw [plB_star h.1]
    show (false || (backTo pos (starEach es env)).any (·.1)) = false
    rw [plB_all h.2]
    rfl
theorem plB_few {pos : Pos} {env : Env} : ∀ {es : List Expr}, es.all plB = true → (backTo pos (starEach es env)).all (fun x => !x.1) = true
  | [], _ => rfl
  | e :: es, h => by
    have h := and2 (show (plB e && es.all plB) = true from h)
    rw [plB_star h.1]
    show (true && (backTo pos (starEach es env)).all (fun x => !x.1)) = true
    rw [plB_few h.2]
    rfl
theorem plB_ix {e : Expr} (h : plB e = true) : PlainIx e := by
  cases e <;> first | (intro _ _; rfl) | cases h
theorem bare_of {e : Expr} {nm : Str} {env : Env} (h : bareB e = true) : attributeBase e nm env (eval e env) = eval e env := by
  cases e <;> first | rfl | cases h
theorem folded_of {e : Expr} {env : Env} (h : noSet e = true) : ∀ x, foldedSetIterable e env x = pure x := by
  cases e <;> first | (intro _; rfl) | cases h
theorem name_of {N : List Str} {ok : Str → Bool} {i : Nat} {e : Expr} (h : nameAt N ok i e = true) : ∃ x p, e = .Name x p ∧ N[i]? = some x ∧ ok x = true ∧ (x == ("__debug__" : Str)) = false ∧ (x == ("__classdict__" : Str)) = false := by
  unfold nameAt at h
  split at h
  · rename_i x p
    obtain ⟨h, h3⟩ := and2 h
    obtain ⟨h1, h2⟩ := and2 h
    exact ⟨x, p, rfl, of_decide_eq_true h1, h2, dbg_of h3⟩
  · cases h
theorem biCall_of {T : Tb} {sc : Scope} {nm : Str} {ok : List Expr → Bool} {e : Expr} (h : biCall T sc nm ok e = true) :
    ∃ p es pos, e = .Call (.Name nm p) es [] pos ∧ nm ∈ T.bts ∧ glB sc nm = true ∧ (nm == ("__debug__" : Str)) = false ∧ ok es = true := by
  unfold biCall at h
  split at h
  · rename_i x p es ks pos
    obtain ⟨h, h6⟩ := and2 h
    obtain ⟨h, h5⟩ := and2 h
    obtain ⟨h, h4⟩ := and2 h
    obtain ⟨h, h3⟩ := and2 h
    obtain ⟨h1, h2⟩ := and2 h
    have e1 : x = nm := of_decide_eq_true h1
    subst e1
    have e5 : ks = [] := by cases ks with | nil => rfl | cons => cases h5
    subst e5
    exact ⟨p, es, pos, rfl, of_decide_eq_true h2, h3, (dbg_of h4).1, h6⟩
  · cases h
theorem one_of {p : Expr → Bool} {es : List Expr} (h : one p es = true) : ∃ e, es = [e] ∧ plB e = true ∧ p e = true := by
  unfold one at h
  split at h
  · exact ⟨_, rfl, and2 h⟩
  · cases h
theorem two_of {p q : Expr → Bool} {es : List Expr} (h : two p q es = true) : ∃ e d, es = [e, d] ∧ plB e = true ∧ plB d = true ∧ p e = true ∧ q d = true := by
  unfold two at h
  split at h
  · obtain ⟨h, h4⟩ := and2 h
    obtain ⟨h, h3⟩ := and2 h
    obtain ⟨h1, h2⟩ := and2 h
    exact ⟨_, _, rfl, h1, h2, h3, h4⟩
  · cases h
theorem three_of {p q r : Expr → Bool} {es : List Expr} (h : three p q r es = true) : ∃ e d f, es = [e, d, f] ∧ plB e = true ∧ plB d = true ∧ plB f = true ∧ p e = true ∧ q d = true ∧ r f = true := by
  unfold three at h
  split at h
  · obtain ⟨h, h6⟩ := and2 h
    obtain ⟨h, h5⟩ := and2 h
    obtain ⟨h, h4⟩ := and2 h
    obtain ⟨h, h3⟩ := and2 h
    obtain ⟨h1, h2⟩ := and2 h
    exact ⟨_, _, _, rfl, h1, h2, h3, h4, h5, h6⟩
  · cases h
/-! ### readings -/
section
variable {c : Cn} {W : WX} {σ : Sl} {H : Hp} {Q : VK}
/-- two values in a row -/
theorem two_rel {a b : M.Ex} {ρ : M.Env} {S : M.Sto} {Xd : M.XK} {f : M.D → M.D → M.Sto → Prop} {R : V → V → Hp → Prop} (hl : ρ.length = σ.length) (re : RelE c.K H ρ σ) (r : RelS c.K H S)
    (w : M.wpE c.G a ρ S (fun x S1 => M.wpE c.G b ρ S1 (fun y S2 => f x y S2) Xd) Xd) (hx : OkX c S H Xd fun cls d H' => W cls d σ H')
    (k : ∀ x y S2 v u H2, Fr S H S2 H2 → RelS c.K H2 S2 → RelD c.K H2 x v → RelD c.K H2 y u → f x y S2 → R v u H2) : tE c W a σ H fun v H1 => tE c W b σ H1 fun u H2 => R v u H2 :=
  ⟨ρ, S, _, Xd, hl, re, r, w, fun x S1 v H1 f1 r1 rx q1 => ⟨ρ, S1, _, Xd, hl, re.mono r f1, r1, q1, fun y S2 u H2 f2 r2 ry q2 => k x y S2 v u H2 (f1.trans f2) r2 (rx.mono r1 f2) ry q2, hx.after f1⟩, hx⟩
theorem three_rel {a b d : M.Ex} {ρ : M.Env} {S : M.Sto} {Xd : M.XK} {f : M.D → M.D → M.D → M.Sto → Prop} {R : V → V → V → Hp → Prop} (hl : ρ.length = σ.length) (re : RelE c.K H ρ σ) (r : RelS c.K H S)
    (w : M.wpE c.G a ρ S (fun x S1 => M.wpE c.G b ρ S1 (fun y S2 => M.wpE c.G d ρ S2 (fun z S3 => f x y z S3) Xd) Xd) Xd) (hx : OkX c S H Xd fun cls d H' => W cls d σ H')
    (k : ∀ x y z S2 v u t H2, Fr S H S2 H2 → RelS c.K H2 S2 → RelD c.K H2 x v → RelD c.K H2 y u → RelD c.K H2 z t → f x y z S2 → R v u t H2) : tE c W a σ H fun v H1 => tE c W b σ H1 fun u H2 => tE c W d σ H2 fun t H3 => R v u t H3 :=
  ⟨ρ, S, _, Xd, hl, re, r, w, fun x S1 v H1 f1 r1 rx q1 => ⟨ρ, S1, _, Xd, hl, re.mono r f1, r1, q1, fun y S2 u H2 f2 r2 ry q2 => ⟨ρ, S2, _, Xd, hl, re.mono r (f1.trans f2), r2, q2, fun z S3 t H3 f3 r3 rz q3 => k x y z S3 v u t H3 ((f1.trans f2).trans f3) r3 (rx.mono r1 (f2.trans f3)) (ry.mono r2 f3) rz q3, (hx.after f1).after f2⟩, hx.after f1⟩, hx⟩
theorem one_rel {a : M.Ex} {ρ : M.Env} {S : M.Sto} {Xd : M.XK} {f : M.D → M.Sto → Prop} {R : V → Hp → Prop} (hl : ρ.length = σ.length) (re : RelE c.K H ρ σ) (r : RelS c.K H S)
    (w : M.wpE c.G a ρ S f Xd) (hx : OkX c S H Xd fun cls d H' => W cls d σ H')
    (k : ∀ x S2 v H2, Fr S H S2 H2 → RelS c.K H2 S2 → RelD c.K H2 x v → f x S2 → R v H2) : tE c W a σ H R :=
  ⟨ρ, S, _, Xd, hl, re, r, w, fun x S1 v H1 f1 r1 rx q1 => k x S1 v H1 f1 r1 rx q1, hx⟩
theorem ones_rel {a : M.Es} {ρ : M.Env} {S : M.Sto} {Xd : M.XK} {f : List M.D → M.Sto → Prop} {R : List V → Hp → Prop} (hl : ρ.length = σ.length) (re : RelE c.K H ρ σ) (r : RelS c.K H S)
    (w : M.wpEs c.G a ρ S f Xd) (hx : OkX c S H Xd fun cls d H' => W cls d σ H')
    (k : ∀ x S2 v H2, Fr S H S2 H2 → RelS c.K H2 S2 → RelDs c.K H2 x v → f x S2 → R v H2) : tEs c W a σ H R :=
  ⟨ρ, S, _, Xd, hl, re, r, w, fun x S1 v H1 f1 r1 rx q1 => k x S1 v H1 f1 r1 rx q1, hx⟩
end
/-- a value's reading as a test -/
abbrev tB1 (t : TE) : TT := tB t
/-- the reading of what stands behind and, or -/
def tR (c : Cn) (W : WX) (f : M.Gm → M.Es → M.Env → M.Sto → M.VK → M.XK → Prop) (es : M.Es) : TE := fun σ H Q => ∃ ρ S Qd Xd, ρ.length = σ.length ∧ RelE c.K H ρ σ ∧ RelS c.K H S ∧ f c.G es ρ S Qd Xd ∧ OkV c.K S H Qd Q ∧ OkX c S H Xd fun cls d H' => W cls d σ H'
def tO (c : Cn) (W : WX) (o : M.Oe) : TO := fun σ H Q => ∃ ρ S Qd Xd, ρ.length = σ.length ∧ RelE c.K H ρ σ ∧ RelS c.K H S ∧ M.wpO c.G o ρ S Qd Xd ∧ (∀ i S' H', Fr S H S' H' → RelS c.K H' S' → Qd i S' → Q i H') ∧ OkX c S H Xd fun cls d H' => W cls d σ H'
/-- a clause's test in a block: nothing may leave it -/
def tCn (c : Cn) (o : M.Oe) : TT := fun σ H Q => ∃ ρ S Qd, ρ.length = σ.length ∧ RelE c.K H ρ σ ∧ RelS c.K H S ∧ M.wpC c.G o ρ S Qd ∧ ∀ b S' H', Fr S H S' H' → RelS c.K H' S' → Qd b S' → Q b H'
def W0 : WX := fun _ _ _ _ => False
theorem okX0 {c : Cn} {S : M.Sto} {H : Hp} {W : Value → Option Addr → Hp → Prop} : OkX c S H M.X0 W := fun _ _ _ _ _ _ _ _ _ q => False.elim q
/-! ### the callee runs -/
theorem run_fnG {X : Cx} {hot : Bool} {k : Nat} {f : Addr} {fd : FuncData} {ps : List Str} {sp : L2.Sp} {E : Sl → XK} {pins : List (Addr × Obj)} {σ : Sl} {H : Hp} {s : Shared} {Q : VK} {args : Args} {us : List Value} {vs : List V} (F : FnG X.prog X.w X.K X.mg X.base hot k f fd ps sp) (hr : RoomB hot k X.A) (hg : X.A.guards = some [])
    (hb : BindsTo s fd args (ps.zip us)) (hx : PassesAt (L2.CX X.prog X.w) X σ (E σ)) (I : Inv X pins σ H s) (r : Vals vs us) (h : sp vs H Q (E σ)) : wpAny (model X.prog X.w) X.A (call (.ref f) args.pos args.kw) (EP X pins σ Q) X.xe s := by
  refine wpAny_call (codeAny_mono (F.run X.A X.stack s H args us vs Q (E σ) hr hg I.env0 hb r h) fun r s' hq => ?_)
  cases r with
  | error e => exact hx pins H s e s' I hq
  | ok fl =>
    cases fl with
    | ret u => exact I.after hq
    | next => exact False.elim hq
    | brk => exact False.elim hq
    | cont => exact False.elim hq
end Snd
namespace Snd
open PySem PySem.Spec PyProof.Rows L2
/-! ### targets -/
def gNames : List Nat → TGs
  | [] => gNil
  | i :: is => gCons (gName i) (gNames is)
def tgG (K : Frag) : M.Tg → TG
  | .v i => gName i
  | .tup is => fun v σ H Q => gTup K is.length (gNames is) v σ H Q ∨ gUnl K is.length (gNames is) v σ H Q
section
variable {X : Cx}
theorem pgsOk {ok : Str → Bool} (hN : X.N.Nodup) (hok : ∀ x, ok x = true → Loc X.env.scope x ∧ (X.fn x = true ∨ X.env.scope.names.lookup x = some .local)) : ∀ {is : List Nat} {es : List Expr}, namesAt X.N ok is es = true →
    PGs X es (gNames is) ∧ (assignEach es X.env).length = is.length ∧ (assignEach es X.env).findIdx? (·.1) = none
  | [], [], _ => ⟨pgs_nil, rfl, rfl⟩
  | [], _ :: _, h => nomatch h
  | _ :: _, [], h => nomatch h
  | i :: is, e :: es, h => by
    obtain ⟨h1, h2⟩ := and2 (show (nameAt X.N ok i e && namesAt X.N ok is es) = true from h)
    obtain ⟨x, p, rfl, a1, a2, _⟩ := name_of h1
    obtain ⟨b1, b2, b3⟩ := pgsOk hN hok h2
    obtain ⟨l1, l2⟩ := hok x a2
    refine ⟨pgs_cons (pg_name hN a1 l1 l2) b1, ?_, ?_⟩
    · show (assignEach es X.env).length + 1 = is.length + 1
      rw [b2]
    · show List.findIdx? (·.1) ((false, _) :: assignEach es X.env) = none
      rw [List.findIdx?_cons, b3]
      rfl
theorem pgOk {ok : Str → Bool} {t : M.Tg} (hc : (∀ i, t ≠ .v i) → X.calm = true) (hN : X.N.Nodup) (hok : ∀ x, ok x = true → Loc X.env.scope x ∧ (X.fn x = true ∨ X.env.scope.names.lookup x = some .local)) {e : Expr} (h : chkTg X.N ok t e = true) : PG X e (tgG X.K t) := by
  cases t with
  | v i =>
    obtain ⟨x, p, rfl, a1, a2, _⟩ := name_of (show nameAt X.N ok i e = true from h)
    obtain ⟨l1, l2⟩ := hok x a2
    exact pg_name hN a1 l1 l2
  | tup is =>
    have hc := hc (fun i => nofun)
    unfold chkTg at h
    split at h
    · rename_i heq
      cases heq
    · rename_i heq
      cases heq
      obtain ⟨b1, b2, b3⟩ := pgsOk hN hok h
      exact ⟨fun pins s σ H v u Q I r h => h.elim (fun h => (pg_tup hc b1 b2 b3).run pins s σ H v u Q I r h) fun h => (pg_unl hc b1 b2 b3).run pins s σ H v u Q I r h⟩
    · cases h
end
theorem setAll_rel {K : Frag} {H : Hp} : ∀ {is : List Nat} {ds : List M.D} {vs : List V} {ρ : M.Env} {σ : Sl} {R : Sl → Hp → Prop}, ds.length = is.length → RelDs K H ds vs → ρ.length = σ.length → RelE K H ρ σ →
    (∀ σ', σ'.length = σ.length → RelE K H (M.setAll is ds ρ) σ' → (∀ i, i ∉ is → σ'[i]? = σ[i]?) → R σ' H) → gNames is vs σ H R
  | [], [], _, ρ, σ, R, _, .nil, hl, re, k => ⟨rfl, k σ rfl re fun _ _ => rfl⟩
  | [], _ :: _, _, _, _, _, h, _, _, _, _ => nomatch h
  | _ :: _, [], _, _, _, _, h, _, _, _, _ => nomatch h
  | i :: is, d :: ds, _, ρ, σ, R, h, .cons (v := v) a b, hl, re, k => by
    refine ⟨v, _, rfl, ?_⟩
    refine setAll_rel (ρ := ρ.set i (some d)) (Nat.succ.inj h) b (by rw [List.length_set, List.length_set, hl]) (re.set hl a i) fun σ' l r q => k σ' (by rw [l, List.length_set]) r fun j hj => ?_
    rw [q j fun z => hj (List.mem_cons_of_mem _ z), List.getElem?_set_ne (fun z => hj (by rw [z]; exact List.mem_cons_self))]
theorem asg_rel {K : Frag} {H : Hp} {S : M.Sto} (rS : RelS K H S) {t : M.Tg} {d : M.D} {v : V} {ρ : M.Env} {σ : Sl} {Qe : M.Env → Prop} {R : Sl → Hp → Prop} (hl : ρ.length = σ.length) (re : RelE K H ρ σ) (rd : RelD K H d v) (w : M.asg t d S ρ Qe)
    (k : ∀ ρ' σ', ρ'.length = σ'.length → σ'.length = σ.length → RelE K H ρ' σ' → (∀ i, i ∉ M.tgs t → σ'[i]? = σ[i]?) → Qe ρ' → R σ' H) : tgG K t v σ H R := by
  cases t with
  | v i =>
    refine k _ _ (by rw [List.length_set, List.length_set, hl]) (by rw [List.length_set]) (re.set hl rd i) (fun j hj => ?_) w
    rw [List.getElem?_set_ne fun z => hj (by rw [z]; exact List.mem_cons_self)]
  | tup is =>
    have hs : ∀ (is : List Nat) (ds : List M.D) (ρ : M.Env), (M.setAll is ds ρ).length = ρ.length := by
      intro is
      induction is with
      | nil => intro ds ρ; cases ds <;> rfl
      | cons i is ih => intro ds ρ; cases ds with
        | nil => rfl
        | cons d ds => show (M.setAll is ds (ρ.set i (some d))).length = _; rw [ih, List.length_set]
    have list : ∀ xs, M.lsOf S d = some xs → xs.length = is.length ∧ Qe (M.setAll is xs ρ) → gUnl K is.length (gNames is) v σ H R := by
      rintro xs e ⟨w1, w2⟩
      obtain ⟨a, vs, rfl, h1, h2⟩ := lsOf_rel rS rd e
      exact ⟨a, vs, rfl, h1, by rw [← h2.length]; exact w1, setAll_rel w1 h2 hl re fun σ' l r q => k _ σ' (by rw [hs, l, hl]) l r q w2⟩
    cases rd with
    | tup h1 h2 =>
      obtain ⟨w1, w2⟩ := w
      exact .inl ⟨_, _, rfl, h1, by rw [← h2.length]; exact w1, setAll_rel w1 h2 hl re fun σ' l r q => k _ σ' (by rw [hs, l, hl]) l r q w2⟩
    | fl h1 h2 => exact .inr (list _ rfl w)
    | ref a =>
      obtain ⟨xs, e, w⟩ := opt_of (show M.opt (M.lsOf S (.ref a)) (fun xs => xs.length = is.length ∧ Qe (M.setAll is xs ρ)) from w)
      exact .inr (list _ e w)
    | _ => exact False.elim w
/-! ### comprehensions -/
theorem wipe_same {σ σ' : Sl} {vs : List Nat} (hl : σ'.length = σ.length) (h : ∀ i, i ∉ vs → σ'[i]? = σ[i]?) : L2.wipe σ' vs = L2.wipe σ vs := by
  refine List.ext_getElem? fun i => ?_
  by_cases hi : i ∈ vs
  · have hlen : (L2.wipe σ' vs).length = (L2.wipe σ vs).length := by rw [wipe_length, wipe_length, hl]
    cases e1 : (L2.wipe σ' vs)[i]? with
    | none =>
      rw [List.getElem?_eq_none_iff] at e1
      exact (List.getElem?_eq_none_iff.mpr (by omega)).symm
    | some o1 =>
      have hlt := get_lt e1
      cases e2 : (L2.wipe σ vs)[i]? with
      | none => rw [List.getElem?_eq_none_iff] at e2; omega
      | some o2 =>
        cases o1 with
        | some x => exact absurd hi (wipe_some e1).2
        | none => cases o2 with
          | some x => exact absurd hi (wipe_some e2).2
          | none => rfl
  · rw [wipe_out hi, wipe_out hi, h i hi]
/-- a list that is tracked may stand in the store -/
theorem RelS.put {K : Frag} {H : Hp} {S : M.Sto} (r : RelS K H S) {D : Addr} {acc : List V} {ds : List M.D} (h : H D = some (.lst acc)) (hd : RelDs K H ds acc) : RelS K H (M.upd S D (.lst ds)) := fun a o e => by
  by_cases ha : a = D
  · subst ha
    rw [mupd_same] at e
    cases e
    exact ⟨acc, h, hd⟩
  · rw [mupd_ne ha] at e
    exact r a o e
theorem comp_rel {c : Cn} {J : It} {items : List M.D} {chk : M.Sto → Prop} {S1 : M.Sto} {H1 : Hp} {ρ : M.Env} {σ : Sl} {t : M.Tg} {e : M.Ex} {oc : M.Oe} {Qd : M.VK} {Q : VK} (hl : ρ.length = σ.length) (re : RelE c.K H1 ρ σ) (r1 : RelS c.K H1 S1)
    (m : Mat c.K S1 H1 J items chk) (hz : items.length ≤ M.lim) (hq : OkV c.K S1 H1 Qd Q)
    (w : M.compW chk (fun d S2 k => M.asg t d S2 (M.wipe ρ (M.tgs t)) fun ρ2 => M.wpC c.G oc ρ2 S2 (fun b S3 => M.br b (M.wpE c.G e ρ2 S3 (fun x S4 => k (some x) S4) M.X0) (k none S3))) Qd items [] S1) :
    ∀ D, H1 D = none → ∃ Wi : Nat → Nat → Hp → Prop, (∃ m, Wi 0 m (L2.upd H1 D (.lst []))) ∧ ∀ i m H, Wi i m H →
      (J.stop i H ∧ Q (.ref D) H) ∨ (J.go i H ∧ ∃ Nx : Hp → Prop, (∀ H', Nx H' → ∃ m', m' < m ∧ Wi (i + 1) m' H') ∧ ∀ x H', J.yld i H x H' → tgG c.K t x (L2.wipe σ (M.tgs t)) H' fun σ2 H2 => L2.wipe σ2 (M.tgs t) = L2.wipe σ (M.tgs t) ∧ tCn c oc σ2 H2 fun b H3 =>
        if b = true then tE c W0 e σ2 H3 fun y H4 => ∃ acc, H4 D = some (.lst acc) ∧ acc.length < sizeLine ∧ Nx (L2.upd H4 D (.lst (acc ++ [y]))) else Nx H3) := by
  intro D hD
  have hL : M.lim = sizeLine := lim_eq
  generalize hst : (fun (d : M.D) (S2 : M.Sto) (k : Option M.D → M.Sto → Prop) => M.asg t d S2 (M.wipe ρ (M.tgs t)) fun ρ2 => M.wpC c.G oc ρ2 S2 (fun b S3 => M.br b (M.wpE c.G e ρ2 S3 (fun x S4 => k (some x) S4) M.X0) (k none S3))) = step at w
  let Wi : Nat → Nat → Hp → Prop := fun i m H => m = items.length - i ∧ i ≤ items.length ∧ ∃ S ds acc, Fr S1 H1 S H ∧ RelS c.K H S ∧ S D = none ∧ H D = some (.lst acc) ∧ RelDs c.K H ds acc ∧ acc.length ≤ i ∧ M.compW chk step Qd (items.drop i) ds S
  have hS1D : S1 D = none := r1.none hD
  refine ⟨Wi, ⟨_, rfl, Nat.zero_le _, S1, [], [], Fr.laid hD, r1.laid hD, hS1D, upd_same, .nil, Nat.le_refl _, by simpa using w⟩, ?_⟩
  rintro i m' H ⟨rfl, hi, S, ds, acc, f, r, hSD, hHD, rds, hacc, w⟩
  have putFr : ∀ {S' : M.Sto} {H' : Hp} {ds' : List M.D}, Fr S1 H1 S' H' → Fr S1 H1 (M.upd S' D (.lst ds')) H' := fun {S' H' ds'} f' a o h n => by
    obtain ⟨h1, h2⟩ := f' a o h n
    refine ⟨h1, ?_⟩
    have : a ≠ D := fun z => by rw [z, hD] at h; cases h
    rw [mupd_ne this]; exact h2
  by_cases hlt : i < items.length
  · obtain ⟨d, hd⟩ : ∃ d, items[i]? = some d := ⟨items[i], by simp [hlt]⟩
    have ed : items.drop i = d :: items.drop (i + 1) := by
      rw [List.drop_eq_getElem_cons hlt]
      have : items[i] = d := by simpa [hlt] using hd
      rw [this]
    rw [ed] at w
    obtain ⟨hch, w⟩ := (show chk S ∧ step d S (fun r S' => M.compW chk step Qd (items.drop (i + 1)) (ds ++ r.toList) S') from w)
    obtain ⟨hgo, hy⟩ := (m i S H f r hch).1 d hd
    refine .inr ⟨hgo, Wi (i + 1) (items.length - (i + 1)), fun H' q => ⟨items.length - (i + 1), by omega, q⟩, fun x H' y => ?_⟩
    obtain ⟨f2, r2, rx⟩ := hy x H' y
    subst hst
    have f' := f.trans f2
    refine asg_rel r2 (by rw [wipe_len, wipe_length, hl]) ((re.mono r1 f').wipe (M.tgs t)) rx w fun ρ' σ' l1 l2 re' same w => ⟨?_, ?_⟩
    · have h1 : ∀ j, j ∉ M.tgs t → σ'[j]? = σ[j]? := fun j hj => by rw [same j hj, wipe_out hj]
      exact wipe_same (by rw [l2, wipe_length]) h1
    · refine ⟨ρ', S, _, l1, re', r2, w, fun b S3 H3 f3 r3 q => ?_⟩
      have f3' := f'.trans f3
      have hD3 : H3 D = some (.lst acc) ∧ S3 D = none := by
        obtain ⟨a1, a2⟩ := f2 D _ hHD hSD
        exact f3 D _ a1 a2
      have rds3 : RelDs c.K H3 ds acc := (rds.mono r f2).mono r2 f3
      obtain ⟨q1, q2⟩ := q
      cases b with
      | false =>
        show if false = true then _ else _
        rw [if_neg Bool.false_ne_true]
        exact ⟨rfl, hlt, S3, ds, acc, f3', r3, hD3.2, hD3.1, rds3, by omega, by simpa using q2 rfl⟩
      | true =>
        show if true = true then _ else _
        rw [if_pos rfl]
        refine ⟨ρ', S3, _, M.X0, l1, re'.mono r2 f3, r3, q1 rfl, fun dv S4 v H4 f4 r4 rv q => ?_, okX0⟩
        have f4' := f3'.trans f4
        obtain ⟨e4, n4⟩ := f4 D _ hD3.1 hD3.2
        have rds4 := rds3.mono r3 f4
        refine ⟨acc, e4, by omega, rfl, hlt, S4, ds ++ [dv], acc ++ [v], ?_, ?_, n4, upd_same, ?_, by rw [List.length_append]; simp only [List.length_cons, List.length_nil]; omega, by simpa using q⟩
        · intro a o h n
          obtain ⟨h1, h2⟩ := f4' a o h n
          have : a ≠ D := fun z => by rw [z, hD] at h; cases h
          exact ⟨by rw [upd_ne this]; exact h1, h2⟩
        · have rp := r4.put e4 rds4
          have fw : Fr (M.upd S4 D (.lst ds)) H4 (M.upd (M.upd S4 D (.lst ds)) D (.lst (ds ++ [dv]))) (L2.upd H4 D (.lst (acc ++ [v]))) := Fr.wr mupd_same
          intro a o h
          have : a ≠ D := fun z => by rw [z, n4] at h; cases h
          exact (rp.wr mupd_same (rds4.append (.cons rv .nil))) a o (by rw [mupd_ne this, mupd_ne this]; exact h)
        · have rp := r4.put e4 rds4
          have fw : Fr (M.upd S4 D (.lst ds)) H4 (M.upd (M.upd S4 D (.lst ds)) D (.lst (ds ++ [dv]))) (L2.upd H4 D (.lst (acc ++ [v]))) := Fr.wr mupd_same
          exact (rds4.append (.cons rv .nil)).mono rp fw
  · have e : i = items.length := by omega
    subst e
    rw [List.drop_length] at w
    obtain ⟨hch, w⟩ := (show chk S ∧ ∀ p, S p = none → Qd (.ref p) (M.upd S p (.lst ds)) from w)
    exact .inl ⟨(m _ S H f r hch).2 rfl, hq _ _ _ _ (putFr f) (r.put hHD rds) (.ref D) (w D hSD)⟩
end Snd
namespace Snd
open PySem PySem.Spec PyProof.Rows L2
/-! ### pieces over a context -/
section
variable {c : Cn} {k : Nat} {N : List Str} {sc : Scope} {X : Cx} {W : WX}
theorem Ok.op (o : Ok c k N sc X W) {b : M.Bo} {p : Operator} (h : boOk b p = true) : OpR X (binaryOp p) (rB c.K b) := by rw [← o.eK]; exact ob_all h
theorem Ok.co (o : Ok c k N sc X W) {b : M.Co} {p : CmpOp} (h : coOk b p = true) : OpR X (compareOp p) (rCm c.K b) := by rw [← o.eK]; exact oc_all o.room.units h
theorem Ok.ix (o : Ok c k N sc X W) : IxR X (rIxM c.K) := by rw [← o.eK]; exact ix_all
theorem Ok.sl (o : Ok c k N sc X W) : SlR X (rSlM c.K) := by rw [← o.eK]; exact sl_allM
theorem Ok.rep (o : Ok c k N sc X W) : CallR X (.builtin "repr") (rRep c.K) := by rw [← o.eK]; exact bi_rep o.gd o.room.units (by rw [o.eK]; exact o.sys)
theorem Ok.free (o : Ok c k N sc X W) {x : Str} (h : x ∈ c.T.bts) : X.mg x = none := by rw [o.em]; exact o.bt x h
theorem Ok.gl (o : Ok c k N sc X W) {x : Str} (h : glB sc x = true) : Gl X x := gl_of o.es h
theorem Ok.var (o : Ok c k N sc X W) {x : Str} {i : Nat} (h : N[i]? = some x) : X.N[i]? = some x := by rw [o.eN]; exact h
theorem fin {ex : Expr} {t : TE} (h : PE X ex t) (he : ∀ whole, isTrue ex X.env whole = (do let v ← whole; standAt ex.pos; holding [v] (truthy v)) := by intro _; rfl) : PE X ex t ∧ PT X ex (tB t) := ⟨h, pt_val h he⟩
theorem Ok.calm' (o : Ok c k N sc X W) (h : (!c.T.hot) = true) : X.calm = true := o.calm (not1 h)
theorem Ok.blk (o : Ok c k N sc X W) (s : Shared) (H : Hp) (scope : Scope) (C : Addr) (cl : List (Str × Addr)) (fp : List Addr) : Ok c k N (relS scope sc) (X.blk s H scope (compEnvC scope cl C X.env) fp) W0 where
  eN := o.eN
  es := by rw [← o.es]; rfl
  eK := o.eK
  em := o.em
  nd := o.nd
  calm := o.calm
  room := o.room
  gd := o.gd
  rp := o.rp
  bt := o.bt
  con := o.con
  fns := o.fns
  tk := fun u s' ⟨a, B, sI, pins, σ, H, cls, d, e, I, nb, up, sky, na, os, ag, w⟩ => False.elim w
  sys := o.sys
  er := o.er
theorem pt_ite {c0 a b : Expr} {pos : Pos} {tA tB' tC' : TT} (hc : PT X c0 tA) (ha : PT X a tB') (hb : PT X b tC') : PT X (.IfExp c0 a b pos) (fun σ H Q => tA σ H fun k H1 => if k = true then tB' σ H1 Q else tC' σ H1 Q) := by
  refine ⟨fun pins s σ H Q I h => ?_⟩
  refine isTrue_IfExp (thn (hc.run pins s σ H _ I h) fun d s1 ⟨H1, I1, q1⟩ => ?_)
  cases d with
  | true => exact ha.run pins s1 σ H1 Q I1 q1
  | false => exact hb.run pins s1 σ H1 Q I1 q1
theorem bi_ty {b : M.Bi} : (b = .int ∨ b = .list ∨ b = .tuple ∨ b = .str) ∨ ¬(b = .int ∨ b = .list ∨ b = .tuple ∨ b = .str) := Classical.em _
/-- a built-in's call -/
theorem pe_biM (o : Ok c k N sc X W) (hh : (!c.T.hot) = true) {b : M.Bi} {e : Expr} {es : List Expr} {p pos : Pos} {t : TA} (hm : biN b ∈ c.T.bts) (hg : glB sc (biN b) = true) (ha : PA X (e :: es) t) (hp : (e :: es).all plB = true) :
    PE X (.Call (.Name (biN b) p) (e :: es) [] pos) (tCB (rBi c.K b) t) := by
  have hp' := and2 (show (plB e && es.all plB) = true from hp)
  have gl := o.gl hg
  have mn := o.free hm
  have st := plB_star (es := es) (env := X.env) hp'.1
  have an := plB_all (pos := pos) (env := X.env) hp'.2
  rw [← o.eK]
  cases b with
  | len => exact pe_callB bi_len gl mn (by decide +kernel) ha (by decide +kernel) (by decide +kernel) st an
  | abs => exact pe_callB bi_abs gl mn (by decide +kernel) ha (by decide +kernel) (by decide +kernel) st an
  | int => exact pe_callTy bi_int gl mn (by decide +kernel) ha (by decide +kernel) (by decide +kernel) st an
  | min => exact pe_callB (bi_min (o.calm' hh)) gl mn (by decide +kernel) ha (by decide +kernel) (by decide +kernel) st an
  | max => exact pe_callB (bi_max (o.calm' hh)) gl mn (by decide +kernel) ha (by decide +kernel) (by decide +kernel) st an
  | all => exact pe_callB (bi_all (o.calm' hh)) gl mn (by decide +kernel) ha (by decide +kernel) (by decide +kernel) st an
  | any => exact pe_callB (bi_any (o.calm' hh)) gl mn (by decide +kernel) ha (by decide +kernel) (by decide +kernel) st an
  | sum => exact pe_callB (bi_sum (o.calm' hh)) gl mn (by decide +kernel) ha (by decide +kernel) (by decide +kernel) st an
  | list => exact pe_callTy bi_list gl mn (by decide +kernel) ha (by decide +kernel) (by decide +kernel) st an
  | tuple => exact pe_callTy bi_tuple gl mn (by decide +kernel) ha (by decide +kernel) (by decide +kernel) st an
  | str => exact pe_callTy bi_str gl mn (by decide +kernel) ha (by decide +kernel) (by decide +kernel) st an
  | sorted => exact pe_callB bi_sorted gl mn (by decide +kernel) ha (by decide +kernel) (by decide +kernel) st an
  | minp => exact pe_callB (bi_minp (o.calm' hh) o.room.units) gl mn (by decide +kernel) ha (by decide +kernel) (by decide +kernel) st an
  | sortp => exact pe_callB bi_sortp gl mn (by decide +kernel) ha (by decide +kernel) (by decide +kernel) st an
theorem few_of {es : List Expr} {cpos : Pos} {env : Env} (h : es.all plB = true) (h2 : es.length < 29) : ((backTo cpos (starEach es env)).all (fun x => !x.1) && (backToKw cpos (keywordEach [] env)).all (fun x => x.1.isSome)
      && decide (es.length + ([] : List Keyword).length + (if ([] : List Keyword).isEmpty then 0 else 1) < 30)) = true := by
  rw [plB_few h]
  show (true && true && decide _) = true
  have : decide (es.length + ([] : List Keyword).length + (if ([] : List Keyword).isEmpty then 0 else 1) < 30) = true := by
    refine decide_eq_true ?_
    show es.length + 0 + 0 < 30
    omega
  rw [this]
  rfl
theorem pe_mt0 (o : Ok c k N sc X W) {m : M.Mt} {a : Expr} {apos cpos : Pos} {ta : TE} (hm : mtOk m = true) (hl : (apos.endLine == cpos.line) = true) (hb : bareB a = true) (ho : PE X a ta) :
    PE X (.Call (.Attribute a (mtN m) apos) [] [] cpos) (tBM0 c.K "list" (rMt c.K m) ta) := by
  rw [← o.eK]
  cases m with
  | append => exact pe_bm0 PySem.F.plainAttrs_list PySem.F.slot_list_append PySem.F.type_list_append mt_appendM ho (bare_of hb) hl
  | extend => exact pe_bm0 PySem.F.plainAttrs_list PySem.F.slot_list_extend PySem.F.type_list_extend mt_extendM ho (bare_of hb) hl
  | pop => exact pe_bm0 PySem.F.plainAttrs_list PySem.F.slot_list_pop PySem.F.type_list_pop mt_popM ho (bare_of hb) hl
  | count => exact pe_bm0 PySem.F.plainAttrs_list PySem.F.slot_list_count PySem.F.type_list_count mt_countM ho (bare_of hb) hl
  | index => exact pe_bm0 PySem.F.plainAttrs_list PySem.F.slot_list_index PySem.F.type_list_index mt_indexM ho (bare_of hb) hl
theorem pe_mtM (o : Ok c k N sc X W) {m : M.Mt} {a e : Expr} {es : List Expr} {apos cpos : Pos} {ta : TE} {t : TA} (hm : mtOk m = true) (hl : (apos.endLine == cpos.line) = true) (hb : bareB a = true) (ho : PE X a ta) (ha : PA X (e :: es) t) (hp : (e :: es).all plB = true) (hn : (e :: es).length < 29) :
    PE X (.Call (.Attribute a (mtN m) apos) (e :: es) [] cpos) (tBM c.K "list" (rMt c.K m) ta t) := by
  rw [← o.eK]
  have hp' := and2 (show (plB e && es.all plB) = true from hp)
  have st := plB_star (es := es) (env := X.env) hp'.1
  have an := plB_all (pos := cpos) (env := X.env) hp'.2
  have fw := few_of (cpos := cpos) (env := X.env) hp hn
  cases m with
  | append => exact pe_bm PySem.F.plainAttrs_list PySem.F.slot_list_append PySem.F.type_list_append mt_appendM ho ha (bare_of hb) fw hl st an
  | extend => exact pe_bm PySem.F.plainAttrs_list PySem.F.slot_list_extend PySem.F.type_list_extend mt_extendM ho ha (bare_of hb) fw hl st an
  | pop => exact pe_bm PySem.F.plainAttrs_list PySem.F.slot_list_pop PySem.F.type_list_pop mt_popM ho ha (bare_of hb) fw hl st an
  | count => exact pe_bm PySem.F.plainAttrs_list PySem.F.slot_list_count PySem.F.type_list_count mt_countM ho ha (bare_of hb) fw hl st an
  | index => exact pe_bm PySem.F.plainAttrs_list PySem.F.slot_list_index PySem.F.type_list_index mt_indexM ho ha (bare_of hb) fw hl st an
/-! ### calls of the text's defs -/
theorem pass_ok (o : Ok c k N sc X W) (σ : Sl) : PassesAt (L2.CX X.prog X.w) X σ (WE W σ) := passAt o.tk σ
theorem pe_callM (o : Ok c k N sc X W) {n : Nat} {x : Str} {es : List Expr} {p pos : Pos} {t : TA} (hx : c.T.fns[n]? = some x) (hh : (c.T.hots.contains n == c.T.hot) = true) (hg : glB sc x = true) (hd : (x == ("__debug__" : Str)) = false) (ha : PA X es t) (hp : es.all plB = true) (h0 : es = [] → ∀ σ H Q, t σ H Q → Q [] H) :
    PE X (.Call (.Name x p) es [] pos) (fun σ H Q => t σ H fun vs H1 => lift c (M.cl (c.G.fn n)) vs H1 Q (WE W σ)) := by
  obtain ⟨f, fd, ps, D, F⟩ := o.fns n x hx
  rw [eq_of_beq hh] at F
  rw [← o.eK, ← o.em] at D F
  have go : ∀ {pins : List (Addr × Obj)} {s : Shared} {σ : Sl} {H : Hp} {Q : VK} {us : List Value} {vs : List V}, Inv X pins σ H s → Vals vs us → lift c (M.cl (c.G.fn n)) vs H Q (WE W σ) → wpAny (model X.prog X.w) X.A (call (.ref f) us) (EP X pins σ Q) X.xe s := by
    intro pins s σ H Q us vs I r q
    have hl : us.length = ps.length := by rw [← r.length]; exact F.len _ _ _ _ q
    have b := D.bd s us I.kIn (by rw [List.append_nil]; exact hl)
    rw [List.append_nil] at b
    exact run_fnG (args := ⟨us, []⟩) (E := WE W) F o.room o.gd b (pass_ok o σ) I r q
  refine ⟨fun pins s σ H Q I h => ?_⟩
  refine wpAny_Call_Name_kw (ld_glob I (o.gl hg) D.mg ?_ hd)
  cases es with
  | nil =>
    refine PySem.W.callWith_K0 I.kIn D.kp ?_
    exact go I .nil (h0 rfl _ _ _ h)
  | cons e es =>
    have hp' := and2 (show (plB e && es.all plB) = true from hp)
    exact PySem.W.callWith_K (h₀ := X.base) I.ok.mod.kin D.kp (thn (ha.run pos pins s σ H _ I h) fun us s1 ⟨vs, H1, I1, r, q⟩ => ⟨I1.kIn, go I1 r q⟩) (plB_star hp'.1) (plB_all hp'.2)
/-- f(e, .., k = v, ..) -/
theorem kws_len : ∀ {kws : List Keyword} {nms : List Str}, kwsB kws = some nms → ∀ (pos : Pos) (env : Env), (backToKw pos (keywordEach kws env)).all (·.1.isSome) = true ∧ (backToKw pos (keywordEach kws env)).filterMap (·.1) = nms ∧ (backToKw pos (keywordEach kws env)).any (·.1.isNone) = false ∧ nms.length = kws.length
  | [], nms, h, _, _ => by
    cases h
    exact ⟨rfl, rfl, rfl, rfl⟩
  | ⟨none, _, _⟩ :: _, _, h, _, _ => nomatch h
  | ⟨some x, v, p⟩ :: r, nms, h, pos, env => by
    obtain ⟨l, e, rfl⟩ := Option.map_eq_some_iff.mp (show (kwsB r).map (x :: ·) = some nms from h)
    obtain ⟨a1, a2, a3, a4⟩ := kws_len e pos env
    refine ⟨?_, ?_, ?_, ?_⟩
    · show (true && (backToKw pos (keywordEach r env)).all (·.1.isSome)) = true
      rw [a1]; rfl
    · show x :: (backToKw pos (keywordEach r env)).filterMap (·.1) = x :: l
      rw [a2]
    · show (false || (backToKw pos (keywordEach r env)).any (·.1.isNone)) = false
      rw [a3]; rfl
    · rw [List.length_cons, List.length_cons, a4]
theorem vals_fm {us : List Value} {vs : List V} (r : Vals vs us) : ∀ perm : List Nat, Vals (perm.filterMap fun i => vs[i]?) (perm.filterMap fun i => us[i]?)
  | [] => .nil
  | i :: perm => by
    cases e : vs[i]? with
    | none =>
      rw [List.filterMap_cons_none e, List.filterMap_cons_none (r.none_of e)]
      exact vals_fm r perm
    | some v =>
      obtain ⟨u, e2, ru⟩ := r.get e
      rw [List.filterMap_cons_some e, List.filterMap_cons_some e2]
      exact .cons ru (vals_fm r perm)
theorem rels_fm {K : Frag} {H : Hp} {ds : List M.D} {vs : List V} (r : RelDs K H ds vs) : ∀ perm : List Nat, RelDs K H (perm.filterMap fun i => ds[i]?) (perm.filterMap fun i => vs[i]?)
  | [] => .nil
  | i :: perm => by
    cases e : ds[i]? with
    | none =>
      have e2 : vs[i]? = none := by rw [List.getElem?_eq_none_iff] at e ⊢; rw [← r.length]; exact e
      rw [List.filterMap_cons_none e, List.filterMap_cons_none e2]
      exact rels_fm r perm
    | some v =>
      obtain ⟨u, e2, ru⟩ := r.get e
      rw [List.filterMap_cons_some e, List.filterMap_cons_some e2]
      exact .cons ru (rels_fm r perm)
theorem pe_callkM (o : Ok c k N sc X W) {n m : Nat} {perm : List Nat} {nms : List Str} {x : Str} {es : List Expr} {kws : List Keyword} {p pos : Pos} {t tk : TA} (hx : c.T.fns[n]? = some x) (hh : (c.T.hots.contains n == c.T.hot) = true) (hg : glB sc x = true) (hd : (x == ("__debug__" : Str)) = false) (ha : PA X es t) (hp : es.all plB = true) (h0 : es = [] → ∀ σ H Q, t σ H Q → Q [] H)
    (hk : PK X kws tk) (hn : kwsB kws = some nms) (hm : (n, m, nms, perm) ∈ c.T.kws) :
    PE X (.Call (.Name x p) es kws pos) (fun σ H Q => t σ H fun vs H1 => tk σ H1 fun zs H2 => vs.length = m ∧ zs.length = nms.length ∧ lift c (M.cl (c.G.fn n)) (perm.filterMap fun i => (vs ++ zs)[i]?) H2 Q (WE W σ)) := by
  obtain ⟨f, fd, ps, D, F⟩ := o.fns n x hx
  rw [eq_of_beq hh] at F
  rw [← o.eK, ← o.em] at D F
  obtain ⟨k1, k2, k3, k4⟩ := kws_len hn pos X.env
  have go : ∀ {pins : List (Addr × Obj)} {s : Shared} {σ : Sl} {H : Hp} {Q : VK} {us ws : List Value} {vs zs : List V}, Inv X pins σ H s → Vals vs us → Vals zs ws → vs.length = m → zs.length = nms.length → lift c (M.cl (c.G.fn n)) (perm.filterMap fun i => (vs ++ zs)[i]?) H Q (WE W σ) →
      wpAny (model X.prog X.w) X.A (call (.ref f) us (nms.zip ws)) (EP X pins σ Q) X.xe s := by
    intro pins s σ H Q us ws vs zs I r rz l1 l2 q
    exact run_fnG (args := ⟨us, nms.zip ws⟩) (E := WE W) F o.room o.gd (D.kb m nms perm hm s us ws I.kIn (by rw [← r.length]; exact l1) (by rw [← rz.length]; exact l2)) (pass_ok o σ) I (vals_fm (r.append rz) perm) q
  refine ⟨fun pins s σ H Q I h => ?_⟩
  refine wpAny_Call_Name_kw (ld_glob I (o.gl hg) D.mg ?_ hd)
  cases es with
  | nil =>
    refine PySem.W.callWith_KW0 (h₀ := X.base) I.ok.mod.kin D.kp k1 (thn (hk.run pos pins s σ H _ I (h0 rfl _ _ _ h)) fun ws s2 ⟨zs, H2, I2, rz, q2⟩ => ⟨I2.kIn, ?_⟩) (by show (false || _) = false; rw [k3]; rfl)
    rw [k2]
    exact go I2 .nil rz q2.1 q2.2.1 q2.2.2
  | cons e es =>
    have hp' := and2 (show (plB e && es.all plB) = true from hp)
    refine PySem.W.callWith_KW (h₀ := X.base) I.ok.mod.kin D.kp k1 (thn (ha.run pos pins s σ H _ I h) fun us s1 ⟨vs, H1, I1, r, q⟩ => ?_) (by rw [plB_all hp, k3]; rfl) (plB_star hp'.1)
    refine thn (hk.run pos pins s1 σ H1 _ I1 q) fun ws s2 ⟨zs, H2, I2, rz, q2⟩ => ⟨I2.kIn, ?_⟩
    rw [k2]
    exact go I2 r rz q2.1 q2.2.1 q2.2.2
/-- a built-in type by its name -/
theorem cls_name (o : Ok c k N sc X W) {t : M.Ty} {z : Str} (h : clsB c.T sc t z = true) : z = tyS t ∧ ∀ p, PE X (.Name z p) (tC (.ty (tyN t))) := by
  unfold clsB at h
  obtain ⟨h, h4⟩ := and2 h
  obtain ⟨h, h3⟩ := and2 h
  obtain ⟨h1, h2⟩ := and2 h
  have e := of_decide_eq_true h1
  subst e
  exact ⟨rfl, fun p => pe_bltn (o.gl h3) (o.free (of_decide_eq_true h2)) (tyB t) rfl (by cases t <;> decide +kernel) (dbg_of h4).1⟩
end
end Snd
namespace Snd
open PySem PySem.Spec PyProof.Rows L2
/-! ### classes of errors by their names -/
section
variable {c : Cn} {k : Nat} {N : List Str} {sc : Scope} {X : Cx} {W : WX}
theorem cls_one (o : Ok c k N sc X W) {j : Nat} {z : Str} (h : clsX c.T sc j z = true) : ∃ v wv, (∀ p, PE X (.Name z p) (tC v)) ∧ (∀ u, RelV v u → u = wv) ∧ ∀ i D, c.G.adr i = some D → PySem.W.kitOne c.K (.ref D) wv = some (c.G.sub i j) := by
  obtain ⟨h, h3⟩ := and2 h
  obtain ⟨h1, h2⟩ := and2 h
  rcases Bool.or_eq_true_iff.mp h3 with h3 | h3
  · obtain ⟨C, m, _, a⟩ := o.er.at_ j z (of_decide_eq_true h3)
    exact ⟨.ref C, .ref C, fun p => pe_glob (o.gl h1) (by rw [o.em]; exact m) rfl (dbg_of h2).1, fun u r => r, fun i D e => (a i D e).1⟩
  · obtain ⟨h3, h5⟩ := and2 h3
    obtain ⟨h3, h4⟩ := and2 h3
    have e1 := of_decide_eq_true h3
    have e2 := of_decide_eq_true h4
    subst e1 e2
    exact ⟨.ty "ValueError", .type "ValueError", fun p => pe_bltn (o.gl h1) (o.free (of_decide_eq_true h5)) (by decide +kernel) rfl (by decide +kernel) (dbg_of h2).1, fun u r => r, fun i D e => o.er.ve i D e⟩
theorem cls_all (o : Ok c k N sc X W) : ∀ {cs : List Nat} {zs : List Expr}, clsXs c.T sc cs zs = true → ∃ (vs : List V) (wvs : List Value) (t : TA), PA X zs t ∧ (∀ σ H Q, Q vs H → t σ H Q) ∧ vs.length = zs.length ∧ (∀ us, Vals vs us → us = wvs) ∧ ∀ i D, c.G.adr i = some D → PySem.W.kitAny c.K (.ref D) wvs = some (cs.any (c.G.sub i))
  | [], [], _ => ⟨[], [], _, pa_nil, fun _ _ _ q => q, rfl, fun us r => by cases r; rfl, fun _ _ _ => rfl⟩
  | j :: cs, .Name z p :: zs, h => by
    obtain ⟨h1, h2⟩ := and2 (show (clsX c.T sc j z && clsXs c.T sc cs zs) = true from h)
    obtain ⟨v, wv, e1, e2, e3⟩ := cls_one o h1
    obtain ⟨vs, wvs, t, g1, g2, g3, g4, g5⟩ := cls_all o h2
    refine ⟨v :: vs, wv :: wvs, _, pa_cons (e1 p) g1, fun σ H Q q => ?_, by rw [List.length_cons, List.length_cons, g3], fun us r => ?_, fun i D e => ?_⟩
    · exact g2 σ H _ q
    · cases r with
      | cons a b => rw [e2 _ a, g4 _ b]
    · exact kitAny_cons (e3 i D e) (fun hb => by rw [List.any_cons, hb, Bool.false_or]; exact g5 i D e) fun hb => by rw [List.any_cons, hb, Bool.true_or]
  | [], _ :: _, h => by cases h
  | _ :: _, [], h => by cases h
  | _ :: _, .BoolOp .. :: _, h => by cases h
  | _ :: _, .NamedExpr .. :: _, h => by cases h
  | _ :: _, .BinOp .. :: _, h => by cases h
  | _ :: _, .UnaryOp .. :: _, h => by cases h
  | _ :: _, .Lambda .. :: _, h => by cases h
  | _ :: _, .IfExp .. :: _, h => by cases h
  | _ :: _, .Dict .. :: _, h => by cases h
  | _ :: _, .Set .. :: _, h => by cases h
  | _ :: _, .ListComp .. :: _, h => by cases h
  | _ :: _, .SetComp .. :: _, h => by cases h
  | _ :: _, .DictComp .. :: _, h => by cases h
  | _ :: _, .GeneratorExp .. :: _, h => by cases h
  | _ :: _, .Yield .. :: _, h => by cases h
  | _ :: _, .YieldFrom .. :: _, h => by cases h
  | _ :: _, .Compare .. :: _, h => by cases h
  | _ :: _, .Call .. :: _, h => by cases h
  | _ :: _, .JoinedStr .. :: _, h => by cases h
  | _ :: _, .FormattedValue .. :: _, h => by cases h
  | _ :: _, .Constant .. :: _, h => by cases h
  | _ :: _, .Attribute .. :: _, h => by cases h
  | _ :: _, .Subscript .. :: _, h => by cases h
  | _ :: _, .Starred .. :: _, h => by cases h
  | _ :: _, .List .. :: _, h => by cases h
  | _ :: _, .Tuple .. :: _, h => by cases h
  | _ :: _, .Slice .. :: _, h => by cases h
theorem clsXs_pl {T : Tb} {sc : Scope} : ∀ {cs : List Nat} {zs : List Expr}, clsXs T sc cs zs = true → zs.all plB = true
  | [], [], _ => rfl
  | _ :: _, .Name _ _ :: zs, h => by
    obtain ⟨_, h2⟩ := and2 h
    show (true && zs.all plB) = true
    rw [clsXs_pl h2]; rfl
  | [], _ :: _, h => by cases h
  | _ :: _, [], h => by cases h
  | _ :: _, .BoolOp .. :: _, h => by cases h
  | _ :: _, .NamedExpr .. :: _, h => by cases h
  | _ :: _, .BinOp .. :: _, h => by cases h
  | _ :: _, .UnaryOp .. :: _, h => by cases h
  | _ :: _, .Lambda .. :: _, h => by cases h
  | _ :: _, .IfExp .. :: _, h => by cases h
  | _ :: _, .Dict .. :: _, h => by cases h
  | _ :: _, .Set .. :: _, h => by cases h
  | _ :: _, .ListComp .. :: _, h => by cases h
  | _ :: _, .SetComp .. :: _, h => by cases h
  | _ :: _, .DictComp .. :: _, h => by cases h
  | _ :: _, .GeneratorExp .. :: _, h => by cases h
  | _ :: _, .Yield .. :: _, h => by cases h
  | _ :: _, .YieldFrom .. :: _, h => by cases h
  | _ :: _, .Compare .. :: _, h => by cases h
  | _ :: _, .Call .. :: _, h => by cases h
  | _ :: _, .JoinedStr .. :: _, h => by cases h
  | _ :: _, .FormattedValue .. :: _, h => by cases h
  | _ :: _, .Constant .. :: _, h => by cases h
  | _ :: _, .Attribute .. :: _, h => by cases h
  | _ :: _, .Subscript .. :: _, h => by cases h
  | _ :: _, .Starred .. :: _, h => by cases h
  | _ :: _, .List .. :: _, h => by cases h
  | _ :: _, .Tuple .. :: _, h => by cases h
  | _ :: _, .Slice .. :: _, h => by cases h
theorem call_isXA {X : Cx} : CallR X (.builtin "isinstance") (fun xs H Q => ∃ D, ExcC X.K D ∧ rIsX X.K D xs H Q) := fun pins s σ H xs us Q I r ⟨D, C, h⟩ => call_isX C pins s σ H xs us Q I r h
theorem call_isXTA {X : Cx} : CallR X (.builtin "isinstance") (fun xs H Q => ∃ D, ExcC X.K D ∧ rIsXT X.K D xs H Q) := fun pins s σ H xs us Q I r ⟨D, C, h⟩ => call_isXT C pins s σ H xs us Q I r h
theorem onX_of {d : M.D} {P : Nat → Prop} (h : M.onX d P) : ∃ C fs, d = .xn C fs ∧ P C := by
  cases d with
  | xn C fs => exact ⟨C, fs, rfl, h⟩
  | _ => exact False.elim h
end
/-! ### displays of dicts -/
def trsOf (c : Cn) (W : WX) : List M.Tx → M.Es → List (TE × TE)
  | k :: ks, .cons e r => (tC (.str (stx k)), tE c W e) :: trsOf c W ks r
  | _, _ => []
def noStar : M.Es → Bool
  | .nil => true
  | .cons _ r => noStar r
  | .star _ _ => false
theorem pairs_rel {c : Cn} {W : WX} {σ : Sl} : ∀ (es : M.Es) {ks : List M.Tx} {ρ : M.Env} {S : M.Sto} {H : Hp} {Xd : M.XK} {f : List M.D → M.Sto → Prop} {R : List (V × V) → Hp → Prop}, ρ.length = σ.length → RelE c.K H ρ σ → RelS c.K H S → M.wpEs c.G es ρ S f Xd → (OkX c S H Xd fun cls d H' => W cls d σ H') → ks.length = M.esLen es → noStar es = true →
    (∀ ds S2 vs H2, Fr S H S2 H2 → RelS c.K H2 S2 → RelDs c.K H2 ds vs → f ds S2 → R ((ks.map fun k => V.str (stx k)).zip vs) H2) → tPairs (trsOf c W ks es) σ H R
  | .nil, ks, ρ, S, H, Xd, f, R, hl, re, r, w, hx, hk, hs, q => by
    cases ks with
    | nil => exact q [] S [] H Fr.refl r .nil w
    | cons _ _ => cases hk
  | .star _ _, ks, ρ, S, H, Xd, f, R, hl, re, r, w, hx, hk, hs, q => by cases hs
  | .cons e es, ks, ρ, S, H, Xd, f, R, hl, re, r, w, hx, hk, hs, q => by
    cases ks with
    | nil => cases hk
    | cons k ks =>
      show tE c W e σ H fun y H2 => tPairs (trsOf c W ks es) σ H2 fun ps H3 => R ((V.str (stx k), y) :: ps) H3
      exact one_rel hl re r w hx fun x S2 v H2 f2 r2 rx q2 => pairs_rel es hl (re.mono r f2) r2 q2 (hx.after f2) (Nat.succ.inj hk) hs fun ds S3 vs H3 f3 r3 rds q3 => q (x :: ds) S3 (v :: vs) H3 (f2.trans f3) r3 (.cons (rx.mono r2 f3) rds) q3
theorem merge_nd : ∀ {more kvs : List (Key × V)}, ((kvs ++ more).map (·.1)).Nodup → mergeK kvs more = kvs ++ more
  | [], kvs, _ => by rw [List.append_nil]; rfl
  | p :: more, kvs, h => by
    have hn : valV kvs p.1 = none := by
      cases e : valV kvs p.1 with
      | none => rfl
      | some v =>
        have h2 := valV_any p.1 kvs
        rw [e] at h2
        obtain ⟨q, hq, he⟩ := List.any_eq_true.mp h2
        have he := of_decide_eq_true he
        rw [List.map_append, List.nodup_append] at h
        exact absurd he (h.2.2 q.1 (List.mem_map.mpr ⟨q, hq, rfl⟩) p.1 (by simp))
    show mergeK (putK kvs p.1 p.2) more = _
    rw [putK_new p.2 hn, merge_nd (by simpa using h)]
    simp
theorem inr_nd {ks : List M.Tx} (h : ks.Nodup) : (ks.map fun k => (Sum.inr (stx k) : Key)).Nodup :=
  List.Pairwise.map _ (fun a b hab e => hab (stx_inj.mp (Sum.inr.inj e))) h
theorem disp_rel {c : Cn} {W : WX} {σ : Sl} {H : Hp} {Q : VK} {es : M.Es} {ks : List M.Tx} (h0 : ks.length ≤ 15) (hn : ks.Nodup) (hk : ks.length = M.esLen es) (hs : noStar es = true) (h : tE c W (.dct ks es) σ H Q) : tDisp (trsOf c W ks es) σ H Q := by
  obtain ⟨ρ, S, Qd, Xd, hl, re, r, w, hq, hx⟩ := h
  intro p hp
  have f0 : Fr S H S (L2.upd H p (.dK [])) := Fr.laid hp
  refine pairs_rel es hl (re.mono r f0) (r.laid hp) w (hx.after f0) hk hs fun ds S2 vs H2 f2 r2 rds q => ?_
  obtain ⟨e2, n2⟩ := f2 p _ L2.upd_same (r.none hp)
  obtain ⟨q1, q2⟩ := q
  have hlen : vs.length = ks.length := by rw [← rds.length]; exact q1
  refine ⟨e2, (ks.map fun k => (Sum.inr (stx k) : Key)).zip vs, ?_, by rw [List.length_zip, List.length_map]; omega, ?_⟩
  · rw [List.zip_map_left, List.zip_map_left, List.map_map]
    rfl
  · rw [merge_nd (kvs := []) (by
      rw [List.nil_append, List.map_fst_zip (by rw [List.length_map]; omega)]
      exact inr_nd hn), List.nil_append]
    refine hq _ _ _ _ ?_ ?_ (.ref p) (q2 p n2)
    · intro a o ha hb
      have hne : a ≠ p := fun z => by rw [z, hp] at ha; cases ha
      obtain ⟨g1, g2⟩ := (f0.trans f2) a o ha hb
      exact ⟨by rw [L2.upd_ne hne]; exact g1, by rw [mupd_ne hne]; exact g2⟩
    · intro a mo e
      have r3 : RelS c.K H2 (M.upd S2 p .dic) := fun a mo e => by
        by_cases ha : a = p
        · subst ha
          rw [mupd_same] at e
          cases e
          exact e2
        · rw [mupd_ne ha] at e
          exact r2 a mo e
      have f3 : Fr (M.upd S2 p .dic) H2 (M.upd (M.upd S2 p .dic) p (.dct (ks.zip ds))) (L2.upd H2 p (.dK ((ks.map fun k => (Sum.inr (stx k) : Key)).zip vs))) := fun b ob hb n => by
        have ne : b ≠ p := fun z => by rw [z, mupd_same] at n; cases n
        exact ⟨by rw [L2.upd_ne ne]; exact hb, by rw [mupd_ne ne]; exact n⟩
      by_cases ha : a = p
      · subst ha
        rw [mupd_same] at e
        cases e
        have e1 : ((ks.zip ds).map fun p => (Sum.inr (stx p.1) : Key)) = ks.map fun k => (Sum.inr (stx k) : Key) := by
          have : ((ks.zip ds).map fun p => (Sum.inr (stx p.1) : Key)) = ((ks.zip ds).map (·.1)).map fun k => (Sum.inr (stx k) : Key) := by rw [List.map_map]; rfl
          rw [this, List.map_fst_zip (by omega)]
        have e3 : (ks.zip ds).map (·.2) = ds := List.map_snd_zip (by omega)
        exact ⟨vs, by rw [e1]; exact L2.upd_same, by rw [e3]; exact rds.mono r3 f3⟩
      · rw [mupd_ne ha] at e
        exact (r2 a mo e).mono r3 f3 fun ob h1 => by rw [L2.upd_ne ha]; exact h1
theorem keysB_some : ∀ {ks : List M.Tx} {kes : List (Option Expr)}, keysB ks kes = true → kes.all (·.isSome) = true ∧ kes.length = ks.length
  | [], [], _ => ⟨rfl, rfl⟩
  | k :: ks, some (.Constant (.str y) _ _) :: kes, h => by
    obtain ⟨_, h2⟩ := and2 (show (decide (stx k = y) && keysB ks kes) = true from h)
    obtain ⟨a, b⟩ := keysB_some h2
    exact ⟨by show (true && kes.all (·.isSome)) = true; rw [a]; rfl, by rw [List.length_cons, List.length_cons, b]⟩
  | [], _ :: _, h => by cases h
  | _ :: _, [], h => by cases h
  | _ :: _, none :: _, h => by cases h
  | _ :: _, some e :: _, h => by
    unfold keysB at h
    split at h
    · cases ‹_ = []›
    · rename_i k ks y a b es heq1 heq2
      injection heq1 with _ z1
      injection heq2 with z2 z3
      subst z1 z3
      injection z2 with z2
      subst z2
      obtain ⟨_, h2⟩ := and2 h
      obtain ⟨a, b⟩ := keysB_some h2
      exact ⟨by show (true && _) = true; rw [a]; rfl, by rw [List.length_cons, List.length_cons, b]⟩
    · cases h
end Snd
namespace Snd
open PySem PySem.Spec PyProof.Rows L2
/-! ### methods of texts: split, join, strip -/
theorem stx_of (y : Str) : stx y.cps.toList = y := by
  apply Str.ext'
  show y.cps.toList.toArray = y.cps
  simp
theorem join_stx (s : M.Tx) : ∀ ts : List M.Tx, Str.join (stx s) (ts.map stx) = stx (M.joinT s ts)
  | [] => rfl
  | [x] => rfl
  | x :: y :: r => by
    have ih := join_stx s (y :: r)
    show stx x ++ stx s ++ Str.join (stx s) ((y :: r).map stx) = stx (x ++ s ++ M.joinT s (y :: r))
    rw [ih, stx_app, stx_app]
theorem joinT_stx (s : M.Tx) (ts : List M.Tx) : Txt.join (stx s) (ts.map stx) = stx (M.joinT s ts) := by
  show Builtin.Str.glued _ _ = _
  rw [StrLaws.glued_eq_join, join_stx]
theorem splitT_free {c : Nat} : ∀ {w : M.Tx}, c ∉ w → M.splitT c w = [w]
  | [], _ => rfl
  | d :: r, h => by
    have h1 : d ≠ c := fun e => h (by rw [e]; simp)
    have h2 : c ∉ r := fun e => h (by simp [e])
    unfold M.splitT
    rw [if_neg h1, splitT_free h2]
theorem splitT_cons (c d : Nat) (r : M.Tx) : M.splitT c (d :: r) = if d = c then [] :: M.splitT c r else (match M.splitT c r with | [] => [[d]] | w :: ws => (d :: w) :: ws) := rfl
theorem splitT_app {c : Nat} {rest : M.Tx} : ∀ {w : M.Tx}, c ∉ w → M.splitT c (w ++ [c] ++ rest) = w :: M.splitT c rest
  | [], _ => by
    show M.splitT c (c :: rest) = _
    rw [splitT_cons, if_pos rfl]
  | d :: r, h => by
    have h1 : d ≠ c := fun e => h (by rw [e]; simp)
    have h2 : c ∉ r := fun e => h (by simp [e])
    show M.splitT c (d :: (r ++ [c] ++ rest)) = _
    rw [splitT_cons, if_neg h1, splitT_app h2]
theorem split_join {c : Nat} : ∀ {ts : List M.Tx}, ts ≠ [] → (∀ t ∈ ts, c ∉ t) → M.splitT c (M.joinT [c] ts) = ts
  | [], h, _ => absurd rfl h
  | [x], _, h => splitT_free (h x (by simp))
  | x :: y :: r, _, h => by
    show M.splitT c (x ++ [c] ++ M.joinT [c] (y :: r)) = _
    rw [splitT_app (h x (by simp)), split_join (by simp) fun t ht => h t (by simp [ht])]
theorem split_stx (c : Nat) (t : M.Tx) : Txt.split (stx t) (stx [c]) = (M.splitT c t).map stx := by
  obtain ⟨ps, hps⟩ : ∃ ps, ps = Txt.split (stx t) (stx [c]) := ⟨_, rfl⟩
  have hj := StrLaws.join_split (stx t) (stx [c])
  have hf := StrLaws.split_free (stx t) c
  have hl := split_pos (stx t) (stx [c])
  rw [← hps]
  rw [← hps] at hj hl
  have hf : ∀ p ∈ ps, c ∉ p.cps.toList := by rw [hps]; exact hf
  have e : ps = (ps.map fun p => p.cps.toList).map stx := by
    rw [List.map_map]
    conv => lhs; rw [← List.map_id ps]
    exact List.map_congr_left fun p _ => (stx_of p).symm
  have h2 : M.splitT c (M.joinT [c] (ps.map fun p => p.cps.toList)) = ps.map fun p => p.cps.toList := split_join (by
    intro z
    have : ps = [] := List.map_eq_nil_iff.mp z
    rw [this] at hl; simp at hl) fun t ht => by
    obtain ⟨p, hp, rfl⟩ := List.mem_map.mp ht
    exact hf p hp
  rw [e, join_stx] at hj
  have e3 := stx_inj.mp hj
  rw [e3] at h2
  rw [h2]; exact e
theorem strs_rel {K : Frag} {H : Hp} : ∀ {ds : List M.D} {vs : List V} {ts : List M.Tx}, RelDs K H ds vs → M.strsD ds = some ts → vs = (ts.map stx).map V.str
  | [], _, _, .nil, e => by cases e; rfl
  | d :: ds, _, ts, .cons h t, e => by
    cases d with
    | str x =>
      cases hs : M.strsD ds with
      | none => rw [show M.strsD (.str x :: ds) = (M.strsD ds).map (x :: ·) from rfl, hs] at e; cases e
      | some us =>
        rw [show M.strsD (.str x :: ds) = (M.strsD ds).map (x :: ·) from rfl, hs] at e
        cases e
        cases h
        rw [strs_rel t hs]; rfl
    | _ => cases e
theorem strs_back {K : Frag} {H : Hp} : ∀ ts : List M.Tx, RelDs K H (ts.map M.D.str) ((ts.map stx).map V.str)
  | [] => .nil
  | t :: ts => .cons (.str t) (strs_back ts)
theorem onS_of {d : M.D} {P : M.Tx → Prop} (h : M.onS d P) : ∃ x, d = .str x ∧ P x := by
  cases d with
  | str x => exact ⟨x, rfl, h⟩
  | _ => exact False.elim h
theorem sum_len (ts : List M.Tx) : ((ts.map stx).map (·.length)).sum = (ts.map (·.length)).sum := by
  induction ts with
  | nil => rfl
  | cons t ts ih => simp only [List.map_cons, List.sum_cons, ih, stx_len]
theorem dw_nil {b : Nat → Bool} : ∀ {l : M.Tx}, l.dropWhile b = [] ↔ ∀ c ∈ l, b c = true
  | [] => ⟨(fun _ c h => nomatch h), (fun _ => rfl)⟩
  | d :: r => by
    rw [List.dropWhile_cons]
    by_cases h : b d = true
    · rw [if_pos h, dw_nil (l := r)]
      constructor
      · intro g c hc
        rcases List.mem_cons.mp hc with rfl | hc
        · exact h
        · exact g c hc
      · exact fun g c hc => g c (by simp [hc])
    · rw [if_neg h]
      constructor
      · intro g; cases g
      · exact fun g => absurd (g d (by simp)) h
theorem strip_ok (a b : M.Tx) : ∃ r : M.Tx, Txt.stripChars (stx a) (stx b) = stx r ∧ r.length ≤ a.length ∧ (r = [] ↔ ∀ c ∈ a, c ∈ b) := by
  have e : Txt.stripChars (stx a) (stx b) = Builtin.Str.strSub (stx a) (stripLo (stx b).cps.contains true (stx a)) (stripHi (stx b).cps.contains true (stx a) (stripLo (stx b).cps.contains true (stx a))) := PyProof.Rows.stripBy_eq _ _ _ _
  have hb : (stx b).cps.contains = fun c => decide (c ∈ b) := by
    funext c
    show b.toArray.contains c = decide (c ∈ b)
    rw [Bool.eq_iff_iff]; simp
  rw [hb] at e
  generalize hg : (fun c => decide (c ∈ b)) = g at e
  have hgt : ∀ c, g c = true ↔ c ∈ b := fun c => by rw [← hg]; simp
  have ec : (stx a).cps.toList = a := stx_cps a
  have elo : stripLo g true (stx a) = (a.takeWhile g).length := by
    show (((stx a).cps.toList).takeWhile g).length = _
    rw [ec]
  have edr : a.drop (a.takeWhile g).length = a.dropWhile g := by
    have h := List.takeWhile_append_dropWhile (p := g) (l := a)
    conv => lhs; rw [← h]
    rw [List.drop_append_of_le_length (by rw [h]; exact Nat.le_refl _)]
    rw [h]; simp
  have ehi : stripHi g true (stx a) (stripLo g true (stx a)) = a.length - ((a.dropWhile g).reverse.takeWhile g).length := by
    show (stx a).length - (((stx a).cps.toList.drop (stripLo g true (stx a))).reverse.takeWhile g).length = _
    rw [ec, elo, edr, stx_len]
  rw [e]
  refine ⟨(Builtin.Str.strSub (stx a) (stripLo g true (stx a)) (stripHi g true (stx a) (stripLo g true (stx a)))).cps.toList, (stx_of _).symm, ?_, ?_⟩
  · rw [StrLaws.strSub_toList, ec]
    simp only [List.length_take, List.length_drop]
    omega
  · rw [StrLaws.strSub_toList, ec, elo, edr]
    rw [elo] at ehi
    rw [ehi]
    have hlen : (a.takeWhile g).length + (a.dropWhile g).length = a.length := by
      have := congrArg List.length (List.takeWhile_append_dropWhile (p := g) (l := a))
      rw [List.length_append] at this
      exact this
    have hdw := dw_nil (b := g) (l := a)
    rw [show (∀ c ∈ a, c ∈ b) ↔ (∀ c ∈ a, g c = true) from ⟨fun h c hc => (hgt c).mpr (h c hc), fun h c hc => (hgt c).mp (h c hc)⟩, ← hdw]
    refine ⟨fun h => ?_, fun h => by rw [h]; simp⟩
    cases hd : a.dropWhile g with
    | nil => rfl
    | cons d r =>
      exfalso
      rw [hd] at h hlen
      have hnd : g d = false := by
        have := List.head?_dropWhile_not g a
        rw [hd] at this
        simpa using this
      have htw : (((d :: r).reverse).takeWhile g).length < (d :: r).length := by
        have h1 : ((d :: r).reverse).takeWhile g = r.reverse.takeWhile g := by
          rw [List.reverse_cons, List.takeWhile_append]
          split
          · rw [List.takeWhile_cons_of_neg (by rw [hnd]; exact Bool.false_ne_true), List.append_nil]
            rename_i h9
            exact ((List.takeWhile_prefix (p := g) (l := r.reverse)).eq_of_length h9).symm
          · rfl
        rw [h1]
        have := (List.takeWhile_prefix (p := g) (l := r.reverse)).length_le
        rw [List.length_reverse] at this
        simp only [List.length_cons]
        omega
      have := congrArg List.length h
      rw [List.length_take, List.length_nil] at this
      simp only [List.length_cons] at this hlen htw
      omega
end Snd
namespace Snd
open PySem PySem.Spec PyProof.Rows L2
section
variable {c : Cn} {k : Nat} {N : List Str}
theorem zip_cases {x y : M.D} {S : M.Sto} {R : M.IK} (w : M.zipD x y S R) : (∃ xs ys, x = .tup xs ∧ y = .tup ys ∧ R (M.zipP xs ys) (fun _ => True) S) ∨
    (∃ a ys, x = .str a ∧ y = .tup ys ∧ R (M.zipP (a.map fun c => .str [c]) ys) (fun _ => True) S) ∨
    M.opt (M.lsOf S x) fun xs => M.opt (M.lsOf S y) fun ys => R (M.zipP xs ys) (fun S' => M.lsOf S' x = some xs ∧ M.lsOf S' y = some ys) S := by
  cases x <;> cases y <;> first | exact .inl ⟨_, _, rfl, rfl, w⟩ | exact .inr (.inl ⟨_, _, rfl, rfl, w⟩) | exact .inr (.inr w)
theorem tupB_of {tg : Expr} (h : isTupB tg = true) : ∃ es k p, tg = .Tuple es k p := by
  cases tg <;> first | exact ⟨_, _, _, rfl⟩ | cases h
theorem own_map {N : List Str} {is : List Nat} : ((ownOf N is).map (·.2)) = is → (ownOf N is).map (·.2) = is := id
mutual
theorem peOk : ∀ (e : M.Ex) {sc : Scope} {ex : Expr} {X : Cx} {W : WX}, chkE c.T N e sc ex = true → Ok c k N sc X W → PE X ex (tE c W e) ∧ PT X ex (tB (tE c W e))
  | .v i, sc, ex, X, W, h, o => by
    obtain ⟨x, p, rfl, hi, hv, hd, hcd⟩ := name_of (show nameAt N (visB sc) i ex = true from h)
    refine fin (PE.imp (pe_var (o.var hi) (by rw [o.es]; exact vis_of hv) hd hcd) fun σ H Q ⟨ρ, S, Qd, Xd, hl, re, r, w, hq, hx⟩ => ?_)
    obtain ⟨d, e, w⟩ := opt_of (show M.opt (M.look ρ i) (fun d => Qd d S) from w)
    have e2 : ρ[i]? = some (some d) := by
      unfold M.look M.joinO at e
      split at e
      · rename_i a heq; cases e; exact heq
      · cases e
    obtain ⟨v, e3, rd⟩ := re i d e2
    exact ⟨v, e3, hq.same r rd w⟩
  | .k kc, sc, ex, X, W, h, o => by
    have h : (match (generalizing := false) ex with | .Constant d _ _ => kOk kc d | _ => false) = true := h
    split at h
    · rename_i d j p hh
      cases kc with
      | non => cases d with
        | none => exact fin (PE.imp pe_non fun σ H Q ⟨ρ, S, Qd, Xd, hl, re, r, w, hq, hx⟩ => hq.same r .non w)
        | _ => cases h
      | bl b => cases d with
        | bool b' =>
          have e : b = b' := by simpa [kOk] using h
          subst e
          exact fin (PE.imp pe_bl fun σ H Q ⟨ρ, S, Qd, Xd, hl, re, r, w, hq, hx⟩ => hq.same r (.bl b) w)
        | _ => cases h
      | int i => cases d with
        | int i' =>
          have e : i = i' := of_decide_eq_true h
          subst e
          exact fin (PE.imp pe_int fun σ H Q ⟨ρ, S, Qd, Xd, hl, re, r, w, hq, hx⟩ => hq.same r (.int i) w)
        | _ => cases h
      | str y => cases d with
        | str y' =>
          have e : stx y = y' := of_decide_eq_true h
          subst e
          exact fin (PE.imp pe_str fun σ H Q ⟨ρ, S, Qd, Xd, hl, re, r, w, hq, hx⟩ => hq.same r (.str y) w)
        | _ => cases h
    · cases h
  | .g n, sc, ex, X, W, h, o => by
    have h : (match (generalizing := false) ex with | .Name x _ => decide (c.T.cons[n]? = some x) && glB sc x && !dbgB x | _ => false) = true := h
    split at h
    · rename_i x p hh
      obtain ⟨h, h3⟩ := and2 h
      obtain ⟨h1, h2⟩ := and2 h
      obtain ⟨u, v, e1, e2, e3⟩ := o.con n x (of_decide_eq_true h1)
      exact fin (PE.imp (pe_glob (o.gl h2) (by rw [o.em]; exact e1) e2 (dbg_of h3).1) fun σ H Q ⟨ρ, S, Qd, Xd, hl, re, r, w, hq, hx⟩ => hq.same r (e3 H) w)
    · cases h
  | .bin b x y, sc, ex, X, W, h, o => by
    have h : (match (generalizing := false) ex with | .BinOp a' p b' _ => boOk b p && chkE c.T N x sc a' && chkE c.T N y sc b' | _ => false) = true := h
    split at h
    · obtain ⟨h, h3⟩ := and2 h
      obtain ⟨h1, h2⟩ := and2 h
      exact fin (PE.imp (pe_op (o.op h1) (peOk x h2 o).1 (peOk y h3 o).1) fun σ H Q ⟨ρ, S, Qd, Xd, hl, re, r, w, hq, hx⟩ =>
        two_rel hl re r w hx fun x y S2 v u H2 f r2 rx ry q => ⟨x, y, S2, Qd, r2, rx, ry, q, hq.after f⟩)
    · cases h
  | .neg a, sc, ex, X, W, h, o => by
    have h : (match (generalizing := false) ex with | .UnaryOp .USub a' _ => chkE c.T N a sc a' | _ => false) = true := h
    split at h
    · exact fin (PE.imp (pe_un un_neg (peOk a h o).1) fun σ H Q ⟨ρ, S, Qd, Xd, hl, re, r, w, hq, hx⟩ =>
        one_rel hl re r w hx fun x S2 v H2 f r2 rx q => by
          obtain ⟨i, rfl, q⟩ := onI_of q
          cases rx
          exact ⟨i, rfl, (hq.after f).same r2 (.int _) q⟩)
    · cases h
  | .not a, sc, ex, X, W, h, o => by
    have h : (match (generalizing := false) ex with | .UnaryOp .Not a' _ => chkE c.T N a sc a' | _ => false) = true := h
    split at h
    · obtain ⟨p1, p2⟩ := peOk a h o
      have rd : ∀ {σ : Sl} {H : Hp} {Q : VK}, tE c W (.not a) σ H Q → tE c W a σ H fun v H1 => ∃ b, v = .bl b ∧ Q (.bl (!b)) H1 := fun {σ H Q} ⟨ρ, S, Qd, Xd, hl, re, r, w, hq, hx⟩ =>
        one_rel hl re r w hx fun x S2 v H2 f r2 rx q => by
          obtain ⟨i, rfl, q⟩ := onB_of q
          cases rx
          exact ⟨i, rfl, (hq.after f).same r2 (.bl _) q⟩
      refine ⟨PE.imp (pe_not p1) fun σ H Q h => rd h, PT.imp (pt_not p2) fun σ H Q h => ?_⟩
      have q := rd h
      obtain ⟨ρ, S, Qd, Xd, hl, re, r, w, hq, hx⟩ := q
      refine ⟨ρ, S, Qd, Xd, hl, re, r, w, fun d S' v H' f r' rd' q => ?_, hx⟩
      obtain ⟨b, e, b', e', q⟩ := hq d S' v H' f r' rd' q
      cases e'
      exact ⟨b, e, q⟩
    · cases h
  | .cmp b x y, sc, ex, X, W, h, o => by
    have h : (match (generalizing := false) ex with | .Compare a' [p] [b'] _ => coOk b p && chkE c.T N x sc a' && chkE c.T N y sc b' && !behindInMarks p b' | _ => false) = true := h
    split at h
    · obtain ⟨h, h4⟩ := and2 h
      obtain ⟨h, h3⟩ := and2 h
      obtain ⟨h1, h2⟩ := and2 h
      have rd : ∀ {σ : Sl} {H : Hp} {Q : VK}, tE c W (.cmp b x y) σ H Q → tOp (rCm c.K b) (tE c W x) (tE c W y) σ H Q := fun {σ H Q} ⟨ρ, S, Qd, Xd, hl, re, r, w, hq, hx⟩ =>
        two_rel hl re r w hx fun x y S2 v u H2 f r2 rx ry q => ⟨x, y, S2, _, r2, rx, ry, q, fun k q => (hq.after f).same r2 (.bl k) q⟩
      exact ⟨PE.imp (pe_cmpR (o.co h1) (peOk x h2 o).1 (peOk y h3 o).1 (not1 h4)) fun σ H Q h => rd h, PT.imp (pt_cmpR (o.co h1) (peOk x h2 o).1 (peOk y h3 o).1 (not1 h4)) fun σ H Q h => rd h⟩
    · cases h
  | .chain b d x y z, sc, ex, X, W, h, o => by
    have h : (match (generalizing := false) ex with | .Compare a' [o', p'] [b', c'] _ => coOk b o' && coOk d p' && chkE c.T N x sc a' && chkE c.T N y sc b' && chkE c.T N z sc c' && !lastMarks [o', p'] [b', c'] | _ => false) = true := h
    split at h
    · obtain ⟨h, h6⟩ := and2 h
      obtain ⟨h, h5⟩ := and2 h
      obtain ⟨h, h4⟩ := and2 h
      obtain ⟨h, h3⟩ := and2 h
      obtain ⟨h1, h2⟩ := and2 h
      have rd : ∀ {σ : Sl} {H : Hp} {Q : VK}, tE c W (.chain b d x y z) σ H Q → tChain (rCm c.K b) (rCm c.K d) (tE c W x) (tE c W y) (tE c W z) σ H Q := fun {σ H Q} ⟨ρ, S, Qd, Xd, hl, re, r, w, hq, hx⟩ => by
        refine ⟨ρ, S, _, Xd, hl, re, r, w, fun dx S1 v H1 f1 r1 rx q1 => ⟨ρ, S1, _, Xd, hl, re.mono r f1, r1, q1, fun dy S2 u H2 f2 r2 ry q2 => ?_, hx.after f1⟩, hx⟩
        refine ⟨dx, dy, S2, _, r2, rx.mono r1 f2, ry, q2, fun kb q3 => ⟨kb, rfl, ?_⟩⟩
        obtain ⟨qt, qf⟩ := q3
        cases kb with
        | true =>
          show if true = true then _ else _
          rw [if_pos rfl]
          refine ⟨ρ, S2, _, Xd, hl, re.mono r (f1.trans f2), r2, qt rfl, fun dz S3 w' H3 f3 r3 rz q3 => ?_, hx.after (f1.trans f2)⟩
          exact ⟨dy, dz, S3, _, r3, ry.mono r2 f3, rz, q3, fun kb q4 => (hq.after ((f1.trans f2).trans f3)).same r3 (.bl kb) q4⟩
        | false =>
          show if false = true then _ else _
          rw [if_neg Bool.false_ne_true]
          exact (hq.after (f1.trans f2)).same r2 (.bl false) (qf rfl)
      exact ⟨PE.imp (pe_chain (o.co h1) (o.co h2) (peOk x h3 o).1 (peOk y h4 o).1 (peOk z h5 o).1 (not1 h6)) fun σ H Q h => rd h, PT.imp (pt_chain (o.co h1) (o.co h2) (peOk x h3 o).1 (peOk y h4 o).1 (peOk z h5 o).1 (not1 h6)) fun σ H Q h => rd h⟩
    · cases h
  | .and a r, sc, ex, X, W, h, o => by
    have h : (match (generalizing := false) ex with | .BoolOp .And (a' :: b' :: r') _ => chkE c.T N a sc a' && chkR c.T N r sc (b' :: r') | _ => false) = true := h
    split at h
    · obtain ⟨h1, h2⟩ := and2 h
      have rd : ∀ {σ : Sl} {H : Hp} {Q : VK}, tE c W (.and a r) σ H Q → tE c W a σ H fun v H1 => ∃ b, v = .bl b ∧ if b = true then tR c W M.wpAnd r σ H1 Q else Q (.bl false) H1 := fun {σ H Q} ⟨ρ, S, Qd, Xd, hl, re, rr, w, hq, hx⟩ =>
        one_rel hl re rr w hx fun x S2 v H2 f r2 rx q => by
          obtain ⟨b, rfl, qt, qf⟩ := onB_of q
          cases rx
          refine ⟨b, rfl, ?_⟩
          cases b with
          | true => rw [if_pos rfl]; exact ⟨ρ, S2, Qd, Xd, hl, re.mono rr f, r2, qt rfl, hq.after f, hx.after f⟩
          | false => rw [if_neg Bool.false_ne_true]; exact (hq.after f).same r2 (.bl false) (qf rfl)
      obtain ⟨⟨g1, g2⟩, _⟩ := prOk r h2 (by simp) o _
      refine ⟨PE.imp (pe_and (peOk a h1 o).1 g1) fun σ H Q h => rd h, PT.imp (pw_and (peOk a h1 o).2 g2).pt fun σ H Q h => ?_⟩
      obtain ⟨ρ, S, Qd, Xd, hl, re, rr, w, hq, hx⟩ := rd h
      refine ⟨ρ, S, Qd, Xd, hl, re, rr, w, fun d S' v H' f r' rd' q => ?_, hx⟩
      obtain ⟨b, e, q⟩ := hq d S' v H' f r' rd' q
      refine ⟨b, e, ?_⟩
      cases b with
      | true => exact q
      | false =>
        obtain ⟨b', e', q⟩ := q
        cases e'
        exact q
    · cases h
  | .or a r, sc, ex, X, W, h, o => by
    have h : (match (generalizing := false) ex with | .BoolOp .Or (a' :: b' :: r') _ => chkE c.T N a sc a' && chkR c.T N r sc (b' :: r') | _ => false) = true := h
    split at h
    · obtain ⟨h1, h2⟩ := and2 h
      have rd : ∀ {σ : Sl} {H : Hp} {Q : VK}, tE c W (.or a r) σ H Q → tE c W a σ H fun v H1 => ∃ b, v = .bl b ∧ if b = true then Q (.bl true) H1 else tR c W M.wpOr r σ H1 Q := fun {σ H Q} ⟨ρ, S, Qd, Xd, hl, re, rr, w, hq, hx⟩ =>
        one_rel hl re rr w hx fun x S2 v H2 f r2 rx q => by
          obtain ⟨b, rfl, qt, qf⟩ := onB_of q
          cases rx
          refine ⟨b, rfl, ?_⟩
          cases b with
          | false => rw [if_neg Bool.false_ne_true]; exact ⟨ρ, S2, Qd, Xd, hl, re.mono rr f, r2, qf rfl, hq.after f, hx.after f⟩
          | true => rw [if_pos rfl]; exact (hq.after f).same r2 (.bl true) (qt rfl)
      obtain ⟨_, g1, g2⟩ := prOk r h2 (by simp) o _
      refine ⟨PE.imp (pe_or (peOk a h1 o).1 g1) fun σ H Q h => rd h, PT.imp (pw_or (peOk a h1 o).2 g2).pt fun σ H Q h => ?_⟩
      obtain ⟨ρ, S, Qd, Xd, hl, re, rr, w, hq, hx⟩ := rd h
      refine ⟨ρ, S, Qd, Xd, hl, re, rr, w, fun d S' v H' f r' rd' q => ?_, hx⟩
      obtain ⟨b, e, q⟩ := hq d S' v H' f r' rd' q
      refine ⟨b, e, ?_⟩
      cases b with
      | false => exact q
      | true =>
        obtain ⟨b', e', q⟩ := q
        cases e'
        exact q
    · cases h
  | .ite g a b, sc, ex, X, W, h, o => by
    have h : (match (generalizing := false) ex with | .IfExp c' a' b' _ => chkE c.T N g sc c' && chkE c.T N a sc a' && chkE c.T N b sc b' | _ => false) = true := h
    split at h
    · obtain ⟨h, h3⟩ := and2 h
      obtain ⟨h1, h2⟩ := and2 h
      have rd : ∀ {σ : Sl} {H : Hp} {Q : VK}, tE c W (.ite g a b) σ H Q → tB (tE c W g) σ H fun k H1 => if k = true then tE c W a σ H1 Q else tE c W b σ H1 Q := fun {σ H Q} ⟨ρ, S, Qd, Xd, hl, re, rr, w, hq, hx⟩ =>
        one_rel hl re rr w hx fun x S2 v H2 f r2 rx q => by
          obtain ⟨b, rfl, qt, qf⟩ := onB_of q
          cases rx
          refine ⟨b, rfl, ?_⟩
          cases b with
          | false => rw [if_neg Bool.false_ne_true]; exact ⟨ρ, S2, Qd, Xd, hl, re.mono rr f, r2, qf rfl, hq.after f, hx.after f⟩
          | true => rw [if_pos rfl]; exact ⟨ρ, S2, Qd, Xd, hl, re.mono rr f, r2, qt rfl, hq.after f, hx.after f⟩
      exact ⟨PE.imp (pe_ifExp (peOk g h1 o).2 (peOk a h2 o).1 (peOk b h3 o).1) fun σ H Q h => rd h, PT.imp (pt_ite (peOk g h1 o).2 (peOk a h2 o).2 (peOk b h3 o).2) fun σ H Q h => rd h⟩
    · cases h
  | .tup es, sc, ex, X, W, h, o => by
    have h : (match (generalizing := false) ex with | .Tuple es' _ _ => chkEs c.T N es sc es' | _ => false) = true := h
    split at h
    · exact fin (PE.imp (pe_tup (paOk es h o)) fun σ H Q ⟨ρ, S, Qd, Xd, hl, re, r, w, hq, hx⟩ =>
        ones_rel hl re r w hx fun x S2 v H2 f r2 rx q => ⟨by rw [← rx.length, ← lim_eq]; exact q.1, (hq.after f).newT r2 rx q.2⟩)
    · cases h
  | .lst es, sc, ex, X, W, h, o => by
    have h : (match (generalizing := false) ex with | .List es' _ => chkEs c.T N es sc es' | _ => false) = true := h
    split at h
    · exact fin (PE.imp (pe_lst (paOk es h o)) fun σ H Q ⟨ρ, S, Qd, Xd, hl, re, r, w, hq, hx⟩ =>
        ones_rel hl re r w hx fun x S2 v H2 f r2 rx q => ⟨by rw [← rx.length, ← lim_eq]; exact q.1, (hq.after f).newL r2 rx q.2⟩)
    · cases h
  | .ix a i, sc, ex, X, W, h, o => by
    have h : (match (generalizing := false) ex with | .Subscript a' i' _ => plB i' && chkE c.T N a sc a' && chkE c.T N i sc i' | _ => false) = true := h
    split at h
    · obtain ⟨h, h3⟩ := and2 h
      obtain ⟨h1, h2⟩ := and2 h
      exact fin (PE.imp (pe_ix o.ix (peOk a h2 o).1 (peOk i h3 o).1 (plB_ix h1)) fun σ H Q ⟨ρ, S, Qd, Xd, hl, re, r, w, hq, hx⟩ =>
        two_rel hl re r w hx fun x y S2 v u H2 f r2 rx ry q => ⟨x, y, S2, Qd, r2, rx, ry, q, hq.after f⟩)
    · cases h
  | .sl a lo hi, sc, ex, X, W, h, o => by
    have h : (match (generalizing := false) ex with | .Subscript a' (.Slice lo' hi' none _) _ => chkE c.T N a sc a' && chkO c.T N lo sc lo' && chkO c.T N hi sc hi' | _ => false) = true := h
    split at h
    · obtain ⟨h, h3⟩ := and2 h
      obtain ⟨h1, h2⟩ := and2 h
      exact fin (PE.imp (pe_slice o.sl (peOk a h1 o).1 (poOk lo h2 o).1 (poOk hi h3 o).1) fun σ H Q ⟨ρ, S, Qd, Xd, hl, re, r, w, hq, hx⟩ =>
        one_rel hl re r w hx fun x S2 v H2 f r2 rx q => ⟨ρ, S2, _, Xd, hl, re.mono r f, r2, q, fun l S3 H3 f3 r3 q3 => ⟨ρ, S3, _, Xd, hl, re.mono r (f.trans f3), r3, q3, fun u S4 H4 f4 r4 q4 =>
          ⟨x, S4, Qd, r4, (rx.mono r2 f3).mono r3 f4, q4, hq.after ((f.trans f3).trans f4)⟩, hx.after (f.trans f3)⟩, hx.after f⟩)
    · cases h
  | .rev a, sc, ex, X, W, h, o => by
    have h : (match (generalizing := false) ex with | .Subscript a' (.Slice none none (some (.UnaryOp .USub (.Constant (.int i) _ _) _)) _) _ => decide (i = 1) && chkE c.T N a sc a' | _ => false) = true := h
    split at h
    · obtain ⟨h1, h2⟩ := and2 h
      have e := of_decide_eq_true h1
      subst e
      have eK := o.eK
      exact fin (PE.imp (pe_revM (peOk a h2 o).1) fun σ H Q ⟨ρ, S, Qd, Xd, hl, re, r, w, hq, hx⟩ =>
        one_rel hl re r w hx fun x S2 v H2 f r2 rx q => by rw [eK]; exact ⟨x, S2, Qd, r2, rx, q, hq.after f⟩)
    · cases h
  | .call n es, sc, ex, X, W, h, o => by
    have h : (match (generalizing := false) ex with | .Call (.Name x _) es' [] _ => decide (c.T.fns[n]? = some x) && (c.T.hots.contains n == c.T.hot) && glB sc x && !dbgB x && es'.all plB && chkEs c.T N es sc es' | _ => false) = true := h
    split at h
    · obtain ⟨h, h5⟩ := and2 h
      obtain ⟨h, h4⟩ := and2 h
      obtain ⟨h, h3⟩ := and2 h
      obtain ⟨h, h2⟩ := and2 h
      obtain ⟨h1, hh⟩ := and2 h
      exact fin (PE.imp (pe_callM o (of_decide_eq_true h1) hh h2 (dbg_of h3).1 (paOk es h5 o) h4 (fun e => pnOk es h5 e)) fun σ H Q ⟨ρ, S, Qd, Xd, hl, re, r, w, hq, hx⟩ =>
        ones_rel hl re r w hx fun x S2 v H2 f r2 rx q => ⟨x, S2, Qd, Xd, rx, r2, q, hq.after f, hx.after f⟩)
    · cases h
  | .callk n es ks perm, sc, ex, X, W, h, o => by
    have h : (match (generalizing := false) ex with
      | .Call (.Name x _) es' kw _ => decide (c.T.fns[n]? = some x) && (c.T.hots.contains n == c.T.hot) && glB sc x && !dbgB x && es'.all plB && chkEs c.T N es sc es' && (match kwsB kw with
        | some nms => decide ((n, M.esLen es, nms, perm) ∈ c.T.kws) && decide (nms.length = M.esLen ks) && (kw.map (·.value)).all plB && chkEs c.T N ks sc (kw.map (·.value))
        | none => false)
      | _ => false) = true := h
    split at h
    · rename_i x p es' kw pos hh
      obtain ⟨h, h6⟩ := and2 h
      obtain ⟨h, h5⟩ := and2 h
      obtain ⟨h, h4⟩ := and2 h
      obtain ⟨h, h3⟩ := and2 h
      obtain ⟨h, h2⟩ := and2 h
      obtain ⟨h1, hhot⟩ := and2 h
      split at h6
      · rename_i nms hn
        obtain ⟨h6, h9⟩ := and2 h6
        obtain ⟨h6, h8⟩ := and2 h6
        obtain ⟨h6, h7⟩ := and2 h6
        have e7 : nms.length = M.esLen ks := of_decide_eq_true h7
        exact fin (PE.imp (pe_callkM o (of_decide_eq_true h1) hhot h2 (dbg_of h3).1 (paOk es h5 o) h4 (fun e => pnOk es h5 e) (pkOk ks h9 h8 o) hn (of_decide_eq_true h6)) fun σ H Q ⟨ρ, S, Qd, Xd, hl, re, r, w, hq, hx⟩ =>
          ones_rel hl re r w hx fun x S2 v H2 f r2 rx q => ⟨ρ, S2, _, Xd, hl, re.mono r f, r2, q, fun y S3 z H3 f3 r3 rz q => by
            obtain ⟨q1, q2, q3⟩ := q
            have rx3 := rx.mono r2 f3
            exact ⟨by rw [← rx3.length]; exact q1, by rw [← rz.length, e7]; exact q2, _, S3, Qd, Xd, rels_fm (rx3.append rz) perm, r3, q3, hq.after (f.trans f3), hx.after (f.trans f3)⟩, hx.after f⟩)
      · cases h6
    · cases h
  | .rep a, sc, ex, X, W, h, o => by
    obtain ⟨p, es', pos, rfl, hm, hg, hd, ho⟩ := biCall_of (show biCall c.T sc "repr" (one (chkE c.T N a sc)) ex = true from h)
    obtain ⟨e', rfl, hp, ho⟩ := one_of ho
    refine fin (PE.imp (pe_callB o.rep (o.gl hg) (o.free hm) (by decide +kernel) (pa_cons (peOk a ho o).1 pa_nil (plB_star hp)) (by decide +kernel) hd (plB_star hp) rfl) fun σ H Q ⟨ρ, S, Qd, Xd, hl, re, r, w, hq, hx⟩ => ?_)
    exact one_rel hl re r w hx fun x S2 v H2 f r2 rx q => ⟨x, v, S2, Qd, rfl, r2, rx, q.1, q.2.1, by rw [← o.rp]; exact q.2.2, hq.after f⟩
  | .bi b es, sc, ex, X, W, h, o => by
    obtain ⟨hh, h⟩ := and2 (show (!c.T.hot && biCall c.T sc (biN b) (fun es' => !es'.isEmpty && es'.all plB && chkEs c.T N es sc es') ex) = true from h)
    obtain ⟨p, es', pos, rfl, hm, hg, hd, ho⟩ := biCall_of (show biCall c.T sc (biN b) (fun es' => !es'.isEmpty && es'.all plB && chkEs c.T N es sc es') ex = true from h)
    obtain ⟨ho, h3⟩ := and2 ho
    obtain ⟨h1, h2⟩ := and2 ho
    cases es' with
    | nil => cases h1
    | cons e' es' =>
      exact fin (PE.imp (pe_biM o hh hm hg (paOk es h3 o) h2) fun σ H Q ⟨ρ, S, Qd, Xd, hl, re, r, w, hq, hx⟩ =>
        ones_rel hl re r w hx fun x S2 v H2 f r2 rx q => ⟨x, S2, Qd, r2, rx, q, hq.after f⟩)
  | .mt m a es, sc, ex, X, W, h, o => by
    have h : (match (generalizing := false) ex with | .Call (.Attribute a' nm apos) es' [] cpos => decide (nm = mtN m) && mtOk m && (apos.endLine == cpos.line) && bareB a' && chkE c.T N a sc a' && es'.all plB && decide (es'.length < 29) && chkEs c.T N es sc es' | _ => false) = true := h
    split at h
    · rename_i a' nm apos es' cpos hh
      obtain ⟨h, h8⟩ := and2 h
      obtain ⟨h, h7⟩ := and2 h
      obtain ⟨h, h6⟩ := and2 h
      obtain ⟨h, h5⟩ := and2 h
      obtain ⟨h, h4⟩ := and2 h
      obtain ⟨h, h3⟩ := and2 h
      obtain ⟨h1, h2⟩ := and2 h
      have e := of_decide_eq_true h1
      subst e
      have ty : ∀ {H : Hp} {S : M.Sto} {x : M.D} {v : V} {xs : List M.D}, RelS c.K H S → RelD c.K H x v → M.lsOf S x = some xs → tyV c.K "list" v H := fun r rd e => by
        obtain ⟨p, vs, rfl, hs, _⟩ := lsOf_rel r rd e
        exact .inl ⟨rfl, vs, hs⟩
      cases es' with
      | nil =>
        have e0 : ∀ σ H Q, tEs c W es σ H Q → Q [] H := fun σ H Q q => pnOk es h8 rfl σ H Q q
        refine fin (PE.imp (pe_mt0 o h2 h3 h4 (peOk a h5 o).1) fun σ H Q ⟨ρ, S, Qd, Xd, hl, re, r, w, hq, hx⟩ =>
          one_rel hl re r w hx fun x S2 v H2 f r2 rx q => ?_)
        obtain ⟨xs, e, q⟩ := opt_of q
        have q2 := e0 σ H2 (fun vs H3 => rMt c.K m v vs H3 Q) ⟨ρ, S2, _, Xd, hl, re.mono r f, r2, q, fun y S3 z H3 f3 r3 rz q => ⟨x, y, S3, Qd, r3, rx.mono r2 f3, rz, q, hq.after (f.trans f3)⟩, hx.after f⟩
        exact ⟨ty r2 rx e, q2⟩
      | cons e' es' =>
        refine fin (PE.imp (pe_mtM o h2 h3 h4 (peOk a h5 o).1 (paOk es h8 o) h6 (of_decide_eq_true h7)) fun σ H Q ⟨ρ, S, Qd, Xd, hl, re, r, w, hq, hx⟩ =>
          one_rel hl re r w hx fun x S2 v H2 f r2 rx q => ?_)
        obtain ⟨xs, e, q⟩ := opt_of q
        exact ⟨ty r2 rx e, ρ, S2, _, Xd, hl, re.mono r f, r2, q, fun y S3 z H3 f3 r3 rz q => ⟨x, y, S3, Qd, r3, rx.mono r2 f3, rz, q, hq.after (f.trans f3)⟩, hx.after f⟩
    · cases h
  | .m2 m a e, sc, ex, X, W, h, o => by
    have h : (match (generalizing := false) ex with | .Call (.Attribute a' nm apos) [e'] [] cpos => decide (nm = moN m) && (apos.endLine == cpos.line) && bareB a' && plB e' && chkE c.T N a sc a' && chkE c.T N e sc e' | _ => false) = true := h
    split at h
    · rename_i a' nm apos e' cpos hh
      obtain ⟨h, h6⟩ := and2 h
      obtain ⟨h, h5⟩ := and2 h
      obtain ⟨h, h4⟩ := and2 h
      obtain ⟨h, h3⟩ := and2 h
      obtain ⟨h1, h2⟩ := and2 h
      have e1 := of_decide_eq_true h1
      subst e1
      have eK := o.eK
      cases m with
      | split =>
        refine fin (PE.imp (pe_split (peOk a h5 o).1 (peOk e h6 o).1 (plB_star h4) (bare_of h3) h2) fun σ H Q ⟨ρ, S, Qd, Xd, hl, re, r, w, hq, hx⟩ =>
          one_rel hl re r w hx fun x S2 v H2 f r2 rx q => ?_)
        obtain ⟨t, rfl, q⟩ := onS_of q
        cases rx
        refine ⟨⟨_, rfl⟩, ρ, S2, _, Xd, hl, re.mono r f, r2, q, fun y S3 u H3 f3 r3 ry q => ?_, hx.after f⟩
        obtain ⟨b, rfl, q⟩ := onS_of q
        cases ry
        match b, q with
        | [c'], q =>
          obtain ⟨q1, q2⟩ := q
          refine ⟨_, _, rfl, rfl, rfl, by rw [stx_len, ← lim_eq]; exact q1, ?_⟩
          rw [split_stx]
          exact (hq.after (f.trans f3)).newL r3 (strs_back _) q2
      | strip =>
        refine fin (PE.imp (pe_m1 PySem.F.slot_str_strip PySem.F.type_str_strip mt_stripChars (peOk a h5 o).1 (peOk e h6 o).1 (plB_star h4) (bare_of h3) h2) fun σ H Q ⟨ρ, S, Qd, Xd, hl, re, r, w, hq, hx⟩ =>
          one_rel hl re r w hx fun x S2 v H2 f r2 rx q => ?_)
        obtain ⟨t, rfl, q⟩ := onS_of q
        cases rx
        refine ⟨⟨_, rfl⟩, ρ, S2, _, Xd, hl, re.mono r f, r2, q, fun y S3 u H3 f3 r3 ry q => ?_, hx.after f⟩
        obtain ⟨b, rfl, q1, q2⟩ := onS_of q
        cases ry
        obtain ⟨r', e1, e2, e3⟩ := strip_ok t b
        refine ⟨_, _, rfl, rfl, by rw [stx_len, ← lim_eq]; exact q1, ?_⟩
        rw [e1]
        exact (hq.after (f.trans f3)).same r3 (.str _) (q2 r' e2 e3)
      | join =>
        refine fin (PE.imp (pe_join (peOk a h5 o).1 (peOk e h6 o).1 (plB_star h4) (bare_of h3) h2) fun σ H Q ⟨ρ, S, Qd, Xd, hl, re, r, w, hq, hx⟩ =>
          one_rel hl re r w hx fun x S2 v H2 f r2 rx q => ?_)
        obtain ⟨t, rfl, q⟩ := onS_of q
        cases rx
        refine ⟨⟨_, rfl⟩, ρ, S2, _, Xd, hl, re.mono r f, r2, q, fun y S3 u H3 f3 r3 ry q => ?_, hx.after f⟩
        obtain ⟨xs, e2, q⟩ := opt_of q
        obtain ⟨ts, e3, q1, q2⟩ := opt_of q
        obtain ⟨p, vs, rfl, hs, rs⟩ := sqOf_rel r3 ry e2
        have e4 := strs_rel rs e3
        subst e4
        refine ⟨_, p, ts.map stx, rfl, rfl, by rw [eK]; exact hs, by rw [sum_len, List.length_map, stx_len]; exact q1, ?_⟩
        rw [joinT_stx]
        exact (hq.after (f.trans f3)).same r3 (.str _) q2
    · cases h
  | .isi a t, sc, ex, X, W, h, o => by
    obtain ⟨p, es', pos, rfl, hm, hg, hd, ho⟩ := biCall_of (show biCall c.T sc "isinstance" (two (chkE c.T N a sc) (fun y => match y with | .Name z _ => decide (z = tyS t) && decide (z ∈ c.T.bts) && glB sc z && !dbgB z | _ => false)) ex = true from h)
    obtain ⟨e', y, rfl, hp, hp2, h1, h2⟩ := two_of ho
    split at h2
    · rename_i z pz
      obtain ⟨h2, h6⟩ := and2 h2
      obtain ⟨h2, h5⟩ := and2 h2
      obtain ⟨h3, h4⟩ := and2 h2
      have e := of_decide_eq_true h3
      subst e
      have pty : PE X (.Name (tyS t) pz) (tC (.ty (tyN t))) := pe_bltn (o.gl h5) (o.free (of_decide_eq_true h4)) (tyB t) rfl (by cases t <;> decide +kernel) (dbg_of h6).1
      have eK := o.eK
      refine fin (PE.imp (pe_callB call_isi (o.gl hg) (o.free hm) (by decide +kernel) (pa_cons (peOk a h1 o).1 (pa_cons pty pa_nil (plB_star hp2)) (plB_star hp)) (by decide +kernel) hd (plB_star hp) (plB_all (es := [_]) (by show (plB _ && true) = true; rw [hp2]; rfl))) fun σ H Q ⟨ρ, S, Qd, Xd, hl, re, r, w, hq, hx⟩ =>
        one_rel hl re r w hx fun x S2 v H2 f r2 rx q => ?_)
      obtain ⟨b, e, q⟩ := opt_of q
      obtain ⟨n, g1, g2⟩ := isTy_rel r2 rx e
      refine ⟨v, .ty (tyN t), .type n, .type (tyN t), b, rfl, .ty _, ?_, kit_ty g2, (hq.after f).same r2 (.bl b) q⟩
      rw [eK]; exact g1
    · cases h2
  | .isi2 a t u, sc, ex, X, W, h, o => by
    obtain ⟨p, es', pos, rfl, hm, hg, hd, ho⟩ := biCall_of (show biCall c.T sc "isinstance" (two (chkE c.T N a sc) (fun y => match y with | .Tuple [.Name z _, .Name z2 _] _ _ => clsB c.T sc t z && clsB c.T sc u z2 | _ => false)) ex = true from h)
    obtain ⟨e', y, rfl, hp, hp2, h1, h2⟩ := two_of ho
    split at h2
    · rename_i z pz z2 pz2 kt ptt
      obtain ⟨g1, g2⟩ := and2 h2
      obtain ⟨f1, p1⟩ := cls_name o g1
      obtain ⟨f2, p2⟩ := cls_name o g2
      have eK := o.eK
      have pt := pe_tup (x1 := kt) (pos := ptt) (pa_cons (p1 pz) (pa_cons (p2 pz2) pa_nil))
      refine fin (PE.imp (pe_callB call_isiT (o.gl hg) (o.free hm) (by decide +kernel) (pa_cons (peOk a h1 o).1 (pa_cons pt pa_nil (plB_star rfl)) (plB_star hp)) (by decide +kernel) hd (plB_star hp) (plB_all (es := [_]) rfl)) fun σ H Q ⟨ρ, S, Qd, Xd, hl, re, r, w, hq, hx⟩ =>
        one_rel hl re r w hx fun x S2 v H2 f r2 rx q => ?_)
      obtain ⟨b, e, q⟩ := opt_of q
      obtain ⟨d, e2, q⟩ := opt_of q
      refine ⟨by show 2 ≤ sizeLine; rw [sizeLine_eq]; omega, fun tp htp => ?_⟩
      have f3 : Fr S2 H2 S2 (L2.upd H2 tp (.tup [.ty (tyN t), .ty (tyN u)])) := Fr.laid htp
      have r3 := r2.laid (o := .tup [.ty (tyN t), .ty (tyN u)]) htp
      have rx3 := rx.mono r2 f3
      obtain ⟨n', k1, kk⟩ := isTy_all r3 rx3 e
      have k2 := kk t b e
      have k4 := kk u d e2
      refine ⟨v, tp, [.ty (tyN t), .ty (tyN u)], .type n', [.type (tyN t), .type (tyN u)], b || d, rfl, upd_same, .cons (.ty _) (.cons (.ty _) .nil), ?_, ?_, (hq.after (f.trans f3)).same r3 (.bl _) q⟩
      · rw [eK]; exact k1
      · refine kitAny_cons (kit_ty k2) (fun hb => kitAny_cons (kit_ty k4) (fun hd => ?_) fun hd => ?_) fun hb => ?_
        · subst hb hd; exact kitAny_nil
        · subst hd; rw [Bool.or_true]
        · subst hb; rfl
    · cases h2
  | .isx a cs, sc, ex, X, W, h, o => by
    obtain ⟨p, es', pos, rfl, hm, hg, hd, ho⟩ := biCall_of (show biCall c.T sc "isinstance" (two (chkE c.T N a sc) (clsM c.T sc cs)) ex = true from h)
    obtain ⟨e', y, rfl, hp, hp2, h1, h2⟩ := two_of ho
    have eK := o.eK
    unfold clsM at h2
    split at h2
    · rename_i z pz
      obtain ⟨hlen, h2⟩ := and2 h2
      match cs, of_decide_eq_true hlen, h2 with
      | [c'], _, h2 =>
        have h2 : clsX c.T sc c' z = true := h2
        obtain ⟨v, wv, pty, hv, hk⟩ := cls_one o h2
        refine fin (PE.imp (pe_callB call_isXA (o.gl hg) (o.free hm) (by decide +kernel) (pa_cons (peOk a h1 o).1 (pa_cons (pty pz) pa_nil (plB_star hp2)) (plB_star hp)) (by decide +kernel) hd (plB_star hp) (plB_all (es := [_]) (by show (plB _ && true) = true; rw [hp2]; rfl))) fun σ H Q ⟨ρ, S, Qd, Xd, hl, re, r, w, hq, hx⟩ =>
          one_rel hl re r w hx fun x S2 u H2 f r2 rx q => ?_)
        obtain ⟨C, fs, rfl, i, hi, q⟩ := onX_of q
        cases rx with
        | xn ha =>
          refine ⟨C, by rw [eK]; exact (o.er.ok i C hi).ec, _, v, wv, _, rfl, ha, hv, by rw [eK]; exact hk i C hi, ?_⟩
          have e1 : ([c'] : List Nat).any (c.G.sub i) = c.G.sub i c' := by simp
          rw [e1] at q
          exact (hq.after f).same r2 (.bl _) q
    · rename_i zs kt ptt
      obtain ⟨h3, h4⟩ := and2 h2
      obtain ⟨vs, wvs, t, g1, g2, g3, g4, g5⟩ := cls_all o h4
      have pt := pe_tup (x1 := kt) (pos := ptt) g1
      refine fin (PE.imp (pe_callB call_isXTA (o.gl hg) (o.free hm) (by decide +kernel) (pa_cons (peOk a h1 o).1 (pa_cons pt pa_nil (plB_star rfl)) (plB_star hp)) (by decide +kernel) hd (plB_star hp) (plB_all (es := [_]) rfl)) fun σ H Q ⟨ρ, S, Qd, Xd, hl, re, r, w, hq, hx⟩ =>
        one_rel hl re r w hx fun x S2 u H2 f r2 rx q => ?_)
      obtain ⟨C, fs, rfl, i, hi, q⟩ := onX_of q
      refine g2 _ _ _ ⟨?_, fun tp htp => ?_⟩
      · have := of_decide_eq_true h3
        rw [g3, sizeLine_eq]; omega
      · cases rx with
        | xn ha =>
          have f3 : Fr S2 H2 S2 (L2.upd H2 tp (.tup vs)) := Fr.laid htp
          have r3 := r2.laid (o := .tup vs) htp
          have ha3 := (f3 _ _ ha (r2.xo ha)).1
          exact ⟨C, by rw [eK]; exact (o.er.ok i C hi).ec, _, tp, vs, wvs, _, rfl, ha3, L2.upd_same, g4, by rw [eK]; exact g5 i C hi, (hq.after (f.trans f3)).same r3 (.bl _) q⟩
    · cases h2
  | .dic, sc, ex, X, W, h, o => by
    have h : (match (generalizing := false) ex with | .Dict [] [] _ => true | _ => false) = true := h
    split at h
    · exact fin (PE.imp pe_dnewK fun σ H Q ⟨ρ, S, Qd, Xd, hl, re, r, w, hq, hx⟩ => fun p hp => hq _ _ _ _ (Fr.laidS hp) (r.dic hp) (.ref p) (w p (r.none hp)))
    · cases h
  | .dct ks es, sc, ex, X, W, h, o => by
    have h : (match (generalizing := false) ex with | .Dict kes vs _ => decide (ks ≠ []) && decide (ks.Nodup) && decide (ks.length ≤ 15) && keysB ks kes && decide (vs.length = ks.length) && vs.all plB && chkEs c.T N es sc vs | _ => false) = true := h
    split at h
    · rename_i kes vs pos hheq
      obtain ⟨h, h7⟩ := and2 h
      obtain ⟨h, h6⟩ := and2 h
      obtain ⟨h, h5⟩ := and2 h
      obtain ⟨h, h4⟩ := and2 h
      obtain ⟨h, h3⟩ := and2 h
      obtain ⟨h1, h2⟩ := and2 h
      obtain ⟨k1, k2⟩ := keysB_some h4
      have h5 := of_decide_eq_true h5
      have h3 := of_decide_eq_true h3
      obtain ⟨p1, p2, p3⟩ := ppOk es (pos := pos) h4 h7 h6 h5 o
      refine fin (PE.imp (pe_disp p1 k1 (by omega) (fun z => of_decide_eq_true h1 (by rw [z] at k2; exact List.eq_nil_of_length_eq_zero k2.symm)) (by omega)) fun σ H Q q => disp_rel h3 (of_decide_eq_true h2) p2 p3 q)
    · cases h
  | .comp e t it oc, sc, ex, X, W, h, o => by
    have h : (match (generalizing := false) ex with
      | .ListComp e' [⟨tg, it', ifs, k⟩] scope _ => !c.T.hot && decide (k = 0) && blkC N sc scope (ownOf N (M.tgs t)) && decide ((ownOf N (M.tgs t)).map (·.2) = M.tgs t) && decide (M.tgs t).Nodup && noSet it' && chkIt c.T N it sc it' (isTupB tg) && chkTg N (tgB scope sc) t tg
          && (match ifs with | [] => chkO c.T N oc (relS scope sc) none | [d] => chkO c.T N oc (relS scope sc) (some d) | _ => false) && chkE c.T N e (relS scope sc) e'
      | _ => false) = true := h
    split at h
    · rename_i e' tg it' ifs k0 scope pos hh
      obtain ⟨h, h9⟩ := and2 h
      obtain ⟨h, h8⟩ := and2 h
      obtain ⟨h, h7⟩ := and2 h
      obtain ⟨h, h6⟩ := and2 h
      obtain ⟨h, h5⟩ := and2 h
      obtain ⟨h, h4⟩ := and2 h
      obtain ⟨h, h3⟩ := and2 h
      obtain ⟨h, h2⟩ := and2 h
      obtain ⟨hcal, h1⟩ := and2 h
      have e0 := of_decide_eq_true h1
      subst e0
      have eo : (ownOf N (M.tgs t)).map (·.2) = M.tgs t := of_decide_eq_true h3
      refine fin ?_
      have hpe : PE X (.ListComp e' [⟨tg, it', ifs, 0⟩] scope pos) (tLc (tIt c W it) (tgG c.K t) (tCn c oc) (tE c W0 e) ((ownOf N (M.tgs t)).map (·.2))) := by
        refine pe_lc (o.calm' hcal) (by rw [o.eN]; exact o.nd) (piOk it h6 o) (by rw [o.eN, o.es]; exact blkOk_by h2) (fun s H C cl fp => ?_) (fun s H C cl fp => ?_) (fun s H C cl fp => ?_) (folded_of h5)
        · have ob := o.blk s H scope C cl fp
          have q := pgOk (X := X.blk s H scope (compEnvC scope cl C X.env) fp) (t := t) (e := tg) (ok := tgB scope sc) (fun _ => ob.calm' hcal) (by rw [ob.eN]; exact ob.nd) (fun x hx => by rw [ob.es]; exact tgB_of hx) (by rw [ob.eN]; exact h7)
          rw [ob.eK] at q
          exact q
        · have ob := o.blk s H scope C cl fp
          split at h8
          · exact (poOk oc h8 ob).2
          · exact (poOk oc h8 ob).2
          · cases h8
        · exact (peOk e h9 (o.blk s H scope C cl fp)).1
      refine PE.imp hpe fun σ H Q ⟨ρ, S, Qd, Xd, hl, re, r, w, hq, hx⟩ => ?_
      refine ⟨ρ, S, _, Xd, hl, re, r, w, fun items chk S1 H1 J f1 r1 m q => ?_, hx⟩
      rw [eo]
      exact comp_rel hl (re.mono r f1) r1 m q.1 (hq.after f1) q.2
    · cases h
theorem ppOk : ∀ (es : M.Es) {ks : List M.Tx} {kes : List (Option Expr)} {vs : List Expr} {sc : Scope} {pos : Pos} {X : Cx} {W : WX}, keysB ks kes = true → chkEs c.T N es sc vs = true → vs.all plB = true → vs.length = ks.length → Ok c k N sc X W → PPs X pos kes vs (trsOf c W ks es) ∧ ks.length = M.esLen es ∧ noStar es = true
  | .nil, ks, kes, vs, sc, pos, X, W, hk, h, hp, hlen, o => by
    cases vs with
    | cons _ _ => cases h
    | nil =>
      cases ks with
      | cons _ _ => cases hlen
      | nil =>
        have := (keysB_some hk).2
        cases kes with
        | cons _ _ => cases this
        | nil => exact ⟨pps_nil, rfl, rfl⟩
  | .cons e r, ks, kes, vs, sc, pos, X, W, hk, h, hp, hlen, o => by
    cases vs with
    | nil => cases h
    | cons v vs =>
      obtain ⟨h, h3⟩ := and2 (show (plB v && chkE c.T N e sc v && chkEs c.T N r sc vs) = true from h)
      obtain ⟨h1, h2⟩ := and2 h
      obtain ⟨_, hp2⟩ := and2 (show (plB v && vs.all plB) = true from hp)
      cases ks with
      | nil => cases hlen
      | cons kk ks =>
        unfold keysB at hk
        split at hk
        · cases ‹_ = []›
        · rename_i hole es' k' ks' y a b heq1
          injection heq1 with z1 z2
          subst z1 z2
          obtain ⟨g1, g2⟩ := and2 hk
          have g1 := of_decide_eq_true g1
          subst g1
          obtain ⟨p1, p2, p3⟩ := ppOk r (pos := pos) g2 h3 hp2 (Nat.succ.inj hlen) o
          exact ⟨pps_cons pe_str (peOk e h2 o).1 p1, by rw [List.length_cons, p2]; rfl, p3⟩
        · cases hk
  | .star e r, ks, kes, vs, sc, pos, X, W, hk, h, hp, hlen, o => by
    have h : (match (generalizing := false) vs with | .Starred e' _ :: r' => chkE c.T N e sc e' && chkEs c.T N r sc r' | _ => false) = true := h
    split at h
    · cases hp
    · cases h
theorem paOk : ∀ (es : M.Es) {sc : Scope} {ex : List Expr} {X : Cx} {W : WX}, chkEs c.T N es sc ex = true → Ok c k N sc X W → PA X ex (tEs c W es)
  | .nil, sc, ex, X, W, h, o => by
    cases ex with
    | nil => exact PA.imp pa_nil fun σ H Q ⟨ρ, S, Qd, Xd, hl, re, r, w, hq, hx⟩ => hq [] S [] H Fr.refl r .nil w
    | cons _ _ => cases h
  | .cons e r, sc, ex, X, W, h, o => by
    cases ex with
    | nil => cases h
    | cons e' r' =>
      obtain ⟨h, h3⟩ := and2 (show (plB e' && chkE c.T N e sc e' && chkEs c.T N r sc r') = true from h)
      obtain ⟨h1, h2⟩ := and2 h
      exact PA.imp (pa_cons (peOk e h2 o).1 (paOk r h3 o) (plB_star h1)) fun σ H Q ⟨ρ, S, Qd, Xd, hl, re, rr, w, hq, hx⟩ =>
        one_rel hl re rr w hx fun x S2 v H2 f r2 rx q => ⟨ρ, S2, _, Xd, hl, re.mono rr f, r2, q, fun ds S3 vs H3 f3 r3 rds q => hq _ _ _ _ (f.trans f3) r3 (.cons (rx.mono r2 f3) rds) q, hx.after f⟩
  | .star e r, sc, ex, X, W, h, o => by
    have h : (match (generalizing := false) ex with | .Starred e' _ :: r' => chkE c.T N e sc e' && chkEs c.T N r sc r' | _ => false) = true := h
    split at h
    · rename_i e' p r'
      obtain ⟨h1, h2⟩ := and2 h
      have eK := o.eK
      refine PA.imp (pa_star (r := fun v H Q => ∃ a vs, v = .ref a ∧ (SqL X.K H a vs ∨ SqT X.K H a vs) ∧ Q vs H) (fun v H Q q => q) (peOk e h1 o).1 (paOk r h2 o)) fun σ H Q ⟨ρ, S, Qd, Xd, hl, re, rr, w, hq, hx⟩ =>
        one_rel hl re rr w hx fun x S2 v H2 f r2 rx q => ?_
      obtain ⟨xs, e2, q⟩ := opt_of q
      obtain ⟨a, vs, ea, hs, rd⟩ := sqOf_rel r2 rx e2
      exact ⟨a, vs, ea, by rw [eK]; exact hs, ρ, S2, _, Xd, hl, re.mono rr f, r2, q, fun ds S3 us H3 f3 r3 rds q => hq _ _ _ _ (f.trans f3) r3 ((rd.mono r2 f3).append rds) q, hx.after f⟩
    · cases h
theorem pkOk : ∀ (es : M.Es) {sc : Scope} {kw : List Keyword} {X : Cx} {W : WX}, chkEs c.T N es sc (kw.map (·.value)) = true → (kw.map (·.value)).all plB = true → Ok c k N sc X W → PK X kw (tEs c W es)
  | .nil, sc, kw, X, W, h, hp, o => by
    cases kw with
    | nil => exact ⟨fun pos pins s σ H Q I ⟨ρ, S, Qd, Xd, hl, re, r, w, hq, hx⟩ => pk_nil.run pos pins s σ H Q I (hq [] S [] H Fr.refl r .nil w)⟩
    | cons _ _ => cases h
  | .cons e r, sc, kw, X, W, h, hp, o => by
    cases kw with
    | nil => cases h
    | cons kw r' =>
      obtain ⟨nm, e', kp⟩ := kw
      obtain ⟨h, h3⟩ := and2 (show (plB e' && chkE c.T N e sc e' && chkEs c.T N r sc (r'.map (·.value))) = true from h)
      obtain ⟨h1, h2⟩ := and2 h
      obtain ⟨_, hp2⟩ := and2 (show (plB e' && (r'.map (·.value)).all plB) = true from hp)
      exact ⟨fun pos pins s σ H Q I ⟨ρ, S, Qd, Xd, hl, re, rr, w, hq, hx⟩ => (pk_cons (peOk e h2 o).1 (pkOk r h3 hp2 o)).run pos pins s σ H Q I
        (one_rel hl re rr w hx fun x S2 v H2 f r2 rx q => ⟨ρ, S2, _, Xd, hl, re.mono rr f, r2, q, fun ds S3 vs H3 f3 r3 rds q => hq _ _ _ _ (f.trans f3) r3 (.cons (rx.mono r2 f3) rds) q, hx.after f⟩)⟩
  | .star e r, sc, kw, X, W, h, hp, o => by
    have h : (match (generalizing := false) kw.map (·.value) with | .Starred e' _ :: r' => chkE c.T N e sc e' && chkEs c.T N r sc r' | _ => false) = true := h
    split at h
    · rename_i heq
      rw [heq] at hp
      cases hp
    · cases h
theorem pnOk : ∀ (es : M.Es) {sc : Scope} {ex : List Expr} {T : Tb}, chkEs T N es sc ex = true → ex = [] → ∀ {c : Cn} {W : WX} σ H Q, tEs c W es σ H Q → Q [] H
  | .nil, sc, ex, T, h, e, c, W, σ, H, Q, ⟨ρ, S, Qd, Xd, hl, re, r, w, hq, hx⟩ => hq [] S [] H Fr.refl r .nil w
  | .cons _ _, sc, ex, T, h, e, c, W, σ, H, Q, _ => by subst e; cases h
  | .star _ _, sc, ex, T, h, e, c, W, σ, H, Q, _ => by subst e; cases h
theorem prOk : ∀ (es : M.Es) {sc : Scope} {ex : List Expr} {X : Cx} {W : WX}, chkR c.T N es sc ex = true → ex ≠ [] → Ok c k N sc X W → ∀ pos : Pos,
    (PE X (.BoolOp .And ex pos) (tR c W M.wpAnd es) ∧ PW X (.BoolOp .And ex pos) (tB (tR c W M.wpAnd es))) ∧ PE X (.BoolOp .Or ex pos) (tR c W M.wpOr es) ∧ PW X (.BoolOp .Or ex pos) (tB (tR c W M.wpOr es))
  | .nil, sc, ex, X, W, h, hne, o, pos => by
    cases ex with
    | nil => exact absurd rfl hne
    | cons _ _ => cases h
  | .star _ _, sc, ex, X, W, h, _, o, pos => nomatch h
  | .cons e r, sc, ex, X, W, h, hne, o, pos => by
    cases ex with
    | nil => exact absurd rfl hne
    | cons e' r' =>
      obtain ⟨h1, h2⟩ := and2 (show (chkE c.T N e sc e' && chkR c.T N r sc r') = true from h)
      obtain ⟨p1, p2⟩ := peOk e h1 o
      cases r' with
      | nil =>
        cases r with
        | nil =>
          have i1 : ∀ σ H Q, tR c W M.wpAnd (.cons e .nil) σ H Q → tE c W e σ H Q := fun σ H Q ⟨ρ, S, Qd, Xd, hl, re, rr, w, hq, hx⟩ => ⟨ρ, S, Qd, Xd, hl, re, rr, w, hq, hx⟩
          have i2 : ∀ σ H Q, tR c W M.wpOr (.cons e .nil) σ H Q → tE c W e σ H Q := fun σ H Q ⟨ρ, S, Qd, Xd, hl, re, rr, w, hq, hx⟩ => ⟨ρ, S, Qd, Xd, hl, re, rr, w, hq, hx⟩
          exact ⟨⟨PE.imp (pe_one p1) i1, ⟨fun wh pins s σ H Q I h => (pw_and1 p2).run wh pins s σ H Q I (i1 _ _ _ h)⟩⟩, PE.imp (pe_one p1) i2, ⟨fun wh pins s σ H Q I h => (pw_or1 p2).run wh pins s σ H Q I (i2 _ _ _ h)⟩⟩
        | cons _ _ => cases h2
        | star _ _ => cases h2
      | cons e2 r2 =>
        obtain ⟨⟨g1, g2⟩, g3, g4⟩ := prOk r h2 (by simp) o pos
        cases r with
        | nil => cases h2
        | star _ _ => cases h2
        | cons f r =>
          have rdA : ∀ {σ : Sl} {H : Hp} {Q : VK}, tR c W M.wpAnd (.cons e (.cons f r)) σ H Q → tE c W e σ H fun v H1 => ∃ b, v = .bl b ∧ if b = true then tR c W M.wpAnd (.cons f r) σ H1 Q else Q (.bl false) H1 := fun {σ H Q} ⟨ρ, S, Qd, Xd, hl, re, rr, w, hq, hx⟩ =>
            one_rel hl re rr w hx fun x S2 v H2 f r2 rx q => by
              obtain ⟨b, rfl, qt, qf⟩ := onB_of q
              cases rx
              refine ⟨b, rfl, ?_⟩
              cases b with
              | true => rw [if_pos rfl]; exact ⟨ρ, S2, Qd, Xd, hl, re.mono rr f, r2, qt rfl, hq.after f, hx.after f⟩
              | false => rw [if_neg Bool.false_ne_true]; exact (hq.after f).same r2 (.bl false) (qf rfl)
          have rdO : ∀ {σ : Sl} {H : Hp} {Q : VK}, tR c W M.wpOr (.cons e (.cons f r)) σ H Q → tE c W e σ H fun v H1 => ∃ b, v = .bl b ∧ if b = true then Q (.bl true) H1 else tR c W M.wpOr (.cons f r) σ H1 Q := fun {σ H Q} ⟨ρ, S, Qd, Xd, hl, re, rr, w, hq, hx⟩ =>
            one_rel hl re rr w hx fun x S2 v H2 f r2 rx q => by
              obtain ⟨b, rfl, qt, qf⟩ := onB_of q
              cases rx
              refine ⟨b, rfl, ?_⟩
              cases b with
              | false => rw [if_neg Bool.false_ne_true]; exact ⟨ρ, S2, Qd, Xd, hl, re.mono rr f, r2, qf rfl, hq.after f, hx.after f⟩
              | true => rw [if_pos rfl]; exact (hq.after f).same r2 (.bl true) (qt rfl)
          refine ⟨⟨PE.imp (pe_and p1 g1) fun σ H Q h => rdA h, ⟨fun wh pins s σ H Q I h => (pw_and p2 g2).run wh pins s σ H Q I ?_⟩⟩, PE.imp (pe_or p1 g3) fun σ H Q h => rdO h, ⟨fun wh pins s σ H Q I h => (pw_or p2 g4).run wh pins s σ H Q I ?_⟩⟩
          · obtain ⟨ρ, S, Qd, Xd, hl, re, rr, w, hq, hx⟩ := rdA h
            refine ⟨ρ, S, Qd, Xd, hl, re, rr, w, fun d S' v H' f r' rd' q => ?_, hx⟩
            obtain ⟨b, e, q⟩ := hq d S' v H' f r' rd' q
            refine ⟨b, e, ?_⟩
            cases b with
            | true => exact q
            | false =>
              obtain ⟨b', e', q⟩ := q
              cases e'
              exact q
          · obtain ⟨ρ, S, Qd, Xd, hl, re, rr, w, hq, hx⟩ := rdO h
            refine ⟨ρ, S, Qd, Xd, hl, re, rr, w, fun d S' v H' f r' rd' q => ?_, hx⟩
            obtain ⟨b, e, q⟩ := hq d S' v H' f r' rd' q
            refine ⟨b, e, ?_⟩
            cases b with
            | false => exact q
            | true =>
              obtain ⟨b', e', q⟩ := q
              cases e'
              exact q
theorem poOk : ∀ (oe : M.Oe) {sc : Scope} {ex : Option Expr} {X : Cx} {W : WX}, chkO c.T N oe sc ex = true → Ok c k N sc X W → PO X ex (tO c W oe) ∧ PTs X ex.toList (tCn c oe)
  | .none, sc, ex, X, W, h, o => by
    cases ex with
    | none => exact ⟨⟨fun pins s σ H Q I ⟨ρ, S, Qd, Xd, hl, re, r, w, hq, hx⟩ => po_none.run pins s σ H Q I (hq none S H Fr.refl r w)⟩, ⟨fun pins s σ H Q I ⟨ρ, S, Qd, hl, re, r, w, hq⟩ => pts_nil.run pins s σ H Q I (hq true S H Fr.refl r w)⟩⟩
    | some _ => cases h
  | .some e, sc, ex, X, W, h, o => by
    cases ex with
    | none => cases h
    | some e' =>
      obtain ⟨p1, p2⟩ := peOk e (show chkE c.T N e sc e' = true from h) o
      refine ⟨⟨fun pins s σ H Q I ⟨ρ, S, Qd, Xd, hl, re, r, w, hq, hx⟩ => (po_some p1).run pins s σ H Q I ?_⟩, ⟨fun pins s σ H Q I ⟨ρ, S, Qd, hl, re, r, w, hq⟩ => (pts_one p2).run pins s σ H Q I ?_⟩⟩
      · exact one_rel hl re r w hx fun x S2 v H2 f r2 rx q => by
          obtain ⟨i, rfl, q⟩ := onI_of q
          cases rx
          exact ⟨i, rfl, hq _ _ _ f r2 q⟩
      · refine ⟨ρ, S, _, M.X0, hl, re, r, w, fun x S2 v H2 f r2 rx q => ?_, okX0⟩
        obtain ⟨b, rfl, q⟩ := onB_of q
        cases rx
        exact ⟨b, rfl, hq _ _ _ f r2 q⟩
theorem piOk : ∀ (it : M.It) {sc : Scope} {ex tg : Expr} {X : Cx} {W : WX}, chkIt c.T N it sc ex (isTupB tg) = true → Ok c k N sc X W → PI X tg ex (tIt c W it)
  | .seq e, sc, ex, tg, X, W, h, o => by
    have eK := o.eK
    exact PI.imp (pi_seqM (peOk e (show chkE c.T N e sc ex = true from h) o).1) fun σ H R ⟨ρ, S, Rd, Xd, hl, re, r, w, hq, hx⟩ => one_rel hl re r w hx fun x S2 v H2 f r2 rx q => by rw [eK]; exact seq_rel r2 rx q (hq.after f)
  | .rng e, sc, ex, tg, X, W, h, o => by
    obtain ⟨p, es', pos, rfl, hm, hg, hd, ho⟩ := biCall_of (show biCall c.T sc "range" (one (chkE c.T N e sc)) ex = true from h)
    obtain ⟨e', rfl, hp, ho⟩ := one_of ho
    refine PI.imp (pi_range1 (o.gl hg) (o.free hm) (pa_cons (peOk e ho o).1 pa_nil (plB_star hp)) (plB_star hp)) fun σ H R ⟨ρ, S, Rd, Xd, hl, re, r, w, hq, hx⟩ => one_rel hl re r w hx fun x S2 v H2 f r2 rx q => ?_
    obtain ⟨j, rfl, q⟩ := onI_of q
    cases rx
    obtain ⟨_, _, q1, q2, q3⟩ := q
    refine ⟨j, rfl, q1, q2, (hq.after f).here r2 ?_ q3⟩
    have e0 : j.toNat = (j - 0).toNat := by rw [Int.sub_zero]
    rw [e0]
    exact mat_rng
  | .rng2 a b, sc, ex, tg, X, W, h, o => by
    obtain ⟨p, es', pos, rfl, hm, hg, hd, ho⟩ := biCall_of (show biCall c.T sc "range" (two (chkE c.T N a sc) (chkE c.T N b sc)) ex = true from h)
    obtain ⟨e1, e2, rfl, hp, hp2, h1, h2⟩ := two_of ho
    refine PI.imp (pi_range2 (o.gl hg) (o.free hm) (pa_cons (peOk a h1 o).1 (pa_cons (peOk b h2 o).1 pa_nil (plB_star hp2)) (plB_star hp)) (by rw [plB_star hp, plB_star hp2]; rfl) (plB_star hp2)) fun σ H R ⟨ρ, S, Rd, Xd, hl, re, r, w, hq, hx⟩ => two_rel hl re r w hx fun x y S2 v u H2 f r2 rx ry q => ?_
    obtain ⟨i, ei, q'⟩ := onI_of q
    obtain ⟨j, ej, q''⟩ := onI_of q'
    subst ei ej
    cases rx
    cases ry
    obtain ⟨q1, q2, q3, q4, q5⟩ := q''
    exact ⟨i, j, rfl, ⟨q1, q2, q3, q4⟩, (hq.after f).here r2 mat_rng q5⟩
  | .zip a b, sc, ex, tg, X, W, h, o => by
    obtain ⟨ht, h⟩ := and2 (show (isTupB tg && biCall c.T sc "zip" (two (chkE c.T N a sc) (chkE c.T N b sc)) ex) = true from h)
    obtain ⟨ts, tk, tp, rfl⟩ := tupB_of ht
    obtain ⟨p, es', pos, rfl, hm, hg, hd, ho⟩ := biCall_of h
    obtain ⟨e1, e2, rfl, hp, hp2, h1, h2⟩ := two_of ho
    have eK := o.eK
    refine PI.imp (pi_zipM (o.gl hg) (o.free hm) (pa_cons (peOk a h1 o).1 (pa_cons (peOk b h2 o).1 pa_nil (plB_star hp2)) (plB_star hp)) (plB_star hp) (plB_all (es := [_]) (by show (plB _ && true) = true; rw [hp2]; rfl))) fun σ H R ⟨ρ, S, Rd, Xd, hl, re, r, w, hq, hx⟩ => two_rel hl re r w hx fun x y S2 v u H2 f r2 rx ry q => ?_
    rw [eK]
    rcases zip_cases q with ⟨xs, ys, rfl, rfl, q⟩ | ⟨a, ys, rfl, rfl, q⟩ | q
    · cases rx with
      | tup a1 a2 => cases ry with
        | tup b1 b2 => exact ⟨_, _, .tup _, .tup _, _, _, rfl, rfl, rfl, a1, b1, (hq.after f).here r2 (mat_zipM (fun _ _ f' _ _ => ⟨_, sqt_mono r2 f' a1, a2.mono r2 f'⟩) fun _ _ f' _ _ => ⟨_, sqt_mono r2 f' b1, b2.mono r2 f'⟩) q⟩
    · cases rx with
      | str a => cases ry with
        | tup b1 b2 => exact ⟨_, _, .txt _, .tup _, _, _, rfl, rfl, rfl, rfl, b1, (hq.after f).here r2 (mat_zipM (fun _ _ _ _ _ => ⟨_, rfl, chrs_rel a⟩) fun _ _ f' _ _ => ⟨_, sqt_mono r2 f' b1, b2.mono r2 f'⟩) q⟩
    · obtain ⟨xs, ex, q⟩ := opt_of q
      obtain ⟨ys, ey, q⟩ := opt_of q
      obtain ⟨p1, vs, rfl, hs, _⟩ := lsOf_rel r2 rx ex
      obtain ⟨p2, us, rfl, hs2, _⟩ := lsOf_rel r2 ry ey
      exact ⟨_, _, .lst p1, .lst p2, vs, us, rfl, rfl, rfl, hs, hs2, (hq.after f).here r2 (mat_zipM (fun _ _ f' r' ch => ls_at r2 f' r' rx ch.1) fun _ _ f' r' ch => ls_at r2 f' r' ry ch.2) q⟩
  | .zip3 a b d, sc, ex, tg, X, W, h, o => by
    obtain ⟨ht, h⟩ := and2 (show (isTupB tg && biCall c.T sc "zip" (three (chkE c.T N a sc) (chkE c.T N b sc) (chkE c.T N d sc)) ex) = true from h)
    obtain ⟨ts, tk, tp, rfl⟩ := tupB_of ht
    obtain ⟨p, es', pos, rfl, hm, hg, hd, ho⟩ := biCall_of h
    obtain ⟨e1, e2, e3, rfl, hp, hp2, hp3, h1, h2, h3⟩ := three_of ho
    have eK := o.eK
    refine PI.imp (pi_zip3 (o.gl hg) (o.free hm) (pa_cons (peOk a h1 o).1 (pa_cons (peOk b h2 o).1 (pa_cons (peOk d h3 o).1 pa_nil (plB_star hp3)) (plB_star hp2)) (plB_star hp)) (plB_star hp) (plB_all (es := [_, _]) (by show (plB _ && (plB _ && true)) = true; rw [hp2, hp3]; rfl))) fun σ H R ⟨ρ, S, Rd, Xd, hl, re, r, w, hq, hx⟩ => three_rel hl re r w hx fun x y z S2 v u t H2 f r2 rx ry rz q => ?_
    rw [eK]
    have q : M.zip3D x y z S2 Rd := q
    unfold M.zip3D at q
    split at q
    · cases rx with
      | tup a1 a2 => cases ry with
        | tup b1 b2 => cases rz with
          | tup c1 c2 => exact ⟨_, _, _, .tup _, .tup _, .tup _, _, _, _, rfl, rfl, rfl, rfl, a1, b1, c1, (hq.after f).here r2 (mat_zip3 (fun _ _ f' _ _ => ⟨_, sqt_mono r2 f' a1, a2.mono r2 f'⟩) (fun _ _ f' _ _ => ⟨_, sqt_mono r2 f' b1, b2.mono r2 f'⟩) fun _ _ f' _ _ => ⟨_, sqt_mono r2 f' c1, c2.mono r2 f'⟩) q⟩
    · exact False.elim q
  | .enum e, sc, ex, tg, X, W, h, o => by
    obtain ⟨ht, h⟩ := and2 (show (isTupB tg && biCall c.T sc "enumerate" (one (chkE c.T N e sc)) ex) = true from h)
    obtain ⟨ts, tk, tp, rfl⟩ := tupB_of ht
    obtain ⟨p, es', pos, rfl, hm, hg, hd, ho⟩ := biCall_of h
    obtain ⟨e', rfl, hp, ho⟩ := one_of ho
    have eK := o.eK
    refine PI.imp (pi_enum (o.gl hg) (o.free hm) (pa_cons (peOk e ho o).1 pa_nil (plB_star hp)) (plB_star hp)) fun σ H R ⟨ρ, S, Rd, Xd, hl, re, r, w, hq, hx⟩ => one_rel hl re r w hx fun x S2 v H2 f r2 rx q => ?_
    obtain ⟨xs, ex, q⟩ := opt_of q
    obtain ⟨p1, vs, rfl, hs, _⟩ := lsOf_rel r2 rx ex
    rw [eK]
    exact ⟨p1, vs, rfl, hs, (hq.after f).here r2 (mat_enum r2 rx) q⟩
end
end
end Snd
namespace Snd
open PySem PySem.Spec PyProof.Rows L2
def isStar : Expr → Bool
  | .Starred .. => true | _ => false
def swName (sc : Scope) (line : Nat) : Expr → Option Str
  | .Name id pos => if sc.names.lookup id == some .local && pos.line == line then some id else none
  | _ => none
def swTup (sc : Scope) (ts vs : List Expr) : Option (Option (List Str)) :=
    if (!(ts.length == 2 || ts.length == 3) || vs.length != ts.length) = true then some none
    else if vs.any isStar = true then some none
    else if ((ts.filterMap (swName sc ((ts.head?.map (·.pos.line)).getD 0))).length != ts.length || (ts.filterMap (swName sc ((ts.head?.map (·.pos.line)).getD 0))).eraseDups.length != (ts.filterMap (swName sc ((ts.head?.map (·.pos.line)).getD 0))).length) = true then some none
      else if vs.all (foldedForSure 8) = true then some none
      else if vs.all (constantsAlone 8) = true then none
      else some (some (ts.filterMap (swName sc ((ts.head?.map (·.pos.line)).getD 0))))
theorem sw_ok {env : Env} {ts vs : List Expr} {k k2 : Nat} {p p2 : Pos} {r : Option (List Str)} (hk : env.scope.kind = .function) (h : swTup env.scope ts vs = some r) : swappedStores [.Tuple ts k p] (.Tuple vs k2 p2) env = pure r := by
  have hb : env.blockKind = .function := by unfold Env.blockKind; rw [hk]; rfl
  have e1 : ∀ F : Expr → Bool, (∀ x, F x = isStar x) → vs.any F = vs.any isStar := fun F h => by rw [funext h]
  have e2 : ∀ (line : Nat) (F : Expr → Option Str), (∀ x, F x = swName env.scope line x) → ts.filterMap F = ts.filterMap (swName env.scope line) := fun line F h => by rw [funext h]
  unfold swappedStores
  unfold swTup at h
  simp only [hb, bne_self_eq_false, Bool.or_false]
  split at h
  · rename_i h1
    cases h
    rw [if_pos h1]
  · rename_i h1
    rw [if_neg h1]
    split at h
    · rename_i h2
      cases h
      rw [if_pos ((e1 _ (by intro x; cases x <;> rfl)).trans h2)]
    · rename_i h2
      rw [if_neg (fun z => h2 ((e1 _ (by intro x; cases x <;> rfl)).symm.trans z))]
      rw [e2 ((ts.head?.map (·.pos.line)).getD 0) _ (by intro x; cases x <;> rfl)]
      split at h
      · rename_i h3
        cases h
        exact if_pos h3
      · rename_i h3
        rw [if_neg h3]
        split at h
        · rename_i h4
          cases h
          exact if_pos h4
        · rename_i h4
          rw [if_neg h4]
          split at h
          · cases h
          · rename_i h5
            cases h
            rw [if_neg h5]
def notComp : Expr → Bool
  | .ListComp .. => false | .SetComp .. => false | .DictComp .. => false | _ => true
def notTup : Expr → Bool
  | .Tuple .. => false | _ => true
/-- a comprehension on the name's own line, the name a local: the stores are exchanged -/
def swC (sc : Scope) (e tg : Expr) : Bool := match e, tg with
  | .ListComp _ _ scope pos, .Name t p => locB sc t && (p.line == pos.line) && !(scope.names.any fun (n, k) => n == t && (k == .local || k == .cell))
  | _, _ => false
theorem swapsWith_not {e : Expr} {tg : Option Expr} {l : Nat} {env : Env} (h : notComp e = true) : swapsWith e tg l env = pure false := by
  cases e <;> first | rfl | cases h
theorem swapsSole_not {e tg : Expr} {l : Nat} {env : Env} (h : notComp e = true) : swapsWithSole [tg] e l env = pure false := swapsWith_not h
/-- what a set's value and target may be: no exchange of stores -/
def setB (sc : Scope) (e tg : Expr) : Bool := match tg with
  | .Name t p => (match e with
    | .ListComp _ _ scope pos => !(locB sc t && (p.line == pos.line) && !(scope.names.any fun (n, k) => n == t && (k == .local || k == .cell)))
    | e => notComp e)
  | .Tuple ts _ _ => (match e with
    | .Tuple vs _ _ => decide (swTup sc ts vs = some none)
    | .ListComp .. => true
    | e => notComp e)
  | _ => false
theorem set_sw {env : Env} {e tg : Expr} {l : Nat} (hk : env.scope.kind = .function) (h : setB env.scope e tg = true) : swapsWithSole [tg] e l env = pure false ∧ swappedStores [tg] e env = pure none := by
  have hb : env.blockKind = .function := by unfold Env.blockKind; rw [hk]; rfl
  cases tg with
  | Name t p =>
    refine ⟨?_, by cases e <;> rfl⟩
    cases e with
    | ListComp elt gs scope pos =>
      have h := not1 (show (!(locB env.scope t && (p.line == pos.line) && !(scope.names.any fun (n, k) => n == t && (k == .local || k == .cell)))) = true from h)
      have e1 : locB env.scope t = (env.kindOf t == some .local) := by
        unfold locB Env.kindOf
        cases e2 : env.scope.names.lookup t with
        | none => rfl
        | some q => cases q <;> rfl
      rw [e1] at h
      show swapsWith (.ListComp elt gs scope pos) (some (.Name t p)) l env = pure false
      unfold swapsWith
      simp only [hb, Expr.pos]
      have hf : ((ScopeKind.function == ScopeKind.function) && (env.kindOf t == some .local) && (p.line == pos.line) && !(scope.names.any fun (n, k) => n == t && (k == .local || k == .cell))) = false := by
        rw [show (ScopeKind.function == ScopeKind.function) = true from rfl, Bool.true_and]; exact h
      first
        | (show pure _ = pure false; exact congrArg pure hf)
        | (rw [hf])
        | (simp only [hf])
    | _ => first | exact swapsSole_not h | cases h
  | Tuple ts k p =>
    cases e with
    | Tuple vs k2 p2 => exact ⟨swapsSole_not rfl, sw_ok hk (of_decide_eq_true h)⟩
    | ListComp elt gs scope pos => exact ⟨rfl, rfl⟩
    | _ => first | exact ⟨swapsSole_not h, rfl⟩ | cases h
  | _ => cases h
end Snd
namespace Snd
open PySem PySem.Spec PyProof.Rows L2
def lineB (e tg : Expr) : Bool := match e, tg with
  | .ListComp _ _ _ pos, .Name _ p => p.line == pos.line
  | _, _ => false
/-- names side by side, all plain locals, on one line: stored from the right -/
def parB (N : List Str) (sc : Scope) (is : List Nat) (ts vs : List Expr) : Bool :=
  namesAt N (locB sc) is ts && decide is.Nodup && vs.all plB && decide (swTup sc ts vs = some (some (is.filterMap fun i => N[i]?)))
def compV : M.Tg → Expr → Bool
  | .v _, .ListComp _ [_] _ _ => true
  | _, _ => false
theorem compV_of {t : M.Tg} {e : Expr} (h : compV t e = true) : ∃ i elt g0 scope p0, t = .v i ∧ e = .ListComp elt [g0] scope p0 := by
  unfold compV at h
  split at h
  · exact ⟨_, _, _, _, _, rfl, rfl⟩
  · cases h
theorem sub_asg {o i : Expr} {pos : Pos} {env : Env} (h : plB i = true) : ∀ v, assign (.Subscript o i pos) env v = (do
      let ov ← holding [v] (eval o env)
      let iv ← holding [v, ov] (eval i env)
      standAt pos
      holding [v, ov, iv] (setItem ov iv v)
      release [v, ov, iv] []) := by
  cases i <;> first | (intro _; rfl) | cases h
def isNilEs : M.Es → Bool
  | .nil => true
  | _ => false
def isVT : M.Tg → Bool
  | .v _ => true
  | _ => false
mutual
def chkS (T : Tb) (N : List Str) : M.St → Scope → Stmt → Bool
  | .set t e => fun sc st => (match st with
    | .Assign [tg] e' _ => (!T.hot || isVT t) && chkTg N (locCB sc) t tg && chkE T N e sc e' && (setB sc e' tg || (compV t e' && swC sc e' tg))
    | _ => false)
  | .par i j a b => fun sc st => (match st with
    | .Assign [.Tuple [x, y] _ _] (.Tuple [a', b'] _ _) _ => !T.hot && parB N sc [i, j] [x, y] [a', b'] && chkE T N a sc a' && chkE T N b sc b'
    | _ => false)
  | .par3 i j l a b d => fun sc st => (match st with
    | .Assign [.Tuple [x, y, z] _ _] (.Tuple [a', b', d'] _ _) _ => !T.hot && parB N sc [i, j, l] [x, y, z] [a', b', d'] && chkE T N a sc a' && chkE T N b sc b' && chkE T N d sc d'
    | _ => false)
  | .nev => fun _ _ => true
  | .six a i e => fun sc st => (match st with
    | .Assign [.Subscript a' i' _] e' _ => plB i' && notComp e' && chkE T N a sc a' && chkE T N i sc i' && chkE T N e sc e'
    | _ => false)
  | .psx a i j e => fun sc st => (match st with
    | .Assign [.Tuple [.Subscript a' i' ps, y] _ _] (.Tuple vs k2 p2) _ => !T.hot && plB i' && nameAt N (locCB sc) j y && decide (swTup sc [.Subscript a' i' ps, y] vs = some none) && chkE T N a sc a' && chkE T N i sc i' && chkE T N e sc (.Tuple vs k2 p2)
    | _ => false)
  | .ex e => fun sc st => (match st with | .Expr e' _ => notComp e' && chkE T N e sc e' | _ => false)
  | .ret e => fun sc st => (match st with | .Return (some e') _ => chkE T N e sc e' | _ => false)
  | .retn => fun sc st => (match st with | .Return none _ => true | _ => false)
  | .if_ g a b => fun sc st => (match st with | .If g' a' b' _ => chkE T N g sc g' && chkSs T N a sc a' && chkSs T N b sc b' | _ => false)
  | .while_ g b => fun sc st => (match st with | .While g' b' [] _ => !T.hot && chkE T N g sc g' && chkSs T N b sc b' | _ => false)
  | .for_ t it b => fun sc st => (match st with | .For tg it' b' [] _ => !T.hot && chkTg N (locCB sc) t tg && noSet it' && chkIt T N it sc it' (isTupB tg) && chkSs T N b sc b' | _ => false)
  | .brk => fun sc st => (match st with | .Break _ => true | _ => false)
  | .pass => fun sc st => (match st with | .Pass _ => true | _ => false)
  | .raise c es => fun sc st => (match st with
    | .Raise (some (.Call (.Name x _) [] [] _)) none _ => !T.hot && isNilEs es && decide (c < T.nr) && decide (T.cls[c]? = some x) && glB sc x && !dbgB x
    | _ => false)
  | .try_ b c i h => fun sc st => (match st with
    | .Try body [.ExceptHandler (some (.Name x _)) (some n) (s0 :: suite) _] [] [] _ => !T.hot && decide (N[i]? = some n) && locB sc n && decide (T.cls[c]? = some x) && glB sc x && !dbgB x && chkSs T N b sc body && chkSs { T with hot := true } N h sc (s0 :: suite)
    | _ => false)
def chkSs (T : Tb) (N : List Str) : M.Ss → Scope → List Stmt → Bool
  | .nil => fun sc st => st.isEmpty
  | .cons s r => fun sc st => (match st with | s' :: r' => chkS T N s sc s' && chkSs T N r sc r' | [] => false)
end
/-- what is wanted of a statement -/
structure OkK (c : Cn) (W : WX) (S : M.Sto) (H : Hp) (Kd : M.Kt) (D : Ends) : Prop where
  nx : ∀ ρ' S' σ' H', Fr S H S' H' → RelS c.K H' S' → RelE c.K H' ρ' σ' → ρ'.length = σ'.length → Kd.nx ρ' S' → D.nx σ' H'
  rt : OkV c.K S H Kd.rt D.rt
  bk : ∀ ρ' S' σ' H', Fr S H S' H' → RelS c.K H' S' → RelE c.K H' ρ' σ' → ρ'.length = σ'.length → Kd.bk ρ' S' → D.bk σ' H'
  xe : ∀ k fs ρ' S' σ' H' cls d, Fr S H S' H' → RelS c.K H' S' → RelE c.K H' ρ' σ' → ρ'.length = σ'.length → RelX c.K c.mg c.T k fs cls d H' → Kd.xe k fs ρ' S' → W cls d σ' H'
theorem OkK.after {c : Cn} {W : WX} {S S' : M.Sto} {H H' : Hp} {Kd : M.Kt} {D : Ends} (h : OkK c W S H Kd D) (f : Fr S H S' H') : OkK c W S' H' Kd D :=
  ⟨fun _ _ _ _ f2 => h.nx _ _ _ _ (f.trans f2), h.rt.after f, fun _ _ _ _ f2 => h.bk _ _ _ _ (f.trans f2), fun _ _ _ _ _ _ _ _ f2 => h.xe _ _ _ _ _ _ _ _ (f.trans f2)⟩
theorem OkK.ox {c : Cn} {W : WX} {S : M.Sto} {H : Hp} {Kd : M.Kt} {D : Ends} (h : OkK c W S H Kd D) {ρ : M.Env} {σ : Sl} (re : RelE c.K H ρ σ) (hl : ρ.length = σ.length) (r : RelS c.K H S) :
    OkX c S H (fun k fs S1 => Kd.xe k fs ρ S1) fun cls d H' => W cls d σ H' := fun k fs S' H' cls d f r' rx q => h.xe k fs ρ S' σ H' cls d f r' (re.mono r f) hl rx q
def tS (c : Cn) (W : WX) (st : M.St) : TS := fun D σ H => ∃ ρ S Kd, ρ.length = σ.length ∧ RelE c.K H ρ σ ∧ RelS c.K H S ∧ M.wpS c.G st ρ S Kd ∧ OkK c W S H Kd D
def tSs (c : Cn) (W : WX) (st : M.Ss) : TS := fun D σ H => ∃ ρ S Kd, ρ.length = σ.length ∧ RelE c.K H ρ σ ∧ RelS c.K H S ∧ M.wpSs c.G st ρ S Kd ∧ OkK c W S H Kd D
theorem PS.imp {X : Cx} {e : Stmt} {t t' : TS} (h : PS X e t) (i : ∀ D σ H, t' D σ H → t D σ H) : PS X e t' := ⟨fun pins s σ H D I q => h.run pins s σ H D I (i D σ H q)⟩
theorem PSs.imp {X : Cx} {e : List Stmt} {t t' : TS} (h : PSs X e t) (i : ∀ D σ H, t' D σ H → t D σ H) : PSs X e t' := ⟨fun pins s σ H D I q => h.run pins s σ H D I (i D σ H q)⟩
/-- a def's body's context -/
structure OkS (c : Cn) (k : Nat) (N : List Str) (sc : Scope) (X : Cx) (W : WX) : Prop where
  ok : Ok c k N sc X W
  kind : sc.kind = .function
  fn : ∀ x, X.fn x = true
  po : c.T.hot = false → PassesOwn (model X.prog X.w) X.A X.env X.xe
  stk : X.stack = X.env :: X.outer
  frm : X.env.frame = some X.env.locals
  exn : X.ex = []
section
variable {k : Nat} {N : List Str}
theorem tgt_of {c : Cn} {sc : Scope} {X : Cx} {W : WX} (o : OkS c k N sc X W) {t : M.Tg} {tg : Expr} (hv : (!c.T.hot || isVT t) = true) (h : chkTg N (locCB sc) t tg = true) : PG X tg (tgG c.K t) := by
  have q := pgOk (X := X) (t := t) (e := tg) (ok := locCB sc) (fun hn => o.ok.calm' (by
    rcases Bool.or_eq_true_iff.mp hv with z | z
    · exact z
    · cases t with
      | v i => exact absurd rfl (hn i)
      | tup _ => cases z)) (by rw [o.ok.eN]; exact o.ok.nd) (fun x hx => by rw [o.ok.es]; exact ⟨locC_of hx, .inl (o.fn x)⟩) (by rw [o.ok.eN]; exact h)
  rw [o.ok.eK] at q
  exact q
theorem asg_ok {c : Cn} {W : WX} {e : M.Ex} {t : M.Tg} {D : Ends} {σ : Sl} {H : Hp} (h : tS c W (.set t e) D σ H) : tAsg (tE c W e) (tgG c.K t) D σ H := by
  obtain ⟨ρ, S, Kd, hl, re, r, w, ok⟩ := h
  refine one_rel hl re r w (ok.ox re hl r) fun x S2 v H2 f r2 rx q => ?_
  exact asg_rel r2 hl (re.mono r f) rx q fun ρ' σ' l1 l2 re' _ q => ok.nx _ _ _ _ f r2 re' l1 q
theorem name3 {N : List Str} {ok : Str → Bool} {i : Nat} {e : Expr} (h : nameAt N ok i e = true) : ∃ x p, e = .Name x p ∧ N[i]? = some x ∧ ok x = true := by
  obtain ⟨x, p, a, b, d, _⟩ := name_of h
  exact ⟨x, p, a, b, d⟩
mutual
theorem psOk : ∀ (st : M.St) {c : Cn} {sc : Scope} {ex : Stmt} {X : Cx} {W : WX}, chkS c.T N st sc ex = true → OkS c k N sc X W → PS X ex (tS c W st)
  | .set t e, c, sc, ex, X, W, h, o => by
    have h : (match (generalizing := false) ex with
      | .Assign [tg] e' _ => (!c.T.hot || isVT t) && chkTg N (locCB sc) t tg && chkE c.T N e sc e' && (setB sc e' tg || (compV t e' && swC sc e' tg))
      | _ => false) = true := h
    split at h
    · rename_i tg e' pos hh
      obtain ⟨h, h3⟩ := and2 h
      obtain ⟨h, h2⟩ := and2 h
      obtain ⟨hvt, h1⟩ := and2 h
      rcases Bool.or_eq_true_iff.mp h3 with h3 | h3
      · obtain ⟨w1, w2⟩ := set_sw (env := X.env) (l := pos.line) (by rw [o.ok.es]; exact o.kind) (by rw [o.ok.es]; exact h3)
        exact PS.imp (ps_asg (peOk e h2 o.ok).1 (tgt_of o hvt h1) w1 w2 (by cases tg <;> first | rfl | cases h1 | (cases t <;> cases h1))) fun D σ H h => asg_ok h
      · obtain ⟨hv, h3⟩ := and2 h3
        · obtain ⟨i, elt, g0, scope, p0, rfl, rfl⟩ := compV_of hv
          cases e with
          | comp e0 t0 it oc =>
            have h2 : (match (generalizing := false) Expr.ListComp elt [g0] scope p0 with
              | .ListComp e' [⟨tg, it', ifs, k⟩] scope _ => !c.T.hot && decide (k = 0) && blkC N sc scope (ownOf N (M.tgs t0)) && decide ((ownOf N (M.tgs t0)).map (·.2) = M.tgs t0) && decide (M.tgs t0).Nodup && noSet it' && chkIt c.T N it sc it' (isTupB tg) && chkTg N (tgB scope sc) t0 tg
                  && (match ifs with | [] => chkO c.T N oc (relS scope sc) none | [d] => chkO c.T N oc (relS scope sc) (some d) | _ => false) && chkE c.T N e0 (relS scope sc) e'
              | _ => false) = true := h2
            obtain ⟨tg0, it', ifs, k0⟩ := g0
            obtain ⟨h, g9⟩ := and2 h2
            obtain ⟨h, g8⟩ := and2 h
            obtain ⟨h, g7⟩ := and2 h
            obtain ⟨h, g6⟩ := and2 h
            obtain ⟨h, g5⟩ := and2 h
            obtain ⟨h, g4⟩ := and2 h
            obtain ⟨h, g3⟩ := and2 h
            obtain ⟨h, g2⟩ := and2 h
            obtain ⟨hcal, g1⟩ := and2 h
            have e0' := of_decide_eq_true g1
            subst e0'
            have eo : (ownOf N (M.tgs t0)).map (·.2) = M.tgs t0 := of_decide_eq_true g3
            obtain ⟨y, py, rfl, a1, a2⟩ := name3 (show nameAt N (locCB sc) i tg = true from h1)
            obtain ⟨b, b3⟩ := and2 (show (locB sc y && (py.line == p0.line) && !(scope.names.any fun (n, k) => n == y && (k == .local || k == .cell))) = true from h3)
            obtain ⟨b1, b2⟩ := and2 b
            have hy : X.env.scope.names.lookup y = some .local := by rw [o.ok.es]; exact loc_of b1
            have hpe : PS X (.Assign [.Name y py] (.ListComp elt [⟨tg0, it', ifs, 0⟩] scope p0) pos) (tAsg (tLc (tIt c W it) (tgG c.K t0) (tCn c oc) (tE c W0 e0) ((ownOf N (M.tgs t0)).map (·.2))) (gName i)) := by
              refine ps_setLc (o.ok.calm' hcal) (by rw [o.ok.eN]; exact o.ok.nd) (o.ok.var a1) hy (sw_true (by rw [o.ok.es]; exact o.kind) hy b2 (not1 b3)) (piOk it g6 o.ok) (by rw [o.ok.eN, o.ok.es]; exact blkOk_by g2) (fun s H C cl fp => ?_) (fun s H C cl fp => ?_) (fun s H C cl fp => ?_) (folded_of g5)
              · have ob := o.ok.blk s H scope C cl fp
                have q := pgOk (X := X.blk s H scope (compEnvC scope cl C X.env) fp) (t := t0) (e := tg0) (ok := tgB scope sc) (fun _ => ob.calm' hcal) (by rw [ob.eN]; exact ob.nd) (fun x hx => by rw [ob.es]; exact tgB_of hx) (by rw [ob.eN]; exact g7)
                rw [ob.eK] at q
                exact q
              · have ob := o.ok.blk s H scope C cl fp
                split at g8
                · exact (poOk oc g8 ob).2
                · exact (poOk oc g8 ob).2
                · cases g8
              · exact (peOk e0 g9 (o.ok.blk s H scope C cl fp)).1
            refine PS.imp hpe fun D σ H h => ?_
            obtain ⟨ρ, S, Kd, hl, re, r, w, ok⟩ := h
            refine ⟨ρ, S, _, _, hl, re, r, w, fun items chk S1 H1 J f1 r1 m q => ?_, ok.ox re hl r⟩
            rw [eo]
            refine comp_rel (Q := fun x H1 => gName i x σ H1 D.nx) hl (re.mono r f1) r1 m q.1 (fun d S2 v H2 f2 r2 rx q => ?_) q.2
            exact asg_rel r2 (t := .v i) hl ((re.mono r f1).mono r1 f2) rx q fun ρ' σ' l1 l2 re' _ q => ok.nx _ _ _ _ (f1.trans f2) r2 re' l1 q
          | _ => first | cases h2 | exact absurd h2 (by simp [chkE, nameAt, biCall])
    · cases h
  | .par i j a b, c, sc, ex, X, W, h, o => by
    have h : (match (generalizing := false) ex with
      | .Assign [.Tuple [x, y] _ _] (.Tuple [a', b'] _ _) _ => !c.T.hot && parB N sc [i, j] [x, y] [a', b'] && chkE c.T N a sc a' && chkE c.T N b sc b'
      | _ => false) = true := h
    split at h
    · rename_i x y kt pt a' b' k2 pt2 pos hh
      obtain ⟨h, h3⟩ := and2 h
      obtain ⟨h, h2⟩ := and2 h
      obtain ⟨hcal, h1⟩ := and2 h
      obtain ⟨g, g4⟩ := and2 h1
      obtain ⟨g, g3⟩ := and2 g
      obtain ⟨g1, g2⟩ := and2 g
      obtain ⟨n1, n2⟩ := and2 (show (nameAt N (locB sc) i x && namesAt N (locB sc) [j] [y]) = true from g1)
      obtain ⟨n2, _⟩ := and2 (show (nameAt N (locB sc) j y && namesAt N (locB sc) [] []) = true from n2)
      obtain ⟨x, px, rfl, ix, lx⟩ := name3 n1
      obtain ⟨y, py, rfl, iy, ly⟩ := name3 n2
      obtain ⟨p1, p2⟩ := and2 (show (plB a' && [b'].all plB) = true from g3)
      obtain ⟨p2, _⟩ := and2 (show (plB b' && [].all plB) = true from p2)
      have hne : i ≠ j := fun e => by
        have nd : [i, j].Nodup := of_decide_eq_true g2
        subst e
        simp at nd
      have hw := sw_ok (env := X.env) (k := kt) (p := pt) (k2 := k2) (p2 := pt2) (by rw [o.ok.es]; exact o.kind) (by rw [o.ok.es]; exact of_decide_eq_true g4)
      have en : ([i, j].filterMap fun i => N[i]?) = [x, y] := by
        rw [List.filterMap_cons_some ix, List.filterMap_cons_some iy]; rfl
      rw [en] at hw
      refine PS.imp (ps_par (o.ok.calm' hcal) (by rw [o.ok.eN]; exact o.ok.nd) (o.ok.var ix) (o.ok.var iy) hne (by rw [o.ok.es]; exact loc_of lx) (by rw [o.ok.es]; exact loc_of ly) (pa_cons (peOk a h2 o.ok).1 (pa_cons (peOk b h3 o.ok).1 pa_nil (plB_star p2)) (plB_star p1)) hw (swapsSole_not rfl)) fun D σ H h => ?_
      obtain ⟨ρ, S, Kd, hl, re, r, w, ok⟩ := h
      refine two_rel hl re r w (ok.ox re hl r) fun x y S2 v u H2 f r2 rx ry q => ⟨v, u, rfl, ok.nx _ _ _ _ f r2 ?_ (by simp [hl]) q⟩
      have re2 := re.mono r f
      exact (re2.set hl rx i).set (by simp [hl]) ry j
    · cases h
  | .par3 i j l a b d, c, sc, ex, X, W, h, o => by
    have h : (match (generalizing := false) ex with
      | .Assign [.Tuple [x, y, z] _ _] (.Tuple [a', b', d'] _ _) _ => !c.T.hot && parB N sc [i, j, l] [x, y, z] [a', b', d'] && chkE c.T N a sc a' && chkE c.T N b sc b' && chkE c.T N d sc d'
      | _ => false) = true := h
    split at h
    · rename_i x y z kt pt a' b' d' k2 pt2 pos hh
      obtain ⟨h, h4⟩ := and2 h
      obtain ⟨h, h3⟩ := and2 h
      obtain ⟨h, h2⟩ := and2 h
      obtain ⟨hcal, h1⟩ := and2 h
      obtain ⟨g, g4⟩ := and2 h1
      obtain ⟨g, g3⟩ := and2 g
      obtain ⟨g1, g2⟩ := and2 g
      obtain ⟨n1, n2⟩ := and2 (show (nameAt N (locB sc) i x && namesAt N (locB sc) [j, l] [y, z]) = true from g1)
      obtain ⟨n2, n3⟩ := and2 (show (nameAt N (locB sc) j y && namesAt N (locB sc) [l] [z]) = true from n2)
      obtain ⟨n3, _⟩ := and2 (show (nameAt N (locB sc) l z && namesAt N (locB sc) [] []) = true from n3)
      obtain ⟨x, px, rfl, ix, lx⟩ := name3 n1
      obtain ⟨y, py, rfl, iy, ly⟩ := name3 n2
      obtain ⟨z, pz, rfl, iz, lz⟩ := name3 n3
      obtain ⟨p1, p2⟩ := and2 (show (plB a' && [b', d'].all plB) = true from g3)
      obtain ⟨p2, p3⟩ := and2 (show (plB b' && [d'].all plB) = true from p2)
      obtain ⟨p3, _⟩ := and2 (show (plB d' && [].all plB) = true from p3)
      have nd : [i, j, l].Nodup := of_decide_eq_true g2
      have hw := sw_ok (env := X.env) (k := kt) (p := pt) (k2 := k2) (p2 := pt2) (by rw [o.ok.es]; exact o.kind) (by rw [o.ok.es]; exact of_decide_eq_true g4)
      have en : ([i, j, l].filterMap fun i => N[i]?) = [x, y, z] := by
        rw [List.filterMap_cons_some ix, List.filterMap_cons_some iy, List.filterMap_cons_some iz]; rfl
      rw [en] at hw
      refine PS.imp (ps_par3 (o.ok.calm' hcal) (by rw [o.ok.eN]; exact o.ok.nd) (o.ok.var ix) (o.ok.var iy) (o.ok.var iz) (fun e => by subst e; simp at nd) (fun e => by subst e; simp at nd) (fun e => by subst e; simp at nd) (by rw [o.ok.es]; exact loc_of lx) (by rw [o.ok.es]; exact loc_of ly) (by rw [o.ok.es]; exact loc_of lz)
        (pa_cons (peOk a h2 o.ok).1 (pa_cons (peOk b h3 o.ok).1 (pa_cons (peOk d h4 o.ok).1 pa_nil (plB_star p3)) (plB_star p2)) (plB_star p1)) hw (swapsSole_not rfl)) fun D σ H h => ?_
      obtain ⟨ρ, S, Kd, hl, re, r, w, ok⟩ := h
      refine ⟨ρ, S, _, _, hl, re, r, w, fun x S1 v H1 f1 r1 rx q1 => ⟨ρ, S1, _, _, hl, re.mono r f1, r1, q1, fun y S2 u H2 f2 r2 ry q2 => ⟨ρ, S2, _, _, hl, re.mono r (f1.trans f2), r2, q2, fun z S3 w' H3 f3 r3 rz q3 => ?_, (ok.after (f1.trans f2)).ox (re.mono r (f1.trans f2)) hl r2⟩, (ok.after f1).ox (re.mono r f1) hl r1⟩, ok.ox re hl r⟩
      have ff := (f1.trans f2).trans f3
      refine ⟨v, u, w', rfl, ok.nx _ _ _ _ ff r3 ?_ (by simp [hl]) q3⟩
      exact (((re.mono r ff).set hl ((rx.mono r1 f2).mono r2 f3) i).set (by simp [hl]) (ry.mono r2 f3) j).set (by simp [hl]) rz l
    · cases h
  | .nev, c, sc, ex, X, W, h, o => PS.imp ps_never fun D σ H ⟨ρ, S, Kd, hl, re, r, w, ok⟩ => w
  | .six a i e, c, sc, ex, X, W, h, o => by
    have h : (match (generalizing := false) ex with
      | .Assign [.Subscript a' i' _] e' _ => plB i' && notComp e' && chkE c.T N a sc a' && chkE c.T N i sc i' && chkE c.T N e sc e'
      | _ => false) = true := h
    split at h
    · obtain ⟨h, h5⟩ := and2 h
      obtain ⟨h, h4⟩ := and2 h
      obtain ⟨h, h3⟩ := and2 h
      obtain ⟨h1, h2⟩ := and2 h
      have eK := o.ok.eK
      have hset : PSet X (tSx c.K) := by rw [← eK]; exact set_listM
      refine PS.imp (ps_asg (peOk e h5 o.ok).1 (pg_sub (peOk a h3 o.ok).1 (peOk i h4 o.ok).1 hset (sub_asg h1)) (swapsSole_not h2)) fun D σ H h => ?_
      obtain ⟨ρ, S, Kd, hl, re, r, w, ok⟩ := h
      refine ⟨ρ, S, _, _, hl, re, r, w, fun z S1 v H1 f1 r1 rz q1 => ⟨ρ, S1, _, _, hl, re.mono r f1, r1, q1, fun x S2 u H2 f2 r2 rx q2 => ⟨ρ, S2, _, _, hl, re.mono r (f1.trans f2), r2, q2, fun y S3 w' H3 f3 r3 ry q3 => ?_, (ok.after (f1.trans f2)).ox (re.mono r (f1.trans f2)) hl r2⟩, (ok.after f1).ox (re.mono r f1) hl r1⟩, ok.ox re hl r⟩
      refine ⟨x, y, z, S3, _, r3, rx.mono r2 f3, ry, (rz.mono r1 f2).mono r2 f3, q3, fun S4 H4 f4 r4 q4 => ?_⟩
      have ff := ((f1.trans f2).trans f3).trans f4
      exact ok.nx _ _ _ _ ff r4 (re.mono r ff) hl q4
    · cases h
  | .psx a i j e, c, sc, ex, X, W, h, o => by
    have h : (match (generalizing := false) ex with
      | .Assign [.Tuple [.Subscript a' i' ps, y] _ _] (.Tuple vs k2 p2) _ => !c.T.hot && plB i' && nameAt N (locCB sc) j y && decide (swTup sc [.Subscript a' i' ps, y] vs = some none) && chkE c.T N a sc a' && chkE c.T N i sc i' && chkE c.T N e sc (.Tuple vs k2 p2)
      | _ => false) = true := h
    split at h
    · rename_i a' i' ps y kt pt vs k2 p2 pos hh
      obtain ⟨h, h7⟩ := and2 h
      obtain ⟨h, h6⟩ := and2 h
      obtain ⟨h, h5⟩ := and2 h
      obtain ⟨h, h4⟩ := and2 h
      obtain ⟨h, h3⟩ := and2 h
      obtain ⟨hcal, h1⟩ := and2 h
      obtain ⟨y, py, rfl, iy, ly⟩ := name3 h3
      have eK := o.ok.eK
      have hset : PSet X (tSx c.K) := by rw [← eK]; exact set_listM
      have hw := sw_ok (env := X.env) (k := kt) (p := pt) (k2 := k2) (p2 := p2) (ts := [.Subscript a' i' ps, .Name y py]) (vs := vs) (r := none) (by rw [o.ok.es]; exact o.kind) (by rw [o.ok.es]; exact of_decide_eq_true h4)
      have cal := o.ok.calm' hcal
      have nn : PG X (.Name y py) (gName j) := pg_name (by rw [o.ok.eN]; exact o.ok.nd) (o.ok.var iy) (by rw [o.ok.es]; exact locC_of ly) (.inl (o.fn y))
      refine PS.imp (ps_asg (peOk e h7 o.ok).1 (pg_tup cal (pgs_cons (pg_sub (peOk a h5 o.ok).1 (peOk i h6 o.ok).1 hset (sub_asg h1)) (pgs_cons nn pgs_nil))) (swapsSole_not rfl) hw) fun D σ H h => ?_
      obtain ⟨ρ, S, Kd, hl, re, r, w, ok⟩ := h
      refine one_rel hl re r w (ok.ox re hl r) fun dv S1 v H1 f1 r1 rv q => ?_
      obtain ⟨x, y, rfl, q⟩ : ∃ x y, dv = .tup [x, y] ∧ M.wpE c.G a ρ S1 (fun o S2 => M.wpE c.G i ρ S2 (fun z S3 => M.sixD o z x S3 fun S4 => Kd.nx (ρ.set j (some y)) S4) (fun c fs S3 => Kd.xe c fs ρ S3)) (fun c fs S2 => Kd.xe c fs ρ S2) := by
        unfold M.onP at q
        split at q
        · exact ⟨_, _, rfl, q⟩
        · exact False.elim q
      cases rv with
      | tup g1 g2 =>
        cases g2 with
        | cons gx g2 =>
          cases g2 with
          | cons gy g2 =>
            cases g2
            refine ⟨_, _, rfl, by rw [eK]; exact g1, rfl, _, _, rfl, ?_⟩
            have re1 := re.mono r f1
            refine ⟨ρ, S1, _, _, hl, re1, r1, q, fun o' S2 u H2 f2 r2 rx q2 => ⟨ρ, S2, _, _, hl, re1.mono r1 f2, r2, q2, fun z' S3 w' H3 f3 r3 ry q3 => ?_, (ok.after (f1.trans f2)).ox (re.mono r (f1.trans f2)) hl r2⟩, (ok.after f1).ox re1 hl r1⟩
            refine ⟨o', z', x, S3, _, r3, rx.mono r2 f3, ry, (gx.mono r1 f2).mono r2 f3, q3, fun S4 H4 f4 r4 q4 => ?_⟩
            have ff := ((f1.trans f2).trans f3).trans f4
            exact ⟨_, _, rfl, rfl, ok.nx _ _ _ _ ff r4 ((re.mono r ff).set hl (((gy.mono r1 f2).mono r2 f3).mono r3 f4) j) (by simp [hl]) q4⟩
    · cases h
  | .ex e, c, sc, ex, X, W, h, o => by
    have h : (match (generalizing := false) ex with | .Expr e' _ => notComp e' && chkE c.T N e sc e' | _ => false) = true := h
    split at h
    · obtain ⟨h1, h2⟩ := and2 h
      refine PS.imp (ps_expr (peOk e h2 o.ok).1 (swapsWith_not h1)) fun D σ H ⟨ρ, S, Kd, hl, re, r, w, ok⟩ => ?_
      exact one_rel hl re r w (ok.ox re hl r) fun x S2 v H2 f r2 rx q => ok.nx _ _ _ _ f r2 (re.mono r f) hl q
    · cases h
  | .ret e, c, sc, ex, X, W, h, o => by
    have h : (match (generalizing := false) ex with | .Return (some e') _ => chkE c.T N e sc e' | _ => false) = true := h
    split at h
    · exact PS.imp (ps_ret (peOk e h o.ok).1) fun D σ H ⟨ρ, S, Kd, hl, re, r, w, ok⟩ => ⟨ρ, S, _, _, hl, re, r, w, ok.rt, ok.ox re hl r⟩
    · cases h
  | .retn, c, sc, ex, X, W, h, o => by
    have h : (match (generalizing := false) ex with | .Return none _ => true | _ => false) = true := h
    split at h
    · exact PS.imp ps_retN fun D σ H ⟨ρ, S, Kd, hl, re, r, w, ok⟩ => ok.rt.same r .non w
    · cases h
  | .if_ g a b, c, sc, ex, X, W, h, o => by
    have h : (match (generalizing := false) ex with | .If g' a' b' _ => chkE c.T N g sc g' && chkSs c.T N a sc a' && chkSs c.T N b sc b' | _ => false) = true := h
    split at h
    · obtain ⟨h, h3⟩ := and2 h
      obtain ⟨h1, h2⟩ := and2 h
      refine PS.imp (ps_if (peOk g h1 o.ok).2 (pssOk a h2 o) (pssOk b h3 o)) fun D σ H ⟨ρ, S, Kd, hl, re, r, w, ok⟩ => ?_
      exact one_rel hl re r w (ok.ox re hl r) fun x S2 v H2 f r2 rx q => by
        obtain ⟨kb, rfl, qt, qf⟩ := onB_of q
        cases rx
        refine ⟨kb, rfl, ?_⟩
        cases kb with
        | true => show if true = true then _ else _; rw [if_pos rfl]; exact ⟨ρ, S2, Kd, hl, re.mono r f, r2, qt rfl, ok.after f⟩
        | false => show if false = true then _ else _; rw [if_neg Bool.false_ne_true]; exact ⟨ρ, S2, Kd, hl, re.mono r f, r2, qf rfl, ok.after f⟩
    · cases h
  | .while_ g b, c, sc, ex, X, W, h, o => by
    have h : (match (generalizing := false) ex with | .While g' b' [] _ => !c.T.hot && chkE c.T N g sc g' && chkSs c.T N b sc b' | _ => false) = true := h
    split at h
    · obtain ⟨h, h2⟩ := and2 h
      obtain ⟨hcal, h1⟩ := and2 h
      refine PS.imp (ps_while (o.po (not1 hcal)) (peOk g h1 o.ok).2 (pssOk b h2 o)) fun D σ H ⟨ρ, S, Kd, hl, re, r, w, ok⟩ => ?_
      obtain ⟨n, w⟩ := (show ∃ n, M.whileN (fun ρ1 S1 nx => M.wpE c.G g ρ1 S1 (fun x S2 => M.onB x fun k => M.br k (M.wpSs c.G b ρ1 S2 { Kd with nx := nx, bk := Kd.nx }) (Kd.nx ρ1 S2)) (fun c fs S2 => Kd.xe c fs ρ1 S2)) n ρ S from w)
      refine ⟨fun m σ' H' => ∃ ρ' S', ρ'.length = σ'.length ∧ RelE c.K H' ρ' σ' ∧ RelS c.K H' S' ∧ Fr S H S' H' ∧ M.whileN (fun ρ1 S1 nx => M.wpE c.G g ρ1 S1 (fun x S2 => M.onB x fun k => M.br k (M.wpSs c.G b ρ1 S2 { Kd with nx := nx, bk := Kd.nx }) (Kd.nx ρ1 S2)) (fun c fs S2 => Kd.xe c fs ρ1 S2)) m ρ' S', ⟨n, ρ, S, hl, re, r, Fr.refl, w⟩, ?_⟩
      rintro m σ1 H1 ⟨ρ1, S1, hl1, re1, r1, f1, w1⟩
      cases m with
      | zero => exact False.elim w1
      | succ m =>
        refine one_rel hl1 re1 r1 w1 ((ok.after f1).ox re1 hl1 r1) fun x S2 v H2 f r2 rx q => ?_
        obtain ⟨kb, rfl, qt, qf⟩ := onB_of q
        cases rx
        refine ⟨kb, rfl, ?_⟩
        have f12 := f1.trans f
        have ok2 := ok.after f12
        cases kb with
        | true =>
          show if true = true then _ else _
          rw [if_pos rfl]
          refine ⟨_, fun σ' H' q => ⟨m, Nat.lt_succ_self m, q⟩, ρ1, S2, _, hl1, re1.mono r1 f, r2, qt rfl, ?_⟩
          exact ⟨fun ρ' S' σ' H' f' r' re' l' q => ⟨ρ', S', l', re', r', f12.trans f', q⟩, ok2.rt, fun ρ' S' σ' H' f' r' re' l' q => ok2.nx ρ' S' σ' H' f' r' re' l' q, ok2.xe⟩
        | false =>
          show if false = true then _ else _
          rw [if_neg Bool.false_ne_true]
          exact ok2.nx _ _ _ _ Fr.refl r2 (re1.mono r1 f) hl1 (qf rfl)
    · cases h
  | .for_ t it b, c, sc, ex, X, W, h, o => by
    have h : (match (generalizing := false) ex with | .For tg it' b' [] _ => !c.T.hot && chkTg N (locCB sc) t tg && noSet it' && chkIt c.T N it sc it' (isTupB tg) && chkSs c.T N b sc b' | _ => false) = true := h
    split at h
    · obtain ⟨h, h4⟩ := and2 h
      obtain ⟨h, h3⟩ := and2 h
      obtain ⟨h, h2⟩ := and2 h
      obtain ⟨hcal, h1⟩ := and2 h
      refine PS.imp (ps_for (o.po (not1 hcal)) (o.ok.calm' hcal) (piOk it h3 o.ok) (tgt_of o (by rw [hcal]; rfl) h1) (pssOk b h4 o) (folded_of h2)) fun D σ H ⟨ρ, S, Kd, hl, re, r, w, ok⟩ => ?_
      refine ⟨ρ, S, _, _, hl, re, r, w, fun items chk S1 H1 J f1 r1 m w => ?_, ok.ox re hl r⟩
      let stp := fun (d : M.D) (ρ1 : M.Env) (S2 : M.Sto) (nx : M.Env → M.Sto → Prop) => M.asg t d S2 ρ1 fun ρ2 => M.wpSs c.G b ρ2 S2 { Kd with nx := nx, bk := Kd.nx }
      refine ⟨fun i m σ' H' => m = items.length - i ∧ i ≤ items.length ∧ ∃ ρ' S', ρ'.length = σ'.length ∧ RelE c.K H' ρ' σ' ∧ RelS c.K H' S' ∧ Fr S1 H1 S' H' ∧ M.forW chk stp Kd.nx (items.drop i) ρ' S', ⟨_, rfl, Nat.zero_le _, ρ, S1, hl, re.mono r f1, r1, Fr.refl, w⟩, ?_⟩
      rintro i m' σ2 H2 ⟨rfl, hi, ρ2, S2, hl2, re2, r2, f2, w2⟩
      by_cases hlt : i < items.length
      · obtain ⟨d, hd⟩ : ∃ d, items[i]? = some d := ⟨items[i], by simp [hlt]⟩
        have ed : items.drop i = d :: items.drop (i + 1) := by
          rw [List.drop_eq_getElem_cons hlt]
          have : items[i] = d := by simpa [hlt] using hd
          rw [this]
        rw [ed] at w2
        obtain ⟨hch, w2⟩ := (show chk S2 ∧ stp d ρ2 S2 (M.forW chk stp Kd.nx (items.drop (i + 1))) from w2)
        obtain ⟨hgo, hy⟩ := (m i S2 H2 f2 r2 hch).1 d hd
        refine .inr ⟨hgo, _, fun σ' H' q => ⟨items.length - (i + 1), by omega, q⟩, fun x H3 y => ?_⟩
        obtain ⟨f3, r3, rx⟩ := hy x H3 y
        have f23 := f2.trans f3
        refine asg_rel r3 hl2 (re2.mono r2 f3) rx w2 fun ρ' σ' l1 l2 re' _ w3 => ⟨ρ', S2, _, l1, re', r3, w3, ?_⟩
        have ok3 := ok.after (f1.trans f23)
        exact ⟨fun ρ4 S4 σ4 H4 f4 r4 re4 l4 q => ⟨rfl, hlt, ρ4, S4, l4, re4, r4, f23.trans f4, q⟩, ok3.rt, fun ρ' S' σ' H' f' r' re' l' q => ok3.nx ρ' S' σ' H' f' r' re' l' q, ok3.xe⟩
      · have e : i = items.length := by omega
        subst e
        rw [List.drop_length] at w2
        obtain ⟨hch, w2⟩ := (show chk S2 ∧ Kd.nx ρ2 S2 from w2)
        exact .inl ⟨(m _ S2 H2 f2 r2 hch).2 rfl, ok.nx _ _ _ _ (f1.trans f2) r2 re2 hl2 w2⟩
    · cases h
  | .brk, c, sc, ex, X, W, h, o => by
    have h : (match (generalizing := false) ex with | .Break _ => true | _ => false) = true := h
    split at h
    · exact PS.imp ps_break fun D σ H ⟨ρ, S, Kd, hl, re, r, w, ok⟩ => ok.bk _ _ _ _ Fr.refl r re hl w
    · cases h
  | .pass, c, sc, ex, X, W, h, o => by
    have h : (match (generalizing := false) ex with | .Pass _ => true | _ => false) = true := h
    split at h
    · exact PS.imp ps_pass fun D σ H ⟨ρ, S, Kd, hl, re, r, w, ok⟩ => ok.nx _ _ _ _ Fr.refl r re hl w
    · cases h
  | .raise cc es, c, sc, ex, X, W, h, o => by
    have h : (match (generalizing := false) ex with
      | .Raise (some (.Call (.Name x _) [] [] _)) none _ => !c.T.hot && isNilEs es && decide (cc < c.T.nr) && decide (c.T.cls[cc]? = some x) && glB sc x && !dbgB x
      | _ => false) = true := h
    split at h
    · rename_i x p q r hh
      obtain ⟨h, h5⟩ := and2 h
      obtain ⟨h, h4⟩ := and2 h
      obtain ⟨h, h3⟩ := and2 h
      obtain ⟨h, hnr⟩ := and2 h
      obtain ⟨h1, h2⟩ := and2 h
      have h3 := of_decide_eq_true h3
      have hnr := of_decide_eq_true hnr
      obtain ⟨C, m, a, _⟩ := o.ok.er.at_ cc x h3
      have a := a hnr
      have E := o.ok.er.ok cc C a
      have hr : Raises X (.ref C) := raises_own (by rw [o.ok.eK]; exact E.sb) (by rw [o.ok.eK]; exact E.ty)
      have mk := pmk_own0 (X := X) (p := p) (pos := q) PySem.F.excBase_ValueError (by rw [o.ok.eK]; exact E.ex) (by rw [o.ok.em]; exact m) (by rw [o.ok.eK]; exact E.kp) hr (o.ok.gl h4) (dbg_of h5).1
      refine PS.imp (ps_raise (o.ok.calm' h1) o.ok.tk mk) fun D σ H ⟨ρ, S, Kd, hl, re, r, w, ok⟩ => ?_
      cases es with
      | nil => exact ok.xe cc [] ρ S σ H (.ref C) none Fr.refl r re hl ⟨rfl, rfl, hnr, x, C, h3, m, rfl⟩ w
      | _ => cases h2
    · cases h
  | .try_ b cc i hd, c, sc, ex, X, W, h, o => by
    have h : (match (generalizing := false) ex with
      | .Try body [.ExceptHandler (some (.Name x _)) (some n) (s0 :: suite) _] [] [] _ => !c.T.hot && decide (N[i]? = some n) && locB sc n && decide (c.T.cls[cc]? = some x) && glB sc x && !dbgB x && chkSs c.T N b sc body && chkSs c.h.T N hd sc (s0 :: suite)
      | _ => false) = true := h
    split at h
    · rename_i body x np n s0 suite pos' pos hh
      obtain ⟨h, h8⟩ := and2 h
      obtain ⟨h, h7⟩ := and2 h
      obtain ⟨h, h6⟩ := and2 h
      obtain ⟨h, h5⟩ := and2 h
      obtain ⟨h, h4⟩ := and2 h
      obtain ⟨h, h3⟩ := and2 h
      obtain ⟨h1, h2⟩ := and2 h
      have h2 := of_decide_eq_true h2
      have h4 := of_decide_eq_true h4
      have h1 := not1 h1
      obtain ⟨Cc, mc, _, ac⟩ := o.ok.er.at_ cc x h4
      have ok0 := o.ok
      have htr : ∀ (W' : WX) (pn : List (Addr × Obj)) (xe : Value → Shared → Prop), Takes (X.tr pn xe) W' → PassesOwn (model X.prog X.w) X.A X.env xe → OkS c k N sc (X.tr pn xe) W' := fun W' pn xe tk po =>
        ⟨⟨ok0.eN, ok0.es, ok0.eK, ok0.em, ok0.nd, ok0.calm, ok0.room, ok0.gd, ok0.rp, ok0.bt, ok0.con, ok0.fns, tk, ok0.sys, ok0.er⟩, o.kind, o.fn, fun _ => po, o.stk, o.frm, o.exn⟩
      have hsu : ∀ (a : Addr) (pn : List (Addr × Obj)), OkS c.h k N sc (X.suite a pn) W0 := fun a pn =>
        ⟨⟨ok0.eN, ok0.es, ok0.eK, ok0.em, ok0.nd, fun z => absurd (show true = false from z) (by decide), ⟨fun z => absurd (show true = false from z) (by decide), ok0.room.dp, ok0.room.un⟩, ok0.gd, ok0.rp, ok0.bt, ok0.con, (fun n x hx => let ⟨f, fd, ps, D, F⟩ := ok0.fns n x hx; ⟨f, fd, ps, ⟨D.mg, D.kp, D.bd, D.kb⟩, F⟩), fun u s' ⟨a, B, sI, pins, σ, H, cls, d, e, I, nb, up, sky, na, os, ag, w⟩ => False.elim w, ok0.sys, ⟨ok0.er.at_, ok0.er.ok, ok0.er.ve⟩⟩, o.kind, o.fn, fun z => absurd (show true = false from z) (by decide), o.stk, o.frm, o.exn⟩
      refine PS.imp (ps_try_asT (X := X) (c := .ref Cc) (i := i) (Wout := W) (tb := fun W' => tSs c W' b) (ts := fun _ => tSs c.h W0 hd) o.stk o.frm o.exn (by rw [ok0.eN]; exact ok0.nd) (ok0.var h2) (by
        show X.env.scope.names.lookup n = some .local
        rw [ok0.es]; exact loc_of h3) ⟨ok0.gl h5, (dbg_of h6).1, .inl (by rw [ok0.em]; exact mc)⟩ ok0.tk (fun W' pn xe tk po => pssOk b h7 (htr W' pn xe tk po)) (fun a pn => pssOk hd h8 (hsu a pn))) fun D σ H ⟨ρ, S, Kd, hl, re, r, w, ok⟩ => ?_
      refine ⟨ρ, S, _, hl, re, r, w, ok.nx, ok.rt, ok.bk, fun kk fs ρ' S' σ' H' cls d f r' re' l' rx q => ?_⟩
      obtain ⟨rfl, rfl, hkk, y, C, ey, my, rfl⟩ := rx
      obtain ⟨C0, m0, a0, _⟩ := ok0.er.at_ kk y ey
      have a0 := a0 hkk
      have eC : C0 = C := by rw [my] at m0; injection m0 with m0; injection m0 with m0; exact m0.symm
      subst eC
      obtain ⟨qt, qf⟩ := q
      refine ⟨c.G.sub kk cc, by rw [ok0.eK]; exact (ac kk C0 a0).2, fun hb => ⟨rfl, C0, rfl, fun a ha => ?_⟩, fun hb => ok.xe kk [] ρ' S' σ' H' _ none f r' re' l' ⟨rfl, rfl, hkk, y, C0, ey, my, rfl⟩ (qf hb)⟩
      have fl : Fr S' H' S' (L2.upd H' a (XO C0 a)) := Fr.laid ha
      refine ⟨ρ'.set i (some (.xn C0 [])), S', _, by rw [List.length_set, List.length_set, l'], (re'.mono r' fl).set l' (.xn L2.upd_same) i, r'.laid ha, qt hb C0 a0, ?_⟩
      have ok2 := ok.after (f.trans fl)
      refine ⟨fun ρ2 S2 σ2 H2 f2 r2 re2 l2 q => ok2.nx _ _ _ _ f2 r2 (re2.unset i) (by rw [List.length_set, List.length_set, l2]) q, ok2.rt, fun ρ2 S2 σ2 H2 f2 r2 re2 l2 q => ok2.bk _ _ _ _ f2 r2 (re2.unset i) (by rw [List.length_set, List.length_set, l2]) q, fun _ _ _ _ _ _ _ _ _ _ _ _ _ q => False.elim q⟩
    · cases h
theorem pssOk : ∀ (st : M.Ss) {c : Cn} {sc : Scope} {ex : List Stmt} {X : Cx} {W : WX}, chkSs c.T N st sc ex = true → OkS c k N sc X W → PSs X ex (tSs c W st)
  | .nil, c, sc, ex, X, W, h, o => by
    cases ex with
    | nil => exact PSs.imp pss_nil fun D σ H ⟨ρ, S, Kd, hl, re, r, w, ok⟩ => ok.nx _ _ _ _ Fr.refl r re hl w
    | cons _ _ => cases h
  | .cons s q, c, sc, ex, X, W, h, o => by
    cases ex with
    | nil => cases h
    | cons s' q' =>
      obtain ⟨h1, h2⟩ := and2 (show (chkS c.T N s sc s' && chkSs c.T N q sc q') = true from h)
      refine PSs.imp (pss_cons (psOk s h1 o) (pssOk q h2 o)) fun D σ H ⟨ρ, S, Kd, hl, re, r, w, ok⟩ => ?_
      exact ⟨ρ, S, _, hl, re, r, w, fun ρ1 S1 σ1 H1 f1 r1 re1 l1 q => ⟨ρ1, S1, Kd, l1, re1, r1, q, ok.after f1⟩, ok.rt, ok.bk, ok.xe⟩
end
end
end Snd
namespace Snd
open PySem PySem.Spec PyProof.Rows L2
/-- the context of a def's body, called where an error may be handled -/
abbrev cxB (hot : Bool) (CX : CXT) (P : Program) (w : World) (K : Frag) (mg : Str → Option Value) (base : Heap) (N : List Str) (qual : Str) (scope : Scope) (f : Addr) (cd : Value) (A : Around) (outer : List Env) (s : Shared) (H : Hp) (E : XK) : Cx :=
  { cxOf CX P w K mg base N qual scope f cd A outer s H E with calm := !hot }
/-! ### a def of the text -/
section
variable {P : Program} {w : World} {K : Frag} {mg : Str → Option Value} {base : Heap} {k : Nat} {name qual : Str} {params : Arguments} {body : List Stmt} {scope : Scope} {f : Addr} {fd : FuncData} {N ps : List Str}
/-- the entry's base lies in the heap: the module's objects, no limit set -/
theorem base_in {A : Around} {outer : List Env} {s : Shared} {H : Hp} (e0 : Env0 P w K mg base A outer s H) : K.In s.heap ∧ s.heap.NoLimit := by
  have up : ∀ b o, base.get? b = some o → s.heap.get? b = some o := fun b o h => (e0.bs b o h).1
  exact ⟨e0.mod.kin.keeps up, e0.mod.nolimit.keeps up⟩
/-- each parameter is a local, or its cell is made -/
theorem par_kind (S : FnScope N ps scope) {us : List Value} {n : Nat} : ∀ z ∈ ps.zip us, scope.names.lookup z.1 = some .local ∨ (scope.names.lookup z.1 = some .cell ∧ ((cellsFrom n scope.names []).lookup z.1).isSome = true) := by
  rintro ⟨x, u⟩ hz
  cases S.par x (List.of_mem_zip hz).1 with
  | inl l => exact Or.inl l
  | inr c => exact Or.inr ⟨c, PySem.W.cellsFrom_some _ _ _ (Or.inl c)⟩
/-- how a body ends, told as a call's end -/
theorem end_of {hot : Bool} {cdv : Value} {A : Around} {outer : List Env} {s s2 : Shared} {H : Hp} {Q : VK} {E : XK} {fl : Flow}
    (h : SP (cxB hot (L2.CX P w) P w K mg base N qual scope f cdv A outer s H E) [] { nx := fun _ H' => Q .non H', rt := Q } fl s2) (nb : fl ≠ .brk ∧ fl ≠ .cont) :
    CE outer P w H s Q (match fl with | .ret u => u | _ => .none) s2 := by
  match fl, h, nb with
  | .ret u, ⟨v, _, H2, I2, rel, q⟩, _ => exact ⟨v, H2, I2.os, I2.bare, I2.base, I2.hok, rel, q⟩
  | .next, ⟨_, H2, I2, q⟩, _ => exact ⟨.non, H2, I2.os, I2.bare, I2.base, I2.hok, rfl, q⟩
  | .brk, _, nb => exact absurd rfl nb.1
  | .cont, _, nb => exact absurd rfl nb.2
theorem inv_startB {hot : Bool} {CX : CXT} {P : Program} {w : World} {K : Frag} {mg : Str → Option Value} {base : Heap} {N ps : List Str} {qual : Str} {scope : Scope} {f : Addr} {cd : Value} {A : Around} {outer : List Env} {s s1 : Shared} {H : Hp} {E : XK} {us : List Value} {vs : List V}
    (S : FnScope N ps scope) (hd : hot = false → A.handled = none) (e0 : Env0 P w K mg base A outer s H) (hl : vs.length = ps.length) (r : Vals vs us)
    (x : InCallC s s.heap.objs.size (bindL (envOfC qual scope s.heap.objs.size f cd).kindOf (ps.zip us) fun _ => none) (cellsFrom (s.heap.objs.size + 1) scope.names []) (bindC (envOfC qual scope s.heap.objs.size f cd).kindOf (ps.zip us) fun _ => none) s1) :
    Inv (cxB hot CX P w K mg base N qual scope f cd A outer s H E) [] (L2.start N vs) H s1 := by
  have hpl : ps.length ≤ N.length := by have := congrArg List.length S.pre; rw [List.length_take] at this; omega
  obtain ⟨h1, tk, rfl, hk⟩ := x.done
  have noA : ∀ b : Addr, b ∉ (cxB hot CX P w K mg base N qual scope f cd A outer s H E).ex := fun b z => absurd (show b ∈ ([] : List Addr) from z) (by simp)
  refine ⟨⟨e0.mod, S.kind, rfl, rfl, Nat.le_refl _, fun y z c h1 h2 => ?_, fun y hy => ?_, fun y c _ h => ?_, (fun z => hd (by cases hot with | false => rfl | true => cases z)), Around.frames_deeper e0.frames, .inr ⟨rfl, rfl⟩, fun b z => absurd z (noA b), e0.bs, e0.bsz, fun b _ _ => noA b, fun b z => absurd z (noA b), e0.funs, e0.frf⟩,
    rfl, e0.bare, Un.kept hk, ⟨_, x.toInCall.ns, fun i y v h1 h2 h3 => ?_⟩, fun y c h => ⟨_, x.cell y c h⟩, e0.hok.fresh (Nat.le_refl _), fun y c h => ?_, fun q hq => ?_, e0.hok.kept hk, ?_⟩
  · exact name_of_addr x.apart (PySem.mem_of_lookup h1) (PySem.mem_of_lookup h2)
  · have hy : scope.names.lookup y = some .cell ∨ scope.names.lookup y = some .free := hy
    rcases hy with hy | hy
    · exact cell_has hy
    · exact absurd rfl (S.nofree _ (PySem.mem_of_lookup hy))
  · exact Nat.le_of_lt (x.above y c (PySem.mem_of_lookup h))
  · have hi : i < vs.length := by
      unfold L2.start at h2
      by_cases hi : i < vs.length
      · exact hi
      · rw [List.getElem?_append_right (by simpa using hi)] at h2
        rw [List.getElem?_replicate] at h2
        split at h2 <;> cases h2
    have ha : vs[i]? = some v := by
      unfold L2.start at h2
      rw [List.getElem?_append_left (by simpa using hi), List.getElem?_map] at h2
      cases e : vs[i]? with
      | none => rw [e] at h2; cases h2
      | some a => rw [e] at h2; cases h2; rfl
    obtain ⟨u, hu, rv⟩ := r.get ha
    have hp : ps[i]? = some y := by
      rw [← S.pre, List.getElem?_take_of_lt (by omega)]; exact h1
    have ndP : ps.Nodup := by rw [← S.pre]; exact S.nd.sublist (List.take_sublist _ _)
    refine ⟨u, rv, ?_⟩
    rcases S.par y (List.mem_of_getElem? hp) with k | k
    · exact .inl ⟨k, bindL_get ndP hp hu k⟩
    · obtain ⟨c, e⟩ := cell_has (n := s.heap.objs.size + 1) k
      refine .inr ⟨.inl k, c, e, ?_⟩
      have q := x.cell y c e
      rw [bindC_get ndP hp hu (by show scope.names.lookup y ≠ _; rw [k]; decide)] at q
      exact q
  · exact e0.hok.fresh (Nat.le_of_lt (x.above y c (PySem.mem_of_lookup h)))
  · exact absurd (show q ∈ ([] : List (Addr × Obj)) from hq) (by simp)
  · unfold L2.start
    show _ = N.length
    rw [List.length_append, List.length_map, List.length_replicate]
    omega
/-- a def by its body, where no repr is under way -/
theorem fnG_of {hot : Bool} {sp : L2.Sp} (F : FunD K name qual params body scope [] [] f fd) (S : FnScope N ps scope) (len : ∀ xs Hx Qx Ex, sp xs Hx Qx Ex → xs.length = ps.length)
    (run : ∀ (cdv : Value) (A : Around) (outer : List Env) (s : Shared) (H : Hp) (xs : List V) (Q : VK) (E : XK), RoomB hot k (A.deeper (envOfC qual scope s.heap.objs.size f cdv)) → A.guards = some [] → sp xs H Q E →
      ∃ t, PSs (cxB hot (L2.CX P w) P w K mg base N qual scope f cdv A outer s H E) body t ∧ t { nx := fun _ H' => Q .non H', rt := Q } (L2.start N xs) H) : FnG P w K mg base hot (k + 1) f fd ps sp where
  len := len
  run := by
    intro A outer s H args us xs Q E room quiet env bound rel want
    obtain ⟨c1, c2, c3, c4, c5, c6, c7, cdv, c9, c10, same, stands, code, -, -⟩ := F.ex
    subst same
    obtain ⟨inK, free⟩ := base_in env
    refine codeAny_call_function room.depth (inK _ _ stands) rfl S.co S.gen rfl (PySem.W.codeRec_of inK code) (bound _ _ _ _ ?_)
    refine wpAny_newFunctionEnv_cells S.kind (par_kind S) fun env' made s1 entry => ?_
    subst made
    refine ⟨free.keeps entry.toInCall.keep, codeAny_func ?_⟩
    obtain ⟨t, ok, start⟩ := run cdv A outer s H xs Q E (room.deeper _) quiet want
    have I0 := inv_startB (hot := hot) (CX := L2.CX P w) (qual := qual) (f := f) (cd := cdv) (E := E) S room.hd env (len _ _ _ _ want) rel entry
    refine wpAny_mono (ok.run [] s1 _ H _ I0 start) (fun fl s2 done => ?_) fun _ _ out => out
    match fl, done with
    | .ret u, done => exact end_of done ⟨nofun, nofun⟩
    | .next, done => exact end_of done ⟨nofun, nofun⟩
    | .brk, ⟨_, _, _, no⟩ => exact False.elim no
    | .cont, ⟨_, _, _, no⟩ => exact False.elim no
/-- what a law's text stands on -/
structure Law (c : Cn) (P : Program) (w : World) (base : Heap) (k : Nat) : Prop where
  rp : c.G.rp = rpF
  bt : ∀ x ∈ c.T.bts, c.mg x = none
  con : ∀ n x, c.T.cons[n]? = some x → ∃ u v, c.mg x = some u ∧ RelV v u ∧ ∀ H, RelD c.K H (c.G.con n) v
  fns : ∀ n x, c.T.fns[n]? = some x → ∃ f fd ps, Def c.K c.mg c.T n x f fd ps ∧ FnG P w c.K c.mg base (c.T.hots.contains n) k f fd ps (lift c (M.cl (c.G.fn n)))
  sys : SysK c.K
  er : Errs c.K c.mg c.T c.G
theorem start_rel {K : Frag} {H : Hp} {ds : List M.D} {vs : List V} (r : RelDs K H ds vs) : RelE K H (M.start N.length ds) (L2.start N vs) := by
  have e : ∀ {ds : List M.D} {vs : List V} {n m : Nat}, RelDs K H ds vs → ∀ (i : Nat) (d : M.D), (ds.map some ++ List.replicate n none)[i]? = some (some d) → ∃ v, (vs.map some ++ List.replicate m (none : Option V))[i]? = some (some v) ∧ RelD K H d v := by
    intro ds vs n m r i d h
    by_cases hi : i < ds.length
    · rw [List.getElem?_append_left (by simpa using hi), List.getElem?_map] at h
      obtain ⟨d', h1, h2⟩ := Option.map_eq_some_iff.mp h
      cases h2
      obtain ⟨v, g1, g2⟩ := r.get h1
      refine ⟨v, ?_, g2⟩
      rw [List.getElem?_append_left (by rw [List.length_map, ← r.length]; exact hi), List.getElem?_map, g1]
      rfl
    · rw [List.getElem?_append_right (by simpa using hi), List.getElem?_replicate] at h
      split at h <;> cases h
  exact e r
theorem fn_ok {c : Cn} (L : Law c P w base k) {hot : Bool} {ast : M.Ss} {sp : M.Sp} (F : FunD c.K name qual params body scope [] [] f fd) (S : FnScope N ps scope) (ck : chkSs { c.T with hot := hot } N ast scope body = true)
    (spec : ∀ ds S0 Q X, sp ds S0 Q X → ds.length = ps.length ∧ M.wpSs c.G ast (M.start N.length ds) S0 ⟨fun _ S' => Q .non S', Q, fun _ _ => False, fun k fs _ S' => X k fs S'⟩) :
    FnG P w c.K c.mg base hot (k + 1) f fd ps (lift c (M.cl sp)) := by
  have pl : ps.length ≤ N.length := by have := congrArg List.length S.pre; rw [List.length_take] at this; omega
  let c' : Cn := { c with T := { c.T with hot := hot } }
  refine fnG_of F S (fun vs H Q E ⟨ds, S0, Qd, Xd, rd, r, ⟨Q0, X0, q, _⟩, _⟩ => by rw [← rd.length]; exact (spec _ _ _ _ q).1) fun cdv A outer s H vs Q E hr hg ⟨ds, S0, Qd, Xd, rd, r, ⟨Q0, X0, q, hQ, hX⟩, hq, hx⟩ => ?_
  obtain ⟨hlen, hw⟩ := spec _ _ _ _ q
  have ok : OkS c' k N scope (cxB hot (L2.CX P w) P w c.K c.mg base N qual scope f cdv A outer s H E) (fun cls d _ H => E cls d H) := {
    ok := {
      eN := rfl
      es := rfl
      eK := rfl
      em := rfl
      nd := S.nd
      calm := fun h => by
        have h : hot = false := h
        show (!hot) = true
        rw [h]; rfl
      room := hr
      gd := hg
      rp := L.rp
      bt := L.bt
      con := L.con
      fns := fun n x hx => let ⟨f, fd, ps, D, F⟩ := L.fns n x hx; ⟨f, fd, ps, ⟨D.mg, D.kp, D.bd, D.kb⟩, F⟩
      tk := takes_of rfl rfl rfl rfl
      sys := L.sys
      er := ⟨L.er.at_, L.er.ok, L.er.ve⟩ }
    kind := S.kind
    fn := fun _ => rfl
    po := fun _ => passes_of (X := cxB hot (L2.CX P w) P w c.K c.mg base N qual scope f cdv A outer s H E) rfl
    stk := rfl
    frm := rfl
    exn := rfl }
  refine ⟨_, pssOk ast ck ok, M.start N.length ds, S0, _, ?_, start_rel rd, r, hw, ?_⟩
  · unfold M.start L2.start
    rw [List.length_append, List.length_append, List.length_map, List.length_map, List.length_replicate, List.length_replicate, rd.length]
  · exact ⟨fun ρ' S' σ' H' f' r' re' l' q => hq .non S' .non H' f' r' .non (hQ _ _ q), fun d S' v H' f' r' rd' q => hq d S' v H' f' r' rd' (hQ _ _ q), fun _ _ _ _ _ _ _ _ q => False.elim q, fun kx fs ρ' S' σ' H' cls d f' r' re' l' rx q => hx kx fs S' H' cls d f' r' rx (hX _ _ _ q)⟩
end
/-! ### the law's end -/
/-- where the script lies at a: nothing else is tracked -/
def onlyAt (H : Hp) (a : Addr) : Prop := ∀ b, H b ≠ none → b = a
/-- the heap without the script is a base for the law's def -/
theorem env_script {P : Program} {w : World} {K : Frag} {mg mb : Str → Option Value} {a : Addr} {s : Shared} {vs : List Value} {H : Hp} (inK : K.In s.heap) (hg : s.heap.Ns mainGlobals mg) (hb : s.heap.Ns builtinsNs mb) (hbb : ∀ x : Str, x ≠ "__name__" → mb x = bootBuiltins x) (free : s.heap.NoLimit) (quiet : s.gens = #[])
    (obj : s.heap.get? a = some { cls := .type "list", data := .seq vs.toArray }) (one : onlyAt H a) (apart : H a ≠ none → K.lookup a = none) (ok : HOk P w H s.heap) :
    Env0 P w K mg (hidT s.heap H) callerA [] s H ∧ K.In (hidT s.heap H) ∧ (hidT s.heap H).Ns mainGlobals mg := by
  -- a record that is not the script's stands in the base
  have stay : ∀ {b : Addr} {o : Obj}, s.heap.get? b = some o → (b = a → H b = none) → (hidT s.heap H).get? b = some o := fun {b o} e n => hidT_get e (Classical.byContradiction fun t => t (n (one b t)))
  have names : ∀ {b : Addr} {m : Str → Option Value}, s.heap.Ns b m → (hidT s.heap H).Ns b m := by
    rintro b m ⟨o, es, ep, at_, dat, rest⟩
    refine ⟨o, es, ep, stay at_ fun e => ?_, dat, rest⟩
    rw [e, obj] at at_
    rw [← Option.some.inj at_] at dat
    exact nomatch (show Data.seq vs.toArray _ = Data.dict es ep from dat)
  have kin : K.In (hidT s.heap H) := fun b o e => stay (inK b o e) fun hba => by
    subst hba
    exact Classical.byContradiction fun t => by have z := apart t; rw [e] at z; cases z
  obtain ⟨mc, lim1, lim2⟩ := free
  refine ⟨{ frames := rfl, mod := ⟨kin, names hg, ⟨mb, names hb, hbb⟩, ⟨mc, names lim1, lim2⟩⟩, bs := fun _ _ e => of_hidT e, bsz := Nat.le_of_eq (hidT_size _ _), funs := trivial, frf := ?_, hok := ok, bare := AllBare.of_eq quiet }, kin, names hg⟩
  intro b z
  cases z
/-- what stood stands behind the law's call -/
theorem old_script {P : Program} {w : World} {H H2 : Hp} {h h2 : Heap} (only : Only H) (un : Un (frs []) [] H H2 h h2) (ok : HOk P w H h) (ok2 : HOk P w H2 h2) : OldK h h2 := by
  refine OldK.of_keep fun b o e => ?_
  rcases only b with z | ⟨ob, xs, z⟩
  · exact un.keep b o e z nofun nofun
  · have u1 := (ok b _ z).1
    have u2 := (ok2 b _ (un.frzs b ob _ z)).1
    rw [u1] at e
    rw [← e]
    exact u2
/-- the law's promise: of the script as a list that is never written, True comes -/
theorem law_callG {P : Program} {w : World} {K : Frag} {mg mb : Str → Option Value} {k : Nat} {fa a : Addr} {fd : FuncData} {x : Str} {sp : L2.Sp} {s : Shared} {vs : List Value} {ns : List Int}
    (inK : K.In s.heap) (hg : s.heap.Ns mainGlobals mg) (hb : s.heap.Ns builtinsNs mb) (hbb : ∀ y : Str, y ≠ "__name__" → mb y = bootBuiltins y) (free : s.heap.NoLimit) (quiet : s.gens = #[])
    (obj : s.heap.get? a = some { cls := .type "list", data := .seq vs.toArray }) (hints : IntsAre vs ns) (small : ns.length ≤ sizeLine) (room : Room k callerA)
    (F : ∀ base : Heap, K.In base → base.Ns mainGlobals mg → FnG P w K mg base false k fa fd [x] sp) (bind : ∀ (t : Shared) (u : Value), BindsTo t fd ⟨[u], []⟩ [(x, u)])
    (want : ∀ H : Hp, Only H → SqF K H a (ns.map V.int) → sp [.ref a] H (fun v _ => v = .bl true) fun _ _ _ => False) :
    codeAny (model P w) callerA (.call (.ref fa) ⟨[.ref a], []⟩) (fun r t => r = .ok (.ret (.bool true)) ∧ OldK s.heap t.heap ∧ t.os = s.os ∧ AllBare t.gens) s := by
  have vals := vals_ints hints
  have go : ∀ H : Hp, Only H → SqF K H a (ns.map V.int) → HOk P w H s.heap → onlyAt H a → (H a ≠ none → K.lookup a = none) →
      codeAny (model P w) callerA (.call (.ref fa) ⟨[.ref a], []⟩) (fun r t => r = .ok (.ret (.bool true)) ∧ OldK s.heap t.heap ∧ t.os = s.os ∧ AllBare t.gens) s := fun H only sq ok one apart => by
    obtain ⟨env, kin, nsg⟩ := env_script (P := P) (w := w) inK hg hb hbb free quiet obj one apart ok
    have call := (F _ kin nsg).run callerA [] s H ⟨[.ref a], []⟩ [.ref a] [.ref a] _ _ (roomB room false) rfl env (bind s (.ref a)) (Paired.cons rfl Paired.nil) (want H only sq)
    refine codeAny_mono call fun r t out => ?_
    match r, out with
    | .error e, out => obtain ⟨_, _, _, _, _, _, _, _, _, _, _, _, no⟩ := (show L2.CX P w [] H s (fun _ _ _ => False) e t from out); exact no.elim
    | .ok .next, out => exact False.elim out
    | .ok .brk, out => exact False.elim out
    | .ok .cont, out => exact False.elim out
    | .ok (.ret u), ⟨v, H2, os, bare, un, ok2, rel, q⟩ =>
      have ev : v = .bl true := q
      subst ev
      have eu : u = Value.bool true := rel
      subst eu
      exact ⟨rfl, old_script only un ok ok2, os, bare⟩
  by_cases hk : K.lookup a = none
  · -- the script is tracked as a list that is never written
    let Hs : Hp := fun b => if b = a then some (.frz { cls := .type "list", data := .seq vs.toArray } (.lst (ns.map V.int))) else none
    have at_ : Hs a = some (.frz { cls := .type "list", data := .seq vs.toArray } (.lst (ns.map V.int))) := if_pos rfl
    have off : ∀ b, b ≠ a → Hs b = none := fun b hb => if_neg hb
    refine go Hs (fun b => ?_) (Or.inl ⟨_, at_⟩) (fun b u e => ?_) (fun b t => Classical.byContradiction fun hb => t (off b hb)) fun _ => hk
    · exact if hb : b = a then Or.inr ⟨_, _, hb ▸ at_⟩ else Or.inl (off b hb)
    · by_cases hb : b = a
      · subst hb
        rw [at_] at e
        cases e
        refine ⟨obj, ?_, vs, _, vals, obj⟩
        rw [List.length_map]
        exact small
      · rw [off b hb] at e
        cases e
  · -- the script is an object of the module
    obtain ⟨o, ho⟩ := Option.ne_none_iff_exists'.mp hk
    have eo := inK a o ho
    rw [obj] at eo
    have eo := Option.some.inj eo
    subst eo
    refine go (fun _ => none) (fun _ => Or.inl rfl) (Or.inr ⟨_, vs.toArray, _, ho, rfl, rfl, rfl, ?_, ?_⟩) (fun b u e => nomatch (show (none : Option HO) = some u from e)) (fun b t => absurd rfl t) fun t => absurd rfl t
    · rw [List.size_toArray, hints.length]
      exact small
    · simpa using vals
theorem rel_ints {K : Frag} {H : Hp} : ∀ ns : List Int, RelDs K H (ns.map M.D.int) (ns.map V.int)
  | [] => .nil
  | n :: ns => .cons (.int n) (rel_ints ns)
/-- THE END: the promise of the law's def in the small language -/
theorem walkG {l : PySem.W.OpenLaw} {n k : Nat} {q : Program} {loose : List Str} {XP : (Str → Option Value) → Heap → Prop} {YP : World → Heap → Prop} {d : DefRec} {x : Str} {sp : M.Sp}
    (hn : l.most = some n) (hn2 : n ≤ sizeLine) (hdf : d.params.defaults = []) (hr : Room k callerA)
    (hsp : ∀ (ns : List Int), ns.length ≤ n → sp [.fl (ns.map .int)] (fun _ => none) (fun v _ => v = .bl true) fun _ _ _ => False)
    (F : ∀ (w : World) (mg : Str → Option Value) (fa : Addr) (h : Heap), YP w h → h.Ns mainGlobals mg → mg d.name = some (.ref fa) →
      ∃ (K : Frag) (fd : FuncData) (T : Tb) (G : M.Gm), K.In h ∧ (∀ (s : Shared) (u : Value), BindsTo s fd ⟨[u], []⟩ [(x, u)]) ∧
        ∀ base : Heap, K.In base → base.Ns mainGlobals mg → FnG l.prog w K mg base false k fa fd [x] (lift ⟨K, mg, T, G⟩ (M.cl sp))) :
    PySem.W.WalkO q loose XP YP l.row.toRowW d [] (fun f vs => PySem.call f vs) := by
  refine Att.attach_call hn hdf fun w s₀ s₁ mg mb fa o pm cd doc a vs ns G Y ho hd hcd hmg hobj hints hlen hg => ?_
  obtain ⟨K, fd, T, Gm, KX, hb, hF⟩ := F w mg fa _ Y G.T.g hmg
  refine law_callG KX G.T.g G.T.b G.T.builtins G.T.nolimit hg hobj hints (Nat.le_trans hlen hn2) hr hF hb fun H hO hS => ?_
  refine ⟨[.fl (ns.map .int)], fun _ => none, _, _, .cons (.fl hS (rel_ints ns)) .nil, (fun a o e => by cases e), M.cl_of (hsp ns hlen), fun d S' v H' f r rd q => ?_, fun _ _ _ _ _ _ _ _ _ q => False.elim q⟩
  subst q
  cases rd
  rfl
end Snd
namespace Snd
open PySem PySem.Spec PyProof.Rows L2
section
variable {K : Frag} {x qual : Str} {params : Arguments} {body : List Stmt} {scope : Scope} {kws : List (Str × V)} {f : Addr} {fd : FuncData} {ps ks : List Str} {m : Nat} {perm : List Nat}
theorem kb_of (F : FunD K x qual params body scope [] kws f fd)
    (h : ∀ (kV doc pm : Value) (an : Option Addr) (cdv ct : Value) (us ws : List Value), us.length = m → ws.length = ks.length → bindArgs (PySem.W.fnOf x qual params body scope .none kV doc pm an cdv ct) ⟨us, ks.zip ws⟩ = pure (ps.zip (perm.filterMap fun i => (us ++ ws)[i]?))) : KB K fd ps m ks perm := by
  obtain ⟨oc, od, dV, kV, doc, pm, an, cdv, ct, osl, rfl, lk, hcd, hD, hK⟩ := F.ex
  rcases hD with ⟨_, rfl⟩ | ⟨e, _⟩
  · exact fun s us ws _ h1 h2 => .of_eq (h kV doc pm an cdv ct us ws h1 h2)
  · exact absurd rfl e
end
/-- the specs below n -/
def stage (sb : Nat → Nat → Bool) (ad : Nat → Option Nat) (sp : Nat → M.Sp) (con : Nat → M.D) (n : Nat) : M.Gm := ⟨M.upto n sp, con, sb, ad, rpF⟩
theorem never_fn {c : Cn} {hot : Bool} {P : Program} {w : World} {base : Heap} {k : Nat} {f : Addr} {fd : FuncData} {ps : List Str} {sp : M.Sp} (h : ∀ ds S Q X, ¬ sp ds S Q X) : FnG P w c.K c.mg base hot k f fd ps (lift c (M.cl sp)) :=
  .never fun vs H Q E ⟨ds, S, Qd, Xd, _, _, ⟨Q0, X0, q, _⟩, _⟩ => h _ _ _ _ q
/-- all defs of a text, callees first; lev n: the room that the n-th wants below it, cost n: its own (a recursive def: its depth) -/
theorem chain {P : Program} {w : World} {K : Frag} {mg : Str → Option Value} {T : Tb} {base : Heap} {sp : Nat → M.Sp} {con : Nat → M.D} {sb : Nat → Nat → Bool} {ad : Nat → Option Nat} (lev cost : Nat → Nat) (hl : ∀ m n, m < n → lev m + cost m ≤ lev n) (sy : SysK K) (er : Errs K mg T (stage sb ad sp con 0)) (bt : ∀ x ∈ T.bts, mg x = none)
    (cn : ∀ n x, T.cons[n]? = some x → ∃ u v, mg x = some u ∧ RelV v u ∧ ∀ H, RelD K H (con n) v)
    (D : ∀ n x, T.fns[n]? = some x → ∃ f fd ps, Def K mg T n x f fd ps ∧ ∀ k, Law ⟨K, mg, T, stage sb ad sp con n⟩ P w base k → FnG P w K mg base (T.hots.contains n) (k + cost n) f fd ps (lift ⟨K, mg, T, stage sb ad sp con n⟩ (M.cl (sp n)))) :
    ∀ n, Law ⟨K, mg, T, stage sb ad sp con n⟩ P w base (lev n) := by
  have go : ∀ N n, n < N → ∀ x, T.fns[n]? = some x → ∃ f fd ps, Def K mg T n x f fd ps ∧ ∀ G, FnG P w K mg base (T.hots.contains n) (lev n + cost n) f fd ps (lift ⟨K, mg, T, G⟩ (M.cl (sp n))) := by
    intro N
    induction N with
    | zero => exact fun _ h => absurd h (Nat.not_lt_zero _)
    | succ N ih =>
      intro n hn x hx
      obtain ⟨f, fd, ps, d, F⟩ := D n x hx
      refine ⟨f, fd, ps, d, fun G => F (lev n) ⟨rfl, bt, cn, fun m y hy => ?_, sy, ⟨er.at_, er.ok, er.ve⟩⟩⟩
      by_cases hm : m < n
      · obtain ⟨g, gd, qs, d2, F2⟩ := ih m (by omega) y hy
        refine ⟨g, gd, qs, d2, ?_⟩
        have e : (stage sb ad sp con n).fn m = sp m := if_pos hm
        rw [show (Cn.G ⟨K, mg, T, stage sb ad sp con n⟩) = stage sb ad sp con n from rfl, e]
        exact (F2 _).mono (hl m n hm)
      · obtain ⟨g, gd, qs, d2, _⟩ := D m y hy
        refine ⟨g, gd, qs, d2, ?_⟩
        have e : (stage sb ad sp con n).fn m = fun _ _ _ _ => False := if_neg hm
        rw [show (Cn.G ⟨K, mg, T, stage sb ad sp con n⟩) = stage sb ad sp con n from rfl, e]
        exact never_fn (c := ⟨K, mg, T, stage sb ad sp con n⟩) fun _ _ _ _ q => q
  refine fun n => ⟨rfl, bt, cn, fun m y hy => ?_, sy, ⟨er.at_, er.ok, er.ve⟩⟩
  by_cases hm : m < n
  · obtain ⟨g, gd, qs, d2, F2⟩ := go (m + 1) m (Nat.lt_succ_self m) y hy
    refine ⟨g, gd, qs, d2, ?_⟩
    have e : (stage sb ad sp con n).fn m = sp m := if_pos hm
    rw [show (Cn.G ⟨K, mg, T, stage sb ad sp con n⟩) = stage sb ad sp con n from rfl, e]
    exact (F2 _).mono (hl m n hm)
  · obtain ⟨g, gd, qs, d2, _⟩ := D m y hy
    refine ⟨g, gd, qs, d2, ?_⟩
    have e : (stage sb ad sp con n).fn m = fun _ _ _ _ => False := if_neg hm
    rw [show (Cn.G ⟨K, mg, T, stage sb ad sp con n⟩) = stage sb ad sp con n from rfl, e]
    exact never_fn (c := ⟨K, mg, T, stage sb ad sp con n⟩) fun _ _ _ _ q => q
/-- a text without recursion -/
theorem chain_law {P : Program} {w : World} {K : Frag} {mg : Str → Option Value} {T : Tb} {base : Heap} {sp : Nat → M.Sp} {con : Nat → M.D} {sb : Nat → Nat → Bool} {ad : Nat → Option Nat} (sy : SysK K) (er : Errs K mg T (stage sb ad sp con 0)) (bt : ∀ x ∈ T.bts, mg x = none)
    (cn : ∀ n x, T.cons[n]? = some x → ∃ u v, mg x = some u ∧ RelV v u ∧ ∀ H, RelD K H (con n) v)
    (D : ∀ n x, T.fns[n]? = some x → ∃ f fd ps, Def K mg T n x f fd ps ∧ ∀ k, Law ⟨K, mg, T, stage sb ad sp con n⟩ P w base k → FnG P w K mg base (T.hots.contains n) (k + 1) f fd ps (lift ⟨K, mg, T, stage sb ad sp con n⟩ (M.cl (sp n)))) (n : Nat) :
    Law ⟨K, mg, T, stage sb ad sp con n⟩ P w base n := chain (fun n => n) (fun _ => 1) (fun _ _ h => h) sy er bt cn D n
/-- a recursive def: its promise with fuel; a call of itself spends some -/
theorem rec_fn {P : Program} {w : World} {K : Frag} {mg : Str → Option Value} {T : Tb} {base : Heap} {sp : Nat → M.Sp} {con : Nat → M.D} {sb : Nat → Nat → Bool} {ad : Nat → Option Nat} {n k : Nat} {x : Str} {f : Addr} {fd : FuncData} {ps : List Str} (L : Law ⟨K, mg, T, stage sb ad sp con n⟩ P w base k) (d : Def K mg T n x f fd ps) (hx : T.fns[n]? = some x)
    (fuel : Nat → M.Sp) (h0 : ∀ ds S Q X, ¬ fuel 0 ds S Q X)
    (step : ∀ m k, Law ⟨K, mg, T, { stage sb ad sp con n with fn := fun i => if i = n then fuel m else M.upto n sp i }⟩ P w base k → FnG P w K mg base (T.hots.contains n) (k + 1) f fd ps (lift ⟨K, mg, T, stage sb ad sp con n⟩ (M.cl (fuel (m + 1))))) :
    ∀ m, FnG P w K mg base (T.hots.contains n) (k + m) f fd ps (lift ⟨K, mg, T, stage sb ad sp con n⟩ (M.cl (fuel m)))
  | 0 => never_fn (c := ⟨K, mg, T, stage sb ad sp con n⟩) (h0)
  | m + 1 => step m (k + m) ⟨rfl, L.bt, L.con, fun i y hy => by
    by_cases hi : i = n
    · subst hi
      have e : x = y := Option.some.inj (hx.symm.trans hy)
      subst e
      refine ⟨f, fd, ps, d, ?_⟩
      show FnG P w K mg base (T.hots.contains i) (k + m) f fd ps (lift _ (M.cl (if i = i then fuel m else M.upto i sp i)))
      rw [if_pos rfl]
      exact rec_fn L d hx fuel h0 step m
    · obtain ⟨g, gd, qs, d2, F2⟩ := L.fns i y hy
      refine ⟨g, gd, qs, d2, ?_⟩
      show FnG P w K mg base (T.hots.contains i) (k + m) g gd qs (lift _ (M.cl (if i = n then fuel m else M.upto n sp i)))
      rw [if_neg hi]
      exact F2.mono (Nat.le_add_right _ _), L.sys, ⟨L.er.at_, L.er.ok, L.er.ve⟩⟩
/-- with some fuel below B -/
theorem rec_all {c : Cn} {hot : Bool} {P : Program} {w : World} {base : Heap} {k B : Nat} {f : Addr} {fd : FuncData} {ps : List Str} {fuel : Nat → M.Sp} (F : ∀ m, FnG P w c.K c.mg base hot (k + m) f fd ps (lift c (M.cl (fuel m)))) :
    FnG P w c.K c.mg base hot (k + B) f fd ps (lift c (M.cl fun ds S Q X => ∃ m, m < B ∧ fuel m ds S Q X)) where
  len := fun vs H Q E ⟨ds, S, Qd, Xd, r1, r2, ⟨Q0, X0, ⟨m, _, q⟩, g1, g2⟩, h1, h2⟩ => (F m).len vs H Q E ⟨ds, S, Qd, Xd, r1, r2, ⟨Q0, X0, q, g1, g2⟩, h1, h2⟩
  run := fun A outer s H args us vs Q E hr hg e0 hb rv ⟨ds, S, Qd, Xd, r1, r2, ⟨Q0, X0, ⟨m, hm, q⟩, g1, g2⟩, h1, h2⟩ => ((F m).mono (Nat.add_le_add_left (Nat.le_of_lt hm) k)).run A outer s H args us vs Q E hr hg e0 hb rv ⟨ds, S, Qd, Xd, r1, r2, ⟨Q0, X0, q, g1, g2⟩, h1, h2⟩
end Snd
namespace Snd
open PySem PySem.Spec PyProof.Rows L2
/-! ### constants of the module: numbers, texts, nested tuples -/
mutual
def conB (K : Frag) : M.D → Value → Bool
  | .non, u => (match u with | .none => true | _ => false)
  | .bl b, u => (match u with | .bool d => b == d | _ => false)
  | .int i, u => (match u with | .int j _ => decide (i = j) | _ => false)
  | .str x, u => (match u with | .str y _ => decide (stx x = y) | _ => false)
  | .tup ds, u => (match u with
    | .ref a => (match K.lookup a with
      | some ⟨.type c, _, .seq its _, _⟩ => decide (c = "tuple") && decide (its.size ≤ sizeLine) && consB K ds its.toList
      | _ => false)
    | _ => false)
  | _, _ => false
def consB (K : Frag) : List M.D → List Value → Bool
  | [], us => us.isEmpty
  | d :: ds, us => (match us with | u :: us => conB K d u && consB K ds us | [] => false)
end
mutual
theorem conB_ok {K : Frag} : ∀ (d : M.D) {u : Value}, conB K d u = true → ∃ v, RelV v u ∧ ∀ H, RelD K H d v
  | .non, u, h => by
    cases u <;> first | exact ⟨.non, rfl, fun _ => .non⟩ | cases h
  | .bl b, u, h => by
    cases u <;> first | cases h | skip
    rename_i d
    have e : b = d := by simpa [conB] using h
    subst e
    exact ⟨.bl b, rfl, fun _ => .bl b⟩
  | .int i, u, h => by
    cases u <;> first | cases h | skip
    rename_i j t
    have e : i = j := of_decide_eq_true h
    subst e
    exact ⟨.int i, ⟨t, rfl⟩, fun _ => .int i⟩
  | .str x, u, h => by
    cases u <;> first | cases h | skip
    rename_i y t
    have e : stx x = y := of_decide_eq_true h
    subst e
    exact ⟨.str (stx x), ⟨t, rfl⟩, fun _ => .str x⟩
  | .tup ds, u, h => by
    cases u with
    | ref a =>
      have h : (match (generalizing := false) K.lookup a with
        | some ⟨.type c, _, .seq its _, _⟩ => decide (c = "tuple") && decide (its.size ≤ sizeLine) && consB K ds its.toList
        | _ => false) = true := h
      split at h
      · rename_i c od its n sl q
        obtain ⟨h, h3⟩ := and2 h
        obtain ⟨h1, h2⟩ := and2 h
        have e := of_decide_eq_true h1
        subst e
        obtain ⟨vs, rv, rd⟩ := consB_ok ds h3
        exact ⟨.ref a, rfl, fun H => .tup (.inr ⟨_, its, n, q, rfl, rfl, of_decide_eq_true h2, rv⟩) (rd H)⟩
      · cases h
    | _ => cases h
  | .fl _, _, h => by simp [conB] at h
  | .ref _, _, h => by simp [conB] at h
  | .xn _ _, _, h => by simp [conB] at h
theorem consB_ok {K : Frag} : ∀ (ds : List M.D) {us : List Value}, consB K ds us = true → ∃ vs, Vals vs us ∧ ∀ H, RelDs K H ds vs
  | [], us, h => by
    cases us with
    | nil => exact ⟨[], .nil, fun _ => .nil⟩
    | cons _ _ => cases h
  | d :: ds, us, h => by
    cases us with
    | nil => cases h
    | cons u us =>
      obtain ⟨h1, h2⟩ := and2 (show (conB K d u && consB K ds us) = true from h)
      obtain ⟨v, r1, r2⟩ := conB_ok d h1
      obtain ⟨vs, r3, r4⟩ := consB_ok ds h2
      exact ⟨v :: vs, .cons r1 r3, fun H => .cons (r2 H) (r4 H)⟩
end
/-- the module's names x are these constants -/
def consK (l : List (Str × M.D)) (K : Frag) : Bool := l.all fun p => match PySem.W.nsIn K mainGlobals p.1 with
  | some (some u) => conB K p.2 u
  | _ => false
theorem consK_ok {l : List (Str × M.D)} {K : Frag} {h : Heap} {mg : Str → Option Value} (X : K.In h) (G : h.Ns mainGlobals mg) (c : consK l K = true) {x : Str} {d : M.D} (hm : (x, d) ∈ l) : ∃ u v, mg x = some u ∧ RelV v u ∧ ∀ H, RelD K H d v := by
  have q := List.all_eq_true.mp c _ hm
  dsimp only at q
  split at q
  · rename_i u e
    obtain ⟨v, r1, r2⟩ := conB_ok d q
    exact ⟨u, v, PySem.W.mg_of X G e, r1, r2⟩
  · cases q
/-! ### the text's own errors -/
def sysB (K : Frag) : Bool := match K.lookup sysModules with
  | some ⟨.type c, _, _, _⟩ => decide (c = "dict")
  | _ => false
theorem sysB_ok {K : Frag} (h : sysB K = true) : SysK K := by
  unfold sysB at h
  split at h
  · rename_i c d da sl e
    exact ⟨_, e, by rw [of_decide_eq_true h]⟩
  · cases h
def adrOf (K : Frag) (x : Str) : Option Addr := match PySem.W.nsIn K mainGlobals x with
  | some (some (.ref C)) => some C
  | _ => none
def adrs (K : Frag) (cs : List Str) (nr i : Nat) : Option Addr := if i < nr then cs[i]?.bind (adrOf K) else none
def errB (K : Frag) (C : Addr) : Bool := PySem.W.excIn K C bmVE "ValueError.__new__" && PySem.W.keepIn K (.ref C) && (PySem.W.subIn K (.ref C) (.type "BaseException") == some true) && (PySem.W.typeIn K (.ref C) == some (.type "type"))
  && (PySem.W.findIn K (.ref C) "__getattribute__" == some (some (.builtin "BaseException.__getattribute__"))) && (PySem.W.findIn K (.ref C) "__getattr__" == some none) && PySem.W.hasDictIn K C
  && (PySem.W.findIn K (.ref C) "__class__" == some (some (.builtin "object.__class__"))) && (PySem.W.specialIn K (.builtin "object.__class__") "__get__" == some (some (.builtin "getset_descriptor.__get__")))
  && (PySem.W.takesIn K (.builtin "object.__class__") == some true) && (PySem.W.mroIn K C (.type "object") == some true)
theorem errB_ok {K : Frag} {C : Addr} (h : errB K C = true) : ErrC K C := by
  unfold errB at h
  simp only [Bool.and_eq_true, beq_iff_eq] at h
  obtain ⟨⟨⟨⟨⟨⟨⟨⟨⟨⟨h1, h2⟩, h3⟩, h4⟩, h5⟩, h6⟩, h7⟩, h8⟩, h9⟩, h10⟩, h11⟩ := h
  exact ⟨h1, h2, h3, h4, ⟨h5, h6, h3, h7, h8, h9, h10, h11⟩⟩
/-- all that is wanted of the classes cs, by their numbers; the first nr are raised -/
def exK (cs : List Str) (nr : Nat) (sb : Nat → Nat → Bool) (K : Frag) : Bool := decide (nr ≤ cs.length) && ((List.range nr).all fun i => match adrs K cs nr i with
  | some C => errB K C && (PySem.W.kitOne K (.ref C) (.type "ValueError") == some (sb i cs.length))
  | none => false) && (List.range cs.length).all fun j => match cs[j]?.bind (adrOf K) with
    | some D => (List.range nr).all fun i => match adrs K cs nr i with
      | some C => (PySem.W.kitOne K (.ref C) (.ref D) == some (sb i j)) && (PySem.W.exmOne K (.ref C) (.ref D) == some (sb i j))
      | none => false
    | none => false
theorem adrs_lt {K : Frag} {cs : List Str} {nr i : Nat} {C : Addr} (h : adrs K cs nr i = some C) : i < nr := by
  unfold adrs at h
  split at h
  · assumption
  · cases h
theorem exK_ok {K : Frag} {h : Heap} {mg : Str → Option Value} {T : Tb} {G : M.Gm} (X : K.In h) (N : h.Ns mainGlobals mg) (ga : G.adr = adrs K T.cls T.nr) (c : exK T.cls T.nr G.sub K = true) : Errs K mg T G := by
  obtain ⟨c, c2⟩ := and2 c
  obtain ⟨c0, c1⟩ := and2 c
  have c0 := of_decide_eq_true c0
  have at2 : ∀ i C, G.adr i = some C → adrs K T.cls T.nr i = some C := fun i C e => by rw [← ga]; exact e
  have one : ∀ i C, G.adr i = some C → errB K C = true ∧ PySem.W.kitOne K (.ref C) (.type "ValueError") = some (G.sub i T.cls.length) := fun i C e => by
    have e := at2 i C e
    have q := List.all_eq_true.mp c1 i (List.mem_range.mpr (adrs_lt e))
    rw [e] at q
    obtain ⟨q1, q2⟩ := and2 q
    exact ⟨q1, beq_iff_eq.mp q2⟩
  refine ⟨fun j x hx => ?_, fun k C e => errB_ok (one k C e).1, fun k C e => (one k C e).2⟩
  have q := List.all_eq_true.mp c2 j (List.mem_range.mpr (List.getElem?_eq_some_iff.mp hx).1)
  rw [hx] at q
  cases eD : adrOf K x with
  | none =>
    rw [Option.bind_some, eD] at q
    cases q
  | some D =>
    rw [Option.bind_some, eD] at q
    refine ⟨D, ?_, fun hj => ?_, fun k C e => ?_⟩
    · unfold adrOf at eD
      split at eD
      · rename_i C' e2
        cases eD
        exact PySem.W.mg_of X N e2
      · cases eD
    · rw [ga]
      unfold adrs
      rw [if_pos hj, hx, Option.bind_some, eD]
    · have e := at2 k C e
      have q4 := List.all_eq_true.mp q k (List.mem_range.mpr (adrs_lt e))
      rw [e] at q4
      obtain ⟨g1, g2⟩ := and2 q4
      exact ⟨beq_iff_eq.mp g1, beq_iff_eq.mp g2⟩
/-! ### the head's hook with them -/
def obsE (l : List (Str × M.D)) (cs : List Str) (nr : Nat) (sb : Nat → Nat → Bool) (fa : List He.Fa) (fn : List He.DefD) (K : Frag) : He.AlD := ((He.obsD fa fn K).1 && (consK l K && (sysB K && exK cs nr sb K)), (He.obsD fa fn K).2)
def hookE (n : Nat) (l : List (Str × M.D)) (cs : List Str) (nr : Nat) (sb : Nat → Nat → Bool) (fa : List He.Fa) (fn : List He.DefD) : PySem.W.Hook where
  α := He.AlD
  obs := fun s => obsE l cs nr sb fa fn (He.frG s.heap.get? (sysModules :: He.asD s.heap.get? n))
  val := fun _ => He.valD fn
  says := fun _ h => ∃ K : Frag, K.In h ∧ obsE l cs nr sb fa fn K = He.valD fn
  of := fun _ _ e => ⟨_, He.frG_in, e⟩
  keeps := fun _ _ _ ⟨K, hK, c⟩ k => ⟨K, PySem.W.Frag.In.keeps hK k, c⟩
theorem obsE_says {l : List (Str × M.D)} {cs : List Str} {nr : Nat} {sb : Nat → Nat → Bool} {fa : List He.Fa} {fn : List He.DefD} {K : Frag} (h : obsE l cs nr sb fa fn K = He.valD fn) : He.SaysD fa fn K ∧ consK l K = true ∧ sysB K = true ∧ exK cs nr sb K = true := by
  have h1 : ((He.obsD fa fn K).1 && (consK l K && (sysB K && exK cs nr sb K))) = true := congrArg (fun z : He.AlD => z.1) h
  have h2 : (obsE l cs nr sb fa fn K).2 = (He.valD fn).2 := congrArg (fun z : He.AlD => z.2) h
  have h2 : (He.obsD fa fn K).2 = (He.valD fn).2 := h2
  obtain ⟨a, b⟩ := and2 h1
  obtain ⟨b, c⟩ := and2 b
  obtain ⟨c, d⟩ := and2 c
  exact ⟨Prod.ext a h2, b, c, d⟩
theorem obsE_eq {n : Nat} {l : List (Str × M.D)} {cs : List Str} {nr : Nat} {sb : Nat → Nat → Bool} {fa : List He.Fa} {fn : List He.DefD} {g : Addr → Option Obj} {s : Shared} (h : ∀ a, g a = s.heap.get? a) : obsE l cs nr sb fa fn (He.frG g (sysModules :: He.asD g n)) = (hookE n l cs nr sb fa fn).obs s := by
  have e : g = s.heap.get? := funext h
  rw [e]
  rfl
end Snd
namespace M
theorem br_t {A B : Prop} : br true A B ↔ A := ⟨fun h => h.1 rfl, fun h => ⟨fun _ => h, fun z => nomatch z⟩⟩
theorem br_f {A B : Prop} : br false A B ↔ B := ⟨fun h => h.2 rfl, fun h => ⟨fun z => (nomatch z), fun _ => h⟩⟩
theorem br_n {A B : Prop} {b : Bool} : br (!b) A B ↔ br b B A := by cases b <;> simp [br]
theorem br_if {A B : Prop} {b : Bool} (h1 : b = true → A) (h2 : b = false → B) : br b A B := ⟨h1, h2⟩
theorem br_d {A B p : Prop} {d : Decidable p} (h1 : p → A) (h2 : ¬p → B) : br (@decide p d) A B := ⟨fun h => h1 (of_decide_eq_true h), fun h => h2 (of_decide_eq_false h)⟩
theorem opt_some {α : Type} {a : α} {P : α → Prop} : opt (some a) P = P a := rfl
theorem onI_int {i : Int} {P : Int → Prop} : onI (.int i) P = P i := rfl
theorem onB_bl {i : Bool} {P : Bool → Prop} : onB (.bl i) P = P i := rfl
theorem onR_ref {i : Nat} {P : Nat → Prop} : onR (.ref i) P = P i := rfl
theorem arg1_one {x : D} {P : D → Prop} : arg1 [x] P = P x := rfl
theorem eq_ii {i j : Int} {S : Sto} {Q : Bool → Prop} : cmpD .eq (.int i) (.int j) S Q ↔ Q (i == j) := by simp [cmpD, fit, eqB]
theorem ne_ii {i j : Int} {S : Sto} {Q : Bool → Prop} : cmpD .ne (.int i) (.int j) S Q ↔ Q (!(i == j)) := by simp [cmpD, fit, eqB]
theorem lt_ii {i j : Int} {S : Sto} {Q : Bool → Prop} : cmpD .lt (.int i) (.int j) S Q = Q (decide (i < j)) := rfl
theorem le_ii {i j : Int} {S : Sto} {Q : Bool → Prop} : cmpD .le (.int i) (.int j) S Q = Q (decide (i ≤ j)) := rfl
theorem gt_ii {i j : Int} {S : Sto} {Q : Bool → Prop} : cmpD .gt (.int i) (.int j) S Q = Q (decide (j < i)) := rfl
theorem ge_ii {i j : Int} {S : Sto} {Q : Bool → Prop} : cmpD .ge (.int i) (.int j) S Q = Q (decide (j ≤ i)) := rfl
theorem is_n {x : D} {S : Sto} {Q : Bool → Prop} : cmpD .is_ x .non S Q = Q (isNon x) := rfl
theorem isn_n {x : D} {S : Sto} {Q : Bool → Prop} : cmpD .isn x .non S Q = Q (!isNon x) := rfl
theorem is_b {a b : Bool} {S : Sto} {Q : Bool → Prop} : cmpD .is_ (.bl a) (.bl b) S Q = Q (a == b) := rfl
theorem isn_b {a b : Bool} {S : Sto} {Q : Bool → Prop} : cmpD .isn (.bl a) (.bl b) S Q = Q (!(a == b)) := rfl
theorem add_ii {i j : Int} {S : Sto} {Q : VK} : binD .add (.int i) (.int j) S Q = Q (.int (i + j)) S := rfl
theorem sub_ii {i j : Int} {S : Sto} {Q : VK} : binD .sub (.int i) (.int j) S Q = Q (.int (i - j)) S := rfl
theorem mul_ii {i j : Int} {S : Sto} {Q : VK} : binD .mul (.int i) (.int j) S Q = (sm i ∧ sm j ∧ Q (.int (i * j)) S) := rfl
theorem mod_ii {i j : Int} {S : Sto} {Q : VK} : binD .mod (.int i) (.int j) S Q = (j ≠ 0 ∧ Q (.int (i.fmod j)) S) := rfl
theorem fdiv_ii {i j : Int} {S : Sto} {Q : VK} : binD .fdiv (.int i) (.int j) S Q = (j ≠ 0 ∧ smd j ∧ Q (.int (i.fdiv j)) S) := rfl
theorem pow_ii {i j : Int} {S : Sto} {Q : VK} : binD .pow (.int i) (.int j) S Q = (sm i ∧ 0 ≤ j ∧ j ≤ 1000 ∧ Q (.int (i ^ j.toNat)) S) := rfl
theorem intD_i {i : Int} {S : Sto} {Q : VK} : intD (.int i) S Q = Q (.int i) S := rfl
theorem intD_b {i : Bool} {S : Sto} {Q : VK} : intD (.bl i) S Q = Q (.int (b2i i)) S := rfl
theorem ix30 : ixN 3 0 = some 0 := rfl
theorem ix31 : ixN 3 1 = some 1 := rfl
theorem ix32 : ixN 3 2 = some 2 := rfl
theorem at20 {α : Type} {a b : α} : atI [a, b] 0 = some a := rfl
theorem at21 {α : Type} {a b : α} : atI [a, b] 1 = some b := rfl
theorem at30 {α : Type} {a b c : α} : atI [a, b, c] 0 = some a := rfl
theorem at31 {α : Type} {a b c : α} : atI [a, b, c] 1 = some b := rfl
theorem at32 {α : Type} {a b c : α} : atI [a, b, c] 2 = some c := rfl
/-! ### the store -/
/-- what stood stands -/
def Ext (S S' : Sto) : Prop := ∀ a o, S a = some o → S' a = some o
/-- what stood stands, but at w -/
def Kp (w : Nat) (S S' : Sto) : Prop := ∀ a o, a ≠ w → S a = some o → S' a = some o
theorem Ext.refl {S : Sto} : Ext S S := fun _ _ h => h
theorem Ext.trans {S S' S2 : Sto} (a : Ext S S') (b : Ext S' S2) : Ext S S2 := fun x o h => b x o (a x o h)
theorem Ext.kp {S S' : Sto} (w : Nat) (a : Ext S S') : Kp w S S' := fun x o _ h => a x o h
theorem Kp.refl {w : Nat} {S : Sto} : Kp w S S := fun _ _ _ h => h
theorem Kp.trans {w : Nat} {S S' S2 : Sto} (a : Kp w S S') (b : Kp w S' S2) : Kp w S S2 := fun x o n h => b x o n (a x o n h)
theorem upd_at {S : Sto} {a : Nat} {o : O} : upd S a o a = some o := if_pos rfl
theorem upd_off {S : Sto} {a b : Nat} {o : O} (h : b ≠ a) : upd S a o b = S b := if_neg h
theorem Ext.new {S : Sto} {p : Nat} {o : O} (h : S p = none) : Ext S (upd S p o) := fun a x e => by
  have : a ≠ p := fun z => by rw [z, h] at e; cases e
  rw [upd_off this]; exact e
theorem Kp.wr {S : Sto} {w : Nat} {o : O} : Kp w S (upd S w o) := fun a x n e => by rw [upd_off n]; exact e
theorem lstAt_eq {S : Sto} {a : Nat} {xs : List D} (h : S a = some (.lst xs)) : lstAt S a = some xs := by unfold lstAt lstO; rw [h]
theorem lsOf_ref {S : Sto} {a : Nat} {xs : List D} (h : S a = some (.lst xs)) : lsOf S (.ref a) = some xs := lstAt_eq h
theorem sqOf_ref {S : Sto} {a : Nat} {xs : List D} (h : S a = some (.lst xs)) : sqOf S (.ref a) = some xs := lstAt_eq h
theorem lstAt_new {S : Sto} {a : Nat} {xs : List D} : lstAt (upd S a (.lst xs)) a = some xs := lstAt_eq upd_at
theorem ixD_ref {S : Sto} {a : Nat} {xs : List D} (h : S a = some (.lst xs)) {i : Int} {Q : VK} : ixD (.ref a) (.int i) S Q = opt (atI xs i) fun d => Q d S := by
  show opt (lstAt S a) _ = _
  rw [lstAt_eq h]
  rfl
theorem ixD_tup {S : Sto} {xs : List D} {i : Int} {Q : VK} : ixD (.tup xs) (.int i) S Q = opt (atI xs i) fun d => Q d S := rfl
theorem ixD_fl {S : Sto} {xs : List D} {i : Int} {Q : VK} : ixD (.fl xs) (.int i) S Q = opt (atI xs i) fun d => Q d S := rfl
theorem lenD_ref {S : Sto} {a : Nat} {xs : List D} (h : S a = some (.lst xs)) {Q : VK} : lenD (.ref a) S Q = Q (.int xs.length) S := by
  show opt (lstAt S a) _ = _
  rw [lstAt_eq h]
  rfl
theorem lenD_tup {S : Sto} {xs : List D} {Q : VK} : lenD (.tup xs) S Q = Q (.int xs.length) S := rfl
theorem lenD_fl {S : Sto} {xs : List D} {Q : VK} : lenD (.fl xs) S Q = Q (.int xs.length) S := rfl
theorem six_ref {S : Sto} {a : Nat} {xs : List D} (h : S a = some (.lst xs)) {i : Int} {d : D} {Q : Sto → Prop} : sixD (.ref a) (.int i) d S Q = opt (ixN xs.length i) fun j => Q (upd S a (.lst (xs.set j d))) := by
  show opt (lstAt S a) _ = _
  rw [lstAt_eq h]
  rfl
theorem lsOf_new {S : Sto} {a : Nat} {xs : List D} : lsOf (upd S a (.lst xs)) (.ref a) = some xs := lstAt_new
theorem seqD_tup {S : Sto} {xs : List D} {R : IK} : seqD (.tup xs) S R = R xs (fun _ => True) S := rfl
theorem seqD_fl {S : Sto} {xs : List D} {R : IK} : seqD (.fl xs) S R = R xs (fun _ => True) S := rfl
theorem seqD_ref {S : Sto} {a : Nat} {xs : List D} (h : S a = some (.lst xs)) {R : IK} : seqD (.ref a) S R = R xs (fun S' => S' a = some (.lst xs)) S := by
  show opt (lstAt S a) _ = _
  rw [lstAt_eq h]
  rfl
theorem slD_tup {S : Sto} {xs : List D} {lo hi : Option Int} {Q : VK} : slD (.tup xs) lo hi S Q = Q (.tup (cut xs lo hi)) S := rfl
theorem atI_all {α : Type} {xs : List α} {i : Int} {P : α → Prop} (h0 : 0 ≤ i) (h1 : i < xs.length) (h : ∀ y ∈ xs, P y) : opt (atI xs i) P := by
  have hl : i.toNat < xs.length := by omega
  have e : atI xs i = some xs[i.toNat] := by
    unfold atI ixN
    rw [if_pos h0, if_pos h1]
    simp [hl]
  rw [e]
  exact h _ (List.getElem_mem hl)
theorem add_ref {S : Sto} {a b : Nat} {xs ys : List D} (ha : S a = some (.lst xs)) (hb : S b = some (.lst ys)) {Q : VK} (k : mkL (xs ++ ys) S Q) : binD .add (.ref a) (.ref b) S Q := by
  show opt (lstAt S a) _
  rw [lstAt_eq ha]
  show opt (lstAt S b) _
  rw [lstAt_eq hb]
  exact k
theorem add_tt {S : Sto} {xs ys : List D} {Q : VK} : binD .add (.tup xs) (.tup ys) S Q = (xs.length + ys.length ≤ lim ∧ Q (.tup (xs ++ ys)) S) := rfl
theorem append_ref {S : Sto} {a : Nat} {xs : List D} (ha : S a = some (.lst xs)) {d : D} {Q : VK} (hl : xs.length < 1000) (k : Q .non (upd S a (.lst (xs ++ [d])))) : mtD .append (.ref a) [d] S Q := by
  show opt (lstAt S a) _
  rw [lstAt_eq ha]
  exact ⟨Nat.lt_of_lt_of_le hl (by decide), k⟩
/-! ### calls -/
theorem call {G : Gm} {n : Nat} {sp : Sp} (h : G.fn n = sp) {ds : List D} {S : Sto} {Q : VK} {X : XK} (q : sp ds S Q X) : cl (G.fn n) ds S Q X := by rw [h]; exact cl_of q
theorem upto_at {n i : Nat} {sp : Nat → Sp} {G : Gm} (hG : G.fn = upto n sp) (h : i < n) : G.fn i = sp i := by rw [hG]; exact if_pos h
/-- the classes of errors: which is which, and that each stands somewhere -/
structure GX (n : Nat) (sub : Nat → Nat → Bool) (G : Gm) : Prop where
  hs : G.sub = sub
  ha : ∀ k, k < n → ∃ C, G.adr k = some C
/-! ### numbers -/
theorem lt_two {n : Nat} (k : Nat) (h : n < 2 ^ k) {m : Nat} (hk : k ≤ m) : n < 2 ^ m := Nat.lt_of_lt_of_le h (Nat.pow_le_pow_right (by decide) hk)
theorem sm_of {i : Int} (k : Nat) (hk : k ≤ 4000) (h : i.natAbs < 2 ^ k) : sm i := lt_two k h hk
theorem smd_of {i : Int} (k : Nat) (hk : k ≤ 8500) (h : i.natAbs < 2 ^ k) : smd i := lt_two k h hk
theorem smr_of {i : Int} (k : Nat) (hk : k ≤ 1900) (h : i.natAbs < 2 ^ k) : smr i := lt_two k h hk
theorem fmod_pos {i j : Int} (h : 0 < j) : i.fmod j = i % j := Int.fmod_eq_emod_of_nonneg _ (Int.le_of_lt h)
theorem fdiv_pos {i j : Int} (h : 0 < j) : i.fdiv j = i / j := Int.fdiv_eq_ediv_of_nonneg _ (Int.le_of_lt h)
/-! ### what is drawn -/
/-- the well at w after n draws at most -/
def Well (n : Nat) (S : Sto) (w : Nat) : Prop := ∃ a b c : Int, S w = some (.lst [.int a, .int b, .int c]) ∧ 0 ≤ a ∧ 0 ≤ b ∧ b < 10 ^ 42 ∧ 0 ≤ c ∧ c ≤ n
theorem Well.kp {n : Nat} {S S' : Sto} {w v : Nat} (h : Well n S w) (k : Kp v S S') (hv : w ≠ v) : Well n S' w := by
  obtain ⟨a, b, c, e, r⟩ := h
  exact ⟨a, b, c, k w _ hv e, r⟩
theorem Well.ext {n : Nat} {S S' : Sto} {w : Nat} (h : Well n S w) (k : Ext S S') : Well n S' w := by
  obtain ⟨a, b, c, e, r⟩ := h
  exact ⟨a, b, c, k w _ e, r⟩
theorem Well.le {n m : Nat} {S : Sto} {w : Nat} (h : Well n S w) (k : n ≤ m) : Well m S w := by
  obtain ⟨a, b, c, e, r1, r2, r3, r4, r5⟩ := h
  exact ⟨a, b, c, e, r1, r2, r3, r4, by omega⟩
theorem Well.some {n : Nat} {S : Sto} {w : Nat} (h : Well n S w) : ∃ o, S w = some o := by
  obtain ⟨a, b, c, e, _⟩ := h
  exact ⟨_, e⟩
theorem ne_new {S : Sto} {w p : Nat} {o : O} (h : S w = some o) (hp : S p = none) : w ≠ p := fun e => by rw [e, hp] at h; cases h
/-- _law_well(script, at) -/
def spWell : Sp := fun ds S Q _ => ∃ (ns : List Int) (i : Int), ds = [.fl (ns.map .int), .int i] ∧ 0 ≤ i ∧ i < 100 ∧ ∀ p, S p = none → ∀ S', Ext S S' → Well 0 S' p → Q (.ref p) S'
/-- _law_draw(well, most) -/
def spDraw : Sp := fun ds S Q _ => ∃ (w : Nat) (m : Int) (n : Nat), ds = [.ref w, .int m] ∧ 1 ≤ m ∧ m < 2 ^ 3000 ∧ Well n S w ∧ n < 2 ^ 60 ∧ ∀ (d : Int) S', 0 ≤ d → d < m → Well (n + 1) S' w → Kp w S S' → Q (.int d) S'
/-- _law_desk(well, most) -/
def spDesk : Sp := fun ds S Q _ => ∃ (w : Nat) (m : Int) (n : Nat), ds = [.ref w, .int m] ∧ 1 ≤ m ∧ m < 2 ^ 1000 ∧ Well n S w ∧ n + 4 < 2 ^ 59 ∧ ∀ (x y : Int) S', 1 ≤ x → x ≤ m → 1 ≤ y → y ≤ 2 * m + 4 → Well (n + 4) S' w → Kp w S S' → Q (.tup [.int x, .int y]) S'
/-- _law_roll(well, desk, most) -/
def spRoll : Sp := fun ds S Q _ => ∃ (w : Nat) (a b m : Int) (n : Nat), ds = [.ref w, .tup [.int a, .int b], .int m] ∧ 1 ≤ m ∧ m < 2 ^ 1000 ∧ 1 ≤ a ∧ a < 2 ^ 1000 ∧ 1 ≤ b ∧ b < 2 ^ 1000 ∧ Well n S w ∧ n + 8 < 2 ^ 59 ∧
  ∀ (x y p q : Int) S', 0 ≤ x → x ≤ a → 0 ≤ y → y ≤ b → (p ≠ 0 ∨ q ≠ 0) → -m ≤ p → p ≤ m → -m ≤ q → q ≤ m → Well (n + 8) S' w → Kp w S S' → Q (.tup [.int x, .int y, .int p, .int q]) S'
theorem atI_map {ns : List Int} {i : Int} (h0 : 0 ≤ i) (h : i < ns.length) : ∃ n, atI (ns.map D.int) i = Option.some (D.int n) := by
  have hl : i.toNat < ns.length := by omega
  refine ⟨ns[i.toNat], ?_⟩
  unfold atI ixN
  rw [if_pos h0, if_pos (by simpa using h)]
  simp [hl]
end M
namespace M
abbrev kR (Q : VK) (X : XK) : Kt := ⟨fun _ S' => Q .non S', Q, fun _ _ => False, fun k fs _ S' => X k fs S'⟩
theorem len_lim {n : Nat} (h : n ≤ 1000) : n ≤ lim := Nat.le_trans h (by decide)
theorem sqOf_new {S : Sto} {a : Nat} {xs : List D} : sqOf (upd S a (.lst xs)) (.ref a) = some xs := lstAt_new
theorem txt_well {G : Gm} {ds : List D} {S0 : Sto} {Q : VK} {X : XK} {b : Ss} (hb : b = (.cons (.set (.v 2) (.ite (.cmp .lt (.v 1) (.bi .len (.cons (.v 0) .nil))) (.ix (.v 0) (.v 1)) (.k (.int 0)))) (.cons (.ret (.lst (.cons (.bi .max (.cons (.k (.int 0)) (.cons (.bin .sub (.bi .abs (.cons (.v 2) .nil)) (.bin .pow (.k (.int 10)) (.k (.int 18)))) .nil))) (.cons (.bin .add (.bin .add (.bin .mul (.bin .mod (.bi .int (.cons (.v 2) .nil)) (.bin .add (.bin .pow (.k (.int 10)) (.k (.int 37))) (.k (.int 151)))) (.k (.int 103))) (.bin .mul (.k (.int 71)) (.v 1))) (.k (.int 43))) (.cons (.k (.int 0)) .nil))))) .nil))) (h : spWell ds S0 Q X) : ds.length = 2 ∧ wpSs G b (start 3 ds) S0 (kR Q X) := by
  obtain ⟨ns, i, rfl, h0, h1, hq⟩ := h
  subst hb
  refine ⟨rfl, ?_⟩
  have fin : ∀ c : Int, wpE G (.lst (.cons (.bi .max (.cons (.k (.int 0)) (.cons (.bin .sub (.bi .abs (.cons (.v 2) .nil)) (.bin .pow (.k (.int 10)) (.k (.int 18)))) .nil))) (.cons (.bin .add (.bin .add (.bin .mul (.bin .mod (.bi .int (.cons (.v 2) .nil)) (.bin .add (.bin .pow (.k (.int 10)) (.k (.int 37))) (.k (.int 151)))) (.k (.int 103))) (.bin .mul (.k (.int 71)) (.v 1))) (.k (.int 43))) (.cons (.k (.int 0)) .nil)))) [some (.fl (ns.map .int)), some (.int i), some (.int c)] S0 Q X := by
    intro c
    simp only [wpSs, wpS, wpE, wpEs, wpC, wpAnd, wpOr, wpO, wpIt, opt_some, onI_int, onB_bl, onR_ref, arg1_one, look, joinO, start, List.map_cons, List.map_nil, List.length_cons, List.length_nil, List.replicate, List.cons_append, List.nil_append, List.append_nil, List.getElem?_cons_succ, List.getElem?_cons_zero, kcD, Nat.reduceAdd, Nat.reduceSub, br_t, br_f, br_n, asg, setAll, List.set_cons_succ, List.set_cons_zero, tgs, wipe, eq_ii, ne_ii, lt_ii, le_ii, gt_ii, ge_ii, is_n, isn_n, is_b, isn_b, add_ii, sub_ii, mul_ii, mod_ii, fdiv_ii, pow_ii, isNon, biD, intD_i, intD_b, esLen, beq_self_eq_true, ixD_tup, lsOf_new, seqD_tup, seqD_fl, slD_tup, bools, Option.map_some, true_and, ixD_fl, lenD_tup, lenD_fl, ix30, ix31, ix32, at20, at21, at30, at31, at32, List.filterMap_cons, List.filterMap_nil]
    refine ⟨sm_of 8 (by decide) (by decide), by decide, by decide, sm_of 8 (by decide) (by decide), by decide, by decide, by decide, ?_⟩
    have e : (10 ^ Int.toNat 37 + 151 : Int) = 10000000000000000000000000000000000151 := by decide
    rw [e, fmod_pos (by decide)]
    have m1 := Int.emod_nonneg c (b := 10000000000000000000000000000000000151) (by decide)
    have m2 := Int.emod_lt_of_pos c (b := 10000000000000000000000000000000000151) (by decide)
    generalize c % 10000000000000000000000000000000000151 = r at *
    refine ⟨sm_of 130 (by decide) (by omega), sm_of 8 (by decide) (by decide), sm_of 8 (by decide) (by decide), sm_of 8 (by decide) (by omega), ?_⟩
    refine ⟨len_lim (n := 3) (by decide), fun p hp => hq p hp _ (Ext.new hp) ⟨_, _, _, upd_at, ?_, ?_, ?_, by decide, by decide⟩⟩
    · split <;> omega
    · omega
    · omega
  by_cases hlt : i < ns.length
  · obtain ⟨c, hc⟩ := atI_map h0 hlt
    simp only [wpSs, wpS, wpE, wpEs, wpC, wpAnd, wpOr, wpO, wpIt, opt_some, onI_int, onB_bl, onR_ref, arg1_one, look, joinO, start, List.map_cons, List.map_nil, List.length_cons, List.length_nil, List.replicate, List.cons_append, List.nil_append, List.append_nil, List.getElem?_cons_succ, List.getElem?_cons_zero, kcD, Nat.reduceAdd, Nat.reduceSub, br_t, br_f, br_n, asg, setAll, List.set_cons_succ, List.set_cons_zero, tgs, wipe, eq_ii, ne_ii, lt_ii, le_ii, gt_ii, ge_ii, is_n, isn_n, is_b, isn_b, add_ii, sub_ii, mul_ii, mod_ii, fdiv_ii, pow_ii, isNon, biD, intD_i, intD_b, esLen, beq_self_eq_true, ixD_tup, lsOf_new, seqD_tup, seqD_fl, slD_tup, bools, Option.map_some, true_and, ixD_fl, lenD_tup, lenD_fl, ix30, ix31, ix32, at20, at21, at30, at31, at32, List.filterMap_cons, List.filterMap_nil, lenD, sqOf, ixD, List.length_map, hlt, decide_true, hc]
    exact fin c
  · simp only [wpSs, wpS, wpE, wpEs, wpC, wpAnd, wpOr, wpO, wpIt, opt_some, onI_int, onB_bl, onR_ref, arg1_one, look, joinO, start, List.map_cons, List.map_nil, List.length_cons, List.length_nil, List.replicate, List.cons_append, List.nil_append, List.append_nil, List.getElem?_cons_succ, List.getElem?_cons_zero, kcD, Nat.reduceAdd, Nat.reduceSub, br_t, br_f, br_n, asg, setAll, List.set_cons_succ, List.set_cons_zero, tgs, wipe, eq_ii, ne_ii, lt_ii, le_ii, gt_ii, ge_ii, is_n, isn_n, is_b, isn_b, add_ii, sub_ii, mul_ii, mod_ii, fdiv_ii, pow_ii, isNon, biD, intD_i, intD_b, esLen, beq_self_eq_true, ixD_tup, lsOf_new, seqD_tup, seqD_fl, slD_tup, bools, Option.map_some, true_and, ixD_fl, lenD_tup, lenD_fl, ix30, ix31, ix32, at20, at21, at30, at31, at32, List.filterMap_cons, List.filterMap_nil, lenD, sqOf, ixD, List.length_map, hlt, decide_false]
    exact fin 0
/-- _law_draw -/
theorem txt_draw {G : Gm} {ds : List D} {S0 : Sto} {Q : VK} {X : XK} {b : Ss} (hb : b = (.cons (.if_ (.cmp .gt (.ix (.v 0) (.k (.int 0))) (.k (.int 0))) (.cons (.set (.v 3) (.bin .mod (.bi .int (.cons (.ix (.v 0) (.k (.int 0))) .nil)) (.v 1))) (.cons (.six (.v 0) (.k (.int 0)) (.bin .fdiv (.ix (.v 0) (.k (.int 0))) (.v 1))) (.cons (.ret (.v 3)) .nil))) .nil) (.cons (.six (.v 0) (.k (.int 2)) (.bin .add (.ix (.v 0) (.k (.int 2))) (.k (.int 1)))) (.cons (.set (.v 2) (.bin .mod (.bin .pow (.bi .int (.cons (.bin .add (.ix (.v 0) (.k (.int 1))) (.bin .mul (.k (.int 961748941)) (.ix (.v 0) (.k (.int 2))))) .nil)) (.k (.int 3))) (.bin .add (.bin .pow (.k (.int 10)) (.k (.int 41))) (.k (.int 109))))) (.cons (.set (.v 2) (.bin .mod (.bin .pow (.bi .int (.cons (.bin .add (.v 2) (.bin .mul (.k (.int 217645199)) (.ix (.v 0) (.k (.int 2))))) .nil)) (.k (.int 3))) (.bin .add (.bin .pow (.k (.int 10)) (.k (.int 39))) (.k (.int 3))))) (.cons (.ret (.bin .mod (.bi .int (.cons (.bin .fdiv (.v 2) (.k (.int 1048576))) .nil)) (.v 1))) .nil)))))) (h : spDraw ds S0 Q X) : ds.length = 2 ∧ wpSs G b (start 4 ds) S0 (kR Q X) := by
  obtain ⟨w, m, n, rfl, h1, hm, ⟨a, b', c, e, ha, hb0, hb1, hc0, hc1⟩, hn, hq⟩ := h
  subst hb
  refine ⟨rfl, ?_⟩
  have hm0 : 0 < m := by omega
  have hmm : smd m := smd_of 3000 (by decide) (by omega)
  simp only [wpSs, wpS, wpE, wpEs, wpC, wpAnd, wpOr, wpO, wpIt, opt_some, onI_int, onB_bl, onR_ref, arg1_one, look, joinO, start, List.map_cons, List.map_nil, List.length_cons, List.length_nil, List.replicate, List.cons_append, List.nil_append, List.append_nil, List.getElem?_cons_succ, List.getElem?_cons_zero, kcD, Nat.reduceAdd, Nat.reduceSub, br_t, br_f, br_n, asg, setAll, List.set_cons_succ, List.set_cons_zero, tgs, wipe, eq_ii, ne_ii, lt_ii, le_ii, gt_ii, ge_ii, is_n, isn_n, is_b, isn_b, add_ii, sub_ii, mul_ii, mod_ii, fdiv_ii, pow_ii, isNon, biD, intD_i, intD_b, esLen, beq_self_eq_true, ixD_tup, lsOf_new, seqD_tup, seqD_fl, slD_tup, bools, Option.map_some, true_and, ixD_fl, lenD_tup, lenD_fl, ix30, ix31, ix32, at20, at21, at30, at31, at32, List.filterMap_cons, List.filterMap_nil, ixD, sixD, sqOf_ref e, lstAt_eq e, lstAt_new, sqOf_new]
  refine br_d (fun hpos => ?_) (fun hneg => ?_)
  · rw [fmod_pos hm0, fdiv_pos hm0]
    refine ⟨by omega, by omega, hmm, ?_⟩
    have m1 := Int.emod_nonneg a (b := m) (by omega)
    have m2 := Int.emod_lt_of_pos a (b := m) hm0
    exact hq _ _ m1 m2 ⟨_, _, _, upd_at, Int.ediv_nonneg ha (by omega), hb0, hb1, hc0, by omega⟩ Kp.wr
  · have s1 : sm 961748941 := sm_of 64 (by decide) (by decide)
    have s2 : sm (c + 1) := sm_of 64 (by decide) (by omega)
    have s3 : sm (b' + 961748941 * (c + 1)) := sm_of 200 (by decide) (by omega)
    have s4 : sm 10 := sm_of 8 (by decide) (by decide)
    have s5 : sm 217645199 := sm_of 64 (by decide) (by decide)
    have e1 : (10 ^ Int.toNat 41 + 109 : Int) = 100000000000000000000000000000000000000109 := by decide
    have e2 : (10 ^ Int.toNat 39 + 3 : Int) = 1000000000000000000000000000000000000003 := by decide
    rw [e1, e2]
    generalize (b' + 961748941 * (c + 1)) ^ Int.toNat 3 = r1
    rw [fmod_pos (i := r1) (by decide)]
    have m1 := Int.emod_nonneg r1 (b := 100000000000000000000000000000000000000109) (by decide)
    have m2 := Int.emod_lt_of_pos r1 (b := 100000000000000000000000000000000000000109) (by decide)
    generalize r1 % 100000000000000000000000000000000000000109 = r2 at *
    have s6 : sm (r2 + 217645199 * (c + 1)) := sm_of 200 (by decide) (by omega)
    generalize (r2 + 217645199 * (c + 1)) ^ Int.toNat 3 = r3
    rw [fmod_pos (i := r3) (by decide)]
    generalize r3 % 1000000000000000000000000000000000000003 = r4
    rw [fmod_pos hm0]
    have m3 := Int.emod_nonneg (r4.fdiv 1048576) (b := m) (by omega)
    have m4 := Int.emod_lt_of_pos (r4.fdiv 1048576) (b := m) hm0
    exact ⟨s1, s2, s3, by decide, by decide, s4, by decide, by decide, by decide, s5, s2, s6, by decide, by decide, s4, by decide, by decide, by decide, by decide, smd_of 64 (by decide) (by decide), by omega,
      hq _ _ m3 m4 ⟨_, _, _, upd_at, ha, hb0, hb1, by omega, by omega⟩ Kp.wr⟩
end M
namespace M
theorem mkL_ok {xs : List D} {S : Sto} {Q : VK} (h : xs.length ≤ 1000) (k : ∀ p, S p = none → Q (.ref p) (upd S p (.lst xs))) : mkL xs S Q := ⟨len_lim h, k⟩
/-- one of four -/
theorem at4 {α : Type} {a b c d : α} {i : Int} {P : α → Prop} (h0 : 0 ≤ i) (h4 : i < 4) (ka : P a) (kb : P b) (kc : P c) (kd : P d) : opt (atI [a, b, c, d] i) P := by
  have : i = 0 ∨ i = 1 ∨ i = 2 ∨ i = 3 := by omega
  rcases this with e | e | e | e <;> subst e
  · exact ka
  · exact kb
  · exact kc
  · exact kd
theorem at3 {α : Type} {a b c : α} {i : Int} {P : α → Prop} (h0 : 0 ≤ i) (h4 : i < 3) (ka : P a) (kb : P b) (kc : P c) : opt (atI [a, b, c] i) P := by
  have : i = 0 ∨ i = 1 ∨ i = 2 := by omega
  rcases this with e | e | e <;> subst e
  · exact ka
  · exact kb
  · exact kc
theorem txt_desk {G : Gm} {ds : List D} {S0 : Sto} {Q : VK} {X : XK} {b : Ss} (hb : b = (.cons (.set (.v 2) (.bin .add (.k (.int 1)) (.call 11 (.cons (.v 0) (.cons (.v 1) .nil))))) (.cons (.set (.v 3) (.ix (.lst (.cons (.bin .add (.k (.int 1)) (.call 11 (.cons (.v 0) (.cons (.v 1) .nil)))) (.cons (.v 2) (.cons (.bin .mul (.v 2) (.k (.int 2))) (.cons (.bin .add (.k (.int 1)) (.call 11 (.cons (.v 0) (.cons (.k (.int 4)) .nil)))) .nil))))) (.call 11 (.cons (.v 0) (.cons (.k (.int 4)) .nil))))) (.cons (.ret (.tup (.cons (.v 2) (.cons (.v 3) .nil)))) .nil)))) (hG : G.fn 11 = spDraw) (h : spDesk ds S0 Q X) : ds.length = 2 ∧ wpSs G b (start 4 ds) S0 (kR Q X) := by
  obtain ⟨w, m, n, rfl, h1, hm, hw, hn, hq⟩ := h
  subst hb
  refine ⟨rfl, ?_⟩
  try simp only [wpSs, wpS, wpE, wpEs, wpC, wpAnd, wpOr, wpO, wpIt, opt_some, onI_int, onB_bl, onR_ref, arg1_one, look, joinO, start, List.map_cons, List.map_nil, List.length_cons, List.length_nil, List.replicate, List.cons_append, List.nil_append, List.append_nil, List.getElem?_cons_succ, List.getElem?_cons_zero, kcD, Nat.reduceAdd, Nat.reduceSub, br_t, br_f, br_n, asg, setAll, List.set_cons_succ, List.set_cons_zero, tgs, wipe, eq_ii, ne_ii, lt_ii, le_ii, gt_ii, ge_ii, is_n, isn_n, is_b, isn_b, add_ii, sub_ii, mul_ii, mod_ii, fdiv_ii, pow_ii, isNon, biD, intD_i, intD_b, esLen, beq_self_eq_true, ixD_tup, lsOf_new, seqD_tup, seqD_fl, slD_tup, bools, Option.map_some, true_and, ixD_fl, lenD_tup, lenD_fl, ix30, ix31, ix32, at20, at21, at30, at31, at32, List.filterMap_cons, List.filterMap_nil]
  refine call hG ⟨w, m, n, rfl, h1, by omega, hw, by omega, fun d1 S1 a1 b1 w1 k1 => ?_⟩
  try simp only [wpSs, wpS, wpE, wpEs, wpC, wpAnd, wpOr, wpO, wpIt, opt_some, onI_int, onB_bl, onR_ref, arg1_one, look, joinO, start, List.map_cons, List.map_nil, List.length_cons, List.length_nil, List.replicate, List.cons_append, List.nil_append, List.append_nil, List.getElem?_cons_succ, List.getElem?_cons_zero, kcD, Nat.reduceAdd, Nat.reduceSub, br_t, br_f, br_n, asg, setAll, List.set_cons_succ, List.set_cons_zero, tgs, wipe, eq_ii, ne_ii, lt_ii, le_ii, gt_ii, ge_ii, is_n, isn_n, is_b, isn_b, add_ii, sub_ii, mul_ii, mod_ii, fdiv_ii, pow_ii, isNon, biD, intD_i, intD_b, esLen, beq_self_eq_true, ixD_tup, lsOf_new, seqD_tup, seqD_fl, slD_tup, bools, Option.map_some, true_and, ixD_fl, lenD_tup, lenD_fl, ix30, ix31, ix32, at20, at21, at30, at31, at32, List.filterMap_cons, List.filterMap_nil]
  refine call hG ⟨w, m, _, rfl, h1, by omega, w1, by omega, fun d2 S2 a2 b2 w2 k2 => ?_⟩
  try simp only [wpSs, wpS, wpE, wpEs, wpC, wpAnd, wpOr, wpO, wpIt, opt_some, onI_int, onB_bl, onR_ref, arg1_one, look, joinO, start, List.map_cons, List.map_nil, List.length_cons, List.length_nil, List.replicate, List.cons_append, List.nil_append, List.append_nil, List.getElem?_cons_succ, List.getElem?_cons_zero, kcD, Nat.reduceAdd, Nat.reduceSub, br_t, br_f, br_n, asg, setAll, List.set_cons_succ, List.set_cons_zero, tgs, wipe, eq_ii, ne_ii, lt_ii, le_ii, gt_ii, ge_ii, is_n, isn_n, is_b, isn_b, add_ii, sub_ii, mul_ii, mod_ii, fdiv_ii, pow_ii, isNon, biD, intD_i, intD_b, esLen, beq_self_eq_true, ixD_tup, lsOf_new, seqD_tup, seqD_fl, slD_tup, bools, Option.map_some, true_and, ixD_fl, lenD_tup, lenD_fl, ix30, ix31, ix32, at20, at21, at30, at31, at32, List.filterMap_cons, List.filterMap_nil]
  refine ⟨sm_of 1001 (by decide) (by omega), sm_of 8 (by decide) (by decide), ?_⟩
  refine call hG ⟨w, 4, _, rfl, by decide, by decide, w2, by omega, fun d3 S3 a3 b3 w3 k3 => ?_⟩
  try simp only [wpSs, wpS, wpE, wpEs, wpC, wpAnd, wpOr, wpO, wpIt, opt_some, onI_int, onB_bl, onR_ref, arg1_one, look, joinO, start, List.map_cons, List.map_nil, List.length_cons, List.length_nil, List.replicate, List.cons_append, List.nil_append, List.append_nil, List.getElem?_cons_succ, List.getElem?_cons_zero, kcD, Nat.reduceAdd, Nat.reduceSub, br_t, br_f, br_n, asg, setAll, List.set_cons_succ, List.set_cons_zero, tgs, wipe, eq_ii, ne_ii, lt_ii, le_ii, gt_ii, ge_ii, is_n, isn_n, is_b, isn_b, add_ii, sub_ii, mul_ii, mod_ii, fdiv_ii, pow_ii, isNon, biD, intD_i, intD_b, esLen, beq_self_eq_true, ixD_tup, lsOf_new, seqD_tup, seqD_fl, slD_tup, bools, Option.map_some, true_and, ixD_fl, lenD_tup, lenD_fl, ix30, ix31, ix32, at20, at21, at30, at31, at32, List.filterMap_cons, List.filterMap_nil]
  refine mkL_ok (by simp) fun p hp => ?_
  have hwp := w3.some
  obtain ⟨ow, ew⟩ := hwp
  have hne := ne_new ew hp
  refine call hG ⟨w, 4, _, rfl, by decide, by decide, w3.ext (Ext.new hp), by omega, fun d4 S4 a4 b4 w4 k4 => ?_⟩
  have e4 := k4 p _ (Ne.symm hne) upd_at
  have kk : Kp w S0 S4 := ((k1.trans k2).trans k3).trans (((Ext.new hp).kp w).trans k4)
  simp only [wpSs, wpS, wpE, wpEs, wpC, wpAnd, wpOr, wpO, wpIt, opt_some, onI_int, onB_bl, onR_ref, arg1_one, look, joinO, start, List.map_cons, List.map_nil, List.length_cons, List.length_nil, List.replicate, List.cons_append, List.nil_append, List.append_nil, List.getElem?_cons_succ, List.getElem?_cons_zero, kcD, Nat.reduceAdd, Nat.reduceSub, br_t, br_f, br_n, asg, setAll, List.set_cons_succ, List.set_cons_zero, tgs, wipe, eq_ii, ne_ii, lt_ii, le_ii, gt_ii, ge_ii, is_n, isn_n, is_b, isn_b, add_ii, sub_ii, mul_ii, mod_ii, fdiv_ii, pow_ii, isNon, biD, intD_i, intD_b, esLen, beq_self_eq_true, ixD_tup, lsOf_new, seqD_tup, seqD_fl, slD_tup, bools, Option.map_some, true_and, ixD_fl, lenD_tup, lenD_fl, ix30, ix31, ix32, at20, at21, at30, at31, at32, List.filterMap_cons, List.filterMap_nil, ixD, sqOf_ref e4]
  refine at4 a4 b4 ?_ ?_ ?_ ?_
  · exact ⟨by decide, hq _ _ _ (by omega) (by omega) (by omega) (by omega) (w4.le (by omega)) kk⟩
  · exact ⟨by decide, hq _ _ _ (by omega) (by omega) (by omega) (by omega) (w4.le (by omega)) kk⟩
  · exact ⟨by decide, hq _ _ _ (by omega) (by omega) (by omega) (by omega) (w4.le (by omega)) kk⟩
  · exact ⟨by decide, hq _ _ _ (by omega) (by omega) (by omega) (by omega) (w4.le (by omega)) kk⟩
theorem fit_i {n : Nat} {S : Sto} {i : Int} : fit (n + 1) S (.int i) = true := rfl
theorem ne_pair {a b c d : Int} {S : Sto} {Q : Bool → Prop} : cmpD .ne (.tup [.int a, .int b]) (.tup [.int c, .int d]) S Q ↔ Q (!(a == c && b == d)) := by
  simp [cmpD, fit, fitL, eqB, eqLB]
/-- one of three numbers -/
theorem pick3 {a b c i lo hi : Int} {P : D → Prop} (h0 : 0 ≤ i) (h3 : i < 3) (ha : lo ≤ a ∧ a ≤ hi) (hb : lo ≤ b ∧ b ≤ hi) (hc : lo ≤ c ∧ c ≤ hi) (h : ∀ y : Int, lo ≤ y → y ≤ hi → P (.int y)) : opt (atI [.int a, .int b, .int c] i) P :=
  at3 h0 h3 (h a ha.1 ha.2) (h b hb.1 hb.2) (h c hc.1 hc.2)
theorem min2 {d : Int} (h : 0 ≤ d) : 0 ≤ (if d < 2 then d else 2) ∧ (if d < 2 then d else 2) < 3 := by split <;> omega
theorem txt_roll {G : Gm} {ds : List D} {S0 : Sto} {Q : VK} {X : XK} {b : Ss} (hb : b = (.cons (.set (.v 3) (.ix (.lst (.cons (.k (.int 0)) (.cons (.ix (.v 1) (.k (.int 0))) (.cons (.call 11 (.cons (.v 0) (.cons (.bin .add (.ix (.v 1) (.k (.int 0))) (.k (.int 1))) .nil))) .nil)))) (.bi .min (.cons (.k (.int 2)) (.cons (.call 11 (.cons (.v 0) (.cons (.k (.int 5)) .nil))) .nil))))) (.cons (.set (.v 4) (.ix (.lst (.cons (.k (.int 0)) (.cons (.ix (.v 1) (.k (.int 1))) (.cons (.call 11 (.cons (.v 0) (.cons (.bin .add (.ix (.v 1) (.k (.int 1))) (.k (.int 1))) .nil))) .nil)))) (.bi .min (.cons (.k (.int 2)) (.cons (.call 11 (.cons (.v 0) (.cons (.k (.int 5)) .nil))) .nil))))) (.cons (.par 5 6 (.bin .sub (.call 11 (.cons (.v 0) (.cons (.bin .add (.bin .mul (.k (.int 2)) (.v 2)) (.k (.int 1))) .nil))) (.v 2)) (.bin .sub (.call 11 (.cons (.v 0) (.cons (.bin .add (.bin .mul (.k (.int 2)) (.v 2)) (.k (.int 1))) .nil))) (.v 2))) (.cons (.if_ (.cmp .eq (.call 11 (.cons (.v 0) (.cons (.k (.int 8)) .nil))) (.k (.int 0))) (.cons (.set (.v 5) (.k (.int 0))) .nil) (.cons (.if_ (.cmp .eq (.call 11 (.cons (.v 0) (.cons (.k (.int 8)) .nil))) (.k (.int 0))) (.cons (.set (.v 6) (.k (.int 0))) .nil) .nil) .nil)) (.cons (.ret (.ite (.cmp .ne (.tup (.cons (.v 5) (.cons (.v 6) .nil))) (.tup (.cons (.k (.int 0)) (.cons (.k (.int 0)) .nil)))) (.tup (.cons (.v 3) (.cons (.v 4) (.cons (.v 5) (.cons (.v 6) .nil))))) (.tup (.cons (.v 3) (.cons (.v 4) (.cons (.k (.int 1)) (.cons (.k (.int 1)) .nil))))))) .nil)))))) (hG : G.fn 11 = spDraw) (h : spRoll ds S0 Q X) : ds.length = 3 ∧ wpSs G b (start 7 ds) S0 (kR Q X) := by
  obtain ⟨w, a, b2, m, n, rfl, h1, hm, ha, ha2, hb', hb2, hw, hn, hq⟩ := h
  subst hb
  refine ⟨rfl, ?_⟩
  try simp only [wpSs, wpS, wpE, wpEs, wpC, wpAnd, wpOr, wpO, wpIt, opt_some, onI_int, onB_bl, onR_ref, arg1_one, look, joinO, start, List.map_cons, List.map_nil, List.length_cons, List.length_nil, List.replicate, List.cons_append, List.nil_append, List.append_nil, List.getElem?_cons_succ, List.getElem?_cons_zero, kcD, Nat.reduceAdd, Nat.reduceSub, br_t, br_f, br_n, asg, setAll, List.set_cons_succ, List.set_cons_zero, tgs, wipe, eq_ii, ne_ii, lt_ii, le_ii, gt_ii, ge_ii, is_n, isn_n, is_b, isn_b, add_ii, sub_ii, mul_ii, mod_ii, fdiv_ii, pow_ii, isNon, biD, intD_i, intD_b, esLen, beq_self_eq_true, ixD_tup, lsOf_new, seqD_tup, seqD_fl, slD_tup, bools, Option.map_some, true_and, ixD_fl, lenD_tup, lenD_fl, ix30, ix31, ix32, at20, at21, at30, at31, at32, List.filterMap_cons, List.filterMap_nil]
  refine call hG ⟨w, a + 1, n, rfl, by omega, by omega, hw, by omega, fun d1 S1 p1 q1 w1 k1 => ?_⟩
  refine mkL_ok (by simp) fun p hp => ?_
  obtain ⟨ow, ew⟩ := w1.some
  have hne := ne_new ew hp
  refine call hG ⟨w, 5, _, rfl, by decide, by decide, w1.ext (Ext.new hp), by omega, fun d2 S2 p2 q2 w2 k2 => ?_⟩
  have e2 := k2 p _ (Ne.symm hne) upd_at
  have kk2 : Kp w S0 S2 := k1.trans (((Ext.new hp).kp w).trans k2)
  simp only [wpSs, wpS, wpE, wpEs, wpC, wpAnd, wpOr, wpO, wpIt, opt_some, onI_int, onB_bl, onR_ref, arg1_one, look, joinO, start, List.map_cons, List.map_nil, List.length_cons, List.length_nil, List.replicate, List.cons_append, List.nil_append, List.append_nil, List.getElem?_cons_succ, List.getElem?_cons_zero, kcD, Nat.reduceAdd, Nat.reduceSub, br_t, br_f, br_n, asg, setAll, List.set_cons_succ, List.set_cons_zero, tgs, wipe, eq_ii, ne_ii, lt_ii, le_ii, gt_ii, ge_ii, is_n, isn_n, is_b, isn_b, add_ii, sub_ii, mul_ii, mod_ii, fdiv_ii, pow_ii, isNon, biD, intD_i, intD_b, esLen, beq_self_eq_true, ixD_tup, lsOf_new, seqD_tup, seqD_fl, slD_tup, bools, Option.map_some, true_and, ixD_fl, lenD_tup, lenD_fl, ix30, ix31, ix32, at20, at21, at30, at31, at32, List.filterMap_cons, List.filterMap_nil, ixD_ref e2]
  refine pick3 (lo := 0) (hi := a) (min2 p2).1 (min2 p2).2 (by omega) (by omega) (by omega) fun x hx0 hx1 => ?_
  try simp only [wpSs, wpS, wpE, wpEs, wpC, wpAnd, wpOr, wpO, wpIt, opt_some, onI_int, onB_bl, onR_ref, arg1_one, look, joinO, start, List.map_cons, List.map_nil, List.length_cons, List.length_nil, List.replicate, List.cons_append, List.nil_append, List.append_nil, List.getElem?_cons_succ, List.getElem?_cons_zero, kcD, Nat.reduceAdd, Nat.reduceSub, br_t, br_f, br_n, asg, setAll, List.set_cons_succ, List.set_cons_zero, tgs, wipe, eq_ii, ne_ii, lt_ii, le_ii, gt_ii, ge_ii, is_n, isn_n, is_b, isn_b, add_ii, sub_ii, mul_ii, mod_ii, fdiv_ii, pow_ii, isNon, biD, intD_i, intD_b, esLen, beq_self_eq_true, ixD_tup, lsOf_new, seqD_tup, seqD_fl, slD_tup, bools, Option.map_some, true_and, ixD_fl, lenD_tup, lenD_fl, ix30, ix31, ix32, at20, at21, at30, at31, at32, List.filterMap_cons, List.filterMap_nil]
  refine call hG ⟨w, b2 + 1, _, rfl, by omega, by omega, w2, by omega, fun d3 S3 p3 q3 w3 k3 => ?_⟩
  refine mkL_ok (by simp) fun p' hp' => ?_
  obtain ⟨ow, ew⟩ := w3.some
  have hne := ne_new ew hp'
  refine call hG ⟨w, 5, _, rfl, by decide, by decide, w3.ext (Ext.new hp'), by omega, fun d4 S4 p4 q4 w4 k4 => ?_⟩
  have e4 := k4 p' _ (Ne.symm hne) upd_at
  have kk4 : Kp w S0 S4 := kk2.trans (k3.trans (((Ext.new hp').kp w).trans k4))
  simp only [wpSs, wpS, wpE, wpEs, wpC, wpAnd, wpOr, wpO, wpIt, opt_some, onI_int, onB_bl, onR_ref, arg1_one, look, joinO, start, List.map_cons, List.map_nil, List.length_cons, List.length_nil, List.replicate, List.cons_append, List.nil_append, List.append_nil, List.getElem?_cons_succ, List.getElem?_cons_zero, kcD, Nat.reduceAdd, Nat.reduceSub, br_t, br_f, br_n, asg, setAll, List.set_cons_succ, List.set_cons_zero, tgs, wipe, eq_ii, ne_ii, lt_ii, le_ii, gt_ii, ge_ii, is_n, isn_n, is_b, isn_b, add_ii, sub_ii, mul_ii, mod_ii, fdiv_ii, pow_ii, isNon, biD, intD_i, intD_b, esLen, beq_self_eq_true, ixD_tup, lsOf_new, seqD_tup, seqD_fl, slD_tup, bools, Option.map_some, true_and, ixD_fl, lenD_tup, lenD_fl, ix30, ix31, ix32, at20, at21, at30, at31, at32, List.filterMap_cons, List.filterMap_nil, ixD_ref e4]
  refine pick3 (lo := 0) (hi := b2) (min2 p4).1 (min2 p4).2 (by omega) (by omega) (by omega) fun y hy0 hy1 => ?_
  try simp only [wpSs, wpS, wpE, wpEs, wpC, wpAnd, wpOr, wpO, wpIt, opt_some, onI_int, onB_bl, onR_ref, arg1_one, look, joinO, start, List.map_cons, List.map_nil, List.length_cons, List.length_nil, List.replicate, List.cons_append, List.nil_append, List.append_nil, List.getElem?_cons_succ, List.getElem?_cons_zero, kcD, Nat.reduceAdd, Nat.reduceSub, br_t, br_f, br_n, asg, setAll, List.set_cons_succ, List.set_cons_zero, tgs, wipe, eq_ii, ne_ii, lt_ii, le_ii, gt_ii, ge_ii, is_n, isn_n, is_b, isn_b, add_ii, sub_ii, mul_ii, mod_ii, fdiv_ii, pow_ii, isNon, biD, intD_i, intD_b, esLen, beq_self_eq_true, ixD_tup, lsOf_new, seqD_tup, seqD_fl, slD_tup, bools, Option.map_some, true_and, ixD_fl, lenD_tup, lenD_fl, ix30, ix31, ix32, at20, at21, at30, at31, at32, List.filterMap_cons, List.filterMap_nil]
  have sm2 : sm 2 := sm_of 8 (by decide) (by decide)
  have smm : sm m := sm_of 1000 (by decide) (by omega)
  refine ⟨sm2, smm, ?_⟩
  refine call hG ⟨w, 2 * m + 1, _, rfl, by omega, by omega, w4, by omega, fun d5 S5 p5 q5 w5 k5 => ?_⟩
  try simp only [wpSs, wpS, wpE, wpEs, wpC, wpAnd, wpOr, wpO, wpIt, opt_some, onI_int, onB_bl, onR_ref, arg1_one, look, joinO, start, List.map_cons, List.map_nil, List.length_cons, List.length_nil, List.replicate, List.cons_append, List.nil_append, List.append_nil, List.getElem?_cons_succ, List.getElem?_cons_zero, kcD, Nat.reduceAdd, Nat.reduceSub, br_t, br_f, br_n, asg, setAll, List.set_cons_succ, List.set_cons_zero, tgs, wipe, eq_ii, ne_ii, lt_ii, le_ii, gt_ii, ge_ii, is_n, isn_n, is_b, isn_b, add_ii, sub_ii, mul_ii, mod_ii, fdiv_ii, pow_ii, isNon, biD, intD_i, intD_b, esLen, beq_self_eq_true, ixD_tup, lsOf_new, seqD_tup, seqD_fl, slD_tup, bools, Option.map_some, true_and, ixD_fl, lenD_tup, lenD_fl, ix30, ix31, ix32, at20, at21, at30, at31, at32, List.filterMap_cons, List.filterMap_nil]
  refine ⟨sm2, smm, ?_⟩
  refine call hG ⟨w, 2 * m + 1, _, rfl, by omega, by omega, w5, by omega, fun d6 S6 p6 q6 w6 k6 => ?_⟩
  try simp only [wpSs, wpS, wpE, wpEs, wpC, wpAnd, wpOr, wpO, wpIt, opt_some, onI_int, onB_bl, onR_ref, arg1_one, look, joinO, start, List.map_cons, List.map_nil, List.length_cons, List.length_nil, List.replicate, List.cons_append, List.nil_append, List.append_nil, List.getElem?_cons_succ, List.getElem?_cons_zero, kcD, Nat.reduceAdd, Nat.reduceSub, br_t, br_f, br_n, asg, setAll, List.set_cons_succ, List.set_cons_zero, tgs, wipe, eq_ii, ne_ii, lt_ii, le_ii, gt_ii, ge_ii, is_n, isn_n, is_b, isn_b, add_ii, sub_ii, mul_ii, mod_ii, fdiv_ii, pow_ii, isNon, biD, intD_i, intD_b, esLen, beq_self_eq_true, ixD_tup, lsOf_new, seqD_tup, seqD_fl, slD_tup, bools, Option.map_some, true_and, ixD_fl, lenD_tup, lenD_fl, ix30, ix31, ix32, at20, at21, at30, at31, at32, List.filterMap_cons, List.filterMap_nil]
  refine call hG ⟨w, 8, _, rfl, by decide, by decide, w6, by omega, fun d7 S7 p7 q7 w7 k7 => ?_⟩
  try simp only [wpSs, wpS, wpE, wpEs, wpC, wpAnd, wpOr, wpO, wpIt, opt_some, onI_int, onB_bl, onR_ref, arg1_one, look, joinO, start, List.map_cons, List.map_nil, List.length_cons, List.length_nil, List.replicate, List.cons_append, List.nil_append, List.append_nil, List.getElem?_cons_succ, List.getElem?_cons_zero, kcD, Nat.reduceAdd, Nat.reduceSub, br_t, br_f, br_n, asg, setAll, List.set_cons_succ, List.set_cons_zero, tgs, wipe, eq_ii, ne_ii, lt_ii, le_ii, gt_ii, ge_ii, is_n, isn_n, is_b, isn_b, add_ii, sub_ii, mul_ii, mod_ii, fdiv_ii, pow_ii, isNon, biD, intD_i, intD_b, esLen, beq_self_eq_true, ixD_tup, lsOf_new, seqD_tup, seqD_fl, slD_tup, bools, Option.map_some, true_and, ixD_fl, lenD_tup, lenD_fl, ix30, ix31, ix32, at20, at21, at30, at31, at32, List.filterMap_cons, List.filterMap_nil]
  have kk7 : Kp w S0 S7 := kk4.trans (k5.trans (k6.trans k7))
  have l2 : 2 ≤ lim := len_lim (by decide)
  have l4 : 4 ≤ lim := len_lim (by decide)
  -- the end, for any way
  have fin : ∀ (p q : Int) (S : Sto), Well (n + 8) S w → Kp w S0 S → -m ≤ p → p ≤ m → -m ≤ q → q ≤ m → 2 ≤ lim ∧ 2 ≤ lim ∧ cmpD .ne (.tup [.int p, .int q]) (.tup [.int 0, .int 0]) S fun k => br k (4 ≤ lim ∧ Q (.tup [.int x, .int y, .int p, .int q]) S) (4 ≤ lim ∧ Q (.tup [.int x, .int y, .int 1, .int 1]) S) := by
    intro p q S hw hk hp1 hp2 hq1 hq2
    refine ⟨l2, l2, ne_pair.mpr (br_if (fun h => ⟨l4, ?_⟩) fun h => ⟨l4, ?_⟩)⟩
    · refine hq x y p q S hx0 hx1 hy0 hy1 ?_ hp1 hp2 hq1 hq2 hw hk
      by_cases hp : p = 0
      · right
        intro hz
        subst hp hz
        simp at h
      · exact .inl hp
    · exact hq x y 1 1 S hx0 hx1 hy0 hy1 (.inl (by decide)) (by omega) (by omega) (by omega) (by omega) hw hk
  refine br_if (fun _ => fin 0 _ S7 (w7.le (by omega)) kk7 (by omega) (by omega) (by omega) (by omega)) fun _ => ?_
  refine call hG ⟨w, 8, _, rfl, by decide, by decide, w7, by omega, fun d8 S8 p8 q8 w8 k8 => ?_⟩
  try simp only [wpSs, wpS, wpE, wpEs, wpC, wpAnd, wpOr, wpO, wpIt, opt_some, onI_int, onB_bl, onR_ref, arg1_one, look, joinO, start, List.map_cons, List.map_nil, List.length_cons, List.length_nil, List.replicate, List.cons_append, List.nil_append, List.append_nil, List.getElem?_cons_succ, List.getElem?_cons_zero, kcD, Nat.reduceAdd, Nat.reduceSub, br_t, br_f, br_n, asg, setAll, List.set_cons_succ, List.set_cons_zero, tgs, wipe, eq_ii, ne_ii, lt_ii, le_ii, gt_ii, ge_ii, is_n, isn_n, is_b, isn_b, add_ii, sub_ii, mul_ii, mod_ii, fdiv_ii, pow_ii, isNon, biD, intD_i, intD_b, esLen, beq_self_eq_true, ixD_tup, lsOf_new, seqD_tup, seqD_fl, slD_tup, bools, Option.map_some, true_and, ixD_fl, lenD_tup, lenD_fl, ix30, ix31, ix32, at20, at21, at30, at31, at32, List.filterMap_cons, List.filterMap_nil]
  refine br_if (fun _ => fin _ 0 S8 (w8.le (by omega)) (kk7.trans k8) (by omega) (by omega) (by omega) (by omega)) fun _ => fin _ _ S8 (w8.le (by omega)) (kk7.trans k8) (by omega) (by omega) (by omega) (by omega)
end M
namespace M
/-- its type is known -/
def Kn (S : Sto) : D → Prop
  | .ref a => ∃ o, S a = some o
  | .xn _ _ => False
  | _ => True
def isI : D → Bool
  | .int _ => true
  | _ => false
def isBl : D → Bool
  | .bl _ => true
  | _ => false
def isT : D → Bool
  | .tup _ => true
  | _ => false
def isS : D → Bool
  | .str _ => true
  | _ => false
theorem ty_int {S : Sto} {v : D} (h : Kn S v) : isTy S v .int = some (isI v || isBl v) := by
  cases v with
  | ref a =>
    obtain ⟨o, e⟩ := h
    show tyO (S a) .int = _
    rw [e]
    cases o <;> rfl
  | xn c fs => exact False.elim h
  | _ => rfl
theorem ty_bool {S : Sto} {v : D} (h : Kn S v) : isTy S v .bool = some (isBl v) := by
  cases v with
  | ref a =>
    obtain ⟨o, e⟩ := h
    show tyO (S a) .bool = _
    rw [e]
    cases o <;> rfl
  | xn c fs => exact False.elim h
  | _ => rfl
theorem ty_tuple {S : Sto} {v : D} (h : Kn S v) : isTy S v .tuple = some (isT v) := by
  cases v with
  | ref a =>
    obtain ⟨o, e⟩ := h
    show tyO (S a) .tuple = _
    rw [e]
    cases o <;> rfl
  | xn c fs => exact False.elim h
  | _ => rfl
def oI : Option Int → D
  | none => .non
  | some i => .int i
def intB : D → Option Int → Option Int → Bool
  | .int i, lo, hi => (match lo with | none => true | some l => decide (l ≤ i)) && (match hi with | none => true | some m => decide (i ≤ m))
  | _, _, _ => false
/-- is_integer(value, least, most) -/
def spInt : Sp := fun ds S Q _ => ∃ v lo hi, ds = [v, oI lo, oI hi] ∧ Kn S v ∧ Q (.bl (intB v lo hi)) S
theorem txt_int {G : Gm} {ds : List D} {S0 : Sto} {Q : VK} {X : XK} {b : Ss} (hb : b = (.cons (.if_ (.or (.not (.isi (.v 0) .int)) (.cons (.isi (.v 0) .bool) .nil)) (.cons (.ret (.k (.bl false))) .nil) .nil) (.cons (.ret (.and (.or (.cmp .is_ (.v 1) (.k .non)) (.cons (.cmp .le (.v 1) (.v 0)) .nil)) (.cons (.or (.cmp .is_ (.v 2) (.k .non)) (.cons (.cmp .le (.v 0) (.v 2)) .nil)) .nil))) .nil))) (h : spInt ds S0 Q X) : ds.length = 3 ∧ wpSs G b (start 3 ds) S0 (kR Q X) := by
  obtain ⟨v, lo, hi, rfl, hk, hq⟩ := h
  subst hb
  refine ⟨rfl, ?_⟩
  simp only [wpSs, wpS, wpE, wpEs, wpC, wpAnd, wpOr, wpO, wpIt, opt_some, onI_int, onB_bl, onR_ref, arg1_one, look, joinO, start, List.map_cons, List.map_nil, List.length_cons, List.length_nil, List.replicate, List.cons_append, List.nil_append, List.append_nil, List.getElem?_cons_succ, List.getElem?_cons_zero, kcD, Nat.reduceAdd, Nat.reduceSub, br_t, br_f, br_n, asg, setAll, List.set_cons_succ, List.set_cons_zero, tgs, wipe, eq_ii, ne_ii, lt_ii, le_ii, gt_ii, ge_ii, is_n, isn_n, is_b, isn_b, add_ii, sub_ii, mul_ii, mod_ii, fdiv_ii, pow_ii, isNon, biD, intD_i, intD_b, esLen, beq_self_eq_true, ixD_tup, lsOf_new, seqD_tup, seqD_fl, slD_tup, bools, Option.map_some, true_and, ixD_fl, lenD_tup, lenD_fl, ix30, ix31, ix32, at20, at21, at30, at31, at32, List.filterMap_cons, List.filterMap_nil, ty_int hk, ty_bool hk]
  cases v with
  | int i =>
    simp only [isI, isBl, Bool.or_false, br_t, br_f]
    cases lo <;> cases hi
    · exact (by simpa [oI, intB, wpSs, wpS, wpE, wpEs, wpC, wpAnd, wpOr, wpO, wpIt, opt_some, onI_int, onB_bl, onR_ref, arg1_one, look, joinO, start, List.map_cons, List.map_nil, List.length_cons, List.length_nil, List.replicate, List.cons_append, List.nil_append, List.append_nil, List.getElem?_cons_succ, List.getElem?_cons_zero, kcD, Nat.reduceAdd, Nat.reduceSub, br_t, br_f, br_n, asg, setAll, List.set_cons_succ, List.set_cons_zero, tgs, wipe, eq_ii, ne_ii, lt_ii, le_ii, gt_ii, ge_ii, is_n, isn_n, is_b, isn_b, add_ii, sub_ii, mul_ii, mod_ii, fdiv_ii, pow_ii, isNon, biD, intD_i, intD_b, esLen, beq_self_eq_true, ixD_tup, lsOf_new, seqD_tup, seqD_fl, slD_tup, bools, Option.map_some, true_and, ixD_fl, lenD_tup, lenD_fl, ix30, ix31, ix32, at20, at21, at30, at31, at32, List.filterMap_cons, List.filterMap_nil] using hq)
    · exact (by simpa [oI, intB, wpSs, wpS, wpE, wpEs, wpC, wpAnd, wpOr, wpO, wpIt, opt_some, onI_int, onB_bl, onR_ref, arg1_one, look, joinO, start, List.map_cons, List.map_nil, List.length_cons, List.length_nil, List.replicate, List.cons_append, List.nil_append, List.append_nil, List.getElem?_cons_succ, List.getElem?_cons_zero, kcD, Nat.reduceAdd, Nat.reduceSub, br_t, br_f, br_n, asg, setAll, List.set_cons_succ, List.set_cons_zero, tgs, wipe, eq_ii, ne_ii, lt_ii, le_ii, gt_ii, ge_ii, is_n, isn_n, is_b, isn_b, add_ii, sub_ii, mul_ii, mod_ii, fdiv_ii, pow_ii, isNon, biD, intD_i, intD_b, esLen, beq_self_eq_true, ixD_tup, lsOf_new, seqD_tup, seqD_fl, slD_tup, bools, Option.map_some, true_and, ixD_fl, lenD_tup, lenD_fl, ix30, ix31, ix32, at20, at21, at30, at31, at32, List.filterMap_cons, List.filterMap_nil] using hq)
    · rename_i l
      have hq : Q (.bl (decide (l ≤ i) && true)) S0 := hq
      simp only [oI, wpSs, wpS, wpE, wpEs, wpC, wpAnd, wpOr, wpO, wpIt, opt_some, onI_int, onB_bl, onR_ref, arg1_one, look, joinO, start, List.map_cons, List.map_nil, List.length_cons, List.length_nil, List.replicate, List.cons_append, List.nil_append, List.append_nil, List.getElem?_cons_succ, List.getElem?_cons_zero, kcD, Nat.reduceAdd, Nat.reduceSub, br_t, br_f, br_n, asg, setAll, List.set_cons_succ, List.set_cons_zero, tgs, wipe, eq_ii, ne_ii, lt_ii, le_ii, gt_ii, ge_ii, is_n, isn_n, is_b, isn_b, add_ii, sub_ii, mul_ii, mod_ii, fdiv_ii, pow_ii, isNon, biD, intD_i, intD_b, esLen, beq_self_eq_true, ixD_tup, lsOf_new, seqD_tup, seqD_fl, slD_tup, bools, Option.map_some, true_and, ixD_fl, lenD_tup, lenD_fl, ix30, ix31, ix32, at20, at21, at30, at31, at32, List.filterMap_cons, List.filterMap_nil]
      exact br_if (fun h => by rw [h] at hq; exact hq) fun h => by rw [h] at hq; exact hq
    · rename_i l m
      have hq : Q (.bl (decide (l ≤ i) && decide (i ≤ m))) S0 := hq
      simp only [oI, wpSs, wpS, wpE, wpEs, wpC, wpAnd, wpOr, wpO, wpIt, opt_some, onI_int, onB_bl, onR_ref, arg1_one, look, joinO, start, List.map_cons, List.map_nil, List.length_cons, List.length_nil, List.replicate, List.cons_append, List.nil_append, List.append_nil, List.getElem?_cons_succ, List.getElem?_cons_zero, kcD, Nat.reduceAdd, Nat.reduceSub, br_t, br_f, br_n, asg, setAll, List.set_cons_succ, List.set_cons_zero, tgs, wipe, eq_ii, ne_ii, lt_ii, le_ii, gt_ii, ge_ii, is_n, isn_n, is_b, isn_b, add_ii, sub_ii, mul_ii, mod_ii, fdiv_ii, pow_ii, isNon, biD, intD_i, intD_b, esLen, beq_self_eq_true, ixD_tup, lsOf_new, seqD_tup, seqD_fl, slD_tup, bools, Option.map_some, true_and, ixD_fl, lenD_tup, lenD_fl, ix30, ix31, ix32, at20, at21, at30, at31, at32, List.filterMap_cons, List.filterMap_nil]
      exact br_if (fun h => by rw [h] at hq; exact hq) fun h => by rw [h] at hq; exact hq
  | bl i => exact br_t.mpr (br_t.mpr hq)
  | _ => exact br_f.mpr hq
/-- divisor(one, other) -/
def spGcd : Sp := fun ds S Q _ => ∃ a b : Int, ds = [.int a, .int b] ∧ Q (.int (Int.gcd a b : Nat)) S
theorem abs_ite (a : Int) : (if a < 0 then -a else a) = (a.natAbs : Int) := by split <;> omega
end M
namespace M
/-- a value whose types are known, one deep -/
def Vl (S : Sto) (v : D) : Prop := Kn S v ∧ ∀ xs, v = .tup xs → ∀ y ∈ xs, Kn S y
theorem Kn.ext {S S' : Sto} {v : D} (h : Kn S v) (k : Ext S S') : Kn S' v := by
  cases v with
  | ref a => obtain ⟨o, e⟩ := h; exact ⟨o, k _ _ e⟩
  | xn _ _ => exact h
  | _ => trivial
theorem Vl.ext {S S' : Sto} {v : D} (h : Vl S v) (k : Ext S S') : Vl S' v := ⟨h.1.ext k, fun xs e y hy => (h.2 xs e y hy).ext k⟩
theorem isT_of {v : D} (h : isT v = true) : ∃ xs, v = .tup xs := by
  cases v <;> first | exact ⟨_, rfl⟩ | cases h
theorem len2 {α : Type} {xs : List α} (h : (((xs.length : Nat) : Int) == 2) = true) : ∃ x y, xs = [x, y] := by
  have h : ((xs.length : Nat) : Int) = 2 := by simpa using h
  match xs, h with
  | [x, y], _ => exact ⟨x, y, rfl⟩
  | [], h => simp at h
  | [_], h => simp at h
  | _ :: _ :: _ :: _, h => simp at h; omega
theorem len4 {α : Type} {xs : List α} (h : (((xs.length : Nat) : Int) == 4) = true) : ∃ x y z u, xs = [x, y, z, u] := by
  have h : ((xs.length : Nat) : Int) = 4 := by simpa using h
  match xs, h with
  | [x, y, z, u], _ => exact ⟨x, y, z, u, rfl⟩
  | [], h => simp at h
  | [_], h => simp at h
  | [_, _], h => simp at h
  | [_, _, _], h => simp at h
  | _ :: _ :: _ :: _ :: _ :: _, h => simp at h; omega
def tabL : List D → Bool
  | [x, y] => intB x (some 1) none && intB y (some 1) none
  | _ => false
/-- is it a table -/
def tabB : D → Bool
  | .tup xs => tabL xs
  | _ => false
theorem tabL_len {xs : List D} (h : (((xs.length : Nat) : Int) == 2) = false) : tabL xs = false := by
  unfold tabL
  split
  · simp at h
  · rfl
def spTab : Sp := fun ds S Q _ => ∃ v, ds = [v] ∧ Vl S v ∧ ∀ S', Ext S S' → Q (.bl (tabB v)) S'
theorem txt_tab {G : Gm} {ds : List D} {S0 : Sto} {Q : VK} {X : XK} {b : Ss} (hb : b = (.cons (.ret (.and (.isi (.v 0) .tuple) (.cons (.cmp .eq (.bi .len (.cons (.v 0) .nil)) (.k (.int 2))) (.cons (.bi .all (.cons (.comp (.call 0 (.cons (.v 1) (.cons (.k (.int 1)) (.cons (.k .non) .nil)))) (.v 1) (.seq (.v 0)) .none) .nil)) .nil)))) .nil)) (h0 : G.fn 0 = spInt) (h : spTab ds S0 Q X) : ds.length = 1 ∧ wpSs G b (start 2 ds) S0 (kR Q X) := by
  obtain ⟨v, rfl, hv, hq⟩ := h
  subst hb
  refine ⟨rfl, ?_⟩
  simp only [wpSs, wpS, wpE, wpEs, wpC, wpAnd, wpOr, wpO, wpIt, opt_some, onI_int, onB_bl, onR_ref, arg1_one, look, joinO, start, List.map_cons, List.map_nil, List.length_cons, List.length_nil, List.replicate, List.cons_append, List.nil_append, List.append_nil, List.getElem?_cons_succ, List.getElem?_cons_zero, kcD, Nat.reduceAdd, Nat.reduceSub, br_t, br_f, br_n, asg, setAll, List.set_cons_succ, List.set_cons_zero, tgs, wipe, eq_ii, ne_ii, lt_ii, le_ii, gt_ii, ge_ii, is_n, isn_n, is_b, isn_b, add_ii, sub_ii, mul_ii, mod_ii, fdiv_ii, pow_ii, isNon, biD, intD_i, intD_b, esLen, beq_self_eq_true, ixD_tup, lsOf_new, seqD_tup, seqD_fl, slD_tup, bools, Option.map_some, true_and, ixD_fl, lenD_tup, lenD_fl, ix30, ix31, ix32, at20, at21, at30, at31, at32, List.filterMap_cons, List.filterMap_nil, ty_tuple hv.1]
  refine br_if (fun hT => ?_) fun hT => ?_
  · obtain ⟨xs, rfl⟩ := isT_of hT
    have hx := hv.2 xs rfl
    simp only [wpSs, wpS, wpE, wpEs, wpC, wpAnd, wpOr, wpO, wpIt, opt_some, onI_int, onB_bl, onR_ref, arg1_one, look, joinO, start, List.map_cons, List.map_nil, List.length_cons, List.length_nil, List.replicate, List.cons_append, List.nil_append, List.append_nil, List.getElem?_cons_succ, List.getElem?_cons_zero, kcD, Nat.reduceAdd, Nat.reduceSub, br_t, br_f, br_n, asg, setAll, List.set_cons_succ, List.set_cons_zero, tgs, wipe, eq_ii, ne_ii, lt_ii, le_ii, gt_ii, ge_ii, is_n, isn_n, is_b, isn_b, add_ii, sub_ii, mul_ii, mod_ii, fdiv_ii, pow_ii, isNon, biD, intD_i, intD_b, esLen, beq_self_eq_true, ixD_tup, lsOf_new, seqD_tup, seqD_fl, slD_tup, bools, Option.map_some, true_and, ixD_fl, lenD_tup, lenD_fl, ix30, ix31, ix32, at20, at21, at30, at31, at32, List.filterMap_cons, List.filterMap_nil]
    refine br_if (fun hl => ?_) fun hl => ?_
    · obtain ⟨x, y, rfl⟩ := len2 hl
      simp only [wpSs, wpS, wpE, wpEs, wpC, wpAnd, wpOr, wpO, wpIt, opt_some, onI_int, onB_bl, onR_ref, arg1_one, look, joinO, start, List.map_cons, List.map_nil, List.length_cons, List.length_nil, List.replicate, List.cons_append, List.nil_append, List.append_nil, List.getElem?_cons_succ, List.getElem?_cons_zero, kcD, Nat.reduceAdd, Nat.reduceSub, br_t, br_f, br_n, asg, setAll, List.set_cons_succ, List.set_cons_zero, tgs, wipe, eq_ii, ne_ii, lt_ii, le_ii, gt_ii, ge_ii, is_n, isn_n, is_b, isn_b, add_ii, sub_ii, mul_ii, mod_ii, fdiv_ii, pow_ii, isNon, biD, intD_i, intD_b, esLen, beq_self_eq_true, ixD_tup, lsOf_new, seqD_tup, seqD_fl, slD_tup, bools, Option.map_some, true_and, ixD_fl, lenD_tup, lenD_fl, ix30, ix31, ix32, at20, at21, at30, at31, at32, List.filterMap_cons, List.filterMap_nil, compW]
      refine ⟨len_lim (by decide), ?_⟩
      refine call h0 ⟨x, some 1, none, rfl, hx x (by simp), ?_⟩
      try simp only [wpSs, wpS, wpE, wpEs, wpC, wpAnd, wpOr, wpO, wpIt, opt_some, onI_int, onB_bl, onR_ref, arg1_one, look, joinO, start, List.map_cons, List.map_nil, List.length_cons, List.length_nil, List.replicate, List.cons_append, List.nil_append, List.append_nil, List.getElem?_cons_succ, List.getElem?_cons_zero, kcD, Nat.reduceAdd, Nat.reduceSub, br_t, br_f, br_n, asg, setAll, List.set_cons_succ, List.set_cons_zero, tgs, wipe, eq_ii, ne_ii, lt_ii, le_ii, gt_ii, ge_ii, is_n, isn_n, is_b, isn_b, add_ii, sub_ii, mul_ii, mod_ii, fdiv_ii, pow_ii, isNon, biD, intD_i, intD_b, esLen, beq_self_eq_true, ixD_tup, lsOf_new, seqD_tup, seqD_fl, slD_tup, bools, Option.map_some, true_and, ixD_fl, lenD_tup, lenD_fl, ix30, ix31, ix32, at20, at21, at30, at31, at32, List.filterMap_cons, List.filterMap_nil, compW]
      refine call h0 ⟨y, some 1, none, rfl, hx y (by simp), ?_⟩
      try simp only [wpSs, wpS, wpE, wpEs, wpC, wpAnd, wpOr, wpO, wpIt, opt_some, onI_int, onB_bl, onR_ref, arg1_one, look, joinO, start, List.map_cons, List.map_nil, List.length_cons, List.length_nil, List.replicate, List.cons_append, List.nil_append, List.append_nil, List.getElem?_cons_succ, List.getElem?_cons_zero, kcD, Nat.reduceAdd, Nat.reduceSub, br_t, br_f, br_n, asg, setAll, List.set_cons_succ, List.set_cons_zero, tgs, wipe, eq_ii, ne_ii, lt_ii, le_ii, gt_ii, ge_ii, is_n, isn_n, is_b, isn_b, add_ii, sub_ii, mul_ii, mod_ii, fdiv_ii, pow_ii, isNon, biD, intD_i, intD_b, esLen, beq_self_eq_true, ixD_tup, lsOf_new, seqD_tup, seqD_fl, slD_tup, bools, Option.map_some, true_and, ixD_fl, lenD_tup, lenD_fl, ix30, ix31, ix32, at20, at21, at30, at31, at32, List.filterMap_cons, List.filterMap_nil, compW]
      intro p hp
      simp only [wpSs, wpS, wpE, wpEs, wpC, wpAnd, wpOr, wpO, wpIt, opt_some, onI_int, onB_bl, onR_ref, arg1_one, look, joinO, start, List.map_cons, List.map_nil, List.length_cons, List.length_nil, List.replicate, List.cons_append, List.nil_append, List.append_nil, List.getElem?_cons_succ, List.getElem?_cons_zero, kcD, Nat.reduceAdd, Nat.reduceSub, br_t, br_f, br_n, asg, setAll, List.set_cons_succ, List.set_cons_zero, tgs, wipe, eq_ii, ne_ii, lt_ii, le_ii, gt_ii, ge_ii, is_n, isn_n, is_b, isn_b, add_ii, sub_ii, mul_ii, mod_ii, fdiv_ii, pow_ii, isNon, biD, intD_i, intD_b, esLen, beq_self_eq_true, ixD_tup, lsOf_new, seqD_tup, seqD_fl, slD_tup, bools, Option.map_some, true_and, ixD_fl, lenD_tup, lenD_fl, ix30, ix31, ix32, at20, at21, at30, at31, at32, List.filterMap_cons, List.filterMap_nil, Option.toList]
      have e := hq _ (Ext.new (o := .lst [.bl (intB x (some 1) none), .bl (intB y (some 1) none)]) hp)
      simpa [tabB, tabL] using e
    · have e : tabB (.tup xs) = false := tabL_len hl
      rw [e] at hq
      exact hq S0 Ext.refl
  · have e : tabB v = false := by cases v <;> first | rfl | cases hT
    rw [e] at hq
    exact hq S0 Ext.refl
def int0 : D → Int
  | .int i => i
  | _ => 0
def freeL : List D → Bool
  | [x, y, z, u] => (isI x && isI y && isI z && isI u) && (decide (0 ≤ int0 x) && decide (0 ≤ int0 y) && !(int0 z == 0 && int0 u == 0))
  | _ => false
/-- is it a free shot -/
def freeB : D → Bool
  | .tup xs => freeL xs
  | _ => false
theorem freeL_len {xs : List D} (h : (((xs.length : Nat) : Int) == 4) = false) : freeL xs = false := by
  unfold freeL
  split
  · simp at h
  · rfl
theorem intB_none {v : D} : intB v none none = isI v := by cases v <;> rfl
theorem isI_of {v : D} (h : isI v = true) : ∃ i, v = .int i := by cases v <;> first | exact ⟨_, rfl⟩ | cases h
def spFree : Sp := fun ds S Q _ => ∃ v, ds = [v] ∧ Vl S v ∧ ∀ S', Ext S S' → Q (.bl (freeB v)) S'
theorem txt_free {G : Gm} {ds : List D} {S0 : Sto} {Q : VK} {X : XK} {b : Ss} (hb : b = (.cons (.if_ (.or (.not (.isi (.v 0) .tuple)) (.cons (.cmp .ne (.bi .len (.cons (.v 0) .nil)) (.k (.int 4))) (.cons (.not (.bi .all (.cons (.comp (.call 0 (.cons (.v 1) (.cons (.k .non) (.cons (.k .non) .nil)))) (.v 1) (.seq (.v 0)) .none) .nil))) .nil))) (.cons (.ret (.k (.bl false))) .nil) .nil) (.cons (.ret (.and (.cmp .ge (.ix (.v 0) (.k (.int 0))) (.k (.int 0))) (.cons (.cmp .ge (.ix (.v 0) (.k (.int 1))) (.k (.int 0))) (.cons (.cmp .ne (.sl (.v 0) (.some (.k (.int 2))) .none) (.tup (.cons (.k (.int 0)) (.cons (.k (.int 0)) .nil)))) .nil)))) .nil))) (h0 : G.fn 0 = spInt) (h : spFree ds S0 Q X) : ds.length = 1 ∧ wpSs G b (start 2 ds) S0 (kR Q X) := by
  obtain ⟨v, rfl, hv, hq⟩ := h
  subst hb
  refine ⟨rfl, ?_⟩
  simp only [wpSs, wpS, wpE, wpEs, wpC, wpAnd, wpOr, wpO, wpIt, opt_some, onI_int, onB_bl, onR_ref, arg1_one, look, joinO, start, List.map_cons, List.map_nil, List.length_cons, List.length_nil, List.replicate, List.cons_append, List.nil_append, List.append_nil, List.getElem?_cons_succ, List.getElem?_cons_zero, kcD, Nat.reduceAdd, Nat.reduceSub, br_t, br_f, br_n, asg, setAll, List.set_cons_succ, List.set_cons_zero, tgs, wipe, eq_ii, ne_ii, lt_ii, le_ii, gt_ii, ge_ii, is_n, isn_n, is_b, isn_b, add_ii, sub_ii, mul_ii, mod_ii, fdiv_ii, pow_ii, isNon, biD, intD_i, intD_b, esLen, beq_self_eq_true, ixD_tup, lsOf_new, seqD_tup, seqD_fl, slD_tup, bools, Option.map_some, true_and, ixD_fl, lenD_tup, lenD_fl, ix30, ix31, ix32, at20, at21, at30, at31, at32, List.filterMap_cons, List.filterMap_nil, ty_tuple hv.1]
  refine br_if (fun hT => ?_) fun hT => ?_
  · obtain ⟨xs, rfl⟩ := isT_of hT
    have hx := hv.2 xs rfl
    simp only [wpSs, wpS, wpE, wpEs, wpC, wpAnd, wpOr, wpO, wpIt, opt_some, onI_int, onB_bl, onR_ref, arg1_one, look, joinO, start, List.map_cons, List.map_nil, List.length_cons, List.length_nil, List.replicate, List.cons_append, List.nil_append, List.append_nil, List.getElem?_cons_succ, List.getElem?_cons_zero, kcD, Nat.reduceAdd, Nat.reduceSub, br_t, br_f, br_n, asg, setAll, List.set_cons_succ, List.set_cons_zero, tgs, wipe, eq_ii, ne_ii, lt_ii, le_ii, gt_ii, ge_ii, is_n, isn_n, is_b, isn_b, add_ii, sub_ii, mul_ii, mod_ii, fdiv_ii, pow_ii, isNon, biD, intD_i, intD_b, esLen, beq_self_eq_true, ixD_tup, lsOf_new, seqD_tup, seqD_fl, slD_tup, bools, Option.map_some, true_and, ixD_fl, lenD_tup, lenD_fl, ix30, ix31, ix32, at20, at21, at30, at31, at32, List.filterMap_cons, List.filterMap_nil]
    refine br_if (fun hl => ?_) fun hl => ?_
    · obtain ⟨x, y, z, u, rfl⟩ := len4 hl
      simp only [wpSs, wpS, wpE, wpEs, wpC, wpAnd, wpOr, wpO, wpIt, opt_some, onI_int, onB_bl, onR_ref, arg1_one, look, joinO, start, List.map_cons, List.map_nil, List.length_cons, List.length_nil, List.replicate, List.cons_append, List.nil_append, List.append_nil, List.getElem?_cons_succ, List.getElem?_cons_zero, kcD, Nat.reduceAdd, Nat.reduceSub, br_t, br_f, br_n, asg, setAll, List.set_cons_succ, List.set_cons_zero, tgs, wipe, eq_ii, ne_ii, lt_ii, le_ii, gt_ii, ge_ii, is_n, isn_n, is_b, isn_b, add_ii, sub_ii, mul_ii, mod_ii, fdiv_ii, pow_ii, isNon, biD, intD_i, intD_b, esLen, beq_self_eq_true, ixD_tup, lsOf_new, seqD_tup, seqD_fl, slD_tup, bools, Option.map_some, true_and, ixD_fl, lenD_tup, lenD_fl, ix30, ix31, ix32, at20, at21, at30, at31, at32, List.filterMap_cons, List.filterMap_nil, compW]
      refine ⟨len_lim (by decide), ?_⟩
      refine call h0 ⟨x, none, none, rfl, hx x (by simp), ?_⟩
      try simp only [wpSs, wpS, wpE, wpEs, wpC, wpAnd, wpOr, wpO, wpIt, opt_some, onI_int, onB_bl, onR_ref, arg1_one, look, joinO, start, List.map_cons, List.map_nil, List.length_cons, List.length_nil, List.replicate, List.cons_append, List.nil_append, List.append_nil, List.getElem?_cons_succ, List.getElem?_cons_zero, kcD, Nat.reduceAdd, Nat.reduceSub, br_t, br_f, br_n, asg, setAll, List.set_cons_succ, List.set_cons_zero, tgs, wipe, eq_ii, ne_ii, lt_ii, le_ii, gt_ii, ge_ii, is_n, isn_n, is_b, isn_b, add_ii, sub_ii, mul_ii, mod_ii, fdiv_ii, pow_ii, isNon, biD, intD_i, intD_b, esLen, beq_self_eq_true, ixD_tup, lsOf_new, seqD_tup, seqD_fl, slD_tup, bools, Option.map_some, true_and, ixD_fl, lenD_tup, lenD_fl, ix30, ix31, ix32, at20, at21, at30, at31, at32, List.filterMap_cons, List.filterMap_nil, compW]
      refine call h0 ⟨y, none, none, rfl, hx y (by simp), ?_⟩
      try simp only [wpSs, wpS, wpE, wpEs, wpC, wpAnd, wpOr, wpO, wpIt, opt_some, onI_int, onB_bl, onR_ref, arg1_one, look, joinO, start, List.map_cons, List.map_nil, List.length_cons, List.length_nil, List.replicate, List.cons_append, List.nil_append, List.append_nil, List.getElem?_cons_succ, List.getElem?_cons_zero, kcD, Nat.reduceAdd, Nat.reduceSub, br_t, br_f, br_n, asg, setAll, List.set_cons_succ, List.set_cons_zero, tgs, wipe, eq_ii, ne_ii, lt_ii, le_ii, gt_ii, ge_ii, is_n, isn_n, is_b, isn_b, add_ii, sub_ii, mul_ii, mod_ii, fdiv_ii, pow_ii, isNon, biD, intD_i, intD_b, esLen, beq_self_eq_true, ixD_tup, lsOf_new, seqD_tup, seqD_fl, slD_tup, bools, Option.map_some, true_and, ixD_fl, lenD_tup, lenD_fl, ix30, ix31, ix32, at20, at21, at30, at31, at32, List.filterMap_cons, List.filterMap_nil, compW]
      refine call h0 ⟨z, none, none, rfl, hx z (by simp), ?_⟩
      try simp only [wpSs, wpS, wpE, wpEs, wpC, wpAnd, wpOr, wpO, wpIt, opt_some, onI_int, onB_bl, onR_ref, arg1_one, look, joinO, start, List.map_cons, List.map_nil, List.length_cons, List.length_nil, List.replicate, List.cons_append, List.nil_append, List.append_nil, List.getElem?_cons_succ, List.getElem?_cons_zero, kcD, Nat.reduceAdd, Nat.reduceSub, br_t, br_f, br_n, asg, setAll, List.set_cons_succ, List.set_cons_zero, tgs, wipe, eq_ii, ne_ii, lt_ii, le_ii, gt_ii, ge_ii, is_n, isn_n, is_b, isn_b, add_ii, sub_ii, mul_ii, mod_ii, fdiv_ii, pow_ii, isNon, biD, intD_i, intD_b, esLen, beq_self_eq_true, ixD_tup, lsOf_new, seqD_tup, seqD_fl, slD_tup, bools, Option.map_some, true_and, ixD_fl, lenD_tup, lenD_fl, ix30, ix31, ix32, at20, at21, at30, at31, at32, List.filterMap_cons, List.filterMap_nil, compW]
      refine call h0 ⟨u, none, none, rfl, hx u (by simp), ?_⟩
      try simp only [wpSs, wpS, wpE, wpEs, wpC, wpAnd, wpOr, wpO, wpIt, opt_some, onI_int, onB_bl, onR_ref, arg1_one, look, joinO, start, List.map_cons, List.map_nil, List.length_cons, List.length_nil, List.replicate, List.cons_append, List.nil_append, List.append_nil, List.getElem?_cons_succ, List.getElem?_cons_zero, kcD, Nat.reduceAdd, Nat.reduceSub, br_t, br_f, br_n, asg, setAll, List.set_cons_succ, List.set_cons_zero, tgs, wipe, eq_ii, ne_ii, lt_ii, le_ii, gt_ii, ge_ii, is_n, isn_n, is_b, isn_b, add_ii, sub_ii, mul_ii, mod_ii, fdiv_ii, pow_ii, isNon, biD, intD_i, intD_b, esLen, beq_self_eq_true, ixD_tup, lsOf_new, seqD_tup, seqD_fl, slD_tup, bools, Option.map_some, true_and, ixD_fl, lenD_tup, lenD_fl, ix30, ix31, ix32, at20, at21, at30, at31, at32, List.filterMap_cons, List.filterMap_nil, compW]
      intro p hp
      simp only [wpSs, wpS, wpE, wpEs, wpC, wpAnd, wpOr, wpO, wpIt, opt_some, onI_int, onB_bl, onR_ref, arg1_one, look, joinO, start, List.map_cons, List.map_nil, List.length_cons, List.length_nil, List.replicate, List.cons_append, List.nil_append, List.append_nil, List.getElem?_cons_succ, List.getElem?_cons_zero, kcD, Nat.reduceAdd, Nat.reduceSub, br_t, br_f, br_n, asg, setAll, List.set_cons_succ, List.set_cons_zero, tgs, wipe, eq_ii, ne_ii, lt_ii, le_ii, gt_ii, ge_ii, is_n, isn_n, is_b, isn_b, add_ii, sub_ii, mul_ii, mod_ii, fdiv_ii, pow_ii, isNon, biD, intD_i, intD_b, esLen, beq_self_eq_true, ixD_tup, lsOf_new, seqD_tup, seqD_fl, slD_tup, bools, Option.map_some, true_and, ixD_fl, lenD_tup, lenD_fl, ix30, ix31, ix32, at20, at21, at30, at31, at32, List.filterMap_cons, List.filterMap_nil, Option.toList, intB_none, List.all_cons, List.all_nil, id, Bool.and_true]
      have ex := Ext.new (o := .lst [.bl (isI x), .bl (isI y), .bl (isI z), .bl (isI u)]) hp
      have hq := hq _ ex
      refine br_if (fun ha => ?_) fun ha => ?_
      · simp only [Bool.and_eq_true] at ha
        obtain ⟨a1, a2, a3, a4⟩ := ha
        obtain ⟨i, rfl⟩ := isI_of a1
        obtain ⟨j, rfl⟩ := isI_of a2
        obtain ⟨m, rfl⟩ := isI_of a3
        obtain ⟨n, rfl⟩ := isI_of a4
        have e0 : atI [D.int i, D.int j, D.int m, D.int n] 0 = some (.int i) := rfl
        have e1 : atI [D.int i, D.int j, D.int m, D.int n] 1 = some (.int j) := rfl
        have e2 : cut [D.int i, D.int j, D.int m, D.int n] (some 2) none = [.int m, .int n] := rfl
        simp only [wpSs, wpS, wpE, wpEs, wpC, wpAnd, wpOr, wpO, wpIt, opt_some, onI_int, onB_bl, onR_ref, arg1_one, look, joinO, start, List.map_cons, List.map_nil, List.length_cons, List.length_nil, List.replicate, List.cons_append, List.nil_append, List.append_nil, List.getElem?_cons_succ, List.getElem?_cons_zero, kcD, Nat.reduceAdd, Nat.reduceSub, br_t, br_f, br_n, asg, setAll, List.set_cons_succ, List.set_cons_zero, tgs, wipe, eq_ii, ne_ii, lt_ii, le_ii, gt_ii, ge_ii, is_n, isn_n, is_b, isn_b, add_ii, sub_ii, mul_ii, mod_ii, fdiv_ii, pow_ii, isNon, biD, intD_i, intD_b, esLen, beq_self_eq_true, ixD_tup, lsOf_new, seqD_tup, seqD_fl, slD_tup, bools, Option.map_some, true_and, ixD_fl, lenD_tup, lenD_fl, ix30, ix31, ix32, at20, at21, at30, at31, at32, List.filterMap_cons, List.filterMap_nil, e0, e1, e2]
        have ef : freeB (.tup [.int i, .int j, .int m, .int n]) = (decide (0 ≤ i) && decide (0 ≤ j) && !(m == 0 && n == 0)) := rfl
        rw [ef] at hq
        refine br_if (fun g1 => br_if (fun g2 => ⟨len_lim (by decide), ne_pair.mpr ?_⟩) fun g2 => ?_) fun g1 => ?_
        · rw [g1, g2] at hq; exact hq
        · rw [g1, g2] at hq; exact hq
        · rw [g1] at hq; exact hq
      · have e : freeB (.tup [x, y, z, u]) = false := by
          show ((isI x && isI y && isI z && isI u) && _) = false
          have : (isI x && isI y && isI z && isI u) = false := by
            rw [← ha]; simp [Bool.and_assoc]
          rw [this]; rfl
        rw [e] at hq
        exact hq
    · have e : freeB (.tup xs) = false := freeL_len hl
      rw [e] at hq
      exact hq S0 Ext.refl
  · have e : freeB v = false := by cases v <;> first | rfl | cases hT
    rw [e] at hq
    exact hq S0 Ext.refl
/-- is it a shot on a table of the sides X, Y -/
def rollB (a b : Int) (v : D) : Bool := freeB v && (match v with
  | .tup [x, y, _, _] => decide (int0 x ≤ a) && decide (int0 y ≤ b)
  | _ => false)
theorem free_of {v : D} (h : freeB v = true) : ∃ i j m n, v = .tup [.int i, .int j, .int m, .int n] := by
  cases v with
  | tup xs =>
    have h : freeL xs = true := h
    unfold freeL at h
    split at h
    · simp only [Bool.and_eq_true] at h
      obtain ⟨⟨⟨⟨a1, a2⟩, a3⟩, a4⟩, _⟩ := h
      obtain ⟨i, rfl⟩ := isI_of a1
      obtain ⟨j, rfl⟩ := isI_of a2
      obtain ⟨m, rfl⟩ := isI_of a3
      obtain ⟨n, rfl⟩ := isI_of a4
      exact ⟨i, j, m, n, rfl⟩
    · cases h
  | _ => cases h
/-- is_shot_on(table, value) -/
def spOn : Sp := fun ds S Q _ => ∃ a b v, ds = [.tup [.int a, .int b], v] ∧ Vl S v ∧ ∀ S', Ext S S' → Q (.bl (rollB a b v)) S'
def partL : List D → Bool
  | [x, y] => isI x && intB y (some 1) none && (Int.gcd (int0 x) (int0 y) == 1)
  | _ => false
/-- is it a fraction in lowest terms -/
def partB : D → Bool
  | .tup xs => partL xs
  | _ => false
theorem partL_len {xs : List D} (h : (((xs.length : Nat) : Int) == 2) = false) : partL xs = false := by
  unfold partL
  split
  · simp at h
  · rfl
theorem intB_of {v : D} {l : Int} (h : intB v (some l) none = true) : ∃ i, v = .int i ∧ l ≤ i := by
  cases v with
  | int i => exact ⟨i, rfl, by simpa [intB] using h⟩
  | _ => cases h
def spPart : Sp := fun ds S Q _ => ∃ v, ds = [v] ∧ Vl S v ∧ ∀ S', Ext S S' → Q (.bl (partB v)) S'
/-- check_table(table) of a table -/
def spCheck : Sp := fun ds S Q _ => ∃ a b : Int, ds = [.tup [.int a, .int b]] ∧ 1 ≤ a ∧ 1 ≤ b ∧ ∀ S', Ext S S' → Q .non S'
theorem vl_tab {S : Sto} {a b : Int} : Vl S (.tup [.int a, .int b]) := ⟨trivial, fun xs e y hy => by cases e; simp at hy; rcases hy with rfl | rfl <;> trivial⟩
theorem tab_ok {a b : Int} (ha : 1 ≤ a) (hb : 1 ≤ b) : tabB (.tup [.int a, .int b]) = true := by simp [tabB, tabL, intB, ha, hb]
theorem txt_check {G : Gm} {ds : List D} {S0 : Sto} {Q : VK} {X : XK} {b : Ss} (hb : b = (.cons (.if_ (.not (.call 1 (.cons (.v 0) .nil))) (.cons (.raise 0 .nil) .nil) .nil) .nil)) (h2 : G.fn 1 = spTab) (h : spCheck ds S0 Q X) : ds.length = 1 ∧ wpSs G b (start 1 ds) S0 (kR Q X) := by
  obtain ⟨a, b2, rfl, ha, hb', hq⟩ := h
  subst hb
  refine ⟨rfl, ?_⟩
  simp only [wpSs, wpS, wpE, wpEs, wpC, wpAnd, wpOr, wpO, wpIt, opt_some, onI_int, onB_bl, onR_ref, arg1_one, look, joinO, start, List.map_cons, List.map_nil, List.length_cons, List.length_nil, List.replicate, List.cons_append, List.nil_append, List.append_nil, List.getElem?_cons_succ, List.getElem?_cons_zero, kcD, Nat.reduceAdd, Nat.reduceSub, br_t, br_f, br_n, asg, setAll, List.set_cons_succ, List.set_cons_zero, tgs, wipe, eq_ii, ne_ii, lt_ii, le_ii, gt_ii, ge_ii, is_n, isn_n, is_b, isn_b, add_ii, sub_ii, mul_ii, mod_ii, fdiv_ii, pow_ii, isNon, biD, intD_i, intD_b, esLen, beq_self_eq_true, ixD_tup, lsOf_new, seqD_tup, seqD_fl, slD_tup, bools, Option.map_some, true_and, ixD_fl, lenD_tup, lenD_fl, ix30, ix31, ix32, at20, at21, at30, at31, at32, List.filterMap_cons, List.filterMap_nil]
  refine call h2 ⟨_, rfl, vl_tab, fun S1 k1 => ?_⟩
  simp only [wpSs, wpS, wpE, wpEs, wpC, wpAnd, wpOr, wpO, wpIt, opt_some, onI_int, onB_bl, onR_ref, arg1_one, look, joinO, start, List.map_cons, List.map_nil, List.length_cons, List.length_nil, List.replicate, List.cons_append, List.nil_append, List.append_nil, List.getElem?_cons_succ, List.getElem?_cons_zero, kcD, Nat.reduceAdd, Nat.reduceSub, br_t, br_f, br_n, asg, setAll, List.set_cons_succ, List.set_cons_zero, tgs, wipe, eq_ii, ne_ii, lt_ii, le_ii, gt_ii, ge_ii, is_n, isn_n, is_b, isn_b, add_ii, sub_ii, mul_ii, mod_ii, fdiv_ii, pow_ii, isNon, biD, intD_i, intD_b, esLen, beq_self_eq_true, ixD_tup, lsOf_new, seqD_tup, seqD_fl, slD_tup, bools, Option.map_some, true_and, ixD_fl, lenD_tup, lenD_fl, ix30, ix31, ix32, at20, at21, at30, at31, at32, List.filterMap_cons, List.filterMap_nil, tab_ok ha hb']
  exact hq S1 k1
/-- is_shot(table, value) -/
def spShot : Sp := fun ds S Q _ => ∃ a b v, ds = [.tup [.int a, .int b], v] ∧ 1 ≤ a ∧ 1 ≤ b ∧ Vl S v ∧ ∀ S', Ext S S' → Q (.bl (rollB a b v)) S'
end M
namespace M
theorem compW_filter {step : D → Sto → (Option D → Sto → Prop) → Prop} {Q : VK} {f : D → Bool} {S : Sto} : ∀ {xs acc : List D}, (∀ d ∈ xs, ∀ k : Option D → Sto → Prop, k (if f d = true then some d else none) S → step d S k) →
    (∀ p, S p = none → Q (.ref p) (upd S p (.lst (acc ++ xs.filter f)))) → compW (fun _ => True) step Q xs acc S
  | [], acc, _, h => ⟨trivial, fun p hp => by simpa using h p hp⟩
  | x :: xs, acc, hs, h => ⟨trivial, hs x (by simp) _ (compW_filter (fun d hd => hs d (by simp [hd])) fun p hp => by
      have e := h p hp
      by_cases hf : f x = true
      · rw [if_pos hf]
        simpa [List.filter_cons, hf] using e
      · rw [if_neg hf]
        simpa [List.filter_cons, hf] using e)⟩
theorem eq_nil {S : Sto} {p q : Nat} {ys : List D} {Q : Bool → Prop} (hp : S p = some (.lst ys)) (hq : S q = some (.lst [])) (hf : fitL (fit 7 S) ys = true) (k : Q ys.isEmpty) : cmpD .eq (.ref p) (.ref q) S Q := by
  refine ⟨?_, ?_, ?_⟩
  · show optB (lstAt S p) _ = true
    rw [lstAt_eq hp]; exact hf
  · show optB (lstAt S q) _ = true
    rw [lstAt_eq hq]; rfl
  · have e : eqB dep S (.ref p) (.ref q) = ys.isEmpty := by
      show eqO _ (lstAt S p) (lstAt S q) = _
      rw [lstAt_eq hp, lstAt_eq hq]
      cases ys <;> rfl
    rw [e]; exact k
theorem ne_nil {S : Sto} {p q : Nat} {ys : List D} {Q : Bool → Prop} (hp : S p = some (.lst ys)) (hq : S q = some (.lst [])) (hf : fitL (fit 7 S) ys = true) (k : Q (!ys.isEmpty)) : cmpD .ne (.ref p) (.ref q) S Q :=
  let ⟨a, b, c⟩ := eq_nil (Q := fun b => Q (!b)) hp hq hf k
  ⟨a, b, c⟩
/-- a small value in a tuple or a list -/
def Atom (n : Nat) : D → Prop
  | .non => True
  | .bl _ => True
  | .int i => i.natAbs < 2 ^ n
  | .str x => x.length ≤ 4 ∧ ∀ c ∈ x, c < 128
  | .tup xs => xs = []
  | _ => False
theorem Atom.kn {n : Nat} {S : Sto} {v : D} (h : Atom n v) : Kn S v := by
  cases v <;> first | trivial | exact False.elim h
theorem Atom.fit {n k : Nat} {S : Sto} {v : D} (h : Atom n v) : M.fit (k + 1) S v = true := by
  cases v with
  | str x =>
    show x.all _ = true
    rw [List.all_eq_true]
    intro c hc
    have := h.2 c hc
    exact decide_eq_true (by omega)
  | tup xs => cases h; rfl
  | _ => first | rfl | exact False.elim h
theorem Atom.up {n m : Nat} {v : D} (h : Atom n v) (k : n ≤ m) : Atom m v := by
  cases v with
  | int i => exact lt_two _ h k
  | _ => exact h
theorem fitL_of {ok : D → Bool} : ∀ {xs : List D}, (∀ y ∈ xs, ok y = true) → fitL ok xs = true
  | [], _ => rfl
  | x :: xs, h => by
    show (ok x && fitL ok xs) = true
    rw [h x (by simp), fitL_of fun y hy => h y (by simp [hy])]
    rfl
theorem atoms_fit {n : Nat} {S : Sto} {xs ys : List D} (h : ∀ y ∈ xs, Atom n y) (hs : ∀ y ∈ ys, y ∈ xs) : fitL (M.fit 7 S) ys = true := fitL_of fun y hy => (h y (hs y hy)).fit
/-- a value that the law tries: w is the well -/
def Gd (n w : Nat) (S : Sto) : D → Prop
  | .tup xs => xs.length ≤ n ∧ ∀ y ∈ xs, Atom n y
  | .ref a => a ≠ w ∧ ((∃ xs, S a = some (.lst xs) ∧ xs.length ≤ n ∧ ∀ y ∈ xs, Atom n y) ∨ S a = some .dic)
  | .non => True
  | .bl _ => True
  | .int i => i.natAbs < 2 ^ n
  | .str x => x.length ≤ 4 ∧ ∀ c ∈ x, c < 128
  | _ => False
theorem Gd.kp {n w : Nat} {S S' : Sto} {v : D} (h : Gd n w S v) (k : Kp w S S') : Gd n w S' v := by
  cases v with
  | ref a =>
    obtain ⟨hn, h | h⟩ := h
    · obtain ⟨xs, e, r⟩ := h
      exact ⟨hn, .inl ⟨xs, k _ _ hn e, r⟩⟩
    · exact ⟨hn, .inr (k _ _ hn h)⟩
  | _ => exact h
theorem Gd.up {n m w : Nat} {S : Sto} {v : D} (h : Gd n w S v) (k : n ≤ m) : Gd m w S v := by
  cases v with
  | tup xs => exact ⟨Nat.le_trans h.1 k, fun y hy => (h.2 y hy).up k⟩
  | ref a =>
    obtain ⟨hn, h | h⟩ := h
    · obtain ⟨xs, e, r1, r2⟩ := h
      exact ⟨hn, .inl ⟨xs, e, Nat.le_trans r1 k, fun y hy => (r2 y hy).up k⟩⟩
    · exact ⟨hn, .inr h⟩
  | int i => exact lt_two _ h k
  | _ => exact h
theorem Gd.vl {n w : Nat} {S : Sto} {v : D} (h : Gd n w S v) : Vl S v := by
  refine ⟨?_, fun xs e y hy => ?_⟩
  · cases v with
    | ref a =>
      obtain ⟨_, h | h⟩ := h
      · obtain ⟨xs, e, _⟩ := h
        exact ⟨_, e⟩
      · exact ⟨_, h⟩
    | _ => first | trivial | exact False.elim h
  · subst e
    exact (h.2 y hy).kn
/-- _law_whole(thing) -/
def spWhole : Sp := fun ds S Q _ => ∃ v, ds = [v] ∧ Kn S v ∧ Q (.bl (isI v)) S
/-- the values whose law is asked: known, and their parts small -/
def Va (S : Sto) (v : D) : Prop := Kn S v ∧ ∀ xs, v = .tup xs → xs.length ≤ 1000 ∧ ∀ y ∈ xs, Atom 1000 y
theorem Va.vl {S : Sto} {v : D} (h : Va S v) : Vl S v := ⟨h.1, fun xs e y hy => ((h.2 xs e).2 y hy).kn⟩
theorem Va.ext {S S' : Sto} {v : D} (h : Va S v) (k : Ext S S') : Va S' v := ⟨h.1.ext k, h.2⟩
def spDeskV : Sp := fun ds S Q _ => ∃ v, ds = [v] ∧ Va S v ∧ ∀ S', Ext S S' → Q (.bl (tabB v)) S'
theorem filt2 {x y : D} : ([x, y].filter fun d => !isI d || decide (int0 d < 1)).isEmpty = tabL [x, y] := by
  have h : ∀ d : D, (!isI d || decide (int0 d < 1)) = !intB d (some 1) none := by
    intro d
    cases d with
    | int i =>
      show (false || decide (i < 1)) = !(decide (1 ≤ i) && true)
      by_cases h : i < 1
      · have : ¬ 1 ≤ i := by omega
        simp [h, this]
      · have : 1 ≤ i := by omega
        simp [h, this]
    | _ => rfl
  simp only [List.filter_cons, List.filter_nil, h, tabL]
  cases intB x (some 1) none <;> cases intB y (some 1) none <;> rfl
end M
namespace M
theorem filtI_nil {xs : List D} : (xs.filter fun d => !isI d).isEmpty = xs.all isI := by
  induction xs with
  | nil => rfl
  | cons x xs ih =>
    rw [List.filter_cons, List.all_cons]
    cases isI x
    · rfl
    · exact ih
/-- _law_is_roll(desk, thing) -/
def spRollV : Sp := fun ds S Q _ => ∃ a b v, ds = [.tup [.int a, .int b], v] ∧ Va S v ∧ ∀ S', Ext S S' → Q (.bl (rollB a b v)) S'
theorem chain_ii {i j k : Int} {S : Sto} {Q : Bool → Prop} (h : Q (decide (i ≤ j) && decide (j ≤ k))) : br (decide (i ≤ j)) (Q (decide (j ≤ k))) (Q false) := by
  cases h1 : decide (i ≤ j) <;> rw [h1] at h
  · exact br_f.mpr h
  · exact br_t.mpr h
/-- _law_is_part(thing) -/
def spPartV : Sp := fun ds S Q _ => ∃ v, ds = [v] ∧ Va S v ∧ ∀ S', Ext S S' → Q (.bl (partB v)) S'
end M
namespace M
/-- _law_odd(well) -/
def spOdd : Sp := fun ds S Q _ => ∃ w n, ds = [.ref w] ∧ Well n S w ∧ n + 1 < 2 ^ 59 ∧ ∀ v S', Gd 200 w S' v → Well (n + 1) S' w → Kp w S S' → Q v S'
theorem cut_mem {xs : List D} {lo hi : Option Int} {y : D} (h : y ∈ cut xs lo hi) : y ∈ xs := List.mem_of_mem_drop (List.mem_of_mem_take h)
theorem cut_hi {xs : List D} {i : Int} (h : 0 ≤ i) : (cut xs none (some i)).length ≤ i.toNat := by
  have e : sIx xs.length xs.length (some i) = min i.toNat xs.length := if_neg (by omega)
  unfold cut
  rw [e, List.length_take]
  show min (min i.toNat xs.length - 0) _ ≤ _
  omega
theorem cut_lo {xs : List D} {i : Int} (h : 0 ≤ i) : (cut xs (some i) none).length ≤ xs.length - i.toNat := by
  have e : sIx xs.length 0 (some i) = min i.toNat xs.length := if_neg (by omega)
  unfold cut
  rw [e, List.length_take, List.length_drop]
  show min (xs.length - _) _ ≤ _
  omega
theorem at_some {xs : List D} {i : Int} (h0 : 0 ≤ i) (h1 : i < xs.length) : ∃ y, y ∈ xs ∧ atI xs i = some y := by
  have hl : i.toNat < xs.length := by omega
  refine ⟨xs[i.toNat], List.getElem_mem hl, ?_⟩
  unfold atI ixN
  rw [if_pos h0, if_pos h1]
  simp [hl]
/-- _law_bent(well, thing) -/
def spBent : Sp := fun ds S Q _ => ∃ w n m v, ds = [.ref w, v] ∧ Gd m w S v ∧ 200 ≤ m ∧ m ≤ 400 ∧ Well n S w ∧ n + 4 < 2 ^ 58 ∧ ∀ v' S', Gd (m + 1) w S' v' → Well (n + 4) S' w → Kp w S S' → Q v' S'
theorem eq_tnil {xs : List D} {S : Sto} {n : Nat} {Q : Bool → Prop} (h : ∀ y ∈ xs, Atom n y) (k : Q xs.isEmpty) : cmpD .eq (.tup xs) (.tup []) S Q :=
  ⟨atoms_fit h fun y hy => hy, rfl, by
    have e : eqB dep S (.tup xs) (.tup []) = xs.isEmpty := by cases xs <;> rfl
    rw [e]; exact k⟩
end M
namespace M
theorem sumN_le {xs : List D} {f : D → Nat} {c : Nat} (h : ∀ y ∈ xs, f y ≤ c) : sumN (xs.map f) ≤ xs.length * c := by
  induction xs with
  | nil => simp [sumN]
  | cons x xs ih =>
    have h1 := h x (by simp)
    have h2 := ih fun y hy => h y (by simp [hy])
    show f x + sumN (xs.map f) ≤ (xs.length + 1) * c
    rw [Nat.succ_mul]
    omega
theorem atom_rep {m k : Nat} {S : Sto} {y : D} (h : Atom m y) (hm : m ≤ 1900) : fitR (k + 1) S y ∧ szR (k + 1) S y ≤ 1902 := by
  cases y with
  | int i => exact ⟨smr_of m hm h, Nat.le_refl _⟩
  | str x =>
    refine ⟨fun c hc => ?_, ?_⟩
    · have := h.2 c hc
      omega
    · show 10 * x.length + 2 ≤ 1902
      have := h.1
      omega
  | tup xs =>
    cases h
    exact ⟨(fun y hy => by cases hy), (by show sumN [] + 3 ≤ 1902; decide)⟩
  | non => exact ⟨trivial, by show 4 ≤ 1902; decide⟩
  | bl b => exact ⟨trivial, by show 5 ≤ 1902; decide⟩
  | _ => exact False.elim h
theorem toQ_lst {S : Sto} {a : Nat} {xs : List D} (e : S a = some (.lst xs)) : toQ dep S (.ref a) = .lst (xs.map (toQ 7 S)) := by
  show toQ (7 + 1) S (.ref a) = _
  simp only [toQ, e]
theorem toQ_dic {S : Sto} {a : Nat} (e : S a = some .dic) : toQ dep S (.ref a) = .dic := by
  show toQ (7 + 1) S (.ref a) = _
  simp only [toQ, e]
theorem szR_lst {S : Sto} {a : Nat} {xs : List D} (e : S a = some (.lst xs)) : szR dep S (.ref a) = sumN (xs.map fun y => szR 7 S y + 2) + 3 := by
  show szR (7 + 1) S (.ref a) = _
  simp only [szR, e]
theorem szR_dic {S : Sto} {a : Nat} (e : S a = some .dic) : szR dep S (.ref a) = 2 := by
  show szR (7 + 1) S (.ref a) = _
  simp only [szR, e]
theorem gd_rep {m w : Nat} {S : Sto} {v : D} (h : Gd m w S v) (hm : m ≤ 500) : fitD S v ∧ szR dep S v ≤ lim := by
  have big : ∀ xs : List D, xs.length ≤ 500 → (∀ y ∈ xs, Atom m y) → sumN (xs.map fun y => szR 7 S y + 2) + 3 ≤ lim := fun xs hl ha => by
    have h1 := sumN_le (xs := xs) (f := fun y => szR 7 S y + 2) (c := 1904) fun y hy => by have : szR 7 S y ≤ 1902 := (atom_rep (k := 6) (S := S) (ha y hy) (by omega)).2; omega
    have h2 : xs.length * 1904 ≤ 500 * 1904 := Nat.mul_le_mul_right _ hl
    have h3 : 500 * 1904 + 3 ≤ lim := by decide
    omega
  cases v with
  | tup xs => exact ⟨.inr fun y hy => (atom_rep (h.2 y hy) (by omega)).1, big xs (by have := h.1; omega) h.2⟩
  | ref a =>
    obtain ⟨_, h | h⟩ := h
    · obtain ⟨xs, e, hl, ha⟩ := h
      refine ⟨.inr ?_, ?_⟩
      · show opt (lstAt S a) _
        rw [lstAt_eq e]
        exact fun y hy => (atom_rep (ha y hy) (by omega)).1
      · rw [szR_lst e]
        exact big xs (by omega) ha
    · refine ⟨.inl (.inl ?_), ?_⟩
      · show isDic (S a)
        rw [h]; trivial
      · rw [szR_dic h]
        exact len_lim (by decide)
  | int i => exact ⟨.inr (smr_of m (by omega) h), by show 1902 ≤ lim; decide⟩
  | str x =>
    refine ⟨.inr fun c hc => ?_, ?_⟩
    · have := h.2 c hc
      omega
    · show 10 * x.length + 2 ≤ lim
      have := h.1
      exact len_lim (by omega)
  | non => exact ⟨.inr trivial, by show 4 ≤ lim; decide⟩
  | bl b => exact ⟨.inr trivial, by show 5 ≤ lim; decide⟩
  | _ => exact False.elim h
theorem atom_toQ {m k : Nat} {S S' : Sto} {y : D} (h : Atom m y) : toQ (k + 1) S y = toQ (k + 1) S' y := by
  cases y with
  | tup xs => cases h; rfl
  | _ => first | rfl | exact False.elim h
theorem gd_toQ {m w : Nat} {S S' : Sto} {v : D} (h : Gd m w S v) (k : Ext S S') : toQ dep S v = toQ dep S' v := by
  have mp : ∀ xs : List D, (∀ y ∈ xs, Atom m y) → xs.map (toQ 7 S) = xs.map (toQ 7 S') := fun xs ha => List.map_congr_left fun y hy => atom_toQ (ha y hy)
  cases v with
  | tup xs =>
    show P.tup _ = P.tup _
    rw [mp xs h.2]
  | ref a =>
    obtain ⟨_, h | h⟩ := h
    · obtain ⟨xs, e, hl, ha⟩ := h
      rw [toQ_lst e, toQ_lst (k _ _ e), mp xs ha]
    · rw [toQ_dic h, toQ_dic (k _ _ h)]
  | _ => first | rfl | exact False.elim h
theorem gd_va {m w : Nat} {S : Sto} {v : D} (h : Gd m w S v) (hm : m ≤ 500) : Va S v := ⟨h.vl.1, fun xs e => by
  subst e
  exact ⟨by have := h.1; omega, fun y hy => (h.2 y hy).up (by omega)⟩⟩
theorem eqLB_bools {n : Nat} {S : Sto} : ∀ bs : List Bool, eqLB (eqB (n + 1) S) (bs.map .bl) (bs.map .bl) = true
  | [] => rfl
  | b :: bs => by
    show ((b == b) && eqLB (eqB (n + 1) S) (bs.map .bl) (bs.map .bl)) = true
    rw [eqLB_bools bs]; simp
theorem ne_bools {S : Sto} {p q : Nat} {bs : List Bool} {Q : Bool → Prop} (hp : S p = some (.lst (bs.map .bl))) (hq : S q = some (.lst (bs.map .bl))) (k : Q false) : cmpD .ne (.ref p) (.ref q) S Q := by
  have f : ∀ a : Nat, S a = some (.lst (bs.map .bl)) → fit dep S (.ref a) = true := fun a e => by
    show optB (lstAt S a) _ = true
    rw [lstAt_eq e]
    exact fitL_of fun y hy => by obtain ⟨b, _, rfl⟩ := List.mem_map.mp hy; rfl
  refine ⟨f p hp, f q hq, ?_⟩
  have e : eqB dep S (.ref p) (.ref q) = true := by
    show eqO _ (lstAt S p) (lstAt S q) = _
    rw [lstAt_eq hp, lstAt_eq hq]
    exact eqLB_bools bs
  rw [e]; exact k
theorem isTy_bb {S : Sto} {f : Bool} : isTy S (.bl f) .bool = some true := rfl
/-- _law_right(desk, thing) -/
def spRight : Sp := fun ds S Q _ => ∃ a b v w, ds = [.tup [.int a, .int b], v] ∧ 1 ≤ a ∧ 1 ≤ b ∧ Gd 500 w S v ∧ ∀ S', Ext S S' → Q (.bl true) S'
/-- a loop -/
theorem forW_ok {chk : Sto → Prop} {step : D → Env → Sto → (Env → Sto → Prop) → Prop} {nx : Env → Sto → Prop} {I : Nat → Env → Sto → Prop} : ∀ (items : List D) (i : Nat) (ρ : Env) (S : Sto), I i ρ S →
    (∀ j d ρ S nx', j < i + items.length → d ∈ items → I j ρ S → (∀ ρ' S', I (j + 1) ρ' S' → nx' ρ' S') → chk S ∧ step d ρ S nx') → (∀ ρ S, I (i + items.length) ρ S → chk S ∧ nx ρ S) → forW chk step nx items ρ S
  | [], i, ρ, S, h, _, he => he ρ S h
  | d :: ds, i, ρ, S, h, hs, he => hs i d ρ S _ (by simp) (by simp) h fun ρ' S' h' => forW_ok ds (i + 1) ρ' S' h' (fun j d ρ S nx' hj hd => hs j d ρ S nx' (by rw [List.length_cons]; omega) (by simp [hd])) fun ρ S h => he ρ S (by rw [List.length_cons]; rwa [Nat.add_right_comm] at h)
end M
namespace M
/-- t / b in lowest terms (0 < b) -/
def low (t b : Int) : D := .tup [.int (t / (Int.gcd t b : Nat)), .int (b / (Int.gcd t b : Nat))]
/-- the place t / b folded into 0 .. s -/
def foldT (s t b : Int) : Int := if 2 * s * b - t % (2 * s * b) < t % (2 * s * b) then 2 * s * b - t % (2 * s * b) else t % (2 * s * b)
def cellN (s t b d : Int) : Int := if d > 0 then t / (s * b) else -((-t) / (s * b)) - 1
def wayN (s t b d : Int) : Int := if cellN s t b d % 2 = 0 then d else -d
/-- a number below 2 ^ n -/
def Bd (n : Nat) (i : Int) : Prop := i.natAbs < 2 ^ n
theorem Bd.sm {n : Nat} {i : Int} (h : Bd n i) (hn : n ≤ 4000) : sm i := sm_of n hn h
theorem Bd.mul {n m : Nat} {i j : Int} (h : Bd n i) (k : Bd m j) : Bd (n + m) (i * j) := by
  show (i * j).natAbs < 2 ^ (n + m)
  rw [Int.natAbs_mul, Nat.pow_add]
  exact Nat.mul_lt_mul'' h k
theorem Bd.up {n m : Nat} {i : Int} (h : Bd n i) (k : n ≤ m) : Bd m i := lt_two n h k
theorem bd2 : Bd 2 2 := by show Int.natAbs 2 < 2 ^ 2; decide
theorem gcd_pos {t b : Int} (h : 0 < b) : 0 < ((Int.gcd t b : Nat) : Int) := by
  have : 0 < Int.gcd t b := Int.gcd_pos_of_ne_zero_right t (by omega)
  omega
theorem gcd_le {t b : Int} (h : 0 < b) : ((Int.gcd t b : Nat) : Int) ≤ b := Int.le_of_dvd h (Int.gcd_dvd_right ..)
/-- fraction(top, bottom) -/
def spFrac : Sp := fun ds S Q _ => ∃ t b, ds = [.int t, .int b] ∧ 0 < b ∧ Bd 8000 b ∧ Q (low t b) S
/-- check_shot of a shot on the table -/
def spCkShot : Sp := fun ds S Q _ => ∃ a b v, ds = [.tup [.int a, .int b], v] ∧ 1 ≤ a ∧ 1 ≤ b ∧ Vl S v ∧ rollB a b v = true ∧ ∀ S', Ext S S' → Q .non S'
/-- check_time of a fraction -/
def spCkTime : Sp := fun ds S Q _ => ∃ v, ds = [v] ∧ Vl S v ∧ partB v = true ∧ ∀ S', Ext S S' → Q .non S'
/-- fold(side, number) -/
def spFold : Sp := fun ds S Q _ => ∃ s t b, ds = [.int s, .tup [.int t, .int b]] ∧ 1 ≤ s ∧ 1 ≤ b ∧ Bd 1500 s ∧ Bd 1500 b ∧ Q (low (foldT s t b) b) S
theorem mulp {a b : Int} (ha : 0 < a) (hb : 0 < b) : 0 < a * b := Int.mul_pos ha hb
/-- free_place(shot, time) -/
def spFreeP : Sp := fun ds S Q _ => ∃ x y p q t b, ds = [.tup [.int x, .int y, .int p, .int q], .tup [.int t, .int b]] ∧ sm x ∧ sm y ∧ sm p ∧ sm q ∧ sm t ∧ sm b ∧ Q (.tup [.tup [.int (x * b + p * t), .int b], .tup [.int (y * b + q * t), .int b]]) S
theorem at40 {α : Type} {a b c d : α} : atI [a, b, c, d] 0 = some a := rfl
theorem at41 {α : Type} {a b c d : α} : atI [a, b, c, d] 1 = some b := rfl
theorem at42 {α : Type} {a b c d : α} : atI [a, b, c, d] 2 = some c := rfl
theorem at43 {α : Type} {a b c d : α} : atI [a, b, c, d] 3 = some d := rfl
/-- a shot and a time, in bounds -/
structure Sh (a c x y p q t b : Int) : Prop where
  a0 : 1 ≤ a
  c0 : 1 ≤ c
  b0 : 1 ≤ b
  ba : Bd 1500 a
  bc : Bd 1500 c
  bx : Bd 1500 x
  by_ : Bd 1500 y
  bp : Bd 1500 p
  bq : Bd 1500 q
  bt : Bd 1500 t
  bb : Bd 1500 b
/-- where the ball is -/
def placeD (a c x y p q t b : Int) : D := .tup [low (foldT a (x * b + p * t) b) b, low (foldT c (y * b + q * t) b) b]
def spPlaceOf : Sp := fun ds S Q _ => ∃ a c x y p q t b, ds = [.tup [.int a, .int c], .tup [.int x, .int y, .int p, .int q], .tup [.int t, .int b]] ∧ Sh a c x y p q t b ∧ Q (placeD a c x y p q t b) S
/-- way_of(side, number, direction) -/
def spWayOf : Sp := fun ds S Q _ => ∃ s t b d, ds = [.int s, .tup [.int t, .int b], .int d] ∧ 1 ≤ s ∧ 1 ≤ b ∧ Bd 1500 s ∧ Bd 1500 b ∧ Q (.int (wayN s t b d)) S
def waysD (a c x y p q t b : Int) : D := .tup [.int (wayN a (x * b + p * t) b p), .int (wayN c (y * b + q * t) b q)]
def spWaysOf : Sp := fun ds S Q _ => ∃ a c x y p q t b, ds = [.tup [.int a, .int c], .tup [.int x, .int y, .int p, .int q], .tup [.int t, .int b]] ∧ Sh a c x y p q t b ∧ Q (waysD a c x y p q t b) S
end M
namespace M
/-- the tuple of a shot -/
abbrev shD (x y p q : Int) : D := .tup [.int x, .int y, .int p, .int q]
abbrev prD (x y : Int) : D := .tup [.int x, .int y]
theorem vl_sh {S : Sto} {x y p q : Int} : Vl S (shD x y p q) := ⟨trivial, fun xs e z hz => by
  cases e
  simp only [List.mem_cons, List.not_mem_nil, or_false] at hz
  rcases hz with rfl | rfl | rfl | rfl <;> trivial⟩
/-- turned_of(shot) -/
def spTurnOf : Sp := fun ds S Q _ => ∃ x y p q, ds = [shD x y p q] ∧ Q (shD x y (-p) (-q)) S
/-- is the shot on the table, the time a fraction -/
structure On (a c x y p q t b : Int) : Prop where
  sh : Sh a c x y p q t b
  on : rollB a c (shD x y p q) = true
  fr : partB (prD t b) = true
def spPlace : Sp := fun ds S Q _ => ∃ a c x y p q t b, ds = [prD a c, shD x y p q, prD t b] ∧ On a c x y p q t b ∧ ∀ S', Ext S S' → Q (placeD a c x y p q t b) S'
def spWay : Sp := fun ds S Q _ => ∃ a c x y p q t b, ds = [prD a c, shD x y p q, prD t b] ∧ On a c x y p q t b ∧ ∀ S', Ext S S' → Q (waysD a c x y p q t b) S'
def spTurned : Sp := fun ds S Q _ => ∃ x y p q, ds = [shD x y p q] ∧ freeB (shD x y p q) = true ∧ ∀ S', Ext S S' → Q (shD x y (-p) (-q)) S'
def spScaled : Sp := fun ds S Q _ => ∃ a c x y p q m, ds = [prD a c, shD x y p q, .int m] ∧ 1 ≤ a ∧ 1 ≤ c ∧ rollB a c (shD x y p q) = true ∧ 1 ≤ m ∧ sm a ∧ sm c ∧ sm x ∧ sm y ∧ sm m ∧ ∀ S', Ext S S' → Q (.tup [prD (a * m) (c * m), shD (x * m) (y * m) p q]) S'
def spCrossed : Sp := fun ds S Q _ => ∃ a c x y p q, ds = [prD a c, shD x y p q] ∧ 1 ≤ a ∧ 1 ≤ c ∧ rollB a c (shD x y p q) = true ∧ ∀ S', Ext S S' → Q (.tup [prD c a, shD y x q p]) S'
/-- Euclid's loop -/
theorem euclid {step : Env → Sto → (Env → Sto → Prop) → Prop} {S : Sto} {mk : Nat → Nat → Env} {g : Nat} (hz : ∀ u nx, u = g → step (mk u 0) S nx) (hs : ∀ u v nx, 0 < v → nx (mk v (u % v)) S → step (mk u v) S nx) : ∀ (n u v : Nat), v ≤ n → Nat.gcd u v = g → ∃ m, whileN step m (mk u v) S
  | n, u, 0, _, h => ⟨1, hz u _ (by rw [← h, Nat.gcd_zero_right])⟩
  | 0, u, v + 1, hv, h => absurd hv (by omega)
  | n + 1, u, v + 1, hv, h => by
    obtain ⟨m, hm⟩ := euclid hz hs n (v + 1) (u % (v + 1)) (by have := Nat.mod_lt u (y := v + 1) (by omega); omega) (by rw [← h, Nat.gcd_comm, ← Nat.gcd_rec, Nat.gcd_comm])
    exact ⟨m + 1, hs u (v + 1) _ (by omega) hm⟩
/-- _law_low(top, bottom), bottom above 0 -/
def spLow : Sp := fun ds S Q _ => ∃ t b, ds = [.int t, .int b] ∧ 0 < b ∧ Bd 8000 b ∧ Q (low t b) S
/-- _law_times(part, factor) -/
def spTimes : Sp := fun ds S Q _ => ∃ t b f, ds = [prD t b, .int f] ∧ 0 < b ∧ Bd 8000 b ∧ sm t ∧ sm f ∧ Q (low (t * f) b) S
/-- of one shape and value: numbers, tuples, lists -/
def Sm : Nat → Sto → D → D → Prop
  | 0, _, _, _ => False
  | m + 1, S, v, u => (match v, u with
    | .int i, .int j => i = j
    | .bl i, .bl j => i = j
    | .non, .non => True
    | .str i, .str j => i = j
    | .tup xs, .tup ys => xs = ys ∧ xs.length ≤ 1000 ∧ ∀ y ∈ xs, Sm m S y y
    | .ref a, .ref b => ∃ xs, S a = some (.lst xs) ∧ S b = some (.lst xs) ∧ xs.length ≤ 1000 ∧ ∀ y ∈ xs, Sm m S y y
    | _, _ => False)
theorem Sm.ext {S S' : Sto} (k : Ext S S') : ∀ {m : Nat} {v u : D}, Sm m S v u → Sm m S' v u
  | 0, _, _, h => h
  | m + 1, v, u, h => by
    unfold Sm at h ⊢
    split at h
    · exact h
    · exact h
    · exact h
    · exact h
    · exact ⟨h.1, h.2.1, fun y hy => (h.2.2 y hy).ext k⟩
    · obtain ⟨xs, e1, e2, hl, h⟩ := h
      exact ⟨xs, k _ _ e1, k _ _ e2, hl, fun y hy => (h y hy).ext k⟩
    · exact False.elim h
def spSame (m : Nat) : Sp := fun ds S Q _ => ∃ v u, ds = [v, u] ∧ Sm m S v u ∧ ∀ S', Ext S S' → Q (.bl true) S'
theorem compW_drop {chk : Sto → Prop} {step : D → Sto → (Option D → Sto → Prop) → Prop} {Q : VK} {S0 : Sto} (hc : ∀ S, Ext S0 S → chk S) : ∀ {xs acc : List D} {S : Sto}, Ext S0 S → (∀ d ∈ xs, ∀ (S : Sto) (k : Option D → Sto → Prop), Ext S0 S → (∀ S', Ext S S' → k none S') → step d S k) →
    (∀ p S, Ext S0 S → S p = none → Q (.ref p) (upd S p (.lst acc))) → compW chk step Q xs acc S
  | [], acc, S, e, _, h => ⟨hc S e, fun p hp => h p S e hp⟩
  | x :: xs, acc, S, e, hs, h => ⟨hc S e, hs x (by simp) S _ e fun S' e' => by
      simp only [Option.toList, List.append_nil]
      exact compW_drop hc (e.trans e') (fun d hd => hs d (by simp [hd])) h⟩
theorem eq_bb {a b : Bool} {S : Sto} {Q : Bool → Prop} : cmpD .eq (.bl a) (.bl b) S Q ↔ Q (a == b) := by simp [cmpD, fit, eqB]
theorem ne_bb {a b : Bool} {S : Sto} {Q : Bool → Prop} : cmpD .ne (.bl a) (.bl b) S Q ↔ Q (!(a == b)) := by simp [cmpD, fit, eqB]
theorem txt_same {G : Gm} {ds : List D} {S0 : Sto} {Q : VK} {X : XK} {b : Ss} (m : Nat) (hb : b = (.cons (.if_ (.or (.isi (.v 0) .bool) (.cons (.isi (.v 1) .bool) .nil)) (.cons (.ret (.and (.isi (.v 0) .bool) (.cons (.isi (.v 1) .bool) (.cons (.cmp .eq (.v 0) (.v 1)) .nil)))) .nil) .nil) (.cons (.if_ (.cmp .ne (.isi (.v 0) .list) (.isi (.v 1) .list)) (.cons (.ret (.k (.bl false))) .nil) .nil) (.cons (.if_ (.and (.isi2 (.v 0) .list .tuple) (.cons (.isi2 (.v 1) .list .tuple) .nil)) (.cons (.if_ (.cmp .ne (.bi .len (.cons (.v 0) .nil)) (.bi .len (.cons (.v 1) .nil))) (.cons (.ret (.k (.bl false))) .nil) .nil) (.cons (.ret (.cmp .eq (.comp (.v 2) (.v 2) (.rng (.bi .len (.cons (.v 1) .nil))) (.some (.not (.call 12 (.cons (.ix (.v 0) (.v 2)) (.cons (.ix (.v 1) (.v 2)) .nil)))))) (.lst .nil))) .nil)) .nil) (.cons (.ret (.and (.cmp .eq (.v 0) (.v 1)) (.cons (.cmp .eq (.isi (.v 0) .int) (.isi (.v 1) .int)) .nil))) .nil))))) (hr : G.fn 12 = spSame m) (h : spSame (m + 1) ds S0 Q X) : ds.length = 2 ∧ wpSs G b (start 3 ds) S0 (kR Q X) := by
  obtain ⟨v, u, rfl, hs, hq⟩ := h
  subst hb
  refine ⟨rfl, ?_⟩
  unfold Sm at hs
  split at hs
  · rename_i i j
    subst hs
    have t1 : isTy S0 (.int i) .bool = some false := rfl
    have t2 : isTy S0 (.int i) .int = some true := rfl
    have t3 : isTy S0 (.int i) .list = some false := rfl
    have t4 : isTy S0 (.int i) .tuple = some false := rfl
    simp only [wpSs, wpS, wpE, wpEs, wpC, wpAnd, wpOr, wpO, wpIt, opt_some, onI_int, onB_bl, onR_ref, arg1_one, look, joinO, start, List.map_cons, List.map_nil, List.length_cons, List.length_nil, List.replicate, List.cons_append, List.nil_append, List.append_nil, List.getElem?_cons_succ, List.getElem?_cons_zero, kcD, Nat.reduceAdd, Nat.reduceSub, br_t, br_f, br_n, asg, setAll, List.set_cons_succ, List.set_cons_zero, tgs, wipe, eq_ii, ne_ii, lt_ii, le_ii, gt_ii, ge_ii, is_n, isn_n, is_b, isn_b, add_ii, sub_ii, mul_ii, mod_ii, fdiv_ii, pow_ii, isNon, biD, intD_i, intD_b, esLen, beq_self_eq_true, ixD_tup, lsOf_new, seqD_tup, seqD_fl, slD_tup, bools, Option.map_some, true_and, ixD_fl, lenD_tup, lenD_fl, ix30, ix31, ix32, at20, at21, at30, at31, at32, List.filterMap_cons, List.filterMap_nil, t1, t2, t3, t4, eq_bb, ne_bb, Bool.or_false, Bool.not_true]
    exact hq S0 Ext.refl
  · rename_i i j
    subst hs
    have t1 : isTy S0 (.bl i) .bool = some true := rfl
    simp only [wpSs, wpS, wpE, wpEs, wpC, wpAnd, wpOr, wpO, wpIt, opt_some, onI_int, onB_bl, onR_ref, arg1_one, look, joinO, start, List.map_cons, List.map_nil, List.length_cons, List.length_nil, List.replicate, List.cons_append, List.nil_append, List.append_nil, List.getElem?_cons_succ, List.getElem?_cons_zero, kcD, Nat.reduceAdd, Nat.reduceSub, br_t, br_f, br_n, asg, setAll, List.set_cons_succ, List.set_cons_zero, tgs, wipe, eq_ii, ne_ii, lt_ii, le_ii, gt_ii, ge_ii, is_n, isn_n, is_b, isn_b, add_ii, sub_ii, mul_ii, mod_ii, fdiv_ii, pow_ii, isNon, biD, intD_i, intD_b, esLen, beq_self_eq_true, ixD_tup, lsOf_new, seqD_tup, seqD_fl, slD_tup, bools, Option.map_some, true_and, ixD_fl, lenD_tup, lenD_fl, ix30, ix31, ix32, at20, at21, at30, at31, at32, List.filterMap_cons, List.filterMap_nil, t1, eq_bb]
    exact hq S0 Ext.refl
  · have t1 : isTy S0 .non .bool = some false := rfl
    have t2 : isTy S0 .non .int = some false := rfl
    have t3 : isTy S0 .non .list = some false := rfl
    have t4 : isTy S0 .non .tuple = some false := rfl
    simp only [wpSs, wpS, wpE, wpEs, wpC, wpAnd, wpOr, wpO, wpIt, opt_some, onI_int, onB_bl, onR_ref, arg1_one, look, joinO, start, List.map_cons, List.map_nil, List.length_cons, List.length_nil, List.replicate, List.cons_append, List.nil_append, List.append_nil, List.getElem?_cons_succ, List.getElem?_cons_zero, kcD, Nat.reduceAdd, Nat.reduceSub, br_t, br_f, br_n, asg, setAll, List.set_cons_succ, List.set_cons_zero, tgs, wipe, eq_ii, ne_ii, lt_ii, le_ii, gt_ii, ge_ii, is_n, isn_n, is_b, isn_b, add_ii, sub_ii, mul_ii, mod_ii, fdiv_ii, pow_ii, isNon, biD, intD_i, intD_b, esLen, beq_self_eq_true, ixD_tup, lsOf_new, seqD_tup, seqD_fl, slD_tup, bools, Option.map_some, true_and, ixD_fl, lenD_tup, lenD_fl, ix30, ix31, ix32, at20, at21, at30, at31, at32, List.filterMap_cons, List.filterMap_nil, t1, t2, t3, t4, eq_bb, ne_bb, Bool.or_false, Bool.not_true]
    refine ⟨rfl, rfl, ?_⟩
    show br true _ _
    simp only [wpSs, wpS, wpE, wpEs, wpC, wpAnd, wpOr, wpO, wpIt, opt_some, onI_int, onB_bl, onR_ref, arg1_one, look, joinO, start, List.map_cons, List.map_nil, List.length_cons, List.length_nil, List.replicate, List.cons_append, List.nil_append, List.append_nil, List.getElem?_cons_succ, List.getElem?_cons_zero, kcD, Nat.reduceAdd, Nat.reduceSub, br_t, br_f, br_n, asg, setAll, List.set_cons_succ, List.set_cons_zero, tgs, wipe, eq_ii, ne_ii, lt_ii, le_ii, gt_ii, ge_ii, is_n, isn_n, is_b, isn_b, add_ii, sub_ii, mul_ii, mod_ii, fdiv_ii, pow_ii, isNon, biD, intD_i, intD_b, esLen, beq_self_eq_true, ixD_tup, lsOf_new, seqD_tup, seqD_fl, slD_tup, bools, Option.map_some, true_and, ixD_fl, lenD_tup, lenD_fl, ix30, ix31, ix32, at20, at21, at30, at31, at32, List.filterMap_cons, List.filterMap_nil, t2, eq_bb]
    exact hq S0 Ext.refl
  · rename_i x y
    subst hs
    have t1 : isTy S0 (.str x) .bool = some false := rfl
    have t2 : isTy S0 (.str x) .int = some false := rfl
    have t3 : isTy S0 (.str x) .list = some false := rfl
    have t4 : isTy S0 (.str x) .tuple = some false := rfl
    have es : ∀ {R : Bool → Prop}, cmpD .eq (.str x) (.str x) S0 R = R (x == x) := rfl
    simp only [wpSs, wpS, wpE, wpEs, wpC, wpAnd, wpOr, wpO, wpIt, opt_some, onI_int, onB_bl, onR_ref, arg1_one, look, joinO, start, List.map_cons, List.map_nil, List.length_cons, List.length_nil, List.replicate, List.cons_append, List.nil_append, List.append_nil, List.getElem?_cons_succ, List.getElem?_cons_zero, kcD, Nat.reduceAdd, Nat.reduceSub, br_t, br_f, br_n, asg, setAll, List.set_cons_succ, List.set_cons_zero, tgs, wipe, eq_ii, ne_ii, lt_ii, le_ii, gt_ii, ge_ii, is_n, isn_n, is_b, isn_b, add_ii, sub_ii, mul_ii, mod_ii, fdiv_ii, pow_ii, isNon, biD, intD_i, intD_b, esLen, beq_self_eq_true, ixD_tup, lsOf_new, seqD_tup, seqD_fl, slD_tup, bools, Option.map_some, true_and, ixD_fl, lenD_tup, lenD_fl, ix30, ix31, ix32, at20, at21, at30, at31, at32, List.filterMap_cons, List.filterMap_nil, t1, t2, t3, t4, eq_bb, ne_bb, es, Bool.or_false, Bool.not_true]
    exact hq S0 Ext.refl
  · rename_i xs ys
    obtain ⟨rfl, hl, he⟩ := hs
    have t1 : isTy S0 (.tup xs) .bool = some false := rfl
    have t3 : isTy S0 (.tup xs) .list = some false := rfl
    have t4 : isTy S0 (.tup xs) .tuple = some true := rfl
    simp only [wpSs, wpS, wpE, wpEs, wpC, wpAnd, wpOr, wpO, wpIt, opt_some, onI_int, onB_bl, onR_ref, arg1_one, look, joinO, start, List.map_cons, List.map_nil, List.length_cons, List.length_nil, List.replicate, List.cons_append, List.nil_append, List.append_nil, List.getElem?_cons_succ, List.getElem?_cons_zero, kcD, Nat.reduceAdd, Nat.reduceSub, br_t, br_f, br_n, asg, setAll, List.set_cons_succ, List.set_cons_zero, tgs, wipe, eq_ii, ne_ii, lt_ii, le_ii, gt_ii, ge_ii, is_n, isn_n, is_b, isn_b, add_ii, sub_ii, mul_ii, mod_ii, fdiv_ii, pow_ii, isNon, biD, intD_i, intD_b, esLen, beq_self_eq_true, ixD_tup, lsOf_new, seqD_tup, seqD_fl, slD_tup, bools, Option.map_some, true_and, ixD_fl, lenD_tup, lenD_fl, ix30, ix31, ix32, at20, at21, at30, at31, at32, List.filterMap_cons, List.filterMap_nil, t1, t3, t4, eq_bb, ne_bb, Bool.or_true, Bool.false_or, Bool.not_true]
    refine ⟨by omega, by omega, by omega, by omega, len_lim (by simpa using hl), ?_⟩
    refine compW_drop (S0 := S0) (fun _ _ => trivial) Ext.refl (fun d hd S k e kk => ?_) fun p S e hp => ?_
    · obtain ⟨i, hi, rfl⟩ := List.mem_map.mp hd
      have hi := List.mem_range.mp hi
      obtain ⟨y, hy, ey⟩ := at_some (xs := xs) (i := 0 + (i : Int)) (by omega) (by omega)
      simp only [wpSs, wpS, wpE, wpEs, wpC, wpAnd, wpOr, wpO, wpIt, opt_some, onI_int, onB_bl, onR_ref, arg1_one, look, joinO, start, List.map_cons, List.map_nil, List.length_cons, List.length_nil, List.replicate, List.cons_append, List.nil_append, List.append_nil, List.getElem?_cons_succ, List.getElem?_cons_zero, kcD, Nat.reduceAdd, Nat.reduceSub, br_t, br_f, br_n, asg, setAll, List.set_cons_succ, List.set_cons_zero, tgs, wipe, eq_ii, ne_ii, lt_ii, le_ii, gt_ii, ge_ii, is_n, isn_n, is_b, isn_b, add_ii, sub_ii, mul_ii, mod_ii, fdiv_ii, pow_ii, isNon, biD, intD_i, intD_b, esLen, beq_self_eq_true, ixD_tup, lsOf_new, seqD_tup, seqD_fl, slD_tup, bools, Option.map_some, true_and, ixD_fl, lenD_tup, lenD_fl, ix30, ix31, ix32, at20, at21, at30, at31, at32, List.filterMap_cons, List.filterMap_nil, ey]
      refine call hr ⟨y, y, rfl, (he y hy).ext e, fun S' e' => ?_⟩
      simp only [wpSs, wpS, wpE, wpEs, wpC, wpAnd, wpOr, wpO, wpIt, opt_some, onI_int, onB_bl, onR_ref, arg1_one, look, joinO, start, List.map_cons, List.map_nil, List.length_cons, List.length_nil, List.replicate, List.cons_append, List.nil_append, List.append_nil, List.getElem?_cons_succ, List.getElem?_cons_zero, kcD, Nat.reduceAdd, Nat.reduceSub, br_t, br_f, br_n, asg, setAll, List.set_cons_succ, List.set_cons_zero, tgs, wipe, eq_ii, ne_ii, lt_ii, le_ii, gt_ii, ge_ii, is_n, isn_n, is_b, isn_b, add_ii, sub_ii, mul_ii, mod_ii, fdiv_ii, pow_ii, isNon, biD, intD_i, intD_b, esLen, beq_self_eq_true, ixD_tup, lsOf_new, seqD_tup, seqD_fl, slD_tup, bools, Option.map_some, true_and, ixD_fl, lenD_tup, lenD_fl, ix30, ix31, ix32, at20, at21, at30, at31, at32, List.filterMap_cons, List.filterMap_nil]
      exact kk S' e'
    · refine mkL_ok (by simp) fun p2 hp2 => ?_
      have hne : p ≠ p2 := ne_new upd_at hp2
      exact eq_nil (ys := []) (by rw [upd_off hne, upd_at]) upd_at rfl (hq _ (e.trans ((Ext.new hp).trans (Ext.new hp2))))
  · rename_i a b
    obtain ⟨xs, e1, e2, hl, he⟩ := hs
    have ty : ∀ c, S0 c = some (.lst xs) → isTy S0 (.ref c) .bool = some false ∧ isTy S0 (.ref c) .list = some true ∧ isTy S0 (.ref c) .tuple = some false := fun c e => by
      refine ⟨?_, ?_, ?_⟩ <;> (show tyO (S0 c) _ = _; rw [e]; rfl)
    obtain ⟨t1, t3, t4⟩ := ty a e1
    obtain ⟨u1, u3, u4⟩ := ty b e2
    simp only [wpSs, wpS, wpE, wpEs, wpC, wpAnd, wpOr, wpO, wpIt, opt_some, onI_int, onB_bl, onR_ref, arg1_one, look, joinO, start, List.map_cons, List.map_nil, List.length_cons, List.length_nil, List.replicate, List.cons_append, List.nil_append, List.append_nil, List.getElem?_cons_succ, List.getElem?_cons_zero, kcD, Nat.reduceAdd, Nat.reduceSub, br_t, br_f, br_n, asg, setAll, List.set_cons_succ, List.set_cons_zero, tgs, wipe, eq_ii, ne_ii, lt_ii, le_ii, gt_ii, ge_ii, is_n, isn_n, is_b, isn_b, add_ii, sub_ii, mul_ii, mod_ii, fdiv_ii, pow_ii, isNon, biD, intD_i, intD_b, esLen, beq_self_eq_true, ixD_tup, lsOf_new, seqD_tup, seqD_fl, slD_tup, bools, Option.map_some, true_and, ixD_fl, lenD_tup, lenD_fl, ix30, ix31, ix32, at20, at21, at30, at31, at32, List.filterMap_cons, List.filterMap_nil, t1, t3, t4, u1, u3, u4, eq_bb, ne_bb, Bool.or_true, Bool.true_or, Bool.false_or, Bool.not_true, lenD_ref e1, lenD_ref e2]
    refine ⟨by omega, by omega, by omega, by omega, len_lim (by simpa using hl), ?_⟩
    refine compW_drop (S0 := S0) (fun _ _ => trivial) Ext.refl (fun d hd S k e kk => ?_) fun p S e hp => ?_
    · obtain ⟨i, hi, rfl⟩ := List.mem_map.mp hd
      have hi := List.mem_range.mp hi
      obtain ⟨y, hy, ey⟩ := at_some (xs := xs) (i := 0 + (i : Int)) (by omega) (by omega)
      simp only [wpSs, wpS, wpE, wpEs, wpC, wpAnd, wpOr, wpO, wpIt, opt_some, onI_int, onB_bl, onR_ref, arg1_one, look, joinO, start, List.map_cons, List.map_nil, List.length_cons, List.length_nil, List.replicate, List.cons_append, List.nil_append, List.append_nil, List.getElem?_cons_succ, List.getElem?_cons_zero, kcD, Nat.reduceAdd, Nat.reduceSub, br_t, br_f, br_n, asg, setAll, List.set_cons_succ, List.set_cons_zero, tgs, wipe, eq_ii, ne_ii, lt_ii, le_ii, gt_ii, ge_ii, is_n, isn_n, is_b, isn_b, add_ii, sub_ii, mul_ii, mod_ii, fdiv_ii, pow_ii, isNon, biD, intD_i, intD_b, esLen, beq_self_eq_true, ixD_tup, lsOf_new, seqD_tup, seqD_fl, slD_tup, bools, Option.map_some, true_and, ixD_fl, lenD_tup, lenD_fl, ix30, ix31, ix32, at20, at21, at30, at31, at32, List.filterMap_cons, List.filterMap_nil, ixD_ref (e _ _ e1), ixD_ref (e _ _ e2), ey]
      refine call hr ⟨y, y, rfl, (he y hy).ext e, fun S' e' => ?_⟩
      simp only [wpSs, wpS, wpE, wpEs, wpC, wpAnd, wpOr, wpO, wpIt, opt_some, onI_int, onB_bl, onR_ref, arg1_one, look, joinO, start, List.map_cons, List.map_nil, List.length_cons, List.length_nil, List.replicate, List.cons_append, List.nil_append, List.append_nil, List.getElem?_cons_succ, List.getElem?_cons_zero, kcD, Nat.reduceAdd, Nat.reduceSub, br_t, br_f, br_n, asg, setAll, List.set_cons_succ, List.set_cons_zero, tgs, wipe, eq_ii, ne_ii, lt_ii, le_ii, gt_ii, ge_ii, is_n, isn_n, is_b, isn_b, add_ii, sub_ii, mul_ii, mod_ii, fdiv_ii, pow_ii, isNon, biD, intD_i, intD_b, esLen, beq_self_eq_true, ixD_tup, lsOf_new, seqD_tup, seqD_fl, slD_tup, bools, Option.map_some, true_and, ixD_fl, lenD_tup, lenD_fl, ix30, ix31, ix32, at20, at21, at30, at31, at32, List.filterMap_cons, List.filterMap_nil]
      exact kk S' e'
    · refine mkL_ok (by simp) fun p2 hp2 => ?_
      have hne : p ≠ p2 := ne_new upd_at hp2
      exact eq_nil (ys := []) (by rw [upd_off hne, upd_at]) upd_at rfl (hq _ (e.trans ((Ext.new hp).trans (Ext.new hp2))))
  · exact False.elim hs
end M
namespace M
/-- the error of that number is raised, or it goes on -/
def outK : Option Nat → (Sto → Prop) → XK → Sto → Prop
  | none, Q, _, S => Q S
  | some k, _, X, S => X k [] S
theorem vl_int {S : Sto} {i : Int} : Vl S (.int i) := ⟨trivial, fun xs e => nomatch e⟩
theorem vl_non {S : Sto} : Vl S .non := ⟨trivial, fun xs e => nomatch e⟩
theorem vl_str {S : Sto} {x : Tx} : Vl S (.str x) := ⟨trivial, fun xs e => nomatch e⟩
theorem vl_bl {S : Sto} {b : Bool} : Vl S (.bl b) := ⟨trivial, fun xs e => nomatch e⟩
theorem vl_ref {S : Sto} {a : Nat} {o : O} (h : S a = some o) : Vl S (.ref a) := ⟨⟨o, h⟩, fun xs e => nomatch e⟩
theorem vl_tup {S : Sto} {xs : List D} (h : ∀ y ∈ xs, Kn S y) : Vl S (.tup xs) := ⟨trivial, fun ys e => by cases e; exact h⟩
def orE (a b : Option Nat) : Option Nat := match a with
  | none => b
  | some k => some k
theorem orE_some {a b : Option Nat} {k : Nat} (h : a = some k) : orE a b = some k := by rw [h]; rfl
theorem orE_none {a b : Option Nat} (h : a = none) : orE a b = b := by rw [h]; rfl
theorem outK_mono {e : Option Nat} {A B : Sto → Prop} {X : XK} {S : Sto} (h : outK e A X S) (f : A S → B S) : outK e B X S := by
  cases e with
  | none => exact f h
  | some k => exact h
theorem br_tt {A B : Prop} (h : A) : br true A B := br_t.mpr h
theorem br_ff {A B : Prop} (h : B) : br false A B := br_f.mpr h
def ancsK : List (List Nat) := [[0, 3, 4], [1, 3, 4], [2, 3, 4], [3, 4]]
def subK (i j : Nat) : Bool := (ancsK.getD i []).contains j
theorem orE_lt {a b : Option Nat} {k n : Nat} (ha : ∀ k, a = some k → k < n) (hb : ∀ k, b = some k → k < n) (h : orE a b = some k) : k < n := by
  cases a with
  | none => exact hb k h
  | some j => exact ha k h
theorem if_lt {p : Prop} [Decidable p] {j k n : Nat} (hj : j < n) (h : (if p then none else some j) = some k) : k < n := by
  split at h
  · cases h
  · cases h; exact hj
theorem count_ref {S : Sto} {a : Nat} {xs : List D} {bs : List Bool} (h : S a = some (.lst xs)) (hb : bools xs = some bs) {c : Bool} {Q : VK} : mtD .count (.ref a) [.bl c] S Q = Q (.int ((bs.count c : Nat) : Int)) S := by
  show opt (lstAt S a) _ = _
  rw [lstAt_eq h]
  show opt (bools xs) _ = _
  rw [hb]
  rfl
theorem index_ref {S : Sto} {a : Nat} {xs : List D} {bs : List Bool} (h : S a = some (.lst xs)) (hb : bools xs = some bs) {c : Bool} {Q : VK} : mtD .index (.ref a) [.bl c] S Q = opt (ixB c bs) fun j => Q (.int ((j : Nat) : Int)) S := by
  show opt (lstAt S a) _ = _
  rw [lstAt_eq h]
  show opt (bools xs) _ = _
  rw [hb]
  rfl
theorem none_of {S S' : Sto} {p : Nat} (k : Ext S S') (h : S' p = none) : S p = none := by
  cases e : S p with
  | none => rfl
  | some o => rw [k p o e] at h; cases h
theorem ext_wr {S S' S2 : Sto} {w : Nat} (k : Ext S S') (h : S w = none) (k2 : Kp w S' S2) : Ext S S2 := fun a o e => k2 a o (fun z => by rw [z, h] at e; cases e) (k a o e)
theorem onX_xn {C : Nat} {fs : List D} {P : Nat → Prop} : onX (.xn C fs) P = P C := rfl
def plA : D → Bool
  | .non => true
  | .int _ => true
  | .str _ => true
  | .bl _ => true
  | _ => false
def plB : D → Bool
  | .tup xs => xs.all plA
  | .non => true
  | .int _ => true
  | .str _ => true
  | .bl _ => true
  | _ => false
theorem plA_kn {S : Sto} {d : D} (h : plA d = true) : Kn S d := by
  cases d with
  | non => trivial
  | int _ => trivial
  | str _ => trivial
  | bl _ => trivial
  | _ => cases h
theorem vl_pl {S : Sto} {d : D} (h : plB d = true) : Vl S d := by
  cases d with
  | tup xs => exact vl_tup fun y hy => plA_kn (List.all_eq_true.mp h y hy)
  | non => exact vl_non
  | int _ => exact vl_int
  | str _ => exact vl_str
  | bl _ => exact vl_bl
  | _ => cases h
theorem ix_ref {S : Sto} {a : Nat} {xs : List D} (h : S a = some (.lst xs)) {i : Int} {Q : VK} (k : opt (atI xs i) fun d => Q d S) : ixD (.ref a) (.int i) S Q := by rw [ixD_ref h]; exact k
theorem nt {b : Bool} (h : b = false) : ¬ (b = true) := by rw [h]; exact Bool.false_ne_true
theorem str_ne {x : Tx} {S : Sto} {Q : Bool → Prop} (h : Q false) : cmpD .ne (.str x) (.str x) S Q := by
  show Q (!(x == x))
  rw [show (x == x) = true from beq_self_eq_true x]
  exact h
theorem mkL_abs {xs : List D} {S : Sto} {Q : VK} (h : xs.length ≤ 1000) (k : ∀ p S', Ext S S' → S' p = some (.lst xs) → Q (.ref p) S') : mkL xs S Q := ⟨len_lim h, fun p hp => k p _ (Ext.new hp) upd_at⟩
theorem add_abs {S : Sto} {a b : Nat} {xs ys : List D} {Q : VK} (ha : S a = some (.lst xs)) (hb : S b = some (.lst ys)) (h : (xs ++ ys).length ≤ 1000) (k : ∀ p S', Ext S S' → S' p = some (.lst (xs ++ ys)) → Q (.ref p) S') : binD .add (.ref a) (.ref b) S Q := add_ref ha hb (mkL_abs h k)
theorem eqLB_strs {n : Nat} {S : Sto} : ∀ ws : List Tx, eqLB (eqB (n + 1) S) (ws.map .str) (ws.map .str) = true
  | [] => rfl
  | w :: ws => by
    show ((w == w) && eqLB (eqB (n + 1) S) (ws.map .str) (ws.map .str)) = true
    rw [eqLB_strs ws]; simp
theorem words_fit {S : Sto} {p : Nat} {ws : List Tx} (ok : (ws.all fun w => fit 7 S (.str w)) = true) (e : S p = some (.lst (ws.map .str))) : fit dep S (.ref p) = true := by
  show optB (lstAt S p) _ = true
  rw [lstAt_eq e]
  exact fitL_of fun y hy => by obtain ⟨b, hb, rfl⟩ := List.mem_map.mp hy; exact List.all_eq_true.mp ok b hb
theorem words_eq {S : Sto} {p q : Nat} {ws : List Tx} (hp : S p = some (.lst (ws.map .str))) (hq : S q = some (.lst (ws.map .str))) : eqB dep S (.ref p) (.ref q) = true := by
  show eqO _ (lstAt S p) (lstAt S q) = _
  rw [lstAt_eq hp, lstAt_eq hq]
  exact eqLB_strs ws
theorem words_cmp {S : Sto} {p q : Nat} {ws : List Tx} {Q : Bool → Prop} (ok : (ws.all fun w => fit 7 S (.str w)) = true) (hp : S p = some (.lst (ws.map .str))) (hq : S q = some (.lst (ws.map .str))) (k : Q true) : cmpD .eq (.ref p) (.ref q) S Q := by
  refine ⟨words_fit ok hp, words_fit ok hq, ?_⟩
  rw [words_eq hp hq]; exact k
theorem words_ne {S : Sto} {p q : Nat} {ws : List Tx} {Q : Bool → Prop} (ok : (ws.all fun w => fit 7 S (.str w)) = true) (hp : S p = some (.lst (ws.map .str))) (hq : S q = some (.lst (ws.map .str))) (k : Q false) : cmpD .ne (.ref p) (.ref q) S Q := by
  refine ⟨words_fit ok hp, words_fit ok hq, ?_⟩
  rw [words_eq hp hq]; exact k
theorem mul_abs {S : Sto} {a : Nat} {xs : List D} {n : Int} {Q : VK} (ha : S a = some (.lst xs)) (h0 : 0 ≤ n) (h1 : n < 1000) (h : ((List.replicate n.toNat xs).flatten).length ≤ 1000) (k : ∀ p S', Ext S S' → S' p = some (.lst ((List.replicate n.toNat xs).flatten)) → Q (.ref p) S') : binD .mul (.ref a) (.int n) S Q := by
  show opt (lstAt S a) _
  rw [lstAt_eq ha]
  exact ⟨h0, h1, mkL_abs h k⟩
theorem compW_any {chk : Sto → Prop} {step : D → Sto → (Option D → Sto → Prop) → Prop} {Q : VK} {P : D → Prop} {S0 : Sto} (hc : ∀ S, Ext S0 S → chk S) : ∀ {xs acc : List D} {S : Sto}, Ext S0 S → (∀ y ∈ acc, P y) → (∀ d ∈ xs, ∀ (S : Sto) (k : Option D → Sto → Prop), Ext S0 S → (∀ r S', Ext S S' → (∀ v, r = some v → P v) → k r S') → step d S k) →
    (∀ p vs S, Ext S0 S → vs.length ≤ acc.length + xs.length → (∀ y ∈ vs, P y) → S p = none → Q (.ref p) (upd S p (.lst vs))) → compW chk step Q xs acc S
  | [], acc, S, e, ha, _, h => ⟨hc S e, fun p hp => h p acc S e (by simp) ha hp⟩
  | x :: xs, acc, S, e, ha, hs, h => ⟨hc S e, hs x (by simp) S _ e fun r S' e' hr => compW_any hc (e.trans e') (fun y hy => by
      rcases List.mem_append.mp hy with hy | hy
      · exact ha y hy
      · cases r with
        | none => cases hy
        | some v => simp [Option.toList] at hy; rw [hy]; exact hr v rfl) (fun d hd => hs d (by simp [hd])) fun p vs S e hl hv hp => h p vs S e (by
          have : (acc ++ r.toList).length ≤ acc.length + 1 := by cases r <;> simp [Option.toList]
          simp only [List.length_cons]; omega) hv hp⟩
theorem at_hd {α : Type} {v : α} {vs : List α} : atI (v :: vs) 0 = some v := by
  unfold atI ixN
  rw [if_pos (by decide), if_pos (by simp)]
  rfl
theorem cut_tl {α : Type} {v : α} {vs : List α} : cut (v :: vs) (some 1) none = vs := by
  have e1 : sIx (v :: vs).length 0 (some 1) = 1 := by
    simp [sIx]
  have e2 : sIx (v :: vs).length (v :: vs).length none = (v :: vs).length := rfl
  unfold cut
  rw [e1, e2]
  simp
theorem eqLB_nil {f : D → D → Bool} {xs : List D} : eqLB f xs [] = xs.isEmpty := by cases xs <;> rfl
def bdL : Nat → Nat
  | 3 => 100
  | _ => 5
def RpO (b : Nat) (f : D → Prop) : Option O → Prop
  | some (.lst xs) => xs.length ≤ b ∧ ∀ y ∈ xs, f y
  | some .dic => True
  | some (.dct kvs) => kvs.length ≤ 3 ∧ ∀ p ∈ kvs, p.1.length ≤ 20 ∧ (∀ c ∈ p.1, c < 1114112) ∧ f p.2
  | none => False
/-- what stood stands, but in W -/
def KpP (W : Nat → Prop) (S S' : Sto) : Prop := ∀ a o, ¬ W a → S a = some o → S' a = some o
def Rp (W : Nat → Prop) : Nat → Sto → D → Prop
  | 0, _, _ => False
  | n + 1, S, d => (match d with
    | .non => True
    | .bl _ => True
    | .int i => Bd 140 i
    | .str x => x.length ≤ 50 ∧ ∀ c ∈ x, c < 1114112
    | .tup xs => xs.length ≤ bdL (n + 1) ∧ ∀ y ∈ xs, Rp W n S y
    | .ref a => ¬ W a ∧ RpO (bdL (n + 1)) (Rp W n S) (S a)
    | _ => False)
theorem sumN_le2 {α : Type} {f : α → Nat} {c : Nat} : ∀ {xs : List α}, (∀ y ∈ xs, f y ≤ c) → sumN (xs.map f) ≤ xs.length * c
  | [], _ => by simp [sumN]
  | x :: xs, h => by
    have h1 := h x (by simp)
    have h2 := sumN_le2 (xs := xs) fun y hy => h y (by simp [hy])
    show f x + sumN (xs.map f) ≤ (xs.length + 1) * c
    rw [Nat.succ_mul]
    omega
/-- the bounds -/
def RpB : Nat → Nat
  | 0 => 0
  | n + 1 => bdL (n + 1) * (RpB n + 400) + 2000
theorem rp_all {W : Nat → Prop} : ∀ {m n : Nat} {S S' : Sto} {d : D}, Rp W m S d → m ≤ n → KpP W S S' → Rp W m S' d ∧ toQ n S' d = toQ n S d ∧ fitQ n S d ∧ szR n S d ≤ RpB m
  | 0, _, _, _, _, h, _, _ => False.elim h
  | m + 1, 0, _, _, _, _, h, _ => absurd h (by omega)
  | m + 1, n + 1, S, S', d, h, hmn, k => by
    have ih := fun {d : D} (h : Rp W m S d) => rp_all (n := n) h (by omega) k
    have lst : ∀ xs : List D, xs.length ≤ bdL (m + 1) → (∀ y ∈ xs, Rp W m S y) → (∀ y ∈ xs, Rp W m S' y) ∧ xs.map (toQ n S') = xs.map (toQ n S) ∧ (∀ y ∈ xs, fitQ n S y) ∧ sumN (xs.map fun y => szR n S y + 2) + 3 ≤ RpB (m + 1) := fun xs hl hx => by
      refine ⟨fun y hy => (ih (hx y hy)).1, List.map_congr_left fun y hy => (ih (hx y hy)).2.1, fun y hy => (ih (hx y hy)).2.2.1, ?_⟩
      have h1 := sumN_le2 (xs := xs) (f := fun y => szR n S y + 2) (c := RpB m + 400) fun y hy => by
        have := (ih (hx y hy)).2.2.2
        show szR n S y + 2 ≤ RpB m + 400
        omega
      have h2 : xs.length * (RpB m + 400) ≤ bdL (m + 1) * (RpB m + 400) := Nat.mul_le_mul_right _ hl
      show _ ≤ bdL (m + 1) * (RpB m + 400) + 2000
      omega
    have big : 2000 ≤ RpB (m + 1) := Nat.le_add_left _ _
    cases d with
    | non => exact ⟨trivial, rfl, trivial, Nat.le_trans (by show 4 ≤ 2000; decide) big⟩
    | bl b => exact ⟨trivial, rfl, trivial, Nat.le_trans (by show 5 ≤ 2000; decide) big⟩
    | int i => exact ⟨h, rfl, (show smr i from smr_of 140 (by decide) h), Nat.le_trans (by show 1902 ≤ 2000; decide) big⟩
    | str x => exact ⟨h, rfl, h.2, Nat.le_trans (by show 10 * x.length + 2 ≤ 2000; have := h.1; omega) big⟩
    | tup xs =>
      obtain ⟨l1, l2, l3, l4⟩ := lst xs h.1 h.2
      exact ⟨⟨h.1, l1⟩, (by show P.tup _ = P.tup _; rw [l2]), l3, l4⟩
    | ref a =>
      obtain ⟨hn, h⟩ : ¬ W a ∧ RpO (bdL (m + 1)) (Rp W m S) (S a) := h
      cases e : S a with
      | none => rw [e] at h; exact False.elim h
      | some o =>
        have e' := k a o hn e
        rw [e] at h
        cases o with
        | lst xs =>
          obtain ⟨l1, l2, l3, l4⟩ := lst xs h.1 h.2
          refine ⟨⟨hn, ?_⟩, ?_, ?_, ?_⟩
          · rw [e']
            exact ⟨h.1, l1⟩
          · simp only [toQ, e, e']
            rw [l2]
          · show fitO (fitQ n S) (S a)
            rw [e]
            exact l3
          · simp only [szR, e]
            exact l4
        | dic =>
          refine ⟨⟨hn, ?_⟩, ?_, ?_, ?_⟩
          · rw [e']
            trivial
          · simp only [toQ, e, e']
          · show fitO (fitQ n S) (S a)
            rw [e]
            trivial
          · simp only [szR, e]
            omega
        | dct kvs =>
          obtain ⟨hl, hx⟩ := h
          refine ⟨⟨hn, ?_⟩, ?_, ?_, ?_⟩
          · rw [e']
            exact ⟨hl, fun p hp => ⟨(hx p hp).1, (hx p hp).2.1, (ih (hx p hp).2.2).1⟩⟩
          · simp only [toQ, e, e']
            congr 1
            exact List.map_congr_left fun p hp => by rw [(ih (hx p hp).2.2).2.1]
          · show fitO (fitQ n S) (S a)
            rw [e]
            exact ⟨by omega, fun p hp => ⟨(hx p hp).2.1, (ih (hx p hp).2.2).2.2.1⟩⟩
          · simp only [szR, e]
            have h1 := sumN_le2 (xs := kvs) (f := fun p => 10 * p.1.length + 2 + szR n S p.2 + 4) (c := RpB m + 400) fun p hp => by
              have := (ih (hx p hp).2.2).2.2.2
              have := (hx p hp).1
              show 10 * p.1.length + 2 + szR n S p.2 + 4 ≤ RpB m + 400
              omega
            have h2 : kvs.length * (RpB m + 400) ≤ bdL (m + 1) * (RpB m + 400) := Nat.mul_le_mul_right _ (Nat.le_trans hl (by unfold bdL; split <;> decide))
            show _ ≤ bdL (m + 1) * (RpB m + 400) + 2000
            omega
    | _ => exact False.elim h
theorem Rp.kp {W : Nat → Prop} {m : Nat} {S S' : Sto} {d : D} (h : Rp W m S d) (k : KpP W S S') : Rp W m S' d := (rp_all h (Nat.le_refl _) k).1
theorem Kp.kpP {W : Nat → Prop} {w : Nat} {S S' : Sto} (k : Kp w S S') (h : W w) : KpP W S S' := fun a o n e => k a o (fun z => n (z ▸ h)) e
theorem Ext.kpP {W : Nat → Prop} {S S' : Sto} (k : Ext S S') : KpP W S S' := fun a o _ e => k a o e
theorem KpP.trans {W : Nat → Prop} {S S' S2 : Sto} (a : KpP W S S') (b : KpP W S' S2) : KpP W S S2 := fun x o n e => b x o n (a x o n e)
theorem Rp.kn {W : Nat → Prop} {m : Nat} {S : Sto} {d : D} (h : Rp W m S d) : Kn S d := by
  cases m with
  | zero => exact False.elim h
  | succ m =>
    cases d with
    | ref a =>
      obtain ⟨_, h⟩ : ¬ W a ∧ RpO (bdL (m + 1)) (Rp W m S) (S a) := h
      cases e : S a with
      | none => rw [e] at h; exact False.elim h
      | some o => exact ⟨o, e⟩
    | xn _ _ => exact False.elim h
    | fl _ => exact False.elim h
    | _ => trivial
theorem Rp.vl {W : Nat → Prop} {m : Nat} {S : Sto} {d : D} (h : Rp W m S d) : Vl S d := ⟨h.kn, fun xs e y hy => by
  subst e
  cases m with
  | zero => exact False.elim h
  | succ m => exact (h.2 y hy).kn⟩
/-- its numbers are small -/
def Sm4 : D → Prop
  | .int i => Bd 140 i
  | .tup xs => ∀ i, D.int i ∈ xs → Bd 140 i
  | _ => True
theorem Rp.sm4 {W : Nat → Prop} {m : Nat} {S : Sto} {d : D} (h : Rp W m S d) : Sm4 d := by
  cases m with
  | zero => exact False.elim h
  | succ m =>
    cases d with
    | int i => exact h
    | tup xs =>
      intro i hi
      have := h.2 _ hi
      cases m with
      | zero => exact False.elim this
      | succ m => exact this
    | _ => trivial
theorem Rp.weak {W W' : Nat → Prop} (hw : ∀ a, W' a → W a) : ∀ {n : Nat} {S : Sto} {d : D}, Rp W n S d → Rp W' n S d
  | 0, _, _, h => False.elim h
  | n + 1, S, d, h => by
    have ih := fun {d : D} (h : Rp W n S d) => Rp.weak hw (n := n) h
    cases d with
    | tup xs => exact ⟨h.1, fun y hy => ih (h.2 y hy)⟩
    | ref a =>
      obtain ⟨hn, h⟩ : ¬ W a ∧ RpO (bdL (n + 1)) (Rp W n S) (S a) := h
      refine ⟨fun z => hn (hw a z), ?_⟩
      cases e : S a with
      | none => rw [e] at h; exact False.elim h
      | some o =>
        rw [e] at h
        cases o with
        | lst xs => exact ⟨h.1, fun y hy => ih (h.2 y hy)⟩
        | dic => trivial
        | dct kvs => exact ⟨h.1, fun p hp => ⟨(h.2 p hp).1, (h.2 p hp).2.1, ih (h.2 p hp).2.2⟩⟩
    | xn _ _ => exact False.elim h
    | fl _ => exact False.elim h
    | non => exact h
    | bl _ => exact h
    | int _ => exact h
    | str _ => exact h
theorem rp_ref {W : Nat → Prop} {m : Nat} {S : Sto} {a : Nat} {xs : List D} (hn : ¬ W a) (e : S a = some (.lst xs)) (h : xs.length ≤ bdL (m + 1) ∧ ∀ y ∈ xs, Rp W m S y) : Rp W (m + 1) S (.ref a) := ⟨hn, by rw [e]; exact h⟩
theorem rp_dct {W : Nat → Prop} {m : Nat} {S : Sto} {a : Nat} {kvs : List (Tx × D)} (hn : ¬ W a) (e : S a = some (.dct kvs)) (h : kvs.length ≤ 3 ∧ ∀ p ∈ kvs, p.1.length ≤ 20 ∧ (∀ c ∈ p.1, c < 1114112) ∧ Rp W m S p.2) : Rp W (m + 1) S (.ref a) := ⟨hn, by rw [e]; exact h⟩
/-- the text of a number -/
theorem txI_ok {i : Int} (h0 : 0 ≤ i) (h : i < 10 ^ 40) : (txI i).length ≤ 50 ∧ ∀ c ∈ txI i, c < 1114112 := by
  refine ⟨?_, fun c hc => ?_⟩
  · obtain ⟨n, rfl⟩ := Int.eq_ofNat_of_zero_le h0
    show ((toString (Int.ofNat n)).toList.map Char.toNat).length ≤ 50
    rw [List.length_map]
    show (Nat.repr n).toList.length ≤ 50
    unfold Nat.repr
    rw [String.toList_ofList]
    have : n < 10 ^ 40 := by omega
    exact Nat.le_trans ((Nat.length_toDigits_le_iff (b := 10) (k := 40) (by decide) (by decide)).mpr this) (by decide)
  · obtain ⟨d, _, rfl⟩ := List.mem_map.mp hc
    have := d.valid
    have e : d.toNat = d.val.toNat := rfl
    rw [e]
    rcases this with h | ⟨_, h⟩
    · exact Nat.lt_trans h (by decide)
    · exact h
theorem rp_dic {W : Nat → Prop} {m : Nat} {S : Sto} {a : Nat} (hn : ¬ W a) (e : S a = some .dic) : Rp W (m + 1) S (.ref a) := ⟨hn, by rw [e]; trivial⟩
/-- is it a value without addresses whose text is short -/
def rpA : D → Bool
  | .non => true
  | .bl _ => true
  | .int i => decide (i.natAbs < 2 ^ 140)
  | .str x => decide (x.length ≤ 50) && x.all fun c => decide (c < 1114112)
  | _ => false
def rpT (b : Nat) (f : D → Bool) : D → Bool
  | .tup xs => decide (xs.length ≤ b) && xs.all f
  | d => rpA d
theorem rp_a {W : Nat → Prop} {m : Nat} {S : Sto} {d : D} (h : rpA d = true) : Rp W (m + 1) S d := by
  cases d with
  | non => trivial
  | bl _ => trivial
  | int i =>
    show i.natAbs < 2 ^ 140
    exact of_decide_eq_true h
  | str x =>
    obtain ⟨h1, h2⟩ := Bool.and_eq_true_iff.mp h
    exact ⟨of_decide_eq_true h1, fun c hc => of_decide_eq_true (List.all_eq_true.mp h2 c hc)⟩
  | _ => cases h
theorem rp_t {W : Nat → Prop} {m : Nat} {S : Sto} {f : D → Bool} (hf : ∀ y, f y = true → Rp W m S y) {d : D} (h : rpT (bdL (m + 1)) f d = true) : Rp W (m + 1) S d := by
  cases d with
  | tup xs =>
    obtain ⟨h1, h2⟩ := Bool.and_eq_true_iff.mp h
    exact ⟨of_decide_eq_true h1, fun y hy => hf y (List.all_eq_true.mp h2 y hy)⟩
  | _ => exact rp_a h
theorem rp_l {W : Nat → Prop} {m : Nat} {S : Sto} {xs : List D} (hl : xs.length ≤ bdL (m + 1)) (h : ∀ y ∈ xs, Rp W m S y) : Rp W (m + 1) S (.tup xs) := ⟨hl, h⟩
theorem rp_1 {W : Nat → Prop} {S : Sto} {d : D} (h : rpA d = true) : Rp W 1 S d := rp_a h
theorem rp_2 {W : Nat → Prop} {S : Sto} {d : D} (h : rpT 5 rpA d = true) : Rp W 2 S d := rp_t (fun _ => rp_1) h
theorem rp_3 {W : Nat → Prop} {S : Sto} {d : D} (h : rpT 100 (rpT 5 rpA) d = true) : Rp W 3 S d := rp_t (fun _ => rp_2) h
theorem mkL_new {xs : List D} {S : Sto} {Q : VK} (h : xs.length ≤ 1000) (k : ∀ p S', S p = none → Ext S S' → S' p = some (.lst xs) → Q (.ref p) S') : mkL xs S Q := ⟨len_lim h, fun p hp => k p _ hp (Ext.new hp) upd_at⟩
theorem add_new {S : Sto} {a b : Nat} {xs ys : List D} {Q : VK} (ha : S a = some (.lst xs)) (hb : S b = some (.lst ys)) (h : (xs ++ ys).length ≤ 1000) (k : ∀ p S', S p = none → Ext S S' → S' p = some (.lst (xs ++ ys)) → Q (.ref p) S') : binD .add (.ref a) (.ref b) S Q := add_ref ha hb (mkL_new h k)
theorem Well.ne {n : Nat} {S : Sto} {w p : Nat} (h : Well n S w) (hp : S p = none) : p ≠ w := fun z => by
  obtain ⟨a, b, c, e, _⟩ := h
  rw [← z, hp] at e
  cases e
theorem compW_ext {chk : Sto → Prop} {step : D → Sto → (Option D → Sto → Prop) → Prop} {Q : VK} {f : D → D} {S0 : Sto} (hc : ∀ S, Ext S0 S → chk S) : ∀ {xs acc : List D} {S : Sto}, Ext S0 S → (∀ d ∈ xs, ∀ (S : Sto) (k : Option D → Sto → Prop), Ext S0 S → (∀ S', Ext S S' → k (some (f d)) S') → step d S k) →
    (∀ p S, Ext S0 S → S p = none → Q (.ref p) (upd S p (.lst (acc ++ xs.map f)))) → compW chk step Q xs acc S
  | [], acc, S, e, _, h => ⟨hc S e, fun p hp => by have := h p S e hp; rwa [List.map_nil, List.append_nil] at this⟩
  | x :: xs, acc, S, e, hs, h => ⟨hc S e, hs x (by simp) S _ e fun S' e' => compW_ext hc (e.trans e') (fun d hd => hs d (by simp [hd])) fun p S e hp => by
      have := h p S e hp
      rw [List.map_cons] at this
      simpa [Option.toList] using this⟩
theorem ne_nil2 {S : Sto} {a b : Nat} {xs : List D} {Q : Bool → Prop} (ea : S a = some (.lst xs)) (eb : S b = some (.lst [])) (hf : ∀ y ∈ xs, fit 7 S y = true) (k : Q (!xs.isEmpty)) : cmpD .ne (.ref a) (.ref b) S Q := by
  refine ⟨?_, ?_, ?_⟩
  · show optB (lstAt S a) _ = true
    rw [lstAt_eq ea]; exact fitL_of hf
  · show optB (lstAt S b) _ = true
    rw [lstAt_eq eb]; rfl
  · rw [show eqB dep S (.ref a) (.ref b) = xs.isEmpty from by
      show eqO _ (lstAt S a) (lstAt S b) = _
      rw [lstAt_eq ea, lstAt_eq eb]
      exact eqLB_nil]
    exact k
/-- what stood before -/
def Old (S : Sto) : Nat → Prop := fun a => S a ≠ none
theorem old_new {S S' : Sto} {p : Nat} (k : Ext S S') (h : S' p = none) : ¬ Old S p := fun z => z (none_of k h)
theorem append_abs {S0 S : Sto} {a : Nat} {xs : List D} {d : D} {Q : VK} (hp : S0 a = none) (k0 : Ext S0 S) (e : S a = some (.lst xs)) (hl : xs.length < 1000) (k : ∀ S', Ext S0 S' → S' a = some (.lst (xs ++ [d])) → Q .non S') : mtD .append (.ref a) [d] S Q := append_ref e hl (k _ (ext_wr k0 hp Kp.wr) upd_at)
theorem splitT_cons (c d : Nat) (r : Tx) : splitT c (d :: r) = if d = c then [] :: splitT c r else (match splitT c r with | [] => [[d]] | w :: ws => (d :: w) :: ws) := rfl
theorem splitT_free {c : Nat} : ∀ {w : Tx}, c ∉ w → splitT c w = [w]
  | [], _ => rfl
  | d :: r, h => by
    have h1 : d ≠ c := fun e => h (by rw [e]; simp)
    have h2 : c ∉ r := fun e => h (by simp [e])
    rw [splitT_cons, if_neg h1, splitT_free h2]
theorem splitT_app {c : Nat} {rest : Tx} : ∀ {w : Tx}, c ∉ w → splitT c (w ++ [c] ++ rest) = w :: splitT c rest
  | [], _ => by
    show splitT c (c :: rest) = _
    rw [splitT_cons, if_pos rfl]
  | d :: r, h => by
    have h1 : d ≠ c := fun e => h (by rw [e]; simp)
    have h2 : c ∉ r := fun e => h (by simp [e])
    show splitT c (d :: (r ++ [c] ++ rest)) = _
    rw [splitT_cons, if_neg h1, splitT_app h2]
theorem split_join {c : Nat} : ∀ {ts : List Tx}, ts ≠ [] → (∀ t ∈ ts, c ∉ t) → splitT c (joinT [c] ts) = ts
  | [], h, _ => absurd rfl h
  | [x], _, h => splitT_free (h x (by simp))
  | x :: y :: r, _, h => by
    show splitT c (x ++ [c] ++ joinT [c] (y :: r)) = _
    rw [splitT_app (h x (by simp)), split_join (by simp) fun t ht => h t (by simp [ht])]
theorem splitT_ne (c : Nat) : ∀ x : Tx, splitT c x ≠ []
  | [] => by intro z; cases z
  | d :: r => by
    rw [splitT_cons]
    split
    · intro z; cases z
    · split <;> (intro z; cases z)
theorem splitT_len (c : Nat) : ∀ x : Tx, (splitT c x).length ≤ x.length + 1
  | [] => Nat.le_refl _
  | d :: r => by
    have ih := splitT_len c r
    rw [splitT_cons]
    split
    · simp only [List.length_cons]; omega
    · split
      · simp
      · rename_i w ws e
        rw [e] at ih
        simp only [List.length_cons] at ih ⊢
        omega
theorem splitT_mem (c : Nat) {P : Nat → Prop} : ∀ x : Tx, (∀ d ∈ x, P d) → ∀ w ∈ splitT c x, ∀ d ∈ w, P d
  | [], _, w, hw, d, hd => by
    have : w = [] := by simpa [splitT] using hw
    subst this; cases hd
  | a :: r, h, w, hw, d, hd => by
    have ih := splitT_mem c r fun d hd => h d (by simp [hd])
    rw [splitT_cons] at hw
    split at hw
    · rcases List.mem_cons.mp hw with rfl | hw
      · cases hd
      · exact ih w hw d hd
    · split at hw
      · rename_i e
        exact absurd e (splitT_ne c r)
      · rename_i u us e
        rw [e] at ih
        rcases List.mem_cons.mp hw with rfl | hw
        · rcases List.mem_cons.mp hd with rfl | hd
          · exact h _ (by simp)
          · exact ih u (by simp) d hd
        · exact ih w (by simp [hw]) d hd
def isTx : D → Bool
  | .str _ => true
  | _ => false
theorem isTy_tx {S : Sto} {v : D} (h : Kn S v) : isTy S v .str = some (isTx v) := by
  cases v with
  | ref a =>
    obtain ⟨o, e⟩ := h
    show tyO (S a) .str = _
    rw [e]
    cases o <;> rfl
  | xn _ _ => exact False.elim h
  | _ => rfl
theorem strsD_map : ∀ ts : List Tx, strsD (ts.map .str) = some ts
  | [] => rfl
  | t :: ts => by
    show (strsD (ts.map .str)).map (t :: ·) = _
    rw [strsD_map ts]; rfl
/-- a loop, by the places of what is walked -/
theorem forW_ix {chk : Sto → Prop} {step : D → Env → Sto → (Env → Sto → Prop) → Prop} {nx : Env → Sto → Prop} {I : Nat → Env → Sto → Prop} {L : List D} (hs : ∀ j d ρ S nx', L[j]? = some d → I j ρ S → (∀ ρ' S', I (j + 1) ρ' S' → nx' ρ' S') → chk S ∧ step d ρ S nx') (he : ∀ ρ S, I L.length ρ S → chk S ∧ nx ρ S) :
    ∀ (items : List D) (i : Nat) (ρ : Env) (S : Sto), items = L.drop i → i ≤ L.length → I i ρ S → forW chk step nx items ρ S
  | [], i, ρ, S, h, hi, hI => by
    have : i = L.length := by
      have := congrArg List.length h
      simp at this
      omega
    subst this
    exact he ρ S hI
  | d :: ds, i, ρ, S, h, hi, hI => by
    have hl : i < L.length := by
      have := congrArg List.length h
      simp at this
      omega
    have e1 : L.drop i = L[i] :: L.drop (i + 1) := List.drop_eq_getElem_cons hl
    rw [e1] at h
    injection h with h1 h2
    exact hs i d ρ S _ (by rw [h1]; exact List.getElem?_eq_getElem hl) hI fun ρ' S' h' => forW_ix hs he ds (i + 1) ρ' S' h2 (by omega) h'
theorem ixs {w : Tx} {i : Int} {S : Sto} {Q : VK} : ixD (.str w) (.int i) S Q = (w.length ≤ lim ∧ opt (atI w i) fun c => Q (.str [c]) S) := rfl
theorem cut_len {α : Type} (xs : List α) (lo hi : Option Int) : (cut xs lo hi).length ≤ xs.length := by
  unfold cut
  simp only [List.length_take, List.length_drop]
  omega
theorem cut_memT {α : Type} {xs : List α} {lo hi : Option Int} {c : α} (h : c ∈ cut xs lo hi) : c ∈ xs := List.drop_subset _ _ (List.take_subset _ _ h)
theorem cut_two {α : Type} {xs : List α} {i : Int} (h0 : 0 ≤ i) : (cut xs (some i) (some (i + 2))).length ≤ 2 := by
  unfold cut
  have e1 : sIx xs.length 0 (some i) = min i.toNat xs.length := if_neg (by omega)
  have e2 : sIx xs.length xs.length (some (i + 2)) = min (i + 2).toNat xs.length := if_neg (by omega)
  rw [e1, e2]
  simp only [List.length_take, List.length_drop]
  omega
theorem cut_pre {α : Type} {xs : List α} {i : Int} (h0 : 0 ≤ i) : (cut xs none (some i)).length ≤ i.toNat := by
  unfold cut
  have e2 : sIx xs.length xs.length (some i) = min i.toNat xs.length := if_neg (by omega)
  rw [e2]
  show ((xs.drop 0).take (min i.toNat xs.length - 0)).length ≤ _
  simp only [List.length_take, List.length_drop]
  omega
theorem cut_suf {α : Type} {xs : List α} {i : Int} (h0 : 0 ≤ i) : (cut xs (some i) none).length ≤ xs.length - i.toNat := by
  unfold cut
  have e1 : sIx xs.length 0 (some i) = min i.toNat xs.length := if_neg (by omega)
  rw [e1]
  show ((xs.drop (min i.toNat xs.length)).take (xs.length - min i.toNat xs.length)).length ≤ _
  simp only [List.length_take, List.length_drop]
  omega
theorem slD_str {x : Tx} {lo hi : Option Int} {S : Sto} {Q : VK} : slD (.str x) lo hi S Q = (x.length ≤ lim ∧ Q (.str (cut x lo hi)) S) := rfl
theorem add_ss {a b : Tx} {S : Sto} {Q : VK} : binD .add (.str a) (.str b) S Q = (a.length + b.length ≤ lim ∧ Q (.str (a ++ b)) S) := rfl
/-- of one shape and value, part by part -/
def Sg : Nat → Sto → D → D → Prop
  | 0, _, _, _ => False
  | m + 1, S, v, u => (match v, u with
    | .int i, .int j => i = j
    | .non, .non => True
    | .str i, .str j => i = j
    | .tup xs, .tup ys => xs.length = ys.length ∧ xs.length ≤ 1000 ∧ ∀ (i : Nat) x y, xs[i]? = some x → ys[i]? = some y → Sg m S x y
    | .ref a, .ref b => ∃ xs ys, S a = some (.lst xs) ∧ S b = some (.lst ys) ∧ xs.length = ys.length ∧ xs.length ≤ 1000 ∧ ∀ (i : Nat) x y, xs[i]? = some x → ys[i]? = some y → Sg m S x y
    | _, _ => False)
theorem Sg.ext {S S' : Sto} (k : Ext S S') : ∀ {m : Nat} {v u : D}, Sg m S v u → Sg m S' v u
  | 0, _, _, h => h
  | m + 1, v, u, h => by
    unfold Sg at h ⊢
    split at h
    · exact h
    · exact h
    · exact h
    · exact ⟨h.1, h.2.1, fun i x y h1 h2 => (h.2.2 i x y h1 h2).ext k⟩
    · obtain ⟨xs, ys, e1, e2, hl, hl2, h⟩ := h
      exact ⟨xs, ys, k _ _ e1, k _ _ e2, hl, hl2, fun i x y h1 h2 => (h i x y h1 h2).ext k⟩
    · exact False.elim h
def spSameG (m : Nat) : Sp := fun ds S Q _ => ∃ v u, ds = [v, u] ∧ Sg m S v u ∧ ∀ S', Ext S S' → Q (.bl true) S'
theorem at_get {α : Type} {xs : List α} {i : Nat} (h : i < xs.length) : atI xs (0 + (i : Int)) = some xs[i] ∧ xs[i]? = some xs[i] := by
  refine ⟨?_, List.getElem?_eq_getElem h⟩
  unfold atI ixN
  rw [if_pos (by omega), if_pos (by omega)]
  simp [h]
theorem txt_sameG {G : Gm} {ds : List D} {S0 : Sto} {Q : VK} {X : XK} {b : Ss} (m : Nat) (hb : b = (.cons (.if_ (.or (.isi (.v 0) .bool) (.cons (.isi (.v 1) .bool) .nil)) (.cons (.ret (.and (.isi (.v 0) .bool) (.cons (.isi (.v 1) .bool) (.cons (.cmp .eq (.v 0) (.v 1)) .nil)))) .nil) .nil) (.cons (.if_ (.cmp .ne (.isi (.v 0) .list) (.isi (.v 1) .list)) (.cons (.ret (.k (.bl false))) .nil) .nil) (.cons (.if_ (.and (.isi2 (.v 0) .list .tuple) (.cons (.isi2 (.v 1) .list .tuple) .nil)) (.cons (.if_ (.cmp .ne (.bi .len (.cons (.v 0) .nil)) (.bi .len (.cons (.v 1) .nil))) (.cons (.ret (.k (.bl false))) .nil) .nil) (.cons (.ret (.cmp .eq (.comp (.v 2) (.v 2) (.rng (.bi .len (.cons (.v 1) .nil))) (.some (.not (.call 12 (.cons (.ix (.v 0) (.v 2)) (.cons (.ix (.v 1) (.v 2)) .nil)))))) (.lst .nil))) .nil)) .nil) (.cons (.ret (.and (.cmp .eq (.v 0) (.v 1)) (.cons (.cmp .eq (.isi (.v 0) .int) (.isi (.v 1) .int)) .nil))) .nil))))) (hr : G.fn 12 = spSameG m) (h : spSameG (m + 1) ds S0 Q X) : ds.length = 2 ∧ wpSs G b (start 3 ds) S0 (kR Q X) := by
  obtain ⟨v, u, rfl, hs, hq⟩ := h
  subst hb
  refine ⟨rfl, ?_⟩
  unfold Sg at hs
  split at hs
  · rename_i i j
    subst hs
    have t1 : isTy S0 (.int i) .bool = some false := rfl
    have t2 : isTy S0 (.int i) .int = some true := rfl
    have t3 : isTy S0 (.int i) .list = some false := rfl
    have t4 : isTy S0 (.int i) .tuple = some false := rfl
    simp only [wpSs, wpS, wpE, wpEs, wpC, wpAnd, wpOr, wpO, wpIt, opt_some, onI_int, onB_bl, onR_ref, arg1_one, look, joinO, start, List.map_cons, List.map_nil, List.length_cons, List.length_nil, List.replicate, List.cons_append, List.nil_append, List.append_nil, List.getElem?_cons_succ, List.getElem?_cons_zero, kcD, Nat.reduceAdd, Nat.reduceSub, br_t, br_f, br_n, asg, setAll, List.set_cons_succ, List.set_cons_zero, tgs, wipe, eq_ii, ne_ii, lt_ii, le_ii, gt_ii, ge_ii, is_n, isn_n, is_b, isn_b, add_ii, sub_ii, mul_ii, mod_ii, fdiv_ii, pow_ii, isNon, biD, intD_i, intD_b, esLen, beq_self_eq_true, ixD_tup, lsOf_new, seqD_tup, seqD_fl, slD_tup, bools, Option.map_some, true_and, ixD_fl, lenD_tup, lenD_fl, ix30, ix31, ix32, at20, at21, at30, at31, at32, List.filterMap_cons, List.filterMap_nil, t1, t2, t3, t4, eq_bb, ne_bb, Bool.or_false, Bool.not_true]
    exact hq S0 Ext.refl
  · have t1 : isTy S0 .non .bool = some false := rfl
    have t2 : isTy S0 .non .int = some false := rfl
    have t3 : isTy S0 .non .list = some false := rfl
    have t4 : isTy S0 .non .tuple = some false := rfl
    simp only [wpSs, wpS, wpE, wpEs, wpC, wpAnd, wpOr, wpO, wpIt, opt_some, onI_int, onB_bl, onR_ref, arg1_one, look, joinO, start, List.map_cons, List.map_nil, List.length_cons, List.length_nil, List.replicate, List.cons_append, List.nil_append, List.append_nil, List.getElem?_cons_succ, List.getElem?_cons_zero, kcD, Nat.reduceAdd, Nat.reduceSub, br_t, br_f, br_n, asg, setAll, List.set_cons_succ, List.set_cons_zero, tgs, wipe, eq_ii, ne_ii, lt_ii, le_ii, gt_ii, ge_ii, is_n, isn_n, is_b, isn_b, add_ii, sub_ii, mul_ii, mod_ii, fdiv_ii, pow_ii, isNon, biD, intD_i, intD_b, esLen, beq_self_eq_true, ixD_tup, lsOf_new, seqD_tup, seqD_fl, slD_tup, bools, Option.map_some, true_and, ixD_fl, lenD_tup, lenD_fl, ix30, ix31, ix32, at20, at21, at30, at31, at32, List.filterMap_cons, List.filterMap_nil, t1, t2, t3, t4, eq_bb, ne_bb, Bool.or_false, Bool.not_true]
    refine ⟨rfl, rfl, ?_⟩
    show br true _ _
    simp only [wpSs, wpS, wpE, wpEs, wpC, wpAnd, wpOr, wpO, wpIt, opt_some, onI_int, onB_bl, onR_ref, arg1_one, look, joinO, start, List.map_cons, List.map_nil, List.length_cons, List.length_nil, List.replicate, List.cons_append, List.nil_append, List.append_nil, List.getElem?_cons_succ, List.getElem?_cons_zero, kcD, Nat.reduceAdd, Nat.reduceSub, br_t, br_f, br_n, asg, setAll, List.set_cons_succ, List.set_cons_zero, tgs, wipe, eq_ii, ne_ii, lt_ii, le_ii, gt_ii, ge_ii, is_n, isn_n, is_b, isn_b, add_ii, sub_ii, mul_ii, mod_ii, fdiv_ii, pow_ii, isNon, biD, intD_i, intD_b, esLen, beq_self_eq_true, ixD_tup, lsOf_new, seqD_tup, seqD_fl, slD_tup, bools, Option.map_some, true_and, ixD_fl, lenD_tup, lenD_fl, ix30, ix31, ix32, at20, at21, at30, at31, at32, List.filterMap_cons, List.filterMap_nil, t2, eq_bb]
    exact hq S0 Ext.refl
  · rename_i x y
    subst hs
    have t1 : isTy S0 (.str x) .bool = some false := rfl
    have t2 : isTy S0 (.str x) .int = some false := rfl
    have t3 : isTy S0 (.str x) .list = some false := rfl
    have t4 : isTy S0 (.str x) .tuple = some false := rfl
    have es : ∀ {R : Bool → Prop}, cmpD .eq (.str x) (.str x) S0 R = R (x == x) := rfl
    simp only [wpSs, wpS, wpE, wpEs, wpC, wpAnd, wpOr, wpO, wpIt, opt_some, onI_int, onB_bl, onR_ref, arg1_one, look, joinO, start, List.map_cons, List.map_nil, List.length_cons, List.length_nil, List.replicate, List.cons_append, List.nil_append, List.append_nil, List.getElem?_cons_succ, List.getElem?_cons_zero, kcD, Nat.reduceAdd, Nat.reduceSub, br_t, br_f, br_n, asg, setAll, List.set_cons_succ, List.set_cons_zero, tgs, wipe, eq_ii, ne_ii, lt_ii, le_ii, gt_ii, ge_ii, is_n, isn_n, is_b, isn_b, add_ii, sub_ii, mul_ii, mod_ii, fdiv_ii, pow_ii, isNon, biD, intD_i, intD_b, esLen, beq_self_eq_true, ixD_tup, lsOf_new, seqD_tup, seqD_fl, slD_tup, bools, Option.map_some, true_and, ixD_fl, lenD_tup, lenD_fl, ix30, ix31, ix32, at20, at21, at30, at31, at32, List.filterMap_cons, List.filterMap_nil, t1, t2, t3, t4, eq_bb, ne_bb, es, Bool.or_false, Bool.not_true]
    exact hq S0 Ext.refl
  · rename_i xs ys
    obtain ⟨el, hl, he⟩ := hs
    have t1 : ∀ xs, isTy S0 (.tup xs) .bool = some false := fun _ => rfl
    have t3 : ∀ xs, isTy S0 (.tup xs) .list = some false := fun _ => rfl
    have t4 : ∀ xs, isTy S0 (.tup xs) .tuple = some true := fun _ => rfl
    have e9 : ((xs.length : Int) == (ys.length : Int)) = true := by rw [el]; exact beq_self_eq_true _
    simp only [wpSs, wpS, wpE, wpEs, wpC, wpAnd, wpOr, wpO, wpIt, opt_some, onI_int, onB_bl, onR_ref, arg1_one, look, joinO, start, List.map_cons, List.map_nil, List.length_cons, List.length_nil, List.replicate, List.cons_append, List.nil_append, List.append_nil, List.getElem?_cons_succ, List.getElem?_cons_zero, kcD, Nat.reduceAdd, Nat.reduceSub, br_t, br_f, br_n, asg, setAll, List.set_cons_succ, List.set_cons_zero, tgs, wipe, eq_ii, ne_ii, lt_ii, le_ii, gt_ii, ge_ii, is_n, isn_n, is_b, isn_b, add_ii, sub_ii, mul_ii, mod_ii, fdiv_ii, pow_ii, isNon, biD, intD_i, intD_b, esLen, beq_self_eq_true, ixD_tup, lsOf_new, seqD_tup, seqD_fl, slD_tup, bools, Option.map_some, true_and, ixD_fl, lenD_tup, lenD_fl, ix30, ix31, ix32, at20, at21, at30, at31, at32, List.filterMap_cons, List.filterMap_nil, t1, t3, t4, eq_bb, ne_bb, Bool.or_true, Bool.false_or, Bool.not_true, e9]
    refine ⟨by omega, by omega, by omega, by omega, len_lim (by rw [← el]; simpa using hl), ?_⟩
    refine compW_drop (S0 := S0) (fun _ _ => trivial) Ext.refl (fun d hd S k e kk => ?_) fun p S e hp => ?_
    · obtain ⟨i, hi, rfl⟩ := List.mem_map.mp hd
      have hi := List.mem_range.mp hi
      have hy : i < ys.length := by omega
      have hx : i < xs.length := by omega
      simp only [wpSs, wpS, wpE, wpEs, wpC, wpAnd, wpOr, wpO, wpIt, opt_some, onI_int, onB_bl, onR_ref, arg1_one, look, joinO, start, List.map_cons, List.map_nil, List.length_cons, List.length_nil, List.replicate, List.cons_append, List.nil_append, List.append_nil, List.getElem?_cons_succ, List.getElem?_cons_zero, kcD, Nat.reduceAdd, Nat.reduceSub, br_t, br_f, br_n, asg, setAll, List.set_cons_succ, List.set_cons_zero, tgs, wipe, eq_ii, ne_ii, lt_ii, le_ii, gt_ii, ge_ii, is_n, isn_n, is_b, isn_b, add_ii, sub_ii, mul_ii, mod_ii, fdiv_ii, pow_ii, isNon, biD, intD_i, intD_b, esLen, beq_self_eq_true, ixD_tup, lsOf_new, seqD_tup, seqD_fl, slD_tup, bools, Option.map_some, true_and, ixD_fl, lenD_tup, lenD_fl, ix30, ix31, ix32, at20, at21, at30, at31, at32, List.filterMap_cons, List.filterMap_nil, (at_get hx).1, (at_get hy).1]
      refine call hr ⟨xs[i], ys[i], rfl, (he i _ _ (at_get hx).2 (at_get hy).2).ext e, fun S' e' => ?_⟩
      simp only [wpSs, wpS, wpE, wpEs, wpC, wpAnd, wpOr, wpO, wpIt, opt_some, onI_int, onB_bl, onR_ref, arg1_one, look, joinO, start, List.map_cons, List.map_nil, List.length_cons, List.length_nil, List.replicate, List.cons_append, List.nil_append, List.append_nil, List.getElem?_cons_succ, List.getElem?_cons_zero, kcD, Nat.reduceAdd, Nat.reduceSub, br_t, br_f, br_n, asg, setAll, List.set_cons_succ, List.set_cons_zero, tgs, wipe, eq_ii, ne_ii, lt_ii, le_ii, gt_ii, ge_ii, is_n, isn_n, is_b, isn_b, add_ii, sub_ii, mul_ii, mod_ii, fdiv_ii, pow_ii, isNon, biD, intD_i, intD_b, esLen, beq_self_eq_true, ixD_tup, lsOf_new, seqD_tup, seqD_fl, slD_tup, bools, Option.map_some, true_and, ixD_fl, lenD_tup, lenD_fl, ix30, ix31, ix32, at20, at21, at30, at31, at32, List.filterMap_cons, List.filterMap_nil]
      exact kk S' e'
    · refine mkL_ok (by simp) fun p2 hp2 => ?_
      have hne : p ≠ p2 := ne_new upd_at hp2
      exact eq_nil (ys := []) (by rw [upd_off hne, upd_at]) upd_at rfl (hq _ (e.trans ((Ext.new hp).trans (Ext.new hp2))))
  · rename_i a b
    obtain ⟨xs, ys, e1, e2, el, hl, he⟩ := hs
    have ty : ∀ c xs, S0 c = some (.lst xs) → isTy S0 (.ref c) .bool = some false ∧ isTy S0 (.ref c) .list = some true ∧ isTy S0 (.ref c) .tuple = some false := fun c xs e => by
      refine ⟨?_, ?_, ?_⟩ <;> (show tyO (S0 c) _ = _; rw [e]; rfl)
    obtain ⟨t1, t3, t4⟩ := ty a xs e1
    obtain ⟨u1, u3, u4⟩ := ty b ys e2
    have e9 : ((xs.length : Int) == (ys.length : Int)) = true := by rw [el]; exact beq_self_eq_true _
    simp only [wpSs, wpS, wpE, wpEs, wpC, wpAnd, wpOr, wpO, wpIt, opt_some, onI_int, onB_bl, onR_ref, arg1_one, look, joinO, start, List.map_cons, List.map_nil, List.length_cons, List.length_nil, List.replicate, List.cons_append, List.nil_append, List.append_nil, List.getElem?_cons_succ, List.getElem?_cons_zero, kcD, Nat.reduceAdd, Nat.reduceSub, br_t, br_f, br_n, asg, setAll, List.set_cons_succ, List.set_cons_zero, tgs, wipe, eq_ii, ne_ii, lt_ii, le_ii, gt_ii, ge_ii, is_n, isn_n, is_b, isn_b, add_ii, sub_ii, mul_ii, mod_ii, fdiv_ii, pow_ii, isNon, biD, intD_i, intD_b, esLen, beq_self_eq_true, ixD_tup, lsOf_new, seqD_tup, seqD_fl, slD_tup, bools, Option.map_some, true_and, ixD_fl, lenD_tup, lenD_fl, ix30, ix31, ix32, at20, at21, at30, at31, at32, List.filterMap_cons, List.filterMap_nil, t1, t3, t4, u1, u3, u4, eq_bb, ne_bb, Bool.or_true, Bool.true_or, Bool.false_or, Bool.not_true, lenD_ref e1, lenD_ref e2, e9]
    refine ⟨by omega, by omega, by omega, by omega, len_lim (by rw [← el]; simpa using hl), ?_⟩
    refine compW_drop (S0 := S0) (fun _ _ => trivial) Ext.refl (fun d hd S k e kk => ?_) fun p S e hp => ?_
    · obtain ⟨i, hi, rfl⟩ := List.mem_map.mp hd
      have hi := List.mem_range.mp hi
      have hy : i < ys.length := by omega
      have hx : i < xs.length := by omega
      simp only [wpSs, wpS, wpE, wpEs, wpC, wpAnd, wpOr, wpO, wpIt, opt_some, onI_int, onB_bl, onR_ref, arg1_one, look, joinO, start, List.map_cons, List.map_nil, List.length_cons, List.length_nil, List.replicate, List.cons_append, List.nil_append, List.append_nil, List.getElem?_cons_succ, List.getElem?_cons_zero, kcD, Nat.reduceAdd, Nat.reduceSub, br_t, br_f, br_n, asg, setAll, List.set_cons_succ, List.set_cons_zero, tgs, wipe, eq_ii, ne_ii, lt_ii, le_ii, gt_ii, ge_ii, is_n, isn_n, is_b, isn_b, add_ii, sub_ii, mul_ii, mod_ii, fdiv_ii, pow_ii, isNon, biD, intD_i, intD_b, esLen, beq_self_eq_true, ixD_tup, lsOf_new, seqD_tup, seqD_fl, slD_tup, bools, Option.map_some, true_and, ixD_fl, lenD_tup, lenD_fl, ix30, ix31, ix32, at20, at21, at30, at31, at32, List.filterMap_cons, List.filterMap_nil, ixD_ref (e _ _ e1), ixD_ref (e _ _ e2), (at_get hx).1, (at_get hy).1]
      refine call hr ⟨xs[i], ys[i], rfl, (he i _ _ (at_get hx).2 (at_get hy).2).ext e, fun S' e' => ?_⟩
      simp only [wpSs, wpS, wpE, wpEs, wpC, wpAnd, wpOr, wpO, wpIt, opt_some, onI_int, onB_bl, onR_ref, arg1_one, look, joinO, start, List.map_cons, List.map_nil, List.length_cons, List.length_nil, List.replicate, List.cons_append, List.nil_append, List.append_nil, List.getElem?_cons_succ, List.getElem?_cons_zero, kcD, Nat.reduceAdd, Nat.reduceSub, br_t, br_f, br_n, asg, setAll, List.set_cons_succ, List.set_cons_zero, tgs, wipe, eq_ii, ne_ii, lt_ii, le_ii, gt_ii, ge_ii, is_n, isn_n, is_b, isn_b, add_ii, sub_ii, mul_ii, mod_ii, fdiv_ii, pow_ii, isNon, biD, intD_i, intD_b, esLen, beq_self_eq_true, ixD_tup, lsOf_new, seqD_tup, seqD_fl, slD_tup, bools, Option.map_some, true_and, ixD_fl, lenD_tup, lenD_fl, ix30, ix31, ix32, at20, at21, at30, at31, at32, List.filterMap_cons, List.filterMap_nil]
      exact kk S' e'
    · refine mkL_ok (by simp) fun p2 hp2 => ?_
      have hne : p ≠ p2 := ne_new upd_at hp2
      exact eq_nil (ys := []) (by rw [upd_off hne, upd_at]) upd_at rfl (hq _ (e.trans ((Ext.new hp).trans (Ext.new hp2))))
  · exact False.elim hs
theorem sg_list {m : Nat} {S : Sto} {xs ys : List D} (hl : xs.length = ys.length) (h : ∀ p ∈ xs.zip ys, Sg m S p.1 p.2) : ∀ (i : Nat) x y, xs[i]? = some x → ys[i]? = some y → Sg m S x y := fun i x y h1 h2 => by
  have : (xs.zip ys)[i]? = some (x, y) := by rw [List.getElem?_zip_eq_some]; exact ⟨h1, h2⟩
  exact h _ (List.mem_of_getElem? this)
theorem sg_ref {m : Nat} {S : Sto} {a b : Nat} {xs ys : List D} (e1 : S a = some (.lst xs)) (e2 : S b = some (.lst ys)) (hl : xs.length = ys.length) (h1 : xs.length ≤ 1000) (h : ∀ p ∈ xs.zip ys, Sg m S p.1 p.2) : Sg (m + 1) S (.ref a) (.ref b) := ⟨xs, ys, e1, e2, hl, h1, sg_list hl h⟩
theorem sg_strs {m : Nat} {S : Sto} {a b : Nat} {ts : List Tx} (e1 : S a = some (.lst (ts.map .str))) (e2 : S b = some (.lst (ts.map .str))) (h1 : ts.length ≤ 1000) : Sg (m + 2) S (.ref a) (.ref b) := ⟨_, _, e1, e2, rfl, by rw [List.length_map]; exact h1, fun i x y h2 h3 => by
  rw [h2] at h3
  cases h3
  obtain ⟨t, _, rfl⟩ := List.mem_map.mp (List.mem_of_getElem? h2)
  exact (rfl : t = t)⟩
abbrev spSmG : Sp := fun ds S Q X => ∃ m, m < 12 ∧ spSameG m ds S Q X
theorem same_G {G : Gm} (h : G.fn 12 = spSmG) {m : Nat} (hm : m < 12) {v u : D} {S : Sto} {Q : VK} {X : XK} (hs : Sg m S v u) (hq : ∀ S', Ext S S' → Q (.bl true) S') : cl (G.fn 12) [v, u] S Q X := call h ⟨m, hm, v, u, rfl, hs, hq⟩
theorem compW_inv {chk : Sto → Prop} {step : D → Sto → (Option D → Sto → Prop) → Prop} {Q : VK} {I : List D → Sto → Prop} (hc : ∀ acc S, I acc S → chk S) {N : Nat} : ∀ {xs acc : List D} {S : Sto}, acc.length + xs.length = N → I acc S → (∀ d ∈ xs, ∀ acc S k, acc.length < N → I acc S → (∀ v S', I (acc ++ [v]) S' → k (some v) S') → step d S k) → (∀ acc S p, acc.length = N → I acc S → S p = none → Q (.ref p) (upd S p (.lst acc))) → compW chk step Q xs acc S
  | [], acc, S, hn, h, _, hq => ⟨hc acc S h, fun p hp => hq acc S p (by simpa using hn) h hp⟩
  | x :: xs, acc, S, hn, h, hs, hq => ⟨hc acc S h, hs x (by simp) acc S _ (by simp at hn; omega) h fun v S' h' => compW_inv hc (xs := xs) (acc := acc ++ [v]) (by simp at hn ⊢; omega) h' (fun d hd => hs d (by simp [hd])) hq⟩
theorem cmp_tt {ws : Tx} {S : Sto} {Q : Bool → Prop} (hw : (ws.all fun c => decide (c < 1114112)) = true) (h : Q false) : cmpD .ne (.tup [.str ws]) (.tup [.str ws]) S Q := by
  refine ⟨?_, ?_, ?_⟩
  · show (fit 7 S (.str ws) && true) = true
    rw [show fit 7 S (.str ws) = true from hw]; rfl
  · show (fit 7 S (.str ws) && true) = true
    rw [show fit 7 S (.str ws) = true from hw]; rfl
  · rw [show eqB dep S (.tup [.str ws]) (.tup [.str ws]) = true from by
      show ((ws == ws) && true) = true
      rw [beq_self_eq_true]; rfl]
    exact h
theorem str_eqq {x : Tx} {S : Sto} {Q : Bool → Prop} (h : Q true) : cmpD .eq (.str x) (.str x) S Q := by
  show Q (x == x)
  rw [show (x == x) = true from beq_self_eq_true x]
  exact h
end M
namespace M
/-! ### texts of numbers -/
def digL (n : Nat) : Tx := (Nat.toDigits 10 n).map Char.toNat
theorem txI_nat (n : Nat) : txI (n : Int) = digL n := by
  show (Nat.repr n).toList.map Char.toNat = _
  unfold Nat.repr digL
  rw [String.toList_ofList]
theorem txI_neg (n : Nat) : txI (-((n + 1 : Nat) : Int)) = 45 :: digL (n + 1) := by
  show ("-" ++ Nat.repr (n + 1)).toList.map Char.toNat = _
  rw [String.toList_append]
  unfold Nat.repr digL
  rw [List.map_append]
  simp only [String.toList_ofList]
  rfl
theorem digL_ne (n : Nat) : digL n ≠ [] := fun h => Nat.toDigits_ne_nil (List.map_eq_nil_iff.mp h)
theorem digL_dig (n : Nat) : (digL n).all digB = true := List.all_eq_true.mpr fun c hc => by
  obtain ⟨d, hd, rfl⟩ := List.mem_map.mp hc
  have := Nat.isDigit_of_mem_toDigits (by decide) (by decide) hd
  simp only [Char.isDigit, Bool.and_eq_true, decide_eq_true_eq] at this
  obtain ⟨h1, h2⟩ := this
  have h1 : 48 ≤ d.toNat := h1
  have h2 : d.toNat ≤ 57 := h2
  show (decide (48 ≤ d.toNat) && decide (d.toNat ≤ 57)) = true
  rw [decide_eq_true h1, decide_eq_true h2]; rfl
theorem digL_len {n k : Nat} (hk : 0 < k) (h : n < 10 ^ k) : (digL n).length ≤ k := by
  unfold digL
  rw [List.length_map]
  exact (Nat.length_toDigits_le_iff (by decide) hk).mpr h
theorem foldl_val : ∀ (l : List Char) (i : Nat), (l.map Char.toNat).foldl (fun n c => n * 10 + (c - 48)) i = Nat.ofDigitChars 10 l i
  | [], i => by rw [Nat.ofDigitChars_nil]; rfl
  | c :: r, i => by
    rw [Nat.ofDigitChars_cons]
    show (r.map Char.toNat).foldl _ (i * 10 + (c.toNat - 48)) = _
    rw [foldl_val r, Nat.mul_comm i 10]
    rfl
theorem digL_val (n : Nat) : valT (digL n) = n := by
  show ((Nat.toDigits 10 n).map Char.toNat).foldl _ 0 = n
  rw [foldl_val, Nat.ofDigitChars_ten_toDigits]
theorem digitChar_ne : ∀ n, n < 10 → 0 < n → n.digitChar.toNat ≠ 48 := by decide
theorem digL_head : ∀ (n : Nat), 0 < n → (digL n).head? ≠ some 48 := by
  intro n
  induction n using Nat.strongRecOn with
  | ind n ih =>
    intro h0
    by_cases h : n < 10
    · unfold digL
      rw [Nat.toDigits_of_lt_base h]
      show some (n.digitChar.toNat) ≠ some 48
      intro z
      injection z with z
      exact digitChar_ne n h h0 z
    · have h2 := ih (n / 10) (Nat.div_lt_self h0 (by decide)) (Nat.div_pos (by omega) (by decide))
      unfold digL at h2 ⊢
      rw [Nat.toDigits_of_base_le (by decide) (by omega), List.map_append]
      cases hl : (Nat.toDigits 10 (n / 10)).map Char.toNat with
      | nil => exact absurd hl (digL_ne (n / 10))
      | cons a b => rw [hl] at h2; exact h2
/-- the digits, without a minus ahead -/
def dgT (w : Tx) : Tx := if (w.take 1 == [45]) = true then w.drop 1 else w
/-- the number that a word writes, or none -/
def figT (w : Tx) : Option Int := if dgT w = [] then none else if (dgT w).all digB = false then none else if (dgT w).head? = some 48 ∧ w ≠ [48] then none else numT w
theorem dgT_minus (r : Tx) : dgT (45 :: r) = r := rfl
theorem dgT_dig {w : Tx} (h : w.all digB = true) : dgT w = w := by
  cases w with
  | nil => rfl
  | cons c r =>
    have hc : digB c = true := (Bool.and_eq_true_iff.mp (show (digB c && r.all digB) = true from h)).1
    have : c ≠ 45 := fun e => by subst e; cases hc
    unfold dgT
    have e : ((c :: r).take 1 == [45]) = false := by
      show ([c] == [45]) = false
      rw [beq_eq_false_iff_ne]
      intro z; injection z with z; exact this z
    rw [e]; rfl
theorem numT_dig {w : Tx} (h : w.all digB = true) (hn : w ≠ []) : numT w = some ((valT w : Nat) : Int) := by
  cases w with
  | nil => exact absurd rfl hn
  | cons c r =>
    have hc : digB c = true := (Bool.and_eq_true_iff.mp (show (digB c && r.all digB) = true from h)).1
    have : c ≠ 45 := fun e => by subst e; cases hc
    show (if c = 45 then _ else (if (c :: r).all digB then some ((valT (c :: r) : Nat) : Int) else none)) = _
    rw [if_neg this, if_pos h]
theorem numT_minus {r : Tx} (h : r.all digB = true) (hn : r ≠ []) : numT (45 :: r) = some (-((valT r : Nat) : Int)) := by
  have e0 : numT (45 :: r) = if !r.isEmpty && r.all digB then some (-((valT r : Nat) : Int)) else none := rfl
  rw [e0]
  have : (!r.isEmpty && r.all digB) = true := by
    cases r with
    | nil => exact absurd rfl hn
    | cons a b => rw [h]; rfl
  rw [if_pos this]
theorem fig_nat (n : Nat) : figT (digL n) = some (n : Int) := by
  have hd := digL_dig n
  have hn := digL_ne n
  unfold figT
  rw [dgT_dig hd, if_neg hn, if_neg (by rw [hd]; decide), if_neg ?_, numT_dig hd hn, digL_val]
  rintro ⟨h1, h2⟩
  by_cases h0 : 0 < n
  · exact digL_head n h0 h1
  · have : n = 0 := by omega
    subst this
    exact h2 rfl
theorem fig_neg {n : Nat} (h : 0 < n) : figT (45 :: digL n) = some (-(n : Int)) := by
  have hd := digL_dig n
  have hn := digL_ne n
  unfold figT
  rw [dgT_minus, if_neg hn, if_neg (by rw [hd]; decide), if_neg ?_, numT_minus hd hn, digL_val]
  rintro ⟨h1, _⟩
  exact digL_head n h h1
theorem fig_int (i : Int) : figT (txI i) = some i := by
  rcases Int.lt_or_le i 0 with h | h
  · obtain ⟨m, rfl⟩ : ∃ m : Nat, i = -((m + 1 : Nat) : Int) := ⟨i.natAbs - 1, by omega⟩
    rw [txI_neg]
    exact fig_neg (by omega)
  · obtain ⟨m, rfl⟩ := Int.eq_ofNat_of_zero_le h
    have : txI (Int.ofNat m) = digL m := txI_nat m
    show figT (txI (Int.ofNat m)) = _
    rw [this]; exact fig_nat m
/-- signs of numbers -/
theorem txI_mem {i : Int} {c : Nat} (h : c ∈ txI i) : c = 45 ∨ (48 ≤ c ∧ c ≤ 57) := by
  have dg : ∀ n, c ∈ digL n → 48 ≤ c ∧ c ≤ 57 := fun n hc => by
    have := List.all_eq_true.mp (digL_dig n) c hc
    obtain ⟨h1, h2⟩ := Bool.and_eq_true_iff.mp this
    exact ⟨of_decide_eq_true h1, of_decide_eq_true h2⟩
  rcases Int.lt_or_le i 0 with h0 | h0
  · obtain ⟨m, rfl⟩ : ∃ m : Nat, i = -((m + 1 : Nat) : Int) := ⟨i.natAbs - 1, by omega⟩
    rw [txI_neg] at h
    rcases List.mem_cons.mp h with h | h
    · exact .inl h
    · exact .inr (dg _ h)
  · obtain ⟨m, rfl⟩ := Int.eq_ofNat_of_zero_le h0
    have e : txI (Int.ofNat m) = digL m := txI_nat m
    have h : c ∈ txI (Int.ofNat m) := h
    rw [e] at h
    exact .inr (dg _ h)
theorem txI_len {i : Int} (h : i.natAbs < 10 ^ 40) : (txI i).length ≤ 41 := by
  rcases Int.lt_or_le i 0 with h0 | h0
  · obtain ⟨m, rfl⟩ : ∃ m : Nat, i = -((m + 1 : Nat) : Int) := ⟨i.natAbs - 1, by omega⟩
    rw [txI_neg]
    have := digL_len (n := m + 1) (k := 40) (by decide) (by omega)
    simp only [List.length_cons]; omega
  · obtain ⟨m, rfl⟩ := Int.eq_ofNat_of_zero_le h0
    have e : txI (Int.ofNat m) = digL m := txI_nat m
    show (txI (Int.ofNat m)).length ≤ 41
    rw [e]
    have := digL_len (n := m) (k := 40) (by decide) (by have : (Int.ofNat m).natAbs = m := rfl; omega)
    omega
theorem txI_log {i : Int} (h : i.natAbs < 10 ^ 40) : i.natAbs.log2 < 1920 := by
  by_cases h0 : i.natAbs = 0
  · rw [h0]; decide
  · exact Nat.lt_of_lt_of_le ((Nat.log2_lt h0).mpr (show i.natAbs < 2 ^ 135 by omega)) (by decide)
/-! ### integer_in, _law_figure -/
def vD : Option Int → D
  | none => .non
  | some i => .int i
theorem cut_one {w : Tx} : cut w none (some 1) = w.take 1 := by
  unfold cut
  have e2 : sIx w.length w.length (some 1) = min 1 w.length := rfl
  rw [e2]
  show (w.drop 0).take (min 1 w.length - 0) = _
  cases w with
  | nil => rfl
  | cons c r => simp
theorem cut_rest {w : Tx} : cut w (some 1) none = w.drop 1 := by
  unfold cut
  have e1 : sIx w.length 0 (some 1) = min 1 w.length := rfl
  have e2 : sIx w.length w.length none = w.length := rfl
  rw [e1, e2]
  cases w with
  | nil => rfl
  | cons c r => simp
theorem str_eqD {a b : Tx} {S : Sto} {Q : Bool → Prop} : cmpD .eq (.str a) (.str b) S Q = Q (a == b) := rfl
theorem str_neD {a b : Tx} {S : Sto} {Q : Bool → Prop} : cmpD .ne (.str a) (.str b) S Q = Q (!(a == b)) := rfl
theorem lenD_str {a : Tx} {S : Sto} {Q : VK} : lenD (.str a) S Q = (a.length ≤ lim ∧ Q (.int a.length) S) := rfl
theorem at_head {w : Tx} (h : w ≠ []) : ∃ c, atI w 0 = some c ∧ w.head? = some c := by
  cases w with
  | nil => exact absurd rfl h
  | cons c r => exact ⟨c, at_hd, rfl⟩
theorem num_of {w : Tx} (h1 : dgT w ≠ []) (h2 : (dgT w).all digB = true) : ∃ n, numT w = some n := by
  by_cases h : (w.take 1 == [45]) = true
  · obtain ⟨r, rfl⟩ : ∃ r, w = 45 :: r := by
      cases w with
      | nil => cases h
      | cons c r =>
        have : [c] = [45] := by simpa using h
        injection this with this
        exact ⟨r, by rw [this]⟩
    rw [dgT_minus] at h1 h2
    exact ⟨_, numT_minus h2 h1⟩
  · have e : dgT w = w := if_neg h
    rw [e] at h1 h2
    exact ⟨_, numT_dig h2 h1⟩
def spIn : Sp := fun ds S Q _ => ∃ w : Tx, ds = [.str w] ∧ w.length ≤ 600 ∧ Q (vD (figT w)) S
theorem txt_intin {G : Gm} {ds : List D} {S0 : Sto} {Q : VK} {X : XK} {b : Ss} (hb : b = (.cons (.set (.v 1) (.ite (.cmp .eq (.sl (.v 0) .none (.some (.k (.int 1)))) (.k (.str [45]))) (.sl (.v 0) (.some (.k (.int 1))) .none) (.v 0))) (.cons (.if_ (.or (.cmp .eq (.v 1) (.k (.str []))) (.cons (.cmp .gt (.bi .len (.cons (.v 1) .nil)) (.k (.int 2000))) (.cons (.cmp .ne (.m2 .strip (.v 1) (.g 0)) (.k (.str []))) (.cons (.and (.cmp .eq (.ix (.v 1) (.k (.int 0))) (.k (.str [48]))) (.cons (.cmp .ne (.v 0) (.k (.str [48]))) .nil)) .nil)))) (.cons (.ret (.k .non)) .nil) .nil) (.cons (.ret (.bi .int (.cons (.v 0) .nil))) .nil)))) (hc : G.con 0 = .str [48, 49, 50, 51, 52, 53, 54, 55, 56, 57]) (h : spIn ds S0 Q X) : ds.length = 1 ∧ wpSs G b (start 2 ds) S0 (kR Q X) := by
  obtain ⟨w, rfl, hl, hq⟩ := h
  subst hb
  refine ⟨rfl, ?_⟩
  have ll : w.length ≤ lim := len_lim (by omega)
  have dl : (dgT w).length ≤ w.length := by
    unfold dgT
    split
    · simp
    · exact Nat.le_refl _
  have go : ∀ d : Tx, d = dgT w → wpSs G (.cons (.if_ (.or (.cmp .eq (.v 1) (.k (.str []))) (.cons (.cmp .gt (.bi .len (.cons (.v 1) .nil)) (.k (.int 2000))) (.cons (.cmp .ne (.m2 .strip (.v 1) (.g 0)) (.k (.str []))) (.cons (.and (.cmp .eq (.ix (.v 1) (.k (.int 0))) (.k (.str [48]))) (.cons (.cmp .ne (.v 0) (.k (.str [48]))) .nil)) .nil)))) (.cons (.ret (.k .non)) .nil) .nil) (.cons (.ret (.bi .int (.cons (.v 0) .nil))) .nil)) [some (.str w), some (.str d)] S0 (kR Q X) := fun d hd => by
    have dl : d.length ≤ w.length := by rw [hd]; exact dl
    unfold figT at hq
    rw [← hd] at hq
    simp only [wpSs, wpS, wpE, wpEs, wpC, wpAnd, wpOr, wpO, wpIt, opt_some, onI_int, onB_bl, onR_ref, arg1_one, look, joinO, start, List.map_cons, List.map_nil, List.length_cons, List.length_nil, List.replicate, List.cons_append, List.nil_append, List.append_nil, List.getElem?_cons_succ, List.getElem?_cons_zero, kcD, Nat.reduceAdd, Nat.reduceSub, br_t, br_f, br_n, asg, setAll, List.set_cons_succ, List.set_cons_zero, tgs, wipe, eq_ii, ne_ii, lt_ii, le_ii, gt_ii, ge_ii, is_n, isn_n, is_b, isn_b, add_ii, sub_ii, mul_ii, mod_ii, fdiv_ii, pow_ii, isNon, biD, intD_i, intD_b, esLen, beq_self_eq_true, ixD_tup, lsOf_new, seqD_tup, seqD_fl, slD_tup, bools, Option.map_some, true_and, ixD_fl, lenD_tup, lenD_fl, ix30, ix31, ix32, at20, at21, at30, at31, at32, List.filterMap_cons, List.filterMap_nil, str_eqD, str_neD, lenD_str, hc, ixs]
    refine br_if (fun h1 => ?_) fun h1 => ?_
    · have h1 : d = [] := by simpa using h1
      rw [if_pos h1] at hq
      exact hq
    · have h1 : d ≠ [] := by simpa using h1
      rw [if_neg h1] at hq
      refine ⟨len_lim (by omega), br_d (fun h => by omega) fun _ => ?_⟩
      refine ⟨len_lim (by omega), fun r hr1 hr2 => ?_⟩
      have hdig : ([] : Tx) = r ↔ d.all digB = true := by
        rw [eq_comm, hr2, List.all_eq_true]
        refine forall_congr' fun c => ?_
        refine imp_congr_right fun hc => ?_
        unfold digB
        rw [Bool.and_eq_true_iff]
        simp only [decide_eq_true_eq, List.mem_cons, List.not_mem_nil, or_false]
        omega
      show br (!(r == [])) _ _
      rw [br_n]
      refine br_if (fun h2 => ?_) fun h2 => ?_
      · have h2 : r = [] := by simpa using h2
        have h3 := hdig.mp h2.symm
        rw [if_neg (by rw [h3]; decide)] at hq
        obtain ⟨c, e1, e2⟩ := at_head h1
        rw [e1]
        rw [e2] at hq
        clear e1 e2
        refine ⟨len_lim (by omega), ?_⟩
        show br ([c] == [48]) _ _
        have ec : ([c] == [48]) = decide (c = 48) := by rw [Bool.eq_iff_iff]; simp
        rw [ec]
        obtain ⟨n, hn⟩ := num_of (w := w) (by rw [← hd]; exact h1) (by rw [← hd]; exact h3)
        have fin : ¬ (some c = some 48 ∧ w ≠ [48]) → opt (numT w) fun n => w.length ≤ 640 ∧ Q (.int n) S0 := fun h => by
          rw [if_neg h, hn] at hq
          rw [hn]
          exact ⟨by omega, hq⟩
        refine br_d (fun h4 => ?_) fun h4 => ?_
        · subst h4
          refine br_if (fun h5 => ?_) fun h5 => ?_
          · have h5 : w = [48] := by simpa using h5
            exact fin fun z => z.2 h5
          · have h5 : w ≠ [48] := by simpa using h5
            rw [if_pos ⟨rfl, h5⟩] at hq
            exact hq
        · exact fin fun z => h4 (by injection z.1)
      · have h2 : r ≠ [] := by simpa using h2
        have h3 : d.all digB = false := by
          cases h : d.all digB with
          | false => rfl
          | true => exact absurd (hdig.mpr h).symm h2
        rw [if_pos h3] at hq
        exact hq
  simp only [wpSs, wpS, wpE, wpEs, wpC, wpAnd, wpOr, wpO, wpIt, opt_some, onI_int, onB_bl, onR_ref, arg1_one, look, joinO, start, List.map_cons, List.map_nil, List.length_cons, List.length_nil, List.replicate, List.cons_append, List.nil_append, List.append_nil, List.getElem?_cons_succ, List.getElem?_cons_zero, kcD, Nat.reduceAdd, Nat.reduceSub, br_t, br_f, br_n, asg, setAll, List.set_cons_succ, List.set_cons_zero, tgs, wipe, eq_ii, ne_ii, lt_ii, le_ii, gt_ii, ge_ii, is_n, isn_n, is_b, isn_b, add_ii, sub_ii, mul_ii, mod_ii, fdiv_ii, pow_ii, isNon, biD, intD_i, intD_b, esLen, beq_self_eq_true, ixD_tup, lsOf_new, seqD_tup, seqD_fl, slD_tup, bools, Option.map_some, true_and, ixD_fl, lenD_tup, lenD_fl, ix30, ix31, ix32, at20, at21, at30, at31, at32, List.filterMap_cons, List.filterMap_nil] at go ⊢
  simp only [slD_str, str_eqD, cut_one, cut_rest, wpSs, wpS, wpE, wpEs, wpC, wpAnd, wpOr, wpO, wpIt, opt_some, onI_int, onB_bl, onR_ref, arg1_one, look, joinO, start, List.map_cons, List.map_nil, List.length_cons, List.length_nil, List.replicate, List.cons_append, List.nil_append, List.append_nil, List.getElem?_cons_succ, List.getElem?_cons_zero, kcD, Nat.reduceAdd, Nat.reduceSub, br_t, br_f, br_n, asg, setAll, List.set_cons_succ, List.set_cons_zero, tgs, wipe, eq_ii, ne_ii, lt_ii, le_ii, gt_ii, ge_ii, is_n, isn_n, is_b, isn_b, add_ii, sub_ii, mul_ii, mod_ii, fdiv_ii, pow_ii, isNon, biD, intD_i, intD_b, esLen, beq_self_eq_true, ixD_tup, lsOf_new, seqD_tup, seqD_fl, slD_tup, bools, Option.map_some, true_and, ixD_fl, lenD_tup, lenD_fl, ix30, ix31, ix32, at20, at21, at30, at31, at32, List.filterMap_cons, List.filterMap_nil]
  refine ⟨ll, br_if (fun h => ⟨ll, ?_⟩) fun h => ?_⟩
  · exact go _ (if_pos h).symm
  · exact go _ (if_neg (nt h)).symm
end M
namespace M
def tA : D → Int
  | .tup [.int a, _] => a
  | _ => 0
def tB : D → Int
  | .tup [_, .int b] => b
  | _ => 0
theorem tab_of {v : D} (h : tabB v = true) : ∃ a b, v = .tup [.int a, .int b] ∧ 1 ≤ a ∧ 1 ≤ b := by
  cases v with
  | tup xs =>
    have h : tabL xs = true := h
    unfold tabL at h
    split at h
    · obtain ⟨h1, h2⟩ := Bool.and_eq_true_iff.mp h
      obtain ⟨i, rfl, hi⟩ := intB_of h1
      obtain ⟨j, rfl, hj⟩ := intB_of h2
      exact ⟨i, j, rfl, hi, hj⟩
    · cases h
  | _ => cases h
def eT (t : D) : Option Nat := if tabB t = true then none else some 0
def spCkT : Sp := fun ds S Q X => ∃ v, ds = [v] ∧ Vl S v ∧ ∀ S', Ext S S' → outK (eT v) (Q .non) X S'
theorem txt_ckT {G : Gm} {ds : List D} {S0 : Sto} {Q : VK} {X : XK} {b : Ss} (hb : b = (.cons (.if_ (.not (.call 1 (.cons (.v 0) .nil))) (.cons (.raise 0 .nil) .nil) .nil) .nil)) (h2 : G.fn 1 = spTab) (h : spCkT ds S0 Q X) : ds.length = 1 ∧ wpSs G b (start 1 ds) S0 (kR Q X) := by
  obtain ⟨v, rfl, hv, hq⟩ := h
  subst hb
  refine ⟨rfl, ?_⟩
  simp only [wpSs, wpS, wpE, wpEs, wpC, wpAnd, wpOr, wpO, wpIt, opt_some, onI_int, onB_bl, onR_ref, arg1_one, look, joinO, start, List.map_cons, List.map_nil, List.length_cons, List.length_nil, List.replicate, List.cons_append, List.nil_append, List.append_nil, List.getElem?_cons_succ, List.getElem?_cons_zero, kcD, Nat.reduceAdd, Nat.reduceSub, br_t, br_f, br_n, asg, setAll, List.set_cons_succ, List.set_cons_zero, tgs, wipe, eq_ii, ne_ii, lt_ii, le_ii, gt_ii, ge_ii, is_n, isn_n, is_b, isn_b, add_ii, sub_ii, mul_ii, mod_ii, fdiv_ii, pow_ii, isNon, biD, intD_i, intD_b, esLen, beq_self_eq_true, ixD_tup, lsOf_new, seqD_tup, seqD_fl, slD_tup, bools, Option.map_some, true_and, ixD_fl, lenD_tup, lenD_fl, ix30, ix31, ix32, at20, at21, at30, at31, at32, List.filterMap_cons, List.filterMap_nil]
  refine call h2 ⟨_, rfl, hv, fun S1 k1 => ?_⟩
  have hq := hq S1 k1
  unfold eT at hq
  simp only [wpSs, wpS, wpE, wpEs, wpC, wpAnd, wpOr, wpO, wpIt, opt_some, onI_int, onB_bl, onR_ref, arg1_one, look, joinO, start, List.map_cons, List.map_nil, List.length_cons, List.length_nil, List.replicate, List.cons_append, List.nil_append, List.append_nil, List.getElem?_cons_succ, List.getElem?_cons_zero, kcD, Nat.reduceAdd, Nat.reduceSub, br_t, br_f, br_n, asg, setAll, List.set_cons_succ, List.set_cons_zero, tgs, wipe, eq_ii, ne_ii, lt_ii, le_ii, gt_ii, ge_ii, is_n, isn_n, is_b, isn_b, add_ii, sub_ii, mul_ii, mod_ii, fdiv_ii, pow_ii, isNon, biD, intD_i, intD_b, esLen, beq_self_eq_true, ixD_tup, lsOf_new, seqD_tup, seqD_fl, slD_tup, bools, Option.map_some, true_and, ixD_fl, lenD_tup, lenD_fl, ix30, ix31, ix32, at20, at21, at30, at31, at32, List.filterMap_cons, List.filterMap_nil]
  refine br_if (fun h => ?_) fun h => ?_
  · rw [if_pos h] at hq; exact hq
  · rw [if_neg (by rw [h]; exact Bool.false_ne_true)] at hq; exact hq
theorem leT_one {a b : Nat} : leT [a] [b] = decide (a ≤ b) := by
  unfold leT
  have : ([b] < [a]) ↔ b < a := by
    constructor
    · intro h
      rcases List.cons_lt_cons_iff.mp h with h | ⟨_, h⟩
      · exact h
      · cases h
    · intro h
      exact List.cons_lt_cons_iff.mpr (.inl h)
  by_cases h : a ≤ b
  · rw [decide_eq_true h, decide_eq_false (by rw [this]; omega)]; rfl
  · rw [decide_eq_false h, decide_eq_true (by rw [this]; omega)]; rfl
theorem le_ss {a b : Nat} {S : Sto} {Q : Bool → Prop} : cmpD .le (.str [a]) (.str [b]) S Q = Q (decide (a ≤ b)) := by
  show Q (leT [a] [b]) = _
  rw [leT_one]
theorem compW_filt {chk : Sto → Prop} {step : D → Sto → (Option D → Sto → Prop) → Prop} {Q : VK} {p : D → Bool} {S0 : Sto} (hc : ∀ S, Ext S0 S → chk S) : ∀ {xs acc : List D} {S : Sto}, Ext S0 S → (∀ d ∈ xs, ∀ (S : Sto) (k : Option D → Sto → Prop), Ext S0 S → (∀ S', Ext S S' → k (if p d = true then some d else none) S') → step d S k) →
    (∀ q S, Ext S0 S → S q = none → Q (.ref q) (upd S q (.lst (acc ++ xs.filter p)))) → compW chk step Q xs acc S
  | [], acc, S, e, _, h => ⟨hc S e, fun q hp => by have := h q S e hp; rwa [List.filter_nil, List.append_nil] at this⟩
  | x :: xs, acc, S, e, hs, h => ⟨hc S e, hs x (by simp) S _ e fun S' e' => compW_filt hc (e.trans e') (fun d hd => hs d (by simp [hd])) fun q S e hp => by
      have := h q S e hp
      rw [List.filter_cons] at this
      split at this
      · rename_i hx
        rw [if_pos hx]
        simpa [Option.toList] using this
      · rename_i hx
        rw [if_neg hx]
        simpa [Option.toList] using this⟩
def spFig : Sp := fun ds S Q _ => ∃ w : Tx, ds = [.str w] ∧ w.length ≤ 600 ∧ (∀ c ∈ w, c < 1114112) ∧ ∀ S', Ext S S' → Q (vD (figT w)) S'
theorem txt_fig {G : Gm} {ds : List D} {S0 : Sto} {Q : VK} {X : XK} {b : Ss} (hb : b = (.cons (.set (.v 1) (.ite (.cmp .eq (.sl (.v 0) .none (.some (.k (.int 1)))) (.k (.str [45]))) (.sl (.v 0) (.some (.k (.int 1))) .none) (.v 0))) (.cons (.if_ (.or (.cmp .eq (.v 1) (.k (.str []))) (.cons (.cmp .ne (.comp (.v 2) (.v 2) (.seq (.v 1)) (.some (.not (.chain .le .le (.k (.str [48])) (.v 2) (.k (.str [57])))))) (.lst .nil)) .nil)) (.cons (.ret (.k .non)) .nil) .nil) (.cons (.if_ (.and (.cmp .eq (.ix (.v 1) (.k (.int 0))) (.k (.str [48]))) (.cons (.cmp .ne (.v 0) (.k (.str [48]))) .nil)) (.cons (.ret (.k .non)) .nil) .nil) (.cons (.ret (.bi .int (.cons (.v 0) .nil))) .nil))))) (h : spFig ds S0 Q X) : ds.length = 1 ∧ wpSs G b (start 3 ds) S0 (kR Q X) := by
  obtain ⟨w, rfl, hl, hcs, hq⟩ := h
  subst hb
  refine ⟨rfl, ?_⟩
  have ll : w.length ≤ lim := len_lim (by omega)
  have dl : (dgT w).length ≤ w.length := by
    unfold dgT
    split
    · simp
    · exact Nat.le_refl _
  have dc : ∀ c ∈ dgT w, c < 1114112 := fun c hc => hcs c (by
    unfold dgT at hc
    split at hc
    · exact List.mem_of_mem_drop hc
    · exact hc)
  have go : ∀ d : Tx, d = dgT w → wpSs G (.cons (.if_ (.or (.cmp .eq (.v 1) (.k (.str []))) (.cons (.cmp .ne (.comp (.v 2) (.v 2) (.seq (.v 1)) (.some (.not (.chain .le .le (.k (.str [48])) (.v 2) (.k (.str [57])))))) (.lst .nil)) .nil)) (.cons (.ret (.k .non)) .nil) .nil) (.cons (.if_ (.and (.cmp .eq (.ix (.v 1) (.k (.int 0))) (.k (.str [48]))) (.cons (.cmp .ne (.v 0) (.k (.str [48]))) .nil)) (.cons (.ret (.k .non)) .nil) .nil) (.cons (.ret (.bi .int (.cons (.v 0) .nil))) .nil))) [some (.str w), some (.str d), none] S0 (kR Q X) := fun d hd => by
    have dl : d.length ≤ w.length := by rw [hd]; exact dl
    have dc : ∀ c ∈ d, c < 1114112 := by rw [hd]; exact dc
    unfold figT at hq
    rw [← hd] at hq
    simp only [wpSs, wpS, wpE, wpEs, wpC, wpAnd, wpOr, wpO, wpIt, opt_some, onI_int, onB_bl, onR_ref, arg1_one, look, joinO, start, List.map_cons, List.map_nil, List.length_cons, List.length_nil, List.replicate, List.cons_append, List.nil_append, List.append_nil, List.getElem?_cons_succ, List.getElem?_cons_zero, kcD, Nat.reduceAdd, Nat.reduceSub, br_t, br_f, br_n, asg, setAll, List.set_cons_succ, List.set_cons_zero, tgs, wipe, eq_ii, ne_ii, lt_ii, le_ii, gt_ii, ge_ii, is_n, isn_n, is_b, isn_b, add_ii, sub_ii, mul_ii, mod_ii, fdiv_ii, pow_ii, isNon, biD, intD_i, intD_b, esLen, beq_self_eq_true, ixD_tup, lsOf_new, seqD_tup, seqD_fl, slD_tup, bools, Option.map_some, true_and, ixD_fl, lenD_tup, lenD_fl, ix30, ix31, ix32, at20, at21, at30, at31, at32, List.filterMap_cons, List.filterMap_nil, str_eqD, str_neD, lenD_str, ixs]
    refine br_if (fun h1 => ?_) fun h1 => ?_
    · have h1 : d = [] := by simpa using h1
      rw [if_pos h1] at hq
      exact hq _ .refl
    · have h1 : d ≠ [] := by simpa using h1
      rw [if_neg h1] at hq
      have es : ∀ (R : IK), seqD (.str d) S0 R = R (d.map fun c => .str [c]) (fun _ => True) S0 := fun R => rfl
      rw [es]
      refine ⟨len_lim (by rw [List.length_map]; omega), ?_⟩
      let p : D → Bool := fun v => match v with | .str [c] => !digB c | _ => false
      refine compW_filt (p := p) (S0 := S0) (fun _ _ => trivial) .refl (fun v hv S kk k hk => ?_) fun q S2 k2 hp => ?_
      · obtain ⟨c, hc, rfl⟩ := List.mem_map.mp hv
        have ep : p (.str [c]) = !digB c := rfl
        rw [ep] at hk
        rw [le_ss]
        unfold digB at hk
        have hk := hk S .refl
        refine br_d (fun h2 => ?_) fun h2 => ?_
        · rw [decide_eq_true h2, Bool.true_and] at hk
          rw [le_ss]
          refine br_if (fun h3 => ?_) fun h3 => ?_
          · rw [h3] at hk
            exact hk
          · rw [h3] at hk
            exact hk
        · rw [decide_eq_false h2, Bool.false_and] at hk
          exact hk
      · have k3 := Ext.new (o := .lst ([] ++ (d.map fun c => D.str [c]).filter p)) hp
        have e3 := upd_at (S := S2) (a := q) (o := .lst ([] ++ (d.map fun c => D.str [c]).filter p))
        generalize upd S2 q (.lst ([] ++ (d.map fun c => D.str [c]).filter p)) = S3 at *
        rw [List.nil_append] at e3
        refine mkL_abs (by simp) fun q2 S4 k4 e4 => ?_
        have K4 := (k2.trans k3).trans k4
        refine ne_nil2 (k4 _ _ e3) e4 (fun y hy => ?_) ?_
        · obtain ⟨hy, _⟩ := List.mem_filter.mp hy
          obtain ⟨c, hc, rfl⟩ := List.mem_map.mp hy
          show (decide (c < 1114112) && true) = true
          rw [decide_eq_true (dc c hc)]; rfl
        · have he : (d.map fun c => D.str [c]).filter p = [] ↔ d.all digB = true := by
            rw [List.filter_eq_nil_iff, List.all_eq_true]
            constructor
            · intro h c hc
              have := h (.str [c]) (List.mem_map.mpr ⟨c, hc, rfl⟩)
              have ep : p (.str [c]) = !digB c := rfl
              rw [ep] at this
              simpa using this
            · intro h v hv
              obtain ⟨c, hc, rfl⟩ := List.mem_map.mp hv
              have ep : p (.str [c]) = !digB c := rfl
              rw [ep, h c hc]; decide
          rw [br_n]
          refine br_if (fun h2 => ?_) fun h2 => ?_
          · have h3 := he.mp (List.isEmpty_iff.mp h2)
            rw [if_neg (by rw [h3]; decide)] at hq
            obtain ⟨c, e1, e2⟩ := at_head h1
            rw [e1]
            rw [e2] at hq
            refine ⟨len_lim (by omega), ?_⟩
            show br ([c] == [48]) _ _
            have ec : ([c] == [48]) = decide (c = 48) := by rw [Bool.eq_iff_iff]; simp
            rw [ec]
            obtain ⟨n, hn⟩ := num_of (w := w) (by rw [← hd]; exact h1) (by rw [← hd]; exact h3)
            have fin : ¬ (some c = some 48 ∧ w ≠ [48]) → opt (numT w) fun n => w.length ≤ 640 ∧ Q (.int n) S4 := fun h => by
              rw [if_neg h, hn] at hq
              rw [hn]
              exact ⟨by omega, hq _ K4⟩
            refine br_d (fun h4 => ?_) fun h4 => ?_
            · subst h4
              refine br_if (fun h5 => ?_) fun h5 => ?_
              · have h5 : w = [48] := by simpa using h5
                exact fin fun z => z.2 h5
              · have h5 : w ≠ [48] := by simpa using h5
                rw [if_pos ⟨rfl, h5⟩] at hq
                exact hq _ K4
            · exact fin fun z => h4 (by injection z.1)
          · have h3 : d.all digB = false := by
              cases h : d.all digB with
              | false => rfl
              | true => rw [he.mpr h] at h2; cases h2
            rw [if_pos h3] at hq
            exact hq _ K4
  simp only [wpSs, wpS, wpE, wpEs, wpC, wpAnd, wpOr, wpO, wpIt, opt_some, onI_int, onB_bl, onR_ref, arg1_one, look, joinO, start, List.map_cons, List.map_nil, List.length_cons, List.length_nil, List.replicate, List.cons_append, List.nil_append, List.append_nil, List.getElem?_cons_succ, List.getElem?_cons_zero, kcD, Nat.reduceAdd, Nat.reduceSub, br_t, br_f, br_n, asg, setAll, List.set_cons_succ, List.set_cons_zero, tgs, wipe, eq_ii, ne_ii, lt_ii, le_ii, gt_ii, ge_ii, is_n, isn_n, is_b, isn_b, add_ii, sub_ii, mul_ii, mod_ii, fdiv_ii, pow_ii, isNon, biD, intD_i, intD_b, esLen, beq_self_eq_true, ixD_tup, lsOf_new, seqD_tup, seqD_fl, slD_tup, bools, Option.map_some, true_and, ixD_fl, lenD_tup, lenD_fl, ix30, ix31, ix32, at20, at21, at30, at31, at32, List.filterMap_cons, List.filterMap_nil] at go ⊢
  simp only [slD_str, str_eqD, cut_one, cut_rest, wpSs, wpS, wpE, wpEs, wpC, wpAnd, wpOr, wpO, wpIt, opt_some, onI_int, onB_bl, onR_ref, arg1_one, look, joinO, start, List.map_cons, List.map_nil, List.length_cons, List.length_nil, List.replicate, List.cons_append, List.nil_append, List.append_nil, List.getElem?_cons_succ, List.getElem?_cons_zero, kcD, Nat.reduceAdd, Nat.reduceSub, br_t, br_f, br_n, asg, setAll, List.set_cons_succ, List.set_cons_zero, tgs, wipe, eq_ii, ne_ii, lt_ii, le_ii, gt_ii, ge_ii, is_n, isn_n, is_b, isn_b, add_ii, sub_ii, mul_ii, mod_ii, fdiv_ii, pow_ii, isNon, biD, intD_i, intD_b, esLen, beq_self_eq_true, ixD_tup, lsOf_new, seqD_tup, seqD_fl, slD_tup, bools, Option.map_some, true_and, ixD_fl, lenD_tup, lenD_fl, ix30, ix31, ix32, at20, at21, at30, at31, at32, List.filterMap_cons, List.filterMap_nil]
  refine ⟨ll, br_if (fun h => ⟨ll, ?_⟩) fun h => ?_⟩
  · exact go _ (if_pos h).symm
  · exact go _ (if_neg (nt h)).symm
theorem outK_none {A : Sto → Prop} {X : XK} {S : Sto} : outK none A X S = A S := rfl
/-! ### texts read and written -/
def wd (c : Nat) (x : Tx) : List D := (splitT c x).map fun w => vD (figT w)
def wdF (d : D) : D := match d with | .str w => vD (figT w) | _ => .non
theorem wd_map (c : Nat) (x : Tx) : ((splitT c x).map D.str).map wdF = wd c x := by
  rw [List.map_map]; rfl
theorem vD_kn {S : Sto} {o : Option Int} : Kn S (vD o) := by cases o <;> trivial
theorem wd_vl {S : Sto} {c : Nat} {x : Tx} : Vl S (.tup (wd c x)) := vl_tup fun y hy => by
  obtain ⟨w, _, rfl⟩ := List.mem_map.mp hy
  exact vD_kn
theorem split_wl {c : Nat} : ∀ {x : Tx}, ∀ w ∈ splitT c x, w.length ≤ x.length
  | [], w, hw => by
    have : w = [] := by simpa [splitT] using hw
    subst this; simp
  | a :: r, w, hw => by
    have ih := fun w hw => split_wl (c := c) (x := r) w hw
    rw [splitT_cons] at hw
    split at hw
    · rcases List.mem_cons.mp hw with rfl | hw
      · simp
      · have := ih w hw; simp only [List.length_cons]; omega
    · split at hw
      · rename_i e
        exact absurd e (splitT_ne c r)
      · rename_i u us e
        rw [e] at ih
        rcases List.mem_cons.mp hw with rfl | hw
        · have := ih u (by simp)
          simp only [List.length_cons]; omega
        · have := ih w (by simp [hw]); simp only [List.length_cons]; omega
/-- the words read -/
theorem read_words {G : Gm} {n : Nat} {c : Nat} {x : Tx} {S0 : Sto} {R : VK} (hx : x.length ≤ 600) (hn : ∀ w ∈ splitT c x, ∀ S (k : Option D → Sto → Prop), Ext S0 S → (∀ S', Ext S S' → k (some (vD (figT w))) S') → cl (G.fn n) [.str w] S (fun x S4 => k (some x) S4) X0) (hR : ∀ S', Ext S0 S' → R (.tup (wd c x)) S') :
    m2D .split x (.str [c]) S0 fun v S1 => seqD v S1 fun items chk S1 => items.length ≤ lim ∧ compW chk (fun d S2 k => cl (G.fn n) [d] S2 (fun x S4 => k (some x) S4) X0) (fun x S1 => opt (sqOf S1 x) fun xs => R (.tup xs) S1) items [] S1 := by
  refine ⟨Nat.le_trans (show x.length + 2 ≤ 602 by omega) (by decide), fun p hp => ?_⟩
  have k1 := Ext.new (o := .lst ((splitT c x).map .str)) hp
  have e1 := upd_at (S := S0) (a := p) (o := .lst ((splitT c x).map .str))
  generalize upd S0 p (.lst ((splitT c x).map .str)) = S1 at *
  dsimp only
  rw [seqD_ref e1]
  have sl := splitT_len c x
  refine ⟨len_lim (by rw [List.length_map]; omega), ?_⟩
  refine compW_ext (f := wdF) (S0 := S1) (fun S k => k _ _ e1) .refl (fun d hd S kk k hk => ?_) fun q S2 k2 hp2 => ?_
  · obtain ⟨w, hw, rfl⟩ := List.mem_map.mp hd
    exact hn w hw S kk (k1.trans k) hk
  · have e3 := upd_at (S := S2) (a := q) (o := .lst ([] ++ ((splitT c x).map D.str).map wdF))
    have k3 := Ext.new (o := .lst ([] ++ ((splitT c x).map D.str).map wdF)) hp2
    generalize upd S2 q (.lst ([] ++ ((splitT c x).map D.str).map wdF)) = S3 at *
    rw [List.nil_append, wd_map] at e3
    rw [sqOf_ref e3]
    exact hR S3 ((k1.trans k2).trans k3)
/-- texts that are not long -/
def TxL : D → Prop
  | .str x => x.length ≤ 600 ∧ ∀ c ∈ x, c < 1114112
  | _ => True
def spCkX : Sp := fun ds S Q X => ∃ v, ds = [v] ∧ Kn S v ∧ outK (if isTx v = true then none else some 1) (Q .non) X S
theorem txt_ckX {G : Gm} {ds : List D} {S0 : Sto} {Q : VK} {X : XK} {b : Ss} (hb : b = (.cons (.if_ (.not (.isi (.v 0) .str)) (.cons (.raise 1 .nil) .nil) .nil) .nil)) (h : spCkX ds S0 Q X) : ds.length = 1 ∧ wpSs G b (start 1 ds) S0 (kR Q X) := by
  obtain ⟨v, rfl, hk, hq⟩ := h
  subst hb
  refine ⟨rfl, ?_⟩
  simp only [wpSs, wpS, wpE, wpEs, wpC, wpAnd, wpOr, wpO, wpIt, opt_some, onI_int, onB_bl, onR_ref, arg1_one, look, joinO, start, List.map_cons, List.map_nil, List.length_cons, List.length_nil, List.replicate, List.cons_append, List.nil_append, List.append_nil, List.getElem?_cons_succ, List.getElem?_cons_zero, kcD, Nat.reduceAdd, Nat.reduceSub, br_t, br_f, br_n, asg, setAll, List.set_cons_succ, List.set_cons_zero, tgs, wipe, eq_ii, ne_ii, lt_ii, le_ii, gt_ii, ge_ii, is_n, isn_n, is_b, isn_b, add_ii, sub_ii, mul_ii, mod_ii, fdiv_ii, pow_ii, isNon, biD, intD_i, intD_b, esLen, beq_self_eq_true, ixD_tup, lsOf_new, seqD_tup, seqD_fl, slD_tup, bools, Option.map_some, true_and, ixD_fl, lenD_tup, lenD_fl, ix30, ix31, ix32, at20, at21, at30, at31, at32, List.filterMap_cons, List.filterMap_nil, isTy_tx hk]
  refine br_if (fun h => ?_) fun h => ?_
  · rw [if_pos h] at hq; exact hq
  · rw [if_neg (nt h)] at hq; exact hq
def prT : D → Option D
  | .str x => if tabB (.tup (wd 120 x)) = true then some (.tup (wd 120 x)) else none
  | _ => none
def prS : D → Option D
  | .str x => if freeB (.tup (wd 32 x)) = true then some (.tup (wd 32 x)) else none
  | _ => none
def outP (e : Nat) (r : Option D) (Q : VK) (X : XK) (S : Sto) : Prop := match r with
  | some d => Q d S
  | none => X e [] S
def spPsT : Sp := fun ds S Q X => ∃ v, ds = [v] ∧ Kn S v ∧ TxL v ∧ ∀ S', Ext S S' → outP 1 (prT v) Q X S'
theorem txt_psT {G : Gm} {ds : List D} {S0 : Sto} {Q : VK} {X : XK} {b : Ss} (hb : b = (.cons (.ex (.call 5 (.cons (.v 0) .nil))) (.cons (.set (.v 1) (.bi .tuple (.cons (.comp (.call 4 (.cons (.v 2) .nil)) (.v 2) (.seq (.m2 .split (.v 0) (.g 1))) .none) .nil))) (.cons (.if_ (.not (.call 1 (.cons (.v 1) .nil))) (.cons (.raise 1 .nil) .nil) .nil) (.cons (.ret (.v 1)) .nil))))) (hc : G.con 1 = .str [120]) (h1 : G.fn 5 = spCkX) (h2 : G.fn 4 = spIn) (h3 : G.fn 1 = spTab) (h : spPsT ds S0 Q X) : ds.length = 1 ∧ wpSs G b (start 3 ds) S0 (kR Q X) := by
  obtain ⟨v, rfl, hk, hx, hq⟩ := h
  subst hb
  refine ⟨rfl, ?_⟩
  simp only [wpSs, wpS, wpE, wpEs, wpC, wpAnd, wpOr, wpO, wpIt, opt_some, onI_int, onB_bl, onR_ref, arg1_one, look, joinO, start, List.map_cons, List.map_nil, List.length_cons, List.length_nil, List.replicate, List.cons_append, List.nil_append, List.append_nil, List.getElem?_cons_succ, List.getElem?_cons_zero, kcD, Nat.reduceAdd, Nat.reduceSub, br_t, br_f, br_n, asg, setAll, List.set_cons_succ, List.set_cons_zero, tgs, wipe, eq_ii, ne_ii, lt_ii, le_ii, gt_ii, ge_ii, is_n, isn_n, is_b, isn_b, add_ii, sub_ii, mul_ii, mod_ii, fdiv_ii, pow_ii, isNon, biD, intD_i, intD_b, esLen, beq_self_eq_true, ixD_tup, lsOf_new, seqD_tup, seqD_fl, slD_tup, bools, Option.map_some, true_and, ixD_fl, lenD_tup, lenD_fl, ix30, ix31, ix32, at20, at21, at30, at31, at32, List.filterMap_cons, List.filterMap_nil, hc]
  refine call h1 ⟨v, rfl, hk, ?_⟩
  cases v with
  | str x =>
    obtain ⟨hl, hcs⟩ : x.length ≤ 600 ∧ ∀ c ∈ x, c < 1114112 := hx
    rw [show (if isTx (.str x) = true then none else some 1) = (none : Option Nat) from rfl]
    rw [outK_none]
    dsimp only [onS]
    refine read_words (R := fun d S1 => cl (G.fn 1) [d] S1 (fun x S1 => onB x fun b => br b (Q d S1) (X 1 [] S1)) fun c fs S1 => X c fs S1) hl (fun w hw S kk k hk => call h2 ⟨w, rfl, by have := split_wl w hw; omega, hk S .refl⟩) fun S1 k1 => ?_
    refine call h3 ⟨_, rfl, wd_vl, fun S2 k2 => ?_⟩
    have hq : outP 1 (if tabB (.tup (wd 120 x)) = true then some (.tup (wd 120 x)) else none) Q X S2 := hq S2 (k1.trans k2)
    refine br_if (fun h => ?_) fun h => ?_
    · rw [if_pos h] at hq; exact hq
    · rw [if_neg (nt h)] at hq; exact hq
  | xn _ _ => exact False.elim hk
  | _ => exact hq S0 .refl
def spPsS : Sp := fun ds S Q X => ∃ v, ds = [v] ∧ Kn S v ∧ TxL v ∧ ∀ S', Ext S S' → outP 1 (prS v) Q X S'
theorem txt_psS {G : Gm} {ds : List D} {S0 : Sto} {Q : VK} {X : XK} {b : Ss} (hb : b = (.cons (.ex (.call 5 (.cons (.v 0) .nil))) (.cons (.set (.v 1) (.bi .tuple (.cons (.comp (.call 4 (.cons (.v 2) .nil)) (.v 2) (.seq (.m2 .split (.v 0) (.k (.str [32])))) .none) .nil))) (.cons (.if_ (.not (.call 2 (.cons (.v 1) .nil))) (.cons (.raise 1 .nil) .nil) .nil) (.cons (.ret (.v 1)) .nil))))) (h1 : G.fn 5 = spCkX) (h2 : G.fn 4 = spIn) (h3 : G.fn 2 = spFree) (h : spPsS ds S0 Q X) : ds.length = 1 ∧ wpSs G b (start 3 ds) S0 (kR Q X) := by
  obtain ⟨v, rfl, hk, hx, hq⟩ := h
  subst hb
  refine ⟨rfl, ?_⟩
  simp only [wpSs, wpS, wpE, wpEs, wpC, wpAnd, wpOr, wpO, wpIt, opt_some, onI_int, onB_bl, onR_ref, arg1_one, look, joinO, start, List.map_cons, List.map_nil, List.length_cons, List.length_nil, List.replicate, List.cons_append, List.nil_append, List.append_nil, List.getElem?_cons_succ, List.getElem?_cons_zero, kcD, Nat.reduceAdd, Nat.reduceSub, br_t, br_f, br_n, asg, setAll, List.set_cons_succ, List.set_cons_zero, tgs, wipe, eq_ii, ne_ii, lt_ii, le_ii, gt_ii, ge_ii, is_n, isn_n, is_b, isn_b, add_ii, sub_ii, mul_ii, mod_ii, fdiv_ii, pow_ii, isNon, biD, intD_i, intD_b, esLen, beq_self_eq_true, ixD_tup, lsOf_new, seqD_tup, seqD_fl, slD_tup, bools, Option.map_some, true_and, ixD_fl, lenD_tup, lenD_fl, ix30, ix31, ix32, at20, at21, at30, at31, at32, List.filterMap_cons, List.filterMap_nil]
  refine call h1 ⟨v, rfl, hk, ?_⟩
  cases v with
  | str x =>
    obtain ⟨hl, hcs⟩ : x.length ≤ 600 ∧ ∀ c ∈ x, c < 1114112 := hx
    rw [show (if isTx (.str x) = true then none else some 1) = (none : Option Nat) from rfl]
    rw [outK_none]
    dsimp only [onS]
    refine read_words (R := fun d S1 => cl (G.fn 2) [d] S1 (fun x S1 => onB x fun b => br b (Q d S1) (X 1 [] S1)) fun c fs S1 => X c fs S1) hl (fun w hw S kk k hk => call h2 ⟨w, rfl, by have := split_wl w hw; omega, hk S .refl⟩) fun S1 k1 => ?_
    refine call h3 ⟨_, rfl, wd_vl, fun S2 k2 => ?_⟩
    have hq : outP 1 (if freeB (.tup (wd 32 x)) = true then some (.tup (wd 32 x)) else none) Q X S2 := hq S2 (k1.trans k2)
    refine br_if (fun h => ?_) fun h => ?_
    · rw [if_pos h] at hq; exact hq
    · rw [if_neg (nt h)] at hq; exact hq
  | xn _ _ => exact False.elim hk
  | _ => exact hq S0 .refl
/-- numbers of at most forty digits -/
def N40 : D → Prop
  | .tup xs => ∀ i, D.int i ∈ xs → i.natAbs < 10 ^ 40
  | _ => True
def fmT : D → Tx
  | .tup [.int a, .int b] => txI a ++ [120] ++ txI b
  | _ => []
def fmS : D → Tx
  | .tup [.int x, .int y, .int p, .int q] => joinT [32] [txI x, txI y, txI p, txI q]
  | _ => []
def spFmT : Sp := fun ds S Q X => ∃ v, ds = [v] ∧ Vl S v ∧ N40 v ∧ ∀ S', Ext S S' → outK (if tabB v = true then none else some 0) (Q (.str (fmT v))) X S'
theorem txt_fmT {G : Gm} {ds : List D} {S0 : Sto} {Q : VK} {X : XK} {b : Ss} (hb : b = (.cons (.ex (.call 3 (.cons (.v 0) .nil))) (.cons (.ret (.bin .add (.bin .add (.bi .str (.cons (.ix (.v 0) (.k (.int 0))) .nil)) (.g 1)) (.bi .str (.cons (.ix (.v 0) (.k (.int 1))) .nil)))) .nil))) (hc : G.con 1 = .str [120]) (h1 : G.fn 3 = spCkT) (h : spFmT ds S0 Q X) : ds.length = 1 ∧ wpSs G b (start 1 ds) S0 (kR Q X) := by
  obtain ⟨v, rfl, hk, hn, hq⟩ := h
  subst hb
  refine ⟨rfl, ?_⟩
  simp only [wpSs, wpS, wpE, wpEs, wpC, wpAnd, wpOr, wpO, wpIt, opt_some, onI_int, onB_bl, onR_ref, arg1_one, look, joinO, start, List.map_cons, List.map_nil, List.length_cons, List.length_nil, List.replicate, List.cons_append, List.nil_append, List.append_nil, List.getElem?_cons_succ, List.getElem?_cons_zero, kcD, Nat.reduceAdd, Nat.reduceSub, br_t, br_f, br_n, asg, setAll, List.set_cons_succ, List.set_cons_zero, tgs, wipe, eq_ii, ne_ii, lt_ii, le_ii, gt_ii, ge_ii, is_n, isn_n, is_b, isn_b, add_ii, sub_ii, mul_ii, mod_ii, fdiv_ii, pow_ii, isNon, biD, intD_i, intD_b, esLen, beq_self_eq_true, ixD_tup, lsOf_new, seqD_tup, seqD_fl, slD_tup, bools, Option.map_some, true_and, ixD_fl, lenD_tup, lenD_fl, ix30, ix31, ix32, at20, at21, at30, at31, at32, List.filterMap_cons, List.filterMap_nil, hc]
  refine call h1 ⟨v, rfl, hk, fun S1 k1 => ?_⟩
  have hq := hq S1 k1
  unfold eT
  by_cases hT : tabB v = true
  · rw [if_pos hT] at hq ⊢
    obtain ⟨a, b, rfl, _, _⟩ := tab_of hT
    have na : a.natAbs < 10 ^ 40 := hn a (by simp)
    have nb : b.natAbs < 10 ^ 40 := hn b (by simp)
    have la := txI_len na
    have lb := txI_len nb
    rw [outK_none]
    dsimp only
    rw [ixD_tup, at20, opt_some]
    refine ⟨txI_log na, ?_⟩
    rw [add_ss]
    refine ⟨len_lim (by simp; omega), ?_⟩
    rw [ixD_tup, at21, opt_some]
    refine ⟨txI_log nb, ?_⟩
    rw [add_ss]
    exact ⟨len_lim (by simp; omega), hq⟩
  · rw [if_neg hT] at hq ⊢
    exact hq
def spFmS : Sp := fun ds S Q X => ∃ v, ds = [v] ∧ Vl S v ∧ N40 v ∧ ∀ S', Ext S S' → outK (if freeB v = true then none else some 2) (Q (.str (fmS v))) X S'
theorem txt_fmS {G : Gm} {ds : List D} {S0 : Sto} {Q : VK} {X : XK} {b : Ss} (hb : b = (.cons (.if_ (.not (.call 2 (.cons (.v 0) .nil))) (.cons (.raise 2 .nil) .nil) .nil) (.cons (.ret (.m2 .join (.k (.str [32])) (.comp (.bi .str (.cons (.v 1) .nil)) (.v 1) (.seq (.v 0)) .none))) .nil))) (h1 : G.fn 2 = spFree) (h : spFmS ds S0 Q X) : ds.length = 1 ∧ wpSs G b (start 2 ds) S0 (kR Q X) := by
  obtain ⟨v, rfl, hk, hn, hq⟩ := h
  subst hb
  refine ⟨rfl, ?_⟩
  simp only [wpSs, wpS, wpE, wpEs, wpC, wpAnd, wpOr, wpO, wpIt, opt_some, onI_int, onB_bl, onR_ref, arg1_one, look, joinO, start, List.map_cons, List.map_nil, List.length_cons, List.length_nil, List.replicate, List.cons_append, List.nil_append, List.append_nil, List.getElem?_cons_succ, List.getElem?_cons_zero, kcD, Nat.reduceAdd, Nat.reduceSub, br_t, br_f, br_n, asg, setAll, List.set_cons_succ, List.set_cons_zero, tgs, wipe, eq_ii, ne_ii, lt_ii, le_ii, gt_ii, ge_ii, is_n, isn_n, is_b, isn_b, add_ii, sub_ii, mul_ii, mod_ii, fdiv_ii, pow_ii, isNon, biD, intD_i, intD_b, esLen, beq_self_eq_true, ixD_tup, lsOf_new, seqD_tup, seqD_fl, slD_tup, bools, Option.map_some, true_and, ixD_fl, lenD_tup, lenD_fl, ix30, ix31, ix32, at20, at21, at30, at31, at32, List.filterMap_cons, List.filterMap_nil]
  refine call h1 ⟨v, rfl, hk, fun S1 k1 => ?_⟩
  refine br_if (fun h => ?_) fun h => ?_
  · obtain ⟨x, y, p, q, rfl⟩ := free_of h
    have nn : ∀ i, i = x ∨ i = y ∨ i = p ∨ i = q → i.natAbs < 10 ^ 40 := fun i hi => hn i (by simp; exact hi)
    show ([D.int x, .int y, .int p, .int q]).length ≤ lim ∧ _
    refine ⟨len_lim (by simp), ?_⟩
    refine compW_ext (f := fun d => match d with | .int i => .str (txI i) | _ => .non) (S0 := S1) (fun _ _ => trivial) .refl (fun d hd S kk k hk => ?_) fun r S2 k2 hp => ?_
    · simp only [List.mem_cons, List.not_mem_nil, or_false] at hd
      have hd' : ∃ i, d = .int i ∧ i.natAbs < 10 ^ 40 := by
        rcases hd with rfl | rfl | rfl | rfl
        · exact ⟨_, rfl, nn _ (by simp)⟩
        · exact ⟨_, rfl, nn _ (by simp)⟩
        · exact ⟨_, rfl, nn _ (by simp)⟩
        · exact ⟨_, rfl, nn _ (by simp)⟩
      obtain ⟨i, rfl, hi⟩ := hd'
      exact ⟨txI_log hi, hk S .refl⟩
    · have k3 := Ext.new (o := .lst [.str (txI x), .str (txI y), .str (txI p), .str (txI q)]) hp
      have e3 := upd_at (S := S2) (a := r) (o := .lst [.str (txI x), .str (txI y), .str (txI p), .str (txI q)])
      have lx := txI_len (nn x (by simp))
      have ly := txI_len (nn y (by simp))
      have lp := txI_len (nn p (by simp))
      have lq := txI_len (nn q (by simp))
      have go : ∀ S3, Ext S0 S3 → S3 r = some (.lst [.str (txI x), .str (txI y), .str (txI p), .str (txI q)]) → m2D .join [32] (.ref r) S3 Q := fun S3 k3 e3 => by
        show opt (sqOf S3 (.ref r)) _
        rw [sqOf_ref e3]
        have hq := hq S3 k3
        rw [if_pos h] at hq
        refine ⟨Nat.le_trans (show _ ≤ 1000 from ?_) (by decide), hq⟩
        simp only [List.map_cons, List.map_nil, List.sum_cons, List.sum_nil, List.length_cons, List.length_nil]
        omega
      exact go _ ((k1.trans k2).trans k3) e3
  · have hq := hq S1 k1
    rw [if_neg (nt h)] at hq
    exact hq
end M
namespace M
def spBentT : Sp := fun ds S Q _ => ∃ (w n : Nat) (x : Tx), ds = [.ref w, .str x] ∧ Well n S w ∧ n < 2 ^ 55 ∧ x.length ≤ 590 ∧ (∀ c ∈ x, c < 1114112) ∧ ∀ y S', y.length ≤ x.length + 3 → (∀ c ∈ y, c < 1114112) → Well (n + 3) S' w → Kp w S S' → Q (.str y) S'
theorem txt_bentT {G : Gm} {ds : List D} {S0 : Sto} {Q : VK} {X : XK} {b : Ss} (hb : b = (.cons (.set (.v 2) (.call 11 (.cons (.v 0) (.cons (.bin .add (.bi .len (.cons (.v 1) .nil)) (.k (.int 1))) .nil)))) (.cons (.set (.v 3) (.lst (.cons (.k (.str [32])) (.cons (.k (.str [120])) (.cons (.k (.str [45])) (.cons (.k (.str [48])) (.cons (.k (.str [49])) (.cons (.k (.str [43])) (.cons (.k (.str [95])) (.cons (.k (.str [88])) (.cons (.k (.str [97])) (.cons (.k (.str [46])) (.cons (.k (.str [9])) (.cons (.k (.str [10])) (.cons (.k (.str [32, 48])) (.cons (.k (.str [45, 48])) .nil)))))))))))))))) (.cons (.set (.v 4) (.ix (.v 3) (.call 11 (.cons (.v 0) (.cons (.k (.int 14)) .nil))))) (.cons (.set (.v 5) (.call 11 (.cons (.v 0) (.cons (.k (.int 4)) .nil)))) (.cons (.ret (.bin .add (.bin .add (.sl (.v 1) .none (.some (.v 2))) (.ix (.lst (.cons (.v 4) (.cons (.v 4) (.cons (.k (.str [])) (.cons (.sl (.v 1) (.some (.v 2)) (.some (.bin .add (.v 2) (.k (.int 2))))) .nil))))) (.v 5))) (.sl (.v 1) (.some (.bin .add (.v 2) (.ix (.lst (.cons (.k (.int 0)) (.cons (.k (.int 1)) (.cons (.k (.int 1)) (.cons (.k (.int 0)) .nil))))) (.v 5)))) .none))) .nil)))))) (hd : G.fn 11 = spDraw) (h : spBentT ds S0 Q X) : ds.length = 2 ∧ wpSs G b (start 6 ds) S0 (kR Q X) := by
  obtain ⟨w, n, x, rfl, hw, hn, hl, hc, hq⟩ := h
  subst hb
  refine ⟨rfl, ?_⟩
  have ll : x.length ≤ lim := len_lim (by omega)
  simp only [wpSs, wpS, wpE, wpEs, wpC, wpAnd, wpOr, wpO, wpIt, opt_some, onI_int, onB_bl, onR_ref, arg1_one, look, joinO, start, List.map_cons, List.map_nil, List.length_cons, List.length_nil, List.replicate, List.cons_append, List.nil_append, List.append_nil, List.getElem?_cons_succ, List.getElem?_cons_zero, kcD, Nat.reduceAdd, Nat.reduceSub, br_t, br_f, br_n, asg, setAll, List.set_cons_succ, List.set_cons_zero, tgs, wipe, eq_ii, ne_ii, lt_ii, le_ii, gt_ii, ge_ii, is_n, isn_n, is_b, isn_b, add_ii, sub_ii, mul_ii, mod_ii, fdiv_ii, pow_ii, isNon, biD, intD_i, intD_b, esLen, beq_self_eq_true, ixD_tup, lsOf_new, seqD_tup, seqD_fl, slD_tup, bools, Option.map_some, true_and, ixD_fl, lenD_tup, lenD_fl, ix30, ix31, ix32, at20, at21, at30, at31, at32, List.filterMap_cons, List.filterMap_nil, slD_str]
  refine ⟨ll, ?_⟩
  refine call hd ⟨w, _, n, rfl, by omega, by omega, hw, by omega, fun i S1 i0 i1 w1 k1 => ?_⟩
  refine mkL_new (by simp) fun p2 S2 z2 k2 e2 => ?_
  have n2 := w1.ne z2
  refine call hd ⟨w, 14, n + 1, rfl, by decide, by decide, w1.ext k2, by omega, fun j S3 j0 j1 w3 k3 => ?_⟩
  refine ix_ref (k3 _ _ n2 e2) (atI_all j0 (by simpa using j1) fun sg hsg => ?_)
  have hs : ∃ s : Tx, sg = .str s ∧ s.length ≤ 3 ∧ ∀ c ∈ s, c < 1114112 := by
    simp only [List.mem_cons, List.not_mem_nil, or_false] at hsg
    rcases hsg with rfl | rfl | rfl | rfl | rfl | rfl | rfl | rfl | rfl | rfl | rfl | rfl | rfl | rfl
    all_goals exact ⟨_, rfl, by decide, by decide⟩
  obtain ⟨s, rfl, s3, sc⟩ := hs
  refine call hd ⟨w, 4, n + 1 + 1, rfl, by decide, by decide, w3, by omega, fun l S4 l0 l1 w4 k4 => ?_⟩
  refine ⟨ll, ll, mkL_new (by simp) fun p5 S5 z5 k5 e5 => ?_⟩
  refine ix_ref e5 (atI_all l0 (by simpa using l1) fun md hmd => ?_)
  have hm : ∃ s : Tx, md = .str s ∧ s.length ≤ 3 ∧ ∀ c ∈ s, c < 1114112 := by
    simp only [List.mem_cons, List.not_mem_nil, or_false] at hmd
    rcases hmd with rfl | rfl | rfl | rfl
    · exact ⟨s, rfl, s3, sc⟩
    · exact ⟨s, rfl, s3, sc⟩
    · exact ⟨[], rfl, by decide, by intro c hc; cases hc⟩
    · exact ⟨_, rfl, Nat.le_trans (cut_two i0) (by decide), fun c h => hc c (cut_memT h)⟩
  obtain ⟨m, rfl, m3, mc⟩ := hm
  have lp := cut_pre (xs := x) i0
  have lp2 := cut_len x none (some i)
  rw [add_ss]
  refine ⟨len_lim (by omega), mkL_new (by simp) fun p6 S6 z6 k6 e6 => ?_⟩
  refine ix_ref e6 (atI_all l0 (by simpa using l1) fun ad had => ?_)
  have ha : ∃ a : Int, ad = .int a ∧ 0 ≤ a := by
    simp only [List.mem_cons, List.not_mem_nil, or_false] at had
    rcases had with rfl | rfl | rfl | rfl <;> exact ⟨_, rfl, by decide⟩
  obtain ⟨a, rfl, a0⟩ := ha
  simp only [add_ii]
  have ls := cut_suf (xs := x) (i := i + a) (by omega)
  refine ⟨ll, ?_⟩
  rw [add_ss]
  have e9 : (cut x none (some i) ++ m).length = (cut x none (some i)).length + m.length := List.length_append
  refine ⟨len_lim (by rw [e9]; omega), ?_⟩
  have n5 : p5 ≠ w := fun z => w4.ne z5 (by rw [z])
  refine hq _ _ ?_ (fun c h => ?_) ((((w4.ext k5).ext k6)).le (by omega)) ?_
  · rw [List.length_append, e9]; omega
  · rcases List.mem_append.mp h with h | h
    · rcases List.mem_append.mp h with h | h
      · exact hc c (cut_memT h)
      · exact mc c h
    · exact hc c (cut_memT h)
  · exact ((((k1.trans (k2.kp w)).trans k3).trans k4).trans (k5.kp w)).trans (k6.kp w)
def rdD (size : Int) (x : Tx) : D := if size = 2 then (prT (.str x)).getD .non else (prS (.str x)).getD .non
def spRead31 : Sp := fun ds S Q _ => ∃ (x : Tx) (size : Int), ds = [.str x, .int size] ∧ (size = 2 ∨ size = 4) ∧ x.length ≤ 600 ∧ (∀ c ∈ x, c < 1114112) ∧ ∀ S', Ext S S' → Q (rdD size x) S'
theorem wd_opt (c : Nat) (x : Tx) : ∃ os : List (Option Int), wd c x = os.map vD := ⟨(splitT c x).map figT, by rw [List.map_map]; rfl⟩
theorem fit_os {n : Nat} {S : Sto} : ∀ os : List (Option Int), fitL (fit (n + 1) S) (os.map vD) = true
  | [] => rfl
  | none :: os => by show (true && _) = true; rw [fit_os os]; rfl
  | some i :: os => by show (true && _) = true; rw [fit_os os]; rfl
theorem in_non {S : Sto} {os : List (Option Int)} {Q : Bool → Prop} (h : Q (os.any Option.isNone)) : cmpD .in_ .non (.tup (os.map vD)) S Q := by
  refine ⟨rfl, fit_os os, ?_⟩
  have : inB S .non (os.map vD) = os.any Option.isNone := by
    show ((os.map vD).any fun y => eqB dep S y .non) = _
    rw [List.any_map]
    congr 1
    funext o
    cases o <;> rfl
  rw [this]; exact h
theorem txt_read31 {G : Gm} {ds : List D} {S0 : Sto} {Q : VK} {X : XK} {b : Ss} (hb : b = (.cons (.set (.v 2) (.bi .tuple (.cons (.comp (.call 15 (.cons (.v 3) .nil)) (.v 3) (.seq (.m2 .split (.v 0) (.ite (.cmp .eq (.v 1) (.k (.int 2))) (.k (.str [120])) (.k (.str [32]))))) .none) .nil))) (.cons (.if_ (.or (.cmp .ne (.bi .len (.cons (.v 2) .nil)) (.v 1)) (.cons (.cmp .in_ (.k .non) (.v 2)) .nil)) (.cons (.ret (.k .non)) .nil) .nil) (.cons (.if_ (.cmp .eq (.v 1) (.k (.int 2))) (.cons (.ret (.ite (.and (.cmp .gt (.ix (.v 2) (.k (.int 0))) (.k (.int 0))) (.cons (.cmp .gt (.ix (.v 2) (.k (.int 1))) (.k (.int 0))) .nil)) (.v 2) (.k .non))) .nil) .nil) (.cons (.if_ (.or (.cmp .lt (.ix (.v 2) (.k (.int 0))) (.k (.int 0))) (.cons (.cmp .lt (.ix (.v 2) (.k (.int 1))) (.k (.int 0))) (.cons (.and (.cmp .eq (.ix (.v 2) (.k (.int 2))) (.k (.int 0))) (.cons (.cmp .eq (.ix (.v 2) (.k (.int 3))) (.k (.int 0))) .nil)) .nil))) (.cons (.ret (.k .non)) .nil) .nil) (.cons (.ret (.v 2)) .nil)))))) (h2 : G.fn 15 = spFig) (h : spRead31 ds S0 Q X) : ds.length = 2 ∧ wpSs G b (start 4 ds) S0 (kR Q X) := by
  obtain ⟨x, size, rfl, hs, hl, hcs, hq⟩ := h
  subst hb
  refine ⟨rfl, ?_⟩
  have fg : ∀ c, ∀ w ∈ splitT c x, ∀ S (k : Option D → Sto → Prop), Ext S0 S → (∀ S', Ext S S' → k (some (vD (figT w))) S') → cl (G.fn 15) [.str w] S (fun x S4 => k (some x) S4) X0 := fun c w hw S k _ hk => call h2 ⟨w, rfl, by have := split_wl w hw; omega, fun d hd => splitT_mem c x hcs w hw d hd, hk⟩
  rcases hs with rfl | rfl
  · have tail : ∀ S1, Ext S0 S1 → wpSs G (.cons (.if_ (.or (.cmp .ne (.bi .len (.cons (.v 2) .nil)) (.v 1)) (.cons (.cmp .in_ (.k .non) (.v 2)) .nil)) (.cons (.ret (.k .non)) .nil) .nil) (.cons (.if_ (.cmp .eq (.v 1) (.k (.int 2))) (.cons (.ret (.ite (.and (.cmp .gt (.ix (.v 2) (.k (.int 0))) (.k (.int 0))) (.cons (.cmp .gt (.ix (.v 2) (.k (.int 1))) (.k (.int 0))) .nil)) (.v 2) (.k .non))) .nil) .nil) (.cons (.if_ (.or (.cmp .lt (.ix (.v 2) (.k (.int 0))) (.k (.int 0))) (.cons (.cmp .lt (.ix (.v 2) (.k (.int 1))) (.k (.int 0))) (.cons (.and (.cmp .eq (.ix (.v 2) (.k (.int 2))) (.k (.int 0))) (.cons (.cmp .eq (.ix (.v 2) (.k (.int 3))) (.k (.int 0))) .nil)) .nil))) (.cons (.ret (.k .non)) .nil) .nil) (.cons (.ret (.v 2)) .nil)))) [some (.str x), some (.int 2), some (.tup (wd 120 x)), none] S1 (kR Q X) := fun S1 k1 => by
      have hq : Q ((if tabB (.tup (wd 120 x)) = true then some (.tup (wd 120 x)) else none).getD .non) S1 := hq S1 k1
      obtain ⟨os, eo⟩ := wd_opt 120 x
      rw [eo] at hq ⊢
      simp only [wpSs, wpS, wpE, wpEs, wpC, wpAnd, wpOr, wpO, wpIt, opt_some, onI_int, onB_bl, onR_ref, arg1_one, look, joinO, start, List.map_cons, List.map_nil, List.length_cons, List.length_nil, List.replicate, List.cons_append, List.nil_append, List.append_nil, List.getElem?_cons_succ, List.getElem?_cons_zero, kcD, Nat.reduceAdd, Nat.reduceSub, br_t, br_f, br_n, asg, setAll, List.set_cons_succ, List.set_cons_zero, tgs, wipe, eq_ii, ne_ii, lt_ii, le_ii, gt_ii, ge_ii, is_n, isn_n, is_b, isn_b, add_ii, sub_ii, mul_ii, mod_ii, fdiv_ii, pow_ii, isNon, biD, intD_i, intD_b, esLen, beq_self_eq_true, ixD_tup, lsOf_new, seqD_tup, seqD_fl, slD_tup, bools, Option.map_some, true_and, ixD_fl, lenD_tup, lenD_fl, ix30, ix31, ix32, at20, at21, at30, at31, at32, List.filterMap_cons, List.filterMap_nil, lenD_tup, List.length_map]
      by_cases hlen : os.length = 2
      · obtain ⟨o1, o2, rfl⟩ : ∃ a b, os = [a, b] := by
          match os, hlen with
          | [a, b], _ => exact ⟨a, b, rfl⟩
        refine br_tt (in_non ?_)
        cases o1 with
        | none => exact br_tt hq
        | some i =>
          cases o2 with
          | none =>
            have e0 : tabB (.tup ([some i, none].map vD)) = false := by
              show ((decide (1 ≤ i) && true) && false) = false
              rw [Bool.and_false]
            rw [e0] at hq
            exact br_tt hq
          | some j =>
            refine br_ff ?_
            show br (decide (0 < i)) _ _
            have hq : Q ((if ((decide (1 ≤ i) && true) && (decide (1 ≤ j) && true)) = true then some (.tup [.int i, .int j]) else none).getD .non) S1 := hq
            refine br_d (fun h1 => ?_) fun h1 => ?_
            · rw [decide_eq_true (by omega : 1 ≤ i)] at hq
              show br (decide (0 < j)) _ _
              refine br_d (fun h2 => ?_) fun h2 => ?_
              · rw [decide_eq_true (by omega : 1 ≤ j)] at hq
                exact hq
              · rw [decide_eq_false (by omega : ¬ 1 ≤ j)] at hq
                exact hq
            · rw [decide_eq_false (by omega : ¬ 1 ≤ i)] at hq
              exact hq
      · have e9 : (((os.length : Nat) : Int) == 2) = false := beq_false_of_ne (by omega)
        have : tabB (.tup (os.map vD)) = false := tabL_len (by rw [List.length_map]; exact e9)
        rw [this] at hq
        rw [e9]
        exact br_ff hq
    generalize ((.cons (.if_ (.or (.cmp .ne (.bi .len (.cons (.v 2) .nil)) (.v 1)) (.cons (.cmp .in_ (.k .non) (.v 2)) .nil)) (.cons (.ret (.k .non)) .nil) .nil) (.cons (.if_ (.cmp .eq (.v 1) (.k (.int 2))) (.cons (.ret (.ite (.and (.cmp .gt (.ix (.v 2) (.k (.int 0))) (.k (.int 0))) (.cons (.cmp .gt (.ix (.v 2) (.k (.int 1))) (.k (.int 0))) .nil)) (.v 2) (.k .non))) .nil) .nil) (.cons (.if_ (.or (.cmp .lt (.ix (.v 2) (.k (.int 0))) (.k (.int 0))) (.cons (.cmp .lt (.ix (.v 2) (.k (.int 1))) (.k (.int 0))) (.cons (.and (.cmp .eq (.ix (.v 2) (.k (.int 2))) (.k (.int 0))) (.cons (.cmp .eq (.ix (.v 2) (.k (.int 3))) (.k (.int 0))) .nil)) .nil))) (.cons (.ret (.k .non)) .nil) .nil) (.cons (.ret (.v 2)) .nil)))) : Ss) = Z at tail ⊢
    simp only [wpSs, wpS, wpE, wpEs, wpC, wpAnd, wpOr, wpO, wpIt, opt_some, onI_int, onB_bl, onR_ref, arg1_one, look, joinO, start, List.map_cons, List.map_nil, List.length_cons, List.length_nil, List.replicate, List.cons_append, List.nil_append, List.append_nil, List.getElem?_cons_succ, List.getElem?_cons_zero, kcD, Nat.reduceAdd, Nat.reduceSub, br_t, br_f, br_n, asg, setAll, List.set_cons_succ, List.set_cons_zero, tgs, wipe, eq_ii, ne_ii, lt_ii, le_ii, gt_ii, ge_ii, is_n, isn_n, is_b, isn_b, add_ii, sub_ii, mul_ii, mod_ii, fdiv_ii, pow_ii, isNon, biD, intD_i, intD_b, esLen, beq_self_eq_true, ixD_tup, lsOf_new, seqD_tup, seqD_fl, slD_tup, bools, Option.map_some, true_and, ixD_fl, lenD_tup, lenD_fl, ix30, ix31, ix32, at20, at21, at30, at31, at32, List.filterMap_cons, List.filterMap_nil]
    exact read_words (R := fun d S1 => wpSs G Z [some (.str x), some (.int 2), some d, none] S1 (kR Q X)) hl (fg 120) fun S1 k1 => tail S1 k1
  · have tail : ∀ S1, Ext S0 S1 → wpSs G (.cons (.if_ (.or (.cmp .ne (.bi .len (.cons (.v 2) .nil)) (.v 1)) (.cons (.cmp .in_ (.k .non) (.v 2)) .nil)) (.cons (.ret (.k .non)) .nil) .nil) (.cons (.if_ (.cmp .eq (.v 1) (.k (.int 2))) (.cons (.ret (.ite (.and (.cmp .gt (.ix (.v 2) (.k (.int 0))) (.k (.int 0))) (.cons (.cmp .gt (.ix (.v 2) (.k (.int 1))) (.k (.int 0))) .nil)) (.v 2) (.k .non))) .nil) .nil) (.cons (.if_ (.or (.cmp .lt (.ix (.v 2) (.k (.int 0))) (.k (.int 0))) (.cons (.cmp .lt (.ix (.v 2) (.k (.int 1))) (.k (.int 0))) (.cons (.and (.cmp .eq (.ix (.v 2) (.k (.int 2))) (.k (.int 0))) (.cons (.cmp .eq (.ix (.v 2) (.k (.int 3))) (.k (.int 0))) .nil)) .nil))) (.cons (.ret (.k .non)) .nil) .nil) (.cons (.ret (.v 2)) .nil)))) [some (.str x), some (.int 4), some (.tup (wd 32 x)), none] S1 (kR Q X) := fun S1 k1 => by
      have hq : Q ((if freeB (.tup (wd 32 x)) = true then some (.tup (wd 32 x)) else none).getD .non) S1 := hq S1 k1
      obtain ⟨os, eo⟩ := wd_opt 32 x
      rw [eo] at hq ⊢
      simp only [wpSs, wpS, wpE, wpEs, wpC, wpAnd, wpOr, wpO, wpIt, opt_some, onI_int, onB_bl, onR_ref, arg1_one, look, joinO, start, List.map_cons, List.map_nil, List.length_cons, List.length_nil, List.replicate, List.cons_append, List.nil_append, List.append_nil, List.getElem?_cons_succ, List.getElem?_cons_zero, kcD, Nat.reduceAdd, Nat.reduceSub, br_t, br_f, br_n, asg, setAll, List.set_cons_succ, List.set_cons_zero, tgs, wipe, eq_ii, ne_ii, lt_ii, le_ii, gt_ii, ge_ii, is_n, isn_n, is_b, isn_b, add_ii, sub_ii, mul_ii, mod_ii, fdiv_ii, pow_ii, isNon, biD, intD_i, intD_b, esLen, beq_self_eq_true, ixD_tup, lsOf_new, seqD_tup, seqD_fl, slD_tup, bools, Option.map_some, true_and, ixD_fl, lenD_tup, lenD_fl, ix30, ix31, ix32, at20, at21, at30, at31, at32, List.filterMap_cons, List.filterMap_nil, lenD_tup, List.length_map]
      by_cases hlen : os.length = 4
      · obtain ⟨o1, o2, o3, o4, rfl⟩ : ∃ a b c d, os = [a, b, c, d] := by
          match os, hlen with
          | [a, b, c, d], _ => exact ⟨a, b, c, d, rfl⟩
        refine br_tt (in_non ?_)
        cases o1 with
        | none => exact br_tt hq
        | some i =>
          cases o2 with
          | none => exact br_tt hq
          | some j =>
            cases o3 with
            | none => exact br_tt hq
            | some k =>
              cases o4 with
              | none => exact br_tt hq
              | some l =>
                refine br_ff (br_ff ?_)
                have hq : Q ((if (true && (decide (0 ≤ i) && decide (0 ≤ j) && !(k == 0 && l == 0))) = true then some (.tup [.int i, .int j, .int k, .int l]) else none).getD .non) S1 := hq
                show br (decide (i < 0)) _ _
                refine br_d (fun h1 => ?_) fun h1 => ?_
                · rw [decide_eq_false (by omega : ¬ 0 ≤ i)] at hq
                  exact hq
                · rw [decide_eq_true (by omega : 0 ≤ i)] at hq
                  show br (decide (j < 0)) _ _
                  refine br_d (fun h2 => ?_) fun h2 => ?_
                  · rw [decide_eq_false (by omega : ¬ 0 ≤ j)] at hq
                    exact hq
                  · rw [decide_eq_true (by omega : 0 ≤ j)] at hq
                    have a2 : atI ([some i, some j, some k, some l].map vD) 2 = some (.int k) := rfl
                    have a3 : atI ([some i, some j, some k, some l].map vD) 3 = some (.int l) := rfl
                    show opt (atI ([some i, some j, some k, some l].map vD) 2) _
                    rw [a2, opt_some]
                    refine eq_ii.mpr (br_if (fun h3 => ?_) fun h3 => ?_)
                    · rw [h3] at hq
                      show opt (atI ([some i, some j, some k, some l].map vD) 3) _
                      rw [a3, opt_some]
                      refine eq_ii.mpr ?_
                      refine br_if (fun h4 => ?_) fun h4 => ?_
                      · rw [h4] at hq; exact hq
                      · rw [h4] at hq; exact hq
                    · rw [h3] at hq
                      exact hq
      · have e9 : (((os.length : Nat) : Int) == 4) = false := beq_false_of_ne (by omega)
        have : freeB (.tup (os.map vD)) = false := freeL_len (by rw [List.length_map]; exact e9)
        rw [this] at hq
        rw [e9]
        exact br_ff hq
    generalize ((.cons (.if_ (.or (.cmp .ne (.bi .len (.cons (.v 2) .nil)) (.v 1)) (.cons (.cmp .in_ (.k .non) (.v 2)) .nil)) (.cons (.ret (.k .non)) .nil) .nil) (.cons (.if_ (.cmp .eq (.v 1) (.k (.int 2))) (.cons (.ret (.ite (.and (.cmp .gt (.ix (.v 2) (.k (.int 0))) (.k (.int 0))) (.cons (.cmp .gt (.ix (.v 2) (.k (.int 1))) (.k (.int 0))) .nil)) (.v 2) (.k .non))) .nil) .nil) (.cons (.if_ (.or (.cmp .lt (.ix (.v 2) (.k (.int 0))) (.k (.int 0))) (.cons (.cmp .lt (.ix (.v 2) (.k (.int 1))) (.k (.int 0))) (.cons (.and (.cmp .eq (.ix (.v 2) (.k (.int 2))) (.k (.int 0))) (.cons (.cmp .eq (.ix (.v 2) (.k (.int 3))) (.k (.int 0))) .nil)) .nil))) (.cons (.ret (.k .non)) .nil) .nil) (.cons (.ret (.v 2)) .nil)))) : Ss) = Z at tail ⊢
    simp only [wpSs, wpS, wpE, wpEs, wpC, wpAnd, wpOr, wpO, wpIt, opt_some, onI_int, onB_bl, onR_ref, arg1_one, look, joinO, start, List.map_cons, List.map_nil, List.length_cons, List.length_nil, List.replicate, List.cons_append, List.nil_append, List.append_nil, List.getElem?_cons_succ, List.getElem?_cons_zero, kcD, Nat.reduceAdd, Nat.reduceSub, br_t, br_f, br_n, asg, setAll, List.set_cons_succ, List.set_cons_zero, tgs, wipe, eq_ii, ne_ii, lt_ii, le_ii, gt_ii, ge_ii, is_n, isn_n, is_b, isn_b, add_ii, sub_ii, mul_ii, mod_ii, fdiv_ii, pow_ii, isNon, biD, intD_i, intD_b, esLen, beq_self_eq_true, ixD_tup, lsOf_new, seqD_tup, seqD_fl, slD_tup, bools, Option.map_some, true_and, ixD_fl, lenD_tup, lenD_fl, ix30, ix31, ix32, at20, at21, at30, at31, at32, List.filterMap_cons, List.filterMap_nil]
    refine br_ff ?_
    exact read_words (R := fun d S1 => wpSs G Z [some (.str x), some (.int 4), some d, none] S1 (kR Q X)) hl (fg 32) fun S1 k1 => tail S1 k1
def spLong : Sp := fun ds S Q _ => ∃ x : Tx, ds = [.str x] ∧ x.length ≤ 600 ∧ ∀ n : Int, Q (.int n) S
theorem txt_long {G : Gm} {ds : List D} {S0 : Sto} {Q : VK} {X : XK} {b : Ss} (hb : b = (.cons (.set (.tup [1, 2]) (.tup (.cons (.k (.int 0)) (.cons (.k (.int 0)) .nil)))) (.cons (.for_ (.v 3) (.seq (.v 0)) (.cons (.set (.v 2) (.ite (.chain .le .le (.k (.str [48])) (.v 3) (.k (.str [57]))) (.bin .add (.v 2) (.k (.int 1))) (.k (.int 0)))) (.cons (.set (.v 1) (.bi .max (.cons (.v 1) (.cons (.v 2) .nil)))) .nil))) (.cons (.ret (.v 1)) .nil)))) (h : spLong ds S0 Q X) : ds.length = 1 ∧ wpSs G b (start 4 ds) S0 (kR Q X) := by
  obtain ⟨x, rfl, hl, hq⟩ := h
  subst hb
  refine ⟨rfl, ?_⟩
  simp only [wpSs, wpS, wpE, wpEs, wpC, wpAnd, wpOr, wpO, wpIt, opt_some, onI_int, onB_bl, onR_ref, arg1_one, look, joinO, start, List.map_cons, List.map_nil, List.length_cons, List.length_nil, List.replicate, List.cons_append, List.nil_append, List.append_nil, List.getElem?_cons_succ, List.getElem?_cons_zero, kcD, Nat.reduceAdd, Nat.reduceSub, br_t, br_f, br_n, asg, setAll, List.set_cons_succ, List.set_cons_zero, tgs, wipe, eq_ii, ne_ii, lt_ii, le_ii, gt_ii, ge_ii, is_n, isn_n, is_b, isn_b, add_ii, sub_ii, mul_ii, mod_ii, fdiv_ii, pow_ii, isNon, biD, intD_i, intD_b, esLen, beq_self_eq_true, ixD_tup, lsOf_new, seqD_tup, seqD_fl, slD_tup, bools, Option.map_some, true_and, ixD_fl, lenD_tup, lenD_fl, ix30, ix31, ix32, at20, at21, at30, at31, at32, List.filterMap_cons, List.filterMap_nil, setAll]
  refine ⟨len_lim (by decide), ?_⟩
  have es : ∀ (R : IK), seqD (.str x) S0 R = R (x.map fun c => .str [c]) (fun _ => True) S0 := fun R => rfl
  rw [es]
  refine forW_ok (I := fun _ ρ S' => S' = S0 ∧ ∃ (m h : Int) (o : Option D), ρ = [some (.str x), some (.int m), some (.int h), o]) _ 0 _ _ ⟨rfl, _, _, _, rfl⟩ ?_ ?_
  · rintro j d ρ S nx' hlt hd ⟨hS, m, h, o, rfl⟩ hnx
    subst hS
    refine ⟨trivial, ?_⟩
    obtain ⟨c, hc, rfl⟩ := List.mem_map.mp hd
    simp only [wpSs, wpS, wpE, wpEs, wpC, wpAnd, wpOr, wpO, wpIt, opt_some, onI_int, onB_bl, onR_ref, arg1_one, look, joinO, start, List.map_cons, List.map_nil, List.length_cons, List.length_nil, List.replicate, List.cons_append, List.nil_append, List.append_nil, List.getElem?_cons_succ, List.getElem?_cons_zero, kcD, Nat.reduceAdd, Nat.reduceSub, br_t, br_f, br_n, asg, setAll, List.set_cons_succ, List.set_cons_zero, tgs, wipe, eq_ii, ne_ii, lt_ii, le_ii, gt_ii, ge_ii, is_n, isn_n, is_b, isn_b, add_ii, sub_ii, mul_ii, mod_ii, fdiv_ii, pow_ii, isNon, biD, intD_i, intD_b, esLen, beq_self_eq_true, ixD_tup, lsOf_new, seqD_tup, seqD_fl, slD_tup, bools, Option.map_some, true_and, ixD_fl, lenD_tup, lenD_fl, ix30, ix31, ix32, at20, at21, at30, at31, at32, List.filterMap_cons, List.filterMap_nil, le_ss]
    refine br_d (fun _ => br_d (fun _ => ?_) fun _ => ?_) fun _ => ?_
    all_goals exact hnx _ _ ⟨rfl, _, _, _, rfl⟩
  · rintro ρ S ⟨hS, m, h, o, rfl⟩
    subst hS
    exact ⟨trivial, hq _⟩
end M
namespace M
def resD (way : Int) (v : D) : Option D := if way < 2 then prT v else if way < 4 then prS v else if way = 4 then (if tabB v = true then some (.str (fmT v)) else none) else (if freeB v = true then some (.str (fmS v)) else none)
def worD (way : Int) : Tx := if way < 4 then [116, 101, 120, 116] else if way = 4 then [116, 97, 98, 108, 101] else [115, 104, 111, 116]
def errW (j : Nat) : Tx := if j = 1 then [116, 101, 120, 116] else if j = 0 then [116, 97, 98, 108, 101] else [115, 104, 111, 116]
def toldHand : Ss := (.cons (.set (.v 3) (.lst (.cons (.isx (.v 2) [1]) (.cons (.isx (.v 2) [0]) .nil)))) (.cons (.ex (.mt .append (.v 3) (.cons (.isx (.v 2) [2]) .nil))) (.cons (.if_ (.or (.not (.isx (.v 2) [4])) (.cons (.cmp .ne (.mt .count (.v 3) (.cons (.k (.bl true)) .nil)) (.k (.int 1))) .nil)) (.cons (.ret (.k (.int 0))) .nil) .nil) (.cons (.ret (.ix (.lst (.cons (.lst (.cons (.k (.str [116, 101, 120, 116])) .nil)) (.cons (.lst (.cons (.k (.str [116, 97, 98, 108, 101])) .nil)) (.cons (.lst (.cons (.k (.str [115, 104, 111, 116])) .nil)) .nil)))) (.mt .index (.v 3) (.cons (.k (.bl true)) .nil)))) .nil))))
def toldBody : Ss := (.cons (.if_ (.cmp .eq (.v 0) (.k (.int 0))) (.cons (.ret (.call 8 (.cons (.v 1) .nil))) .nil) .nil) (.cons (.if_ (.cmp .eq (.v 0) (.k (.int 1))) (.cons (.ret (.callk 8 .nil (.cons (.v 1) .nil) [0])) .nil) .nil) (.cons (.if_ (.cmp .eq (.v 0) (.k (.int 2))) (.cons (.ret (.call 9 (.cons (.v 1) .nil))) .nil) .nil) (.cons (.if_ (.cmp .eq (.v 0) (.k (.int 3))) (.cons (.ret (.callk 9 .nil (.cons (.v 1) .nil) [0])) .nil) .nil) (.cons (.if_ (.cmp .eq (.v 0) (.k (.int 4))) (.cons (.ret (.ite (.isi (.v 1) .tuple) (.call 6 (.cons (.v 1) .nil)) (.callk 6 .nil (.cons (.v 1) .nil) [0]))) .nil) .nil) (.cons (.ret (.ite (.isi (.v 1) .tuple) (.call 7 (.cons (.v 1) .nil)) (.callk 7 .nil (.cons (.v 1) .nil) [0]))) .nil))))))
def spTold31 : Sp := fun ds S Q _ => ∃ (way : Int) (v : D), ds = [.int way, v] ∧ 0 ≤ way ∧ way < 6 ∧ Vl S v ∧ (way < 4 → TxL v) ∧ (4 ≤ way → N40 v) ∧
  (∀ d, resD way v = some d → ∀ S', Ext S S' → Q d S') ∧ (resD way v = none → ∀ r S', Ext S S' → S' r = some (.lst [.str (worD way)]) → Q (.ref r) S')
theorem hand_ok {G : Gm} (hx : GX 3 subK G) {S : Sto} {K : Kt} {o0 o1 o3 : Option D} {C j : Nat} (hj : j < 3) (hC : G.adr j = some C) (h0 : ∀ r S', Ext S S' → S' r = some (.lst [.str (errW j)]) → K.rt (.ref r) S') : wpSs G toldHand [o0, o1, some (.xn C []), o3] S K := by
  simp only [toldHand, wpSs, wpS, wpE, wpEs, wpC, wpAnd, wpOr, wpO, wpIt, opt_some, onI_int, onB_bl, onR_ref, arg1_one, look, joinO, start, List.map_cons, List.map_nil, List.length_cons, List.length_nil, List.replicate, List.cons_append, List.nil_append, List.append_nil, List.getElem?_cons_succ, List.getElem?_cons_zero, kcD, Nat.reduceAdd, Nat.reduceSub, br_t, br_f, br_n, asg, setAll, List.set_cons_succ, List.set_cons_zero, tgs, wipe, eq_ii, ne_ii, lt_ii, le_ii, gt_ii, ge_ii, is_n, isn_n, is_b, isn_b, add_ii, sub_ii, mul_ii, mod_ii, fdiv_ii, pow_ii, isNon, biD, intD_i, intD_b, esLen, beq_self_eq_true, ixD_tup, lsOf_new, seqD_tup, seqD_fl, slD_tup, bools, Option.map_some, true_and, ixD_fl, lenD_tup, lenD_fl, ix30, ix31, ix32, at20, at21, at30, at31, at32, List.filterMap_cons, List.filterMap_nil, onX_xn, hx.hs]
  have hj' : j = 0 ∨ j = 1 ∨ j = 2 := by omega
  rcases hj' with rfl | rfl | rfl
  all_goals
    refine ⟨_, hC, _, hC, mkL_new (by simp) fun p2 S2 z2 k2 e2 => ?_⟩
    rw [lsOf_ref e2, opt_some]
    refine ⟨_, hC, ?_⟩
    refine append_abs z2 k2 e2 (by simp) fun S3 k3 e3 => ?_
    refine ⟨_, hC, br_tt ?_⟩
    rw [lsOf_ref e3, opt_some, count_ref e3 (bs := _) rfl]
    refine ne_ii.mpr (br_ff ?_)
    refine mkL_abs (by simp) fun p4 S4 k4 e4 => mkL_abs (by simp) fun p5 S5 k5 e5 => mkL_abs (by simp) fun p6 S6 k6 e6 => mkL_abs (by simp) fun p7 S7 k7 e7 => ?_
    have K47 := ((k4.trans k5).trans k6).trans k7
    have e37 := K47 _ _ e3
    have e4 := k7 _ _ (k6 _ _ (k5 _ _ e4))
    have e5 := k7 _ _ (k6 _ _ e5)
    have e6 := k7 _ _ e6
    rw [lsOf_ref e37, opt_some, index_ref e37 (bs := _) rfl]
    show ixD (.ref p7) (.int _) _ _
    refine ix_ref e7 ?_
    first
      | exact h0 p4 S7 (k3.trans K47) e4
      | exact h0 p5 S7 (k3.trans K47) e5
      | exact h0 p6 S7 (k3.trans K47) e6
theorem isTy_tu {S : Sto} {v : D} (h : Kn S v) : ∃ b, isTy S v .tuple = some b := by
  cases v with
  | ref a =>
    obtain ⟨o, e⟩ := h
    show ∃ b, tyO (S a) .tuple = some b
    rw [e]
    cases o <;> exact ⟨_, rfl⟩
  | xn _ _ => exact False.elim h
  | _ => exact ⟨_, rfl⟩
theorem txt_told31 {G : Gm} {ds : List D} {S0 : Sto} {Q : VK} {X : XK} {b : Ss} (hb : b = (.cons (.try_ (.cons (.if_ (.cmp .eq (.v 0) (.k (.int 0))) (.cons (.ret (.call 8 (.cons (.v 1) .nil))) .nil) .nil) (.cons (.if_ (.cmp .eq (.v 0) (.k (.int 1))) (.cons (.ret (.callk 8 .nil (.cons (.v 1) .nil) [0])) .nil) .nil) (.cons (.if_ (.cmp .eq (.v 0) (.k (.int 2))) (.cons (.ret (.call 9 (.cons (.v 1) .nil))) .nil) .nil) (.cons (.if_ (.cmp .eq (.v 0) (.k (.int 3))) (.cons (.ret (.callk 9 .nil (.cons (.v 1) .nil) [0])) .nil) .nil) (.cons (.if_ (.cmp .eq (.v 0) (.k (.int 4))) (.cons (.ret (.ite (.isi (.v 1) .tuple) (.call 6 (.cons (.v 1) .nil)) (.callk 6 .nil (.cons (.v 1) .nil) [0]))) .nil) .nil) (.cons (.ret (.ite (.isi (.v 1) .tuple) (.call 7 (.cons (.v 1) .nil)) (.callk 7 .nil (.cons (.v 1) .nil) [0]))) .nil)))))) 3 2 (.cons (.set (.v 3) (.lst (.cons (.isx (.v 2) [1]) (.cons (.isx (.v 2) [0]) .nil)))) (.cons (.ex (.mt .append (.v 3) (.cons (.isx (.v 2) [2]) .nil))) (.cons (.if_ (.or (.not (.isx (.v 2) [4])) (.cons (.cmp .ne (.mt .count (.v 3) (.cons (.k (.bl true)) .nil)) (.k (.int 1))) .nil)) (.cons (.ret (.k (.int 0))) .nil) .nil) (.cons (.ret (.ix (.lst (.cons (.lst (.cons (.k (.str [116, 101, 120, 116])) .nil)) (.cons (.lst (.cons (.k (.str [116, 97, 98, 108, 101])) .nil)) (.cons (.lst (.cons (.k (.str [115, 104, 111, 116])) .nil)) .nil)))) (.mt .index (.v 3) (.cons (.k (.bl true)) .nil)))) .nil))))) .nil)) (hx : GX 3 subK G) (h1 : G.fn 8 = spPsT) (h2 : G.fn 9 = spPsS) (h3 : G.fn 6 = spFmT) (h4 : G.fn 7 = spFmS) (h : spTold31 ds S0 Q X) : ds.length = 2 ∧ wpSs G b (start 4 ds) S0 (kR Q X) := by
  obtain ⟨way, v, rfl, w0, w6, hk, htx, hn, q1, q2⟩ := h
  subst hb
  refine ⟨rfl, ?_⟩
  show wpSs G (.cons (.try_ toldBody 3 2 toldHand) .nil) (start 4 [.int way, v]) S0 (kR Q X)
  have ho := @hand_ok G hx
  generalize toldHand = th at *
  simp only [toldBody, wpSs, wpS, wpE, wpEs, wpC, wpAnd, wpOr, wpO, wpIt, opt_some, onI_int, onB_bl, onR_ref, arg1_one, look, joinO, start, List.map_cons, List.map_nil, List.length_cons, List.length_nil, List.replicate, List.cons_append, List.nil_append, List.append_nil, List.getElem?_cons_succ, List.getElem?_cons_zero, kcD, Nat.reduceAdd, Nat.reduceSub, br_t, br_f, br_n, asg, setAll, List.set_cons_succ, List.set_cons_zero, tgs, wipe, eq_ii, ne_ii, lt_ii, le_ii, gt_ii, ge_ii, is_n, isn_n, is_b, isn_b, add_ii, sub_ii, mul_ii, mod_ii, fdiv_ii, pow_ii, isNon, biD, intD_i, intD_b, esLen, beq_self_eq_true, ixD_tup, lsOf_new, seqD_tup, seqD_fl, slD_tup, bools, Option.map_some, true_and, ixD_fl, lenD_tup, lenD_fl, ix30, ix31, ix32, at20, at21, at30, at31, at32, List.filterMap_cons, List.filterMap_nil, hx.hs]
  obtain ⟨bt, ebt⟩ := isTy_tu hk.1
  rw [ebt]
  have bad : ∀ j, j < 3 → worD way = errW j → resD way v = none → ∀ S', Ext S0 S' → br (subK j 3) (∀ C, G.adr j = some C → wpSs G th [some (.int way), some v, some (.xn C []), none] S' { nx := fun _ S' => Q .non S', rt := Q, bk := fun _ _ => False, xe := fun _ _ _ _ => False }) (X j [] S') := fun j hj ew hr S' k => by
    have hs : subK j 3 = true := by
      have hj' : j = 0 ∨ j = 1 ∨ j = 2 := by omega
      rcases hj' with rfl | rfl | rfl <;> rfl
    rw [hs]
    exact br_tt fun C hC => ho hj hC fun r S2 k2 e2 => q2 hr r S2 (k.trans k2) (by rw [ew]; exact e2)
  have hw : way = 0 ∨ way = 1 ∨ way = 2 ∨ way = 3 ∨ way = 4 ∨ way = 5 := by omega
  have rT : way < 2 → resD way v = prT v := fun h => if_pos h
  have rS : ¬ way < 2 → way < 4 → resD way v = prS v := fun h h2 => (if_neg h).trans (if_pos h2)
  have goT : way < 2 → cl (G.fn 8) [v] S0 Q (fun c fs S1 => br (subK c 3) (∀ C, G.adr c = some C → wpSs G th [some (.int way), some v, some (.xn C []), none] S1 { nx := fun _ S' => Q .non S', rt := Q, bk := fun _ _ => False, xe := fun _ _ _ _ => False }) (X c fs S1)) := fun h => call h1 ⟨v, rfl, hk.1, htx (by omega), fun S' k => by
    cases hr : prT v with
    | some d => exact q1 d ((rT h).trans hr) S' k
    | none =>
      have ew : worD way = errW 1 := (if_pos (by omega)).trans rfl
      exact bad 1 (by decide) ew ((rT h).trans hr) S' k⟩
  have goS : ¬ way < 2 → way < 4 → cl (G.fn 9) [v] S0 Q (fun c fs S1 => br (subK c 3) (∀ C, G.adr c = some C → wpSs G th [some (.int way), some v, some (.xn C []), none] S1 { nx := fun _ S' => Q .non S', rt := Q, bk := fun _ _ => False, xe := fun _ _ _ _ => False }) (X c fs S1)) := fun h g => call h2 ⟨v, rfl, hk.1, htx (by omega), fun S' k => by
    cases hr : prS v with
    | some d => exact q1 d ((rS h g).trans hr) S' k
    | none =>
      have ew : worD way = errW 1 := (if_pos (by omega)).trans rfl
      exact bad 1 (by decide) ew ((rS h g).trans hr) S' k⟩
  have goF : way = 4 → cl (G.fn 6) [v] S0 Q (fun c fs S1 => br (subK c 3) (∀ C, G.adr c = some C → wpSs G th [some (.int way), some v, some (.xn C []), none] S1 { nx := fun _ S' => Q .non S', rt := Q, bk := fun _ _ => False, xe := fun _ _ _ _ => False }) (X c fs S1)) := fun h => by
    subst h
    refine call h3 ⟨v, rfl, hk, hn (by decide), fun S' k => ?_⟩
    by_cases hT : tabB v = true
    · rw [if_pos hT]
      exact q1 _ (by show (if tabB v = true then _ else _) = _; rw [if_pos hT]) S' k
    · rw [if_neg hT]
      exact bad 0 (by decide) rfl (by show (if tabB v = true then _ else _) = _; rw [if_neg hT]) S' k
  have goG : way = 5 → cl (G.fn 7) [v] S0 Q (fun c fs S1 => br (subK c 3) (∀ C, G.adr c = some C → wpSs G th [some (.int way), some v, some (.xn C []), none] S1 { nx := fun _ S' => Q .non S', rt := Q, bk := fun _ _ => False, xe := fun _ _ _ _ => False }) (X c fs S1)) := fun h => by
    subst h
    refine call h4 ⟨v, rfl, hk, hn (by decide), fun S' k => ?_⟩
    by_cases hT : freeB v = true
    · rw [if_pos hT]
      exact q1 _ (by show (if freeB v = true then _ else _) = _; rw [if_pos hT]) S' k
    · rw [if_neg hT]
      exact bad 2 (by decide) rfl (by show (if freeB v = true then _ else _) = _; rw [if_neg hT]) S' k
  rcases hw with rfl | rfl | rfl | rfl | rfl | rfl
  · exact br_tt (goT (by decide))
  · exact br_ff (br_tt (goT (by decide)))
  · exact br_ff (br_ff (br_tt (goS (by decide) (by decide))))
  · exact br_ff (br_ff (br_ff (br_tt (goS (by decide) (by decide)))))
  · exact br_ff (br_ff (br_ff (br_ff (br_tt ⟨fun _ => goF rfl, fun _ => goF rfl⟩))))
  · exact br_ff (br_ff (br_ff (br_ff (br_ff ⟨fun _ => goG rfl, fun _ => goG rfl⟩))))
/-! ### what is written reads back -/
theorem no_in {i : Int} {c : Nat} (h : c = 120 ∨ c = 32) : c ∉ txI i := fun hc => by
  have := txI_mem hc
  omega
theorem rd_fmT {v : D} (h : tabB v = true) : prT (.str (fmT v)) = some v := by
  obtain ⟨a, b, rfl, _, _⟩ := tab_of h
  have e : wd 120 (fmT (.tup [.int a, .int b])) = [.int a, .int b] := by
    show (splitT 120 (txI a ++ [120] ++ txI b)).map (fun w => vD (figT w)) = _
    rw [splitT_app (no_in (.inl rfl)), splitT_free (no_in (.inl rfl))]
    show [vD (figT (txI a)), vD (figT (txI b))] = _
    rw [fig_int, fig_int]; rfl
  show (if tabB (.tup (wd 120 (fmT (.tup [.int a, .int b])))) = true then some (D.tup (wd 120 (fmT (.tup [.int a, .int b])))) else none) = _
  rw [e, if_pos h]
theorem wd_join {ws : List Tx} (hne : ws ≠ []) (h : ∀ w ∈ ws, 32 ∉ w) : wd 32 (joinT [32] ws) = ws.map fun w => vD (figT w) := by
  unfold wd
  rw [split_join hne h]
theorem rd_fmS {v : D} (h : freeB v = true) : prS (.str (fmS v)) = some v := by
  obtain ⟨x, y, p, q, rfl⟩ := free_of h
  have e : wd 32 (fmS (.tup [.int x, .int y, .int p, .int q])) = [.int x, .int y, .int p, .int q] := by
    show wd 32 (joinT [32] [txI x, txI y, txI p, txI q]) = _
    rw [wd_join (by simp) fun w hw => by
      simp only [List.mem_cons, List.not_mem_nil, or_false] at hw
      rcases hw with rfl | rfl | rfl | rfl <;> exact no_in (.inr rfl)]
    show [vD (figT (txI x)), vD (figT (txI y)), vD (figT (txI p)), vD (figT (txI q))] = _
    rw [fig_int, fig_int, fig_int, fig_int]; rfl
  show (if freeB (.tup (wd 32 (fmS (.tup [.int x, .int y, .int p, .int q])))) = true then some (D.tup (wd 32 (fmS (.tup [.int x, .int y, .int p, .int q])))) else none) = _
  rw [e, if_pos h]
theorem fmT_len {v : D} (hn : N40 v) : (fmT v).length ≤ 200 ∧ ∀ c ∈ fmT v, c < 1114112 := by
  unfold fmT
  split
  · rename_i a b
    have la := txI_len (hn a (by simp))
    have lb := txI_len (hn b (by simp))
    refine ⟨by simp; omega, fun c hc => ?_⟩
    simp only [List.mem_append, List.mem_singleton] at hc
    rcases hc with (hc | hc) | hc
    · have := txI_mem hc; omega
    · omega
    · have := txI_mem hc; omega
  · exact ⟨by simp, fun c hc => nomatch hc⟩
theorem fmS_eq (x y p q : Int) : fmS (.tup [.int x, .int y, .int p, .int q]) = txI x ++ [32] ++ txI y ++ [32] ++ txI p ++ [32] ++ txI q := by
  show txI x ++ [32] ++ (txI y ++ [32] ++ (txI p ++ [32] ++ txI q)) = _
  simp only [List.append_assoc]
theorem fmS_len {v : D} (hn : N40 v) : (fmS v).length ≤ 200 ∧ ∀ c ∈ fmS v, c < 1114112 := by
  unfold fmS
  split
  · rename_i x y p q
    have lx := txI_len (hn x (by simp))
    have ly := txI_len (hn y (by simp))
    have lp := txI_len (hn p (by simp))
    have lq := txI_len (hn q (by simp))
    show (fmS (.tup [.int x, .int y, .int p, .int q])).length ≤ 200 ∧ ∀ c ∈ fmS (.tup [.int x, .int y, .int p, .int q]), c < 1114112
    rw [fmS_eq]
    refine ⟨by simp; omega, fun c hc => ?_⟩
    simp only [List.mem_append, List.mem_singleton] at hc
    rcases hc with (((((hc | hc) | hc) | hc) | hc) | hc) | hc
    all_goals first
      | omega
      | (have := txI_mem hc; omega)
  · exact ⟨by simp, fun c hc => nomatch hc⟩
theorem sg_ints {S : Sto} {xs : List D} (hl : xs.length ≤ 1000) (h : ∀ d ∈ xs, ∃ i, d = .int i) : Sg 2 S (.tup xs) (.tup xs) := ⟨rfl, hl, fun i x y h1 h2 => by
  rw [h1] at h2
  cases h2
  obtain ⟨j, rfl⟩ := h x (List.mem_of_getElem? h1)
  exact (rfl : j = j)⟩
theorem sg_tab {S : Sto} {v : D} (h : tabB v = true) : Sg 2 S v v := by
  obtain ⟨a, b, rfl, _, _⟩ := tab_of h
  exact sg_ints (by simp) fun d hd => by
    simp only [List.mem_cons, List.not_mem_nil, or_false] at hd
    rcases hd with rfl | rfl <;> exact ⟨_, rfl⟩
theorem sg_free {S : Sto} {v : D} (h : freeB v = true) : Sg 2 S v v := by
  obtain ⟨x, y, p, q, rfl⟩ := free_of h
  exact sg_ints (by simp) fun d hd => by
    simp only [List.mem_cons, List.not_mem_nil, or_false] at hd
    rcases hd with rfl | rfl | rfl | rfl <;> exact ⟨_, rfl⟩
end M
namespace M
def _law_right_B0 : Ss := (.cons (.set (.v 2) (.call 19 (.cons (.v 0) (.cons (.v 2) .nil)))) (.cons (.if_ (.cmp .gt (.call 18 (.cons (.v 2) .nil)) (.k (.int 40))) (.cons .brk .nil) .nil) (.cons (.set (.v 7) (.call 16 (.cons (.v 2) (.cons (.v 3) .nil)))) (.cons (.if_ (.not (.call 12 (.cons (.call 17 (.cons (.v 4) (.cons (.v 2) .nil))) (.cons (.ite (.cmp .is_ (.v 7) (.k .non)) (.lst (.cons (.k (.str [116, 101, 120, 116])) .nil)) (.v 7)) .nil)))) (.cons (.ret (.k (.bl false))) .nil) .nil) .nil))))
def _law_right_S0 : St := (.for_ (.v 6) (.rng (.k (.int 5))) _law_right_B0)
def _law_right_A0 : Ss := (.cons (.ret (.k (.bl true))) .nil)
def _law_right_T : Ss := (.cons (.set (.v 4) (.ite (.cmp .eq (.v 3) (.k (.int 2))) (.k (.int 0)) (.k (.int 2)))) (.cons (.if_ (.cmp .ne (.call 17 (.cons (.bin .add (.k (.int 4)) (.bin .fdiv (.v 4) (.k (.int 2)))) (.cons (.v 1) .nil))) (.v 2)) (.cons (.ret (.k (.bl false))) .nil) .nil) (.cons (.set (.v 5) (.ite (.cmp .eq (.v 3) (.k (.int 2))) (.callk 6 .nil (.cons (.v 1) .nil) [0]) (.callk 7 .nil (.cons (.v 1) .nil) [0]))) (.cons (.if_ (.cmp .ne (.v 5) (.v 2)) (.cons (.ret (.k (.bl false))) .nil) .nil) (.cons (.if_ (.not (.call 12 (.cons (.lst (.cons (.call 17 (.cons (.v 4) (.cons (.v 2) .nil))) (.cons (.call 17 (.cons (.bin .add (.v 4) (.k (.int 1))) (.cons (.v 2) .nil))) .nil))) (.cons (.lst (.cons (.v 1) (.cons (.v 1) .nil))) .nil)))) (.cons (.ret (.k (.bl false))) .nil) .nil) (.cons _law_right_S0 _law_right_A0))))))
theorem told_T {G : Gm} (h : G.fn 17 = spTold31) {way : Int} {v : D} {S : Sto} {Q : VK} {X : XK} (w0 : 0 ≤ way) (w2 : way < 6) (hk : Vl S v) (hx : way < 4 → TxL v) (hn : 4 ≤ way → N40 v) (h1 : ∀ d, resD way v = some d → ∀ S', Ext S S' → Q d S') (h2 : resD way v = none → ∀ r S', Ext S S' → S' r = some (.lst [.str (worD way)]) → Q (.ref r) S') : cl (G.fn 17) [.int way, v] S Q X := call h ⟨way, v, rfl, w0, w2, hk, hx, hn, h1, h2⟩
theorem told_S {G : Gm} (h : G.fn 17 = spTold31) {way : Int} {v d : D} {S : Sto} {Q : VK} {X : XK} (w0 : 0 ≤ way) (w2 : way < 6) (hk : Vl S v) (hx : way < 4 → TxL v) (hn : 4 ≤ way → N40 v) (hd : resD way v = some d) (h1 : ∀ S', Ext S S' → Q d S') : cl (G.fn 17) [.int way, v] S Q X := told_T h w0 w2 hk hx hn (fun d' e => by rw [hd] at e; cases e; exact h1) fun e => by rw [hd] at e; cases e
theorem prT_tab {v d : D} (h : prT v = some d) : tabB d = true := by
  cases v with
  | str x =>
    have h : (if tabB (.tup (wd 120 x)) = true then some (D.tup (wd 120 x)) else none) = some d := h
    split at h
    · cases h; assumption
    · cases h
  | _ => cases h
theorem prS_free {v d : D} (h : prS v = some d) : freeB d = true := by
  cases v with
  | str x =>
    have h : (if freeB (.tup (wd 32 x)) = true then some (D.tup (wd 32 x)) else none) = some d := h
    split at h
    · cases h; assumption
    · cases h
  | _ => cases h
theorem rd_eq {size way : Int} (h : size = 2 ∧ way = 0 ∨ size = 4 ∧ way = 2) (y : Tx) : rdD size y = (resD way (.str y)).getD .non := by
  rcases h with ⟨rfl, rfl⟩ | ⟨rfl, rfl⟩ <;> rfl
theorem res_sg {size way : Int} (h : size = 2 ∧ way = 0 ∨ size = 4 ∧ way = 2) {v d : D} (e : resD way v = some d) : (∀ S, Sg 2 S d d) ∧ isNon d = false ∧ ∃ xs, d = .tup xs := by
  rcases h with ⟨rfl, rfl⟩ | ⟨rfl, rfl⟩
  · have t := prT_tab (show prT v = some d from e)
    refine ⟨fun S => sg_tab t, ?_⟩
    obtain ⟨a, b, rfl, _⟩ := tab_of t
    exact ⟨rfl, _, rfl⟩
  · have t := prS_free (show prS v = some d from e)
    refine ⟨fun S => sg_free t, ?_⟩
    obtain ⟨a, b, p, q, rfl⟩ := free_of t
    exact ⟨rfl, _, rfl⟩
theorem b_0 {G : Gm} (h1 : G.fn 19 = spBentT) (h2 : G.fn 16 = spRead31) (h3 : G.fn 17 = spTold31) (h4 : G.fn 12 = spSmG) (h5 : G.fn 18 = spLong) {w n : Nat} {size way : Int} (hsw : size = 2 ∧ way = 0 ∨ size = 4 ∧ way = 2) {y : Tx} {v : D} {S : Sto} {K : Kt} {o5 o6 o7 : Option D} (hn : n < 2 ^ 55) (hw : Well n S w) (hy : y.length ≤ 590) (hc : ∀ c ∈ y, c < 1114112)
    (hk : ∀ z o S', z.length ≤ y.length + 3 → (∀ c ∈ z, c < 1114112) → Well (n + 3) S' w → K.nx [some (.ref w), some v, some (.str z), some (.int size), some (.int way), o5, o6, o] S')
    (hb : ∀ z o S', Well (n + 3) S' w → K.bk [some (.ref w), some v, some (.str z), some (.int size), some (.int way), o5, o6, o] S') :
    wpSs G _law_right_B0 [some (.ref w), some v, some (.str y), some (.int size), some (.int way), o5, o6, o7] S K := by
  simp only [_law_right_B0, wpSs, wpS, wpE, wpEs, wpC, wpAnd, wpOr, wpO, wpIt, opt_some, onI_int, onB_bl, onR_ref, arg1_one, look, joinO, start, List.map_cons, List.map_nil, List.length_cons, List.length_nil, List.replicate, List.cons_append, List.nil_append, List.append_nil, List.getElem?_cons_succ, List.getElem?_cons_zero, kcD, Nat.reduceAdd, Nat.reduceSub, br_t, br_f, br_n, asg, setAll, List.set_cons_succ, List.set_cons_zero, tgs, wipe, eq_ii, ne_ii, lt_ii, le_ii, gt_ii, ge_ii, is_n, isn_n, is_b, isn_b, add_ii, sub_ii, mul_ii, mod_ii, fdiv_ii, pow_ii, isNon, biD, intD_i, intD_b, esLen, beq_self_eq_true, ixD_tup, lsOf_new, seqD_tup, seqD_fl, slD_tup, bools, Option.map_some, true_and, ixD_fl, lenD_tup, lenD_fl, ix30, ix31, ix32, at20, at21, at30, at31, at32, List.filterMap_cons, List.filterMap_nil]
  refine call h1 ⟨w, n, y, rfl, hw, hn, hy, hc, fun z S1 hz hzc w1 k1 => ?_⟩
  refine call h5 ⟨z, rfl, by omega, fun m => ?_⟩
  refine br_d (fun _ => hb _ _ _ w1) fun _ => ?_
  have hs2 : size = 2 ∨ size = 4 := by omega
  refine call h2 ⟨z, size, rfl, hs2, by omega, hzc, fun S2 k2 => ?_⟩
  rw [rd_eq hsw z]
  refine told_T h3 (by omega) (by omega) vl_str (fun _ => (show z.length ≤ 600 ∧ _ from ⟨by omega, hzc⟩)) (fun h => by omega) (fun d hd S3 k3 => ?_) fun hd r S3 k3 e3 => ?_
  · obtain ⟨s1, s2, _⟩ := res_sg hsw hd
    rw [hd]
    show br (isNon d) _ _
    rw [s2]
    refine br_ff ?_
    refine same_G h4 (m := 2) (by decide) (s1 S3) fun S4 k4 => ?_
    exact br_tt (hk _ _ _ hz hzc (((w1.ext k2).ext k3).ext k4))
  · rw [hd]
    have ew : worD way = [116, 101, 120, 116] := if_pos (by omega)
    rw [ew] at e3
    show br true _ _
    refine br_tt (mkL_abs (by simp) fun p S4 k4 e4 => ?_)
    refine same_G h4 (m := 2) (by decide) (sg_strs (ts := [[116, 101, 120, 116]]) (k4 _ _ e3) e4 (by decide)) fun S5 k5 => ?_
    exact br_tt (hk _ _ _ hz hzc ((((w1.ext k2).ext k3).ext k4).ext k5))
def linD (size : Int) (v : D) : Tx := if size = 2 then fmT v else fmS v
def spRight31 : Sp := fun ds S Q _ => ∃ (w n : Nat) (v : D) (size : Int), ds = [.ref w, v, .str (linD size v), .int size] ∧ (size = 2 ∧ tabB v = true ∨ size = 4 ∧ freeB v = true) ∧ N40 v ∧ Well n S w ∧ n < 2 ^ 50 ∧ ∀ S', Well (n + 20) S' w → Q (.bl true) S'
theorem vl_tabT {S : Sto} {v : D} (h : tabB v = true) : Vl S v := by
  obtain ⟨a, b, rfl, _, _⟩ := tab_of h
  exact vl_pl rfl
theorem vl_free {S : Sto} {v : D} (h : freeB v = true) : Vl S v := by
  obtain ⟨x, y, p, q, rfl⟩ := free_of h
  exact vl_pl rfl
def midR (Z : Ss) : Ss := (.cons (.if_ (.not (.call 12 (.cons (.lst (.cons (.call 17 (.cons (.v 4) (.cons (.v 2) .nil))) (.cons (.call 17 (.cons (.bin .add (.v 4) (.k (.int 1))) (.cons (.v 2) .nil))) .nil))) (.cons (.lst (.cons (.v 1) (.cons (.v 1) .nil))) .nil)))) (.cons (.ret (.k (.bl false))) .nil) .nil) Z)
def headR (Z : Ss) : Ss := (.cons (.set (.v 4) (.ite (.cmp .eq (.v 3) (.k (.int 2))) (.k (.int 0)) (.k (.int 2)))) (.cons (.if_ (.cmp .ne (.call 17 (.cons (.bin .add (.k (.int 4)) (.bin .fdiv (.v 4) (.k (.int 2)))) (.cons (.v 1) .nil))) (.v 2)) (.cons (.ret (.k (.bl false))) .nil) .nil) (.cons (.set (.v 5) (.ite (.cmp .eq (.v 3) (.k (.int 2))) (.callk 6 .nil (.cons (.v 1) .nil) [0]) (.callk 7 .nil (.cons (.v 1) .nil) [0]))) (.cons (.if_ (.cmp .ne (.v 5) (.v 2)) (.cons (.ret (.k (.bl false))) .nil) .nil) Z))))
theorem tail_ok {G : Gm} (h1 : G.fn 19 = spBentT) (h2 : G.fn 16 = spRead31) (h3 : G.fn 17 = spTold31) (h4 : G.fn 12 = spSmG) (h5 : G.fn 18 = spLong) {w n : Nat} {size way : Int} (hsw : size = 2 ∧ way = 0 ∨ size = 4 ∧ way = 2) {y : Tx} {v : D} {S : Sto} {Q : VK} {X : XK} {o5 : Option D} (hn : n < 2 ^ 54) (hw : Well n S w) (hv : Vl S v) (hsv : ∀ S, Sg 2 S v v) (hr0 : resD way (.str y) = some v) (hr1 : resD (way + 1) (.str y) = some v) (hy : y.length ≤ 200) (hc : ∀ c ∈ y, c < 1114112) (hq : ∀ S', Well (n + 20) S' w → Q (.bl true) S') :
    wpSs G (midR (.cons _law_right_S0 _law_right_A0)) [some (.ref w), some v, some (.str y), some (.int size), some (.int way), o5, none, none] S (kR Q X) := by
  have q0 := @b_0 G h1 h2 h3 h4 h5
  have tx : TxL (.str y) := (show y.length ≤ 600 ∧ _ from ⟨by omega, hc⟩)
  simp only [midR, _law_right_S0]
  generalize _law_right_B0 = bo at q0 ⊢
  simp only [_law_right_A0, wpSs, wpS, wpE, wpEs, wpC, wpAnd, wpOr, wpO, wpIt, opt_some, onI_int, onB_bl, onR_ref, arg1_one, look, joinO, start, List.map_cons, List.map_nil, List.length_cons, List.length_nil, List.replicate, List.cons_append, List.nil_append, List.append_nil, List.getElem?_cons_succ, List.getElem?_cons_zero, kcD, Nat.reduceAdd, Nat.reduceSub, br_t, br_f, br_n, asg, setAll, List.set_cons_succ, List.set_cons_zero, tgs, wipe, eq_ii, ne_ii, lt_ii, le_ii, gt_ii, ge_ii, is_n, isn_n, is_b, isn_b, add_ii, sub_ii, mul_ii, mod_ii, fdiv_ii, pow_ii, isNon, biD, intD_i, intD_b, esLen, beq_self_eq_true, ixD_tup, lsOf_new, seqD_tup, seqD_fl, slD_tup, bools, Option.map_some, true_and, ixD_fl, lenD_tup, lenD_fl, ix30, ix31, ix32, at20, at21, at30, at31, at32, List.filterMap_cons, List.filterMap_nil]
  refine told_S h3 (by omega) (by omega) vl_str (fun _ => tx) (fun h => by omega) hr0 fun S1 k1 => ?_
  refine told_S h3 (by omega) (by omega) vl_str (fun _ => tx) (fun h => by omega) hr1 fun S2 k2 => ?_
  refine mkL_abs (by simp) fun p3 S3 k3 e3 => mkL_abs (by simp) fun p4 S4 k4 e4 => ?_
  refine same_G h4 (m := 3) (by decide) (sg_ref (k4 _ _ e3) e4 rfl (by simp) fun p hp => ?_) fun S5 k5 => ?_
  · simp only [List.zip_cons_cons, List.zip_nil_right, List.mem_cons, List.not_mem_nil, or_false] at hp
    rcases hp with rfl | rfl <;> exact hsv _
  refine br_tt ?_
  have w5 := ((((hw.ext k1).ext k2).ext k3).ext k4).ext k5
  refine ⟨by decide, by decide, by decide, by decide, ?_⟩
  refine forW_ok (I := fun j ρ S' => Well (n + 3 * j) S' w ∧ ∃ (z : Tx) (o6 o7 : Option D), z.length ≤ 200 + 3 * j ∧ (∀ c ∈ z, c < 1114112) ∧ ρ = [some (.ref w), some v, some (.str z), some (.int size), some (.int way), o5, o6, o7]) _ 0 _ _ ⟨w5, y, _, _, by omega, hc, rfl⟩ ?_ ?_
  · rintro j d ρ U nx' hlt hdd ⟨wj, z, o6, o7, hz, hzc, rfl⟩ hnx
    refine ⟨trivial, ?_⟩
    have hj : j < 5 := by simpa using hlt
    exact q0 hsw (by omega) wj (by omega) hzc (fun z' o U' hz' hzc' w' => hnx _ _ ⟨w'.le (by omega), z', _, _, by omega, hzc', rfl⟩) fun z' o U' w' => hq _ (w'.le (by omega))
  · rintro ρ U ⟨wj, z, o6, o7, hz, hzc, rfl⟩
    have : (List.map (fun i : Nat => D.int (0 + (i : Int))) (List.range ((5 : Int) - 0).toNat)).length = 5 := rfl
    rw [this] at wj
    exact ⟨trivial, hq _ (wj.le (by omega))⟩
theorem txt_right31 {G : Gm} {ds : List D} {S0 : Sto} {Q : VK} {X : XK} {b : Ss} (hb : b = _law_right_T) (h1 : G.fn 19 = spBentT) (h2 : G.fn 16 = spRead31) (h3 : G.fn 17 = spTold31) (h4 : G.fn 12 = spSmG) (h5 : G.fn 18 = spLong) (h6 : G.fn 6 = spFmT) (h7 : G.fn 7 = spFmS) (h : spRight31 ds S0 Q X) : ds.length = 4 ∧ wpSs G b (start 8 ds) S0 (kR Q X) := by
  obtain ⟨w, n, v, size, rfl, hcase, hN, hw, hn, hq⟩ := h
  subst hb
  refine ⟨rfl, ?_⟩
  have tl := @tail_ok G h1 h2 h3 h4 h5
  have ed : _law_right_T = headR (midR (.cons _law_right_S0 _law_right_A0)) := rfl
  rw [ed]
  generalize midR (.cons _law_right_S0 _law_right_A0) = Z at tl ⊢
  simp only [headR]
  have s2 : smd 2 := smd_of 8 (by decide) (by decide)
  rcases hcase with ⟨rfl, ht⟩ | ⟨rfl, ht⟩
  · obtain ⟨f1, f2⟩ := fmT_len hN
    have el : linD 2 v = fmT v := rfl
    rw [el]
    have e0 : Int.fdiv 0 2 = 0 := rfl
    have r4 : resD 4 v = some (.str (fmT v)) := by
      show (if tabB v = true then some (D.str (fmT v)) else none) = _
      rw [if_pos ht]
    simp only [wpSs, wpS, wpE, wpEs, wpC, wpAnd, wpOr, wpO, wpIt, opt_some, onI_int, onB_bl, onR_ref, arg1_one, look, joinO, start, List.map_cons, List.map_nil, List.length_cons, List.length_nil, List.replicate, List.cons_append, List.nil_append, List.append_nil, List.getElem?_cons_succ, List.getElem?_cons_zero, kcD, Nat.reduceAdd, Nat.reduceSub, br_t, br_f, br_n, asg, setAll, List.set_cons_succ, List.set_cons_zero, tgs, wipe, eq_ii, ne_ii, lt_ii, le_ii, gt_ii, ge_ii, is_n, isn_n, is_b, isn_b, add_ii, sub_ii, mul_ii, mod_ii, fdiv_ii, pow_ii, isNon, biD, intD_i, intD_b, esLen, beq_self_eq_true, ixD_tup, lsOf_new, seqD_tup, seqD_fl, slD_tup, bools, Option.map_some, true_and, ixD_fl, lenD_tup, lenD_fl, ix30, ix31, ix32, at20, at21, at30, at31, at32, List.filterMap_cons, List.filterMap_nil, e0]
    refine ⟨by decide, s2, ?_⟩
    refine told_S h3 (by decide) (by decide) (vl_tabT ht) (fun h => by omega) (fun _ => hN) r4 fun S1 k1 => ?_
    refine str_ne (br_ff ?_)
    refine call h6 ⟨v, rfl, vl_tabT ht, hN, fun S2 k2 => ?_⟩
    rw [if_pos ht, outK_none]
    dsimp only
    refine str_ne (br_ff ?_)
    exact tl (.inl ⟨rfl, rfl⟩) (by omega) ((hw.ext k1).ext k2) (vl_tabT ht) (fun S => sg_tab ht) (rd_fmT ht) (rd_fmT ht) f1 f2 hq
  · obtain ⟨f1, f2⟩ := fmS_len hN
    have el : linD 4 v = fmS v := rfl
    rw [el]
    have e0 : Int.fdiv 2 2 = 1 := rfl
    have r4 : resD 5 v = some (.str (fmS v)) := by
      show (if freeB v = true then some (D.str (fmS v)) else none) = _
      rw [if_pos ht]
    simp only [wpSs, wpS, wpE, wpEs, wpC, wpAnd, wpOr, wpO, wpIt, opt_some, onI_int, onB_bl, onR_ref, arg1_one, look, joinO, start, List.map_cons, List.map_nil, List.length_cons, List.length_nil, List.replicate, List.cons_append, List.nil_append, List.append_nil, List.getElem?_cons_succ, List.getElem?_cons_zero, kcD, Nat.reduceAdd, Nat.reduceSub, br_t, br_f, br_n, asg, setAll, List.set_cons_succ, List.set_cons_zero, tgs, wipe, eq_ii, ne_ii, lt_ii, le_ii, gt_ii, ge_ii, is_n, isn_n, is_b, isn_b, add_ii, sub_ii, mul_ii, mod_ii, fdiv_ii, pow_ii, isNon, biD, intD_i, intD_b, esLen, beq_self_eq_true, ixD_tup, lsOf_new, seqD_tup, seqD_fl, slD_tup, bools, Option.map_some, true_and, ixD_fl, lenD_tup, lenD_fl, ix30, ix31, ix32, at20, at21, at30, at31, at32, List.filterMap_cons, List.filterMap_nil, e0]
    refine br_ff ⟨by decide, s2, ?_⟩
    refine told_S h3 (by decide) (by decide) (vl_free ht) (fun h => by omega) (fun _ => hN) r4 fun S1 k1 => ?_
    refine str_ne (br_ff ?_)
    refine br_ff ?_
    refine call h7 ⟨v, rfl, vl_free ht, hN, fun S2 k2 => ?_⟩
    rw [if_pos ht, outK_none]
    dsimp only
    refine str_ne (br_ff ?_)
    exact tl (.inr ⟨rfl, rfl⟩) (by omega) ((hw.ext k1).ext k2) (vl_free ht) (fun S => sg_free ht) (rd_fmS ht) (rd_fmS ht) f1 f2 hq
end M
namespace M
theorem prT_no {x : Tx} (h : tabB (.tup (wd 120 x)) = false) : prT (.str x) = none := if_neg (nt h)
theorem prS_no {x : Tx} (h : freeB (.tup (wd 32 x)) = false) : prS (.str x) = none := if_neg (nt h)
/-- a value that is refused as a text -/
def NoT (way : Int) (S : Sto) (v : D) : Prop := Vl S v ∧ TxL v ∧ resD way v = none
theorem no_str {way : Int} {S : Sto} {x : Tx} (h1 : x.length ≤ 600) (h2 : (x.all fun c => decide (c < 1114112)) = true) (h3 : resD way (.str x) = none) : NoT way S (.str x) := ⟨vl_str, ⟨h1, fun c hc => of_decide_eq_true (List.all_eq_true.mp h2 c hc)⟩, h3⟩
theorem n40_b {xs : List D} (h : (xs.all fun d => match d with | .int i => decide (i.natAbs < 10 ^ 40) | _ => true) = true) : N40 (.tup xs) := fun i hi => of_decide_eq_true (List.all_eq_true.mp h _ hi)
def spRefu : Sp := fun ds S Q _ => ∃ (w n : Nat) (a b x y p q : Int), ds = [.ref w, prD a b, shD x y p q] ∧ N40 (shD x y p q) ∧ Well n S w ∧ n < 2 ^ 50 ∧ ∀ S', Well (n + 10) S' w → Q (.bl true) S'
theorem one_ne {S : Sto} {p q : Nat} {x : Tx} {Q : Bool → Prop} (hx : (x.all fun c => decide (c < 1114112)) = true) (hp : S p = some (.lst [.str x])) (hq : S q = some (.lst [.str x])) (k : Q false) : cmpD .ne (.ref p) (.ref q) S Q := words_ne (ws := [x]) (by show (fit 7 S (.str x) && true) = true; rw [show fit 7 S (.str x) = true from hx]; rfl) hp hq k
theorem one_eq {S : Sto} {p q : Nat} {x : Tx} {Q : Bool → Prop} (hx : (x.all fun c => decide (c < 1114112)) = true) (hp : S p = some (.lst [.str x])) (hq : S q = some (.lst [.str x])) (k : Q true) : cmpD .eq (.ref p) (.ref q) S Q := words_cmp (ws := [x]) (by show (fit 7 S (.str x) && true) = true; rw [show fit 7 S (.str x) = true from hx]; rfl) hp hq k
/-- a call that is refused -/
theorem told_N {G : Gm} (h : G.fn 17 = spTold31) {way : Int} {v : D} {S : Sto} {Q : VK} {X : XK} (w0 : 0 ≤ way) (w2 : way < 6) (hk : Vl S v) (hx : way < 4 → TxL v) (hn : 4 ≤ way → N40 v) (hd : resD way v = none) (h1 : ∀ r S', Ext S S' → S' r = some (.lst [.str (worD way)]) → Q (.ref r) S') : cl (G.fn 17) [.int way, v] S Q X := told_T h w0 w2 hk hx hn (fun d' e => by rw [hd] at e; cases e) fun _ => h1
def refA : Ss := (.cons (.set (.v 3) (.lst (.cons (.k .non) (.cons (.k (.int 5)) (.cons (.k (.str [])) (.cons (.k (.str [52])) (.cons (.k (.str [52, 120])) (.cons (.k (.str [120, 50])) (.cons (.k (.str [52, 120, 48])) (.cons (.k (.str [48, 52, 120, 50])) (.cons (.k (.str [52, 120, 50, 120, 49])) (.cons (.k (.str [52, 32, 120, 32, 50])) (.cons (.k (.str [52, 88, 50])) (.cons (.lst (.cons (.k (.str [52, 120, 50])) .nil)) (.cons .dic (.cons (.k (.str [45, 52, 120, 50])) .nil)))))))))))))))) (.cons (.if_ (.cmp .ne (.call 17 (.cons (.call 11 (.cons (.v 0) (.cons (.k (.int 2)) .nil))) (.cons (.ix (.v 3) (.call 11 (.cons (.v 0) (.cons (.k (.int 14)) .nil)))) .nil))) (.lst (.cons (.k (.str [116, 101, 120, 116])) .nil))) (.cons (.ret (.k (.bl false))) .nil) .nil) .nil))
def refB : Ss := (.cons (.set (.v 3) (.lst (.cons (.k .non) (.cons (.k (.int 5)) (.cons (.k (.str [])) (.cons (.k (.str [48, 32, 48, 32, 48, 32, 48])) (.cons (.k (.str [49, 32, 49, 32, 49])) (.cons (.k (.str [49, 32, 49, 32, 49, 32, 49, 32, 49])) (.cons (.k (.str [45, 49, 32, 48, 32, 49, 32, 49])) (.cons (.k (.str [48, 32, 48, 32, 45, 48, 32, 49])) .nil)))))))))) (.cons (.set (.v 3) (.bin .add (.v 3) (.lst (.cons (.k (.str [48, 32, 48, 32, 48, 49, 32, 49])) (.cons (.k (.str [32, 48, 32, 48, 32, 49, 32, 49])) (.cons (.k (.str [48, 44, 48, 44, 49, 44, 49])) .nil)))))) (.cons (.if_ (.cmp .ne (.call 17 (.cons (.bin .add (.k (.int 2)) (.call 11 (.cons (.v 0) (.cons (.k (.int 2)) .nil)))) (.cons (.ix (.v 3) (.call 11 (.cons (.v 0) (.cons (.k (.int 11)) .nil)))) .nil))) (.lst (.cons (.k (.str [116, 101, 120, 116])) .nil))) (.cons (.ret (.k (.bl false))) .nil) .nil) .nil)))
def refC : Ss := (.cons (.set (.v 3) (.lst (.cons (.k .non) (.cons (.tup .nil) (.cons (.bi .list (.cons (.v 1) .nil)) (.cons (.tup (.cons (.k (.int 0)) (.cons (.k (.int 1)) .nil))) (.cons (.tup (.cons (.k (.int 1)) .nil)) (.cons (.tup (.cons (.k (.int 1)) (.cons (.k (.int 1)) (.cons (.k (.int 1)) .nil)))) (.cons (.k (.str [52, 120, 50])) (.cons (.k (.int 5)) (.cons .dic (.cons (.tup (.cons (.k (.bl true)) (.cons (.k (.int 1)) .nil))) .nil)))))))))))) (.cons (.if_ (.cmp .ne (.call 17 (.cons (.k (.int 4)) (.cons (.ix (.v 3) (.call 11 (.cons (.v 0) (.cons (.k (.int 10)) .nil)))) .nil))) (.lst (.cons (.k (.str [116, 97, 98, 108, 101])) .nil))) (.cons (.ret (.k (.bl false))) .nil) .nil) .nil))
def refE : Ss := (.cons (.set (.v 3) (.lst (.cons (.k .non) (.cons (.tup .nil) (.cons (.bi .list (.cons (.v 2) .nil)) (.cons (.sl (.v 2) .none (.some (.k (.int 3)))) (.cons (.tup (.cons (.k (.int 1)) (.cons (.k (.int 1)) (.cons (.k (.int 0)) (.cons (.k (.int 0)) .nil))))) (.cons (.tup (.cons (.neg (.k (.int 1))) (.cons (.k (.int 1)) (.cons (.k (.int 1)) (.cons (.k (.int 1)) .nil))))) .nil)))))))) (.cons (.set (.v 3) (.bin .add (.v 3) (.lst (.cons (.k (.str [48, 32, 48, 32, 49, 32, 49])) (.cons (.k (.int 5)) (.cons .dic (.cons (.tup (.cons (.k (.int 1)) (.cons (.k (.int 1)) (.cons (.k (.bl true)) (.cons (.k (.int 1)) .nil))))) .nil))))))) (.cons (.ret (.cmp .eq (.call 17 (.cons (.k (.int 5)) (.cons (.ix (.v 3) (.call 11 (.cons (.v 0) (.cons (.k (.int 10)) .nil)))) .nil))) (.lst (.cons (.k (.str [115, 104, 111, 116])) .nil)))) .nil)))
def catS : Ss → Ss → Ss
  | .nil, r => r
  | .cons s t, r => .cons s (catS t r)
theorem ref_eq : (.cons (.set (.v 3) (.lst (.cons (.k .non) (.cons (.k (.int 5)) (.cons (.k (.str [])) (.cons (.k (.str [52])) (.cons (.k (.str [52, 120])) (.cons (.k (.str [120, 50])) (.cons (.k (.str [52, 120, 48])) (.cons (.k (.str [48, 52, 120, 50])) (.cons (.k (.str [52, 120, 50, 120, 49])) (.cons (.k (.str [52, 32, 120, 32, 50])) (.cons (.k (.str [52, 88, 50])) (.cons (.lst (.cons (.k (.str [52, 120, 50])) .nil)) (.cons .dic (.cons (.k (.str [45, 52, 120, 50])) .nil)))))))))))))))) (.cons (.if_ (.cmp .ne (.call 17 (.cons (.call 11 (.cons (.v 0) (.cons (.k (.int 2)) .nil))) (.cons (.ix (.v 3) (.call 11 (.cons (.v 0) (.cons (.k (.int 14)) .nil)))) .nil))) (.lst (.cons (.k (.str [116, 101, 120, 116])) .nil))) (.cons (.ret (.k (.bl false))) .nil) .nil) (.cons (.set (.v 3) (.lst (.cons (.k .non) (.cons (.k (.int 5)) (.cons (.k (.str [])) (.cons (.k (.str [48, 32, 48, 32, 48, 32, 48])) (.cons (.k (.str [49, 32, 49, 32, 49])) (.cons (.k (.str [49, 32, 49, 32, 49, 32, 49, 32, 49])) (.cons (.k (.str [45, 49, 32, 48, 32, 49, 32, 49])) (.cons (.k (.str [48, 32, 48, 32, 45, 48, 32, 49])) .nil)))))))))) (.cons (.set (.v 3) (.bin .add (.v 3) (.lst (.cons (.k (.str [48, 32, 48, 32, 48, 49, 32, 49])) (.cons (.k (.str [32, 48, 32, 48, 32, 49, 32, 49])) (.cons (.k (.str [48, 44, 48, 44, 49, 44, 49])) .nil)))))) (.cons (.if_ (.cmp .ne (.call 17 (.cons (.bin .add (.k (.int 2)) (.call 11 (.cons (.v 0) (.cons (.k (.int 2)) .nil)))) (.cons (.ix (.v 3) (.call 11 (.cons (.v 0) (.cons (.k (.int 11)) .nil)))) .nil))) (.lst (.cons (.k (.str [116, 101, 120, 116])) .nil))) (.cons (.ret (.k (.bl false))) .nil) .nil) (.cons (.set (.v 3) (.lst (.cons (.k .non) (.cons (.tup .nil) (.cons (.bi .list (.cons (.v 1) .nil)) (.cons (.tup (.cons (.k (.int 0)) (.cons (.k (.int 1)) .nil))) (.cons (.tup (.cons (.k (.int 1)) .nil)) (.cons (.tup (.cons (.k (.int 1)) (.cons (.k (.int 1)) (.cons (.k (.int 1)) .nil)))) (.cons (.k (.str [52, 120, 50])) (.cons (.k (.int 5)) (.cons .dic (.cons (.tup (.cons (.k (.bl true)) (.cons (.k (.int 1)) .nil))) .nil)))))))))))) (.cons (.if_ (.cmp .ne (.call 17 (.cons (.k (.int 4)) (.cons (.ix (.v 3) (.call 11 (.cons (.v 0) (.cons (.k (.int 10)) .nil)))) .nil))) (.lst (.cons (.k (.str [116, 97, 98, 108, 101])) .nil))) (.cons (.ret (.k (.bl false))) .nil) .nil) (.cons (.set (.v 3) (.lst (.cons (.k .non) (.cons (.tup .nil) (.cons (.bi .list (.cons (.v 2) .nil)) (.cons (.sl (.v 2) .none (.some (.k (.int 3)))) (.cons (.tup (.cons (.k (.int 1)) (.cons (.k (.int 1)) (.cons (.k (.int 0)) (.cons (.k (.int 0)) .nil))))) (.cons (.tup (.cons (.neg (.k (.int 1))) (.cons (.k (.int 1)) (.cons (.k (.int 1)) (.cons (.k (.int 1)) .nil))))) .nil)))))))) (.cons (.set (.v 3) (.bin .add (.v 3) (.lst (.cons (.k (.str [48, 32, 48, 32, 49, 32, 49])) (.cons (.k (.int 5)) (.cons .dic (.cons (.tup (.cons (.k (.int 1)) (.cons (.k (.int 1)) (.cons (.k (.bl true)) (.cons (.k (.int 1)) .nil))))) .nil))))))) (.cons (.ret (.cmp .eq (.call 17 (.cons (.k (.int 5)) (.cons (.ix (.v 3) (.call 11 (.cons (.v 0) (.cons (.k (.int 10)) .nil)))) .nil))) (.lst (.cons (.k (.str [115, 104, 111, 116])) .nil)))) .nil)))))))))) = catS refA (catS refB (catS refC refE)) := rfl
theorem part_A {G : Gm} (hd : G.fn 11 = spDraw) (h3 : G.fn 17 = spTold31) {w n : Nat} {S : Sto} {K : Kt} {Z : Ss} {o1 o2 o3 : Option D} (hw : Well n S w) (hn : n < 2 ^ 55) (hk : ∀ o S', Well (n + 2) S' w → wpSs G Z [some (.ref w), o1, o2, o] S' K) : wpSs G (catS refA Z) [some (.ref w), o1, o2, o3] S K := by
  simp only [refA, catS, wpSs, wpS, wpE, wpEs, wpC, wpAnd, wpOr, wpO, wpIt, opt_some, onI_int, onB_bl, onR_ref, arg1_one, look, joinO, start, List.map_cons, List.map_nil, List.length_cons, List.length_nil, List.replicate, List.cons_append, List.nil_append, List.append_nil, List.getElem?_cons_succ, List.getElem?_cons_zero, kcD, Nat.reduceAdd, Nat.reduceSub, br_t, br_f, br_n, asg, setAll, List.set_cons_succ, List.set_cons_zero, tgs, wipe, eq_ii, ne_ii, lt_ii, le_ii, gt_ii, ge_ii, is_n, isn_n, is_b, isn_b, add_ii, sub_ii, mul_ii, mod_ii, fdiv_ii, pow_ii, isNon, biD, intD_i, intD_b, esLen, beq_self_eq_true, ixD_tup, lsOf_new, seqD_tup, seqD_fl, slD_tup, bools, Option.map_some, true_and, ixD_fl, lenD_tup, lenD_fl, ix30, ix31, ix32, at20, at21, at30, at31, at32, List.filterMap_cons, List.filterMap_nil]
  refine mkL_new (by simp) fun p1 S1 z1 k1 e1 => ?_
  intro p2 z2
  have k2 := Ext.new (o := .dic) z2
  have e2 := upd_at (S := S1) (a := p2) (o := .dic)
  generalize upd S1 p2 .dic = S2 at *
  refine mkL_new (by simp) fun p3 S3 z3 k3 e3 => ?_
  have m1 := hw.ne z1
  have w1 := hw.ext k1
  have m2 := w1.ne z2
  have w2 := w1.ext k2
  have m3 := w2.ne z3
  have w3 := w2.ext k3
  refine call hd ⟨w, 2, n, rfl, by decide, by decide, w3, by omega, fun wy S4 y0 y1 w4 k4 => ?_⟩
  refine call hd ⟨w, 14, n + 1, rfl, by decide, by decide, w4, by omega, fun i S5 i0 i1 w5 k5 => ?_⟩
  have k45 := k4.trans k5
  have e1 := k45 _ _ m1 (k3 _ _ (k2 _ _ e1))
  have e2 := k45 _ _ m2 (k3 _ _ e2)
  refine ix_ref (k45 _ _ m3 e3) (atI_all i0 (by simpa using i1) fun v hv => ?_)
  have rt : resD wy v = prT v := if_pos y1
  have hh : NoT wy S5 v := by
    simp only [List.mem_cons, List.not_mem_nil, or_false] at hv
    rcases hv with rfl | rfl | rfl | rfl | rfl | rfl | rfl | rfl | rfl | rfl | rfl | rfl | rfl | rfl
    · exact ⟨vl_non, trivial, rt⟩
    · exact ⟨vl_int, trivial, rt⟩
    · exact no_str (by decide) rfl (rt.trans (prT_no rfl))
    · exact no_str (by decide) rfl (rt.trans (prT_no rfl))
    · exact no_str (by decide) rfl (rt.trans (prT_no rfl))
    · exact no_str (by decide) rfl (rt.trans (prT_no rfl))
    · exact no_str (by decide) rfl (rt.trans (prT_no rfl))
    · exact no_str (by decide) rfl (rt.trans (prT_no rfl))
    · exact no_str (by decide) rfl (rt.trans (prT_no rfl))
    · exact no_str (by decide) rfl (rt.trans (prT_no rfl))
    · exact no_str (by decide) rfl (rt.trans (prT_no rfl))
    · exact ⟨vl_ref e1, trivial, rt⟩
    · exact ⟨vl_ref e2, trivial, rt⟩
    · exact no_str (by decide) rfl (rt.trans (prT_no rfl))
  obtain ⟨a1, a2, a3⟩ := hh
  refine told_N h3 y0 (by omega) a1 (fun _ => a2) (fun h => by omega) a3 fun r S6 k6 e6 => ?_
  have ew : worD wy = [116, 101, 120, 116] := if_pos (by omega)
  rw [ew] at e6
  refine mkL_abs (by simp) fun p7 S7 k7 e7 => ?_
  exact one_ne rfl (k7 _ _ e6) e7 (br_ff (hk _ _ ((w5.ext k6).ext k7)))
theorem part_B {G : Gm} (hd : G.fn 11 = spDraw) (h3 : G.fn 17 = spTold31) {w n : Nat} {S : Sto} {K : Kt} {Z : Ss} {o1 o2 o3 : Option D} (hw : Well n S w) (hn : n < 2 ^ 55) (hk : ∀ o S', Well (n + 2) S' w → wpSs G Z [some (.ref w), o1, o2, o] S' K) : wpSs G (catS refB Z) [some (.ref w), o1, o2, o3] S K := by
  simp only [refB, catS, wpSs, wpS, wpE, wpEs, wpC, wpAnd, wpOr, wpO, wpIt, opt_some, onI_int, onB_bl, onR_ref, arg1_one, look, joinO, start, List.map_cons, List.map_nil, List.length_cons, List.length_nil, List.replicate, List.cons_append, List.nil_append, List.append_nil, List.getElem?_cons_succ, List.getElem?_cons_zero, kcD, Nat.reduceAdd, Nat.reduceSub, br_t, br_f, br_n, asg, setAll, List.set_cons_succ, List.set_cons_zero, tgs, wipe, eq_ii, ne_ii, lt_ii, le_ii, gt_ii, ge_ii, is_n, isn_n, is_b, isn_b, add_ii, sub_ii, mul_ii, mod_ii, fdiv_ii, pow_ii, isNon, biD, intD_i, intD_b, esLen, beq_self_eq_true, ixD_tup, lsOf_new, seqD_tup, seqD_fl, slD_tup, bools, Option.map_some, true_and, ixD_fl, lenD_tup, lenD_fl, ix30, ix31, ix32, at20, at21, at30, at31, at32, List.filterMap_cons, List.filterMap_nil]
  refine mkL_new (by simp) fun p1 S1 z1 k1 e1 => mkL_new (by simp) fun p2 S2 z2 k2 e2 => ?_
  refine add_new (k2 _ _ e1) e2 (by simp) fun p3 S3 z3 k3 e3 => ?_
  have w2 := (hw.ext k1).ext k2
  have m3 := w2.ne z3
  have w3 := w2.ext k3
  refine call hd ⟨w, 2, n, rfl, by decide, by decide, w3, by omega, fun wy S4 y0 y1 w4 k4 => ?_⟩
  refine call hd ⟨w, 11, n + 1, rfl, by decide, by decide, w4, by omega, fun i S5 i0 i1 w5 k5 => ?_⟩
  have k45 := k4.trans k5
  refine ix_ref (k45 _ _ m3 e3) (atI_all i0 (by simpa using i1) fun v hv => ?_)
  have rt : resD (2 + wy) v = prS v := (if_neg (by omega)).trans (if_pos (by omega))
  have hh : NoT (2 + wy) S5 v := by
    simp only [List.cons_append, List.nil_append, List.mem_cons, List.not_mem_nil, or_false] at hv
    rcases hv with rfl | rfl | rfl | rfl | rfl | rfl | rfl | rfl | rfl | rfl | rfl
    · exact ⟨vl_non, trivial, rt⟩
    · exact ⟨vl_int, trivial, rt⟩
    · exact no_str (by decide) rfl (rt.trans (prS_no rfl))
    · exact no_str (by decide) rfl (rt.trans (prS_no rfl))
    · exact no_str (by decide) rfl (rt.trans (prS_no rfl))
    · exact no_str (by decide) rfl (rt.trans (prS_no rfl))
    · exact no_str (by decide) rfl (rt.trans (prS_no rfl))
    · exact no_str (by decide) rfl (rt.trans (prS_no rfl))
    · exact no_str (by decide) rfl (rt.trans (prS_no rfl))
    · exact no_str (by decide) rfl (rt.trans (prS_no rfl))
    · exact no_str (by decide) rfl (rt.trans (prS_no rfl))
  obtain ⟨a1, a2, a3⟩ := hh
  refine told_N h3 (by omega) (by omega) a1 (fun _ => a2) (fun h => by omega) a3 fun r S6 k6 e6 => ?_
  have ew : worD (2 + wy) = [116, 101, 120, 116] := if_pos (by omega)
  rw [ew] at e6
  refine mkL_abs (by simp) fun p7 S7 k7 e7 => ?_
  exact one_ne rfl (k7 _ _ e6) e7 (br_ff (hk _ _ ((w5.ext k6).ext k7)))
theorem part_C {G : Gm} (hd : G.fn 11 = spDraw) (h3 : G.fn 17 = spTold31) {w n : Nat} {a b : Int} {S : Sto} {K : Kt} {Z : Ss} {o2 o3 : Option D} (hw : Well n S w) (hn : n < 2 ^ 55) (hk : ∀ o S', Well (n + 1) S' w → wpSs G Z [some (.ref w), some (prD a b), o2, o] S' K) : wpSs G (catS refC Z) [some (.ref w), some (prD a b), o2, o3] S K := by
  have l2 : ∀ n, n ≤ 1000 → n ≤ lim := fun n h => len_lim h
  simp only [refC, catS, wpSs, wpS, wpE, wpEs, wpC, wpAnd, wpOr, wpO, wpIt, opt_some, onI_int, onB_bl, onR_ref, arg1_one, look, joinO, start, List.map_cons, List.map_nil, List.length_cons, List.length_nil, List.replicate, List.cons_append, List.nil_append, List.append_nil, List.getElem?_cons_succ, List.getElem?_cons_zero, kcD, Nat.reduceAdd, Nat.reduceSub, br_t, br_f, br_n, asg, setAll, List.set_cons_succ, List.set_cons_zero, tgs, wipe, eq_ii, ne_ii, lt_ii, le_ii, gt_ii, ge_ii, is_n, isn_n, is_b, isn_b, add_ii, sub_ii, mul_ii, mod_ii, fdiv_ii, pow_ii, isNon, biD, intD_i, intD_b, esLen, beq_self_eq_true, ixD_tup, lsOf_new, seqD_tup, seqD_fl, slD_tup, bools, Option.map_some, true_and, ixD_fl, lenD_tup, lenD_fl, ix30, ix31, ix32, at20, at21, at30, at31, at32, List.filterMap_cons, List.filterMap_nil]
  refine ⟨l2 _ (by decide), ?_⟩
  show opt (sqOf S (.tup [.int a, .int b])) _
  rw [show sqOf S (.tup [.int a, .int b]) = some [.int a, .int b] from rfl, opt_some]
  intro p1 z1
  have k1 := Ext.new (o := .lst [.int a, .int b]) z1
  have e1 := upd_at (S := S) (a := p1) (o := .lst [.int a, .int b])
  generalize upd S p1 (.lst [.int a, .int b]) = S1 at *
  refine ⟨l2 _ (by decide), l2 _ (by decide), l2 _ (by decide), ?_⟩
  intro p2 z2
  have k2 := Ext.new (o := .dic) z2
  have e2 := upd_at (S := S1) (a := p2) (o := .dic)
  generalize upd S1 p2 .dic = S2 at *
  refine ⟨l2 _ (by decide), mkL_new (by simp) fun p3 S3 z3 k3 e3 => ?_⟩
  have m1 := hw.ne z1
  have w1 := hw.ext k1
  have m2 := w1.ne z2
  have w2 := w1.ext k2
  have m3 := w2.ne z3
  have w3 := w2.ext k3
  refine call hd ⟨w, 10, n, rfl, by decide, by decide, w3, by omega, fun i S5 i0 i1 w5 k45 => ?_⟩
  have e1 := k45 _ _ m1 (k3 _ _ (k2 _ _ e1))
  have e2 := k45 _ _ m2 (k3 _ _ e2)
  refine ix_ref (k45 _ _ m3 e3) (atI_all i0 (by simpa using i1) fun v hv => ?_)
  have rt : tabB v = false → resD 4 v = none := fun h => if_neg (nt h)
  have hh : Vl S5 v ∧ N40 v ∧ resD 4 v = none := by
    simp only [List.mem_cons, List.not_mem_nil, or_false] at hv
    rcases hv with rfl | rfl | rfl | rfl | rfl | rfl | rfl | rfl | rfl | rfl
    · exact ⟨vl_non, trivial, rt rfl⟩
    · exact ⟨vl_pl rfl, n40_b rfl, rt rfl⟩
    · exact ⟨vl_ref e1, trivial, rt rfl⟩
    · exact ⟨vl_pl rfl, n40_b rfl, rt rfl⟩
    · exact ⟨vl_pl rfl, n40_b rfl, rt rfl⟩
    · exact ⟨vl_pl rfl, n40_b rfl, rt rfl⟩
    · exact ⟨vl_str, trivial, rt rfl⟩
    · exact ⟨vl_int, trivial, rt rfl⟩
    · exact ⟨vl_ref e2, trivial, rt rfl⟩
    · exact ⟨vl_pl rfl, n40_b rfl, rt rfl⟩
  obtain ⟨a1, a2, a3⟩ := hh
  refine told_N h3 (by decide) (by decide) a1 (fun h => absurd h (by decide)) (fun h => a2) a3 fun r S6 k6 e6 => ?_
  refine mkL_abs (by simp) fun p7 S7 k7 e7 => ?_
  exact one_ne rfl (k7 _ _ e6) e7 (br_ff (hk _ _ ((w5.ext k6).ext k7)))
theorem part_E {G : Gm} (hd : G.fn 11 = spDraw) (h3 : G.fn 17 = spTold31) {w n : Nat} {x y p q : Int} {S : Sto} {Q : VK} {X : XK} {o1 o3 : Option D} (hw : Well n S w) (hn : n < 2 ^ 55) (h40 : N40 (shD x y p q)) (hk : ∀ S', Well (n + 1) S' w → Q (.bl true) S') : wpSs G refE [some (.ref w), o1, some (shD x y p q), o3] S (kR Q X) := by
  have l2 : ∀ n, n ≤ 1000 → n ≤ lim := fun n h => len_lim h
  simp only [refE, wpSs, wpS, wpE, wpEs, wpC, wpAnd, wpOr, wpO, wpIt, opt_some, onI_int, onB_bl, onR_ref, arg1_one, look, joinO, start, List.map_cons, List.map_nil, List.length_cons, List.length_nil, List.replicate, List.cons_append, List.nil_append, List.append_nil, List.getElem?_cons_succ, List.getElem?_cons_zero, kcD, Nat.reduceAdd, Nat.reduceSub, br_t, br_f, br_n, asg, setAll, List.set_cons_succ, List.set_cons_zero, tgs, wipe, eq_ii, ne_ii, lt_ii, le_ii, gt_ii, ge_ii, is_n, isn_n, is_b, isn_b, add_ii, sub_ii, mul_ii, mod_ii, fdiv_ii, pow_ii, isNon, biD, intD_i, intD_b, esLen, beq_self_eq_true, ixD_tup, lsOf_new, seqD_tup, seqD_fl, slD_tup, bools, Option.map_some, true_and, ixD_fl, lenD_tup, lenD_fl, ix30, ix31, ix32, at20, at21, at30, at31, at32, List.filterMap_cons, List.filterMap_nil]
  refine ⟨l2 _ (by decide), ?_⟩
  show opt (sqOf S (shD x y p q)) _
  rw [show sqOf S (shD x y p q) = some [.int x, .int y, .int p, .int q] from rfl, opt_some]
  intro p1 z1
  have k1 := Ext.new (o := .lst [.int x, .int y, .int p, .int q]) z1
  have e1 := upd_at (S := S) (a := p1) (o := .lst [.int x, .int y, .int p, .int q])
  have ec : cut [D.int x, .int y, .int p, .int q] none (some 3) = [.int x, .int y, .int p] := rfl
  rw [ec]
  generalize upd S p1 (.lst [.int x, .int y, .int p, .int q]) = S1 at *
  refine ⟨l2 _ (by decide), l2 _ (by decide), mkL_new (by simp) fun p2 S2 z2 k2 e2 => ?_⟩
  intro p3 z3
  have k3 := Ext.new (o := .dic) z3
  have e3 := upd_at (S := S2) (a := p3) (o := .dic)
  generalize upd S2 p3 .dic = S3 at *
  refine ⟨l2 _ (by decide), mkL_new (by simp) fun p4 S4 z4 k4 e4 => ?_⟩
  refine add_new (k4 _ _ (k3 _ _ e2)) e4 (by simp) fun p5 S5 z5 k5 e5 => ?_
  have m1 := hw.ne z1
  have w1 := hw.ext k1
  have w2 := w1.ext k2
  have m3 := w2.ne z3
  have w4 := (w2.ext k3).ext k4
  have m5 := w4.ne z5
  have w5 := w4.ext k5
  refine call hd ⟨w, 10, n, rfl, by decide, by decide, w5, by omega, fun i S6 i0 i1 w6 k6 => ?_⟩
  have e1 := k6 _ _ m1 (k5 _ _ (k4 _ _ (k3 _ _ (k2 _ _ e1))))
  have e3 := k6 _ _ m3 (k5 _ _ (k4 _ _ e3))
  refine ix_ref (k6 _ _ m5 e5) (atI_all i0 (by simpa using i1) fun v hv => ?_)
  have rt : freeB v = false → resD 5 v = none := fun h => if_neg (nt h)
  have hh : Vl S6 v ∧ N40 v ∧ resD 5 v = none := by
    simp only [List.cons_append, List.nil_append, List.mem_cons, List.not_mem_nil, or_false] at hv
    rcases hv with rfl | rfl | rfl | rfl | rfl | rfl | rfl | rfl | rfl | rfl
    · exact ⟨vl_non, trivial, rt rfl⟩
    · exact ⟨vl_pl rfl, n40_b rfl, rt rfl⟩
    · exact ⟨vl_ref e1, trivial, rt rfl⟩
    · exact ⟨vl_pl rfl, fun i hi => h40 i (by simp only [List.mem_cons, List.not_mem_nil, or_false, D.int.injEq] at hi ⊢; omega), rt rfl⟩
    · exact ⟨vl_pl rfl, n40_b rfl, rt rfl⟩
    · exact ⟨vl_pl rfl, n40_b rfl, rt rfl⟩
    · exact ⟨vl_str, trivial, rt rfl⟩
    · exact ⟨vl_int, trivial, rt rfl⟩
    · exact ⟨vl_ref e3, trivial, rt rfl⟩
    · exact ⟨vl_pl rfl, n40_b rfl, rt rfl⟩
  obtain ⟨a1, a2, a3⟩ := hh
  refine told_N h3 (by decide) (by decide) a1 (fun h => absurd h (by decide)) (fun h => a2) a3 fun r S7 k7 e7 => ?_
  refine mkL_abs (by simp) fun p7 S8 k8 e8 => ?_
  exact one_eq rfl (k8 _ _ e7) e8 (hk _ ((w6.ext k7).ext k8))
theorem txt_refu {G : Gm} {ds : List D} {S0 : Sto} {Q : VK} {X : XK} {b : Ss} (hb : b = (.cons (.set (.v 3) (.lst (.cons (.k .non) (.cons (.k (.int 5)) (.cons (.k (.str [])) (.cons (.k (.str [52])) (.cons (.k (.str [52, 120])) (.cons (.k (.str [120, 50])) (.cons (.k (.str [52, 120, 48])) (.cons (.k (.str [48, 52, 120, 50])) (.cons (.k (.str [52, 120, 50, 120, 49])) (.cons (.k (.str [52, 32, 120, 32, 50])) (.cons (.k (.str [52, 88, 50])) (.cons (.lst (.cons (.k (.str [52, 120, 50])) .nil)) (.cons .dic (.cons (.k (.str [45, 52, 120, 50])) .nil)))))))))))))))) (.cons (.if_ (.cmp .ne (.call 17 (.cons (.call 11 (.cons (.v 0) (.cons (.k (.int 2)) .nil))) (.cons (.ix (.v 3) (.call 11 (.cons (.v 0) (.cons (.k (.int 14)) .nil)))) .nil))) (.lst (.cons (.k (.str [116, 101, 120, 116])) .nil))) (.cons (.ret (.k (.bl false))) .nil) .nil) (.cons (.set (.v 3) (.lst (.cons (.k .non) (.cons (.k (.int 5)) (.cons (.k (.str [])) (.cons (.k (.str [48, 32, 48, 32, 48, 32, 48])) (.cons (.k (.str [49, 32, 49, 32, 49])) (.cons (.k (.str [49, 32, 49, 32, 49, 32, 49, 32, 49])) (.cons (.k (.str [45, 49, 32, 48, 32, 49, 32, 49])) (.cons (.k (.str [48, 32, 48, 32, 45, 48, 32, 49])) .nil)))))))))) (.cons (.set (.v 3) (.bin .add (.v 3) (.lst (.cons (.k (.str [48, 32, 48, 32, 48, 49, 32, 49])) (.cons (.k (.str [32, 48, 32, 48, 32, 49, 32, 49])) (.cons (.k (.str [48, 44, 48, 44, 49, 44, 49])) .nil)))))) (.cons (.if_ (.cmp .ne (.call 17 (.cons (.bin .add (.k (.int 2)) (.call 11 (.cons (.v 0) (.cons (.k (.int 2)) .nil)))) (.cons (.ix (.v 3) (.call 11 (.cons (.v 0) (.cons (.k (.int 11)) .nil)))) .nil))) (.lst (.cons (.k (.str [116, 101, 120, 116])) .nil))) (.cons (.ret (.k (.bl false))) .nil) .nil) (.cons (.set (.v 3) (.lst (.cons (.k .non) (.cons (.tup .nil) (.cons (.bi .list (.cons (.v 1) .nil)) (.cons (.tup (.cons (.k (.int 0)) (.cons (.k (.int 1)) .nil))) (.cons (.tup (.cons (.k (.int 1)) .nil)) (.cons (.tup (.cons (.k (.int 1)) (.cons (.k (.int 1)) (.cons (.k (.int 1)) .nil)))) (.cons (.k (.str [52, 120, 50])) (.cons (.k (.int 5)) (.cons .dic (.cons (.tup (.cons (.k (.bl true)) (.cons (.k (.int 1)) .nil))) .nil)))))))))))) (.cons (.if_ (.cmp .ne (.call 17 (.cons (.k (.int 4)) (.cons (.ix (.v 3) (.call 11 (.cons (.v 0) (.cons (.k (.int 10)) .nil)))) .nil))) (.lst (.cons (.k (.str [116, 97, 98, 108, 101])) .nil))) (.cons (.ret (.k (.bl false))) .nil) .nil) (.cons (.set (.v 3) (.lst (.cons (.k .non) (.cons (.tup .nil) (.cons (.bi .list (.cons (.v 2) .nil)) (.cons (.sl (.v 2) .none (.some (.k (.int 3)))) (.cons (.tup (.cons (.k (.int 1)) (.cons (.k (.int 1)) (.cons (.k (.int 0)) (.cons (.k (.int 0)) .nil))))) (.cons (.tup (.cons (.neg (.k (.int 1))) (.cons (.k (.int 1)) (.cons (.k (.int 1)) (.cons (.k (.int 1)) .nil))))) .nil)))))))) (.cons (.set (.v 3) (.bin .add (.v 3) (.lst (.cons (.k (.str [48, 32, 48, 32, 49, 32, 49])) (.cons (.k (.int 5)) (.cons .dic (.cons (.tup (.cons (.k (.int 1)) (.cons (.k (.int 1)) (.cons (.k (.bl true)) (.cons (.k (.int 1)) .nil))))) .nil))))))) (.cons (.ret (.cmp .eq (.call 17 (.cons (.k (.int 5)) (.cons (.ix (.v 3) (.call 11 (.cons (.v 0) (.cons (.k (.int 10)) .nil)))) .nil))) (.lst (.cons (.k (.str [115, 104, 111, 116])) .nil)))) .nil))))))))))) (hd : G.fn 11 = spDraw) (h3 : G.fn 17 = spTold31) (h : spRefu ds S0 Q X) : ds.length = 3 ∧ wpSs G b (start 4 ds) S0 (kR Q X) := by
  obtain ⟨w, n, a, b2, x, y, p, q, rfl, h40, hw, hn, hq⟩ := h
  subst hb
  refine ⟨rfl, ?_⟩
  rw [ref_eq]
  refine part_A hd h3 hw (by omega) fun o S1 w1 => ?_
  refine part_B hd h3 w1 (by omega) fun o S2 w2 => ?_
  refine part_C hd h3 w2 (by omega) fun o S3 w3 => ?_
  exact part_E hd h3 w3 (by omega) h40 fun S4 w4 => hq _ (w4.le (by omega))
end M
namespace M
def law_B1 : Ss := (.cons (.set (.v 5) (.call 13 (.cons (.v 3) (.cons (.ix (.lst (.cons (.k (.int 9)) (.cons (.bin .pow (.k (.int 10)) (.k (.int 28))) .nil))) (.call 11 (.cons (.v 3) (.cons (.k (.int 2)) .nil)))) .nil)))) (.cons (.set (.v 6) (.call 14 (.cons (.v 3) (.cons (.v 5) (.cons (.ix (.lst (.cons (.k (.int 9)) (.cons (.bin .pow (.k (.int 10)) (.k (.int 28))) .nil))) (.call 11 (.cons (.v 3) (.cons (.k (.int 2)) .nil)))) .nil))))) (.cons (.if_ (.not (.call 20 (.cons (.v 3) (.cons (.v 5) (.cons (.bin .add (.bin .add (.bi .str (.cons (.ix (.v 5) (.k (.int 0))) .nil)) (.k (.str [120]))) (.bi .str (.cons (.ix (.v 5) (.k (.int 1))) .nil))) (.cons (.k (.int 2)) .nil)))))) (.cons (.ret (.k (.bl false))) .nil) .nil) (.cons (.set (.tup [7, 8, 9, 10]) (.v 6)) (.cons (.set (.v 11) (.bin .add (.bin .add (.bin .add (.bin .add (.bin .add (.bin .add (.bi .str (.cons (.v 7) .nil)) (.k (.str [32]))) (.bi .str (.cons (.v 8) .nil))) (.k (.str [32]))) (.bi .str (.cons (.v 9) .nil))) (.k (.str [32]))) (.bi .str (.cons (.v 10) .nil)))) (.cons (.if_ (.not (.call 20 (.cons (.v 3) (.cons (.v 6) (.cons (.v 11) (.cons (.k (.int 4)) .nil)))))) (.cons (.ret (.k (.bl false))) .nil) .nil) (.cons (.if_ (.not (.call 21 (.cons (.v 3) (.cons (.v 5) (.cons (.v 6) .nil))))) (.cons (.ret (.k (.bl false))) .nil) .nil) .nil)))))))
def law_S1 : St := (.for_ (.v 4) (.rng (.k (.int 4))) law_B1)
def law_B0 : Ss := (.cons (.set (.v 3) (.call 10 (.cons (.v 0) (.cons (.v 1) .nil)))) (.cons law_S1 .nil))
def law_S0 : St := (.for_ (.v 1) (.rng (.bi .max (.cons (.k (.int 1)) (.cons (.bi .min (.cons (.k (.int 6)) (.cons (.bi .len (.cons (.v 0) .nil)) .nil))) .nil)))) law_B0)
def law_A0 : Ss := (.cons (.set (.v 2) (.bin .sub (.bin .pow (.k (.int 10)) (.k (.int 40))) (.k (.int 1)))) (.cons (.if_ (.cmp .ne (.call 17 (.cons (.k (.int 0)) (.cons (.bin .add (.bin .add (.bi .str (.cons (.v 2) .nil)) (.k (.str [120]))) (.bi .str (.cons (.bin .sub (.v 2) (.k (.int 7))) .nil))) .nil))) (.tup (.cons (.v 2) (.cons (.bin .sub (.v 2) (.k (.int 7))) .nil)))) (.cons (.ret (.k (.bl false))) .nil) .nil) (.cons (.if_ (.cmp .ne (.call 17 (.cons (.k (.int 2)) (.cons (.bin .add (.bin .add (.bin .add (.bin .add (.k (.str [53, 32])) (.bi .str (.cons (.v 2) .nil))) (.k (.str [32, 45]))) (.bi .str (.cons (.v 2) .nil))) (.k (.str [32, 48]))) .nil))) (.tup (.cons (.k (.int 5)) (.cons (.v 2) (.cons (.neg (.v 2)) (.cons (.k (.int 0)) .nil)))))) (.cons (.ret (.k (.bl false))) .nil) .nil) (.cons (.ret (.cmp .eq (.call 17 (.cons (.k (.int 2)) (.cons (.k (.str [49, 32, 48, 32, 45, 49, 32, 49])) .nil))) (.tup (.cons (.k (.int 1)) (.cons (.k (.int 0)) (.cons (.neg (.k (.int 1))) (.cons (.k (.int 1)) .nil))))))) .nil))))
def law_T : Ss := (.cons law_S0 law_A0)
def spLaw : Sp := fun ds S Q _ => ∃ ns : List Int, ds = [.fl (ns.map .int)] ∧ ns.length ≤ 63 ∧ ∀ S', Q (.bl true) S'
theorem tup_ne {S : Sto} {xs : List Int} {Q : Bool → Prop} (h : Q false) : cmpD .ne (.tup (xs.map .int)) (.tup (xs.map .int)) S Q := by
  have f1 : ∀ xs : List Int, fitL (fit 7 S) (xs.map .int) = true := fun xs => by
    induction xs with
    | nil => rfl
    | cons x xs ih => show (true && _) = true; rw [ih]; rfl
  have f2 : ∀ xs : List Int, eqLB (eqB 7 S) (xs.map .int) (xs.map .int) = true := fun xs => by
    induction xs with
    | nil => rfl
    | cons x xs ih => show ((x == x) && _) = true; rw [ih, beq_self_eq_true]; rfl
  refine ⟨f1 xs, f1 xs, ?_⟩
  rw [show eqB dep S (.tup (xs.map .int)) (.tup (xs.map .int)) = true from f2 xs]
  exact h
theorem tup_eq {S : Sto} {xs : List Int} {Q : Bool → Prop} (h : Q true) : cmpD .eq (.tup (xs.map .int)) (.tup (xs.map .int)) S Q := by
  have f1 : ∀ xs : List Int, fitL (fit 7 S) (xs.map .int) = true := fun xs => by
    induction xs with
    | nil => rfl
    | cons x xs ih => show (true && _) = true; rw [ih]; rfl
  have f2 : ∀ xs : List Int, eqLB (eqB 7 S) (xs.map .int) (xs.map .int) = true := fun xs => by
    induction xs with
    | nil => rfl
    | cons x xs ih => show ((x == x) && _) = true; rw [ih, beq_self_eq_true]; rfl
  refine ⟨f1 xs, f1 xs, ?_⟩
  rw [show eqB dep S (.tup (xs.map .int)) (.tup (xs.map .int)) = true from f2 xs]
  exact h
def farN : Int := 10 ^ 40 - 1
theorem far_neg : txI farN = digL (10 ^ 40 - 1) := txI_nat (10 ^ 40 - 1)
theorem far_1 : prT (.str (txI farN ++ [120] ++ txI (farN - 7))) = some (.tup [.int farN, .int (farN - 7)]) := rd_fmT (v := .tup [.int farN, .int (farN - 7)]) (by rfl)
theorem far_2 : prS (.str ([53, 32] ++ txI farN ++ [32, 45] ++ txI farN ++ [32, 48])) = some (.tup [.int 5, .int farN, .int (-farN), .int 0]) := by
  have e : [53, 32] ++ txI farN ++ [32, 45] ++ txI farN ++ [32, 48] = joinT [32] [[53], txI farN, 45 :: txI farN, [48]] := by
    show _ = [53] ++ [32] ++ (txI farN ++ [32] ++ ((45 :: txI farN) ++ [32] ++ [48]))
    simp only [List.append_assoc, List.cons_append, List.nil_append]
  have w : wd 32 (joinT [32] [[53], txI farN, 45 :: txI farN, [48]]) = [.int 5, .int farN, .int (-farN), .int 0] := by
    rw [wd_join (by simp) fun w hw => by
      simp only [List.mem_cons, List.not_mem_nil, or_false] at hw
      rcases hw with rfl | rfl | rfl | rfl
      · decide
      · exact no_in (.inr rfl)
      · intro z
        rcases List.mem_cons.mp z with z | z
        · omega
        · exact no_in (.inr rfl) z
      · decide]
    have e1 : figT (45 :: txI farN) = some (-farN) := by
      rw [far_neg]
      have h := fig_neg (n := 10 ^ 40 - 1) (by decide)
      rw [h]
      rfl
    show [vD (figT [53]), vD (figT (txI farN)), vD (figT (45 :: txI farN)), vD (figT [48])] = _
    rw [fig_int, e1]
    rfl
  rw [e]
  show (if freeB (.tup (wd 32 (joinT [32] [[53], txI farN, 45 :: txI farN, [48]]))) = true then some (D.tup (wd 32 (joinT [32] [[53], txI farN, 45 :: txI farN, [48]]))) else none) = _
  rw [w]
  rfl
theorem far_s : farN.natAbs < 10 ^ 40 ∧ (farN - 7).natAbs < 10 ^ 40 := by decide
theorem end_ok {G : Gm} (h3 : G.fn 17 = spTold31) {S : Sto} {Q : VK} {X : XK} {o0 o1 o2 o3 o4 o5 o6 o7 o8 o9 o10 o11 : Option D} (hq : ∀ S', Q (.bl true) S') : wpSs G law_A0 [o0, o1, o2, o3, o4, o5, o6, o7, o8, o9, o10, o11] S (kR Q X) := by
  have ef : (10 : Int) ^ Int.toNat 40 - 1 = farN := rfl
  obtain ⟨n1, n2⟩ := far_s
  have l1 := txI_len n1
  have l2 := txI_len n2
  simp only [law_A0, wpSs, wpS, wpE, wpEs, wpC, wpAnd, wpOr, wpO, wpIt, opt_some, onI_int, onB_bl, onR_ref, arg1_one, look, joinO, start, List.map_cons, List.map_nil, List.length_cons, List.length_nil, List.replicate, List.cons_append, List.nil_append, List.append_nil, List.getElem?_cons_succ, List.getElem?_cons_zero, kcD, Nat.reduceAdd, Nat.reduceSub, br_t, br_f, br_n, asg, setAll, List.set_cons_succ, List.set_cons_zero, tgs, wipe, eq_ii, ne_ii, lt_ii, le_ii, gt_ii, ge_ii, is_n, isn_n, is_b, isn_b, add_ii, sub_ii, mul_ii, mod_ii, fdiv_ii, pow_ii, isNon, biD, intD_i, intD_b, esLen, beq_self_eq_true, ixD_tup, lsOf_new, seqD_tup, seqD_fl, slD_tup, bools, Option.map_some, true_and, ixD_fl, lenD_tup, lenD_fl, ix30, ix31, ix32, at20, at21, at30, at31, at32, List.filterMap_cons, List.filterMap_nil, ef, add_ss]
  refine ⟨sm_of 8 (by decide) (by decide), by decide, by decide, ?_⟩
  refine ⟨txI_log n1, len_lim (by simp; omega), txI_log n2, len_lim (by simp; omega), ?_⟩
  have t1 : TxL (.str (txI farN ++ [120] ++ txI (farN - 7))) := ⟨by simp; omega, fun c hc => by
    simp only [List.mem_append, List.mem_singleton] at hc
    rcases hc with (hc | hc) | hc
    · have := txI_mem hc; omega
    · omega
    · have := txI_mem hc; omega⟩
  refine told_S h3 (by decide) (by decide) vl_str (fun _ => t1) (fun h => absurd h (by decide)) far_1 fun S1 k1 => ?_
  refine ⟨len_lim (by decide), tup_ne (xs := [farN, farN - 7]) (br_ff ?_)⟩
  refine ⟨txI_log n1, len_lim (by first | omega | (simp; omega)), len_lim (by first | omega | (simp; omega)), txI_log n1, len_lim (by first | omega | (simp; omega)), len_lim (by first | omega | (simp; omega)), ?_⟩
  have t2 : TxL (.str ([53, 32] ++ txI farN ++ [32, 45] ++ txI farN ++ [32, 48])) := ⟨by simp; omega, fun c hc => by
    simp only [List.mem_append, List.mem_cons, List.not_mem_nil, or_false] at hc
    rcases hc with (((hc | hc) | hc) | hc) | hc
    · omega
    · have := txI_mem hc; omega
    · omega
    · have := txI_mem hc; omega
    · omega⟩
  refine told_S h3 (by decide) (by decide) vl_str (fun _ => t2) (fun h => absurd h (by decide)) far_2 fun S2 k2 => ?_
  refine ⟨len_lim (by decide), tup_ne (xs := [5, farN, -farN, 0]) (br_ff ?_)⟩
  refine told_S h3 (d := .tup [.int 1, .int 0, .int (-1), .int 1]) (by decide) (by decide) vl_str (fun _ => (⟨by decide, by decide⟩ : TxL (.str [49, 32, 48, 32, 45, 49, 32, 49]))) (fun h => absurd h (by decide)) rfl fun S3 k3 => ?_
  exact ⟨len_lim (by decide), tup_eq (xs := [1, 0, -1, 1]) (hq _)⟩
theorem law_ok {G : Gm} {ds : List D} {S0 : Sto} {Q : VK} {X : XK} {b : Ss} (hb : b = law_T) (h1 : G.fn 10 = spWell) (hd : G.fn 11 = spDraw) (hk : G.fn 13 = spDesk) (hr : G.fn 14 = spRoll) (h2 : G.fn 20 = spRight31) (h4 : G.fn 21 = spRefu) (h3 : G.fn 17 = spTold31) (h : spLaw ds S0 Q X) : ds.length = 1 ∧ wpSs G b (start 12 ds) S0 (kR Q X) := by
  obtain ⟨ns, rfl, hl, hq⟩ := h
  subst hb
  refine ⟨rfl, ?_⟩
  have qe := @end_ok G h3
  simp only [law_T, law_S0]
  generalize law_A0 = A0 at qe ⊢
  generalize hB : law_B0 = bo
  simp only [wpSs, wpS, wpE, wpEs, wpC, wpAnd, wpOr, wpO, wpIt, opt_some, onI_int, onB_bl, onR_ref, arg1_one, look, joinO, start, List.map_cons, List.map_nil, List.length_cons, List.length_nil, List.replicate, List.cons_append, List.nil_append, List.append_nil, List.getElem?_cons_succ, List.getElem?_cons_zero, kcD, Nat.reduceAdd, Nat.reduceSub, br_t, br_f, br_n, asg, setAll, List.set_cons_succ, List.set_cons_zero, tgs, wipe, eq_ii, ne_ii, lt_ii, le_ii, gt_ii, ge_ii, is_n, isn_n, is_b, isn_b, add_ii, sub_ii, mul_ii, mod_ii, fdiv_ii, pow_ii, isNon, biD, intD_i, intD_b, esLen, beq_self_eq_true, ixD_tup, lsOf_new, seqD_tup, seqD_fl, slD_tup, bools, Option.map_some, true_and, ixD_fl, lenD_tup, lenD_fl, ix30, ix31, ix32, at20, at21, at30, at31, at32, List.filterMap_cons, List.filterMap_nil, List.length_map]
  have hn : ∀ c : Int, 0 ≤ c → c ≤ 63 → (if (if c < 6 then c else 6) > 1 then (if c < 6 then c else 6) else 1) ≤ 8 ∧ 1 ≤ (if (if c < 6 then c else 6) > 1 then (if c < 6 then c else 6) else 1) := fun c h0 h1 => by split <;> (try split) <;> omega
  obtain ⟨hj, hj0⟩ := hn ns.length (by omega) (by omega)
  generalize (if (if ((ns.length : Nat) : Int) < 6 then ((ns.length : Nat) : Int) else 6) > 1 then (if ((ns.length : Nat) : Int) < 6 then ((ns.length : Nat) : Int) else 6) else 1) = j at *
  refine ⟨by omega, by omega, by omega, by omega, ?_⟩
  refine forW_ok (I := fun _ ρ S' => ∃ o1 o2 o3 o4 o5 o6 o7 o8 o9 o10 o11, ρ = [some (.fl (ns.map .int)), o1, o2, o3, o4, o5, o6, o7, o8, o9, o10, o11]) _ 0 _ _ ⟨_, _, _, _, _, _, _, _, _, _, _, rfl⟩ ?_ ?_
  · rintro i d ρ S2 nx' hlt hdd ⟨o1, o2, o3, o4, o5, o6, o7, o8, o9, o10, o11, rfl⟩ hnx
    refine ⟨trivial, ?_⟩
    obtain ⟨i, hi, rfl⟩ := List.mem_map.mp hdd
    have hi := List.mem_range.mp hi
    subst hB
    simp only [law_B0, law_S1]
    generalize hB1 : law_B1 = b1
    simp only [wpSs, wpS, wpE, wpEs, wpC, wpAnd, wpOr, wpO, wpIt, opt_some, onI_int, onB_bl, onR_ref, arg1_one, look, joinO, start, List.map_cons, List.map_nil, List.length_cons, List.length_nil, List.replicate, List.cons_append, List.nil_append, List.append_nil, List.getElem?_cons_succ, List.getElem?_cons_zero, kcD, Nat.reduceAdd, Nat.reduceSub, br_t, br_f, br_n, asg, setAll, List.set_cons_succ, List.set_cons_zero, tgs, wipe, eq_ii, ne_ii, lt_ii, le_ii, gt_ii, ge_ii, is_n, isn_n, is_b, isn_b, add_ii, sub_ii, mul_ii, mod_ii, fdiv_ii, pow_ii, isNon, biD, intD_i, intD_b, esLen, beq_self_eq_true, ixD_tup, lsOf_new, seqD_tup, seqD_fl, slD_tup, bools, Option.map_some, true_and, ixD_fl, lenD_tup, lenD_fl, ix30, ix31, ix32, at20, at21, at30, at31, at32, List.filterMap_cons, List.filterMap_nil]
    refine call h1 ⟨ns, _, rfl, by omega, by omega, fun w hp S3 x3 hw => ?_⟩
    refine ⟨by decide, by decide, by decide, by decide, ?_⟩
    refine forW_ok (I := fun k ρ S' => Well (100 * k) S' w ∧ ∃ o1 o2 o4 o5 o6 o7 o8 o9 o10 o11, ρ = [some (.fl (ns.map .int)), o1, o2, some (.ref w), o4, o5, o6, o7, o8, o9, o10, o11]) _ 0 _ _ ⟨hw, _, _, _, _, _, _, _, _, _, _, rfl⟩ ?_ ?_
    · rintro k d ρ S4 nx2 hlt hdd2 ⟨w4, o1, o2, o4, o5, o6, o7, o8, o9, o10, o11, rfl⟩ hnx2
      refine ⟨trivial, ?_⟩
      have hk3 : k < 4 := by simpa using hlt
      subst hB1
      simp only [law_B1, wpSs, wpS, wpE, wpEs, wpC, wpAnd, wpOr, wpO, wpIt, opt_some, onI_int, onB_bl, onR_ref, arg1_one, look, joinO, start, List.map_cons, List.map_nil, List.length_cons, List.length_nil, List.replicate, List.cons_append, List.nil_append, List.append_nil, List.getElem?_cons_succ, List.getElem?_cons_zero, kcD, Nat.reduceAdd, Nat.reduceSub, br_t, br_f, br_n, asg, setAll, List.set_cons_succ, List.set_cons_zero, tgs, wipe, eq_ii, ne_ii, lt_ii, le_ii, gt_ii, ge_ii, is_n, isn_n, is_b, isn_b, add_ii, sub_ii, mul_ii, mod_ii, fdiv_ii, pow_ii, isNon, biD, intD_i, intD_b, esLen, beq_self_eq_true, ixD_tup, lsOf_new, seqD_tup, seqD_fl, slD_tup, bools, Option.map_some, true_and, ixD_fl, lenD_tup, lenD_fl, ix30, ix31, ix32, at20, at21, at30, at31, at32, List.filterMap_cons, List.filterMap_nil]
      have s10 : M.sm 10 := sm_of 8 (by decide) (by decide)
      have pick : ∀ {c : Int} {ms : D}, ms ∈ [D.int 9, .int ((10 : Int) ^ Int.toNat 28)] → ∃ m : Int, ms = .int m ∧ 9 ≤ m ∧ m ≤ 10 ^ 28 := fun {c ms} hms => by
        simp only [List.mem_cons, List.not_mem_nil, or_false] at hms
        rcases hms with rfl | rfl
        · exact ⟨_, rfl, by decide, by decide⟩
        · exact ⟨_, rfl, by decide, by decide⟩
      refine ⟨s10, by decide, by decide, mkL_new (by simp) fun p5 S5 z5 k5 e5 => ?_⟩
      have w5 := w4.ext k5
      have n5 := w4.ne z5
      refine call hd ⟨w, 2, 100 * k, rfl, by decide, by decide, w5, by omega, fun c S6 c0 c1 w6 k6 => ?_⟩
      refine ix_ref (k6 _ _ n5 e5) (atI_all c0 c1 fun ms hms => ?_)
      obtain ⟨m, rfl, m1, m2⟩ := pick (c := c) hms
      refine call hk ⟨w, m, 100 * k + 1, rfl, by omega, by omega, w6, by omega, fun a b S7 a1 a9 b1 b9 w7 k7 => ?_⟩
      refine ⟨s10, by decide, by decide, mkL_new (by simp) fun p8 S8 z8 k8 e8 => ?_⟩
      have w8 := w7.ext k8
      have n8 := w7.ne z8
      refine call hd ⟨w, 2, 100 * k + 1 + 4, rfl, by decide, by decide, w8, by omega, fun c' S9 c0' c1' w9 k9 => ?_⟩
      refine ix_ref (k9 _ _ n8 e8) (atI_all c0' c1' fun ms hms => ?_)
      obtain ⟨m', rfl, m1', m2'⟩ := pick (c := c) hms
      refine call hr ⟨w, a, b, m', 100 * k + 1 + 4 + 1, rfl, by omega, by omega, a1, by omega, b1, by omega, w9, by omega, fun x y p q S10 x0 xa y0 yb pq p0 p4 q0 q4 w10 k10 => ?_⟩
      have na : a.natAbs < 10 ^ 40 := by omega
      have nb : b.natAbs < 10 ^ 40 := by omega
      have nx : x.natAbs < 10 ^ 40 := by omega
      have ny : y.natAbs < 10 ^ 40 := by omega
      have np : p.natAbs < 10 ^ 40 := by omega
      have nq : q.natAbs < 10 ^ 40 := by omega
      have la := txI_len na
      have lb := txI_len nb
      have lx := txI_len nx
      have ly := txI_len ny
      have lp := txI_len np
      have lq := txI_len nq
      simp only [wpSs, wpS, wpE, wpEs, wpC, wpAnd, wpOr, wpO, wpIt, opt_some, onI_int, onB_bl, onR_ref, arg1_one, look, joinO, start, List.map_cons, List.map_nil, List.length_cons, List.length_nil, List.replicate, List.cons_append, List.nil_append, List.append_nil, List.getElem?_cons_succ, List.getElem?_cons_zero, kcD, Nat.reduceAdd, Nat.reduceSub, br_t, br_f, br_n, asg, setAll, List.set_cons_succ, List.set_cons_zero, tgs, wipe, eq_ii, ne_ii, lt_ii, le_ii, gt_ii, ge_ii, is_n, isn_n, is_b, isn_b, add_ii, sub_ii, mul_ii, mod_ii, fdiv_ii, pow_ii, isNon, biD, intD_i, intD_b, esLen, beq_self_eq_true, ixD_tup, lsOf_new, seqD_tup, seqD_fl, slD_tup, bools, Option.map_some, true_and, ixD_fl, lenD_tup, lenD_fl, ix30, ix31, ix32, at20, at21, at30, at31, at32, List.filterMap_cons, List.filterMap_nil, add_ss]
      refine ⟨txI_log na, len_lim (by simp; omega), txI_log nb, len_lim (by simp; omega), ?_⟩
      have hT : tabB (prD a b) = true := by
        show ((decide (1 ≤ a) && true) && (decide (1 ≤ b) && true)) = true
        rw [decide_eq_true a1, decide_eq_true b1]; rfl
      have hF : freeB (shD x y p q) = true := by
        show ((decide (0 ≤ x) && decide (0 ≤ y)) && !(p == 0 && q == 0)) = true
        rw [decide_eq_true x0, decide_eq_true y0]
        rcases pq with h | h
        · rw [beq_false_of_ne h]; rfl
        · rw [beq_false_of_ne h]; simp
      have h40 : N40 (shD x y p q) := fun i hi => by
        simp only [List.mem_cons, List.not_mem_nil, or_false, D.int.injEq] at hi
        rcases hi with rfl | rfl | rfl | rfl <;> assumption
      have h40t : N40 (prD a b) := fun i hi => by
        simp only [List.mem_cons, List.not_mem_nil, or_false, D.int.injEq] at hi
        rcases hi with rfl | rfl <;> assumption
      refine call h2 ⟨w, 100 * k + 1 + 4 + 1 + 8, prD a b, 2, rfl, .inl ⟨rfl, hT⟩, h40t, w10, by omega, fun S11 w11 => ?_⟩
      refine br_tt ?_
      refine ⟨txI_log nx, len_lim (by simp; omega), txI_log ny, len_lim (by simp; omega), len_lim (by simp; omega), txI_log np, len_lim (by simp; omega), len_lim (by simp; omega), txI_log nq, len_lim (by simp; omega), ?_⟩
      refine call h2 ⟨w, 100 * k + 1 + 4 + 1 + 8 + 20, shD x y p q, 4, by rw [show linD 4 (shD x y p q) = _ from fmS_eq x y p q], .inr ⟨rfl, hF⟩, h40, w11, by omega, fun S12 w12 => ?_⟩
      refine br_tt ?_
      refine call h4 ⟨w, 100 * k + 1 + 4 + 1 + 8 + 20 + 20, a, b, x, y, p, q, rfl, h40, w12, by omega, fun S13 w13 => ?_⟩
      exact br_tt (hnx2 _ _ ⟨w13.le (by omega), _, _, _, _, _, _, _, _, _, _, rfl⟩)
    · rintro ρ S4 ⟨w4, o1, o2, o4, o5, o6, o7, o8, o9, o10, o11, rfl⟩
      exact ⟨trivial, hnx _ _ ⟨_, _, _, _, _, _, _, _, _, _, _, rfl⟩⟩
  · rintro ρ S2 ⟨o1, o2, o3, o4, o5, o6, o7, o8, o9, o10, o11, rfl⟩
    exact ⟨trivial, qe hq⟩
end M
namespace K31.A
/-- is_integer: value, least, most -/
def b0 : M.Ss := (.cons (.if_ (.or (.not (.isi (.v 0) .int)) (.cons (.isi (.v 0) .bool) .nil)) (.cons (.ret (.k (.bl false))) .nil) .nil) (.cons (.ret (.and (.or (.cmp .is_ (.v 1) (.k .non)) (.cons (.cmp .le (.v 1) (.v 0)) .nil)) (.cons (.or (.cmp .is_ (.v 2) (.k .non)) (.cons (.cmp .le (.v 0) (.v 2)) .nil)) .nil))) .nil))
/-- are_table: value, side -/
def b1 : M.Ss := (.cons (.ret (.and (.isi (.v 0) .tuple) (.cons (.cmp .eq (.bi .len (.cons (.v 0) .nil)) (.k (.int 2))) (.cons (.bi .all (.cons (.comp (.call 0 (.cons (.v 1) (.cons (.k (.int 1)) (.cons (.k .non) .nil)))) (.v 1) (.seq (.v 0)) .none) .nil)) .nil)))) .nil)
/-- is_free_shot: value, one -/
def b2 : M.Ss := (.cons (.if_ (.or (.not (.isi (.v 0) .tuple)) (.cons (.cmp .ne (.bi .len (.cons (.v 0) .nil)) (.k (.int 4))) (.cons (.not (.bi .all (.cons (.comp (.call 0 (.cons (.v 1) (.cons (.k .non) (.cons (.k .non) .nil)))) (.v 1) (.seq (.v 0)) .none) .nil))) .nil))) (.cons (.ret (.k (.bl false))) .nil) .nil) (.cons (.ret (.and (.cmp .ge (.ix (.v 0) (.k (.int 0))) (.k (.int 0))) (.cons (.cmp .ge (.ix (.v 0) (.k (.int 1))) (.k (.int 0))) (.cons (.cmp .ne (.sl (.v 0) (.some (.k (.int 2))) .none) (.tup (.cons (.k (.int 0)) (.cons (.k (.int 0)) .nil)))) .nil)))) .nil))
/-- check_table: table -/
def b3 : M.Ss := (.cons (.if_ (.not (.call 1 (.cons (.v 0) .nil))) (.cons (.raise 0 .nil) .nil) .nil) .nil)
/-- integer_in: word, digits -/
def b4 : M.Ss := (.cons (.set (.v 1) (.ite (.cmp .eq (.sl (.v 0) .none (.some (.k (.int 1)))) (.k (.str [45]))) (.sl (.v 0) (.some (.k (.int 1))) .none) (.v 0))) (.cons (.if_ (.or (.cmp .eq (.v 1) (.k (.str []))) (.cons (.cmp .gt (.bi .len (.cons (.v 1) .nil)) (.k (.int 2000))) (.cons (.cmp .ne (.m2 .strip (.v 1) (.g 0)) (.k (.str []))) (.cons (.and (.cmp .eq (.ix (.v 1) (.k (.int 0))) (.k (.str [48]))) (.cons (.cmp .ne (.v 0) (.k (.str [48]))) .nil)) .nil)))) (.cons (.ret (.k .non)) .nil) .nil) (.cons (.ret (.bi .int (.cons (.v 0) .nil))) .nil)))
/-- check_text: text -/
def b5 : M.Ss := (.cons (.if_ (.not (.isi (.v 0) .str)) (.cons (.raise 1 .nil) .nil) .nil) .nil)
/-- format_table: table -/
def b6 : M.Ss := (.cons (.ex (.call 3 (.cons (.v 0) .nil))) (.cons (.ret (.bin .add (.bin .add (.bi .str (.cons (.ix (.v 0) (.k (.int 0))) .nil)) (.g 1)) (.bi .str (.cons (.ix (.v 0) (.k (.int 1))) .nil)))) .nil))
/-- format_shot: shot, number -/
def b7 : M.Ss := (.cons (.if_ (.not (.call 2 (.cons (.v 0) .nil))) (.cons (.raise 2 .nil) .nil) .nil) (.cons (.ret (.m2 .join (.k (.str [32])) (.comp (.bi .str (.cons (.v 1) .nil)) (.v 1) (.seq (.v 0)) .none))) .nil))
/-- parse_table: text, found, word -/
def b8 : M.Ss := (.cons (.ex (.call 5 (.cons (.v 0) .nil))) (.cons (.set (.v 1) (.bi .tuple (.cons (.comp (.call 4 (.cons (.v 2) .nil)) (.v 2) (.seq (.m2 .split (.v 0) (.g 1))) .none) .nil))) (.cons (.if_ (.not (.call 1 (.cons (.v 1) .nil))) (.cons (.raise 1 .nil) .nil) .nil) (.cons (.ret (.v 1)) .nil))))
/-- parse_shot: text, found, word -/
def b9 : M.Ss := (.cons (.ex (.call 5 (.cons (.v 0) .nil))) (.cons (.set (.v 1) (.bi .tuple (.cons (.comp (.call 4 (.cons (.v 2) .nil)) (.v 2) (.seq (.m2 .split (.v 0) (.k (.str [32])))) .none) .nil))) (.cons (.if_ (.not (.call 2 (.cons (.v 1) .nil))) (.cons (.raise 1 .nil) .nil) .nil) (.cons (.ret (.v 1)) .nil))))
/-- _law_well: script, at, cell -/
def b10 : M.Ss := (.cons (.set (.v 2) (.ite (.cmp .lt (.v 1) (.bi .len (.cons (.v 0) .nil))) (.ix (.v 0) (.v 1)) (.k (.int 0)))) (.cons (.ret (.lst (.cons (.bi .max (.cons (.k (.int 0)) (.cons (.bin .sub (.bi .abs (.cons (.v 2) .nil)) (.bin .pow (.k (.int 10)) (.k (.int 18)))) .nil))) (.cons (.bin .add (.bin .add (.bin .mul (.bin .mod (.bi .int (.cons (.v 2) .nil)) (.bin .add (.bin .pow (.k (.int 10)) (.k (.int 37))) (.k (.int 151)))) (.k (.int 103))) (.bin .mul (.k (.int 71)) (.v 1))) (.k (.int 43))) (.cons (.k (.int 0)) .nil))))) .nil))
/-- _law_draw: well, most, blend, digit -/
def b11 : M.Ss := (.cons (.if_ (.cmp .gt (.ix (.v 0) (.k (.int 0))) (.k (.int 0))) (.cons (.set (.v 3) (.bin .mod (.bi .int (.cons (.ix (.v 0) (.k (.int 0))) .nil)) (.v 1))) (.cons (.six (.v 0) (.k (.int 0)) (.bin .fdiv (.ix (.v 0) (.k (.int 0))) (.v 1))) (.cons (.ret (.v 3)) .nil))) .nil) (.cons (.six (.v 0) (.k (.int 2)) (.bin .add (.ix (.v 0) (.k (.int 2))) (.k (.int 1)))) (.cons (.set (.v 2) (.bin .mod (.bin .pow (.bi .int (.cons (.bin .add (.ix (.v 0) (.k (.int 1))) (.bin .mul (.k (.int 961748941)) (.ix (.v 0) (.k (.int 2))))) .nil)) (.k (.int 3))) (.bin .add (.bin .pow (.k (.int 10)) (.k (.int 41))) (.k (.int 109))))) (.cons (.set (.v 2) (.bin .mod (.bin .pow (.bi .int (.cons (.bin .add (.v 2) (.bin .mul (.k (.int 217645199)) (.ix (.v 0) (.k (.int 2))))) .nil)) (.k (.int 3))) (.bin .add (.bin .pow (.k (.int 10)) (.k (.int 39))) (.k (.int 3))))) (.cons (.ret (.bin .mod (.bi .int (.cons (.bin .fdiv (.v 2) (.k (.int 1048576))) .nil)) (.v 1))) .nil)))))
/-- _law_same: found, due, k -/
def b12 : M.Ss := (.cons (.if_ (.or (.isi (.v 0) .bool) (.cons (.isi (.v 1) .bool) .nil)) (.cons (.ret (.and (.isi (.v 0) .bool) (.cons (.isi (.v 1) .bool) (.cons (.cmp .eq (.v 0) (.v 1)) .nil)))) .nil) .nil) (.cons (.if_ (.cmp .ne (.isi (.v 0) .list) (.isi (.v 1) .list)) (.cons (.ret (.k (.bl false))) .nil) .nil) (.cons (.if_ (.and (.isi2 (.v 0) .list .tuple) (.cons (.isi2 (.v 1) .list .tuple) .nil)) (.cons (.if_ (.cmp .ne (.bi .len (.cons (.v 0) .nil)) (.bi .len (.cons (.v 1) .nil))) (.cons (.ret (.k (.bl false))) .nil) .nil) (.cons (.ret (.cmp .eq (.comp (.v 2) (.v 2) (.rng (.bi .len (.cons (.v 1) .nil))) (.some (.not (.call 12 (.cons (.ix (.v 0) (.v 2)) (.cons (.ix (.v 1) (.v 2)) .nil)))))) (.lst .nil))) .nil)) .nil) (.cons (.ret (.and (.cmp .eq (.v 0) (.v 1)) (.cons (.cmp .eq (.isi (.v 0) .int) (.isi (.v 1) .int)) .nil))) .nil))))
/-- _law_desk: well, most, wide, tall -/
def b13 : M.Ss := (.cons (.set (.v 2) (.bin .add (.k (.int 1)) (.call 11 (.cons (.v 0) (.cons (.v 1) .nil))))) (.cons (.set (.v 3) (.ix (.lst (.cons (.bin .add (.k (.int 1)) (.call 11 (.cons (.v 0) (.cons (.v 1) .nil)))) (.cons (.v 2) (.cons (.bin .mul (.v 2) (.k (.int 2))) (.cons (.bin .add (.k (.int 1)) (.call 11 (.cons (.v 0) (.cons (.k (.int 4)) .nil)))) .nil))))) (.call 11 (.cons (.v 0) (.cons (.k (.int 4)) .nil))))) (.cons (.ret (.tup (.cons (.v 2) (.cons (.v 3) .nil)))) .nil)))
/-- _law_roll: well, desk, most, x, y, p, q -/
def b14 : M.Ss := (.cons (.set (.v 3) (.ix (.lst (.cons (.k (.int 0)) (.cons (.ix (.v 1) (.k (.int 0))) (.cons (.call 11 (.cons (.v 0) (.cons (.bin .add (.ix (.v 1) (.k (.int 0))) (.k (.int 1))) .nil))) .nil)))) (.bi .min (.cons (.k (.int 2)) (.cons (.call 11 (.cons (.v 0) (.cons (.k (.int 5)) .nil))) .nil))))) (.cons (.set (.v 4) (.ix (.lst (.cons (.k (.int 0)) (.cons (.ix (.v 1) (.k (.int 1))) (.cons (.call 11 (.cons (.v 0) (.cons (.bin .add (.ix (.v 1) (.k (.int 1))) (.k (.int 1))) .nil))) .nil)))) (.bi .min (.cons (.k (.int 2)) (.cons (.call 11 (.cons (.v 0) (.cons (.k (.int 5)) .nil))) .nil))))) (.cons (.par 5 6 (.bin .sub (.call 11 (.cons (.v 0) (.cons (.bin .add (.bin .mul (.k (.int 2)) (.v 2)) (.k (.int 1))) .nil))) (.v 2)) (.bin .sub (.call 11 (.cons (.v 0) (.cons (.bin .add (.bin .mul (.k (.int 2)) (.v 2)) (.k (.int 1))) .nil))) (.v 2))) (.cons (.if_ (.cmp .eq (.call 11 (.cons (.v 0) (.cons (.k (.int 8)) .nil))) (.k (.int 0))) (.cons (.set (.v 5) (.k (.int 0))) .nil) (.cons (.if_ (.cmp .eq (.call 11 (.cons (.v 0) (.cons (.k (.int 8)) .nil))) (.k (.int 0))) (.cons (.set (.v 6) (.k (.int 0))) .nil) .nil) .nil)) (.cons (.ret (.ite (.cmp .ne (.tup (.cons (.v 5) (.cons (.v 6) .nil))) (.tup (.cons (.k (.int 0)) (.cons (.k (.int 0)) .nil)))) (.tup (.cons (.v 3) (.cons (.v 4) (.cons (.v 5) (.cons (.v 6) .nil))))) (.tup (.cons (.v 3) (.cons (.v 4) (.cons (.k (.int 1)) (.cons (.k (.int 1)) .nil))))))) .nil)))))
/-- _law_figure: word, digits, sign -/
def b15 : M.Ss := (.cons (.set (.v 1) (.ite (.cmp .eq (.sl (.v 0) .none (.some (.k (.int 1)))) (.k (.str [45]))) (.sl (.v 0) (.some (.k (.int 1))) .none) (.v 0))) (.cons (.if_ (.or (.cmp .eq (.v 1) (.k (.str []))) (.cons (.cmp .ne (.comp (.v 2) (.v 2) (.seq (.v 1)) (.some (.not (.chain .le .le (.k (.str [48])) (.v 2) (.k (.str [57])))))) (.lst .nil)) .nil)) (.cons (.ret (.k .non)) .nil) .nil) (.cons (.if_ (.and (.cmp .eq (.ix (.v 1) (.k (.int 0))) (.k (.str [48]))) (.cons (.cmp .ne (.v 0) (.k (.str [48]))) .nil)) (.cons (.ret (.k .non)) .nil) .nil) (.cons (.ret (.bi .int (.cons (.v 0) .nil))) .nil))))
/-- _law_read: line, size, found, word -/
def b16 : M.Ss := (.cons (.set (.v 2) (.bi .tuple (.cons (.comp (.call 15 (.cons (.v 3) .nil)) (.v 3) (.seq (.m2 .split (.v 0) (.ite (.cmp .eq (.v 1) (.k (.int 2))) (.k (.str [120])) (.k (.str [32]))))) .none) .nil))) (.cons (.if_ (.or (.cmp .ne (.bi .len (.cons (.v 2) .nil)) (.v 1)) (.cons (.cmp .in_ (.k .non) (.v 2)) .nil)) (.cons (.ret (.k .non)) .nil) .nil) (.cons (.if_ (.cmp .eq (.v 1) (.k (.int 2))) (.cons (.ret (.ite (.and (.cmp .gt (.ix (.v 2) (.k (.int 0))) (.k (.int 0))) (.cons (.cmp .gt (.ix (.v 2) (.k (.int 1))) (.k (.int 0))) .nil)) (.v 2) (.k .non))) .nil) .nil) (.cons (.if_ (.or (.cmp .lt (.ix (.v 2) (.k (.int 0))) (.k (.int 0))) (.cons (.cmp .lt (.ix (.v 2) (.k (.int 1))) (.k (.int 0))) (.cons (.and (.cmp .eq (.ix (.v 2) (.k (.int 2))) (.k (.int 0))) (.cons (.cmp .eq (.ix (.v 2) (.k (.int 3))) (.k (.int 0))) .nil)) .nil))) (.cons (.ret (.k .non)) .nil) .nil) (.cons (.ret (.v 2)) .nil)))))
/-- _law_told: way, thing, caught, marks -/
def b17 : M.Ss := (.cons (.try_ (.cons (.if_ (.cmp .eq (.v 0) (.k (.int 0))) (.cons (.ret (.call 8 (.cons (.v 1) .nil))) .nil) .nil) (.cons (.if_ (.cmp .eq (.v 0) (.k (.int 1))) (.cons (.ret (.callk 8 .nil (.cons (.v 1) .nil) [0])) .nil) .nil) (.cons (.if_ (.cmp .eq (.v 0) (.k (.int 2))) (.cons (.ret (.call 9 (.cons (.v 1) .nil))) .nil) .nil) (.cons (.if_ (.cmp .eq (.v 0) (.k (.int 3))) (.cons (.ret (.callk 9 .nil (.cons (.v 1) .nil) [0])) .nil) .nil) (.cons (.if_ (.cmp .eq (.v 0) (.k (.int 4))) (.cons (.ret (.ite (.isi (.v 1) .tuple) (.call 6 (.cons (.v 1) .nil)) (.callk 6 .nil (.cons (.v 1) .nil) [0]))) .nil) .nil) (.cons (.ret (.ite (.isi (.v 1) .tuple) (.call 7 (.cons (.v 1) .nil)) (.callk 7 .nil (.cons (.v 1) .nil) [0]))) .nil)))))) 3 2 (.cons (.set (.v 3) (.lst (.cons (.isx (.v 2) [1]) (.cons (.isx (.v 2) [0]) .nil)))) (.cons (.ex (.mt .append (.v 3) (.cons (.isx (.v 2) [2]) .nil))) (.cons (.if_ (.or (.not (.isx (.v 2) [4])) (.cons (.cmp .ne (.mt .count (.v 3) (.cons (.k (.bl true)) .nil)) (.k (.int 1))) .nil)) (.cons (.ret (.k (.int 0))) .nil) .nil) (.cons (.ret (.ix (.lst (.cons (.lst (.cons (.k (.str [116, 101, 120, 116])) .nil)) (.cons (.lst (.cons (.k (.str [116, 97, 98, 108, 101])) .nil)) (.cons (.lst (.cons (.k (.str [115, 104, 111, 116])) .nil)) .nil)))) (.mt .index (.v 3) (.cons (.k (.bl true)) .nil)))) .nil))))) .nil)
/-- _law_longest: line, most, here, sign -/
def b18 : M.Ss := (.cons (.set (.tup [1, 2]) (.tup (.cons (.k (.int 0)) (.cons (.k (.int 0)) .nil)))) (.cons (.for_ (.v 3) (.seq (.v 0)) (.cons (.set (.v 2) (.ite (.chain .le .le (.k (.str [48])) (.v 3) (.k (.str [57]))) (.bin .add (.v 2) (.k (.int 1))) (.k (.int 0)))) (.cons (.set (.v 1) (.bi .max (.cons (.v 1) (.cons (.v 2) .nil)))) .nil))) (.cons (.ret (.v 1)) .nil)))
/-- _law_bent: well, line, spot, signs, sign, way -/
def b19 : M.Ss := (.cons (.set (.v 2) (.call 11 (.cons (.v 0) (.cons (.bin .add (.bi .len (.cons (.v 1) .nil)) (.k (.int 1))) .nil)))) (.cons (.set (.v 3) (.lst (.cons (.k (.str [32])) (.cons (.k (.str [120])) (.cons (.k (.str [45])) (.cons (.k (.str [48])) (.cons (.k (.str [49])) (.cons (.k (.str [43])) (.cons (.k (.str [95])) (.cons (.k (.str [88])) (.cons (.k (.str [97])) (.cons (.k (.str [46])) (.cons (.k (.str [9])) (.cons (.k (.str [10])) (.cons (.k (.str [32, 48])) (.cons (.k (.str [45, 48])) .nil)))))))))))))))) (.cons (.set (.v 4) (.ix (.v 3) (.call 11 (.cons (.v 0) (.cons (.k (.int 14)) .nil))))) (.cons (.set (.v 5) (.call 11 (.cons (.v 0) (.cons (.k (.int 4)) .nil)))) (.cons (.ret (.bin .add (.bin .add (.sl (.v 1) .none (.some (.v 2))) (.ix (.lst (.cons (.v 4) (.cons (.v 4) (.cons (.k (.str [])) (.cons (.sl (.v 1) (.some (.v 2)) (.some (.bin .add (.v 2) (.k (.int 2))))) .nil))))) (.v 5))) (.sl (.v 1) (.some (.bin .add (.v 2) (.ix (.lst (.cons (.k (.int 0)) (.cons (.k (.int 1)) (.cons (.k (.int 1)) (.cons (.k (.int 0)) .nil))))) (.v 5)))) .none))) .nil)))))
/-- _law_right: well, value_here, line, size, way, named, change, due -/
def b20 : M.Ss := (.cons (.set (.v 4) (.ite (.cmp .eq (.v 3) (.k (.int 2))) (.k (.int 0)) (.k (.int 2)))) (.cons (.if_ (.cmp .ne (.call 17 (.cons (.bin .add (.k (.int 4)) (.bin .fdiv (.v 4) (.k (.int 2)))) (.cons (.v 1) .nil))) (.v 2)) (.cons (.ret (.k (.bl false))) .nil) .nil) (.cons (.set (.v 5) (.ite (.cmp .eq (.v 3) (.k (.int 2))) (.callk 6 .nil (.cons (.v 1) .nil) [0]) (.callk 7 .nil (.cons (.v 1) .nil) [0]))) (.cons (.if_ (.cmp .ne (.v 5) (.v 2)) (.cons (.ret (.k (.bl false))) .nil) .nil) (.cons (.if_ (.not (.call 12 (.cons (.lst (.cons (.call 17 (.cons (.v 4) (.cons (.v 2) .nil))) (.cons (.call 17 (.cons (.bin .add (.v 4) (.k (.int 1))) (.cons (.v 2) .nil))) .nil))) (.cons (.lst (.cons (.v 1) (.cons (.v 1) .nil))) .nil)))) (.cons (.ret (.k (.bl false))) .nil) .nil) (.cons (.for_ (.v 6) (.rng (.k (.int 5))) (.cons (.set (.v 2) (.call 19 (.cons (.v 0) (.cons (.v 2) .nil)))) (.cons (.if_ (.cmp .gt (.call 18 (.cons (.v 2) .nil)) (.k (.int 40))) (.cons .brk .nil) .nil) (.cons (.set (.v 7) (.call 16 (.cons (.v 2) (.cons (.v 3) .nil)))) (.cons (.if_ (.not (.call 12 (.cons (.call 17 (.cons (.v 4) (.cons (.v 2) .nil))) (.cons (.ite (.cmp .is_ (.v 7) (.k .non)) (.lst (.cons (.k (.str [116, 101, 120, 116])) .nil)) (.v 7)) .nil)))) (.cons (.ret (.k (.bl false))) .nil) .nil) .nil))))) (.cons (.ret (.k (.bl true))) .nil)))))))
/-- _law_refused: well, desk, shot_here, odd -/
def b21 : M.Ss := (.cons (.set (.v 3) (.lst (.cons (.k .non) (.cons (.k (.int 5)) (.cons (.k (.str [])) (.cons (.k (.str [52])) (.cons (.k (.str [52, 120])) (.cons (.k (.str [120, 50])) (.cons (.k (.str [52, 120, 48])) (.cons (.k (.str [48, 52, 120, 50])) (.cons (.k (.str [52, 120, 50, 120, 49])) (.cons (.k (.str [52, 32, 120, 32, 50])) (.cons (.k (.str [52, 88, 50])) (.cons (.lst (.cons (.k (.str [52, 120, 50])) .nil)) (.cons .dic (.cons (.k (.str [45, 52, 120, 50])) .nil)))))))))))))))) (.cons (.if_ (.cmp .ne (.call 17 (.cons (.call 11 (.cons (.v 0) (.cons (.k (.int 2)) .nil))) (.cons (.ix (.v 3) (.call 11 (.cons (.v 0) (.cons (.k (.int 14)) .nil)))) .nil))) (.lst (.cons (.k (.str [116, 101, 120, 116])) .nil))) (.cons (.ret (.k (.bl false))) .nil) .nil) (.cons (.set (.v 3) (.lst (.cons (.k .non) (.cons (.k (.int 5)) (.cons (.k (.str [])) (.cons (.k (.str [48, 32, 48, 32, 48, 32, 48])) (.cons (.k (.str [49, 32, 49, 32, 49])) (.cons (.k (.str [49, 32, 49, 32, 49, 32, 49, 32, 49])) (.cons (.k (.str [45, 49, 32, 48, 32, 49, 32, 49])) (.cons (.k (.str [48, 32, 48, 32, 45, 48, 32, 49])) .nil)))))))))) (.cons (.set (.v 3) (.bin .add (.v 3) (.lst (.cons (.k (.str [48, 32, 48, 32, 48, 49, 32, 49])) (.cons (.k (.str [32, 48, 32, 48, 32, 49, 32, 49])) (.cons (.k (.str [48, 44, 48, 44, 49, 44, 49])) .nil)))))) (.cons (.if_ (.cmp .ne (.call 17 (.cons (.bin .add (.k (.int 2)) (.call 11 (.cons (.v 0) (.cons (.k (.int 2)) .nil)))) (.cons (.ix (.v 3) (.call 11 (.cons (.v 0) (.cons (.k (.int 11)) .nil)))) .nil))) (.lst (.cons (.k (.str [116, 101, 120, 116])) .nil))) (.cons (.ret (.k (.bl false))) .nil) .nil) (.cons (.set (.v 3) (.lst (.cons (.k .non) (.cons (.tup .nil) (.cons (.bi .list (.cons (.v 1) .nil)) (.cons (.tup (.cons (.k (.int 0)) (.cons (.k (.int 1)) .nil))) (.cons (.tup (.cons (.k (.int 1)) .nil)) (.cons (.tup (.cons (.k (.int 1)) (.cons (.k (.int 1)) (.cons (.k (.int 1)) .nil)))) (.cons (.k (.str [52, 120, 50])) (.cons (.k (.int 5)) (.cons .dic (.cons (.tup (.cons (.k (.bl true)) (.cons (.k (.int 1)) .nil))) .nil)))))))))))) (.cons (.if_ (.cmp .ne (.call 17 (.cons (.k (.int 4)) (.cons (.ix (.v 3) (.call 11 (.cons (.v 0) (.cons (.k (.int 10)) .nil)))) .nil))) (.lst (.cons (.k (.str [116, 97, 98, 108, 101])) .nil))) (.cons (.ret (.k (.bl false))) .nil) .nil) (.cons (.set (.v 3) (.lst (.cons (.k .non) (.cons (.tup .nil) (.cons (.bi .list (.cons (.v 2) .nil)) (.cons (.sl (.v 2) .none (.some (.k (.int 3)))) (.cons (.tup (.cons (.k (.int 1)) (.cons (.k (.int 1)) (.cons (.k (.int 0)) (.cons (.k (.int 0)) .nil))))) (.cons (.tup (.cons (.neg (.k (.int 1))) (.cons (.k (.int 1)) (.cons (.k (.int 1)) (.cons (.k (.int 1)) .nil))))) .nil)))))))) (.cons (.set (.v 3) (.bin .add (.v 3) (.lst (.cons (.k (.str [48, 32, 48, 32, 49, 32, 49])) (.cons (.k (.int 5)) (.cons .dic (.cons (.tup (.cons (.k (.int 1)) (.cons (.k (.int 1)) (.cons (.k (.bl true)) (.cons (.k (.int 1)) .nil))))) .nil))))))) (.cons (.ret (.cmp .eq (.call 17 (.cons (.k (.int 5)) (.cons (.ix (.v 3) (.call 11 (.cons (.v 0) (.cons (.k (.int 10)) .nil)))) .nil))) (.lst (.cons (.k (.str [115, 104, 111, 116])) .nil)))) .nil))))))))))
/-- law: script, at, far, well, k, desk, shot_here, x, y, p, q, line -/
def b22 : M.Ss := (.cons (.for_ (.v 1) (.rng (.bi .max (.cons (.k (.int 1)) (.cons (.bi .min (.cons (.k (.int 6)) (.cons (.bi .len (.cons (.v 0) .nil)) .nil))) .nil)))) (.cons (.set (.v 3) (.call 10 (.cons (.v 0) (.cons (.v 1) .nil)))) (.cons (.for_ (.v 4) (.rng (.k (.int 4))) (.cons (.set (.v 5) (.call 13 (.cons (.v 3) (.cons (.ix (.lst (.cons (.k (.int 9)) (.cons (.bin .pow (.k (.int 10)) (.k (.int 28))) .nil))) (.call 11 (.cons (.v 3) (.cons (.k (.int 2)) .nil)))) .nil)))) (.cons (.set (.v 6) (.call 14 (.cons (.v 3) (.cons (.v 5) (.cons (.ix (.lst (.cons (.k (.int 9)) (.cons (.bin .pow (.k (.int 10)) (.k (.int 28))) .nil))) (.call 11 (.cons (.v 3) (.cons (.k (.int 2)) .nil)))) .nil))))) (.cons (.if_ (.not (.call 20 (.cons (.v 3) (.cons (.v 5) (.cons (.bin .add (.bin .add (.bi .str (.cons (.ix (.v 5) (.k (.int 0))) .nil)) (.k (.str [120]))) (.bi .str (.cons (.ix (.v 5) (.k (.int 1))) .nil))) (.cons (.k (.int 2)) .nil)))))) (.cons (.ret (.k (.bl false))) .nil) .nil) (.cons (.set (.tup [7, 8, 9, 10]) (.v 6)) (.cons (.set (.v 11) (.bin .add (.bin .add (.bin .add (.bin .add (.bin .add (.bin .add (.bi .str (.cons (.v 7) .nil)) (.k (.str [32]))) (.bi .str (.cons (.v 8) .nil))) (.k (.str [32]))) (.bi .str (.cons (.v 9) .nil))) (.k (.str [32]))) (.bi .str (.cons (.v 10) .nil)))) (.cons (.if_ (.not (.call 20 (.cons (.v 3) (.cons (.v 6) (.cons (.v 11) (.cons (.k (.int 4)) .nil)))))) (.cons (.ret (.k (.bl false))) .nil) .nil) (.cons (.if_ (.not (.call 21 (.cons (.v 3) (.cons (.v 5) (.cons (.v 6) .nil))))) (.cons (.ret (.k (.bl false))) .nil) .nil) .nil)))))))) .nil))) (.cons (.set (.v 2) (.bin .sub (.bin .pow (.k (.int 10)) (.k (.int 40))) (.k (.int 1)))) (.cons (.if_ (.cmp .ne (.call 17 (.cons (.k (.int 0)) (.cons (.bin .add (.bin .add (.bi .str (.cons (.v 2) .nil)) (.k (.str [120]))) (.bi .str (.cons (.bin .sub (.v 2) (.k (.int 7))) .nil))) .nil))) (.tup (.cons (.v 2) (.cons (.bin .sub (.v 2) (.k (.int 7))) .nil)))) (.cons (.ret (.k (.bl false))) .nil) .nil) (.cons (.if_ (.cmp .ne (.call 17 (.cons (.k (.int 2)) (.cons (.bin .add (.bin .add (.bin .add (.bin .add (.k (.str [53, 32])) (.bi .str (.cons (.v 2) .nil))) (.k (.str [32, 45]))) (.bi .str (.cons (.v 2) .nil))) (.k (.str [32, 48]))) .nil))) (.tup (.cons (.k (.int 5)) (.cons (.v 2) (.cons (.neg (.v 2)) (.cons (.k (.int 0)) .nil)))))) (.cons (.ret (.k (.bl false))) .nil) .nil) (.cons (.ret (.cmp .eq (.call 17 (.cons (.k (.int 2)) (.cons (.k (.str [49, 32, 48, 32, 45, 49, 32, 49])) .nil))) (.tup (.cons (.k (.int 1)) (.cons (.k (.int 0)) (.cons (.neg (.k (.int 1))) (.cons (.k (.int 1)) .nil))))))) .nil)))))
/-- DIGITS -/
def c0 : M.D := (.str [48, 49, 50, 51, 52, 53, 54, 55, 56, 57])
/-- BY -/
def c1 : M.D := (.str [120])
def ncls : Nat := 3
def ancs : List (List Nat) := [[0, 3, 4], [1, 3, 4], [2, 3, 4], [3, 4]]
def sub (i j : Nat) : Bool := (ancs.getD i []).contains j
def con : Nat → M.D
  | 0 => c0
  | 1 => c1
  | _ => .non
end K31.A
namespace K31.P
open M
def fuel : Nat → M.Sp := spSameG
theorem fuel0 (ds : List M.D) (S : M.Sto) (Q : M.VK) (X : M.XK) : ¬ fuel 0 ds S Q X := fun ⟨_, _, _, h, _⟩ => h
def sp : Nat → M.Sp
  | 0 => spInt | 1 => spTab | 2 => spFree | 3 => spCkT | 4 => spIn | 5 => spCkX | 6 => spFmT | 7 => spFmS | 8 => spPsT | 9 => spPsS | 10 => spWell | 11 => spDraw | 12 => fun ds S Q X => ∃ m, m < 12 ∧ spSameG m ds S Q X | 13 => spDesk | 14 => spRoll | 15 => spFig | 16 => spRead31 | 17 => spTold31 | 18 => spLong | 19 => spBentT | 20 => spRight31 | 21 => spRefu | 22 => spLaw
  | _ => fun _ _ _ _ => False
def con := A.con
theorem body0 (G : M.Gm) (hG : G.fn = M.upto 0 sp) (hc : G.con = con) (hx : M.GX A.ncls A.sub G) : ∀ ds S0 Q X, sp 0 ds S0 Q X → ds.length = 3 ∧ M.wpSs G A.b0 (M.start 3 ds) S0 ⟨fun _ S' => Q .non S', Q, fun _ _ => False, fun k fs _ S' => X k fs S'⟩ := fun ds S0 Q X h => txt_int (b := A.b0) rfl  h
theorem body1 (G : M.Gm) (hG : G.fn = M.upto 1 sp) (hc : G.con = con) (hx : M.GX A.ncls A.sub G) : ∀ ds S0 Q X, sp 1 ds S0 Q X → ds.length = 1 ∧ M.wpSs G A.b1 (M.start 2 ds) S0 ⟨fun _ S' => Q .non S', Q, fun _ _ => False, fun k fs _ S' => X k fs S'⟩ := fun ds S0 Q X h => txt_tab (b := A.b1) rfl ((upto_at hG (by decide)).trans (rfl : sp 0 = _)) h
theorem body2 (G : M.Gm) (hG : G.fn = M.upto 2 sp) (hc : G.con = con) (hx : M.GX A.ncls A.sub G) : ∀ ds S0 Q X, sp 2 ds S0 Q X → ds.length = 1 ∧ M.wpSs G A.b2 (M.start 2 ds) S0 ⟨fun _ S' => Q .non S', Q, fun _ _ => False, fun k fs _ S' => X k fs S'⟩ := fun ds S0 Q X h => txt_free (b := A.b2) rfl ((upto_at hG (by decide)).trans (rfl : sp 0 = _)) h
theorem body3 (G : M.Gm) (hG : G.fn = M.upto 3 sp) (hc : G.con = con) (hx : M.GX A.ncls A.sub G) : ∀ ds S0 Q X, sp 3 ds S0 Q X → ds.length = 1 ∧ M.wpSs G A.b3 (M.start 1 ds) S0 ⟨fun _ S' => Q .non S', Q, fun _ _ => False, fun k fs _ S' => X k fs S'⟩ := fun ds S0 Q X h => txt_ckT (b := A.b3) rfl ((upto_at hG (by decide)).trans (rfl : sp 1 = _)) h
theorem body4 (G : M.Gm) (hG : G.fn = M.upto 4 sp) (hc : G.con = con) (hx : M.GX A.ncls A.sub G) : ∀ ds S0 Q X, sp 4 ds S0 Q X → ds.length = 1 ∧ M.wpSs G A.b4 (M.start 2 ds) S0 ⟨fun _ S' => Q .non S', Q, fun _ _ => False, fun k fs _ S' => X k fs S'⟩ := fun ds S0 Q X h => txt_intin (b := A.b4) rfl ((congrFun hc 0).trans (rfl : con 0 = _)) h
theorem body5 (G : M.Gm) (hG : G.fn = M.upto 5 sp) (hc : G.con = con) (hx : M.GX A.ncls A.sub G) : ∀ ds S0 Q X, sp 5 ds S0 Q X → ds.length = 1 ∧ M.wpSs G A.b5 (M.start 1 ds) S0 ⟨fun _ S' => Q .non S', Q, fun _ _ => False, fun k fs _ S' => X k fs S'⟩ := fun ds S0 Q X h => txt_ckX (b := A.b5) rfl  h
theorem body6 (G : M.Gm) (hG : G.fn = M.upto 6 sp) (hc : G.con = con) (hx : M.GX A.ncls A.sub G) : ∀ ds S0 Q X, sp 6 ds S0 Q X → ds.length = 1 ∧ M.wpSs G A.b6 (M.start 1 ds) S0 ⟨fun _ S' => Q .non S', Q, fun _ _ => False, fun k fs _ S' => X k fs S'⟩ := fun ds S0 Q X h => txt_fmT (b := A.b6) rfl ((congrFun hc 1).trans (rfl : con 1 = _)) ((upto_at hG (by decide)).trans (rfl : sp 3 = _)) h
theorem body7 (G : M.Gm) (hG : G.fn = M.upto 7 sp) (hc : G.con = con) (hx : M.GX A.ncls A.sub G) : ∀ ds S0 Q X, sp 7 ds S0 Q X → ds.length = 1 ∧ M.wpSs G A.b7 (M.start 2 ds) S0 ⟨fun _ S' => Q .non S', Q, fun _ _ => False, fun k fs _ S' => X k fs S'⟩ := fun ds S0 Q X h => txt_fmS (b := A.b7) rfl ((upto_at hG (by decide)).trans (rfl : sp 2 = _)) h
theorem body8 (G : M.Gm) (hG : G.fn = M.upto 8 sp) (hc : G.con = con) (hx : M.GX A.ncls A.sub G) : ∀ ds S0 Q X, sp 8 ds S0 Q X → ds.length = 1 ∧ M.wpSs G A.b8 (M.start 3 ds) S0 ⟨fun _ S' => Q .non S', Q, fun _ _ => False, fun k fs _ S' => X k fs S'⟩ := fun ds S0 Q X h => txt_psT (b := A.b8) rfl ((congrFun hc 1).trans (rfl : con 1 = _)) ((upto_at hG (by decide)).trans (rfl : sp 5 = _)) ((upto_at hG (by decide)).trans (rfl : sp 4 = _)) ((upto_at hG (by decide)).trans (rfl : sp 1 = _)) h
theorem body9 (G : M.Gm) (hG : G.fn = M.upto 9 sp) (hc : G.con = con) (hx : M.GX A.ncls A.sub G) : ∀ ds S0 Q X, sp 9 ds S0 Q X → ds.length = 1 ∧ M.wpSs G A.b9 (M.start 3 ds) S0 ⟨fun _ S' => Q .non S', Q, fun _ _ => False, fun k fs _ S' => X k fs S'⟩ := fun ds S0 Q X h => txt_psS (b := A.b9) rfl ((upto_at hG (by decide)).trans (rfl : sp 5 = _)) ((upto_at hG (by decide)).trans (rfl : sp 4 = _)) ((upto_at hG (by decide)).trans (rfl : sp 2 = _)) h
theorem body10 (G : M.Gm) (hG : G.fn = M.upto 10 sp) (hc : G.con = con) (hx : M.GX A.ncls A.sub G) : ∀ ds S0 Q X, sp 10 ds S0 Q X → ds.length = 2 ∧ M.wpSs G A.b10 (M.start 3 ds) S0 ⟨fun _ S' => Q .non S', Q, fun _ _ => False, fun k fs _ S' => X k fs S'⟩ := fun ds S0 Q X h => txt_well (b := A.b10) rfl  h
theorem body11 (G : M.Gm) (hG : G.fn = M.upto 11 sp) (hc : G.con = con) (hx : M.GX A.ncls A.sub G) : ∀ ds S0 Q X, sp 11 ds S0 Q X → ds.length = 2 ∧ M.wpSs G A.b11 (M.start 4 ds) S0 ⟨fun _ S' => Q .non S', Q, fun _ _ => False, fun k fs _ S' => X k fs S'⟩ := fun ds S0 Q X h => txt_draw (b := A.b11) rfl  h
theorem body12 (m : Nat) (G : M.Gm) (hG : G.fn = fun i => if i = 12 then fuel m else M.upto 12 sp i) (hc : G.con = con) (hx : M.GX A.ncls A.sub G) : ∀ ds S0 Q X, fuel (m + 1) ds S0 Q X → ds.length = 2 ∧ M.wpSs G A.b12 (M.start 3 ds) S0 ⟨fun _ S' => Q .non S', Q, fun _ _ => False, fun k fs _ S' => X k fs S'⟩ := fun ds S0 Q X h => txt_sameG m (b := A.b12) rfl (by rw [hG]; rfl)  h
theorem body13 (G : M.Gm) (hG : G.fn = M.upto 13 sp) (hc : G.con = con) (hx : M.GX A.ncls A.sub G) : ∀ ds S0 Q X, sp 13 ds S0 Q X → ds.length = 2 ∧ M.wpSs G A.b13 (M.start 4 ds) S0 ⟨fun _ S' => Q .non S', Q, fun _ _ => False, fun k fs _ S' => X k fs S'⟩ := fun ds S0 Q X h => txt_desk (b := A.b13) rfl ((upto_at hG (by decide)).trans (rfl : sp 11 = _)) h
theorem body14 (G : M.Gm) (hG : G.fn = M.upto 14 sp) (hc : G.con = con) (hx : M.GX A.ncls A.sub G) : ∀ ds S0 Q X, sp 14 ds S0 Q X → ds.length = 3 ∧ M.wpSs G A.b14 (M.start 7 ds) S0 ⟨fun _ S' => Q .non S', Q, fun _ _ => False, fun k fs _ S' => X k fs S'⟩ := fun ds S0 Q X h => txt_roll (b := A.b14) rfl ((upto_at hG (by decide)).trans (rfl : sp 11 = _)) h
theorem body15 (G : M.Gm) (hG : G.fn = M.upto 15 sp) (hc : G.con = con) (hx : M.GX A.ncls A.sub G) : ∀ ds S0 Q X, sp 15 ds S0 Q X → ds.length = 1 ∧ M.wpSs G A.b15 (M.start 3 ds) S0 ⟨fun _ S' => Q .non S', Q, fun _ _ => False, fun k fs _ S' => X k fs S'⟩ := fun ds S0 Q X h => txt_fig (b := A.b15) rfl  h
theorem body16 (G : M.Gm) (hG : G.fn = M.upto 16 sp) (hc : G.con = con) (hx : M.GX A.ncls A.sub G) : ∀ ds S0 Q X, sp 16 ds S0 Q X → ds.length = 2 ∧ M.wpSs G A.b16 (M.start 4 ds) S0 ⟨fun _ S' => Q .non S', Q, fun _ _ => False, fun k fs _ S' => X k fs S'⟩ := fun ds S0 Q X h => txt_read31 (b := A.b16) rfl ((upto_at hG (by decide)).trans (rfl : sp 15 = _)) h
theorem body17 (G : M.Gm) (hG : G.fn = M.upto 17 sp) (hc : G.con = con) (hx : M.GX A.ncls A.sub G) : ∀ ds S0 Q X, sp 17 ds S0 Q X → ds.length = 2 ∧ M.wpSs G A.b17 (M.start 4 ds) S0 ⟨fun _ S' => Q .non S', Q, fun _ _ => False, fun k fs _ S' => X k fs S'⟩ := fun ds S0 Q X h => txt_told31 (b := A.b17) rfl hx ((upto_at hG (by decide)).trans (rfl : sp 8 = _)) ((upto_at hG (by decide)).trans (rfl : sp 9 = _)) ((upto_at hG (by decide)).trans (rfl : sp 6 = _)) ((upto_at hG (by decide)).trans (rfl : sp 7 = _)) h
theorem body18 (G : M.Gm) (hG : G.fn = M.upto 18 sp) (hc : G.con = con) (hx : M.GX A.ncls A.sub G) : ∀ ds S0 Q X, sp 18 ds S0 Q X → ds.length = 1 ∧ M.wpSs G A.b18 (M.start 4 ds) S0 ⟨fun _ S' => Q .non S', Q, fun _ _ => False, fun k fs _ S' => X k fs S'⟩ := fun ds S0 Q X h => txt_long (b := A.b18) rfl  h
theorem body19 (G : M.Gm) (hG : G.fn = M.upto 19 sp) (hc : G.con = con) (hx : M.GX A.ncls A.sub G) : ∀ ds S0 Q X, sp 19 ds S0 Q X → ds.length = 2 ∧ M.wpSs G A.b19 (M.start 6 ds) S0 ⟨fun _ S' => Q .non S', Q, fun _ _ => False, fun k fs _ S' => X k fs S'⟩ := fun ds S0 Q X h => txt_bentT (b := A.b19) rfl ((upto_at hG (by decide)).trans (rfl : sp 11 = _)) h
theorem body20 (G : M.Gm) (hG : G.fn = M.upto 20 sp) (hc : G.con = con) (hx : M.GX A.ncls A.sub G) : ∀ ds S0 Q X, sp 20 ds S0 Q X → ds.length = 4 ∧ M.wpSs G A.b20 (M.start 8 ds) S0 ⟨fun _ S' => Q .non S', Q, fun _ _ => False, fun k fs _ S' => X k fs S'⟩ := fun ds S0 Q X h => txt_right31 (b := A.b20) rfl ((upto_at hG (by decide)).trans (rfl : sp 19 = _)) ((upto_at hG (by decide)).trans (rfl : sp 16 = _)) ((upto_at hG (by decide)).trans (rfl : sp 17 = _)) ((upto_at hG (by decide)).trans (rfl : sp 12 = _)) ((upto_at hG (by decide)).trans (rfl : sp 18 = _)) ((upto_at hG (by decide)).trans (rfl : sp 6 = _)) ((upto_at hG (by decide)).trans (rfl : sp 7 = _)) h
theorem body21 (G : M.Gm) (hG : G.fn = M.upto 21 sp) (hc : G.con = con) (hx : M.GX A.ncls A.sub G) : ∀ ds S0 Q X, sp 21 ds S0 Q X → ds.length = 3 ∧ M.wpSs G A.b21 (M.start 4 ds) S0 ⟨fun _ S' => Q .non S', Q, fun _ _ => False, fun k fs _ S' => X k fs S'⟩ := fun ds S0 Q X h => txt_refu (b := A.b21) rfl ((upto_at hG (by decide)).trans (rfl : sp 11 = _)) ((upto_at hG (by decide)).trans (rfl : sp 17 = _)) h
theorem body22 (G : M.Gm) (hG : G.fn = M.upto 22 sp) (hc : G.con = con) (hx : M.GX A.ncls A.sub G) : ∀ ds S0 Q X, sp 22 ds S0 Q X → ds.length = 1 ∧ M.wpSs G A.b22 (M.start 12 ds) S0 ⟨fun _ S' => Q .non S', Q, fun _ _ => False, fun k fs _ S' => X k fs S'⟩ := fun ds S0 Q X h => law_ok (b := A.b22) rfl ((upto_at hG (by decide)).trans (rfl : sp 10 = _)) ((upto_at hG (by decide)).trans (rfl : sp 11 = _)) ((upto_at hG (by decide)).trans (rfl : sp 13 = _)) ((upto_at hG (by decide)).trans (rfl : sp 14 = _)) ((upto_at hG (by decide)).trans (rfl : sp 20 = _)) ((upto_at hG (by decide)).trans (rfl : sp 21 = _)) ((upto_at hG (by decide)).trans (rfl : sp 17 = _)) h
end K31.P
namespace K31
open PySem PySem.Spec PyProof.Rows L2
abbrev pw : Program := PySem.Challenge.pw_cushionshots_k31_texts_of_tables_and_sho
def top (i : Nat) : Stmt := pw.main.body.getD i (.Pass ⟨0, 0, 0, 0⟩)
def T : Snd.Tb := { fns := ["is_integer", "are_table", "is_free_shot", "check_table", "integer_in", "check_text", "format_table", "format_shot", "parse_table", "parse_shot", "_law_well", "_law_draw", "_law_same", "_law_desk", "_law_roll", "_law_figure", "_law_read", "_law_told", "_law_longest", "_law_bent", "_law_right", "_law_refused", "law"], cons := ["DIGITS", "BY"], cls := ["InvalidTable", "InvalidText", "InvalidShot", "ShotError"], bts := ["ValueError", "abs", "all", "bool", "int", "isinstance", "len", "list", "max", "min", "range", "str", "tuple"], kws := [(8, 0, ["text"], [0]), (9, 0, ["text"], [0]), (6, 0, ["table"], [0]), (7, 0, ["shot"], [0])], nr := 3, hots := [] }
def n0 : List Str := ["value", "least", "most"]
theorem ck0 : Snd.chkSs { T with hot := T.hots.contains 0 } n0 A.b0 (defScope (top 6)) (defBody (top 6)) = true := by kernel_rfl
def n1 : List Str := ["value", "side"]
theorem ck1 : Snd.chkSs { T with hot := T.hots.contains 1 } n1 A.b1 (defScope (top 8)) (defBody (top 8)) = true := by kernel_rfl
def n2 : List Str := ["value", "one"]
theorem ck2 : Snd.chkSs { T with hot := T.hots.contains 2 } n2 A.b2 (defScope (top 9)) (defBody (top 9)) = true := by kernel_rfl
def n3 : List Str := ["table"]
theorem ck3 : Snd.chkSs { T with hot := T.hots.contains 3 } n3 A.b3 (defScope (top 10)) (defBody (top 10)) = true := by kernel_rfl
def n4 : List Str := ["word", "digits"]
theorem ck4 : Snd.chkSs { T with hot := T.hots.contains 4 } n4 A.b4 (defScope (top 14)) (defBody (top 14)) = true := by kernel_rfl
def n5 : List Str := ["text"]
theorem ck5 : Snd.chkSs { T with hot := T.hots.contains 5 } n5 A.b5 (defScope (top 15)) (defBody (top 15)) = true := by kernel_rfl
def n6 : List Str := ["table"]
theorem ck6 : Snd.chkSs { T with hot := T.hots.contains 6 } n6 A.b6 (defScope (top 16)) (defBody (top 16)) = true := by kernel_rfl
def n7 : List Str := ["shot", "number"]
theorem ck7 : Snd.chkSs { T with hot := T.hots.contains 7 } n7 A.b7 (defScope (top 17)) (defBody (top 17)) = true := by kernel_rfl
def n8 : List Str := ["text", "found", "word"]
theorem ck8 : Snd.chkSs { T with hot := T.hots.contains 8 } n8 A.b8 (defScope (top 18)) (defBody (top 18)) = true := by kernel_rfl
def n9 : List Str := ["text", "found", "word"]
theorem ck9 : Snd.chkSs { T with hot := T.hots.contains 9 } n9 A.b9 (defScope (top 19)) (defBody (top 19)) = true := by kernel_rfl
def n10 : List Str := ["script", "at", "cell"]
theorem ck10 : Snd.chkSs { T with hot := T.hots.contains 10 } n10 A.b10 (defScope (top 21)) (defBody (top 21)) = true := by kernel_rfl
def n11 : List Str := ["well", "most", "blend", "digit"]
theorem ck11 : Snd.chkSs { T with hot := T.hots.contains 11 } n11 A.b11 (defScope (top 22)) (defBody (top 22)) = true := by kernel_rfl
def n12 : List Str := ["found", "due", "k"]
theorem ck12 : Snd.chkSs { T with hot := T.hots.contains 12 } n12 A.b12 (defScope (top 23)) (defBody (top 23)) = true := by kernel_rfl
def n13 : List Str := ["well", "most", "wide", "tall"]
theorem ck13 : Snd.chkSs { T with hot := T.hots.contains 13 } n13 A.b13 (defScope (top 24)) (defBody (top 24)) = true := by kernel_rfl
def n14 : List Str := ["well", "desk", "most", "x", "y", "p", "q"]
theorem ck14 : Snd.chkSs { T with hot := T.hots.contains 14 } n14 A.b14 (defScope (top 25)) (defBody (top 25)) = true := by kernel_rfl
def n15 : List Str := ["word", "digits", "sign"]
theorem ck15 : Snd.chkSs { T with hot := T.hots.contains 15 } n15 A.b15 (defScope (top 26)) (defBody (top 26)) = true := by kernel_rfl
def n16 : List Str := ["line", "size", "found", "word"]
theorem ck16 : Snd.chkSs { T with hot := T.hots.contains 16 } n16 A.b16 (defScope (top 27)) (defBody (top 27)) = true := by kernel_rfl
def n17 : List Str := ["way", "thing", "caught", "marks"]
theorem ck17 : Snd.chkSs { T with hot := T.hots.contains 17 } n17 A.b17 (defScope (top 28)) (defBody (top 28)) = true := by kernel_rfl
def n18 : List Str := ["line", "most", "here", "sign"]
theorem ck18 : Snd.chkSs { T with hot := T.hots.contains 18 } n18 A.b18 (defScope (top 29)) (defBody (top 29)) = true := by kernel_rfl
def n19 : List Str := ["well", "line", "spot", "signs", "sign", "way"]
theorem ck19 : Snd.chkSs { T with hot := T.hots.contains 19 } n19 A.b19 (defScope (top 30)) (defBody (top 30)) = true := by kernel_rfl
def n20 : List Str := ["well", "value_here", "line", "size", "way", "named", "change", "due"]
theorem ck20 : Snd.chkSs { T with hot := T.hots.contains 20 } n20 A.b20 (defScope (top 31)) (defBody (top 31)) = true := by kernel_rfl
def n21 : List Str := ["well", "desk", "shot_here", "odd"]
theorem ck21 : Snd.chkSs { T with hot := T.hots.contains 21 } n21 A.b21 (defScope (top 32)) (defBody (top 32)) = true := by kernel_rfl
def n22 : List Str := ["script", "at", "far", "well", "k", "desk", "shot_here", "x", "y", "p", "q", "line"]
theorem ck22 : Snd.chkSs { T with hot := T.hots.contains 22 } n22 A.b22 (defScope (top 33)) (defBody (top 33)) = true := by kernel_rfl
def dd (x : Str) (i : Nat) : He.DefD := ⟨(x, none), x, x, defArgs (top i), defBody (top i), defScope (top i), [], []⟩
def fnl : List He.DefD := [dd "is_integer" 6, dd "are_table" 8, dd "is_free_shot" 9, dd "check_table" 10, dd "integer_in" 14, dd "check_text" 15, dd "format_table" 16, dd "format_shot" 17, dd "parse_table" 18, dd "parse_shot" 19, dd "_law_well" 21, dd "_law_draw" 22, dd "_law_same" 23, dd "_law_desk" 24, dd "_law_roll" 25, dd "_law_figure" 26, dd "_law_read" 27, dd "_law_told" 28, dd "_law_longest" 29, dd "_law_bent" 30, dd "_law_right" 31, dd "_law_refused" 32, dd "law" 33]
def fal : List He.Fa := [.glo "is_integer", .glo "are_table", .glo "is_free_shot", .glo "check_table", .glo "integer_in", .glo "check_text", .glo "format_table", .glo "format_shot", .glo "parse_table", .glo "parse_shot", .glo "_law_well", .glo "_law_draw", .glo "_law_same", .glo "_law_desk", .glo "_law_roll", .glo "_law_figure", .glo "_law_read", .glo "_law_told", .glo "_law_longest", .glo "_law_bent", .glo "_law_right", .glo "_law_refused", .glo "law", .free "ValueError", .free "abs", .free "all", .free "bool", .free "int", .free "isinstance", .free "len", .free "list", .free "max", .free "min", .free "range", .free "str", .free "tuple"]
def loose0 : List Str := ["ShotError", "InvalidTable", "InvalidShot", "InvalidText", "is_integer", "are_table", "is_free_shot", "check_table", "DIGITS", "BY", "integer_in", "check_text", "format_table", "format_shot", "parse_table", "parse_shot", "_law_well", "_law_draw", "_law_same", "_law_desk"]
def loose1 : List Str := ["_law_roll", "_law_figure", "_law_read", "_law_told", "_law_longest", "_law_bent", "_law_right", "_law_refused"]
def loose : List Str := loose0 ++ loose1
abbrev rowL : PySem.W.OpenRow := PySem.W.OpenLaw.row PySem.Challenge.rw_cushionshots_k31_texts_of_tables_and_sho
def cl : List (Str × M.D) := [("DIGITS", A.c0), ("BY", A.c1)]
abbrev hk : PySem.W.Hook := Snd.hookE 2 cl T.cls T.nr A.sub fal fnl
def ob (s : PySem.W.SharedT) : He.AlD := Snd.obsE cl T.cls T.nr A.sub fal fnl (He.frG (HandSHeadRun.getT s) (sysModules :: He.asD (HandSHeadRun.getT s) 2))
theorem ob_eq (s : PySem.W.SharedT) : ob s = hk.obs s.abs := Snd.obsE_eq (HandSHeadRun.getT_eq s)
theorem run (w : World) : HandSHeadRun.RunEq rowL (PySem.W.view rowL.prog [33]) hk ob 12000 loose w := by
  intro os
  kernel_rfl
theorem sc0 : FnScope n0 ["value", "least", "most"] (defScope (top 6)) := ⟨rfl, rfl, rfl, by decide +kernel, rfl, by decide +kernel, by decide +kernel⟩
theorem sc1 : FnScope n1 ["value"] (defScope (top 8)) := ⟨rfl, rfl, rfl, by decide +kernel, rfl, by decide +kernel, by decide +kernel⟩
theorem sc2 : FnScope n2 ["value"] (defScope (top 9)) := ⟨rfl, rfl, rfl, by decide +kernel, rfl, by decide +kernel, by decide +kernel⟩
theorem sc3 : FnScope n3 ["table"] (defScope (top 10)) := ⟨rfl, rfl, rfl, by decide +kernel, rfl, by decide +kernel, by decide +kernel⟩
theorem sc4 : FnScope n4 ["word"] (defScope (top 14)) := ⟨rfl, rfl, rfl, by decide +kernel, rfl, by decide +kernel, by decide +kernel⟩
theorem sc5 : FnScope n5 ["text"] (defScope (top 15)) := ⟨rfl, rfl, rfl, by decide +kernel, rfl, by decide +kernel, by decide +kernel⟩
theorem sc6 : FnScope n6 ["table"] (defScope (top 16)) := ⟨rfl, rfl, rfl, by decide +kernel, rfl, by decide +kernel, by decide +kernel⟩
theorem sc7 : FnScope n7 ["shot"] (defScope (top 17)) := ⟨rfl, rfl, rfl, by decide +kernel, rfl, by decide +kernel, by decide +kernel⟩
theorem sc8 : FnScope n8 ["text"] (defScope (top 18)) := ⟨rfl, rfl, rfl, by decide +kernel, rfl, by decide +kernel, by decide +kernel⟩
theorem sc9 : FnScope n9 ["text"] (defScope (top 19)) := ⟨rfl, rfl, rfl, by decide +kernel, rfl, by decide +kernel, by decide +kernel⟩
theorem sc10 : FnScope n10 ["script", "at"] (defScope (top 21)) := ⟨rfl, rfl, rfl, by decide +kernel, rfl, by decide +kernel, by decide +kernel⟩
theorem sc11 : FnScope n11 ["well", "most"] (defScope (top 22)) := ⟨rfl, rfl, rfl, by decide +kernel, rfl, by decide +kernel, by decide +kernel⟩
theorem sc12 : FnScope n12 ["found", "due"] (defScope (top 23)) := ⟨rfl, rfl, rfl, by decide +kernel, rfl, by decide +kernel, by decide +kernel⟩
theorem sc13 : FnScope n13 ["well", "most"] (defScope (top 24)) := ⟨rfl, rfl, rfl, by decide +kernel, rfl, by decide +kernel, by decide +kernel⟩
theorem sc14 : FnScope n14 ["well", "desk", "most"] (defScope (top 25)) := ⟨rfl, rfl, rfl, by decide +kernel, rfl, by decide +kernel, by decide +kernel⟩
theorem sc15 : FnScope n15 ["word"] (defScope (top 26)) := ⟨rfl, rfl, rfl, by decide +kernel, rfl, by decide +kernel, by decide +kernel⟩
theorem sc16 : FnScope n16 ["line", "size"] (defScope (top 27)) := ⟨rfl, rfl, rfl, by decide +kernel, rfl, by decide +kernel, by decide +kernel⟩
theorem sc17 : FnScope n17 ["way", "thing"] (defScope (top 28)) := ⟨rfl, rfl, rfl, by decide +kernel, rfl, by decide +kernel, by decide +kernel⟩
theorem sc18 : FnScope n18 ["line"] (defScope (top 29)) := ⟨rfl, rfl, rfl, by decide +kernel, rfl, by decide +kernel, by decide +kernel⟩
theorem sc19 : FnScope n19 ["well", "line"] (defScope (top 30)) := ⟨rfl, rfl, rfl, by decide +kernel, rfl, by decide +kernel, by decide +kernel⟩
theorem sc20 : FnScope n20 ["well", "value_here", "line", "size"] (defScope (top 31)) := ⟨rfl, rfl, rfl, by decide +kernel, rfl, by decide +kernel, by decide +kernel⟩
theorem sc21 : FnScope n21 ["well", "desk", "shot_here"] (defScope (top 32)) := ⟨rfl, rfl, rfl, by decide +kernel, rfl, by decide +kernel, by decide +kernel⟩
theorem sc22 : FnScope n22 ["script"] (defScope (top 33)) := ⟨rfl, rfl, rfl, by decide +kernel, rfl, by decide +kernel, by decide +kernel⟩
section
variable {Pg : Program} {w : World} {K : PySem.W.Frag} {mg : Str → Option Value} {base : Heap}
abbrev Fn (K : PySem.W.Frag) (x : Str) (i : Nat) (fd : FuncData) : Prop := FunD K x x (defArgs (top i)) (defBody (top i)) (defScope (top i)) [] [] (He.ga K x) fd
theorem kw0 {fd : FuncData} (F : Fn K "parse_table" 18 fd) : Snd.KB K fd ["text"] 0 ["text"] [0] := Snd.kb_of F fun _ _ _ _ _ _ us ws h1 h2 => match us, ws, h1, h2 with | [], [_], _, _ => rfl
theorem kw1 {fd : FuncData} (F : Fn K "parse_shot" 19 fd) : Snd.KB K fd ["text"] 0 ["text"] [0] := Snd.kb_of F fun _ _ _ _ _ _ us ws h1 h2 => match us, ws, h1, h2 with | [], [_], _, _ => rfl
theorem kw2 {fd : FuncData} (F : Fn K "format_table" 16 fd) : Snd.KB K fd ["table"] 0 ["table"] [0] := Snd.kb_of F fun _ _ _ _ _ _ us ws h1 h2 => match us, ws, h1, h2 with | [], [_], _, _ => rfl
theorem kw3 {fd : FuncData} (F : Fn K "format_shot" 17 fd) : Snd.KB K fd ["shot"] 0 ["shot"] [0] := Snd.kb_of F fun _ _ _ _ _ _ us ws h1 h2 => match us, ws, h1, h2 with | [], [_], _, _ => rfl
theorem df0 {fd : FuncData} (F : Fn K "is_integer" 6 fd) (g : mg "is_integer" = some (.ref (He.ga K "is_integer"))) : Snd.Def K mg T 0 "is_integer" (He.ga K "is_integer") fd ["value", "least", "most"] := ⟨g, F.kp, F.bindsN fun _ _ _ _ _ _ us hl => match us, hl with | [_, _, _], _ => rfl, fun m ks perm h => by
    have h : (0, m, ks, perm) ∈ T.kws := h
    unfold T at h
    simp only [List.mem_cons, Prod.mk.injEq, List.not_mem_nil, or_false] at h
    rcases h with ⟨h0, h1, h2, h3⟩ | ⟨h0, h1, h2, h3⟩ | ⟨h0, h1, h2, h3⟩ | ⟨h0, h1, h2, h3⟩
    · exact absurd h0 (by decide)
    · exact absurd h0 (by decide)
    · exact absurd h0 (by decide)
    · exact absurd h0 (by decide)⟩
theorem df1 {fd : FuncData} (F : Fn K "are_table" 8 fd) (g : mg "are_table" = some (.ref (He.ga K "are_table"))) : Snd.Def K mg T 1 "are_table" (He.ga K "are_table") fd ["value"] := ⟨g, F.kp, F.bindsN fun _ _ _ _ _ _ us hl => match us, hl with | [_], _ => rfl, fun m ks perm h => by
    have h : (1, m, ks, perm) ∈ T.kws := h
    unfold T at h
    simp only [List.mem_cons, Prod.mk.injEq, List.not_mem_nil, or_false] at h
    rcases h with ⟨h0, h1, h2, h3⟩ | ⟨h0, h1, h2, h3⟩ | ⟨h0, h1, h2, h3⟩ | ⟨h0, h1, h2, h3⟩
    · exact absurd h0 (by decide)
    · exact absurd h0 (by decide)
    · exact absurd h0 (by decide)
    · exact absurd h0 (by decide)⟩
theorem df2 {fd : FuncData} (F : Fn K "is_free_shot" 9 fd) (g : mg "is_free_shot" = some (.ref (He.ga K "is_free_shot"))) : Snd.Def K mg T 2 "is_free_shot" (He.ga K "is_free_shot") fd ["value"] := ⟨g, F.kp, F.bindsN fun _ _ _ _ _ _ us hl => match us, hl with | [_], _ => rfl, fun m ks perm h => by
    have h : (2, m, ks, perm) ∈ T.kws := h
    unfold T at h
    simp only [List.mem_cons, Prod.mk.injEq, List.not_mem_nil, or_false] at h
    rcases h with ⟨h0, h1, h2, h3⟩ | ⟨h0, h1, h2, h3⟩ | ⟨h0, h1, h2, h3⟩ | ⟨h0, h1, h2, h3⟩
    · exact absurd h0 (by decide)
    · exact absurd h0 (by decide)
    · exact absurd h0 (by decide)
    · exact absurd h0 (by decide)⟩
theorem df3 {fd : FuncData} (F : Fn K "check_table" 10 fd) (g : mg "check_table" = some (.ref (He.ga K "check_table"))) : Snd.Def K mg T 3 "check_table" (He.ga K "check_table") fd ["table"] := ⟨g, F.kp, F.bindsN fun _ _ _ _ _ _ us hl => match us, hl with | [_], _ => rfl, fun m ks perm h => by
    have h : (3, m, ks, perm) ∈ T.kws := h
    unfold T at h
    simp only [List.mem_cons, Prod.mk.injEq, List.not_mem_nil, or_false] at h
    rcases h with ⟨h0, h1, h2, h3⟩ | ⟨h0, h1, h2, h3⟩ | ⟨h0, h1, h2, h3⟩ | ⟨h0, h1, h2, h3⟩
    · exact absurd h0 (by decide)
    · exact absurd h0 (by decide)
    · exact absurd h0 (by decide)
    · exact absurd h0 (by decide)⟩
theorem df4 {fd : FuncData} (F : Fn K "integer_in" 14 fd) (g : mg "integer_in" = some (.ref (He.ga K "integer_in"))) : Snd.Def K mg T 4 "integer_in" (He.ga K "integer_in") fd ["word"] := ⟨g, F.kp, F.bindsN fun _ _ _ _ _ _ us hl => match us, hl with | [_], _ => rfl, fun m ks perm h => by
    have h : (4, m, ks, perm) ∈ T.kws := h
    unfold T at h
    simp only [List.mem_cons, Prod.mk.injEq, List.not_mem_nil, or_false] at h
    rcases h with ⟨h0, h1, h2, h3⟩ | ⟨h0, h1, h2, h3⟩ | ⟨h0, h1, h2, h3⟩ | ⟨h0, h1, h2, h3⟩
    · exact absurd h0 (by decide)
    · exact absurd h0 (by decide)
    · exact absurd h0 (by decide)
    · exact absurd h0 (by decide)⟩
theorem df5 {fd : FuncData} (F : Fn K "check_text" 15 fd) (g : mg "check_text" = some (.ref (He.ga K "check_text"))) : Snd.Def K mg T 5 "check_text" (He.ga K "check_text") fd ["text"] := ⟨g, F.kp, F.bindsN fun _ _ _ _ _ _ us hl => match us, hl with | [_], _ => rfl, fun m ks perm h => by
    have h : (5, m, ks, perm) ∈ T.kws := h
    unfold T at h
    simp only [List.mem_cons, Prod.mk.injEq, List.not_mem_nil, or_false] at h
    rcases h with ⟨h0, h1, h2, h3⟩ | ⟨h0, h1, h2, h3⟩ | ⟨h0, h1, h2, h3⟩ | ⟨h0, h1, h2, h3⟩
    · exact absurd h0 (by decide)
    · exact absurd h0 (by decide)
    · exact absurd h0 (by decide)
    · exact absurd h0 (by decide)⟩
theorem df6 {fd : FuncData} (F : Fn K "format_table" 16 fd) (g : mg "format_table" = some (.ref (He.ga K "format_table"))) : Snd.Def K mg T 6 "format_table" (He.ga K "format_table") fd ["table"] := ⟨g, F.kp, F.bindsN fun _ _ _ _ _ _ us hl => match us, hl with | [_], _ => rfl, fun m ks perm h => by
    have h : (6, m, ks, perm) ∈ T.kws := h
    unfold T at h
    simp only [List.mem_cons, Prod.mk.injEq, List.not_mem_nil, or_false] at h
    rcases h with ⟨h0, h1, h2, h3⟩ | ⟨h0, h1, h2, h3⟩ | ⟨h0, h1, h2, h3⟩ | ⟨h0, h1, h2, h3⟩
    · exact absurd h0 (by decide)
    · exact absurd h0 (by decide)
    · subst h1 h2 h3; exact kw2 F
    · exact absurd h0 (by decide)⟩
theorem df7 {fd : FuncData} (F : Fn K "format_shot" 17 fd) (g : mg "format_shot" = some (.ref (He.ga K "format_shot"))) : Snd.Def K mg T 7 "format_shot" (He.ga K "format_shot") fd ["shot"] := ⟨g, F.kp, F.bindsN fun _ _ _ _ _ _ us hl => match us, hl with | [_], _ => rfl, fun m ks perm h => by
    have h : (7, m, ks, perm) ∈ T.kws := h
    unfold T at h
    simp only [List.mem_cons, Prod.mk.injEq, List.not_mem_nil, or_false] at h
    rcases h with ⟨h0, h1, h2, h3⟩ | ⟨h0, h1, h2, h3⟩ | ⟨h0, h1, h2, h3⟩ | ⟨h0, h1, h2, h3⟩
    · exact absurd h0 (by decide)
    · exact absurd h0 (by decide)
    · exact absurd h0 (by decide)
    · subst h1 h2 h3; exact kw3 F⟩
theorem df8 {fd : FuncData} (F : Fn K "parse_table" 18 fd) (g : mg "parse_table" = some (.ref (He.ga K "parse_table"))) : Snd.Def K mg T 8 "parse_table" (He.ga K "parse_table") fd ["text"] := ⟨g, F.kp, F.bindsN fun _ _ _ _ _ _ us hl => match us, hl with | [_], _ => rfl, fun m ks perm h => by
    have h : (8, m, ks, perm) ∈ T.kws := h
    unfold T at h
    simp only [List.mem_cons, Prod.mk.injEq, List.not_mem_nil, or_false] at h
    rcases h with ⟨h0, h1, h2, h3⟩ | ⟨h0, h1, h2, h3⟩ | ⟨h0, h1, h2, h3⟩ | ⟨h0, h1, h2, h3⟩
    · subst h1 h2 h3; exact kw0 F
    · exact absurd h0 (by decide)
    · exact absurd h0 (by decide)
    · exact absurd h0 (by decide)⟩
theorem df9 {fd : FuncData} (F : Fn K "parse_shot" 19 fd) (g : mg "parse_shot" = some (.ref (He.ga K "parse_shot"))) : Snd.Def K mg T 9 "parse_shot" (He.ga K "parse_shot") fd ["text"] := ⟨g, F.kp, F.bindsN fun _ _ _ _ _ _ us hl => match us, hl with | [_], _ => rfl, fun m ks perm h => by
    have h : (9, m, ks, perm) ∈ T.kws := h
    unfold T at h
    simp only [List.mem_cons, Prod.mk.injEq, List.not_mem_nil, or_false] at h
    rcases h with ⟨h0, h1, h2, h3⟩ | ⟨h0, h1, h2, h3⟩ | ⟨h0, h1, h2, h3⟩ | ⟨h0, h1, h2, h3⟩
    · exact absurd h0 (by decide)
    · subst h1 h2 h3; exact kw1 F
    · exact absurd h0 (by decide)
    · exact absurd h0 (by decide)⟩
theorem df10 {fd : FuncData} (F : Fn K "_law_well" 21 fd) (g : mg "_law_well" = some (.ref (He.ga K "_law_well"))) : Snd.Def K mg T 10 "_law_well" (He.ga K "_law_well") fd ["script", "at"] := ⟨g, F.kp, F.bindsN fun _ _ _ _ _ _ us hl => match us, hl with | [_, _], _ => rfl, fun m ks perm h => by
    have h : (10, m, ks, perm) ∈ T.kws := h
    unfold T at h
    simp only [List.mem_cons, Prod.mk.injEq, List.not_mem_nil, or_false] at h
    rcases h with ⟨h0, h1, h2, h3⟩ | ⟨h0, h1, h2, h3⟩ | ⟨h0, h1, h2, h3⟩ | ⟨h0, h1, h2, h3⟩
    · exact absurd h0 (by decide)
    · exact absurd h0 (by decide)
    · exact absurd h0 (by decide)
    · exact absurd h0 (by decide)⟩
theorem df11 {fd : FuncData} (F : Fn K "_law_draw" 22 fd) (g : mg "_law_draw" = some (.ref (He.ga K "_law_draw"))) : Snd.Def K mg T 11 "_law_draw" (He.ga K "_law_draw") fd ["well", "most"] := ⟨g, F.kp, F.bindsN fun _ _ _ _ _ _ us hl => match us, hl with | [_, _], _ => rfl, fun m ks perm h => by
    have h : (11, m, ks, perm) ∈ T.kws := h
    unfold T at h
    simp only [List.mem_cons, Prod.mk.injEq, List.not_mem_nil, or_false] at h
    rcases h with ⟨h0, h1, h2, h3⟩ | ⟨h0, h1, h2, h3⟩ | ⟨h0, h1, h2, h3⟩ | ⟨h0, h1, h2, h3⟩
    · exact absurd h0 (by decide)
    · exact absurd h0 (by decide)
    · exact absurd h0 (by decide)
    · exact absurd h0 (by decide)⟩
theorem df12 {fd : FuncData} (F : Fn K "_law_same" 23 fd) (g : mg "_law_same" = some (.ref (He.ga K "_law_same"))) : Snd.Def K mg T 12 "_law_same" (He.ga K "_law_same") fd ["found", "due"] := ⟨g, F.kp, F.bindsN fun _ _ _ _ _ _ us hl => match us, hl with | [_, _], _ => rfl, fun m ks perm h => by
    have h : (12, m, ks, perm) ∈ T.kws := h
    unfold T at h
    simp only [List.mem_cons, Prod.mk.injEq, List.not_mem_nil, or_false] at h
    rcases h with ⟨h0, h1, h2, h3⟩ | ⟨h0, h1, h2, h3⟩ | ⟨h0, h1, h2, h3⟩ | ⟨h0, h1, h2, h3⟩
    · exact absurd h0 (by decide)
    · exact absurd h0 (by decide)
    · exact absurd h0 (by decide)
    · exact absurd h0 (by decide)⟩
theorem df13 {fd : FuncData} (F : Fn K "_law_desk" 24 fd) (g : mg "_law_desk" = some (.ref (He.ga K "_law_desk"))) : Snd.Def K mg T 13 "_law_desk" (He.ga K "_law_desk") fd ["well", "most"] := ⟨g, F.kp, F.bindsN fun _ _ _ _ _ _ us hl => match us, hl with | [_, _], _ => rfl, fun m ks perm h => by
    have h : (13, m, ks, perm) ∈ T.kws := h
    unfold T at h
    simp only [List.mem_cons, Prod.mk.injEq, List.not_mem_nil, or_false] at h
    rcases h with ⟨h0, h1, h2, h3⟩ | ⟨h0, h1, h2, h3⟩ | ⟨h0, h1, h2, h3⟩ | ⟨h0, h1, h2, h3⟩
    · exact absurd h0 (by decide)
    · exact absurd h0 (by decide)
    · exact absurd h0 (by decide)
    · exact absurd h0 (by decide)⟩
theorem df14 {fd : FuncData} (F : Fn K "_law_roll" 25 fd) (g : mg "_law_roll" = some (.ref (He.ga K "_law_roll"))) : Snd.Def K mg T 14 "_law_roll" (He.ga K "_law_roll") fd ["well", "desk", "most"] := ⟨g, F.kp, F.bindsN fun _ _ _ _ _ _ us hl => match us, hl with | [_, _, _], _ => rfl, fun m ks perm h => by
    have h : (14, m, ks, perm) ∈ T.kws := h
    unfold T at h
    simp only [List.mem_cons, Prod.mk.injEq, List.not_mem_nil, or_false] at h
    rcases h with ⟨h0, h1, h2, h3⟩ | ⟨h0, h1, h2, h3⟩ | ⟨h0, h1, h2, h3⟩ | ⟨h0, h1, h2, h3⟩
    · exact absurd h0 (by decide)
    · exact absurd h0 (by decide)
    · exact absurd h0 (by decide)
    · exact absurd h0 (by decide)⟩
theorem df15 {fd : FuncData} (F : Fn K "_law_figure" 26 fd) (g : mg "_law_figure" = some (.ref (He.ga K "_law_figure"))) : Snd.Def K mg T 15 "_law_figure" (He.ga K "_law_figure") fd ["word"] := ⟨g, F.kp, F.bindsN fun _ _ _ _ _ _ us hl => match us, hl with | [_], _ => rfl, fun m ks perm h => by
    have h : (15, m, ks, perm) ∈ T.kws := h
    unfold T at h
    simp only [List.mem_cons, Prod.mk.injEq, List.not_mem_nil, or_false] at h
    rcases h with ⟨h0, h1, h2, h3⟩ | ⟨h0, h1, h2, h3⟩ | ⟨h0, h1, h2, h3⟩ | ⟨h0, h1, h2, h3⟩
    · exact absurd h0 (by decide)
    · exact absurd h0 (by decide)
    · exact absurd h0 (by decide)
    · exact absurd h0 (by decide)⟩
theorem df16 {fd : FuncData} (F : Fn K "_law_read" 27 fd) (g : mg "_law_read" = some (.ref (He.ga K "_law_read"))) : Snd.Def K mg T 16 "_law_read" (He.ga K "_law_read") fd ["line", "size"] := ⟨g, F.kp, F.bindsN fun _ _ _ _ _ _ us hl => match us, hl with | [_, _], _ => rfl, fun m ks perm h => by
    have h : (16, m, ks, perm) ∈ T.kws := h
    unfold T at h
    simp only [List.mem_cons, Prod.mk.injEq, List.not_mem_nil, or_false] at h
    rcases h with ⟨h0, h1, h2, h3⟩ | ⟨h0, h1, h2, h3⟩ | ⟨h0, h1, h2, h3⟩ | ⟨h0, h1, h2, h3⟩
    · exact absurd h0 (by decide)
    · exact absurd h0 (by decide)
    · exact absurd h0 (by decide)
    · exact absurd h0 (by decide)⟩
theorem df17 {fd : FuncData} (F : Fn K "_law_told" 28 fd) (g : mg "_law_told" = some (.ref (He.ga K "_law_told"))) : Snd.Def K mg T 17 "_law_told" (He.ga K "_law_told") fd ["way", "thing"] := ⟨g, F.kp, F.bindsN fun _ _ _ _ _ _ us hl => match us, hl with | [_, _], _ => rfl, fun m ks perm h => by
    have h : (17, m, ks, perm) ∈ T.kws := h
    unfold T at h
    simp only [List.mem_cons, Prod.mk.injEq, List.not_mem_nil, or_false] at h
    rcases h with ⟨h0, h1, h2, h3⟩ | ⟨h0, h1, h2, h3⟩ | ⟨h0, h1, h2, h3⟩ | ⟨h0, h1, h2, h3⟩
    · exact absurd h0 (by decide)
    · exact absurd h0 (by decide)
    · exact absurd h0 (by decide)
    · exact absurd h0 (by decide)⟩
theorem df18 {fd : FuncData} (F : Fn K "_law_longest" 29 fd) (g : mg "_law_longest" = some (.ref (He.ga K "_law_longest"))) : Snd.Def K mg T 18 "_law_longest" (He.ga K "_law_longest") fd ["line"] := ⟨g, F.kp, F.bindsN fun _ _ _ _ _ _ us hl => match us, hl with | [_], _ => rfl, fun m ks perm h => by
    have h : (18, m, ks, perm) ∈ T.kws := h
    unfold T at h
    simp only [List.mem_cons, Prod.mk.injEq, List.not_mem_nil, or_false] at h
    rcases h with ⟨h0, h1, h2, h3⟩ | ⟨h0, h1, h2, h3⟩ | ⟨h0, h1, h2, h3⟩ | ⟨h0, h1, h2, h3⟩
    · exact absurd h0 (by decide)
    · exact absurd h0 (by decide)
    · exact absurd h0 (by decide)
    · exact absurd h0 (by decide)⟩
theorem df19 {fd : FuncData} (F : Fn K "_law_bent" 30 fd) (g : mg "_law_bent" = some (.ref (He.ga K "_law_bent"))) : Snd.Def K mg T 19 "_law_bent" (He.ga K "_law_bent") fd ["well", "line"] := ⟨g, F.kp, F.bindsN fun _ _ _ _ _ _ us hl => match us, hl with | [_, _], _ => rfl, fun m ks perm h => by
    have h : (19, m, ks, perm) ∈ T.kws := h
    unfold T at h
    simp only [List.mem_cons, Prod.mk.injEq, List.not_mem_nil, or_false] at h
    rcases h with ⟨h0, h1, h2, h3⟩ | ⟨h0, h1, h2, h3⟩ | ⟨h0, h1, h2, h3⟩ | ⟨h0, h1, h2, h3⟩
    · exact absurd h0 (by decide)
    · exact absurd h0 (by decide)
    · exact absurd h0 (by decide)
    · exact absurd h0 (by decide)⟩
theorem df20 {fd : FuncData} (F : Fn K "_law_right" 31 fd) (g : mg "_law_right" = some (.ref (He.ga K "_law_right"))) : Snd.Def K mg T 20 "_law_right" (He.ga K "_law_right") fd ["well", "value_here", "line", "size"] := ⟨g, F.kp, F.bindsN fun _ _ _ _ _ _ us hl => match us, hl with | [_, _, _, _], _ => rfl, fun m ks perm h => by
    have h : (20, m, ks, perm) ∈ T.kws := h
    unfold T at h
    simp only [List.mem_cons, Prod.mk.injEq, List.not_mem_nil, or_false] at h
    rcases h with ⟨h0, h1, h2, h3⟩ | ⟨h0, h1, h2, h3⟩ | ⟨h0, h1, h2, h3⟩ | ⟨h0, h1, h2, h3⟩
    · exact absurd h0 (by decide)
    · exact absurd h0 (by decide)
    · exact absurd h0 (by decide)
    · exact absurd h0 (by decide)⟩
theorem df21 {fd : FuncData} (F : Fn K "_law_refused" 32 fd) (g : mg "_law_refused" = some (.ref (He.ga K "_law_refused"))) : Snd.Def K mg T 21 "_law_refused" (He.ga K "_law_refused") fd ["well", "desk", "shot_here"] := ⟨g, F.kp, F.bindsN fun _ _ _ _ _ _ us hl => match us, hl with | [_, _, _], _ => rfl, fun m ks perm h => by
    have h : (21, m, ks, perm) ∈ T.kws := h
    unfold T at h
    simp only [List.mem_cons, Prod.mk.injEq, List.not_mem_nil, or_false] at h
    rcases h with ⟨h0, h1, h2, h3⟩ | ⟨h0, h1, h2, h3⟩ | ⟨h0, h1, h2, h3⟩ | ⟨h0, h1, h2, h3⟩
    · exact absurd h0 (by decide)
    · exact absurd h0 (by decide)
    · exact absurd h0 (by decide)
    · exact absurd h0 (by decide)⟩
theorem df22 {fd : FuncData} (F : Fn K "law" 33 fd) (g : mg "law" = some (.ref (He.ga K "law"))) : Snd.Def K mg T 22 "law" (He.ga K "law") fd ["script"] := ⟨g, F.kp, F.bindsN fun _ _ _ _ _ _ us hl => match us, hl with | [_], _ => rfl, fun m ks perm h => by
    have h : (22, m, ks, perm) ∈ T.kws := h
    unfold T at h
    simp only [List.mem_cons, Prod.mk.injEq, List.not_mem_nil, or_false] at h
    rcases h with ⟨h0, h1, h2, h3⟩ | ⟨h0, h1, h2, h3⟩ | ⟨h0, h1, h2, h3⟩ | ⟨h0, h1, h2, h3⟩
    · exact absurd h0 (by decide)
    · exact absurd h0 (by decide)
    · exact absurd h0 (by decide)
    · exact absurd h0 (by decide)⟩
theorem gx {G : M.Gm} {base : Heap} {k : Nat} (L : Snd.Law ⟨K, mg, T, G⟩ Pg w base k) (hs : G.sub = A.sub := by rfl) : M.GX A.ncls A.sub G := ⟨hs, fun j hj => by
  obtain ⟨C, _, e, _⟩ := L.er.at_ j _ (List.getElem?_eq_getElem (Nat.lt_of_lt_of_le (show j < T.nr from hj) (show T.nr ≤ T.cls.length by decide)))
  exact ⟨C, e hj⟩⟩
/-- what the head tells -/
theorem all (h : Heap) (X : K.In h) (G : h.Ns mainGlobals mg) (c : He.SaysD fal fnl K) (cc : Snd.consK cl K = true) (sy : Snd.sysB K = true) (ee : Snd.exK T.cls T.nr A.sub K = true) : Snd.Law ⟨K, mg, T, Snd.stage A.sub (Snd.adrs K T.cls T.nr) P.sp P.con 22⟩ Pg w base 33 := by
  obtain ⟨fd0, F0⟩ := c.def_ 0 (d := dd "is_integer" 6) rfl
  obtain ⟨fd1, F1⟩ := c.def_ 1 (d := dd "are_table" 8) rfl
  obtain ⟨fd2, F2⟩ := c.def_ 2 (d := dd "is_free_shot" 9) rfl
  obtain ⟨fd3, F3⟩ := c.def_ 3 (d := dd "check_table" 10) rfl
  obtain ⟨fd4, F4⟩ := c.def_ 4 (d := dd "integer_in" 14) rfl
  obtain ⟨fd5, F5⟩ := c.def_ 5 (d := dd "check_text" 15) rfl
  obtain ⟨fd6, F6⟩ := c.def_ 6 (d := dd "format_table" 16) rfl
  obtain ⟨fd7, F7⟩ := c.def_ 7 (d := dd "format_shot" 17) rfl
  obtain ⟨fd8, F8⟩ := c.def_ 8 (d := dd "parse_table" 18) rfl
  obtain ⟨fd9, F9⟩ := c.def_ 9 (d := dd "parse_shot" 19) rfl
  obtain ⟨fd10, F10⟩ := c.def_ 10 (d := dd "_law_well" 21) rfl
  obtain ⟨fd11, F11⟩ := c.def_ 11 (d := dd "_law_draw" 22) rfl
  obtain ⟨fd12, F12⟩ := c.def_ 12 (d := dd "_law_same" 23) rfl
  obtain ⟨fd13, F13⟩ := c.def_ 13 (d := dd "_law_desk" 24) rfl
  obtain ⟨fd14, F14⟩ := c.def_ 14 (d := dd "_law_roll" 25) rfl
  obtain ⟨fd15, F15⟩ := c.def_ 15 (d := dd "_law_figure" 26) rfl
  obtain ⟨fd16, F16⟩ := c.def_ 16 (d := dd "_law_read" 27) rfl
  obtain ⟨fd17, F17⟩ := c.def_ 17 (d := dd "_law_told" 28) rfl
  obtain ⟨fd18, F18⟩ := c.def_ 18 (d := dd "_law_longest" 29) rfl
  obtain ⟨fd19, F19⟩ := c.def_ 19 (d := dd "_law_bent" 30) rfl
  obtain ⟨fd20, F20⟩ := c.def_ 20 (d := dd "_law_right" 31) rfl
  obtain ⟨fd21, F21⟩ := c.def_ 21 (d := dd "_law_refused" 32) rfl
  obtain ⟨fd22, F22⟩ := c.def_ 22 (d := dd "law" 33) rfl
  have bts : ∀ x ∈ T.bts, mg x = none := fun x hx => by
    unfold T at hx
    simp only [List.mem_cons, List.not_mem_nil, or_false] at hx
    rcases hx with rfl | rfl | rfl | rfl | rfl | rfl | rfl | rfl | rfl | rfl | rfl | rfl | rfl
    · exact He.free_ok X G (c.fact 23 (f := .free "ValueError") rfl)
    · exact He.free_ok X G (c.fact 24 (f := .free "abs") rfl)
    · exact He.free_ok X G (c.fact 25 (f := .free "all") rfl)
    · exact He.free_ok X G (c.fact 26 (f := .free "bool") rfl)
    · exact He.free_ok X G (c.fact 27 (f := .free "int") rfl)
    · exact He.free_ok X G (c.fact 28 (f := .free "isinstance") rfl)
    · exact He.free_ok X G (c.fact 29 (f := .free "len") rfl)
    · exact He.free_ok X G (c.fact 30 (f := .free "list") rfl)
    · exact He.free_ok X G (c.fact 31 (f := .free "max") rfl)
    · exact He.free_ok X G (c.fact 32 (f := .free "min") rfl)
    · exact He.free_ok X G (c.fact 33 (f := .free "range") rfl)
    · exact He.free_ok X G (c.fact 34 (f := .free "str") rfl)
    · exact He.free_ok X G (c.fact 35 (f := .free "tuple") rfl)
  have cns : ∀ n x, T.cons[n]? = some x → ∃ u v, mg x = some u ∧ RelV v u ∧ ∀ H, Snd.RelD K H (P.con n) v := fun n x h => by
    match n, h with
    | 0, h => obtain rfl : "DIGITS" = x := Option.some.inj h; exact Snd.consK_ok X G cc (d := A.c0) (.head _)
    | 1, h => obtain rfl : "BY" = x := Option.some.inj h; exact Snd.consK_ok X G cc (d := A.c1) (.tail _ (.head _))
    | k + 2, h => cases h
  refine Snd.chain (fun n => n + (if 12 < n then 11 else 0)) (fun n => if n = 12 then 12 else 1) (fun m n h => by (try dsimp only); split <;> split <;> split <;> omega) (Snd.sysB_ok sy) (Snd.exK_ok X G rfl ee) bts cns (fun n x h => ?_) 22
  match n, h with
  | 0, h => obtain rfl : "is_integer" = x := Option.some.inj h; exact ⟨_, fd0, _, (df0 F0 (He.glo_ok X G (c.fact 0 (f := .glo "is_integer") rfl))), fun k L => Snd.fn_ok L F0 sc0 ck0 (P.body0 (Snd.stage A.sub (Snd.adrs K T.cls T.nr) P.sp P.con 0) rfl rfl (gx L))⟩
  | 1, h => obtain rfl : "are_table" = x := Option.some.inj h; exact ⟨_, fd1, _, (df1 F1 (He.glo_ok X G (c.fact 1 (f := .glo "are_table") rfl))), fun k L => Snd.fn_ok L F1 sc1 ck1 (P.body1 (Snd.stage A.sub (Snd.adrs K T.cls T.nr) P.sp P.con 1) rfl rfl (gx L))⟩
  | 2, h => obtain rfl : "is_free_shot" = x := Option.some.inj h; exact ⟨_, fd2, _, (df2 F2 (He.glo_ok X G (c.fact 2 (f := .glo "is_free_shot") rfl))), fun k L => Snd.fn_ok L F2 sc2 ck2 (P.body2 (Snd.stage A.sub (Snd.adrs K T.cls T.nr) P.sp P.con 2) rfl rfl (gx L))⟩
  | 3, h => obtain rfl : "check_table" = x := Option.some.inj h; exact ⟨_, fd3, _, (df3 F3 (He.glo_ok X G (c.fact 3 (f := .glo "check_table") rfl))), fun k L => Snd.fn_ok L F3 sc3 ck3 (P.body3 (Snd.stage A.sub (Snd.adrs K T.cls T.nr) P.sp P.con 3) rfl rfl (gx L))⟩
  | 4, h => obtain rfl : "integer_in" = x := Option.some.inj h; exact ⟨_, fd4, _, (df4 F4 (He.glo_ok X G (c.fact 4 (f := .glo "integer_in") rfl))), fun k L => Snd.fn_ok L F4 sc4 ck4 (P.body4 (Snd.stage A.sub (Snd.adrs K T.cls T.nr) P.sp P.con 4) rfl rfl (gx L))⟩
  | 5, h => obtain rfl : "check_text" = x := Option.some.inj h; exact ⟨_, fd5, _, (df5 F5 (He.glo_ok X G (c.fact 5 (f := .glo "check_text") rfl))), fun k L => Snd.fn_ok L F5 sc5 ck5 (P.body5 (Snd.stage A.sub (Snd.adrs K T.cls T.nr) P.sp P.con 5) rfl rfl (gx L))⟩
  | 6, h => obtain rfl : "format_table" = x := Option.some.inj h; exact ⟨_, fd6, _, (df6 F6 (He.glo_ok X G (c.fact 6 (f := .glo "format_table") rfl))), fun k L => Snd.fn_ok L F6 sc6 ck6 (P.body6 (Snd.stage A.sub (Snd.adrs K T.cls T.nr) P.sp P.con 6) rfl rfl (gx L))⟩
  | 7, h => obtain rfl : "format_shot" = x := Option.some.inj h; exact ⟨_, fd7, _, (df7 F7 (He.glo_ok X G (c.fact 7 (f := .glo "format_shot") rfl))), fun k L => Snd.fn_ok L F7 sc7 ck7 (P.body7 (Snd.stage A.sub (Snd.adrs K T.cls T.nr) P.sp P.con 7) rfl rfl (gx L))⟩
  | 8, h => obtain rfl : "parse_table" = x := Option.some.inj h; exact ⟨_, fd8, _, (df8 F8 (He.glo_ok X G (c.fact 8 (f := .glo "parse_table") rfl))), fun k L => Snd.fn_ok L F8 sc8 ck8 (P.body8 (Snd.stage A.sub (Snd.adrs K T.cls T.nr) P.sp P.con 8) rfl rfl (gx L))⟩
  | 9, h => obtain rfl : "parse_shot" = x := Option.some.inj h; exact ⟨_, fd9, _, (df9 F9 (He.glo_ok X G (c.fact 9 (f := .glo "parse_shot") rfl))), fun k L => Snd.fn_ok L F9 sc9 ck9 (P.body9 (Snd.stage A.sub (Snd.adrs K T.cls T.nr) P.sp P.con 9) rfl rfl (gx L))⟩
  | 10, h => obtain rfl : "_law_well" = x := Option.some.inj h; exact ⟨_, fd10, _, (df10 F10 (He.glo_ok X G (c.fact 10 (f := .glo "_law_well") rfl))), fun k L => Snd.fn_ok L F10 sc10 ck10 (P.body10 (Snd.stage A.sub (Snd.adrs K T.cls T.nr) P.sp P.con 10) rfl rfl (gx L))⟩
  | 11, h => obtain rfl : "_law_draw" = x := Option.some.inj h; exact ⟨_, fd11, _, (df11 F11 (He.glo_ok X G (c.fact 11 (f := .glo "_law_draw") rfl))), fun k L => Snd.fn_ok L F11 sc11 ck11 (P.body11 (Snd.stage A.sub (Snd.adrs K T.cls T.nr) P.sp P.con 11) rfl rfl (gx L))⟩
  | 12, h => obtain rfl : "_law_same" = x := Option.some.inj h; exact ⟨_, fd12, _, (df12 F12 (He.glo_ok X G (c.fact 12 (f := .glo "_law_same") rfl))), fun k L => Snd.rec_all (c := ⟨K, mg, T, Snd.stage A.sub (Snd.adrs K T.cls T.nr) P.sp P.con 12⟩) (B := 12) (Snd.rec_fn L (df12 F12 (He.glo_ok X G (c.fact 12 (f := .glo "_law_same") rfl))) rfl P.fuel P.fuel0 fun m k L => Snd.fn_ok L F12 sc12 ck12 (P.body12 m _ rfl rfl (gx L)))⟩
  | 13, h => obtain rfl : "_law_desk" = x := Option.some.inj h; exact ⟨_, fd13, _, (df13 F13 (He.glo_ok X G (c.fact 13 (f := .glo "_law_desk") rfl))), fun k L => Snd.fn_ok L F13 sc13 ck13 (P.body13 (Snd.stage A.sub (Snd.adrs K T.cls T.nr) P.sp P.con 13) rfl rfl (gx L))⟩
  | 14, h => obtain rfl : "_law_roll" = x := Option.some.inj h; exact ⟨_, fd14, _, (df14 F14 (He.glo_ok X G (c.fact 14 (f := .glo "_law_roll") rfl))), fun k L => Snd.fn_ok L F14 sc14 ck14 (P.body14 (Snd.stage A.sub (Snd.adrs K T.cls T.nr) P.sp P.con 14) rfl rfl (gx L))⟩
  | 15, h => obtain rfl : "_law_figure" = x := Option.some.inj h; exact ⟨_, fd15, _, (df15 F15 (He.glo_ok X G (c.fact 15 (f := .glo "_law_figure") rfl))), fun k L => Snd.fn_ok L F15 sc15 ck15 (P.body15 (Snd.stage A.sub (Snd.adrs K T.cls T.nr) P.sp P.con 15) rfl rfl (gx L))⟩
  | 16, h => obtain rfl : "_law_read" = x := Option.some.inj h; exact ⟨_, fd16, _, (df16 F16 (He.glo_ok X G (c.fact 16 (f := .glo "_law_read") rfl))), fun k L => Snd.fn_ok L F16 sc16 ck16 (P.body16 (Snd.stage A.sub (Snd.adrs K T.cls T.nr) P.sp P.con 16) rfl rfl (gx L))⟩
  | 17, h => obtain rfl : "_law_told" = x := Option.some.inj h; exact ⟨_, fd17, _, (df17 F17 (He.glo_ok X G (c.fact 17 (f := .glo "_law_told") rfl))), fun k L => Snd.fn_ok L F17 sc17 ck17 (P.body17 (Snd.stage A.sub (Snd.adrs K T.cls T.nr) P.sp P.con 17) rfl rfl (gx L))⟩
  | 18, h => obtain rfl : "_law_longest" = x := Option.some.inj h; exact ⟨_, fd18, _, (df18 F18 (He.glo_ok X G (c.fact 18 (f := .glo "_law_longest") rfl))), fun k L => Snd.fn_ok L F18 sc18 ck18 (P.body18 (Snd.stage A.sub (Snd.adrs K T.cls T.nr) P.sp P.con 18) rfl rfl (gx L))⟩
  | 19, h => obtain rfl : "_law_bent" = x := Option.some.inj h; exact ⟨_, fd19, _, (df19 F19 (He.glo_ok X G (c.fact 19 (f := .glo "_law_bent") rfl))), fun k L => Snd.fn_ok L F19 sc19 ck19 (P.body19 (Snd.stage A.sub (Snd.adrs K T.cls T.nr) P.sp P.con 19) rfl rfl (gx L))⟩
  | 20, h => obtain rfl : "_law_right" = x := Option.some.inj h; exact ⟨_, fd20, _, (df20 F20 (He.glo_ok X G (c.fact 20 (f := .glo "_law_right") rfl))), fun k L => Snd.fn_ok L F20 sc20 ck20 (P.body20 (Snd.stage A.sub (Snd.adrs K T.cls T.nr) P.sp P.con 20) rfl rfl (gx L))⟩
  | 21, h => obtain rfl : "_law_refused" = x := Option.some.inj h; exact ⟨_, fd21, _, (df21 F21 (He.glo_ok X G (c.fact 21 (f := .glo "_law_refused") rfl))), fun k L => Snd.fn_ok L F21 sc21 ck21 (P.body21 (Snd.stage A.sub (Snd.adrs K T.cls T.nr) P.sp P.con 21) rfl rfl (gx L))⟩
  | 22, h => obtain rfl : "law" = x := Option.some.inj h; exact ⟨_, fd22, _, (df22 F22 (He.glo_ok X G (c.fact 22 (f := .glo "law") rfl))), fun k L => Snd.fn_ok L F22 sc22 ck22 (P.body22 (Snd.stage A.sub (Snd.adrs K T.cls T.nr) P.sp P.con 22) rfl rfl (gx L))⟩
  | k + 23, h => cases h
end
/-- the law's def -/
theorem last {Pg : Program} {w : World} {K : PySem.W.Frag} {h : Heap} {mg : Str → Option Value} {f : Addr} (X : K.In h) (G : h.Ns mainGlobals mg) (hf : mg ("law" : Str) = some (.ref f)) (c : He.SaysD fal fnl K) (cc : Snd.consK cl K = true) (sy : Snd.sysB K = true) (ee : Snd.exK T.cls T.nr A.sub K = true) :
    ∃ fd : FuncData, (∀ (s : Shared) (v : Value), BindsTo s fd ⟨[v], []⟩ [("script", v)]) ∧ ∀ base : Heap, Snd.FnG Pg w K mg base false 34 f fd ["script"] (Snd.lift ⟨K, mg, T, Snd.stage A.sub (Snd.adrs K T.cls T.nr) P.sp P.con 22⟩ (M.cl (P.sp 22))) := by
  obtain ⟨fd, F⟩ := c.def_ 22 (d := dd "law" 33) rfl
  have e := hf.symm.trans (He.glo_ok X G (c.fact 22 (f := .glo "law") rfl))
  cases e
  have b := FunD.bindsA (ps := ["script"]) F fun _ _ _ _ _ _ us hl => match us, hl with | [_], _ => rfl
  refine ⟨fd, fun s v => b s [v] rfl, fun base => ?_⟩
  exact Snd.fn_ok (hot := false) (all h X G c cc sy ee) F sc22 ck22 (P.body22 (Snd.stage A.sub (Snd.adrs K T.cls T.nr) P.sp P.con 22) rfl rfl (gx (all (Pg := Pg) (w := w) (base := base) h X G c cc sy ee)))
end K31
open PySem PySem.W PySem.Calls PyProof.Rows
theorem PySem.Challenge.cw_cushionshots_k31_texts_of_tables_and_sho_holds : PySem.Challenge.rw_cushionshots_k31_texts_of_tables_and_sho.Holds := by
  w_on; o_law
  refine HandSHeadRun.head_any (r := OpenLaw.row PySem.Challenge.rw_cushionshots_k31_texts_of_tables_and_sho) (q := view (OpenLaw.row PySem.Challenge.rw_cushionshots_k31_texts_of_tables_and_sho).prog [33]) (H := K31.hk) (ob := K31.ob) (M := 12000) (loose := K31.loose) (d := HandSHeadRun.topDef (OpenLaw.row PySem.Challenge.rw_cushionshots_k31_texts_of_tables_and_sho).prog 33) (kwd := []) K31.ob_eq
    (by kernel_rfl) (fun s => by kernel_rfl) K31.run (by kernel_rfl) (by kernel_rfl) (by kernel_rfl) (by rfl) (by first | assumption | decide +kernel) (by decide +kernel) ⟨rfl, rfl, rfl, rfl, rfl, by decide +kernel⟩ ?hw ?hc
  case hw => w_witness2
  case hc =>
    refine Snd.walkG (l := PySem.Challenge.rw_cushionshots_k31_texts_of_tables_and_sho) (n := 63) (k := 34) (x := "script") (sp := K31.P.sp 22) rfl (by decide) (by kernel_rfl) ⟨rfl, by decide, by decide⟩ (fun ns h => ⟨ns, rfl, h, fun _ => rfl⟩) ?F
    intro w mg fa h Y G hmg0
    obtain ⟨K, KX, c⟩ := Y
    obtain ⟨c, cc, sy, ee⟩ := Snd.obsE_says c
    have hmg : mg ("law" : PySem.Str) = some (.ref fa) := by
      have e : (HandSHeadRun.topDef (OpenLaw.row PySem.Challenge.rw_cushionshots_k31_texts_of_tables_and_sho).prog 33).name = ("law" : PySem.Str) := by kernel_rfl
      rw [← e]
      exact hmg0
    obtain ⟨fd, hb, hF⟩ := K31.last (Pg := PySem.Challenge.rw_cushionshots_k31_texts_of_tables_and_sho.prog) (w := w) KX G hmg c cc sy ee
    exact ⟨K, fd, K31.T, _, KX, hb, fun base _ _ => hF base⟩
