import PyProof.Rows.All
import Wide.All
import OpenK.AllK
import Wide.FinOn
import HandS.Base
import HandS.Call
import HandS.List
import HandS.Comp
import HandS.Exc
import HandS.ExcIs
import HandS.ExcOwn
import HandS.ExcCtx
import HandS.Words
import HandS.Iter
import HandS.Zip
import HandS.IsInst
import HandS.Deep
import HandS.TupAny
import HandS.Style
import HandS.Text
import HandS.Wide
import KE.IntTextLaws
import HandS.Codes
import HandS.Conv
import KE.KTupSum
import HandS.Flt
import HandS.SortInts
import KE.KStar
import PyProof.Rows.StrRev
import KE.DatumOrd
import HandS.SortRule
import PyProof.ReprRoads
import PyProof.ReprLen
import PyProof.FitsInt
import HandS.ExcValue
import HandS.ExcField
import KE.KExcIs
import HandS.HeadHook1
import HandS.Property
import HandS.Star
import HandS.ExcInit
import KE.KSuper
import KE.GoesMore
import HandS.NoneIn
import HandS.Dict
import HandS.StrMore
import PyProof.Rows.StrSplitCount
import PyProof.StrLawsTight
import HandS.MakeKwOnly
import OpenK.KMeth
import OpenK.KMore
import KE.KOpsOwn
import PyProof.InstNe
import HandS.HeadWalk
import HandS.Hot
import HandS.Ends
import HandS.HeadEnd
import HandS.Defaults
import HandS.HeadHook2
import HandS.ClsMeth
import KE.KExcSuper
import HandS.Head0
import HandS.Head1
import HandS.Head2
import PySem.Challenge.RW_cushionshots_k43_error_classes
set_option Elab.async false
set_option linter.all false
set_option maxRecDepth 100000
set_option maxHeartbeats 0
set_option exponentiation.threshold 10000
/-! Mini: a small language of data, with weakest preconditions. -/
namespace M
abbrev Tx := List Nat
/-- data: a tuple by value, a list by its place in the store; fl: a list that is never written -/
inductive D where
  | non | bl (b : Bool) | int (i : Int) | str (x : Tx) | tup (xs : List D) | fl (xs : List D) | ref (a : Nat) | xn (c : Nat) (fs : List D)
inductive O where
  | lst (xs : List D) | dic | dct (kvs : List (Tx × D)) | ins (C : Nat) (fs : List (Tx × D))
abbrev Sto := Nat → Option O
def upd (S : Sto) (a : Nat) (o : O) : Sto := fun b => if b = a then some o else S b
abbrev Env := List (Option D)
abbrev VK := D → Sto → Prop
abbrev XK := Nat → List D → Sto → Prop
abbrev Sp := List D → Sto → VK → XK → Prop
/-- the greatest length -/
def lim : Nat := 16777216
/-- what a number may be that is multiplied -/
def big : Nat := 2 ^ 4000
def bigd : Nat := 2 ^ 8500
def sm (i : Int) : Prop := i.natAbs < big
def smd (i : Int) : Prop := i.natAbs < bigd
def br (b : Bool) (A B : Prop) : Prop := (b = true → A) ∧ (b = false → B)
inductive Bo where | add | sub | mul | fdiv | mod | pow
  deriving DecidableEq
inductive Co where | eq | ne | lt | le | gt | ge | is_ | isn | in_ | nin
  deriving DecidableEq
inductive Bi where | len | abs | int | min | max | all | any | sum | list | tuple | str | sorted | minp | sortp
  deriving DecidableEq
inductive Ty where | int | bool | tuple | list | str
  deriving DecidableEq
inductive Mt where | append | extend | count | index | pop
  deriving DecidableEq
/-- methods of texts with one argument -/
inductive Mo where | split | join | strip
  deriving DecidableEq
inductive Kc where | non | bl (b : Bool) | int (i : Int) | str (x : Tx) | unit
  deriving DecidableEq
inductive Tg where | v (i : Nat) | tup (is : List Nat) | nest (is js : List Nat)
  deriving DecidableEq
mutual
inductive Ex where
  | v (i : Nat)
  | k (c : Kc)
  | g (n : Nat)
  | bin (o : Bo) (a b : Ex)
  | neg (a : Ex)
  | not (a : Ex)
  | cmp (o : Co) (a b : Ex)
  | chain (o p : Co) (a b c : Ex)
  | and (a : Ex) (r : Es)
  | or (a : Ex) (r : Es)
  | ite (c a b : Ex)
  | tup (es : Es)
  | lst (es : Es)
  | ix (a i : Ex)
  | dix (a i : Ex)
  | sl (a : Ex) (lo hi : Oe)
  | rev (a : Ex)
  | call (f : Nat) (es : Es)
  | callk (f : Nat) (es ks : Es) (perm : List Nat)
  | rep (a : Ex)
  | bi (b : Bi) (es : Es)
  | mt (m : Mt) (a : Ex) (es : Es)
  | m2 (o : Mo) (a e : Ex)
  | isi (a : Ex) (t : Ty)
  | isi2 (a : Ex) (t u : Ty)
  | isx (a : Ex) (cs : List Nat)
  | dic
  | dct (ks : List Tx) (es : Es)
  | comp (e : Ex) (t : Tg) (it : It) (c : Oe)
  | new (k : Nat) (es : Es)
  | newk (k : Nat) (es ks : Es) (perm : List Nat)
  | fld (a : Ex) (n : Tx)
  | prp (a : Ex) (n : Tx)
  | ocl (a : Ex) (es : Es)
  | oclk (a : Ex) (ks : Es) (perm : List Nat)
  | mth (m : Tx) (a : Ex) (es : Es)
  | mthk (m : Tx) (a : Ex) (es ks : Es) (perm : List Nat)
  | mths (m : Tx) (a : Ex) (es : Es)
  | oln (a : Ex)
  | newd (k : Nat) (es : Es) (cs : List Kc)
  | callh (f : Nat) (es : Es)
  | comph (i : Nat) (e : Ex) (t : Tg) (it : It) (c : Oe)
  | oun (a : Ex)
  | oand (a b : Ex)
  | oeq (a b : Ex)
  | one (a b : Ex)
  | oin (o : Co) (a b : Ex)
  | isc (a : Ex) (k : Nat)
  | xfld (a : Ex) (n : Tx)
  | xnew (c : Nat) (n : Tx) (kw : Bool) (e : Ex)
  | xnew0 (c : Nat)
inductive Es where
  | nil | cons (e : Ex) (r : Es) | star (e : Ex) (r : Es)
inductive Oe where
  | none | some (e : Ex)
inductive It where
  | seq (e : Ex) | rng (e : Ex) | rng2 (a b : Ex) | zip (a b : Ex) | zip3 (a b c : Ex) | enum (e : Ex)
end
mutual
inductive St where
  | set (t : Tg) (e : Ex)
  | par (i j : Nat) (a b : Ex)
  | par3 (i j l : Nat) (a b c : Ex)
  | nev
  | six (a i e : Ex)
  | fset (n : Tx) (a e : Ex)
  | psx (a i : Ex) (j : Nat) (e : Ex)
  | ex (e : Ex)
  | ret (e : Ex)
  | retn
  | if_ (c : Ex) (a b : Ss)
  | while_ (c : Ex) (b : Ss)
  | for_ (t : Tg) (it : It) (b : Ss)
  | brk
  | pass
  | raise (c : Nat) (es : Es)
  | raisef (c : Nat) (n : Tx) (e : Ex)
  | try_ (b : Ss) (c i : Nat) (h : Ss)
inductive Ss where
  | nil | cons (s : St) (r : Ss)
end
/-! ### what the pieces do -/
def onB : D → (Bool → Prop) → Prop
  | .bl b, P => P b
  | _, _ => False
def onI : D → (Int → Prop) → Prop
  | .int i, P => P i
  | _, _ => False
def onC1 : Tx → (Nat → Prop) → Prop
  | [c], P => P c
  | _, _ => False
/-- one sign -/
def onC : D → (Nat → Prop) → Prop
  | .str a, P => onC1 a P
  | _, _ => False
def isNon : D → Bool
  | .non => true
  | _ => false
def b2i (b : Bool) : Int := if b then 1 else 0
def opt {α : Type} : Option α → (α → Prop) → Prop
  | some a, P => P a
  | none, _ => False
def optB {α : Type} : Option α → (α → Bool) → Bool
  | some a, P => P a
  | none, _ => false
def joinO {α : Type} : Option (Option α) → Option α
  | some (some a) => some a
  | _ => none
def look (ρ : Env) (i : Nat) : Option D := joinO ρ[i]?
def lstO : Option O → Option (List D)
  | some (.lst xs) => some xs
  | _ => none
/-- the list at a -/
def lstAt (S : Sto) (a : Nat) : Option (List D) := lstO (S a)
def lsOf (S : Sto) : D → Option (List D)
  | .ref a => lstAt S a
  | .fl xs => some xs
  | _ => none
def sqOf (S : Sto) : D → Option (List D)
  | .ref a => lstAt S a
  | .fl xs => some xs
  | .tup xs => some xs
  | _ => none
/-- are all of these data that == tells of -/
def fitL (ok : D → Bool) : List D → Bool
  | [] => true
  | x :: xs => ok x && fitL ok xs
def fit : Nat → Sto → D → Bool
  | 0, _, _ => false
  | n + 1, S, d => (match d with
    | .non => true | .bl _ => true | .int _ => true | .str x => x.all (fun c => decide (c < 1114112))
    | .tup xs => fitL (fit n S) xs
    | .fl xs => fitL (fit n S) xs
    | .ref a => optB (lstAt S a) (fitL (fit n S))
    | .xn _ _ => false)
def eqLB (eq : D → D → Bool) : List D → List D → Bool
  | [], [] => true
  | x :: xs, y :: ys => eq x y && eqLB eq xs ys
  | _, _ => false
def eqO (eq : List D → List D → Bool) : Option (List D) → Option (List D) → Bool
  | some xs, some ys => eq xs ys
  | _, _ => false
def eqB : Nat → Sto → D → D → Bool
  | 0, _, _, _ => false
  | n + 1, S, x, y => (match x, y with
    | .non, .non => true
    | .bl a, .bl b => a == b
    | .bl a, .int j => b2i a == j
    | .int i, .bl b => i == b2i b
    | .int i, .int j => i == j
    | .str a, .str b => a == b
    | .tup xs, .tup ys => eqLB (eqB n S) xs ys
    | .ref a, y => eqO (eqLB (eqB n S)) (lstAt S a) (lsOf S y)
    | .fl xs, y => eqO (eqLB (eqB n S)) (some xs) (lsOf S y)
    | _, _ => false)
/-- the locals at the entry -/
def start (n : Nat) (ds : List D) : Env := ds.map some ++ List.replicate (n - ds.length) none
abbrev dep : Nat := 8
def ixN (n : Nat) (i : Int) : Option Nat := if 0 ≤ i then (if i < n then some i.toNat else none) else if -(n : Int) ≤ i then some (i + n).toNat else none
def atI {α : Type} (xs : List α) (i : Int) : Option α := (ixN xs.length i).bind fun j => xs[j]?
def sIx (n d : Nat) : Option Int → Nat
  | none => d
  | some v => if v < 0 then (v + n).toNat else min v.toNat n
def cut {α : Type} (xs : List α) (lo hi : Option Int) : List α := (xs.drop (sIx xs.length 0 lo)).take (sIx xs.length xs.length hi - sIx xs.length 0 lo)
/-- a new list -/
def mkL (xs : List D) (S : Sto) (Q : VK) : Prop := xs.length ≤ lim ∧ ∀ p, S p = none → Q (.ref p) (upd S p (.lst xs))
def binD : Bo → D → D → Sto → VK → Prop
  | .add, x, y, S, Q => (match x, y with
    | .int i, .int j => Q (.int (i + j)) S
    | .str a, .str b => a.length + b.length ≤ lim ∧ Q (.str (a ++ b)) S
    | .tup a, .tup b => a.length + b.length ≤ lim ∧ Q (.tup (a ++ b)) S
    | .ref a, .ref b => opt (lstAt S a) fun xs => opt (lstAt S b) fun ys => mkL (xs ++ ys) S Q
    | _, _ => False)
  | .sub, x, y, S, Q => onI x fun i => onI y fun j => Q (.int (i - j)) S
  | .mul, x, y, S, Q => (match x, y with
    | .int i, .int j => sm i ∧ sm j ∧ Q (.int (i * j)) S
    | .ref a, .int k => opt (lstAt S a) fun xs => 0 ≤ k ∧ k < 1000 ∧ mkL ((List.replicate k.toNat xs).flatten) S Q
    | _, _ => False)
  | .fdiv, x, y, S, Q => onI x fun i => onI y fun j => j ≠ 0 ∧ smd j ∧ Q (.int (i.fdiv j)) S
  | .mod, x, y, S, Q => onI x fun i => onI y fun j => j ≠ 0 ∧ Q (.int (i.fmod j)) S
  | .pow, x, y, S, Q => onI x fun i => onI y fun j => sm i ∧ 0 ≤ j ∧ j ≤ 1000 ∧ Q (.int (i ^ j.toNat)) S
def inB (S : Sto) (x : D) (ys : List D) : Bool := ys.any fun y => eqB dep S y x
/-- texts in their order -/
def leT (a b : Tx) : Bool := !decide (b < a)
def cmpD : Co → D → D → Sto → (Bool → Prop) → Prop
  | .lt, x, y, _, Q => onI x fun i => onI y fun j => Q (decide (i < j))
  | .le, x, y, _, Q => (match x, y with
    | .str a, .str b => Q (leT a b)
    | x, y => onI x fun i => onI y fun j => Q (decide (i ≤ j)))
  | .gt, x, y, _, Q => onI x fun i => onI y fun j => Q (decide (j < i))
  | .ge, x, y, _, Q => onI x fun i => onI y fun j => Q (decide (j ≤ i))
  | .eq, x, y, S, Q => (match x, y with
    | .str a, .str b => Q (a == b)
    | x, y => fit dep S x = true ∧ fit dep S y = true ∧ Q (eqB dep S x y))
  | .ne, x, y, S, Q => (match x, y with
    | .str a, .str b => Q (!(a == b))
    | x, y => fit dep S x = true ∧ fit dep S y = true ∧ Q (!eqB dep S x y))
  | .is_, x, y, _, Q => (match y with
    | .non => Q (isNon x)
    | .bl b => onB x fun a => Q (a == b)
    | _ => False)
  | .isn, x, y, _, Q => (match y with
    | .non => Q (!isNon x)
    | .bl b => onB x fun a => Q (!(a == b))
    | _ => False)
  | .in_, x, y, S, Q => (match y with
    | .str b => onC x fun c => Q (b.contains c)
    | y => opt (sqOf S y) fun ys => fit dep S x = true ∧ fitL (fit dep S) ys = true ∧ Q (inB S x ys))
  | .nin, x, y, S, Q => (match y with
    | .str b => onC x fun c => Q (!b.contains c)
    | y => opt (sqOf S y) fun ys => fit dep S x = true ∧ fitL (fit dep S) ys = true ∧ Q (!inB S x ys))
def ixD (x i : D) (S : Sto) (Q : VK) : Prop := match i with
  | .int k => (match x with
    | .str a => a.length ≤ lim ∧ opt (atI a k) fun c => Q (.str [c]) S
    | x => opt (sqOf S x) fun xs => opt (atI xs k) fun d => Q d S)
  | _ => False
def slD (x : D) (lo hi : Option Int) (S : Sto) (Q : VK) : Prop := match x with
  | .str a => a.length ≤ lim ∧ Q (.str (cut a lo hi)) S
  | .tup xs => Q (.tup (cut xs lo hi)) S
  | x => opt (lsOf S x) fun xs => ∀ p, S p = none → Q (.ref p) (upd S p (.lst (cut xs lo hi)))
def revD (x : D) (S : Sto) (Q : VK) : Prop := match x with
  | .tup xs => Q (.tup xs.reverse) S
  | .str a => a.length ≤ lim ∧ Q (.str a.reverse) S
  | x => opt (lsOf S x) fun xs => ∀ p, S p = none → Q (.ref p) (upd S p (.lst xs.reverse))
def intsD : List D → Option (List Int)
  | [] => some []
  | .int i :: r => (intsD r).map (i :: ·)
  | _ => none
def bools : List D → Option (List Bool)
  | [] => some []
  | .bl i :: r => (bools r).map (i :: ·)
  | _ => none
def minL : Int → List Int → Int
  | m, [] => m
  | m, i :: r => minL (if i < m then i else m) r
def maxL : Int → List Int → Int
  | m, [] => m
  | m, i :: r => maxL (if m < i then i else m) r
/-- decimal digits -/
def txI (i : Int) : Tx := (toString i).toList.map Char.toNat
def arg1 : List D → (D → Prop) → Prop
  | [x], P => P x
  | _, _ => False
def lenD (x : D) (S : Sto) (Q : VK) : Prop := match x with
  | .str a => a.length ≤ lim ∧ Q (.int a.length) S
  | x => opt (sqOf S x) fun xs => Q (.int xs.length) S
def onCons : List Int → (Int → List Int → Prop) → Prop
  | i :: r, P => P i r
  | [], _ => False
/-- the number that digits write, maybe behind a minus -/
def digB (c : Nat) : Bool := decide (48 ≤ c) && decide (c ≤ 57)
def valT (cs : Tx) : Nat := cs.foldl (fun n c => n * 10 + (c - 48)) 0
def numT : Tx → Option Int
  | [] => none
  | c :: r => if c = 45 then (if !r.isEmpty && r.all digB then some (-((valT r : Nat) : Int)) else none) else (if (c :: r).all digB then some ((valT (c :: r) : Nat) : Int) else none)
def intD (x : D) (S : Sto) (Q : VK) : Prop := match x with
  | .int i => Q (.int i) S
  | .bl b => Q (.int (b2i b)) S
  | .str x => opt (numT x) fun n => x.length ≤ 640 ∧ Q (.int n) S
  | _ => False
/-- pairs of numbers -/
def prV (p : Int × Int) : D := .tup [.int p.1, .int p.2]
def prsD : List D → Option (List (Int × Int))
  | [] => some []
  | .tup [.int i, .int j] :: r => (prsD r).map ((i, j) :: ·)
  | _ => none
def ltP (p q : Int × Int) : Bool := if p.1 = q.1 then decide (p.2 < q.2) else decide (p.1 < q.1)
def minP : Int × Int → List (Int × Int) → Int × Int
  | m, [] => m
  | m, i :: r => minP (if ltP i m then i else m) r
def onConsP : List (Int × Int) → (Int × Int → List (Int × Int) → Prop) → Prop
  | i :: r, P => P i r
  | [], _ => False
def biD : Bi → List D → Sto → VK → Prop
  | .len, ds, S, Q => arg1 ds fun x => lenD x S Q
  | .abs, ds, S, Q => arg1 ds fun x => onI x fun i => Q (.int (if i < 0 then -i else i)) S
  | .int, ds, S, Q => arg1 ds fun x => intD x S Q
  | .min, ds, S, Q => (match ds with
    | [x] => opt (lsOf S x) fun xs => opt (intsD xs) fun is => onCons is fun i r => Q (.int (minL i r)) S
    | [x, y] => onI x fun i => onI y fun j => Q (.int (if j < i then j else i)) S
    | _ => False)
  | .max, ds, S, Q => (match ds with
    | [x] => opt (lsOf S x) fun xs => opt (intsD xs) fun is => onCons is fun i r => Q (.int (maxL i r)) S
    | [x, y] => onI x fun i => onI y fun j => Q (.int (if j > i then j else i)) S
    | [x, y, z] => onI x fun i => onI y fun j => onI z fun k => Q (.int (if k > (if j > i then j else i) then k else (if j > i then j else i))) S
    | _ => False)
  | .all, ds, S, Q => arg1 ds fun x => opt (lsOf S x) fun xs => opt (bools xs) fun bs => Q (.bl (bs.all id)) S
  | .any, ds, S, Q => arg1 ds fun x => opt (lsOf S x) fun xs => opt (bools xs) fun bs => Q (.bl (bs.any id)) S
  | .sum, ds, S, Q => arg1 ds fun x => opt (sqOf S x) fun xs => opt (intsD xs) fun is => Q (.int is.sum) S
  | .list, ds, S, Q => arg1 ds fun x => opt (sqOf S x) fun xs => ∀ p, S p = none → Q (.ref p) (upd S p (.lst xs))
  | .tuple, ds, S, Q => arg1 ds fun x => opt (sqOf S x) fun xs => Q (.tup xs) S
  | .str, ds, S, Q => arg1 ds fun x => onI x fun i => i.natAbs.log2 < 1920 ∧ Q (.str (txI i)) S
  | .minp, ds, S, Q => arg1 ds fun x => opt (lsOf S x) fun xs => opt (prsD xs) fun ps => onConsP ps fun p r => Q (prV (minP p r)) S
  | .sortp, ds, S, Q => arg1 ds fun x => opt (lsOf S x) fun xs => opt (prsD xs) fun ps => ∀ qs : List (Int × Int), qs.Perm ps → qs.Pairwise (fun p q => ltP q p = false) → ∀ p, S p = none → Q (.ref p) (upd S p (.lst (qs.map prV)))
  | .sorted, ds, S, Q => arg1 ds fun x => opt (lsOf S x) fun xs => opt (intsD xs) fun is => ∀ js : List Int, js.Perm is → js.Pairwise (· ≤ ·) → ∀ p, S p = none → Q (.ref p) (upd S p (.lst (js.map .int)))
/-- texts -/
def onS : D → (Tx → Prop) → Prop
  | .str x, P => P x
  | _, _ => False
def strsD : List D → Option (List Tx)
  | [] => some []
  | .str x :: r => (strsD r).map (x :: ·)
  | _ => none
def joinT (s : Tx) : List Tx → Tx
  | [] => []
  | [x] => x
  | x :: r => x ++ s ++ joinT s r
def splitT (c : Nat) : Tx → List Tx
  | [] => [[]]
  | d :: r => if d = c then [] :: splitT c r else (match splitT c r with
    | [] => [[d]]
    | w :: ws => (d :: w) :: ws)
/-- a dict's value at a text -/
def dctO : Option O → Option (List (Tx × D))
  | some (.dct kvs) => some kvs
  | _ => none
def dixD (x y : D) (S : Sto) (Q : VK) : Prop := match x with
  | .ref a => onS y fun k => opt (dctO (S a)) fun kvs => opt (kvs.lookup k) fun d => Q d S
  | _ => False
def m2D : Mo → Tx → D → Sto → VK → Prop
  | .split, a, y, S, Q => onS y fun b => onC1 b fun c => a.length + 2 ≤ lim ∧ ∀ p, S p = none → Q (.ref p) (upd S p (.lst ((splitT c a).map .str)))
  | .strip, a, y, S, Q => onS y fun b => a.length ≤ lim ∧ ∀ r : Tx, r.length ≤ a.length → (r = [] ↔ ∀ c ∈ a, c ∈ b) → Q (.str r) S
  | .join, a, y, S, Q => opt (sqOf S y) fun xs => opt (strsD xs) fun ts => (ts.map (·.length)).sum + ts.length * a.length ≤ lim ∧ Q (.str (joinT a ts)) S
/-- the first place of b -/
def ixB (b : Bool) : List Bool → Option Nat
  | [] => none
  | c :: r => if c = b then some 0 else (ixB b r).map (· + 1)
/-- an error -/
def onP : D → (D → D → Prop) → Prop
  | .tup [x, y], P => P x y
  | _, _ => False
def onX : D → (Nat → Prop) → Prop
  | .xn C _, P => P C
  | _, _ => False
/-- an error's field -/
def onF : D → Tx → (D → Prop) → Prop
  | .xn _ [_, .str m, x], n, P => m = n ∧ P x
  | _, _, _ => False
/-- o.m(..) -/
def onR : D → (Nat → Prop) → Prop
  | .ref a, P => P a
  | _, _ => False
def ixT (t : Tx) : List Tx → Option Nat
  | [] => none
  | c :: r => if c = t then some 0 else (ixT t r).map (· + 1)
def mtD : Mt → D → List D → Sto → VK → Prop
  | .append, x, ds, S, Q => onR x fun a => arg1 ds fun d => opt (lstAt S a) fun xs => xs.length < lim ∧ Q .non (upd S a (.lst (xs ++ [d])))
  | .extend, x, ds, S, Q => onR x fun a => arg1 ds fun y => onR y fun b => opt (lstAt S a) fun xs => opt (lstAt S b) fun ys => xs.length + ys.length ≤ lim ∧ Q .non (upd S a (.lst (xs ++ ys)))
  | .pop, x, ds, S, Q => onR x fun a => (match ds with
    | [] => opt (lstAt S a) fun xs => opt xs[xs.length - 1]? fun d => Q d (upd S a (.lst xs.dropLast))
    | [y] => onI y fun i => opt (lstAt S a) fun xs => -(2 ^ 63) ≤ i ∧ i < 2 ^ 63 ∧ opt (ixN xs.length i) fun j => opt xs[j]? fun d => Q d (upd S a (.lst (xs.eraseIdx j)))
    | _ => False)
  | .count, x, ds, S, Q => arg1 ds fun y => (match y with
    | .str t => opt (lsOf S x) fun xs => opt (strsD xs) fun ts => Q (.int ((ts.count t : Nat) : Int)) S
    | y => onB y fun b => opt (lsOf S x) fun xs => opt (bools xs) fun bs => Q (.int ((bs.count b : Nat) : Int)) S)
  | .index, x, ds, S, Q => arg1 ds fun y => (match y with
    | .str t => opt (lsOf S x) fun xs => opt (strsD xs) fun ts => opt (ixT t ts) fun j => Q (.int ((j : Nat) : Int)) S
    | y => onB y fun b => opt (lsOf S x) fun xs => opt (bools xs) fun bs => opt (ixB b bs) fun j => Q (.int ((j : Nat) : Int)) S)
def tyO : Option O → Ty → Option Bool
  | some (.lst _), t => some (decide (t = .list))
  | some .dic, _ => some false
  | some (.dct _), _ => some false
  | some (.ins _ _), _ => some false
  | none, _ => none
def isTy (S : Sto) : D → Ty → Option Bool
  | .non, _ => some false
  | .bl _, t => some (decide (t = .bool) || decide (t = .int))
  | .int _, t => some (decide (t = .int))
  | .str _, t => some (decide (t = .str))
  | .tup _, t => some (decide (t = .tuple))
  | .fl _, t => some (decide (t = .list))
  | .ref a, t => tyO (S a) t
  | .xn _ _, _ => none
def kcD : Kc → D
  | .non => .non | .bl b => .bl b | .int i => .int i | .str x => .str x | .unit => .tup []
def setAll : List Nat → List D → Env → Env
  | i :: is, d :: ds, ρ => setAll is ds (ρ.set i (some d))
  | _, _, ρ => ρ
def asg (t : Tg) (d : D) (S : Sto) (ρ : Env) (Q : Env → Prop) : Prop := match t with
  | .v i => Q (ρ.set i (some d))
  | .tup is => (match d with
    | .tup xs => xs.length = is.length ∧ Q (setAll is xs ρ)
    | d => opt (lsOf S d) fun xs => xs.length = is.length ∧ Q (setAll is xs ρ))
  | .nest is js => (match d with
    | .tup (.tup xs :: ys) => xs.length = is.length ∧ ys.length = js.length ∧ Q (setAll js ys (setAll is xs ρ))
    | _ => False)
def tgs : Tg → List Nat
  | .v i => [i]
  | .tup is => is
  | .nest is js => is ++ js
def wipe (ρ : Env) : List Nat → Env
  | [] => ρ
  | i :: is => (wipe ρ is).set i none
/-- o[i] = d -/
def sixD (x i d : D) (S : Sto) (Q : Sto → Prop) : Prop := onR x fun a => onI i fun k => opt (lstAt S a) fun xs => opt (ixN xs.length k) fun j => Q (upd S a (.lst (xs.set j d)))
/-- what is walked -/
abbrev IK := List D → (Sto → Prop) → Sto → Prop
def seqD (x : D) (S : Sto) (R : IK) : Prop := match x with
  | .ref a => opt (lstAt S a) fun xs => R xs (fun S' => S' a = some (.lst xs)) S
  | .fl xs => R xs (fun _ => True) S
  | .tup xs => R xs (fun _ => True) S
  | .str a => R (a.map fun c => .str [c]) (fun _ => True) S
  | _ => False
def zipP (xs ys : List D) : List D := (xs.zip ys).map fun p => .tup [p.1, p.2]
def zipD (x y : D) (S : Sto) (R : IK) : Prop := match x, y with
  | .tup xs, .tup ys => R (zipP xs ys) (fun _ => True) S
  | .str a, .tup ys => R (zipP (a.map fun c => .str [c]) ys) (fun _ => True) S
  | x, y => opt (lsOf S x) fun xs => opt (lsOf S y) fun ys => R (zipP xs ys) (fun S' => lsOf S' x = some xs ∧ lsOf S' y = some ys) S
def zipP3 (xs ys zs : List D) : List D := (xs.zip (ys.zip zs)).map fun p => .tup [p.1, p.2.1, p.2.2]
def zip3D (x y z : D) (S : Sto) (R : IK) : Prop := match x, y, z with
  | .tup xs, .tup ys, .tup zs => R (zipP3 xs ys zs) (fun _ => True) S
  | _, _, _ => False
def rngD (lo hi : Int) (S : Sto) (R : IK) : Prop := -(2 ^ 62) ≤ lo ∧ lo < 2 ^ 62 ∧ -(2 ^ 62) ≤ hi ∧ hi < 2 ^ 62 ∧ R ((List.range (hi - lo).toNat).map fun i => .int (lo + (i : Nat))) (fun _ => True) S
def enumL : Nat → List D → List D
  | _, [] => []
  | n, d :: ds => .tup [.int n, d] :: enumL (n + 1) ds
def enumD (x : D) (S : Sto) (R : IK) : Prop := opt (lsOf S x) fun xs => R (enumL 0 xs) (fun S' => lsOf S' x = some xs) S
def forW (chk : Sto → Prop) (step : D → Env → Sto → (Env → Sto → Prop) → Prop) (nx : Env → Sto → Prop) : List D → Env → Sto → Prop
  | [], ρ, S => chk S ∧ nx ρ S
  | d :: ds, ρ, S => chk S ∧ step d ρ S (forW chk step nx ds)
def whileN (step : Env → Sto → (Env → Sto → Prop) → Prop) : Nat → Env → Sto → Prop
  | 0, _, _ => False
  | n + 1, ρ, S => step ρ S (whileN step n)
def compW (chk : Sto → Prop) (step : D → Sto → (Option D → Sto → Prop) → Prop) (Q : VK) : List D → List D → Sto → Prop
  | [], acc, S => chk S ∧ ∀ p, S p = none → Q (.ref p) (upd S p (.lst acc))
  | d :: ds, acc, S => chk S ∧ step d S fun r S1 => compW chk step Q ds (acc ++ r.toList) S1
/-- a promise, with more wanted than it says -/
def cl (sp : Sp) : Sp := fun ds S Q X => ∃ (Q0 : VK) (X0 : XK), sp ds S Q0 X0 ∧ (∀ d S, Q0 d S → Q d S) ∧ (∀ c fs S, X0 c fs S → X c fs S)
theorem cl_of {sp : Sp} {ds : List D} {S : Sto} {Q : VK} {X : XK} (h : sp ds S Q X) : cl sp ds S Q X := ⟨Q, X, h, fun _ _ x => x, fun _ _ _ x => x⟩
/-- what a text of a value tells -/
inductive P where
  | non | bl (b : Bool) | int (i : Int) | str (x : Tx) | tup (xs : List P) | lst (xs : List P) | dic | dct (kvs : List (Tx × P))
def toQ : Nat → Sto → D → P
  | 0, _, _ => .non
  | n + 1, S, d => (match d with
    | .non => .non
    | .bl b => .bl b
    | .int i => .int i
    | .str x => .str x
    | .tup xs => .tup (xs.map (toQ n S))
    | .fl xs => .lst (xs.map (toQ n S))
    | .ref a => (match S a with
      | some (.lst xs) => .lst (xs.map (toQ n S))
      | some (.dct kvs) => .dct (kvs.map fun p => (p.1, toQ n S p.2))
      | _ => .dic)
    | .xn _ _ => .non)
def bigr : Nat := 2 ^ 1900
def smr (i : Int) : Prop := i.natAbs < bigr
def fitR : Nat → Sto → D → Prop
  | 0, _, _ => False
  | n + 1, S, d => (match d with
    | .non => True
    | .bl _ => True
    | .int i => smr i
    | .str x => ∀ c ∈ x, c < 1114112
    | .tup xs => ∀ y ∈ xs, fitR n S y
    | .fl xs => ∀ y ∈ xs, fitR n S y
    | .ref a => opt (lstAt S a) fun xs => ∀ y ∈ xs, fitR n S y
    | .xn _ _ => False)
def isDic : Option O → Prop
  | some .dic => True
  | _ => False
def isDicD (S : Sto) : D → Prop
  | .ref a => isDic (S a)
  | _ => False
/-- with dicts within -/
def fitO (f : D → Prop) : Option O → Prop
  | some (.lst xs) => ∀ y ∈ xs, f y
  | some .dic => True
  | some (.dct kvs) => kvs.length < 1000 ∧ ∀ p ∈ kvs, (∀ c ∈ p.1, c < 1114112) ∧ f p.2
  | some (.ins _ _) => False
  | none => False
def fitQ : Nat → Sto → D → Prop
  | 0, _, _ => False
  | n + 1, S, d => (match d with
    | .non => True
    | .bl _ => True
    | .int i => smr i
    | .str x => ∀ c ∈ x, c < 1114112
    | .tup xs => ∀ y ∈ xs, fitQ n S y
    | .fl xs => ∀ y ∈ xs, fitQ n S y
    | .ref a => fitO (fitQ n S) (S a)
    | .xn _ _ => False)
def fitD (S : Sto) (d : D) : Prop := (isDicD S d ∨ fitQ dep S d) ∨ fitR dep S d
def sumN : List Nat → Nat
  | [] => 0
  | a :: r => a + sumN r
/-- no text of the value is longer -/
def szR : Nat → Sto → D → Nat
  | 0, _, _ => 0
  | n + 1, S, d => (match d with
    | .non => 4
    | .bl _ => 5
    | .int _ => 1902
    | .str x => 10 * x.length + 2
    | .tup xs => sumN (xs.map fun y => szR n S y + 2) + 3
    | .fl xs => sumN (xs.map fun y => szR n S y + 2) + 3
    | .ref a => (match S a with
      | some (.lst xs) => sumN (xs.map fun y => szR n S y + 2) + 3
      | some (.dct kvs) => sumN (kvs.map fun p => 10 * p.1.length + 2 + szR n S p.2 + 4) + 3
      | _ => 2)
    | .xn _ _ => 0)
structure Gm where
  fn : Nat → Sp
  con : Nat → D
  sub : Nat → Nat → Bool
  /-- where the class stands -/
  adr : Nat → Option Nat
  rp : P → Tx
  /-- own classes of objects by number: where each stands, its methods, is the one below the other -/
  ob : Nat → Option Nat
  mt : Nat → Tx → Option Nat
  os : Nat → Nat → Bool
  /-- where the error stands that is handled -/
  hd : Option Nat := none
def esLen : Es → Nat
  | .nil => 0
  | .cons _ r => esLen r + 1
  | .star _ r => esLen r + 1
/-- the promises of the defs below n -/
def upto (n : Nat) (sp : Nat → Sp) : Nat → Sp := fun i => if i < n then sp i else fun _ _ _ _ => False
def X0 : XK := fun _ _ _ => False
/-! ### objects -/
def insO : Option O → Option (Nat × List (Tx × D))
  | some (.ins C fs) => some (C, fs)
  | _ => none
/-- x is an object -/
def onO (S : Sto) (x : D) (P : Nat → List (Tx × D) → Prop) : Prop := onR x fun a => opt (insO (S a)) fun p => P p.1 p.2
def putK (n : Tx) (d : D) : List (Tx × D) → List (Tx × D)
  | [] => [(n, d)]
  | (m, x) :: r => if m = n then (m, d) :: r else (m, x) :: putK n d r
def fldD (G : Gm) (n : Tx) (x : D) (S : Sto) (Q : VK) : Prop := onO S x fun C fs => (∃ k, G.ob k = some C) ∧ opt (fs.lookup n) fun d => Q d S
/-- o.n = d -/
def fsetD (G : Gm) (n : Tx) (x d : D) (S : Sto) (Q : Sto → Prop) : Prop := onR x fun a => opt (insO (S a)) fun p => (∃ k, G.ob k = some p.1) ∧ p.2.length < 1000 ∧ Q (upd S a (.ins p.1 (putK n d p.2)))
/-- the method m of the object x: the def's promise at x and ds -/
def mcall (G : Gm) (m : Tx) (x : D) (ds : List D) (S : Sto) (Q : VK) (X : XK) : Prop := onO S x fun C fs => fs.lookup m = none ∧ ∃ k, G.ob k = some C ∧ opt (G.mt k m) fun f => cl (G.fn f) (x :: ds) S Q X
def nmInit : Tx := [95, 95, 105, 110, 105, 116, 95, 95]
def nmCall : Tx := [95, 95, 99, 97, 108, 108, 95, 95]
def nmNeg : Tx := [95, 95, 110, 101, 103, 95, 95]
def nmAnd : Tx := [95, 95, 97, 110, 100, 95, 95]
def nmEq : Tx := [95, 95, 101, 113, 95, 95]
def nmLen : Tx := [95, 95, 108, 101, 110, 95, 95]
/-- the table's name of a method with a star -/
def starN (m : Tx) : Tx := 42 :: m
def starB : Tx → Bool
  | 42 :: _ => true
  | _ => false
/-- the table's name of what super() finds behind the class d -/
def supN (d : Nat) (m : Tx) : Tx := 43 :: d :: m
def keyB : Tx → Bool
  | 42 :: _ => true
  | 43 :: _ => true
  | _ => false
def supB : Tx → Bool
  | 43 :: _ => true
  | _ => false
theorem keyB_star {m : Tx} (h : keyB m = false) : starB m = false := by
  match m, h with
  | [], _ => rfl
  | c :: r, h => by_cases e : c = 42
                 · subst e; cases h
                 · unfold starB; split
                   · rename_i z; cases z; exact absurd rfl e
                   · rfl
theorem keyB_sup {m : Tx} (h : keyB m = false) : supB m = false := by
  match m, h with
  | [], _ => rfl
  | c :: r, h => by_cases e : c = 43
                 · subst e; cases h
                 · unfold supB; split
                   · rename_i z; cases z; exact absurd rfl e
                   · rfl
def nmIn : Tx := [95, 95, 99, 111, 110, 116, 97, 105, 110, 115, 95, 95]
/-- a new object of the class k, its __init__ at f ds -/
def newD (G : Gm) (k : Nat) (f : D → List D) (S : Sto) (Q : VK) (X : XK) : Prop := ∀ C, G.ob k = some C → opt (G.mt k nmInit) fun n => ∀ p, S p = none → cl (G.fn n) (f (.ref p)) (upd S p (.ins C [])) (fun v S2 => isNon v = true ∧ Q (.ref p) S2) X
def iscO (G : Gm) (k : Nat) (P : Bool → Prop) : Option O → Prop
  | some (.ins C _) => ∃ j, G.ob j = some C ∧ P (G.os j k)
  | some _ => P false
  | none => False
/-- isinstance of an own class -/
def iscD (G : Gm) (k : Nat) (x : D) (S : Sto) (P : Bool → Prop) : Prop := match x with
  | .ref a => iscO G k P (S a)
  | .xn _ _ => False
  | _ => P false
/-- is the type of y a built-in one, known to == and & -/
def plnD (S : Sto) : D → Prop
  | .ref a => (match S a with
    | some (.ins _ _) => False
    | some _ => True
    | none => False)
  | .xn _ _ => False
  | _ => True
/-- the right operand: of a built-in type, or of the object's own class -/
def rgtD (S : Sto) (C : Nat) (y : D) : Prop := plnD S y ∨ onO S y fun D _ => D = C
def ocmD (G : Gm) (x y : D) (S : Sto) (Q : VK) : Prop := onO S x fun C _ => rgtD S C y ∧ mcall G nmEq x [y] S (fun v S1 => onB v fun b => Q (.bl b) S1) X0
def oneD (G : Gm) (x y : D) (S : Sto) (Q : VK) : Prop := onO S x fun C _ => rgtD S C y ∧ mcall G nmEq x [y] S (fun v S1 => onB v fun b => Q (.bl (!b)) S1) X0
def oinD (G : Gm) (o : Co) (x y : D) (S : Sto) (Q : VK) : Prop := mcall G nmIn y [x] S (fun v S1 => onB v fun b => Q (.bl (if o = .nin then !b else b)) S1) X0
/-- the first one is the error that is handled -/
def hdA (G : Gm) : List D → Prop
  | .xn _ (.int a :: _) :: _ => ∃ n : Nat, a = n ∧ G.hd = some n
  | _ => False
mutual
def wpE (G : Gm) : Ex → Env → Sto → VK → XK → Prop
  | .v i, ρ, S, Q, _ => opt (look ρ i) fun d => Q d S
  | .k c, _, S, Q, _ => Q (kcD c) S
  | .g n, _, S, Q, _ => Q (G.con n) S
  | .bin o a b, ρ, S, Q, X => wpE G a ρ S (fun x S1 => wpE G b ρ S1 (fun y S2 => binD o x y S2 Q) X) X
  | .neg a, ρ, S, Q, X => wpE G a ρ S (fun x S1 => onI x fun i => Q (.int (-i)) S1) X
  | .not a, ρ, S, Q, X => wpE G a ρ S (fun x S1 => onB x fun b => Q (.bl (!b)) S1) X
  | .cmp o a b, ρ, S, Q, X => wpE G a ρ S (fun x S1 => wpE G b ρ S1 (fun y S2 => cmpD o x y S2 fun c => Q (.bl c) S2) X) X
  | .chain o p a b c, ρ, S, Q, X => wpE G a ρ S (fun x S1 => wpE G b ρ S1 (fun y S2 => cmpD o x y S2 fun k => br k (wpE G c ρ S2 (fun z S3 => cmpD p y z S3 fun k' => Q (.bl k') S3) X) (Q (.bl false) S2)) X) X
  | .and a r, ρ, S, Q, X => wpE G a ρ S (fun x S1 => onB x fun b => br b (wpAnd G r ρ S1 Q X) (Q (.bl false) S1)) X
  | .or a r, ρ, S, Q, X => wpE G a ρ S (fun x S1 => onB x fun b => br b (Q (.bl true) S1) (wpOr G r ρ S1 Q X)) X
  | .ite c a b, ρ, S, Q, X => wpE G c ρ S (fun x S1 => onB x fun k => br k (wpE G a ρ S1 Q X) (wpE G b ρ S1 Q X)) X
  | .tup es, ρ, S, Q, X => wpEs G es ρ S (fun ds S1 => ds.length ≤ lim ∧ Q (.tup ds) S1) X
  | .lst es, ρ, S, Q, X => wpEs G es ρ S (fun ds S1 => mkL ds S1 Q) X
  | .ix a i, ρ, S, Q, X => wpE G a ρ S (fun x S1 => wpE G i ρ S1 (fun y S2 => ixD x y S2 Q) X) X
  | .dix a i, ρ, S, Q, X => wpE G a ρ S (fun x S1 => wpE G i ρ S1 (fun y S2 => dixD x y S2 Q) X) X
  | .sl a lo hi, ρ, S, Q, X => wpE G a ρ S (fun x S1 => wpO G lo ρ S1 (fun l S2 => wpO G hi ρ S2 (fun h S3 => slD x l h S3 Q) X) X) X
  | .rev a, ρ, S, Q, X => wpE G a ρ S (fun x S1 => revD x S1 Q) X
  | .call f es, ρ, S, Q, X => wpEs G es ρ S (fun ds S1 => cl (G.fn f) ds S1 Q X) X
  | .callk f es ks perm, ρ, S, Q, X => wpEs G es ρ S (fun ds S1 => wpEs G ks ρ S1 (fun ws S2 => ds.length = esLen es ∧ ws.length = esLen ks ∧ cl (G.fn f) (perm.filterMap fun i => (ds ++ ws)[i]?) S2 Q X) X) X
  | .rep a, ρ, S, Q, X => wpE G a ρ S (fun x S1 => fitD S1 x ∧ szR dep S1 x ≤ lim ∧ Q (.str (G.rp (toQ dep S1 x))) S1) X
  | .bi b es, ρ, S, Q, X => wpEs G es ρ S (fun ds S1 => biD b ds S1 Q) X
  | .mt m a es, ρ, S, Q, X => wpE G a ρ S (fun x S1 => opt (lsOf S1 x) fun _ => wpEs G es ρ S1 (fun ds S2 => mtD m x ds S2 Q) X) X
  | .m2 o a e, ρ, S, Q, X => wpE G a ρ S (fun x S1 => onS x fun s => wpE G e ρ S1 (fun y S2 => m2D o s y S2 Q) X) X
  | .isi a t, ρ, S, Q, X => wpE G a ρ S (fun x S1 => opt (isTy S1 x t) fun b => Q (.bl b) S1) X
  | .isi2 a t u, ρ, S, Q, X => wpE G a ρ S (fun x S1 => opt (isTy S1 x t) fun b => opt (isTy S1 x u) fun d => Q (.bl (b || d)) S1) X
  | .isx a cs, ρ, S, Q, X => wpE G a ρ S (fun x S1 => onX x fun C => ∃ k, G.adr k = some C ∧ Q (.bl (cs.any (G.sub k))) S1) X
  | .dic, _, S, Q, _ => ∀ p, S p = none → Q (.ref p) (upd S p .dic)
  | .dct ks es, ρ, S, Q, X => wpEs G es ρ S (fun ds S1 => ds.length = ks.length ∧ ∀ p, S1 p = none → Q (.ref p) (upd S1 p (.dct (ks.zip ds)))) X
  | .comp e t it c, ρ, S, Q, X => wpIt G it ρ S (fun items chk S1 => items.length ≤ lim ∧ compW chk (fun d S2 k => asg t d S2 (wipe ρ (tgs t)) fun ρ2 => wpC G c ρ2 S2 (fun b S3 => br b (wpE G e ρ2 S3 (fun x S4 => k (some x) S4) X0) (k none S3))) Q items [] S1) X
  | .new k es, ρ, S, Q, X => wpEs G es ρ S (fun ds S1 => newD G k (fun p => p :: ds) S1 Q X) X
  | .newk k es ks perm, ρ, S, Q, X => wpEs G es ρ S (fun ds S1 => wpEs G ks ρ S1 (fun ws S2 => ds.length = esLen es ∧ ws.length = esLen ks ∧ newD G k (fun p => perm.filterMap fun i => ((p :: ds) ++ ws)[i]?) S2 Q X) X) X
  | .fld a n, ρ, S, Q, X => wpE G a ρ S (fun x S1 => fldD G n x S1 Q) X
  | .prp a n, ρ, S, Q, X => wpE G a ρ S (fun x S1 => mcall G n x [] S1 Q X0) X
  | .ocl a es, ρ, S, Q, X => wpE G a ρ S (fun x S1 => onR x fun _ => wpEs G es ρ S1 (fun ds S2 => mcall G nmCall x ds S2 Q X) X) X
  | .oclk a ks perm, ρ, S, Q, X => wpE G a ρ S (fun x S1 => onR x fun _ => wpEs G ks ρ S1 (fun ws S3 => ws.length = esLen ks ∧ onO S3 x fun C fs => fs.lookup nmCall = none ∧ ∃ k, G.ob k = some C ∧ opt (G.mt k nmCall) fun f => cl (G.fn f) (perm.filterMap fun i => (x :: ws)[i]?) S3 Q X) X) X
  | .mth m a es, ρ, S, Q, X => wpE G a ρ S (fun x S1 => onO S1 x fun C fs => fs.lookup m = none ∧ ∃ k, G.ob k = some C ∧ opt (G.mt k m) fun f => wpEs G es ρ S1 (fun ds S2 => cl (G.fn f) (x :: ds) S2 Q X) X) X
  | .mthk m a es ks perm, ρ, S, Q, X => wpE G a ρ S (fun x S1 => onO S1 x fun C fs => fs.lookup m = none ∧ ∃ k, G.ob k = some C ∧ opt (G.mt k m) fun f => wpEs G es ρ S1 (fun ds S2 => wpEs G ks ρ S2 (fun ws S3 => ds.length = esLen es ∧ ws.length = esLen ks ∧ cl (G.fn f) (perm.filterMap fun i => ((x :: ds) ++ ws)[i]?) S3 Q X) X) X) X
  | .mths m a es, ρ, S, Q, X => wpE G a ρ S (fun x S1 => onO S1 x fun C fs => fs.lookup m = none ∧ ∃ k, G.ob k = some C ∧ opt (G.mt k (starN m)) fun f => wpEs G es ρ S1 (fun ds S2 => ds.length ≤ lim ∧ cl (G.fn f) [x, .tup ds] S2 Q X) X) X
  | .oln a, ρ, S, Q, X => wpE G a ρ S (fun x S1 => mcall G nmLen x [] S1 (fun v S2 => onI v fun i => (0 ≤ i ∧ i < 2 ^ 63) ∧ Q (.int i) S2) X0) X
  | .newd k es cs, ρ, S, Q, X => wpEs G es ρ S (fun ds S1 => newD G k (fun p => p :: (ds ++ cs.map kcD)) S1 Q X) X
  | .callh f es, ρ, S, Q, X => wpEs G es ρ S (fun ds S1 => hdA G ds ∧ cl (G.fn f) ds S1 Q X) X
  | .comph i e t it c, ρ, S, Q, X => opt (look ρ i) fun d => hdA G [d] ∧ wpH G it ρ S (fun items chk S1 => items.length ≤ lim ∧ compW chk (fun d S2 k => asg t d S2 (wipe ρ (tgs t)) fun ρ2 => wpC G c ρ2 S2 (fun b S3 => br b (wpE G e ρ2 S3 (fun x S4 => k (some x) S4) X0) (k none S3))) Q items [] S1) X
  | .oun a, ρ, S, Q, X => wpE G a ρ S (fun x S1 => mcall G nmNeg x [] S1 Q X) X
  | .oand a b, ρ, S, Q, X => wpE G a ρ S (fun x S1 => wpE G b ρ S1 (fun y S2 => onO S2 x fun C _ => rgtD S2 C y ∧ mcall G nmAnd x [y] S2 Q X) X) X
  | .oeq a b, ρ, S, Q, X => wpE G a ρ S (fun x S1 => wpE G b ρ S1 (fun y S2 => ocmD G x y S2 Q) X) X
  | .one a b, ρ, S, Q, X => wpE G a ρ S (fun x S1 => wpE G b ρ S1 (fun y S2 => oneD G x y S2 Q) X) X
  | .oin o a b, ρ, S, Q, X => wpE G a ρ S (fun x S1 => wpE G b ρ S1 (fun y S2 => oinD G o x y S2 Q) X) X
  | .xfld a n, ρ, S, Q, X => wpE G a ρ S (fun x S1 => onF x n fun d => onX x fun C => (∃ k, G.adr k = some C) ∧ Q d S1) X
  | .xnew c n _ e, ρ, S, Q, X => wpE G e ρ S (fun x S1 => ∀ C, G.adr c = some C → ∀ a : Nat, Q (.xn C [.int a, .str n, x]) S1) X
  | .xnew0 c, _, S, Q, _ => ∀ C, G.adr c = some C → ∀ a : Nat, Q (.xn C [.int a]) S
  | .isc a k, ρ, S, Q, X => wpE G a ρ S (fun x S1 => iscD G k x S1 fun b => Q (.bl b) S1) X
def wpC (G : Gm) : Oe → Env → Sto → (Bool → Sto → Prop) → Prop
  | .none, _, S, Q => Q true S
  | .some e, ρ, S, Q => wpE G e ρ S (fun x S1 => onB x fun b => Q b S1) X0
def wpO (G : Gm) : Oe → Env → Sto → (Option Int → Sto → Prop) → XK → Prop
  | .none, _, S, Q, _ => Q none S
  | .some e, ρ, S, Q, X => wpE G e ρ S (fun x S1 => onI x fun i => Q (some i) S1) X
def wpAnd (G : Gm) : Es → Env → Sto → VK → XK → Prop
  | .cons e r, ρ, S, Q, X => wpE G e ρ S (fun x S1 => match r with
    | .nil => Q x S1
    | _ => (onB x fun b => br b (wpAnd G r ρ S1 Q X) (Q (.bl false) S1))) X
  | _, _, _, _, _ => False
def wpOr (G : Gm) : Es → Env → Sto → VK → XK → Prop
  | .cons e r, ρ, S, Q, X => wpE G e ρ S (fun x S1 => match r with
    | .nil => Q x S1
    | _ => (onB x fun b => br b (Q (.bl true) S1) (wpOr G r ρ S1 Q X))) X
  | _, _, _, _, _ => False
def wpEs (G : Gm) : Es → Env → Sto → (List D → Sto → Prop) → XK → Prop
  | .nil, _, S, Q, _ => Q [] S
  | .cons e r, ρ, S, Q, X => wpE G e ρ S (fun x S1 => wpEs G r ρ S1 (fun ds S2 => Q (x :: ds) S2) X) X
  | .star e r, ρ, S, Q, X => wpE G e ρ S (fun x S1 => opt (sqOf S1 x) fun xs => wpEs G r ρ S1 (fun ds S2 => Q (xs ++ ds) S2) X) X
def wpIt (G : Gm) : It → Env → Sto → IK → XK → Prop
  | .seq e, ρ, S, R, X => wpE G e ρ S (fun x S1 => seqD x S1 R) X
  | .rng e, ρ, S, R, X => wpE G e ρ S (fun x S1 => onI x fun j => rngD 0 j S1 R) X
  | .rng2 a b, ρ, S, R, X => wpE G a ρ S (fun x S1 => wpE G b ρ S1 (fun y S2 => onI x fun i => onI y fun j => rngD i j S2 R) X) X
  | .zip a b, ρ, S, R, X => wpE G a ρ S (fun x S1 => wpE G b ρ S1 (fun y S2 => zipD x y S2 R) X) X
  | .zip3 a b c, ρ, S, R, X => wpE G a ρ S (fun x S1 => wpE G b ρ S1 (fun y S2 => wpE G c ρ S2 (fun z S3 => zip3D x y z S3 R) X) X) X
  | .enum e, ρ, S, R, X => wpE G e ρ S (fun x S1 => enumD x S1 R) X
/-- what is walked while an error is handled: a list, a range -/
def wpH (G : Gm) : It → Env → Sto → IK → XK → Prop
  | .seq e, ρ, S, R, X => wpE G e ρ S (fun x S1 => opt (lsOf S1 x) fun _ => seqD x S1 R) X
  | .rng e, ρ, S, R, X => wpE G e ρ S (fun x S1 => onI x fun j => rngD 0 j S1 R) X
  | _, _, _, _, _ => False
end
structure Kt where
  nx : Env → Sto → Prop
  rt : VK
  bk : Env → Sto → Prop
  xe : Nat → List D → Env → Sto → Prop
mutual
def wpS (G : Gm) : St → Env → Sto → Kt → Prop
  | .set t e, ρ, S, K => wpE G e ρ S (fun x S1 => asg t x S1 ρ fun ρ1 => K.nx ρ1 S1) (fun c fs S1 => K.xe c fs ρ S1)
  | .par i j a b, ρ, S, K => wpE G a ρ S (fun x S1 => wpE G b ρ S1 (fun y S2 => K.nx ((ρ.set i (some x)).set j (some y)) S2) (fun c fs S2 => K.xe c fs ρ S2)) (fun c fs S1 => K.xe c fs ρ S1)
  | .par3 i j l a b c, ρ, S, K => wpE G a ρ S (fun x S1 => wpE G b ρ S1 (fun y S2 => wpE G c ρ S2 (fun z S3 => K.nx (((ρ.set i (some x)).set j (some y)).set l (some z)) S3) (fun c fs S3 => K.xe c fs ρ S3)) (fun c fs S2 => K.xe c fs ρ S2)) (fun c fs S1 => K.xe c fs ρ S1)
  | .nev, _, _, _ => False
  | .six a i e, ρ, S, K => wpE G e ρ S (fun x S1 => wpE G a ρ S1 (fun o S2 => wpE G i ρ S2 (fun y S3 => sixD o y x S3 fun S4 => K.nx ρ S4) (fun c fs S3 => K.xe c fs ρ S3)) (fun c fs S2 => K.xe c fs ρ S2)) (fun c fs S1 => K.xe c fs ρ S1)
  | .fset n a e, ρ, S, K => wpE G e ρ S (fun d S1 => wpE G a ρ S1 (fun x S2 => fsetD G n x d S2 fun S3 => K.nx ρ S3) (fun c fs S2 => K.xe c fs ρ S2)) (fun c fs S1 => K.xe c fs ρ S1)
  | .psx a i j e, ρ, S, K => wpE G e ρ S (fun v S1 => onP v fun x y => wpE G a ρ S1 (fun o S2 => wpE G i ρ S2 (fun z S3 => sixD o z x S3 fun S4 => K.nx (ρ.set j (some y)) S4) (fun c fs S3 => K.xe c fs ρ S3)) (fun c fs S2 => K.xe c fs ρ S2)) (fun c fs S1 => K.xe c fs ρ S1)
  | .ex e, ρ, S, K => wpE G e ρ S (fun _ S1 => K.nx ρ S1) (fun c fs S1 => K.xe c fs ρ S1)
  | .ret e, ρ, S, K => wpE G e ρ S K.rt (fun c fs S1 => K.xe c fs ρ S1)
  | .retn, _, S, K => K.rt .non S
  | .if_ c a b, ρ, S, K => wpE G c ρ S (fun x S1 => onB x fun k => br k (wpSs G a ρ S1 K) (wpSs G b ρ S1 K)) (fun c fs S1 => K.xe c fs ρ S1)
  | .while_ c b, ρ, S, K => ∃ n, whileN (fun ρ1 S1 nx => wpE G c ρ1 S1 (fun x S2 => onB x fun k => br k (wpSs G b ρ1 S2 { K with nx := nx, bk := K.nx }) (K.nx ρ1 S2)) (fun c fs S2 => K.xe c fs ρ1 S2)) n ρ S
  | .for_ t it b, ρ, S, K => wpIt G it ρ S (fun items chk S1 => forW chk (fun d ρ1 S2 nx => asg t d S2 ρ1 fun ρ2 => wpSs G b ρ2 S2 { K with nx := nx, bk := K.nx }) K.nx items ρ S1) (fun c fs S1 => K.xe c fs ρ S1)
  | .brk, ρ, S, K => K.bk ρ S
  | .pass, ρ, S, K => K.nx ρ S
  | .raisef c n e, ρ, S, K => wpE G e ρ S (fun x S1 => K.xe c [.str n, x] ρ S1) (fun c fs S1 => K.xe c fs ρ S1)
  | .raise c es, ρ, S, K => wpEs G es ρ S (fun ds S1 => K.xe c ds ρ S1) (fun c fs S1 => K.xe c fs ρ S1)
  | .try_ b c i h, ρ, S, K => wpSs G b ρ S { K with xe := fun k fs ρ1 S1 => br (G.sub k c) (∀ C, G.adr k = some C → ∀ a : Nat, wpSs { G with hd := some a } h (ρ1.set i (some (.xn C (.int a :: fs)))) S1 { nx := fun ρ2 S2 => K.nx (ρ2.set i none) S2, rt := K.rt, bk := fun ρ2 S2 => K.bk (ρ2.set i none) S2, xe := fun _ _ _ _ => False }) (K.xe k fs ρ1 S1) }
def wpSs (G : Gm) : Ss → Env → Sto → Kt → Prop
  | .nil, ρ, S, K => K.nx ρ S
  | .cons s r, ρ, S, K => wpS G s ρ S { K with nx := fun ρ1 S1 => wpSs G r ρ1 S1 K }
end
end M
namespace Snd
open PySem PySem.Spec PyProof.Rows L2
abbrev Frag := PySem.W.Frag
abbrev Sl := L2.St
def stx (x : M.Tx) : Str := ⟨x.toArray⟩
/-- a list that is never written -/
def SqF (K : Frag) (H : Hp) (a : Addr) (xs : List V) : Prop :=
  (∃ o, H a = some (.frz o (.lst xs))) ∨
    ∃ (o : Obj) (its : Array Value) (n : Nat), K.lookup a = some o ∧ o.cls = .type "list" ∧ o.dict = none ∧ o.data = .seq its n ∧ its.size ≤ sizeLine ∧ Vals xs its.toList
theorem SqF.sq {K : Frag} {H : Hp} {a : Addr} {xs : List V} (h : SqF K H a xs) : SqL K H a xs := by
  rcases h with ⟨o, h⟩ | h
  · exact .inl (.inr ⟨o, h⟩)
  · exact .inr h
/-- an error of the class at C stands at a -/
def XO (a : Addr) (oe : Obj) : HO := .frz oe (.ext fun h => h.get? a = some oe)
/-- an error of the class at C without a dict, its context None -/
def ExA (C : Addr) (d : Option Addr) (oe : Obj) : Prop := L2N.Zn (.ref C) d oe ∧ ∃ vs, oe.data = .fields vs
def Xo (H : Hp) (C a : Addr) : Prop := ∃ oe d, H a = some (XO a oe) ∧ ExA C d oe ∧ ∀ dd, d = some dd → ∃ fs, H dd = some (.xd fs)
mutual
inductive RelD (K : Frag) (H : Hp) : M.D → V → Prop
  | non : RelD K H .non .non
  | bl (b : Bool) : RelD K H (.bl b) (.bl b)
  | int (i : Int) : RelD K H (.int i) (.int i)
  | str (x : M.Tx) : RelD K H (.str x) (.str (stx x))
  | tup {a : Addr} {ds : List M.D} {vs : List V} : SqT K H a vs → RelDs K H ds vs → RelD K H (.tup ds) (.ref a)
  | fl {a : Addr} {ds : List M.D} {vs : List V} : SqF K H a vs → RelDs K H ds vs → RelD K H (.fl ds) (.ref a)
  | ref (a : Addr) : RelD K H (.ref a) (.ref a)
  | xn {C a : Addr} : Xo H C a → RelD K H (.xn C [.int a]) (.ref a)
  | xf {C a dd : Addr} {oe : Obj} {n : M.Tx} {x : M.D} {v : V} : H a = some (XO a oe) → ExA C (some dd) oe → H dd = some (.xd [(stx n, v)]) → RelD K H x v → RelD K H (.xn C [.int a, .str n, x]) (.ref a)
inductive RelDs (K : Frag) (H : Hp) : List M.D → List V → Prop
  | nil : RelDs K H [] []
  | cons {d : M.D} {v : V} {ds : List M.D} {vs : List V} : RelD K H d v → RelDs K H ds vs → RelDs K H (d :: ds) (v :: vs)
end
/-- what isinstance asks of a class of objects -/
structure IsO (K : Frag) (C : Addr) : Prop where
  cl : Cls K C
  ha : PySem.W.findIn K (.ref C) "__class__" = some (some (.builtin "object.__class__"))
  hn : PySem.W.specialIn K (.builtin "object.__class__") "__get__" = some (some (.builtin "getset_descriptor.__get__"))
  ht : PySem.W.takesIn K (.builtin "object.__class__") = some true
  hm : PySem.W.mroIn K C (.type "object") = some true
  isb : ∀ n ∈ ["int", "bool", "tuple", "list", "str"], PySem.W.kitOne K (.ref C) (.type n) = some false
def RelO (K : Frag) (H : Hp) (a : Addr) : M.O → Prop
  | .lst ds => ∃ vs, H a = some (.lst vs) ∧ RelDs K H ds vs
  | .dic => H a = some (.dK [])
  | .dct kvs => ∃ vs, H a = some (.dK ((kvs.map fun p => (Sum.inr (stx p.1) : Key)).zip vs)) ∧ RelDs K H (kvs.map (·.2)) vs
  | .ins C fs => ∃ dx vs, H a = some (.ins C dx ((fs.map fun p => stx p.1).zip vs)) ∧ RelDs K H (fs.map (·.2)) vs ∧ IsO K C
def RelS (K : Frag) (H : Hp) (S : M.Sto) : Prop := ∀ a o, S a = some o → RelO K H a o
/-- what was tracked and not in the store is as it was -/
def Fr (S : M.Sto) (H : Hp) (S' : M.Sto) (H' : Hp) : Prop := ∀ a o, H a = some o → S a = none → H' a = some o ∧ S' a = none
section
variable {K : Frag} {H H' H2 : Hp} {S S' S2 : M.Sto}
theorem Fr.refl : Fr S H S H := fun _ _ h n => ⟨h, n⟩
theorem Fr.trans (a : Fr S H S' H') (b : Fr S' H' S2 H2) : Fr S H S2 H2 := fun c o h n => let ⟨h1, n1⟩ := a c o h n; b c o h1 n1
theorem RelS.none (r : RelS K H S) {a : Addr} (h : H a = none) : S a = none := by
  cases e : S a with
  | none => rfl
  | some o =>
    have q := r a o e
    cases o with
    | lst ds => obtain ⟨vs, q, _⟩ := q; rw [h] at q; cases q
    | dic => have q' : H a = _ := q; rw [h] at q'; cases q'
    | dct kvs => obtain ⟨vs, q, _⟩ := q; rw [h] at q; cases q
    | ins C fs => obtain ⟨dx, vs, q, _⟩ := q; rw [h] at q; cases q
theorem RelS.tup (r : RelS K H S) {a : Addr} {vs : List V} (h : H a = some (.tup vs)) : S a = .none := by
  cases e : S a with
  | none => rfl
  | some o =>
    have q := r a o e
    cases o with
    | lst ds => obtain ⟨vs, q, _⟩ := q; rw [h] at q; cases q
    | dic => have q' : H a = _ := q; rw [h] at q'; cases q'
    | dct kvs => obtain ⟨vs, q, _⟩ := q; rw [h] at q; cases q
    | ins C fs => obtain ⟨dx, vs, q, _⟩ := q; rw [h] at q; cases q
theorem RelS.frz (r : RelS K H S) {a : Addr} {ob : Obj} {u : HO} (h : H a = some (.frz ob u)) : S a = .none := by
  cases e : S a with
  | none => rfl
  | some o =>
    have q := r a o e
    cases o with
    | lst ds => obtain ⟨vs, q, _⟩ := q; rw [h] at q; cases q
    | dic => have q' : H a = _ := q; rw [h] at q'; cases q'
    | dct kvs => obtain ⟨vs, q, _⟩ := q; rw [h] at q; cases q
    | ins C fs => obtain ⟨dx, vs, q, _⟩ := q; rw [h] at q; cases q
theorem RelS.xo (r : RelS K H S) {a : Addr} {oe : Obj} (h : H a = some (XO a oe)) : S a = .none := by
  cases e : S a with
  | none => rfl
  | some o =>
    have q := r a o e
    cases o with
    | lst ds => obtain ⟨vs, q, _⟩ := q; rw [h] at q; cases q
    | dic => have q' : H a = _ := q; rw [h] at q'; cases q'
    | dct kvs => obtain ⟨vs, q, _⟩ := q; rw [h] at q; cases q
    | ins C fs => obtain ⟨dx, vs, q, _⟩ := q; rw [h] at q; cases q
theorem sqt_mono (r : RelS K H S) (f : Fr S H S' H') {a : Addr} {vs : List V} (h : SqT K H a vs) : SqT K H' a vs := by
  rcases h with (h | ⟨o, h⟩) | h
  · exact .inl (.inl (f _ _ h (r.tup h)).1)
  · exact .inl (.inr ⟨o, (f _ _ h (r.frz h)).1⟩)
  · exact .inr h
theorem sqf_mono (r : RelS K H S) (f : Fr S H S' H') {a : Addr} {vs : List V} (h : SqF K H a vs) : SqF K H' a vs := by
  rcases h with ⟨o, h⟩ | h
  · exact .inl ⟨o, (f _ _ h (r.frz h)).1⟩
  · exact .inr h
theorem RelS.xd (r : RelS K H S) {a : Addr} {fs : List (Str × V)} (h : H a = some (.xd fs)) : S a = .none := by
  cases e : S a with
  | none => rfl
  | some o =>
    have q := r a o e
    cases o with
    | lst ds => obtain ⟨vs, q, _⟩ := q; rw [h] at q; cases q
    | dic => have q' : H a = _ := q; rw [h] at q'; cases q'
    | dct kvs => obtain ⟨vs, q, _⟩ := q; rw [h] at q; cases q
    | ins C fs => obtain ⟨dx, vs, q, _⟩ := q; rw [h] at q; cases q
theorem xo_mono (r : RelS K H S) (f : Fr S H S' H') {C a : Addr} (h : Xo H C a) : Xo H' C a := let ⟨oe, d, h1, h2, h3⟩ := h; ⟨oe, d, (f _ _ h1 (r.xo h1)).1, h2, fun dd e => let ⟨fs, h4⟩ := h3 dd e; ⟨fs, (f _ _ h4 (r.xd h4)).1⟩⟩
mutual
theorem RelD.mono (r : RelS K H S) (f : Fr S H S' H') : ∀ {d : M.D} {v : V}, RelD K H d v → RelD K H' d v
  | _, _, .non => .non
  | _, _, .bl b => .bl b
  | _, _, .int i => .int i
  | _, _, .str x => .str x
  | _, _, .tup h t => .tup (sqt_mono r f h) (RelDs.mono r f t)
  | _, _, .fl h t => .fl (sqf_mono r f h) (RelDs.mono r f t)
  | _, _, .ref a => .ref a
  | _, _, .xn h => .xn (xo_mono r f h)
  | _, _, .xf h1 h2 h3 h4 => .xf (f _ _ h1 (r.xo h1)).1 h2 (f _ _ h3 (r.xd h3)).1 (RelD.mono r f h4)
theorem RelDs.mono (r : RelS K H S) (f : Fr S H S' H') : ∀ {ds : List M.D} {vs : List V}, RelDs K H ds vs → RelDs K H' ds vs
  | _, _, .nil => .nil
  | _, _, .cons h t => .cons (RelD.mono r f h) (RelDs.mono r f t)
end
/-- an error's datum -/
theorem RelD.xo {C : Nat} {fs : List M.D} {v : V} (h : RelD K H (.xn C fs) v) : ∃ a r, fs = .int (a : Nat) :: r ∧ v = .ref a ∧ Xo H C a := by
  cases h with
  | xn h => exact ⟨_, _, rfl, rfl, h⟩
  | xf h1 h2 h3 h4 => exact ⟨_, _, rfl, rfl, _, _, h1, h2, fun dd e => by cases e; exact ⟨_, h3⟩⟩
theorem RelDs.length : ∀ {ds : List M.D} {vs : List V}, RelDs K H ds vs → ds.length = vs.length
  | _, _, .nil => rfl
  | _, _, .cons _ t => by rw [List.length_cons, List.length_cons, RelDs.length t]
theorem RelDs.get : ∀ {ds : List M.D} {vs : List V} {i : Nat} {d : M.D}, RelDs K H ds vs → ds[i]? = some d → ∃ v, vs[i]? = some v ∧ RelD K H d v
  | _, _, _, _, .nil, e => by simp at e
  | _, _, 0, d, .cons h _, e => by simp at e; subst e; exact ⟨_, rfl, h⟩
  | _, _, i + 1, d, .cons _ t, e => by
    obtain ⟨v, h1, h2⟩ := RelDs.get (i := i) t (by simpa using e)
    exact ⟨v, by simpa using h1, h2⟩
theorem RelDs.get' : ∀ {ds : List M.D} {vs : List V} {i : Nat} {v : V}, RelDs K H ds vs → vs[i]? = some v → ∃ d, ds[i]? = some d ∧ RelD K H d v
  | _, _, _, _, .nil, e => by simp at e
  | _, _, 0, d, .cons h _, e => by simp at e; subst e; exact ⟨_, rfl, h⟩
  | _, _, i + 1, d, .cons _ t, e => by
    obtain ⟨v, h1, h2⟩ := RelDs.get' (i := i) t (by simpa using e)
    exact ⟨v, by simpa using h1, h2⟩
theorem RelDs.append : ∀ {ds es : List M.D} {vs us : List V}, RelDs K H ds vs → RelDs K H es us → RelDs K H (ds ++ es) (vs ++ us)
  | _, _, _, _, .nil, s => s
  | _, _, _, _, .cons h t, s => .cons h (RelDs.append t s)
theorem RelDs.take : ∀ {ds : List M.D} {vs : List V} (n : Nat), RelDs K H ds vs → RelDs K H (ds.take n) (vs.take n)
  | _, _, 0, _ => .nil
  | _, _, _ + 1, .nil => .nil
  | _, _, n + 1, .cons h t => .cons h (RelDs.take n t)
theorem RelDs.drop : ∀ {ds : List M.D} {vs : List V} (n : Nat), RelDs K H ds vs → RelDs K H (ds.drop n) (vs.drop n)
  | _, _, 0, h => h
  | _, _, _ + 1, .nil => .nil
  | _, _, n + 1, .cons _ t => RelDs.drop n t
theorem RelDs.set : ∀ {ds : List M.D} {vs : List V} {d : M.D} {v : V} (i : Nat), RelD K H d v → RelDs K H ds vs → RelDs K H (ds.set i d) (vs.set i v)
  | _, _, _, _, _, _, .nil => .nil
  | _, _, _, _, 0, q, .cons _ t => .cons q t
  | _, _, _, _, i + 1, q, .cons h t => .cons h (RelDs.set i q t)
theorem RelDs.reverse {ds : List M.D} {vs : List V} (h : RelDs K H ds vs) : RelDs K H ds.reverse vs.reverse := by
  induction ds generalizing vs with
  | nil => cases h; exact .nil
  | cons d ds ih =>
    cases h with
    | cons a b =>
      rw [List.reverse_cons, List.reverse_cons]
      exact (ih b).append (.cons a .nil)
theorem RelDs.dropLast {ds : List M.D} {vs : List V} (h : RelDs K H ds vs) : RelDs K H ds.dropLast vs.dropLast := by
  rw [List.dropLast_eq_take, List.dropLast_eq_take, h.length]
  exact h.take _
theorem RelDs.rep {ds : List M.D} {vs : List V} (h : RelDs K H ds vs) : ∀ k : Nat, RelDs K H (List.replicate k ds).flatten (List.replicate k vs).flatten
  | 0 => .nil
  | k + 1 => by
    rw [List.replicate_succ, List.replicate_succ, List.flatten_cons, List.flatten_cons]
    exact h.append (RelDs.rep h k)
end
/-! ### slots -/
def RelE (K : Frag) (H : Hp) (ρ : M.Env) (σ : Sl) : Prop := ∀ (i : Nat) (d : M.D), ρ[i]? = some (some d) → ∃ v, σ[i]? = some (some v) ∧ RelD K H d v
section
variable {K : Frag} {H H' : Hp} {S S' : M.Sto} {ρ : M.Env} {σ : Sl}
theorem RelE.mono (h : RelE K H ρ σ) (r : RelS K H S) (f : Fr S H S' H') : RelE K H' ρ σ := fun i d e => let ⟨v, h1, h2⟩ := h i d e; ⟨v, h1, h2.mono r f⟩
theorem RelE.set (h : RelE K H ρ σ) (hl : ρ.length = σ.length) {d : M.D} {v : V} (q : RelD K H d v) (i : Nat) : RelE K H (ρ.set i (some d)) (σ.set i (some v)) := fun j e hj => by
  by_cases hi : i = j
  · subst hi
    by_cases hlt : i < ρ.length
    · rw [List.getElem?_set_self hlt] at hj
      cases hj
      exact ⟨v, List.getElem?_set_self (by omega), q⟩
    · rw [List.getElem?_eq_none (by simpa using hlt)] at hj; cases hj
  · rw [List.getElem?_set_ne hi] at hj
    obtain ⟨w, h1, h2⟩ := h j e hj
    exact ⟨w, by rw [List.getElem?_set_ne hi]; exact h1, h2⟩
theorem RelE.unset (h : RelE K H ρ σ) (i : Nat) : RelE K H (ρ.set i none) (σ.set i none) := fun j e hj => by
  by_cases hi : i = j
  · subst hi
    by_cases hlt : i < ρ.length
    · rw [List.getElem?_set_self hlt] at hj; cases hj
    · rw [List.getElem?_eq_none (by simpa using hlt)] at hj; cases hj
  · rw [List.getElem?_set_ne hi] at hj
    obtain ⟨w, h1, h2⟩ := h j e hj
    exact ⟨w, by rw [List.getElem?_set_ne hi]; exact h1, h2⟩
theorem RelE.wipe (h : RelE K H ρ σ) : ∀ is : List Nat, RelE K H (M.wipe ρ is) (L2.wipe σ is)
  | [] => h
  | i :: is => (RelE.wipe h is).unset i
theorem wipe_len (ρ : M.Env) : ∀ is : List Nat, (M.wipe ρ is).length = ρ.length
  | [] => rfl
  | i :: is => by show ((M.wipe ρ is).set i none).length = _; rw [List.length_set, wipe_len ρ is]
end
/-! ### exceptions -/
/-- where a def stands that no global names: a method, a property's getter -/
inductive Pl where | mt (x m : Str) | pr (x f : Str)
/-- text's tables: defs, constants, classes by number -/
structure Tb where
  fns : List Str
  cons : List Str
  cls : List Str
  /-- free names of the built-ins -/
  bts : List Str
  /-- calls with names: the def, how many positional values, the names, the values' places -/
  kws : List (Nat × Nat × List Str × List Nat)
  /-- the first classes are those that are raised -/
  nr : Nat := 0
  /-- is an error handled here -/
  hot : Bool := false
  /-- defs that are called where an error is handled -/
  hots : List Nat := []
  /-- classes of objects, their fields, properties, the defs that no global names -/
  ocs : List Str := []
  fds : List M.Tx := []
  prs : List M.Tx := []
  ats : List (Nat × Pl) := []
  /-- the methods: of the class with the number, by name -/
  mtb : List ((Nat × M.Tx) × Nat) := []
  /-- the errors' fields; the classes of errors that store one -/
  xns : List M.Tx := []
  xin : List (Nat × M.Tx) := []
  /-- defs whose last parameter has a star; the defaults that fill up -/
  sts : List Nat := []
  dfl : List (Nat × List M.Kc) := []
/-- an exception of the class c with the fields fs -/
def RelX (K : Frag) (mg : Str → Option Value) (T : Tb) (c : Nat) (fs : List M.D) (cls : Value) (d : Option Addr) (H : Hp) : Prop :=
  ((fs = [] ∧ d = none) ∨ ∃ n dd x v, fs = [.str n, x] ∧ d = some dd ∧ H dd = some (.xd [(stx n, v)]) ∧ RelD K H x v) ∧ c < T.nr ∧ ∃ x C, T.cls[c]? = some x ∧ mg x = some (.ref C) ∧ cls = .ref C
/-! ### the readings -/
structure Cn where
  K : Frag
  mg : Str → Option Value
  T : Tb
  G : M.Gm
/-- where an error is handled -/
abbrev Cn.h (c : Cn) (a : Addr) : Cn := { c with T := { c.T with hot := true }, G := { c.G with hd := some a } }
/-- wished of a value -/
def OkV (K : Frag) (S : M.Sto) (H : Hp) (Qd : M.VK) (Q : VK) : Prop := ∀ d S' v H', Fr S H S' H' → RelS K H' S' → RelD K H' d v → Qd d S' → Q v H'
def OkX (c : Cn) (S : M.Sto) (H : Hp) (Xd : M.XK) (W : Value → Option Addr → Hp → Prop) : Prop := ∀ k fs S' H' cls d, Fr S H S' H' → RelS c.K H' S' → RelX c.K c.mg c.T k fs cls d H' → Xd k fs S' → W cls d H'
def tE (c : Cn) (W : WX) (e : M.Ex) : TE := fun σ H Q => ∃ ρ S Qd Xd, ρ.length = σ.length ∧ RelE c.K H ρ σ ∧ RelS c.K H S ∧ M.wpE c.G e ρ S Qd Xd ∧ OkV c.K S H Qd Q ∧ OkX c S H Xd fun cls d H' => W cls d σ H'
def OkL (K : Frag) (S : M.Sto) (H : Hp) (Qd : List M.D → M.Sto → Prop) (Q : List V → Hp → Prop) : Prop := ∀ ds S' vs H', Fr S H S' H' → RelS K H' S' → RelDs K H' ds vs → Qd ds S' → Q vs H'
def tEs (c : Cn) (W : WX) (es : M.Es) : TA := fun σ H Q => ∃ ρ S Qd Xd, ρ.length = σ.length ∧ RelE c.K H ρ σ ∧ RelS c.K H S ∧ M.wpEs c.G es ρ S Qd Xd ∧ OkL c.K S H Qd Q ∧ OkX c S H Xd fun cls d H' => W cls d σ H'
/-- a def's promise -/
def lift (c : Cn) (sp : M.Sp) : L2.Sp := fun vs H Q E => ∃ ds S Qd Xd, RelDs c.K H ds vs ∧ RelS c.K H S ∧ sp ds S Qd Xd ∧ OkV c.K S H Qd Q ∧ OkX c S H Xd E
section
variable {K : Frag} {S S' : M.Sto} {H H' : Hp}
theorem OkV.after {Qd : M.VK} {Q : VK} (h : OkV K S H Qd Q) (f : Fr S H S' H') : OkV K S' H' Qd Q := fun d S2 v H2 f2 r2 rd q => h d S2 v H2 (f.trans f2) r2 rd q
theorem OkL.after {Qd : List M.D → M.Sto → Prop} {Q : List V → Hp → Prop} (h : OkL K S H Qd Q) (f : Fr S H S' H') : OkL K S' H' Qd Q := fun d S2 v H2 f2 r2 rd q => h d S2 v H2 (f.trans f2) r2 rd q
theorem OkX.after {c : Cn} {Xd : M.XK} {W : Value → Option Addr → Hp → Prop} (h : OkX c S H Xd W) (f : Fr S H S' H') : OkX c S' H' Xd W := fun k fs S2 H2 cls d f2 r2 rx q => h k fs S2 H2 cls d (f.trans f2) r2 rx q
end
theorem PE.imp {X : Cx} {e : Expr} {t t' : TE} (h : PE X e t) (i : ∀ σ H Q, t' σ H Q → t σ H Q) : PE X e t' := ⟨fun pins s σ H Q I q => h.run pins s σ H Q I (i σ H Q q)⟩
theorem PT.imp {X : Cx} {e : Expr} {t t' : TT} (h : PT X e t) (i : ∀ σ H Q, t' σ H Q → t σ H Q) : PT X e t' := ⟨fun pins s σ H Q I q => h.run pins s σ H Q I (i σ H Q q)⟩
theorem PA.imp {X : Cx} {e : List Expr} {t t' : TA} (h : PA X e t) (i : ∀ σ H Q, t' σ H Q → t σ H Q) : PA X e t' := ⟨fun pos pins s σ H Q I q => h.run pos pins s σ H Q I (i σ H Q q)⟩
end Snd
namespace Snd
open PySem PySem.Spec PyProof.Rows L2
/-! ### the heap grows -/
section
variable {K : Frag} {S : M.Sto} {H : Hp} {p : Addr} {o : HO}
theorem Fr.laid (hp : H p = none) : Fr S H S (L2.upd H p o) := fun a ob h n => ⟨by rw [L2.upd_ne (ne_of_none h hp)]; exact h, n⟩
theorem mupd_same {S : M.Sto} {a : Nat} {o : M.O} : M.upd S a o a = some o := by unfold M.upd; rw [if_pos rfl]
theorem mupd_ne {S : M.Sto} {a b : Nat} {o : M.O} (h : b ≠ a) : M.upd S a o b = S b := by unfold M.upd; rw [if_neg h]
theorem Fr.laidS {mo : M.O} (hp : H p = none) : Fr S H (M.upd S p mo) (L2.upd H p o) := fun a ob h n =>
  have ne := ne_of_none h hp
  ⟨by rw [L2.upd_ne ne]; exact h, by rw [mupd_ne ne]; exact n⟩
theorem RelO.mono {S' : M.Sto} {H' : Hp} (r : RelS K H S) (f : Fr S H S' H') {a : Addr} {mo : M.O} (h : RelO K H a mo) (k : ∀ ob, H a = some ob → H' a = some ob) : RelO K H' a mo := by
  cases mo with
  | lst ds => obtain ⟨vs, h1, h2⟩ := h; exact ⟨vs, k _ h1, h2.mono r f⟩
  | dic => exact k _ h
  | dct kvs => obtain ⟨vs, h1, h2⟩ := h; exact ⟨vs, k _ h1, h2.mono r f⟩
  | ins C fs => obtain ⟨dx, vs, h1, h2, h3⟩ := h; exact ⟨dx, vs, k _ h1, h2.mono r f, h3⟩
theorem RelS.there (r : RelS K H S) {a : Addr} {mo : M.O} (h : S a = some mo) : ∃ ob, H a = some ob := by
  have q := r a mo h
  cases mo with
  | lst ds => obtain ⟨vs, h1, _⟩ := q; exact ⟨_, h1⟩
  | dic => exact ⟨_, q⟩
  | dct kvs => obtain ⟨vs, h1, _⟩ := q; exact ⟨_, h1⟩
  | ins C fs => obtain ⟨dx, vs, h1, _⟩ := q; exact ⟨_, h1⟩
theorem RelS.laid (r : RelS K H S) (hp : H p = Option.none) : RelS K (L2.upd H p o) S := fun a mo h => by
  obtain ⟨ob, hb⟩ := r.there h
  exact (r a mo h).mono r (Fr.laid hp) fun ob h1 => by rw [L2.upd_ne (ne_of_none h1 hp)]; exact h1
theorem RelS.lst (r : RelS K H S) (hp : H p = Option.none) {ds : List M.D} {vs : List V} (h : RelDs K H ds vs) : RelS K (L2.upd H p (.lst vs)) (M.upd S p (.lst ds)) := fun a mo e => by
  have f : Fr S H (M.upd S p (.lst ds)) (L2.upd H p (.lst vs)) := Fr.laidS hp
  by_cases ha : a = p
  · subst ha
    rw [mupd_same] at e
    cases e
    exact ⟨vs, L2.upd_same, h.mono r f⟩
  · rw [mupd_ne ha] at e
    exact (r a mo e).mono r f fun ob h1 => by rw [L2.upd_ne ha]; exact h1
theorem RelS.dic (r : RelS K H S) (hp : H p = Option.none) : RelS K (L2.upd H p (.dK [])) (M.upd S p .dic) := fun a mo e => by
  have f : Fr S H (M.upd S p .dic) (L2.upd H p (.dK [])) := Fr.laidS hp
  by_cases ha : a = p
  · subst ha
    rw [mupd_same] at e
    cases e
    exact L2.upd_same
  · rw [mupd_ne ha] at e
    exact (r a mo e).mono r f fun ob h1 => by rw [L2.upd_ne ha]; exact h1
theorem RelS.dct (r : RelS K H S) (hp : H p = Option.none) {ks : List M.Tx} {ds : List M.D} {vs : List V} (hl : ds.length = ks.length) (h : RelDs K H ds vs) : RelS K (L2.upd H p (.dK ((ks.map fun k => (Sum.inr (stx k) : Key)).zip vs))) (M.upd S p (.dct (ks.zip ds))) := fun a mo e => by
  have f : Fr S H (M.upd S p (.dct (ks.zip ds))) (L2.upd H p (.dK ((ks.map fun k => (Sum.inr (stx k) : Key)).zip vs))) := Fr.laidS hp
  by_cases ha : a = p
  · subst ha
    rw [mupd_same] at e
    cases e
    have e1 : ((ks.zip ds).map fun p => (Sum.inr (stx p.1) : Key)) = ks.map fun k => (Sum.inr (stx k) : Key) := by
      have : ((ks.zip ds).map fun p => (Sum.inr (stx p.1) : Key)) = ((ks.zip ds).map (·.1)).map fun k => (Sum.inr (stx k) : Key) := by rw [List.map_map]; rfl
      rw [this, List.map_fst_zip (by omega)]
    have e2 : (ks.zip ds).map (·.2) = ds := List.map_snd_zip (by omega)
    exact ⟨vs, by rw [e1]; exact L2.upd_same, by rw [e2]; exact h.mono r f⟩
  · rw [mupd_ne ha] at e
    exact (r a mo e).mono r f fun ob h1 => by rw [L2.upd_ne ha]; exact h1
/-- a list of the store is written -/
theorem Fr.wr {xs : List M.D} {a : Addr} {mo : M.O} (h : S a = some (.lst xs)) : Fr S H (M.upd S a mo) (L2.upd H a o) := fun b ob hb n => by
  have ne : b ≠ a := fun z => by rw [z, h] at n; cases n
  exact ⟨by rw [L2.upd_ne ne]; exact hb, by rw [mupd_ne ne]; exact n⟩
theorem RelS.wr (r : RelS K H S) {xs ds : List M.D} {vs : List V} {a : Addr} (h : S a = some (.lst xs)) (hd : RelDs K H ds vs) : RelS K (L2.upd H a (.lst vs)) (M.upd S a (.lst ds)) := fun b mo e => by
  have f : Fr S H (M.upd S a (.lst ds)) (L2.upd H a (.lst vs)) := Fr.wr h
  by_cases hb : b = a
  · subst hb
    rw [mupd_same] at e
    cases e
    exact ⟨vs, L2.upd_same, hd.mono r f⟩
  · rw [mupd_ne hb] at e
    exact (r b mo e).mono r f fun ob h1 => by rw [L2.upd_ne hb]; exact h1
end
section
variable {K : Frag} {S : M.Sto} {H : Hp} {Qd : M.VK} {Q : VK}
theorem OkV.same (h : OkV K S H Qd Q) (r : RelS K H S) {d : M.D} {v : V} (rd : RelD K H d v) (q : Qd d S) : Q v H := h d S v H Fr.refl r rd q
/-- a new tuple -/
theorem OkV.newT (h : OkV K S H Qd Q) (r : RelS K H S) {ds : List M.D} {vs : List V} (rd : RelDs K H ds vs) (q : Qd (.tup ds) S) : ∀ p, H p = none → Q (.ref p) (L2.upd H p (.tup vs)) := fun p hp =>
  h _ _ _ _ (Fr.laid hp) (r.laid hp) (.tup (SqT.of L2.upd_same) (rd.mono r (Fr.laid hp))) q
/-- a new list -/
theorem OkV.newL (h : OkV K S H Qd Q) (r : RelS K H S) {ds : List M.D} {vs : List V} (rd : RelDs K H ds vs) (q : ∀ p, S p = none → Qd (.ref p) (M.upd S p (.lst ds))) : ∀ p, H p = none → Q (.ref p) (L2.upd H p (.lst vs)) := fun p hp =>
  h _ _ _ _ (Fr.laidS hp) (r.lst hp rd) (.ref p) (q p (r.none hp))
end
theorem stx_len (x : M.Tx) : (stx x).length = x.length := by
  show x.toArray.size = _
  simp
theorem stx_app (x y : M.Tx) : stx x ++ stx y = stx (x ++ y) := by
  show Str.append _ _ = _
  unfold Str.append stx
  simp
theorem stx_cps (x : M.Tx) : (stx x).cps.toList = x := by unfold stx; simp
theorem stx_inj {x y : M.Tx} : stx x = stx y ↔ x = y := by
  constructor
  · intro h
    have := congrArg (fun z : Str => z.cps.toList) h
    simpa [stx] using this
  · rintro rfl; rfl
theorem lim_eq : M.lim = sizeLine := by rw [sizeLine_eq]; rfl
theorem log_lt {x n : Nat} (h0 : 0 < n) (h : x < 2 ^ n) : x.log2 < n := by
  by_cases h1 : x = 0
  · subst h1
    rw [Nat.log2_zero]
    exact h0
  · exact (Nat.log2_lt h1).mpr h
theorem sm_log {i : Int} (h : M.sm i) : i.natAbs.log2 < 4000 := by
  unfold M.sm M.big at h
  exact log_lt (Nat.succ_pos _) h
theorem smd_log {i : Int} (h : M.smd i) : i.natAbs.log2 < 8500 := by
  unfold M.smd M.bigd at h
  exact log_lt (Nat.succ_pos _) h
theorem opt_of {α : Type} {o : Option α} {P : α → Prop} (h : M.opt o P) : ∃ a, o = some a ∧ P a := by
  cases o with
  | none => exact False.elim h
  | some a => exact ⟨a, rfl, h⟩
theorem onI_of {d : M.D} {P : Int → Prop} (h : M.onI d P) : ∃ i, d = .int i ∧ P i := by
  cases d with
  | int i => exact ⟨i, rfl, h⟩
  | _ => exact False.elim h
theorem onB_of {d : M.D} {P : Bool → Prop} (h : M.onB d P) : ∃ i, d = .bl i ∧ P i := by
  cases d with
  | bl i => exact ⟨i, rfl, h⟩
  | _ => exact False.elim h
theorem onR_of {d : M.D} {P : Nat → Prop} (h : M.onR d P) : ∃ i, d = .ref i ∧ P i := by
  cases d with
  | ref i => exact ⟨i, rfl, h⟩
  | _ => exact False.elim h
theorem lstAt_some {S : M.Sto} {a : Nat} {xs : List M.D} (h : M.lstAt S a = some xs) : S a = some (.lst xs) := by
  unfold M.lstAt at h
  cases e : S a with
  | none => rw [e] at h; cases h
  | some o =>
    rw [e] at h
    cases o with
    | dic => cases h
    | dct kvs => cases h
    | ins C fs => cases h
    | lst ys => cases h; rfl
theorem lstAt_of {S : M.Sto} {a : Nat} {xs : List M.D} (h : S a = some (.lst xs)) : M.lstAt S a = some xs := by
  unfold M.lstAt
  rw [h] <;> rfl
theorem RelS.at {K : Frag} {H : Hp} {S : M.Sto} (r : RelS K H S) {a : Nat} {xs : List M.D} (h : M.lstAt S a = some xs) : ∃ vs, H a = some (.lst vs) ∧ RelDs K H xs vs := r a _ (lstAt_some h)
/-- a list, by value or of the store, to be read -/
theorem lsOf_rel {K : Frag} {H : Hp} {S : M.Sto} (r : RelS K H S) {d : M.D} {v : V} {xs : List M.D} (rd : RelD K H d v) (h : M.lsOf S d = some xs) : ∃ a vs, v = .ref a ∧ SqL K H a vs ∧ RelDs K H xs vs := by
  cases rd with
  | ref a => obtain ⟨vs, h1, h2⟩ := r.at h; exact ⟨a, vs, rfl, SqL.of h1, h2⟩
  | fl h1 h2 => cases h; exact ⟨_, _, rfl, h1.sq, h2⟩
  | _ => cases h
theorem sqOf_rel {K : Frag} {H : Hp} {S : M.Sto} (r : RelS K H S) {d : M.D} {v : V} {xs : List M.D} (rd : RelD K H d v) (h : M.sqOf S d = some xs) : ∃ a vs, v = .ref a ∧ (SqL K H a vs ∨ SqT K H a vs) ∧ RelDs K H xs vs := by
  cases rd with
  | ref a => obtain ⟨vs, h1, h2⟩ := r.at h; exact ⟨a, vs, rfl, .inl (SqL.of h1), h2⟩
  | fl h1 h2 => cases h; exact ⟨_, _, rfl, .inl h1.sq, h2⟩
  | tup h1 h2 => cases h; exact ⟨_, _, rfl, .inr h1, h2⟩
  | _ => cases h
/-! ### two-place operators -/
def rB (K : Frag) (o : M.Bo) : R2 := fun v u H Q => ∃ x y S Qd, RelS K H S ∧ RelD K H x v ∧ RelD K H y u ∧ M.binD o x y S Qd ∧ OkV K S H Qd Q
def boOk : M.Bo → Operator → Bool
  | .add, .Add => true | .sub, .Sub => true | .mul, .Mult => true | .fdiv, .FloorDiv => true | .mod, .Mod => true | .pow, .Pow => true
  | _, _ => false
section
variable {X : Cx}
theorem ob_add : OpR X (binaryOp .Add) (rB X.K .add) := by
  intro pins s σ H v u vv uu Q I rv ru h
  obtain ⟨x, y, S, Qd, r, rx, ry, w, hq⟩ := h
  cases rx with
  | int i =>
    cases ry with
    | int j => exact op_add pins s σ H _ _ vv uu Q I rv ru ⟨i, j, rfl, rfl, hq.same r (.int _) w⟩
    | _ => exact False.elim w
  | str a =>
    cases ry with
    | str b =>
      obtain ⟨hz, w⟩ := w
      exact op_add_str pins s σ H _ _ vv uu Q I rv ru ⟨_, _, rfl, rfl, by rw [stx_len, stx_len, ← lim_eq]; exact hz, by rw [stx_app]; exact hq.same r (.str _) w⟩
    | _ => exact False.elim w
  | tup hs hd =>
    cases ry with
    | tup hs2 hd2 =>
      obtain ⟨hz, w⟩ := w
      refine op_catA pins s σ H _ _ vv uu Q I rv ru ⟨_, _, _, _, rfl, rfl, hs, hs2, by rw [← hd.length, ← hd2.length, ← lim_eq]; exact hz, fun e => ?_, fun _ e => ?_, fun _ _ => hq.newT r (hd.append hd2) w⟩
      · subst e
        cases hd
        exact hq.same r (.tup hs2 hd2) w
      · subst e
        cases hd2
        rw [List.append_nil] at w
        exact hq.same r (.tup hs hd) w
    | _ => exact False.elim w
  | ref a =>
    cases ry with
    | ref b =>
      obtain ⟨xs, e1, w⟩ := opt_of w
      obtain ⟨ys, e2, hz, w⟩ := opt_of w
      obtain ⟨vs, h1, d1⟩ := r.at e1
      obtain ⟨us, h2, d2⟩ := r.at e2
      refine op_cat pins s σ H _ _ vv uu Q I rv ru ⟨a, b, vs, us, rfl, rfl, h1, h2, ?_, hq.newL r (d1.append d2) w⟩
      rw [← d1.length, ← d2.length, ← lim_eq, ← List.length_append]
      exact hz
    | _ => exact False.elim w
  | _ => exact False.elim w
theorem ob_sub : OpR X (binaryOp .Sub) (rB X.K .sub) := by
  intro pins s σ H v u vv uu Q I rv ru h
  obtain ⟨x, y, S, Qd, r, rx, ry, w, hq⟩ := h
  obtain ⟨i, rfl, w⟩ := onI_of w
  obtain ⟨j, rfl, w⟩ := onI_of w
  cases rx
  cases ry
  exact op_sub pins s σ H _ _ vv uu Q I rv ru ⟨i, j, rfl, rfl, hq.same r (.int _) w⟩
theorem ob_mul : OpR X (binaryOp .Mult) (rB X.K .mul) := by
  intro pins s σ H v u vv uu Q I rv ru h
  obtain ⟨x, y, S, Qd, r, rx, ry, w, hq⟩ := h
  cases rx with
  | int i =>
    cases ry with
    | int j =>
      obtain ⟨s1, s2, w⟩ := w
      have l1 := sm_log s1
      have l2 := sm_log s2
      exact op_mulW pins s σ H _ _ vv uu Q I rv ru ⟨i, j, rfl, rfl, by show _ + _ < 1000000; omega, hq.same r (.int _) w⟩
    | _ => exact False.elim w
  | ref a =>
    cases ry with
    | int k =>
      obtain ⟨xs, e1, k0, k1, hz, w⟩ := opt_of w
      obtain ⟨vs, h1, d1⟩ := r.at e1
      refine op_rep pins s σ H _ _ vv uu Q I rv ru ⟨a, k, vs, rfl, rfl, h1, by omega, by omega, ?_, hq.newL r (d1.rep _) w⟩
      rw [List.length_flatten, List.map_replicate, List.sum_replicate_nat] at hz
      rw [← d1.length, ← lim_eq, Nat.mul_comm]
      exact hz
    | _ => exact False.elim w
  | _ => exact False.elim w
theorem ob_fdiv : OpR X (binaryOp .FloorDiv) (rB X.K .fdiv) := by
  intro pins s σ H v u vv uu Q I rv ru h
  obtain ⟨x, y, S, Qd, r, rx, ry, w, hq⟩ := h
  obtain ⟨i, rfl, w⟩ := onI_of w
  obtain ⟨j, rfl, w⟩ := onI_of w
  cases rx
  cases ry
  obtain ⟨s1, s2, w⟩ := w
  obtain ⟨t, rfl⟩ := rv
  obtain ⟨t', rfl⟩ := ru
  have l2 := smd_log s2
  exact floordiv_int s1 ⟨.int (i.fdiv j), H, I.tok _, ⟨_, rfl⟩, hq.same r (.int _) w⟩ (.inl (PyProof.noPylong_of_log2 (by omega)))
theorem ob_mod : OpR X (binaryOp .Mod) (rB X.K .mod) := by
  intro pins s σ H v u vv uu Q I rv ru h
  obtain ⟨x, y, S, Qd, r, rx, ry, w, hq⟩ := h
  obtain ⟨i, rfl, w⟩ := onI_of w
  obtain ⟨j, rfl, w⟩ := onI_of w
  cases rx
  cases ry
  obtain ⟨s1, w⟩ := w
  exact op_modN pins s σ H _ _ vv uu Q I rv ru ⟨i, j, rfl, rfl, s1, hq.same r (.int _) w⟩
theorem ob_pow : OpR X (binaryOp .Pow) (rB X.K .pow) := by
  intro pins s σ H v u vv uu Q I rv ru h
  obtain ⟨x, y, S, Qd, r, rx, ry, w, hq⟩ := h
  obtain ⟨i, rfl, w⟩ := onI_of w
  obtain ⟨j, rfl, w⟩ := onI_of w
  cases rx
  cases ry
  obtain ⟨s1, s2, s3, w⟩ := w
  obtain ⟨t, rfl⟩ := rv
  obtain ⟨t', rfl⟩ := ru
  have l1 := sm_log s1
  have b : (Builtin.Int.intBits i : Int) ≤ 4001 := by
    unfold Builtin.Int.intBits
    split <;> omega
  refine PyProof.Rows.pow_int s2 ?_ ⟨.int (i ^ j.toNat), H, I.tok _, ⟨_, rfl⟩, hq.same r (.int _) w⟩
  have : (Builtin.Int.intBits i : Int) * j ≤ 4001 * 1000 := by
    refine Int.le_trans (Int.mul_le_mul_of_nonneg_right b s2) ?_
    omega
  omega
theorem ob_all : ∀ {o : M.Bo} {p : Operator} (h : boOk o p = true), OpR X (binaryOp p) (rB X.K o)
  | .add, .Add, _ => ob_add
  | .sub, .Sub, _ => ob_sub
  | .mul, .Mult, _ => ob_mul
  | .fdiv, .FloorDiv, _ => ob_fdiv
  | .mod, .Mod, _ => ob_mod
  | .pow, .Pow, _ => ob_pow
end
end Snd
namespace Snd
open PySem PySem.Spec PyProof.Rows L2
/-! ### == of data -/
def toP : Nat → M.Sto → M.D → PyData
  | 0, _, _ => .none
  | n + 1, S, d => (match d with
    | .non => .none
    | .bl b => .bool b
    | .int i => .int i
    | .str x => .str (stx x)
    | .tup xs => .tuple (xs.map (toP n S))
    | .fl xs => .list (xs.map (toP n S))
    | .ref a => .list (((M.lstAt S a).getD []).map (toP n S))
    | .xn _ _ => .none)
theorem optB_of {α : Type} {o : Option α} {P : α → Bool} (h : M.optB o P = true) : ∃ a, o = some a ∧ P a = true := by
  cases o with
  | none => cases h
  | some a => exact ⟨a, rfl, h⟩
theorem depthAll_le {n : Nat} {f : M.D → PyData} (h : ∀ d, (f d).depth ≤ n) : ∀ xs : List M.D, PyData.depthAll (xs.map f) ≤ n
  | [] => Nat.zero_le _
  | x :: xs => by
    rw [List.map_cons]
    unfold PyData.depthAll
    exact Nat.max_le.mpr ⟨h x, depthAll_le h xs⟩
theorem toP_depth : ∀ (n : Nat) (S : M.Sto) (d : M.D), (toP n S d).depth ≤ n
  | 0, _, _ => by simp [toP, PyData.depth]
  | n + 1, S, d => by
    unfold toP
    have ih := toP_depth n S
    cases d with
    | tup xs => simp only [PyData.depth]; have := depthAll_le ih xs; omega
    | fl xs => simp only [PyData.depth]; have := depthAll_le ih xs; omega
    | ref a => simp only [PyData.depth]; have := depthAll_le ih ((M.lstAt S a).getD []); omega
    | _ => simp [PyData.depth]
theorem canAll {f : M.D → PyData} {ok : M.D → Bool} (h : ∀ d, ok d = true → (f d).canLay0 = true) : ∀ {xs : List M.D}, M.fitL ok xs = true → PyData.canLayAll0 (xs.map f) = true
  | [], _ => by simp [PyData.canLayAll0]
  | x :: xs, e => by
    unfold M.fitL at e
    obtain ⟨e1, e2⟩ := Bool.and_eq_true_iff.mp e
    rw [List.map_cons]
    unfold PyData.canLayAll0
    rw [h x e1, canAll h e2]
    rfl
theorem fit_lay : ∀ {n : Nat} {S : M.Sto} {d : M.D}, M.fit n S d = true → (toP n S d).canLay0 = true
  | 0, _, _, h => by simp [M.fit] at h
  | n + 1, S, d, h => by
    unfold M.fit at h
    unfold toP
    have ih : ∀ d, M.fit n S d = true → (toP n S d).canLay0 = true := fun d => fit_lay
    cases d with
    | tup xs => simp only [PyData.canLay0]; exact canAll ih h
    | fl xs => simp only [PyData.canLay0]; exact canAll ih h
    | ref a =>
      obtain ⟨xs, e, h⟩ := optB_of h
      simp only [PyData.canLay0, e, Option.getD_some]; exact canAll ih h
    | str x =>
      simp only [PyData.canLay0, PyData.strOk, stx]
      simpa using h
    | xn c fs => cases h
    | _ => simp [PyData.canLay0]
section
variable {K : Frag} {H : Hp} {S : M.Sto}
theorem dpAll {f : M.D → PyData} {ok : M.D → Bool} (h : ∀ d v, ok d = true → RelD K H d v → Dp K H v (f d)) : ∀ {xs : List M.D} {vs : List V}, M.fitL ok xs = true → RelDs K H xs vs → DpAll K H vs (xs.map f)
  | [], _, _, .nil => .nil
  | x :: xs, _, e, .cons a b => by
    unfold M.fitL at e
    obtain ⟨e1, e2⟩ := Bool.and_eq_true_iff.mp e
    exact .cons (h x _ e1 a) (dpAll h e2 b)
theorem fit_dp (r : RelS K H S) : ∀ {n : Nat} {d : M.D} {v : V}, M.fit n S d = true → RelD K H d v → Dp K H v (toP n S d)
  | 0, _, _, h, _ => by simp [M.fit] at h
  | n + 1, d, v, h, rd => by
    unfold M.fit at h
    unfold toP
    have ih : ∀ d v, M.fit n S d = true → RelD K H d v → Dp K H v (toP n S d) := fun d v => fit_dp r
    cases rd with
    | non => exact .non
    | bl b => exact .bl b
    | int i => exact .int i
    | str x => exact .str _
    | tup hs hd => exact .tup hs (dpAll ih h hd)
    | fl hs hd => exact .lst hs.sq (dpAll ih h hd)
    | ref a =>
      obtain ⟨xs, e, h⟩ := optB_of h
      obtain ⟨vs, h1, h2⟩ := r.at e
      simp only [e, Option.getD_some]
      exact .lst (SqL.of h1) (dpAll ih h h2)
    | xn _ => cases h
    | xf _ _ _ _ => cases h
theorem eqLB_ok {f : M.D → PyData} {ok : M.D → Bool} {eq : M.D → M.D → Bool} (h : ∀ x y, ok x = true → ok y = true → eq x y = PyData.eqv (f x) (f y)) :
    ∀ xs ys : List M.D, M.fitL ok xs = true → M.fitL ok ys = true → M.eqLB eq xs ys = PyData.eqvAll (xs.map f) (ys.map f)
  | [], [], _, _ => by simp [M.eqLB, PyData.eqvAll]
  | [], _ :: _, _, _ => by simp [M.eqLB, PyData.eqvAll]
  | _ :: _, [], _, _ => by simp [M.eqLB, PyData.eqvAll]
  | x :: xs, y :: ys, h1, h2 => by
    unfold M.fitL at h1 h2
    obtain ⟨a1, a2⟩ := Bool.and_eq_true_iff.mp h1
    obtain ⟨b1, b2⟩ := Bool.and_eq_true_iff.mp h2
    simp only [M.eqLB, List.map_cons, PyData.eqvAll, h x y a1 b1, eqLB_ok h xs ys a2 b2]
theorem stx_beq (x y : M.Tx) : (stx x == stx y) = (x == y) := by
  rw [Bool.eq_iff_iff]
  simp [stx_inj]
/-- a list of the store reads like one by value -/
theorem ref_fl {n : Nat} {a : Nat} {xs : List M.D} (e : M.lstAt S a = some xs) : toP (n + 1) S (.ref a) = toP (n + 1) S (.fl xs) ∧ M.fit (n + 1) S (.ref a) = M.fit (n + 1) S (.fl xs) ∧ (∀ y, M.eqB (n + 1) S (.ref a) y = M.eqB (n + 1) S (.fl xs) y) ∧ ∀ y, M.eqB (n + 1) S y (.ref a) = M.eqB (n + 1) S y (.fl xs) := by
  refine ⟨?_, ?_, fun y => ?_, fun y => ?_⟩
  · show PyData.list (((M.lstAt S a).getD []).map (toP n S)) = PyData.list (xs.map (toP n S))
    rw [e] <;> rfl
  · show M.optB (M.lstAt S a) (M.fitL (M.fit n S)) = M.fitL (M.fit n S) xs
    rw [e] <;> rfl
  · have q : M.eqO (M.eqLB (M.eqB n S)) (M.lstAt S a) (M.lsOf S y) = M.eqO (M.eqLB (M.eqB n S)) (some xs) (M.lsOf S y) := by rw [e]
    cases y <;> exact q
  · cases y <;> first
      | rfl
      | (rename_i b; exact (show M.eqO (M.eqLB (M.eqB n S)) (M.lstAt S b) (M.lstAt S a) = M.eqO (M.eqLB (M.eqB n S)) (M.lstAt S b) (some xs) by rw [e]))
      | (rename_i ys; exact (show M.eqO (M.eqLB (M.eqB n S)) (some ys) (M.lstAt S a) = M.eqO (M.eqLB (M.eqB n S)) (some ys) (some xs) by rw [e]))
theorem fit_ref {n : Nat} {a : Nat} (h : M.fit (n + 1) S (.ref a) = true) : ∃ xs, M.lstAt S a = some xs := let ⟨xs, e, _⟩ := optB_of h; ⟨xs, e⟩
theorem eqv_tl {xs ys : List PyData} : PyData.eqv (.tuple xs) (.list ys) = false ∧ PyData.eqv (.list xs) (.tuple ys) = false := by
  constructor <;> simp [PyData.eqv]
theorem eqB_ok (S : M.Sto) (n : Nat) : ∀ (x y : M.D), M.fit n S x = true → M.fit n S y = true → M.eqB n S x y = PyData.eqv (toP n S x) (toP n S y) := by
  induction n with
  | zero => intro _ _ h _; simp [M.fit] at h
  | succ n ih =>
    have main : ∀ (x y : M.D), (∀ a, x ≠ .ref a) → (∀ a, y ≠ .ref a) → M.fit (n + 1) S x = true → M.fit (n + 1) S y = true → M.eqB (n + 1) S x y = PyData.eqv (toP (n + 1) S x) (toP (n + 1) S y) := by
      intro x y nx ny h1 h2
      cases x <;> cases y <;> first
        | exact absurd rfl (nx _)
        | exact absurd rfl (ny _)
        | exact absurd (show false = true from h1) Bool.false_ne_true
        | exact absurd (show false = true from h2) Bool.false_ne_true
        | (show M.eqLB (M.eqB n S) _ _ = PyData.eqv (.tuple _) (.tuple _); rw [PyData.eqv]; exact eqLB_ok ih _ _ h1 h2)
        | (show M.eqLB (M.eqB n S) _ _ = PyData.eqv (.list _) (.list _); rw [PyData.eqv]; exact eqLB_ok ih _ _ h1 h2)
        | (show (_ == _) = PyData.eqv (.str _) (.str _); rw [PyData.eqv, stx_beq])
        | (show _ = PyData.eqv _ _; unfold toP; simp only [PyData.eqv]; rfl)
    have m2 : ∀ (x y : M.D), (∀ a, x ≠ .ref a) → M.fit (n + 1) S x = true → M.fit (n + 1) S y = true → M.eqB (n + 1) S x y = PyData.eqv (toP (n + 1) S x) (toP (n + 1) S y) := by
      intro x y nx h1 h2
      by_cases hy : ∃ a, y = .ref a
      · obtain ⟨a, rfl⟩ := hy
        obtain ⟨xs, e⟩ := fit_ref h2
        obtain ⟨e1, e2, _, e4⟩ := ref_fl (n := n) e
        rw [e1, e4]
        exact main _ _ nx (fun _ z => nomatch z) h1 (by rw [← e2]; exact h2)
      · exact main _ _ nx (fun a z => hy ⟨a, z⟩) h1 h2
    intro x y h1 h2
    by_cases hx : ∃ a, x = .ref a
    · obtain ⟨a, rfl⟩ := hx
      obtain ⟨xs, e⟩ := fit_ref h1
      obtain ⟨e1, e2, e3, _⟩ := ref_fl (n := n) e
      rw [e1, e3]
      exact m2 _ _ (fun _ z => nomatch z) (by rw [← e2]; exact h1) h2
    · exact m2 _ _ (fun a z => hx ⟨a, z⟩) h1 h2
theorem shaped_of {n : Nat} {d : M.D} (hn : n ≤ 32) (h : M.fit n S d = true) : SeqAt.shaped (toP n S d) = true := by
  unfold SeqAt.shaped
  rw [fit_lay h]
  have := toP_depth n S d
  simp only [Bool.true_and, decide_eq_true_eq]
  omega
end
end Snd
namespace Snd
open PySem PySem.Spec PyProof.Rows L2
/-! ### comparisons -/
def coOk : M.Co → CmpOp → Bool
  | .eq, .Eq => true | .ne, .NotEq => true | .lt, .Lt => true | .le, .LtE => true | .gt, .Gt => true | .ge, .GtE => true
  | .is_, .Is => true | .isn, .IsNot => true | .in_, .In => true | .nin, .NotIn => true
  | _, _ => false
def rCm (K : Frag) (o : M.Co) : R2 := fun v u H Q => ∃ x y S P, RelS K H S ∧ RelD K H x v ∧ RelD K H y u ∧ M.cmpD o x y S P ∧ ∀ b, P b → Q (.bl b) H
section
variable {X : Cx}
theorem oc_lt : OpR X (compareOp .Lt) (rCm X.K .lt) := by
  intro pins s σ H v u vv uu Q I rv ru h
  obtain ⟨x, y, S, P, r, rx, ry, w, hq⟩ := h
  obtain ⟨i, rfl, w⟩ := onI_of w
  obtain ⟨j, rfl, w⟩ := onI_of w
  cases rx
  cases ry
  exact op_lt pins s σ H _ _ vv uu Q I rv ru ⟨i, j, rfl, rfl, hq _ w⟩
theorem oc_le : OpR X (compareOp .LtE) (rCm X.K .le) := by
  intro pins s σ H v u vv uu Q I rv ru h
  obtain ⟨x, y, S, P, r, rx, ry, w, hq⟩ := h
  have cs : (∃ a b, x = .str a ∧ y = .str b ∧ P (M.leT a b)) ∨ M.onI x fun i => M.onI y fun j => P (decide (i ≤ j)) := by
    cases x <;> cases y <;> first | exact .inl ⟨_, _, rfl, rfl, w⟩ | exact .inr w
  rcases cs with ⟨a, b, rfl, rfl, w⟩ | w
  · cases rx
    cases ry
    refine op_le_str pins s σ H _ _ vv uu Q I rv ru ⟨_, _, rfl, rfl, ?_⟩
    rw [stx_cps, stx_cps]
    exact hq _ w
  obtain ⟨i, ei, w2⟩ := onI_of w
  obtain ⟨j, ej, w3⟩ := onI_of w2
  subst ei ej
  cases rx
  cases ry
  exact op_le pins s σ H _ _ vv uu Q I rv ru ⟨i, j, rfl, rfl, hq _ w3⟩
theorem oc_gt : OpR X (compareOp .Gt) (rCm X.K .gt) := by
  intro pins s σ H v u vv uu Q I rv ru h
  obtain ⟨x, y, S, P, r, rx, ry, w, hq⟩ := h
  obtain ⟨i, rfl, w⟩ := onI_of w
  obtain ⟨j, rfl, w⟩ := onI_of w
  cases rx
  cases ry
  exact op_gt pins s σ H _ _ vv uu Q I rv ru ⟨i, j, rfl, rfl, hq _ w⟩
theorem oc_ge : OpR X (compareOp .GtE) (rCm X.K .ge) := by
  intro pins s σ H v u vv uu Q I rv ru h
  obtain ⟨x, y, S, P, r, rx, ry, w, hq⟩ := h
  obtain ⟨i, rfl, w⟩ := onI_of w
  obtain ⟨j, rfl, w⟩ := onI_of w
  cases rx
  cases ry
  exact op_ge pins s σ H _ _ vv uu Q I rv ru ⟨i, j, rfl, rfl, hq _ w⟩
theorem eq_cases {x y : M.D} {S : M.Sto} {P : Bool → Prop} (w : M.cmpD .eq x y S P) : (∃ a b, x = .str a ∧ y = .str b ∧ P (a == b)) ∨ (M.fit M.dep S x = true ∧ M.fit M.dep S y = true ∧ P (M.eqB M.dep S x y)) := by
  cases x <;> cases y <;> first | exact .inl ⟨_, _, rfl, rfl, w⟩ | exact .inr w
theorem ne_cases {x y : M.D} {S : M.Sto} {P : Bool → Prop} (w : M.cmpD .ne x y S P) : (∃ a b, x = .str a ∧ y = .str b ∧ P (!(a == b))) ∨ (M.fit M.dep S x = true ∧ M.fit M.dep S y = true ∧ P (!M.eqB M.dep S x y)) := by
  cases x <;> cases y <;> first | exact .inl ⟨_, _, rfl, rfl, w⟩ | exact .inr w
theorem dec_stx {a b : M.Tx} : decide (V.str (stx a) = V.str (stx b)) = (a == b) := by
  by_cases h : a = b
  · subst h; simp
  · have h2 : ¬ V.str (stx a) = V.str (stx b) := fun e => h (stx_inj.mp (V.str.inj e))
    rw [decide_eq_false h2]
    exact (beq_eq_false_iff_ne.mpr h).symm
theorem oc_eq (hu : X.A.units + 64 < cLine) : OpR X (compareOp .Eq) (rCm X.K .eq) := by
  intro pins s σ H v u vv uu Q I rv ru h
  obtain ⟨x, y, S, P, r, rx, ry, w, hq⟩ := h
  rcases eq_cases w with ⟨a, b, rfl, rfl, w⟩ | ⟨f1, f2, w⟩
  · cases rx
    cases ry
    exact op_eq pins s σ H _ _ vv uu Q I rv ru ⟨rfl, by rw [dec_stx]; exact hq _ w⟩
  · refine op_eqD hu pins s σ H _ _ vv uu Q I rv ru ⟨_, _, fit_dp r f1 rx, fit_dp r f2 ry, shaped_of (by decide) f1, shaped_of (by decide) f2, ?_⟩
    rw [← eqB_ok S _ x y f1 f2]
    exact hq _ w
theorem oc_ne (hu : X.A.units + 64 < cLine) : OpR X (compareOp .NotEq) (rCm X.K .ne) := by
  intro pins s σ H v u vv uu Q I rv ru h
  obtain ⟨x, y, S, P, r, rx, ry, w, hq⟩ := h
  rcases ne_cases w with ⟨a, b, rfl, rfl, w⟩ | ⟨f1, f2, w⟩
  · cases rx
    cases ry
    exact op_ne pins s σ H _ _ vv uu Q I rv ru ⟨rfl, by rw [dec_stx]; exact hq _ w⟩
  · refine op_neD hu pins s σ H _ _ vv uu Q I rv ru ⟨_, _, fit_dp r f1 rx, fit_dp r f2 ry, shaped_of (by decide) f1, shaped_of (by decide) f2, ?_⟩
    rw [← eqB_ok S _ x y f1 f2]
    exact hq _ w
theorem is_non {K : Frag} {H : Hp} {x : M.D} {v : V} (r : RelD K H x v) : decide (v = .non) = M.isNon x := by
  cases r <;> simp [M.isNon]
theorem oc_is : OpR X (compareOp .Is) (rCm X.K .is_) := by
  intro pins s σ H v u vv uu Q I rv ru h
  obtain ⟨x, y, S, P, r, rx, ry, w, hq⟩ := h
  cases ry with
  | non => exact op_isN pins s σ H _ _ vv uu Q I rv ru ⟨rfl, by rw [is_non rx]; exact hq _ w⟩
  | bl b =>
    obtain ⟨a, rfl, w⟩ := onB_of w
    cases rx
    exact op_isBl pins s σ H _ _ vv uu Q I rv ru ⟨a, b, rfl, rfl, by have e : (a == b) = decide (a = b) := (by cases a <;> cases b <;> rfl); first | exact hq _ w | (rw [← e]; exact hq _ w)⟩
  | _ => exact False.elim w
theorem oc_isn : OpR X (compareOp .IsNot) (rCm X.K .isn) := by
  intro pins s σ H v u vv uu Q I rv ru h
  obtain ⟨x, y, S, P, r, rx, ry, w, hq⟩ := h
  cases ry with
  | non => exact op_notN pins s σ H _ _ vv uu Q I rv ru ⟨rfl, by rw [is_non rx]; exact hq _ w⟩
  | bl b =>
    obtain ⟨a, rfl, w⟩ := onB_of w
    cases rx
    exact op_notBl pins s σ H _ _ vv uu Q I rv ru ⟨a, b, rfl, rfl, by have e : (a == b) = decide (a = b) := (by cases a <;> cases b <;> rfl); first | exact hq _ w | (rw [← e]; exact hq _ w)⟩
  | _ => exact False.elim w
theorem any_eqB {S : M.Sto} {n : Nat} {x : M.D} (fx : M.fit n S x = true) : ∀ {ys : List M.D}, M.fitL (M.fit n S) ys = true → (ys.any fun y => M.eqB n S y x) = ((ys.map (toP n S)).any fun z => PyData.eqv z (toP n S x))
  | [], _ => rfl
  | y :: ys, h => by
    unfold M.fitL at h
    obtain ⟨h1, h2⟩ := Bool.and_eq_true_iff.mp h
    rw [List.any_cons, List.map_cons, List.any_cons, any_eqB fx h2, eqB_ok S n y x h1 fx]
theorem room_in {A : Around} {n : Nat} {S : M.Sto} {x : M.D} {ys : List PyData} (hn : n ≤ 32) (hu : A.units + 64 < cLine) : A.units + 1 + min (PyData.depthAll ys) (toP n S x).depth < cLine := by
  have h1 := toP_depth n S x
  have h2 : min (PyData.depthAll ys) (toP n S x).depth ≤ (toP n S x).depth := Nat.min_le_right _ _
  omega
theorem onC_of {d : M.D} {P : Nat → Prop} (h : M.onC d P) : ∃ c, d = .str [c] ∧ P c := by
  cases d with
  | str a =>
    match a, h with
    | [c], h => exact ⟨c, rfl, h⟩
  | _ => exact False.elim h
theorem oc_in (hu : X.A.units + 64 < cLine) : OpR X (compareOp .In) (rCm X.K .in_) := by
  intro pins s σ H v u vv uu Q I rv ru h
  obtain ⟨x, y, S, P, r, rx, ry, w, hq⟩ := h
  have seq : ∀ ys, M.sqOf S y = some ys → M.fit M.dep S x = true → M.fitL (M.fit M.dep S) ys = true → P (M.inB S x ys) → wpAny (model X.prog X.w) X.A (compareOp .In vv uu) (EP X pins σ Q) X.xe s := by
    intro ys e f1 f2 w
    obtain ⟨a, vs, rfl, hs, hd⟩ := sqOf_rel r ry e
    cases ru
    obtain ⟨as, r1⟩ := Dp.reads I _ v vv (fit_dp r f1 rx) rv
    have dps := dpAll (K := X.K) (H := H) (f := toP M.dep S) (fun d v h1 h2 => fit_dp r h1 h2) f2 hd
    have cl : PyData.canLayAll0 (ys.map (toP M.dep S)) = true := canAll (fun d h => fit_lay h) f2
    have w2 : P ((ys.map (toP M.dep S)).any fun z => PyData.eqv z (toP M.dep S x)) := by rw [← any_eqB f1 f2]; exact w
    rcases hs with hs | hs
    · obtain ⟨bs, r2⟩ := Dp.reads I (.list (ys.map (toP M.dep S))) _ _ (Dp.lst hs dps) rfl
      exact SeqAt.in_list_reads r2 r1 cl (fit_lay f1) (room_in (by decide) hu) ⟨.bl _, H, I, rfl, hq _ w2⟩
    · obtain ⟨bs, r2⟩ := Dp.reads I (.tuple (ys.map (toP M.dep S))) _ _ (Dp.tup hs dps) rfl
      exact SeqAt.in_tuple_reads r2 r1 cl (fit_lay f1) (room_in (by decide) hu) ⟨.bl _, H, I, rfl, hq _ w2⟩
  cases ry with
  | str b =>
    obtain ⟨c, rfl, w⟩ := onC_of w
    cases rx
    refine op_in_sign pins s σ H _ _ vv uu Q I rv ru ⟨c, _, rfl, rfl, ?_⟩
    have e : decide (c ∈ (stx b).cps.toList) = b.contains c := by rw [stx_cps]; simp
    rw [e]
    exact hq _ w
  | ref a => obtain ⟨ys, e, f1, f2, w⟩ := opt_of (show M.opt (M.sqOf S (.ref a)) (fun ys => M.fit M.dep S x = true ∧ M.fitL (M.fit M.dep S) ys = true ∧ P (M.inB S x ys)) from w); exact seq ys e f1 f2 w
  | tup h1 h2 => obtain ⟨ys, e, f1, f2, w⟩ := opt_of (show M.opt (M.sqOf S (.tup _)) (fun ys => M.fit M.dep S x = true ∧ M.fitL (M.fit M.dep S) ys = true ∧ P (M.inB S x ys)) from w); exact seq ys e f1 f2 w
  | fl h1 h2 => obtain ⟨ys, e, f1, f2, w⟩ := opt_of (show M.opt (M.sqOf S (.fl _)) (fun ys => M.fit M.dep S x = true ∧ M.fitL (M.fit M.dep S) ys = true ∧ P (M.inB S x ys)) from w); exact seq ys e f1 f2 w
  | _ => exact False.elim w
theorem oc_nin (hu : X.A.units + 64 < cLine) : OpR X (compareOp .NotIn) (rCm X.K .nin) := by
  intro pins s σ H v u vv uu Q I rv ru h
  obtain ⟨x, y, S, P, r, rx, ry, w, hq⟩ := h
  have seq : ∀ ys, M.sqOf S y = some ys → M.fit M.dep S x = true → M.fitL (M.fit M.dep S) ys = true → P (!M.inB S x ys) → wpAny (model X.prog X.w) X.A (compareOp .NotIn vv uu) (EP X pins σ Q) X.xe s := by
    intro ys e f1 f2 w
    obtain ⟨a, vs, rfl, hs, hd⟩ := sqOf_rel r ry e
    cases ru
    obtain ⟨as, r1⟩ := Dp.reads I _ v vv (fit_dp r f1 rx) rv
    have dps := dpAll (K := X.K) (H := H) (f := toP M.dep S) (fun d v h1 h2 => fit_dp r h1 h2) f2 hd
    have cl : PyData.canLayAll0 (ys.map (toP M.dep S)) = true := canAll (fun d h => fit_lay h) f2
    have w2 : P (!(ys.map (toP M.dep S)).any fun z => PyData.eqv z (toP M.dep S x)) := by rw [← any_eqB f1 f2]; exact w
    rcases hs with hs | hs
    · obtain ⟨bs, r2⟩ := Dp.reads I (.list (ys.map (toP M.dep S))) _ _ (Dp.lst hs dps) rfl
      exact SeqAt.notIn_list_reads r2 r1 cl (fit_lay f1) (room_in (by decide) hu) ⟨.bl _, H, I, rfl, hq _ w2⟩
    · obtain ⟨bs, r2⟩ := Dp.reads I (.tuple (ys.map (toP M.dep S))) _ _ (Dp.tup hs dps) rfl
      exact SeqAt.notIn_tuple_reads r2 r1 cl (fit_lay f1) (room_in (by decide) hu) ⟨.bl _, H, I, rfl, hq _ w2⟩
  cases ry with
  | str b =>
    obtain ⟨c, rfl, w⟩ := onC_of w
    cases rx
    refine op_notIn_sign pins s σ H _ _ vv uu Q I rv ru ⟨c, _, rfl, rfl, ?_⟩
    have e : decide (c ∈ (stx b).cps.toList) = b.contains c := by rw [stx_cps]; simp
    rw [e]
    exact hq _ w
  | ref a => obtain ⟨ys, e, f1, f2, w⟩ := opt_of (show M.opt (M.sqOf S (.ref a)) (fun ys => M.fit M.dep S x = true ∧ M.fitL (M.fit M.dep S) ys = true ∧ P (!M.inB S x ys)) from w); exact seq ys e f1 f2 w
  | tup h1 h2 => obtain ⟨ys, e, f1, f2, w⟩ := opt_of (show M.opt (M.sqOf S (.tup _)) (fun ys => M.fit M.dep S x = true ∧ M.fitL (M.fit M.dep S) ys = true ∧ P (!M.inB S x ys)) from w); exact seq ys e f1 f2 w
  | fl h1 h2 => obtain ⟨ys, e, f1, f2, w⟩ := opt_of (show M.opt (M.sqOf S (.fl _)) (fun ys => M.fit M.dep S x = true ∧ M.fitL (M.fit M.dep S) ys = true ∧ P (!M.inB S x ys)) from w); exact seq ys e f1 f2 w
  | _ => exact False.elim w
theorem oc_all (hu : X.A.units + 64 < cLine) : ∀ {o : M.Co} {p : CmpOp} (h : coOk o p = true), OpR X (compareOp p) (rCm X.K o)
  | .eq, .Eq, _ => oc_eq hu
  | .ne, .NotEq, _ => oc_ne hu
  | .lt, .Lt, _ => oc_lt
  | .le, .LtE, _ => oc_le
  | .gt, .Gt, _ => oc_gt
  | .ge, .GtE, _ => oc_ge
  | .is_, .Is, _ => oc_is
  | .isn, .IsNot, _ => oc_isn
  | .in_, .In, _ => oc_in hu
  | .nin, .NotIn, _ => oc_nin hu
end
end Snd
namespace Snd
open PySem PySem.Spec PyProof.Rows L2
section
variable {prog : Program} {w : World} {A : Around} {E : Value → Shared → Prop} {s : Shared} {l : Addr} {its : List Value} {ns : List Int} {Q : Value → Shared → Prop}
theorem sumT_raw (hh : A.handled = none) (hl : s.heap.IsTuple l its.toArray) (hi : IntsAre its ns)
    (h : ∀ h' tk t', (∀ b o, s.heap.get? b = some o → h'.get? b = some o) → Q (.int ns.sum t') { s with heap := h', toks := tk }) : wpAny (model prog w) A (call (.builtin "sum") [.ref l]) Q E s := by
  obtain ⟨xs, e⟩ := hi.allInts.items
  have hn : numsOf (intItems xs).toList = ns := by rw [← e]; exact hi.numsOf
  rw [nums_intItems] at hn
  rw [e] at hl
  refine PySem.W.ktm_sumG hh hl fun h' tk t' hk => ?_
  have := h h' tk t' hk
  rw [preSum_eq, List.take_of_length_le (by simp), hn]; exact this
end
section
variable {X : Cx}
def rSumT (K : Frag) : List V → Hp → VK → Prop := fun vs H Q => ∃ (a : Addr) (ns : List Int), vs = [V.ref a] ∧ SqT K H a (ns.map V.int) ∧ Q (.int ns.sum) H
theorem cr_sumT (hc : X.calm = true) : CallR X (.builtin "sum") (rSumT X.K) := by
  intro pins s σ H vs us Q I r h
  obtain ⟨a, ns, rfl, hs, q⟩ := h
  obtain ⟨its, rv, hl, _⟩ := I.tuple hs
  rw [Vals.ref1 r]
  exact sumT_raw (I.ok.hd hc) hl rv.ints fun h' tk t' hk => ⟨.int _, H, I.kept hk, ⟨_, rfl⟩, q⟩
end
/-! ### subscripts -/
def rIxM (K : Frag) : R2 := fun v u H Q => ∃ x i S Qd, RelS K H S ∧ RelD K H x v ∧ RelD K H i u ∧ M.ixD x i S Qd ∧ OkV K S H Qd Q
theorem atI_rel {K : Frag} {H : Hp} {ds : List M.D} {vs : List V} {k : Int} {d : M.D} (h : RelDs K H ds vs) (e : M.atI ds k = some d) : ∃ v, L2.atI vs k = some v ∧ RelD K H d v := by
  unfold M.atI at e
  obtain ⟨j, e1, e2⟩ := Option.bind_eq_some_iff.mp e
  obtain ⟨v, h1, h2⟩ := h.get e2
  refine ⟨v, ?_, h2⟩
  unfold L2.atI
  rw [← h.length]
  exact Option.bind_eq_some_iff.mpr ⟨j, e1, h1⟩
section
variable {X : Cx}
theorem ix_all : IxR X (rIxM X.K) := by
  intro value slice pins s σ H v u vv uu Q I rv ru h hsl
  obtain ⟨x, i, S, Qd, r, rx, ri, w, hq⟩ := h
  have seq : ∀ k xs, u = .int k → M.sqOf S x = some xs → M.opt (M.atI xs k) (fun d => Qd d S) → wpAny (model X.prog X.w) X.A (subscriptTail value slice vv uu) (EP X pins σ Q) X.xe s := by
    intro k xs eu e w
    subst eu
    obtain ⟨d, ea, w⟩ := opt_of w
    obtain ⟨a, vs, rfl, hs, hd⟩ := sqOf_rel r rx e
    obtain ⟨z, hz, rz⟩ := atI_rel hd ea
    rcases hs with hs | hs
    · exact ix_list value slice pins s σ H _ _ vv uu Q I rv ru ⟨a, vs, k, z, rfl, rfl, hs, hz, hq.same r rz w⟩ hsl
    · exact ix_tup value slice pins s σ H _ _ vv uu Q I rv ru ⟨a, vs, k, z, rfl, rfl, hs, hz, hq.same r rz w⟩ hsl
  cases ri with
  | int k =>
    cases rx with
    | str a =>
      obtain ⟨hl, w⟩ := w
      obtain ⟨c, ea, w⟩ := opt_of w
      refine ix_str value slice pins s σ H _ _ vv uu Q I rv ru ⟨_, k, c, rfl, rfl, by rw [stx_len, ← lim_eq]; exact hl, ?_, hq.same r (.str [c]) w⟩ hsl
      rw [stx_cps]
      exact ea
    | tup h1 h2 => exact seq k _ rfl rfl w
    | fl h1 h2 => exact seq k _ rfl rfl w
    | ref a =>
      obtain ⟨xs, e, w⟩ := opt_of (show M.opt (M.sqOf S (.ref a)) (fun xs => M.opt (M.atI xs k) fun d => Qd d S) from w)
      exact seq k xs rfl e w
    | non => exact False.elim w
    | bl b => exact False.elim w
    | int j => exact False.elim w
    | xn _ => exact False.elim w
    | xf _ _ _ _ => exact False.elim w
  | _ => exact False.elim w
end
/-! ### slices -/
def rSlM (K : Frag) : V → Option Int → Option Int → Hp → VK → Prop := fun v lo hi H Q => ∃ x S Qd, RelS K H S ∧ RelD K H x v ∧ M.slD x lo hi S Qd ∧ OkV K S H Qd Q
theorem cut_rel {K : Frag} {H : Hp} {ds : List M.D} {vs : List V} (h : RelDs K H ds vs) (lo hi : Option Int) : RelDs K H (M.cut ds lo hi) (cutV vs lo hi) := by
  have e : M.cut ds lo hi = (ds.drop (HT.sIx vs.length 0 lo)).take (HT.sIx vs.length vs.length hi - HT.sIx vs.length 0 lo) := by
    rw [← h.length]
    rfl
  rw [e]
  exact (h.drop _).take _
theorem stx_cut (x : M.Tx) (lo hi : Option Int) : cutS (stx x) lo hi = stx (M.cut x lo hi) := by
  unfold cutS M.cut
  rw [stx_cps, stx_len]
  rfl
section
variable {X : Cx}
theorem sl_allM : SlR X (rSlM X.K) := by
  intro pins s σ H v vv vl vu lo hi sl Q I rv hs pl pu h
  obtain ⟨x, S, Qd, r, rx, w, hq⟩ := h
  cases rx with
  | str a =>
    obtain ⟨hl, w⟩ := w
    exact sl_str pins s σ H _ vv vl vu lo hi sl Q I rv hs pl pu ⟨_, rfl, by rw [stx_len, ← lim_eq]; exact hl, by rw [stx_cut]; exact hq.same r (.str _) w⟩
  | @tup a ds vs h1 h2 =>
    refine sl_tupA pins s σ H _ vv vl vu lo hi sl Q I rv hs pl pu ⟨a, vs, rfl, h1, fun e => ?_, fun _ => hq.newT r (cut_rel h2 lo hi) w⟩
    have e3 : M.cut ds lo hi = ds := by
      unfold M.cut
      have e1 : M.sIx ds.length 0 lo = 0 := by rw [h2.length]; exact e.1
      have e2 : M.sIx ds.length ds.length hi = ds.length := by rw [h2.length]; exact e.2
      rw [e1, e2]
      simp
    have w' : Qd (.tup (M.cut ds lo hi)) S := w
    rw [e3] at w'
    exact hq.same r (.tup h1 h2) w'
  | fl h1 h2 =>
    exact sl_list pins s σ H _ vv vl vu lo hi sl Q I rv hs pl pu ⟨_, _, rfl, h1.sq, hq.newL r (cut_rel h2 lo hi) w⟩
  | ref a =>
    obtain ⟨xs, e, w⟩ := opt_of (show M.opt (M.lsOf S (.ref a)) (fun xs => ∀ p, S p = none → Qd (.ref p) (M.upd S p (.lst (M.cut xs lo hi)))) from w)
    obtain ⟨vs, h1, h2⟩ := r.at e
    exact sl_list pins s σ H _ vv vl vu lo hi sl Q I rv hs pl pu ⟨_, _, rfl, SqL.of h1, hq.newL r (cut_rel h2 lo hi) w⟩
  | non => exact False.elim w
  | bl b => exact False.elim w
  | int i => exact False.elim w
  | xn _ => exact False.elim w
  | xf _ _ _ _ => exact False.elim w
end
/-! ### built-ins -/
def rBi (K : Frag) (b : M.Bi) : List V → Hp → VK → Prop := fun vs H Q => ∃ ds S Qd, RelS K H S ∧ RelDs K H ds vs ∧ M.biD b ds S Qd ∧ OkV K S H Qd Q
theorem ints_rel {K : Frag} {H : Hp} : ∀ {ds : List M.D} {vs : List V} {is : List Int}, RelDs K H ds vs → M.intsD ds = some is → vs = is.map V.int
  | [], _, is, .nil, e => by cases e; rfl
  | _ :: ds, _ :: vs, is, .cons a b, e => by
    cases a with
    | int i =>
      obtain ⟨js, e1, e2⟩ := Option.map_eq_some_iff.mp (show (M.intsD ds).map (i :: ·) = some is from e)
      subst e2
      rw [List.map_cons, ints_rel b e1]
    | _ => cases e
theorem bools_rel {K : Frag} {H : Hp} : ∀ {ds : List M.D} {vs : List V} {is : List Bool}, RelDs K H ds vs → M.bools ds = some is → vs = is.map V.bl
  | [], _, is, .nil, e => by cases e; rfl
  | _ :: ds, _ :: vs, is, .cons a b, e => by
    cases a with
    | bl i =>
      obtain ⟨js, e1, e2⟩ := Option.map_eq_some_iff.mp (show (M.bools ds).map (i :: ·) = some is from e)
      subst e2
      rw [List.map_cons, bools_rel b e1]
    | _ => cases e
theorem minL_ok : ∀ (r : List Int) (m : Int), (M.minL m r = m ∨ M.minL m r ∈ r) ∧ M.minL m r ≤ m ∧ ∀ y ∈ r, M.minL m r ≤ y
  | [], m => ⟨.inl rfl, Int.le_refl _, fun _ h => nomatch h⟩
  | i :: r, m => by
    show (M.minL (if i < m then i else m) r = m ∨ M.minL (if i < m then i else m) r ∈ i :: r) ∧ M.minL (if i < m then i else m) r ≤ m ∧ ∀ y ∈ i :: r, M.minL (if i < m then i else m) r ≤ y
    by_cases h : i < m
    · rw [if_pos h]
      obtain ⟨h1, h2, h3⟩ := minL_ok r i
      refine ⟨.inr ?_, by omega, fun y hy => ?_⟩
      · rcases h1 with h1 | h1
        · rw [h1]; exact List.mem_cons_self
        · exact List.mem_cons_of_mem _ h1
      · rcases List.mem_cons.mp hy with e | e
        · subst e; exact h2
        · exact h3 y e
    · rw [if_neg h]
      obtain ⟨h1, h2, h3⟩ := minL_ok r m
      refine ⟨?_, h2, fun y hy => ?_⟩
      · rcases h1 with h1 | h1
        · exact .inl h1
        · exact .inr (List.mem_cons_of_mem _ h1)
      · rcases List.mem_cons.mp hy with e | e
        · subst e; omega
        · exact h3 y e
theorem maxL_ok : ∀ (r : List Int) (m : Int), (M.maxL m r = m ∨ M.maxL m r ∈ r) ∧ m ≤ M.maxL m r ∧ ∀ y ∈ r, y ≤ M.maxL m r
  | [], m => ⟨.inl rfl, Int.le_refl _, fun _ h => nomatch h⟩
  | i :: r, m => by
    show (M.maxL (if m < i then i else m) r = m ∨ M.maxL (if m < i then i else m) r ∈ i :: r) ∧ m ≤ M.maxL (if m < i then i else m) r ∧ ∀ y ∈ i :: r, y ≤ M.maxL (if m < i then i else m) r
    by_cases h : m < i
    · rw [if_pos h]
      obtain ⟨h1, h2, h3⟩ := maxL_ok r i
      refine ⟨.inr ?_, by omega, fun y hy => ?_⟩
      · rcases h1 with h1 | h1
        · rw [h1]; exact List.mem_cons_self
        · exact List.mem_cons_of_mem _ h1
      · rcases List.mem_cons.mp hy with e | e
        · subst e; exact h2
        · exact h3 y e
    · rw [if_neg h]
      obtain ⟨h1, h2, h3⟩ := maxL_ok r m
      refine ⟨?_, h2, fun y hy => ?_⟩
      · rcases h1 with h1 | h1
        · exact .inl h1
        · exact .inr (List.mem_cons_of_mem _ h1)
      · rcases List.mem_cons.mp hy with e | e
        · subst e; omega
        · exact h3 y e
theorem stx_txI (i : Int) : Str.ofString (toString i) = stx (M.txI i) := by
  rw [Str.ofString_eq_toList]
  rfl
section
variable {X : Cx}
theorem arg1_of {ds : List M.D} {P : M.D → Prop} (h : M.arg1 ds P) : ∃ d, ds = [d] ∧ P d := by
  match ds, h with
  | [d], h => exact ⟨d, rfl, h⟩
theorem onCons_of {l : List Int} {P : Int → List Int → Prop} (h : M.onCons l P) : ∃ i r, l = i :: r ∧ P i r := by
  cases l with
  | cons i r => exact ⟨i, r, rfl, h⟩
  | nil => exact False.elim h
theorem rel1 {K : Frag} {H : Hp} {d : M.D} {vs : List V} (h : RelDs K H [d] vs) : ∃ v, vs = [v] ∧ RelD K H d v := by
  cases h with
  | cons a b => cases b; exact ⟨_, rfl, a⟩
theorem bi_len : CallR X (.builtin "len") (rBi X.K .len) := by
  intro pins s σ H vs us Q I rv h
  obtain ⟨ds, S, Qd, r, rd, w, hq⟩ := h
  obtain ⟨d, rfl, w⟩ := arg1_of w
  obtain ⟨v, rfl, rx⟩ := rel1 rd
  have seq : M.opt (M.sqOf S d) (fun xs => Qd (.int xs.length) S) → wpAny (model X.prog X.w) X.A (call (.builtin "len") us) (EP X pins σ Q) X.xe s := fun w => by
    obtain ⟨xs, e, w⟩ := opt_of w
    obtain ⟨a, ws, rfl, hs, hd⟩ := sqOf_rel r rx e
    exact call_len_seq pins s σ H _ us Q I rv ⟨a, ws, rfl, hs, by rw [← hd.length]; exact hq.same r (.int _) w⟩
  cases rx with
  | str a =>
    obtain ⟨hl, w⟩ := w
    exact call_len_str pins s σ H _ us Q I rv ⟨_, rfl, by rw [stx_len, ← lim_eq]; exact hl, by rw [stx_len]; exact hq.same r (.int _) w⟩
  | tup h1 h2 => exact seq w
  | fl h1 h2 => exact seq w
  | ref a => exact seq w
  | non => exact seq w
  | bl b => exact seq w
  | int i => exact seq w
  | xn _ => exact seq w
  | xf _ _ _ _ => exact seq w
theorem bi_abs : CallR X (.builtin "abs") (rBi X.K .abs) := by
  intro pins s σ H vs us Q I rv h
  obtain ⟨ds, S, Qd, r, rd, w, hq⟩ := h
  obtain ⟨d, rfl, w⟩ := arg1_of w
  obtain ⟨v, rfl, rx⟩ := rel1 rd
  obtain ⟨i, rfl, w⟩ := onI_of w
  cases rx
  exact call_abs pins s σ H _ us Q I rv ⟨i, rfl, hq.same r (.int _) w⟩
/-- int(text) -/
theorem int_text {x : M.Tx} {n : Int} (h : M.numT x = some n) (hl : x.length ≤ 640) : PySem.intText? (stx x) = some n := by
  have ec : (stx x).cps.toList = x := stx_cps x
  have dig : ∀ {r : M.Tx}, r.all M.digB = true → PySem.NumText.AllDigits r := fun h c hc => by
    obtain ⟨h1, h2⟩ := Bool.and_eq_true_iff.mp (List.all_eq_true.mp h c hc)
    exact ⟨of_decide_eq_true h1, of_decide_eq_true h2⟩
  cases x with
  | nil => cases h
  | cons c r =>
    have h2 : (if c = 45 then (if !r.isEmpty && r.all M.digB then some (-((M.valT r : Nat) : Int)) else none) else (if (c :: r).all M.digB then some ((M.valT (c :: r) : Nat) : Int) else none)) = some n := h
    clear h
    split at h2
    · rename_i hc
      subst hc
      split at h2
      · rename_i h5
        cases h2
        obtain ⟨h3, h4⟩ := Bool.and_eq_true_iff.mp h5
        exact intText_neg (cs := r) (by rw [ec]) (dig h4) (by intro z; subst z; cases h3) (by rw [stx_len]; omega)
      · cases h2
    · split at h2
      · rename_i h5
        cases h2
        have := intText_digits (x := stx (c :: r)) (by rw [ec]; exact dig h5) (by rw [ec]; intro z; cases z) (by rw [stx_len]; omega)
        rw [ec] at this
        exact this
      · cases h2
theorem bi_int : CallR X (.type "int") (rBi X.K .int) := by
  intro pins s σ H vs us Q I rv h
  obtain ⟨ds, S, Qd, r, rd, w, hq⟩ := h
  obtain ⟨d, rfl, w⟩ := arg1_of w
  obtain ⟨v, rfl, rx⟩ := rel1 rd
  cases rx with
  | int i => exact call_int1 pins s σ H _ us Q I rv (.inl ⟨i, rfl, hq.same r (.int _) w⟩)
  | bl b => exact call_int1 pins s σ H _ us Q I rv (.inr ⟨b, rfl, hq.same r (.int _) w⟩)
  | str x =>
    obtain ⟨n, e, w1, w2⟩ := opt_of (show M.opt (M.numT x) (fun n => x.length ≤ 640 ∧ Qd (.int n) S) from w)
    exact call_int_str pins s σ H _ us Q I rv ⟨_, n, rfl, int_text e w1, by rw [stx_len]; exact w1, hq.same r (.int _) w2⟩
  | _ => exact False.elim w
theorem bi_min (hc : X.calm = true) : CallR X (.builtin "min") (rBi X.K .min) := by
  intro pins s σ H vs us Q I rv h
  obtain ⟨ds, S, Qd, r, rd, w, hq⟩ := h
  match ds, rd, w with
  | [], _, w => exact False.elim w
  | _ :: _ :: _ :: _, _, w => exact False.elim w
  | [d, e], .cons rx (.cons ry .nil), w =>
    obtain ⟨i, rfl, w⟩ := onI_of w
    obtain ⟨j, rfl, w⟩ := onI_of w
    cases rx
    cases ry
    exact call_min2 hc pins s σ H _ us Q I rv ⟨i, j, rfl, hq.same r (.int _) w⟩
  | [d], .cons rx .nil, w =>
    obtain ⟨xs, e, w⟩ := opt_of w
    obtain ⟨is, e2, w⟩ := opt_of w
    obtain ⟨i, js, rfl, w⟩ := onCons_of w
    obtain ⟨a, ws, rfl, hs, hd⟩ := lsOf_rel r rx e
    have e3 := ints_rel hd e2
    subst e3
    refine cr_min hc pins s σ H _ us Q I rv ⟨a, i :: js, rfl, hs, Nat.succ_pos _, fun m hm hle => ?_⟩
    obtain ⟨h1, h2, h3⟩ := minL_ok js i
    have em : m = M.minL i js := by
      refine Int.le_antisymm ?_ ?_
      · rcases h1 with h1 | h1
        · rw [h1]; exact hle i List.mem_cons_self
        · exact hle _ (List.mem_cons_of_mem _ h1)
      · rcases List.mem_cons.mp hm with e | e
        · rw [e]; exact h2
        · exact h3 m e
    rw [em]
    exact hq.same r (.int _) w
theorem bi_max (hc : X.calm = true) : CallR X (.builtin "max") (rBi X.K .max) := by
  intro pins s σ H vs us Q I rv h
  obtain ⟨ds, S, Qd, r, rd, w, hq⟩ := h
  match ds, rd, w with
  | [], _, w => exact False.elim w
  | _ :: _ :: _ :: _ :: _, _, w => exact False.elim w
  | [d, e, f], .cons rx (.cons ry (.cons rz .nil)), w =>
    obtain ⟨i, rfl, w⟩ := onI_of w
    obtain ⟨j, rfl, w⟩ := onI_of w
    obtain ⟨k, rfl, w⟩ := onI_of w
    cases rx
    cases ry
    cases rz
    refine call_max3Nu hc pins s σ H _ us Q I rv ⟨.int i, .int j, .int k, .int (if k > (if j > i then j else i) then k else (if j > i then j else i)), rfl, ?_, hq.same r (.int _) w⟩
    show (nuMax2 (.int i) (.int j)).bind (fun m => nuMax2 m (.int k)) = _
    have e1 : nuMax2 (.int i) (.int j) = some (.int (if j > i then j else i)) := by
      show (some (decide (i < j))).map (fun c => if c = true then V.int j else V.int i) = _
      by_cases c : i < j
      · simp [c]
      · simp [c]
    rw [e1]
    show nuMax2 (.int (if j > i then j else i)) (.int k) = _
    generalize (if j > i then j else i) = m
    show (some (decide (m < k))).map (fun c => if c = true then V.int k else V.int m) = _
    by_cases c : m < k
    · simp [c]
    · simp [c]
  | [d, e], .cons rx (.cons ry .nil), w =>
    obtain ⟨i, rfl, w⟩ := onI_of w
    obtain ⟨j, rfl, w⟩ := onI_of w
    cases rx
    cases ry
    exact call_max2 hc pins s σ H _ us Q I rv ⟨i, j, rfl, hq.same r (.int _) w⟩
  | [d], .cons rx .nil, w =>
    obtain ⟨xs, e, w⟩ := opt_of w
    obtain ⟨is, e2, w⟩ := opt_of w
    obtain ⟨i, js, rfl, w⟩ := onCons_of w
    obtain ⟨a, ws, rfl, hs, hd⟩ := lsOf_rel r rx e
    have e3 := ints_rel hd e2
    subst e3
    refine cr_max hc pins s σ H _ us Q I rv ⟨a, i :: js, rfl, hs, Nat.succ_pos _, fun m hm hle => ?_⟩
    obtain ⟨h1, h2, h3⟩ := maxL_ok js i
    have em : m = M.maxL i js := by
      refine Int.le_antisymm ?_ ?_
      · rcases List.mem_cons.mp hm with e | e
        · rw [e]; exact h2
        · exact h3 m e
      · rcases h1 with h1 | h1
        · rw [h1]; exact hle i List.mem_cons_self
        · exact hle _ (List.mem_cons_of_mem _ h1)
    rw [em]
    exact hq.same r (.int _) w
theorem bi_all (hc : X.calm = true) : CallR X (.builtin "all") (rBi X.K .all) := by
  intro pins s σ H vs us Q I rv h
  obtain ⟨ds, S, Qd, r, rd, w, hq⟩ := h
  obtain ⟨d, rfl, w⟩ := arg1_of w
  obtain ⟨v, rfl, rx⟩ := rel1 rd
  obtain ⟨xs, e, w⟩ := opt_of w
  obtain ⟨is, e2, w⟩ := opt_of w
  obtain ⟨a, ws, rfl, hs, hd⟩ := lsOf_rel r rx e
  have e3 := bools_rel hd e2
  subst e3
  exact cr_all hc pins s σ H _ us Q I rv ⟨a, is, rfl, hs, hq.same r (.bl _) w⟩
theorem bi_any (hc : X.calm = true) : CallR X (.builtin "any") (rBi X.K .any) := by
  intro pins s σ H vs us Q I rv h
  obtain ⟨ds, S, Qd, r, rd, w, hq⟩ := h
  obtain ⟨d, rfl, w⟩ := arg1_of w
  obtain ⟨v, rfl, rx⟩ := rel1 rd
  obtain ⟨xs, e, w⟩ := opt_of w
  obtain ⟨is, e2, w⟩ := opt_of w
  obtain ⟨a, ws, rfl, hs, hd⟩ := lsOf_rel r rx e
  have e3 := bools_rel hd e2
  subst e3
  exact cr_any hc pins s σ H _ us Q I rv ⟨a, is, rfl, hs, hq.same r (.bl _) w⟩
theorem bi_sum (hc : X.calm = true) : CallR X (.builtin "sum") (rBi X.K .sum) := by
  intro pins s σ H vs us Q I rv h
  obtain ⟨ds, S, Qd, r, rd, w, hq⟩ := h
  obtain ⟨d, rfl, w⟩ := arg1_of w
  obtain ⟨v, rfl, rx⟩ := rel1 rd
  obtain ⟨xs, e, w⟩ := opt_of w
  obtain ⟨is, e2, w⟩ := opt_of w
  obtain ⟨a, ws, rfl, hs, hd⟩ := sqOf_rel r rx e
  have e3 := ints_rel hd e2
  subst e3
  rcases hs with hs | hs
  · exact cr_sum hc pins s σ H _ us Q I rv ⟨a, is, rfl, hs, hq.same r (.int _) w⟩
  · exact cr_sumT hc pins s σ H _ us Q I rv ⟨a, is, rfl, hs, hq.same r (.int _) w⟩
theorem ints_backD {K : Frag} {H : Hp} : ∀ (is : List Int), RelDs K H (is.map M.D.int) (is.map V.int)
  | [] => .nil
  | i :: is => .cons (.int i) (ints_backD is)
theorem bi_sorted : CallR X (.builtin "sorted") (rBi X.K .sorted) := by
  intro pins s σ H vs us Q I rv h
  obtain ⟨ds, S, Qd, r, rd, w, hq⟩ := h
  obtain ⟨d, rfl, w⟩ := arg1_of w
  obtain ⟨v, rfl, rx⟩ := rel1 rd
  obtain ⟨xs, e, w⟩ := opt_of w
  obtain ⟨is, e2, w⟩ := opt_of w
  obtain ⟨a, ws, rfl, hs, hd⟩ := lsOf_rel r rx e
  have e3 := ints_rel hd e2
  subst e3
  exact cr_sortedI pins s σ H _ us Q I rv ⟨a, is, rfl, hs, fun js p h1 h2 hp => hq.newL r (ints_backD js) (w js h1 h2) p hp⟩
theorem bi_list : CallR X (.type "list") (rBi X.K .list) := by
  intro pins s σ H vs us Q I rv h
  obtain ⟨ds, S, Qd, r, rd, w, hq⟩ := h
  obtain ⟨d, rfl, w⟩ := arg1_of w
  obtain ⟨v, rfl, rx⟩ := rel1 rd
  obtain ⟨xs, e, w⟩ := opt_of w
  obtain ⟨a, ws, rfl, hs, hd⟩ := sqOf_rel r rx e
  exact call_list_of pins s σ H _ us Q I rv ⟨a, ws, rfl, hs, hq.newL r hd w⟩
theorem bi_tuple : CallR X (.type "tuple") (rBi X.K .tuple) := by
  intro pins s σ H vs us Q I rv h
  obtain ⟨ds, S, Qd, r, rd, w, hq⟩ := h
  obtain ⟨d, rfl, w⟩ := arg1_of w
  obtain ⟨v, rfl, rx⟩ := rel1 rd
  obtain ⟨xs, e, w⟩ := opt_of w
  obtain ⟨a, ws, rfl, hs, hd⟩ := sqOf_rel r rx e
  rcases hs with hs | hs
  · exact call_tuple_of pins s σ H _ us Q I rv ⟨a, ws, rfl, .inl ⟨hs, hq.newT r hd w⟩⟩
  · exact call_tuple_of pins s σ H _ us Q I rv ⟨a, ws, rfl, .inr ⟨hs, hq.same r (.tup hs hd) w⟩⟩
theorem bi_str : CallR X (.type "str") (rBi X.K .str) := by
  intro pins s σ H vs us Q I rv h
  obtain ⟨ds, S, Qd, r, rd, w, hq⟩ := h
  obtain ⟨d, rfl, w⟩ := arg1_of w
  obtain ⟨v, rfl, rx⟩ := rel1 rd
  obtain ⟨i, rfl, w⟩ := onI_of w
  cases rx
  refine call_str_int pins s σ H _ us Q I rv ⟨i, rfl, w.1, ?_⟩
  have e : Str.ofString (toString i) = stx (M.txI i) := stx_txI i
  show Q (.str (Str.ofString (toString i))) H
  rw [e]
  exact hq.same r (.str _) w.2
/-! ### methods -/
def rMt (K : Frag) (m : M.Mt) : V → List V → Hp → VK → Prop := fun v vs H Q => ∃ x ds S Qd, RelS K H S ∧ RelD K H x v ∧ RelDs K H ds vs ∧ M.mtD m x ds S Qd ∧ OkV K S H Qd Q
/-- a list of the store was written: what is wanted -/
theorem OkV.wrote {K : Frag} {S : M.Sto} {H : Hp} {Qd : M.VK} {Q : VK} (h : OkV K S H Qd Q) (r : RelS K H S) {a : Nat} {xs ds : List M.D} {vs : List V} (e : M.lstAt S a = some xs) (rd : RelDs K H ds vs) {d : M.D} {v : V} (rx : RelD K H d v)
    (q : Qd d (M.upd S a (.lst ds))) : Q v (L2.upd H a (.lst vs)) :=
  have f : Fr S H (M.upd S a (.lst ds)) (L2.upd H a (.lst vs)) := Fr.wr (lstAt_some e)
  h _ _ _ _ f (r.wr (lstAt_some e) rd) (rx.mono r f) q
theorem mt_appendM : MtM X "list.append" (rMt X.K .append) := by
  intro pins s σ H v vs vv us Q I rv rvs h
  obtain ⟨x, ds, S, Qd, r, rx, rd, w, hq⟩ := h
  obtain ⟨a, rfl, w⟩ := onR_of w
  obtain ⟨d, rfl, w⟩ := arg1_of w
  obtain ⟨y, rfl, ry⟩ := rel1 rd
  obtain ⟨xs, e, hl, w⟩ := opt_of w
  obtain ⟨ws, h1, h2⟩ := r.at e
  cases rx
  exact mt_append pins s σ H _ _ vv us Q I rv rvs ⟨a, ws, y, rfl, rfl, h1, by rw [← h2.length, ← lim_eq]; exact hl, hq.wrote r e (h2.append (.cons ry .nil)) .non w⟩
theorem mt_extendM : MtM X "list.extend" (rMt X.K .extend) := by
  intro pins s σ H v vs vv us Q I rv rvs h
  obtain ⟨x, ds, S, Qd, r, rx, rd, w, hq⟩ := h
  obtain ⟨a, rfl, w⟩ := onR_of w
  obtain ⟨d, rfl, w⟩ := arg1_of w
  obtain ⟨y, rfl, ry⟩ := rel1 rd
  obtain ⟨b, rfl, w⟩ := onR_of w
  obtain ⟨xs, e, w⟩ := opt_of w
  obtain ⟨ys, e2, hl, w⟩ := opt_of w
  obtain ⟨ws, h1, h2⟩ := r.at e
  obtain ⟨zs, h3, h4⟩ := r.at e2
  cases rx
  cases ry
  exact mt_extend pins s σ H _ _ vv us Q I rv rvs ⟨a, b, ws, zs, rfl, rfl, h1, h3, by rw [← h2.length, ← h4.length, ← lim_eq]; exact hl, hq.wrote r e (h2.append h4) .non w⟩
theorem seqIx_of {n : Nat} {i : Int} {j : Nat} (h : M.ixN n i = some j) : seqIndex? i n = some j := by
  unfold M.ixN at h
  unfold seqIndex?
  by_cases h0 : 0 ≤ i
  · rw [if_pos h0] at h
    by_cases h1 : i < n
    · rw [if_pos h1] at h
      cases h
      have e : ¬ i < 0 := by omega
      simp only [e, if_false]
      rw [if_pos (by simp [h0, h1])]
    · rw [if_neg h1] at h; cases h
  · rw [if_neg h0] at h
    by_cases h1 : -(n : Int) ≤ i
    · rw [if_pos h1] at h
      cases h
      have e : i < 0 := by omega
      simp only [e, if_true]
      rw [if_pos (by simp; omega)]
    · rw [if_neg h1] at h; cases h
theorem RelDs.eraseIdx {K : Frag} {H : Hp} : ∀ {ds : List M.D} {vs : List V} (n : Nat), RelDs K H ds vs → RelDs K H (ds.eraseIdx n) (vs.eraseIdx n)
  | _, _, _, .nil => .nil
  | _, _, 0, .cons _ b => b
  | _, _, n + 1, .cons a b => .cons a (RelDs.eraseIdx n b)
theorem mt_popM : MtM X "list.pop" (rMt X.K .pop) := by
  intro pins s σ H v vs vv us Q I rv rvs h
  obtain ⟨x, ds, S, Qd, r, rx, rd, w, hq⟩ := h
  obtain ⟨a, rfl, w⟩ := onR_of w
  match ds, rd, w with
  | [], .nil, w =>
    obtain ⟨xs, e, w⟩ := opt_of w
    obtain ⟨d, e2, w⟩ := opt_of w
    obtain ⟨ws, h1, h2⟩ := r.at e
    obtain ⟨y, h3, h4⟩ := h2.get e2
    cases rx
    exact mt_pop pins s σ H _ _ vv us Q I rv rvs ⟨a, ws, y, rfl, rfl, h1, by rw [← h2.length]; exact h3, hq.wrote r e h2.dropLast h4 w⟩
  | [y], rd, w =>
    obtain ⟨i, rfl, w⟩ := onI_of w
    obtain ⟨xs, e, h1', h2', w⟩ := opt_of w
    obtain ⟨j, e3, w⟩ := opt_of w
    obtain ⟨d, e2, w⟩ := opt_of w
    obtain ⟨ws, h1, h2⟩ := r.at e
    obtain ⟨y, h3, h4⟩ := h2.get e2
    obtain ⟨v', rfl, rv'⟩ := rel1 rd
    cases rx
    cases rv'
    exact mt_popAt pins s σ H _ _ vv us Q I rv rvs ⟨a, ws, i, j, y, rfl, rfl, h1, h1', h2', seqIx_of (by rw [← h2.length]; exact e3), h3, hq.wrote r e (h2.eraseIdx j) h4 w⟩
  | _ :: _ :: _, _, w => exact False.elim w
theorem strs_rel5 {K : Frag} {H : Hp} : ∀ {ds : List M.D} {vs : List V} {ts : List M.Tx}, RelDs K H ds vs → M.strsD ds = some ts → vs = (ts.map stx).map V.str
  | [], _, ts, .nil, e => by cases e; rfl
  | _ :: ds, _ :: vs, ts, .cons a b, e => by
    cases a with
    | str x =>
      obtain ⟨js, e1, e2⟩ := Option.map_eq_some_iff.mp (show (M.strsD ds).map (x :: ·) = some ts from e)
      subst e2
      rw [List.map_cons, List.map_cons, strs_rel5 b e1]
    | _ => cases e
def strU (k : Str) : Value → Bool
  | .str b _ => b == k
  | _ => false
theorem strU_at {k : M.Tx} {u : Tok} : ∀ {bs : List M.Tx} {us : List Value}, Vals ((bs.map stx).map V.str) us → (∀ y ∈ us, ∀ (A : Around) (s : Shared), SeqAt.EqAt A s y (.str (stx k) u) (strU (stx k) y)) ∧ us.countP (strU (stx k)) = bs.count k
  | [], _, .nil => ⟨(fun y hy => nomatch hy), rfl⟩
  | b :: bs, _, .cons r t => by
    obtain ⟨tk, rfl⟩ := r
    obtain ⟨h1, h2⟩ := strU_at (k := k) (u := u) t
    refine ⟨fun y hy A s => ?_, ?_⟩
    · rcases List.mem_cons.mp hy with e | e
      · rw [e]; exact SeqAt.EqAt.str_str (stx b) tk (stx k) u
      · exact h1 y e A s
    · rw [List.countP_cons, List.count_cons, h2]
      show _ + (if (stx b == stx k) = true then 1 else 0) = _
      rw [stx_beq]
def boolU (k : Bool) : Value → Bool
  | .bool b => b == k
  | _ => false
theorem boolU_at {k : Bool} : ∀ {bs : List Bool} {us : List Value}, Vals (bs.map V.bl) us → (∀ y ∈ us, ∀ (A : Around) (s : Shared), SeqAt.EqAt A s y (.bool k) (boolU k y)) ∧ us.countP (boolU k) = bs.count k
  | [], _, .nil => ⟨(fun y hy => nomatch hy), rfl⟩
  | b :: bs, _, .cons r t => by
    cases r
    obtain ⟨h1, h2⟩ := boolU_at (k := k) t
    refine ⟨fun y hy A s => ?_, ?_⟩
    · rcases List.mem_cons.mp hy with e | e
      · rw [e]; exact SeqAt.EqAt.bool_bool b k
      · exact h1 y e A s
    · rw [List.countP_cons, List.count_cons, h2] <;> rfl
theorem mt_countM : MtR X "list.count" (rMt X.K .count) := by
  intro pins s σ H v vs vv us Q I rv rvs h
  obtain ⟨x, ds, S, Qd, r, rx, rd, w, hq⟩ := h
  obtain ⟨d, rfl, w⟩ := arg1_of w
  obtain ⟨y, rfl, ry⟩ := rel1 rd
  by_cases hT : ∃ t, d = .str t
  · obtain ⟨t, rfl⟩ := hT
    obtain ⟨xs, e, w⟩ := opt_of w
    obtain ⟨ts, e2, w⟩ := opt_of w
    obtain ⟨a, ws, rfl, hs, hd⟩ := lsOf_rel r rx e
    have e3 := strs_rel5 hd e2
    subst e3
    cases ry
    cases rv
    obtain ⟨u, rfl, ru⟩ := rvs.one
    obtain ⟨tk, rfl⟩ := ru
    obtain ⟨its, rv, ⟨⟨cls, dd, data, sl⟩, n, ho, hc, hdn, hdt⟩, hlen⟩ := I.list hs
    simp only at hc hdt
    subst hc hdt
    obtain ⟨g1, g2⟩ := strU_at (k := t) (u := tk) rv
    refine call_meets PySem.F.slot_list_count ⟨_, ho, rfl⟩ PySem.F.entry_list_count (PySem.F.args_list_count_2 _ _)
      (SeqAt.list_countAt a its.toArray n dd sl (.str (stx t) tk) (strU (stx t))) ⟨ho, fun y hy => g1 y (by simpa using hy) _ _, ?_⟩
    have ec : its.toArray.toList.countP (strU (stx t)) = ts.count t := g2
    refine ⟨.int (ts.count t : Nat), H, I.tok _, ⟨s.toks, ?_⟩, hq.same r (.int _) w⟩
    show Value.int ((its.toArray.toList.countP (strU (stx t)) : Nat) : Int) s.toks = Value.int ((ts.count t : Nat) : Int) s.toks
    rw [ec]
  have w : M.onB d fun b => M.opt (M.lsOf S x) fun xs => M.opt (M.bools xs) fun bs => Qd (.int ((bs.count b : Nat) : Int)) S := by
    cases d <;> first | exact w | exact absurd ⟨_, rfl⟩ hT
  obtain ⟨b, rfl, w⟩ := onB_of w
  obtain ⟨xs, e, w⟩ := opt_of w
  obtain ⟨bs, e2, w⟩ := opt_of w
  obtain ⟨a, ws, rfl, hs, hd⟩ := lsOf_rel r rx e
  have e3 := bools_rel hd e2
  subst e3
  cases ry
  cases rv
  obtain ⟨u, rfl, ru⟩ := rvs.one
  cases ru
  obtain ⟨its, rv, ⟨⟨cls, dd, data, sl⟩, n, ho, hc, hdn, hdt⟩, hlen⟩ := I.list hs
  simp only at hc hdt
  subst hc hdt
  obtain ⟨g1, g2⟩ := boolU_at (k := b) rv
  refine call_meets PySem.F.slot_list_count ⟨_, ho, rfl⟩ PySem.F.entry_list_count (PySem.F.args_list_count_2 _ _)
    (SeqAt.list_countAt a its.toArray n dd sl (.bool b) (boolU b)) ⟨ho, fun y hy => g1 y (by simpa using hy) _ _, ?_⟩
  have ec : its.toArray.toList.countP (boolU b) = bs.count b := g2
  refine ⟨.int (bs.count b : Nat), H, I.tok _, ⟨s.toks, ?_⟩, hq.same r (.int _) w⟩
  show Value.int ((its.toArray.toList.countP (boolU b) : Nat) : Int) s.toks = Value.int ((bs.count b : Nat) : Int) s.toks
  rw [ec]
theorem ixB_ok {b : Bool} : ∀ {bs : List Bool} {j : Nat}, M.ixB b bs = some j → bs[j]? = some b ∧ ∀ m, m < j → ∀ c, bs[m]? = some c → c ≠ b
  | [], _, h => nomatch h
  | c :: bs, j, h => by
    unfold M.ixB at h
    split at h
    · rename_i hc
      cases h
      exact ⟨by rw [hc]; rfl, fun m hm => absurd hm (Nat.not_lt_zero _)⟩
    · rename_i hc
      obtain ⟨k, hk, rfl⟩ := Option.map_eq_some_iff.mp h
      obtain ⟨h1, h2⟩ := ixB_ok hk
      refine ⟨by simpa using h1, fun m hm c' hc' => ?_⟩
      cases m with
      | zero => simp at hc'; rw [← hc']; exact hc
      | succ m => exact h2 m (by omega) c' (by simpa using hc')
theorem ixT_ok {b : M.Tx} : ∀ {bs : List M.Tx} {j : Nat}, M.ixT b bs = some j → bs[j]? = some b ∧ ∀ m, m < j → ∀ c, bs[m]? = some c → c ≠ b
  | [], _, h => nomatch h
  | c :: bs, j, h => by
    unfold M.ixT at h
    split at h
    · rename_i hc
      cases h
      exact ⟨by rw [hc]; rfl, fun m hm => absurd hm (Nat.not_lt_zero _)⟩
    · rename_i hc
      obtain ⟨k, hk, rfl⟩ := Option.map_eq_some_iff.mp h
      obtain ⟨h1, h2⟩ := ixT_ok hk
      refine ⟨by simpa using h1, fun m hm c' hc' => ?_⟩
      cases m with
      | zero => simp at hc'; rw [← hc']; exact hc
      | succ m => exact h2 m (by omega) c' (by simpa using hc')
theorem mt_indexM : MtR X "list.index" (rMt X.K .index) := by
  intro pins s σ H v vs vv us Q I rv rvs h
  obtain ⟨x, ds, S, Qd, r, rx, rd, w, hq⟩ := h
  obtain ⟨d, rfl, w⟩ := arg1_of w
  obtain ⟨y, rfl, ry⟩ := rel1 rd
  by_cases hT : ∃ t, d = .str t
  · obtain ⟨t, rfl⟩ := hT
    obtain ⟨xs, e, w⟩ := opt_of w
    obtain ⟨ts, e2, w⟩ := opt_of w
    obtain ⟨j, e4, w⟩ := opt_of w
    obtain ⟨a, ws, rfl, hs, hd⟩ := lsOf_rel r rx e
    have e3 := strs_rel5 hd e2
    subst e3
    cases ry
    obtain ⟨h1, h2⟩ := ixT_ok e4
    refine mt_index pins s σ H _ _ vv us Q I rv rvs ⟨a, (ts.map stx).map V.str, .str (stx t), j, .str (stx t), rfl, rfl, hs, rfl, ?_, by rw [List.getElem?_map, List.getElem?_map, h1]; rfl, (show (stx t == stx t) = true from beq_self_eq_true _), fun m z hm hz => ?_, hq.same r (.int _) w⟩
    · rw [List.all_map, List.all_map]
      exact List.all_eq_true.mpr fun _ _ => rfl
    · rw [List.getElem?_map, List.getElem?_map] at hz
      obtain ⟨c, hc, rfl⟩ := Option.map_eq_some_iff.mp hz
      obtain ⟨c', hc', rfl⟩ := Option.map_eq_some_iff.mp hc
      exact beq_eq_false_iff_ne.mpr fun e => h2 m hm c' hc' (stx_inj.mp e)
  have w : M.onB d fun b => M.opt (M.lsOf S x) fun xs => M.opt (M.bools xs) fun bs => M.opt (M.ixB b bs) fun j => Qd (.int ((j : Nat) : Int)) S := by
    cases d <;> first | exact w | exact absurd ⟨_, rfl⟩ hT
  obtain ⟨b, rfl, w⟩ := onB_of w
  obtain ⟨xs, e, w⟩ := opt_of w
  obtain ⟨bs, e2, w⟩ := opt_of w
  obtain ⟨j, e4, w⟩ := opt_of w
  obtain ⟨a, ws, rfl, hs, hd⟩ := lsOf_rel r rx e
  have e3 := bools_rel hd e2
  subst e3
  cases ry
  obtain ⟨h1, h2⟩ := ixB_ok e4
  refine mt_index pins s σ H _ _ vv us Q I rv rvs ⟨a, bs.map V.bl, .bl b, j, .bl b, rfl, rfl, hs, rfl, ?_, by rw [List.getElem?_map, h1]; rfl, (show (b == b) = true from beq_self_eq_true b), fun m z hm hz => ?_, hq.same r (.int _) w⟩
  · rw [List.all_map]
    exact List.all_eq_true.mpr fun _ _ => rfl
  · rw [List.getElem?_map] at hz
    obtain ⟨c, hc, rfl⟩ := Option.map_eq_some_iff.mp hz
    exact beq_eq_false_iff_ne.mpr (h2 m hm c hc)
/-! ### o[i] = v -/
def tSx (K : Frag) : V → V → V → Hp → (Hp → Prop) → Prop := fun o i v H Q => ∃ x y z S Qs, RelS K H S ∧ RelD K H x o ∧ RelD K H y i ∧ RelD K H z v ∧ M.sixD x y z S Qs ∧ ∀ S' H', Fr S H S' H' → RelS K H' S' → Qs S' → Q H'
theorem set_listM : PSet X (tSx X.K) := by
  intro pins s σ H o i v ov iv u Q I ro ri rv h
  obtain ⟨x, y, z, S, Qs, r, rx, ry, rz, w, hq⟩ := h
  obtain ⟨a, rfl, w⟩ := onR_of w
  obtain ⟨k, rfl, w⟩ := onI_of w
  obtain ⟨xs, e, w⟩ := opt_of w
  obtain ⟨j, e2, w⟩ := opt_of w
  obtain ⟨ws, h1, h2⟩ := r.at e
  cases rx
  cases ry
  refine set_list pins s σ H _ _ _ ov iv u Q I ro ri rv ⟨a, ws, k, j, rfl, rfl, h1, by rw [← h2.length]; exact e2, ?_⟩
  exact hq _ _ (Fr.wr (lstAt_some e)) (r.wr (lstAt_some e) (h2.set j rz)) w
end
end Snd
namespace Snd
open PySem PySem.Spec PyProof.Rows L2
/-! ### isinstance -/
def tyN : M.Ty → String
  | .int => "int" | .bool => "bool" | .tuple => "tuple" | .list => "list" | .str => "str"
def tyS : M.Ty → Str
  | .int => "int" | .bool => "bool" | .tuple => "tuple" | .list => "list" | .str => "str"
theorem tyB (t : M.Ty) : bootBuiltins (tyS t) = some (.type (tyN t)) := by cases t <;> decide +kernel
theorem ky_none (t : M.Ty) : kitB "NoneType" (tyN t) = some false := by cases t <;> decide +kernel
theorem ky_bool (t : M.Ty) : kitB "bool" (tyN t) = some (decide (t = .bool) || decide (t = .int)) := by cases t <;> decide +kernel
theorem ky_int (t : M.Ty) : kitB "int" (tyN t) = some (decide (t = .int)) := by cases t <;> decide +kernel
theorem ky_str (t : M.Ty) : kitB "str" (tyN t) = some (decide (t = .str)) := by cases t <;> decide +kernel
theorem ky_tup (t : M.Ty) : kitB "tuple" (tyN t) = some (decide (t = .tuple)) := by cases t <;> decide +kernel
theorem ky_lst (t : M.Ty) : kitB "list" (tyN t) = some (decide (t = .list)) := by cases t <;> decide +kernel
theorem ky_dic (t : M.Ty) : kitB "dict" (tyN t) = some false := by cases t <;> decide +kernel
theorem isTy_all {K : Frag} {H : Hp} {S : M.Sto} (r : RelS K H S) {d : M.D} {v : V} (rd : RelD K H d v) {t0 : M.Ty} {b0 : Bool} (e0 : M.isTy S d t0 = some b0) :
    ∃ n, TyX K H v n ∧ ∀ t b, M.isTy S d t = some b → PySem.W.kitOne K n (.type (tyN t)) = some b := by
  cases rd with
  | non => exact ⟨_, .base .non, fun t b e => by cases e; exact kit_ty (ky_none t)⟩
  | bl x => exact ⟨_, .base (.bl x), fun t b e => by cases e; exact kit_ty (ky_bool t)⟩
  | int x => exact ⟨_, .base (.int x), fun t b e => by cases e; exact kit_ty (ky_int t)⟩
  | str x => exact ⟨_, .base (.str _), fun t b e => by cases e; exact kit_ty (ky_str t)⟩
  | tup h1 h2 =>
    refine ⟨.type "tuple", ?_, fun t b e => by cases e; exact kit_ty (ky_tup t)⟩
    rcases h1 with (h | ⟨o, h⟩) | ⟨o, its, n, hk, hc, _⟩
    · exact .base (.tup h)
    · exact .fTuple h
    · exact .kTuple hk hc
  | fl h1 h2 =>
    refine ⟨.type "list", ?_, fun t b e => by cases e; exact kit_ty (ky_lst t)⟩
    rcases h1 with ⟨o, h⟩ | ⟨o, its, n, hk, hc, _⟩
    · exact .base (.frz h)
    · exact .kList hk hc
  | xn _ => cases e0
  | xf _ _ _ _ => cases e0
  | ref a =>
    have e' : M.tyO (S a) t0 = some b0 := e0
    cases q : S a with
    | none => rw [q] at e'; cases e'
    | some o =>
      cases o with
      | lst ds =>
        obtain ⟨vs, h1, _⟩ := r a _ q
        refine ⟨_, .base (.lst h1), fun t b e => ?_⟩
        have e : M.tyO (S a) t = some b := e
        rw [q] at e
        cases e
        exact kit_ty (ky_lst t)
      | dic =>
        refine ⟨_, .base (.dK (r a _ q)), fun t b e => ?_⟩
        have e : M.tyO (S a) t = some b := e
        rw [q] at e
        cases e
        exact kit_ty (ky_dic t)
      | dct kvs =>
        obtain ⟨vs, h1, _⟩ := r a _ q
        refine ⟨_, .base (.dK h1), fun t b e => ?_⟩
        have e : M.tyO (S a) t = some b := e
        rw [q] at e
        cases e
        exact kit_ty (ky_dic t)
      | ins C fs =>
        obtain ⟨dx, vs, h1, _, h3⟩ := r a _ q
        refine ⟨.ref C, .base (.ins h1 h3.cl h3.ha h3.hn h3.ht h3.hm), fun t b e => ?_⟩
        have e : M.tyO (S a) t = some b := e
        rw [q] at e
        cases e
        exact h3.isb _ (by cases t <;> simp [tyN])
theorem isTy_rel {K : Frag} {H : Hp} {S : M.Sto} (r : RelS K H S) {d : M.D} {v : V} (rd : RelD K H d v) {t : M.Ty} {b : Bool} (e : M.isTy S d t = some b) :
    ∃ n, TyX K H v n ∧ PySem.W.kitOne K n (.type (tyN t)) = some b := by
  obtain ⟨n, h1, h2⟩ := isTy_all r rd e
  exact ⟨n, h1, h2 t b e⟩
/-! ### [::-1] -/
section
variable {X : Cx}
theorem places_rev (n : Nat) : Builtin.Slice.slicePlaces ((n : Int) - 1) (-1) (-1) = n := by
  unfold Builtin.Slice.slicePlaces
  have h1 : ¬ ((-1 : Int) > 0) := by decide
  simp only [h1, if_false]
  have e : (-(-1 : Int)) = 1 := by decide
  rw [e, Int.ediv_one]
  split <;> omega
theorem sliceApplied_rev {prog : Program} {w : World} {A : Around} {E : Value → Shared → Prop} {s : Shared} {sl : Addr} {vl vu vs : Value} {n : Nat} {Q : Int × Int × Nat → Shared → Prop} (hs : s.heap.IsSliceOf sl vl vu vs) (pl : IsPart vl none) (pu : IsPart vu none) (ps : IsPart vs (some (-1)))
    (h : Q ((n : Int) - 1, -1, n) s) : wpAny (model prog w) A (Builtin.Slice.sliceApplied (.ref sl) (pure (n : Int))) Q E s := by
  obtain ⟨os, hos, hcs, hds⟩ := id hs
  unfold Builtin.Slice.sliceApplied Builtin.Slice.sliceFields
  refine wpAny_bind (wpAny_bind (wpAny_field hos hds (x := vl) rfl (wpAny_bind (wpAny_field hos hds (x := vu) rfl (wpAny_bind (wpAny_field hos hds (x := vs) rfl (wpAny_pure ?_)))))))
  refine wpAny_bind (HT.slicePart_ ps ?_)
  show wpAny _ _ (if ((-1 : Int) == 0) = true then _ else _) _ _ s
  rw [if_neg (by decide)]
  refine wpAny_bind (HT.slicePart_ pl (wpAny_bind (HT.slicePart_ pu (wpAny_bind (wpAny_pure ?_)))))
  show wpAny _ _ (pure ((n : Int) - 1, (-1 : Int), Builtin.Slice.slicePlaces ((n : Int) - 1) (-1) (-1))) _ _ s
  rw [places_rev]
  exact wpAny_pure h
theorem fm_congr {α β : Type} {f g : α → Option β} : ∀ {l : List α}, (∀ x ∈ l, f x = g x) → l.filterMap f = l.filterMap g
  | [], _ => rfl
  | x :: l, h => by
    rw [List.filterMap_cons, List.filterMap_cons, h x List.mem_cons_self, fm_congr fun y hy => h y (List.mem_cons_of_mem _ hy)]
theorem pick_rev (its : List Value) : ((List.range its.length).filterMap fun (k : Nat) => its.toArray[(((its.length : Int) - 1) + (k : Int) * -1).toNat]?).toArray = its.reverse.toArray := by
  have e : (List.range its.length).filterMap (fun (k : Nat) => its.toArray[(((its.length : Int) - 1) + (k : Int) * -1).toNat]?) = ((List.range its.length).map fun k => its.length - 1 - k).filterMap (fun j => its.toArray[j]?) := by
    rw [List.filterMap_map]
    refine fm_congr fun k hk => ?_
    have := List.mem_range.mp hk
    have e : (((its.length : Int) - 1) + (k : Int) * -1).toNat = its.length - 1 - k := by omega
    show its.toArray[(((its.length : Int) - 1) + (k : Int) * -1).toNat]? = its.toArray[its.length - 1 - k]?
    rw [e]
  have a := PySem.W.krv_all its.toArray
  rw [e, PySem.W.krv_range, List.filterMap_reverse]
  simp only [List.size_toArray] at a
  rw [a]
theorem getItem_tuple_rev {prog : Program} {w : World} {A : Around} {E : Value → Shared → Prop} {s : Shared} {t sl : Addr} {its : List Value} {vl vu vs : Value} {Q : Value → Shared → Prop} (ht : IsTup s.heap t its.toArray) (hs : s.heap.IsSliceOf sl vl vu vs) (pl : IsPart vl none) (pu : IsPart vu none) (ps : IsPart vs (some (-1)))
    (hz : its.length ≤ sizeLine) (h : Q (.ref s.heap.objs.size) { s with heap := s.heap.push { cls := .type "tuple", data := .seq its.reverse.toArray } }) :
    wpAny (model prog w) A (getItem (.ref t) (.ref sl)) Q E s := by
  obtain ⟨os, hos, hcs, hds⟩ := id hs
  have hTs : s.TypeIs (.ref sl) "slice" := ⟨os, hos, hcs⟩
  unfold getItem
  try with_reducible refine wpAny_holding ?_
  first | refine wpAny_bind (wpAny_pure ?_) | skip
  refine wpAny_bind (wpAny_sequenceKey ht.typeIs (by decide) ?_)
  refine wpAny_bind (wpAny_callSpecial?_slot (name := Str.ofString "__getitem__") ht.typeIs PyProof.Rows.slot_tuple_getitem
    (wpAny_call_entry PyProof.Rows.slot_tuple_getitem ht.typeIs entry_tuple_getitem ?_ (args_tuple_getitem _ _)))
  show wpAny _ _ (Builtin.Tuple.tupleItemsOf (.ref t) >>= _) _ _ s
  refine wpAny_bind (tupleItemsOf_ ht ?_)
  refine wpAny_bind (wpAny_typeOf hTs ?_)
  rw [if_pos (by decide)]
  refine wpAny_bind (sliceApplied_rev hs pl pu ps ?_)
  have hno : ¬ ((((its.toArray.size : Int) - 1) == 0 && (-1 : Int) == 1 && its.toArray.size == its.toArray.size) = true) := by
    rw [show ((-1 : Int) == 1) = false by decide]
    simp
  show wpAny _ _ (if (((its.toArray.size : Int) - 1) == 0 && (-1 : Int) == 1 && its.toArray.size == its.toArray.size) = true then _ else _) _ _ s
  rw [if_neg hno]
  have e := pick_rev its
  have e2 : its.toArray.size = its.length := List.size_toArray
  rw [e2, e]
  have hsz : sizeOk (.seq its.reverse.toArray) := by
    show its.reverse.toArray.size ≤ sizeLine
    rw [List.size_toArray, List.length_reverse]
    exact hz
  first
    | exact wpAny_bind (m := Builtin.Tuple.tupleExact _) (wpAny_newObj_type (wpAny_pure ⟨_, rfl, wpAny_pure h⟩) hsz)
    | exact wpAny_bind (m := Builtin.Tuple.tupleExact _) (wpAny_newObj_type (wpAny_bind (wpAny_pure (wpAny_pure ⟨_, rfl, wpAny_pure h⟩))) hsz)
    | exact wpAny_bind (wpAny_bind (m := Builtin.Tuple.tupleExact _) (wpAny_newObj_type (wpAny_pure (wpAny_pure ⟨_, rfl, wpAny_pure h⟩)) hsz))
    | exact wpAny_bind (wpAny_bind (m := Builtin.Tuple.tupleExact _) (wpAny_newObj_type (wpAny_pure ⟨_, rfl, wpAny_pure h⟩) hsz))
def rRv (K : Frag) : V → Hp → VK → Prop := fun v H Q => ∃ x S Qd, RelS K H S ∧ RelD K H x v ∧ M.revD x S Qd ∧ OkV K S H Qd Q
theorem pe_revM {e : Expr} {te : TE} {k : Nat} {p1 p2 p3 pos : Pos} (he : PE X e te) : PE X (.Subscript e (.Slice none none (some (.UnaryOp .USub (.Constant (.int 1) k p1) p2)) p3) pos) (fun σ H Q => te σ H fun v H1 => rRv X.K v H1 Q) := by
  refine ⟨fun pins s σ H Q I h => ?_⟩
  refine Subscript_ (thn (he.run pins s σ H _ I h) fun v s1 ⟨x, H1, I1, r1, q1⟩ => ?_)
  obtain ⟨d, S, Qd, r, rd, w, hq⟩ := q1
  have hst : PO X (some (.UnaryOp .USub (.Constant (.int 1) k p1) p2)) (tPart (tUn (rU fun i => .int (-i)) (tC (.int 1)))) := po_some (pe_un un_neg pe_int)
  refine wpAny_Slice (thn (po_none.run pins s1 σ H1 (fun o H2 => o = none ∧ H2 = H1) I1 ⟨rfl, rfl⟩) fun vl s2 ⟨l, H2, I2, pl, el, e2⟩ => ?_)
  subst el e2
  refine thn (po_none.run pins s2 σ H2 (fun o H3 => o = none ∧ H3 = H2) I2 ⟨rfl, rfl⟩) fun vu s3 ⟨u, H3, I3, pu, eu, e3⟩ => ?_
  subst eu e3
  refine thn (hst.run pins s3 σ H3 (fun o H4 => o = some (-1) ∧ H4 = H3) I3 ⟨1, rfl, -1, rfl, rfl, rfl⟩) fun vs s4 ⟨o, H4, I4, ps, eo, e4⟩ => ?_
  subst eo e4
  have I5 : Inv X pins σ H4 { s4 with heap := s4.heap.push { cls := .type "slice", data := .fields #[vl, vu, vs] } } := I4.kept (t' := s4.toks) fun b ob q => Heap.get?_push_of_some _ q
  have lst : ∀ a ws xs, x = .ref a → SqL X.K H4 a ws → RelDs X.K H4 xs ws → (∀ p, S p = none → Qd (.ref p) (M.upd S p (.lst xs.reverse))) → wpAny (model X.prog X.w) X.A (subscriptTail e (.Slice none none (some (.UnaryOp .USub (.Constant (.int 1) k p1) p2)) p3) v (.ref s4.heap.objs.size)) (EP X pins σ Q) X.xe { s4 with heap := s4.heap.push { cls := .type "slice", data := .fields #[vl, vu, vs] } } := by
    intro a ws xs ex hx hd w
    subst ex
    cases r1
    obtain ⟨its, rr, ht, hz⟩ := I5.list hx
    have hlen := rr.length
    refine tail_any (ops := [.ref a, .ref s4.heap.objs.size]) ht.isList.typeIs (PySem.slot_list_getitem.lookup) ?_ (by with_unfolding_all rfl)
    refine wpAny_getItem_list_slice ht.isList (Heap.IsSliceOf.new _ vl vu vs) pl pu ps (by decide) ?_ (by rw [List.size_toArray]; omega)
    rw [PySem.W.krv_pick]
    refine ⟨.ref _, _, I5.laid (t' := s4.toks) (o := .lst ws.reverse) (fun b ob q => Heap.get?_push_of_some _ q) (Nat.le_refl _) ?_, rfl, hq.newL r hd.reverse w _ (I5.hok.fresh (Nat.le_refl _))⟩
    exact ⟨by rw [List.length_reverse]; exact hz, _, 0, rr.reverse, Heap.get?_push_size _ rfl⟩
  show wpAny (model X.prog X.w) X.A (subscriptTail e (.Slice none none (some (.UnaryOp .USub (.Constant (.int 1) k p1) p2)) p3) v (.ref s4.heap.objs.size)) (EP X pins σ Q) X.xe { s4 with heap := s4.heap.push { cls := .type "slice", data := .fields #[vl, vu, vs] } }
  cases rd with
  | @tup a ds ws h1 h2 =>
    cases r1
    obtain ⟨its, rr, ht, hz⟩ := I5.tuple h1
    have hlen := rr.length
    refine tail_any (ops := [.ref a, .ref s4.heap.objs.size]) ht.typeIs (PyProof.Rows.slot_tuple_getitem.lookup) ?_ (by with_unfolding_all rfl)
    refine getItem_tuple_rev ht (Heap.IsSliceOf.new _ vl vu vs) pl pu ps (by omega) ?_
    refine ⟨.ref _, _, I5.laid (t' := s4.toks) (o := .tup ws.reverse) (fun b ob q => Heap.get?_push_of_some _ q) (Nat.le_refl _) ?_, rfl, hq.newT r h2.reverse w _ (I5.hok.fresh (Nat.le_refl _))⟩
    exact ⟨by rw [List.length_reverse]; exact hz, _, rr.reverse, IsTup.new _ _⟩
  | fl h1 h2 => exact lst _ _ _ rfl h1.sq h2 w
  | ref a =>
    obtain ⟨xs, e, w⟩ := opt_of (show M.opt (M.lsOf S (.ref a)) (fun xs => ∀ p, S p = none → Qd (.ref p) (M.upd S p (.lst xs.reverse))) from w)
    obtain ⟨ws, h1, h2⟩ := r.at e
    exact lst a ws xs rfl (SqL.of h1) h2 w
  | non => exact False.elim w
  | bl b => exact False.elim w
  | int i => exact False.elim w
  | str x =>
    obtain ⟨hx, w⟩ : x.length ≤ M.lim ∧ Qd (.str x.reverse) S := w
    obtain ⟨t, rfl⟩ := r1
    refine tail_any (ops := [.str (stx x) t, .ref s4.heap.objs.size]) (typeIs_str _ _ _) PySem.F.slot_str_getitem.lookup ?_ (by with_unfolding_all rfl)
    obtain ⟨l, rfl, el⟩ := IsPart.raw pl
    obtain ⟨u, rfl, eu⟩ := IsPart.raw pu
    obtain ⟨st, rfl, es⟩ := IsPart.raw ps
    have e0 : (st.map (·.1)).getD 1 = -1 := by rw [es]; rfl
    refine wpAny_getItem_str_slice (l := l) (u := u) (st := st) ⟨_, Heap.get?_push_size _ rfl, rfl, rfl⟩ (by rw [e0]; rfl) ?_
    have str_rev : (((List.range (stx x).length).map fun k => (stx x).length - 1 - k).filterMap ((stx x).cps[·]?)).toArray = x.reverse.toArray := by
      congr 1
      rw [stx_len]
      show ((List.range x.length).map fun k => x.length - 1 - k).filterMap (x.toArray[·]?) = x.reverse
      rw [List.filterMap_map]
      refine List.ext_getElem? fun i => ?_
      have : (List.range x.length).filterMap ((fun k => x.toArray[k]?) ∘ fun k => x.length - 1 - k) = x.reverse := by
        have h1 : (List.range x.length).filterMap ((fun k => x.toArray[k]?) ∘ fun k => x.length - 1 - k) = (List.range x.length).map fun k => x.getD (x.length - 1 - k) 0 := by
          rw [← List.filterMap_eq_map]
          refine fm_congr fun k hk => ?_
          have := List.mem_range.mp hk
          show x.toArray[x.length - 1 - k]? = some (x.getD (x.length - 1 - k) 0)
          have hlt : x.length - 1 - k < x.length := by omega
          simp [hlt]
        rw [h1]
        refine List.ext_getElem (by simp) fun n h1 h2 => ?_
        simp only [List.length_map, List.length_range] at h1
        rw [List.getElem_map, List.getElem_range, List.getElem_reverse]
        have hlt : x.length - 1 - n < x.length := by omega
        simp [hlt]
      rw [this]
    have hm : Builtin.Str.strSliceIndices (l.map (·.1)) (u.map (·.1)) ((st.map (·.1)).getD 1) (stx x).length = (List.range (stx x).length).map fun k => (stx x).length - 1 - k := by
      rw [el, eu, e0]; exact PyProof.Rows.picked_rev _
    show Made.post (if (((st.map (·.1)).getD 1) == 1 && (Builtin.Str.strSliceIndices (l.map (·.1)) (u.map (·.1)) ((st.map (·.1)).getD 1) (stx x).length).length == (stx x).length) = true then Made.val (.str (stx x) t)
      else Made.str ⟨((Builtin.Str.strSliceIndices (l.map (·.1)) (u.map (·.1)) ((st.map (·.1)).getD 1) (stx x).length).filterMap ((stx x).cps[·]?)).toArray⟩) (EP X pins σ Q) _
    have hno : ∀ b : Bool, ¬ ((((-1 : Int) == 1) && b) = true) := by decide
    rw [hm, if_neg (by rw [e0]; exact hno _), str_rev]
    refine ⟨?_, .str (stx x.reverse), H4, I5.tok _, ⟨_, rfl⟩, hq.same r (.str _) w⟩
    show x.reverse.toArray.size ≤ sizeLine
    rw [List.size_toArray, List.length_reverse, ← lim_eq]; exact hx
  | xn _ => exact False.elim w
  | xf _ _ _ _ => exact False.elim w
/-! ### a starred item of a display -/
theorem star_sq {pins : List (Addr × Obj)} {s : Shared} {σ : Sl} {H : Hp} {a : Addr} {vs : List V} {Q : List Value → Shared → Prop} (I : Inv X pins σ H s) (h : SqL X.K H a vs ∨ SqT X.K H a vs) (hq : ∀ us s', Inv X pins σ H s' → Vals vs us → Q us s') :
    PySem.W.StarOf (model X.prog X.w) X.A X.xe (.ref a) Q s := by
  have go : ∀ {T : String} {o : Obj} {its : List Value} {n : Nat}, (T = "list" ∨ T = "tuple") → s.heap.get? a = some o → o.cls = .type T → o.data = .seq its.toArray n → its.length ≤ sizeLine → Vals vs its → PySem.W.StarOf (model X.prog X.w) X.A X.xe (.ref a) Q s := by
    intro T o its n hT ho hc hd hz rv
    have hT' : s.TypeIs (.ref a) T := ⟨o, ho, hc⟩
    have z : wpAny (model X.prog X.w) X.A (collect (.ref a)) Q X.xe s :=
      wpAny_collect_seq a hT ho hc hd (fun h' hk => hq _ _ (I.kept (t' := s.toks) hk) (by simpa using rv)) (by simpa using hz)
    unfold PySem.W.StarOf notIterableAtAll
    rcases hT with rfl | rfl
    · exact wpAny_bind (wpAny_specialOf hT' PySem.F.slot_list_iter.lookup (wpAny_pure ⟨rfl, z⟩))
    · exact wpAny_bind (wpAny_specialOf hT' PySem.F.slot_tuple_iter.lookup (wpAny_pure ⟨rfl, z⟩))
  rcases h with h | h
  · obtain ⟨its, rv, ⟨o, n, ho, hc, _, hd⟩, hz⟩ := I.list h
    exact go (.inl rfl) ho hc hd (by rw [← rv.length]; exact hz) rv
  · obtain ⟨its, rv, ⟨o, ho, hc, n, hd⟩, hz⟩ := I.tuple h
    exact go (.inr rfl) ho hc hd (by rw [← rv.length]; exact hz) rv
theorem pa_star {e : Expr} {es : List Expr} {te : TE} {t : TA} {p : Pos} {r : V → Hp → (List V → Hp → Prop) → Prop}
    (hr : ∀ v H Q, r v H Q → ∃ a vs, v = .ref a ∧ (SqL X.K H a vs ∨ SqT X.K H a vs) ∧ Q vs H) (ha : PE X e te) (ht : PA X es t) :
    PA X (.Starred e p :: es) (fun σ H Q => te σ H fun v H1 => r v H1 fun xs H2 => t σ H2 fun ys H3 => Q (xs ++ ys) H3) := by
  refine ⟨fun pos pins s σ H Q I h => ?_⟩
  refine PySem.W.items_star (thn (ha.run pins s σ H _ I h) fun v s1 ⟨x, H1, I1, r1, q1⟩ => ?_)
  obtain ⟨a, vs, rfl, hs, q⟩ := hr _ _ _ q1
  cases r1
  refine star_sq I1 hs fun us s2 I2 rv => ?_
  exact thn (ht.run pos pins s2 σ H1 _ I2 q) fun ws s3 ⟨ys, H3, I3, rw', q3⟩ => ⟨_, H3, I3, rv.append rw', q3⟩
end
end Snd
namespace Snd
open PySem PySem.Spec PyProof.Rows L2
theorem prs_map : ∀ {ds : List M.D} {ps : List (Int × Int)}, M.prsD ds = some ps → ds = ps.map M.prV
  | [], ps, h => by cases h; rfl
  | d :: ds, ps, h => by
    match d, h with
    | .tup [.int i, .int j], h =>
      obtain ⟨qs, e1, e2⟩ := Option.map_eq_some_iff.mp (show (M.prsD ds).map ((i, j) :: ·) = some ps from h)
      subst e2
      rw [prs_map e1]; rfl
section
variable {X : Cx} {pins : List (Addr × Obj)} {σ : L2.St} {H : Hp} {s : Shared}
theorem pr_rel (I : Inv X pins σ H s) {p : Int × Int} {v : V} {u : Value} (h : RelD X.K H (M.prV p) v) (hv : RelV v u) : ∃ a t1 t2, v = .ref a ∧ u = .ref a ∧ s.heap.IsTuple a #[.int p.1 t1, .int p.2 t2] := by
  cases h with
  | @tup a ds vs h1 h2 =>
    cases h2 with
    | cons r1 r2 =>
      cases r2 with
      | cons r3 r4 =>
        cases r4
        cases r1
        cases r3
        obtain ⟨its, rv, hl, _⟩ := I.tuple h1
        obtain ⟨u1, u2, rfl, ri, rj⟩ := vals2 rv
        obtain ⟨t1, rfl⟩ := ri
        obtain ⟨t2, rfl⟩ := rj
        obtain rfl : u = Value.ref a := hv
        exact ⟨a, t1, t2, rfl, rfl, hl⟩
theorem prs_hold (I : Inv X pins σ H s) : ∀ {ps : List (Int × Int)} {vs : List V} {its : List Value}, RelDs X.K H (ps.map M.prV) vs → Vals vs its → PySem.W.HoldAll s.heap its ps
  | [], _, _, .nil, .nil => PySem.W.HoldAll.nil
  | p :: ps, _, _, .cons r rs, .cons v vs => by
    obtain ⟨a, t1, t2, rfl, rfl, hl⟩ := pr_rel I r v
    exact PySem.W.HoldAll.cons (PySem.W.holds_pair hl (PySem.W.holds_int _ _) (PySem.W.holds_int _ _)) (prs_hold I rs vs)
theorem minP_eq : ∀ (r : List (Int × Int)) (p : Int × Int), PySem.W.minOf p r = M.minP p r
  | [], p => rfl
  | i :: r, p => by
    show PySem.W.minOf (if PySem.W.DatumOrd.lt i p = true then i else p) r = M.minP (if M.ltP i p then i else p) r
    rw [minP_eq r]
    rfl
theorem onConsP_of {l : List (Int × Int)} {P : Int × Int → List (Int × Int) → Prop} (h : M.onConsP l P) : ∃ i r, l = i :: r ∧ P i r := by
  cases l with
  | cons i r => exact ⟨i, r, rfl, h⟩
  | nil => exact False.elim h
theorem RelDs.at {K : Frag} {H : Hp} : ∀ {ds : List M.D} {vs : List V} {i : Nat} {d : M.D}, RelDs K H ds vs → ds[i]? = some d → ∃ v, vs[i]? = some v ∧ RelD K H d v := fun r e => r.get e
end
section
variable {X : Cx}
theorem bi_minp (hc : X.calm = true) (hu : X.A.units + 64 < cLine) : CallR X (.builtin "min") (rBi X.K .minp) := by
  intro pins s σ H vs us Q I rv h
  obtain ⟨ds, S, Qd, r, rd, w, hq⟩ := h
  obtain ⟨d, rfl, w⟩ := arg1_of w
  obtain ⟨v, rfl, rx⟩ := rel1 rd
  obtain ⟨xs, e, w⟩ := opt_of w
  obtain ⟨ps, e2, w⟩ := opt_of w
  obtain ⟨p, ps, rfl, wq⟩ := onConsP_of w
  obtain ⟨a, ws, rfl, hs, hd⟩ := lsOf_rel r rx e
  have e3 := prs_map e2
  subst e3
  obtain ⟨its, rw', hl, _⟩ := I.list hs
  rw [Vals.ref1 rv]
  have hold := prs_hold I hd rw'
  have hdep : PySem.W.Datum.depth (Int × Int) ≤ 10 := by decide
  refine PySem.W.min_list_datum (x := p) (xs := ps) (I.ok.hd hc) hl.isList (by simpa using hold) (by omega) fun i v h' tk hi hh hk => ?_
  have hi' : its[i]? = some v := by simpa using hi
  obtain ⟨x, hx, hv⟩ := hold.at hi'
  obtain ⟨as1, r1⟩ := hv
  obtain ⟨as2, r2⟩ := hh
  obtain ⟨ed, _⟩ := reads_det (fun b o eb _ => hk b o eb) r1 r2
  have ex : PySem.W.minOf p ps = x := by
    have : PyData.tuple [.int (PySem.W.minOf p ps).1, .int (PySem.W.minOf p ps).2] = PyData.tuple [.int x.1, .int x.2] := ed
    injection this with this
    injection this with q1 this
    injection this with q2 _
    injection q1 with q1
    injection q2 with q2
    exact Prod.ext q1 q2
  obtain ⟨vv, hvv, rvv⟩ := hd.get (show ((p :: ps).map M.prV)[i]? = some (M.prV x) by rw [List.getElem?_map, hx]; rfl)
  obtain ⟨v', hv', rel⟩ := rw'.get hvv
  rw [hi'] at hv'
  injection hv' with hv'
  subst hv'
  rw [← minP_eq, ex] at wq
  exact ⟨vv, H, I.kept hk, rel, hq.same r rvv wq⟩
end
section
variable {X : Cx} {pins : List (Addr × Obj)} {σ : L2.St} {H : Hp} {s : Shared}
theorem pair_uniq {h : Heap} {v : Value} {x y x' y' : Int} (p : Srt.IsPair h v x y) (q : Srt.IsPair h v x' y') : x = x' ∧ y = y' := by
  obtain ⟨a, o, t, u, n, rfl, ho, hc, hd⟩ := p
  obtain ⟨a', o', t', u', n', e, ho', hc', hd'⟩ := q
  injection e with e
  subst e
  rw [ho] at ho'
  injection ho' with ho'
  subst ho'
  rw [hd] at hd'
  injection hd' with e1 _
  have e2 := congrArg Array.toList e1
  injection e2 with e3 e4
  injection e4 with e5 _
  injection e3 with e3 _
  injection e5 with e5 _
  exact ⟨e3, e5⟩
open Classical in
noncomputable def kOf (h : Heap) (v : Value) : Int × Int := if e : ∃ p : Int × Int, Srt.IsPair h v p.1 p.2 then e.choose else (0, 0)
theorem kOf_is {h : Heap} {v : Value} {p : Int × Int} (hp : Srt.IsPair h v p.1 p.2) : kOf h v = p := by
  have e : ∃ p : Int × Int, Srt.IsPair h v p.1 p.2 := ⟨p, hp⟩
  unfold kOf
  rw [dif_pos e]
  obtain ⟨h1, h2⟩ := pair_uniq e.choose_spec hp
  exact Prod.ext h1 h2
theorem prs_k (I : Inv X pins σ H s) : ∀ {ps : List (Int × Int)} {vs : List V} {its : List Value}, RelDs X.K H (ps.map M.prV) vs → Vals vs its → its.map (kOf s.heap) = ps ∧ ∀ v ∈ its, Srt.IsPair s.heap v (kOf s.heap v).1 (kOf s.heap v).2 ∧ (∃ a, v = Value.ref a) ∧ RelD X.K H (M.prV (kOf s.heap v)) (backV v)
  | [], _, _, .nil, .nil => ⟨rfl, fun v hv => by cases hv⟩
  | p :: ps, _, _, .cons r rs, .cons q qs => by
    obtain ⟨h1, h2⟩ := prs_k I rs qs
    obtain ⟨a, t1, t2, rfl, rfl, o, ho, hc, n, hd⟩ := pr_rel I r q
    have ip : Srt.IsPair s.heap (.ref a) p.1 p.2 := ⟨a, o, t1, t2, n, rfl, ho, hc, hd⟩
    have kp := kOf_is ip
    refine ⟨by rw [List.map_cons, kp, h1], fun v hv => ?_⟩
    rcases List.mem_cons.mp hv with rfl | hv
    · rw [kp]
      exact ⟨ip, ⟨a, rfl⟩, r⟩
    · exact h2 v hv
theorem rel_map {K : Frag} {H : Hp} {f : Value → M.D} {g : Value → V} : ∀ {l : List Value}, (∀ v ∈ l, RelD K H (f v) (g v)) → RelDs K H (l.map f) (l.map g)
  | [], _ => .nil
  | v :: l, h => .cons (h v List.mem_cons_self) (rel_map fun u hu => h u (List.mem_cons_of_mem _ hu))
end
section
variable {X : Cx}
theorem bi_sortp : CallR X (.builtin "sorted") (rBi X.K .sortp) := by
  intro pins s σ H vs us Q I rv h
  obtain ⟨ds, S, Qd, r, rd, w, hq⟩ := h
  obtain ⟨d, rfl, w⟩ := arg1_of w
  obtain ⟨v, rfl, rx⟩ := rel1 rd
  obtain ⟨xs, e, w⟩ := opt_of w
  obtain ⟨ps, e2, wq⟩ := opt_of w
  obtain ⟨a, ws, rfl, hs, hd⟩ := lsOf_rel r rx e
  have e3 := prs_map e2
  subst e3
  obtain ⟨its, rw', hl, hz⟩ := I.list hs
  rw [Vals.ref1 rv]
  obtain ⟨k1, k2⟩ := prs_k I hd rw'
  refine SrtO.sorted_pairsO (k := kOf s.heap) hl.isList (by rw [← rw'.length]; exact hz) (fun v hv => (k2 v hv).1) fun h' d out h1 h2 kp hd' hn => ?_
  have h3 : ∀ u ∈ out, ∃ a, u = Value.ref a := fun u hu => (k2 u (h2.perm.mem_iff.mp hu)).2.1
  obtain ⟨n, hn⟩ := hn
  have rel : RelDs X.K H ((out.map (kOf s.heap)).map M.prV) (out.map backV) := by
    rw [List.map_map]
    exact rel_map fun v hv => (k2 v (h2.perm.mem_iff.mp hv)).2.2
  have perm : (out.map (kOf s.heap)).Perm ps := by
    have := h2.perm.map (kOf s.heap)
    rwa [k1] at this
  have pw : (out.map (kOf s.heap)).Pairwise (fun p q => M.ltP q p = false) := List.pairwise_map.mpr h1
  refine ⟨.ref d, upd H d (.lst (out.map backV)), I.laid (t' := s.toks) kp hd' ⟨?_, out, n, vals_back h3, hn⟩, rfl, hq.newL r rel (wq _ perm pw) d (I.hok.fresh hd')⟩
  rw [List.length_map, h2.perm.length_eq, ← rw'.length]
  exact hz
end
end Snd
namespace Snd
open PySem PySem.Spec PyProof.Rows L2
/-! ### repr -/
mutual
def pyOf : M.P → PyData
  | .non => .none
  | .bl b => .bool b
  | .int i => .int i
  | .str x => .str (stx x)
  | .tup xs => .tuple (pyOfL xs)
  | .lst xs => .list (pyOfL xs)
  | .dic => .dict []
  | .dct kvs => .dict (pyOfK kvs)
def pyOfL : List M.P → List PyData
  | [] => []
  | x :: r => pyOf x :: pyOfL r
def pyOfK : List (M.Tx × M.P) → List (PyData × PyData)
  | [] => []
  | (k, x) :: r => (.str (stx k), pyOf x) :: pyOfK r
end
def rpF (p : M.P) : M.Tx := (pyOf p).shown.cps.toList
theorem stx_rpF (p : M.P) : stx (rpF p) = (pyOf p).shown := by
  unfold stx rpF
  rw [Array.toArray_toList]
section
variable {X : Cx} {pins : List (Addr × Obj)} {σ : Sl} {H : Hp} {s : Shared} {S : M.Sto}
theorem reads_all {f : M.D → M.P} {ok : M.D → Prop} (h : ∀ d v u, ok d → RelD X.K H d v → RelV v u → ∃ as, Reads s.heap u (pyOf (f d)) as) : ∀ {xs : List M.D} {vs : List V} {us : List Value}, (∀ y ∈ xs, ok y) → RelDs X.K H xs vs → Vals vs us → ∃ as, ReadsAll s.heap us (pyOfL (xs.map f)) as
  | [], _, _, _, .nil, .nil => ⟨_, .nil⟩
  | x :: xs, _, _, o, .cons a b, .cons c d => by
    obtain ⟨as, q1⟩ := h x _ _ (o x List.mem_cons_self) a c
    obtain ⟨bs, q2⟩ := reads_all h (fun y hy => o y (List.mem_cons_of_mem _ hy)) b d
    exact ⟨_, .cons q1 q2⟩
theorem reads_fit (I : Inv X pins σ H s) (r : RelS X.K H S) : ∀ (n : Nat) (d : M.D) (v : V) (u : Value), M.fitR n S d → RelD X.K H d v → RelV v u → ∃ as, Reads s.heap u (pyOf (M.toQ n S d)) as
  | 0, _, _, _, h, _, _ => False.elim h
  | n + 1, d, v, u, h, rd, rv => by
    have ih := reads_fit I r n
    unfold M.fitR at h
    unfold M.toQ
    cases rd with
    | non => cases rv; exact ⟨_, .none⟩
    | bl b => cases rv; exact ⟨_, .bool b⟩
    | int i => obtain ⟨t, rfl⟩ := rv; exact ⟨_, .int i t⟩
    | str x => obtain ⟨t, rfl⟩ := rv; exact ⟨_, .str _ t⟩
    | tup hs hd =>
      cases rv
      obtain ⟨its, rr, ⟨o, ho, hc, m, hdat⟩, _⟩ := I.tuple hs
      obtain ⟨as, q⟩ := reads_all ih h hd rr
      exact ⟨_, .tuple ho hc hdat q⟩
    | fl hs hd =>
      cases rv
      obtain ⟨its, rr, ⟨o, m, ho, hc, _, hdat⟩, _⟩ := I.list hs.sq
      obtain ⟨as, q⟩ := reads_all ih h hd rr
      exact ⟨_, .list ho hc hdat q⟩
    | ref a =>
      cases rv
      obtain ⟨xs, e, h⟩ := opt_of h
      obtain ⟨vs, h1, h2⟩ := r.at e
      obtain ⟨its, rr, ⟨o, m, ho, hc, _, hdat⟩, _⟩ := I.list (SqL.of h1)
      obtain ⟨as, q⟩ := reads_all ih h h2 rr
      simp only [lstAt_some e]
      exact ⟨_, .list ho hc hdat q⟩
    | xn _ => exact False.elim h
    | xf _ _ _ _ => exact False.elim h
/-! ### with dicts within -/
theorem readsQ_all {f : M.D → M.P} {ok : M.D → Prop} (h : ∀ d v u, ok d → RelD X.K H d v → RelV v u → ∃ as, Reads s.heap u (pyOf (f d)) as ∧ sysModules ∉ as) : ∀ {xs : List M.D} {vs : List V} {us : List Value}, (∀ y ∈ xs, ok y) → RelDs X.K H xs vs → Vals vs us → ∃ as, ReadsAll s.heap us (pyOfL (xs.map f)) as ∧ sysModules ∉ as
  | [], _, _, _, .nil, .nil => ⟨_, .nil, fun z => nomatch z⟩
  | x :: xs, _, _, o, .cons a b, .cons c d => by
    obtain ⟨as, q1, n1⟩ := h x _ _ (o x List.mem_cons_self) a c
    obtain ⟨bs, q2, n2⟩ := readsQ_all h (fun y hy => o y (List.mem_cons_of_mem _ hy)) b d
    exact ⟨_, .cons q1 q2, fun z => (List.mem_append.mp z).elim n1 n2⟩
theorem kv_entries : ∀ {es : List (Key × Value)} {kvs : List (M.Tx × M.D)} {vs : List V}, KV ((kvs.map fun p => (Sum.inr (stx p.1) : Key)).zip vs) es → RelDs X.K H (kvs.map (·.2)) vs → Vals vs (es.map (·.2)) ∧ es.map (·.1) = kvs.map fun p => (Sum.inr (stx p.1) : Key)
  | es, [], vs, h, r => by
    cases r
    cases h
    exact ⟨.nil, rfl⟩
  | es, (k, d) :: kvs, vs, h, r => by
    cases r with
    | cons a b =>
      cases h with
      | cons c e =>
        obtain ⟨h1, h2⟩ := kv_entries e b
        exact ⟨.cons c.2 h1, by rw [List.map_cons, List.map_cons, h2, ← c.1]⟩
theorem keys_read : ∀ {us : List Value} {ks : List M.Tx}, Paired (fun (k : M.Tx) (u : Value) => ∃ t, u = Value.str (stx k) t) ks us → ReadsAll s.heap us (ks.map fun k => PyData.str (stx k)) []
  | _, [], .nil => .nil
  | _, k :: ks, .cons a b => by
    obtain ⟨t, rfl⟩ := a
    exact .cons (as := []) (bs := []) (.str _ t) (keys_read b)
theorem pyOfK_fst : ∀ kvs : List (M.Tx × M.P), (pyOfK kvs).map (·.1) = (kvs.map (·.1)).map fun k => PyData.str (stx k)
  | [] => rfl
  | (k, x) :: r => by simp only [pyOfK, List.map_cons, pyOfK_fst r]
theorem pyOfK_snd : ∀ kvs : List (M.Tx × M.P), (pyOfK kvs).map (·.2) = pyOfL (kvs.map (·.2))
  | [] => rfl
  | (k, x) :: r => by simp only [pyOfK, pyOfL, List.map_cons, pyOfK_snd r]
theorem ent_keys {P : Program} {w : World} : ∀ {es : List DictEntry} {vs : List (Key × Value)} {ks : List M.Tx}, Pairs (mixKind P w) es vs → vs.map (·.1) = ks.map (fun k => (Sum.inr (stx k) : Key)) → Paired (fun (k : M.Tx) (u : Value) => ∃ t, u = Value.str (stx k) t) ks (es.map (·.key)) ∧ es.map (·.val) = vs.map (·.2)
  | _, _, [], .nil, _ => ⟨.nil, rfl⟩
  | _, _, _ :: _, .nil, h => nomatch h
  | _, _, [], .cons _ _ _, h => nomatch h
  | _, _, k :: ks, .cons (e := e) (kv := v) a1 a2 b, h => by
    rw [List.map_cons, List.map_cons] at h
    injection h with h1 h2
    obtain ⟨g1, g2⟩ := ent_keys b h2
    have a1 : keyIs v.1 e.key = true := a1
    rw [h1] at a1
    refine ⟨.cons ?_ g1, by rw [List.map_cons, List.map_cons, g2, a2]⟩
    obtain ⟨t, e2⟩ := Value.isStrOf_shape (x := stx k) (v := e.key) a1
    exact ⟨t, e2⟩
/-- the place of the modules' table is no list -/
def SysK (K : Frag) : Prop := ∃ o, K.lookup sysModules = some o ∧ o.cls = .type "dict"
theorem SysK.ne (h : SysK X.K) (I : Inv X pins σ H s) {a : Addr} {o : Obj} (ho : s.heap.get? a = some o) (hc : o.cls = .type "list") : a ≠ sysModules := fun z => by
  obtain ⟨o', h1, h2⟩ := h
  have q := I.kIn _ _ h1
  rw [z, q] at ho
  cases ho
  rw [h2] at hc
  exact absurd hc (by decide)
theorem reads_fitQ (I : Inv X pins σ H s) (sy : SysK X.K) (r : RelS X.K H S) : ∀ (n : Nat) (d : M.D) (v : V) (u : Value), M.fitQ n S d → RelD X.K H d v → RelV v u → ∃ as, Reads s.heap u (pyOf (M.toQ n S d)) as ∧ sysModules ∉ as
  | 0, _, _, _, h, _, _ => False.elim h
  | n + 1, d, v, u, h, rd, rv => by
    have ih := reads_fitQ I sy r n
    unfold M.fitQ at h
    unfold M.toQ
    cases rd with
    | non => cases rv; exact ⟨_, .none, fun z => nomatch z⟩
    | bl b => cases rv; exact ⟨_, .bool b, fun z => nomatch z⟩
    | int i => obtain ⟨t, rfl⟩ := rv; exact ⟨_, .int i t, fun z => nomatch z⟩
    | str x => obtain ⟨t, rfl⟩ := rv; exact ⟨_, .str _ t, fun z => nomatch z⟩
    | tup hs hd =>
      cases rv
      obtain ⟨its, rr, ⟨o, ho, hc, m, hdat⟩, _⟩ := I.tuple hs
      obtain ⟨as, q, nq⟩ := readsQ_all ih h hd rr
      exact ⟨_, .tuple ho hc hdat q, nq⟩
    | fl hs hd =>
      cases rv
      obtain ⟨its, rr, ⟨o, m, ho, hc, _, hdat⟩, _⟩ := I.list hs.sq
      obtain ⟨as, q, nq⟩ := readsQ_all ih h hd rr
      exact ⟨_, .list ho hc hdat q, fun z => (List.mem_cons.mp z).elim (fun z => sy.ne I ho hc z.symm) nq⟩
    | ref a =>
      cases rv
      have h : M.fitO (M.fitQ n S) (S a) := h
      cases e : S a with
      | none => rw [e] at h; exact False.elim h
      | some o =>
        rw [e] at h
        cases o with
        | lst xs =>
          obtain ⟨vs, h1, h2⟩ := r a _ e
          obtain ⟨its, rr, ⟨o, m, ho, hc, _, hdat⟩, _⟩ := I.list (SqL.of h1)
          obtain ⟨as, q, nq⟩ := readsQ_all ih h h2 rr
          simp only [e]
          exact ⟨_, .list ho hc hdat q, fun z => (List.mem_cons.mp z).elim (fun z => sy.ne I ho hc z.symm) nq⟩
        | dic =>
          have hH : H a = some (.dK []) := r a _ e
          obtain ⟨z, hS, vs, kv, o, es, ep, ho, hc, hdat, hk, hp, hn⟩ := dk_of I.hok hH
          have hne : a ≠ sysModules := by simpa using hS
          cases kv
          have hes : es.toList = [] := List.eq_nil_of_length_eq_zero (hp.length)
          simp only [e]
          refine ⟨a :: [] ++ [], .dict (kvs := []) (as := []) (bs := []) ho hc.1 hdat (by rw [hes]; exact .nil) (by rw [hes]; exact .nil), ?_⟩
          simp [Ne.symm hne]
        | dct kvs =>
          obtain ⟨ws, hH, h2⟩ := r a _ e
          obtain ⟨z, hS, vs, kv, o, es, ep, ho, hc, hdat, hk, hp, hn⟩ := dk_of I.hok hH
          have hne : a ≠ sysModules := by simpa using hS
          obtain ⟨g1, g2⟩ := kv_entries kv h2
          have g2' : vs.map (·.1) = (kvs.map (·.1)).map fun k => (Sum.inr (stx k) : Key) := by rw [g2, List.map_map]; rfl
          obtain ⟨k1, k2⟩ := ent_keys hp g2'
          simp only [e]
          obtain ⟨bs, q, nq⟩ := readsQ_all (f := M.toQ n S) (ok := M.fitQ n S) ih (fun y hy => by
            obtain ⟨p, hp', rfl⟩ := List.mem_map.mp hy
            exact (h.2 p hp').2) h2 g1
          refine ⟨a :: [] ++ bs, .dict (kvs := pyOfK (kvs.map fun p : M.Tx × M.D => (p.1, M.toQ n S p.2))) (as := []) (bs := bs) ho hc.1 hdat ?_ ?_, ?_⟩
          · have e2 : (kvs.map fun p : M.Tx × M.D => (p.1, M.toQ n S p.2)).map (·.1) = kvs.map (·.1) := by rw [List.map_map]; rfl
            rw [pyOfK_fst, e2]
            exact keys_read k1
          · rw [pyOfK_snd, List.map_map, k2]
            rw [List.map_map] at q
            exact q
          · intro z
            rcases List.mem_append.mp z with z | z
            · rcases List.mem_cons.mp z with z | z
              · exact hne z.symm
              · cases z
            · exact nq z
        | ins C fs => exact False.elim h
    | xn _ => exact False.elim h
    | xf _ _ _ _ => exact False.elim h
end
/-- what is needed of a readable value -/
structure Shw (p : M.P) (n z : Nat) : Prop where
  nd : (pyOf p).hasDict = false
  sh : (pyOf p).showable = true
  dp : (pyOf p).depth ≤ n
  ln : (pyOf p).shown.length ≤ z
theorem shw_all {f : M.D → M.P} {g : M.D → Nat} {n : Nat} {ok : M.D → Prop} (h : ∀ d, ok d → Shw (f d) n (g d)) : ∀ {xs : List M.D}, (∀ y ∈ xs, ok y) →
    PyData.hasDictAll (pyOfL (xs.map f)) = false ∧ PyData.showableAll (pyOfL (xs.map f)) = true ∧ PyData.depthAll (pyOfL (xs.map f)) ≤ n ∧ ((PyData.shownAll (pyOfL (xs.map f))).map (·.length)).sum + 2 * (PyData.shownAll (pyOfL (xs.map f))).length ≤ M.sumN (xs.map fun y => g y + 2)
  | [], _ => by simp [pyOfL, PyData.hasDictAll, PyData.showableAll, PyData.depthAll, PyData.shownAll, M.sumN]
  | x :: xs, o => by
    obtain ⟨a1, a2, a3, a4⟩ := shw_all h (xs := xs) fun y hy => o y (List.mem_cons_of_mem _ hy)
    obtain ⟨b1, b2, b3, b4⟩ := h x (o x List.mem_cons_self)
    simp only [List.map_cons, pyOfL, PyData.hasDictAll, PyData.showableAll, PyData.depthAll, PyData.shownAll, M.sumN, a1, a2, b1, b2, List.sum_cons, List.length_cons]
    refine ⟨rfl, rfl, Nat.max_le.mpr ⟨b3, a3⟩, by omega⟩
theorem shw_fit : ∀ (n : Nat) (S : M.Sto) (d : M.D), M.fitR n S d → Shw (M.toQ n S d) n (M.szR n S d)
  | 0, _, _, h => False.elim h
  | n + 1, S, d, h => by
    have ih := fun d => shw_fit n S d
    unfold M.fitR at h
    unfold M.toQ M.szR
    cases d with
    | non => exact ⟨by simp [pyOf, PyData.hasDict], by simp [pyOf, PyData.showable], by simp [pyOf, PyData.depth], by simp only [pyOf]; exact (show (PyData.shown .none).length ≤ 4 by decide +kernel)⟩
    | bl b => exact ⟨by simp [pyOf, PyData.hasDict], by simp [pyOf, PyData.showable], by simp [pyOf, PyData.depth], by simp only [pyOf]; cases b <;> decide +kernel⟩
    | int i =>
      have hl : i.natAbs.log2 < 1900 := log_lt (by decide) h
      refine ⟨by simp [pyOf, PyData.hasDict], by simp only [pyOf, PyData.showable]; exact decide_eq_true (by omega), by simp [pyOf, PyData.depth], ?_⟩
      simp only [pyOf, PyData.shown]
      have e := int_text_length_le (a := i) (k := 1900) (by decide) hl
      have e2 : (Str.ofString (toString i)).length ≤ 1901 := by
        rw [Str.ofString_eq_toList]
        show (List.toArray _).size ≤ _
        rw [List.size_toArray, List.length_map, String.length_toList]; exact e
      exact Nat.le_trans e2 (by decide)
    | str x =>
      refine ⟨by simp [pyOf, PyData.hasDict], by simp [pyOf, PyData.showable], by simp [pyOf, PyData.depth], ?_⟩
      simp only [pyOf, PyData.shown]
      have e := StrLaws.reprText_len (stx x) (fun c hc => by
        rw [stx_cps] at hc
        have := h c hc
        have e16 : (16 : Nat) ^ 8 = 4294967296 := by decide
        omega)
      rw [stx_len] at e
      exact e
    | tup xs =>
      obtain ⟨a1, a2, a3, a4⟩ := shw_all ih h
      refine ⟨by simp only [pyOf, PyData.hasDict]; exact a1, by simp only [pyOf, PyData.showable]; exact a2, by simp only [pyOf, PyData.depth]; omega, ?_⟩
      simp only [pyOf, PyData.shown]
      have := tupleText_len_le (PyData.shownAll (pyOfL (xs.map (M.toQ n S))))
      omega
    | fl xs =>
      obtain ⟨a1, a2, a3, a4⟩ := shw_all ih h
      refine ⟨by simp only [pyOf, PyData.hasDict]; exact a1, by simp only [pyOf, PyData.showable]; exact a2, by simp only [pyOf, PyData.depth]; omega, ?_⟩
      simp only [pyOf, PyData.shown]
      have := listText_len_le (PyData.shownAll (pyOfL (xs.map (M.toQ n S))))
      omega
    | ref a =>
      obtain ⟨xs, e, h⟩ := opt_of h
      obtain ⟨a1, a2, a3, a4⟩ := shw_all ih h
      simp only [lstAt_some e]
      refine ⟨by simp only [pyOf, PyData.hasDict]; exact a1, by simp only [pyOf, PyData.showable]; exact a2, by simp only [pyOf, PyData.depth]; omega, ?_⟩
      simp only [pyOf, PyData.shown]
      have := listText_len_le (PyData.shownAll (pyOfL (xs.map (M.toQ n S))))
      omega
    | xn c fs => exact False.elim h
structure Shq (p : M.P) (n z : Nat) : Prop where
  sh : (pyOf p).showable = true
  dp : (pyOf p).depth ≤ n
  ln : (pyOf p).shown.length ≤ z
theorem shq_all {f : M.D → M.P} {g : M.D → Nat} {n : Nat} {ok : M.D → Prop} (h : ∀ d, ok d → Shq (f d) n (g d)) : ∀ {xs : List M.D}, (∀ y ∈ xs, ok y) →
    PyData.showableAll (pyOfL (xs.map f)) = true ∧ PyData.depthAll (pyOfL (xs.map f)) ≤ n ∧ ((PyData.shownAll (pyOfL (xs.map f))).map (·.length)).sum + 2 * (PyData.shownAll (pyOfL (xs.map f))).length ≤ M.sumN (xs.map fun y => g y + 2)
  | [], _ => by simp [pyOfL, PyData.showableAll, PyData.depthAll, PyData.shownAll, M.sumN]
  | x :: xs, o => by
    obtain ⟨a2, a3, a4⟩ := shq_all h (xs := xs) fun y hy => o y (List.mem_cons_of_mem _ hy)
    obtain ⟨b2, b3, b4⟩ := h x (o x List.mem_cons_self)
    simp only [List.map_cons, pyOfL, PyData.showableAll, PyData.depthAll, PyData.shownAll, M.sumN, a2, b2, List.sum_cons, List.length_cons]
    refine ⟨rfl, Nat.max_le.mpr ⟨b3, a3⟩, by omega⟩
theorem shw_str (x : M.Tx) (h : ∀ c ∈ x, c < 1114112) : (PyData.str (stx x)).shown.length ≤ 10 * x.length + 2 := by
  simp only [PyData.shown]
  have e := StrLaws.reprText_len (stx x) (fun c hc => by
    rw [stx_cps] at hc
    have := h c hc
    have e16 : (16 : Nat) ^ 8 = 4294967296 := by decide
    omega)
  rw [stx_len] at e
  exact e
theorem shq_kv {f : M.D → M.P} {g : M.D → Nat} {n : Nat} {ok : M.D → Prop} (h : ∀ d, ok d → Shq (f d) n (g d)) : ∀ {xs : List (M.Tx × M.D)}, (∀ p ∈ xs, (∀ c ∈ p.1, c < 1114112) ∧ ok p.2) →
    PyData.showableKv (pyOfK (xs.map fun p => (p.1, f p.2))) = true ∧ PyData.depthKv (pyOfK (xs.map fun p => (p.1, f p.2))) ≤ max n 1 ∧ ((PyData.shownKv (pyOfK (xs.map fun p => (p.1, f p.2)))).map (·.length)).sum + 2 * (PyData.shownKv (pyOfK (xs.map fun p => (p.1, f p.2)))).length ≤ M.sumN (xs.map fun p => 10 * p.1.length + 2 + g p.2 + 4)
  | [], _ => by simp [pyOfK, PyData.showableKv, PyData.depthKv, PyData.shownKv, M.sumN]
  | x :: xs, o => by
    obtain ⟨a2, a3, a4⟩ := shq_kv h (xs := xs) fun y hy => o y (List.mem_cons_of_mem _ hy)
    obtain ⟨o1, o2⟩ := o x List.mem_cons_self
    obtain ⟨b2, b3, b4⟩ := h x.2 o2
    have b1 := shw_str x.1 o1
    simp only [List.map_cons, pyOfK, PyData.showableKv, PyData.depthKv, PyData.shownKv, M.sumN, a2, b2, List.sum_cons, List.length_cons]
    refine ⟨by simp [PyData.showable], Nat.max_le.mpr ⟨Nat.max_le.mpr ⟨by simp [PyData.depth], by omega⟩, a3⟩, ?_⟩
    rw [strLen_append, strLen_append]
    have : ((": " : Str)).length = 2 := rfl
    omega
theorem shq_fit : ∀ (n : Nat) (S : M.Sto) (d : M.D), M.fitQ n S d → Shq (M.toQ n S d) (n + 1) (M.szR n S d)
  | 0, _, _, h => False.elim h
  | n + 1, S, d, h => by
    have ih := fun d => shq_fit n S d
    unfold M.fitQ at h
    unfold M.toQ M.szR
    cases d with
    | non => exact ⟨by simp [pyOf, PyData.showable], by simp [pyOf, PyData.depth], by simp only [pyOf]; exact (show (PyData.shown .none).length ≤ 4 by decide +kernel)⟩
    | bl b => exact ⟨by simp [pyOf, PyData.showable], by simp [pyOf, PyData.depth], by simp only [pyOf]; cases b <;> decide +kernel⟩
    | int i =>
      have q := shw_fit 1 S (.int i) h
      exact ⟨q.sh, Nat.le_trans q.dp (by omega), q.ln⟩
    | str x => exact ⟨by simp [pyOf, PyData.showable], by simp [pyOf, PyData.depth], by simp only [pyOf]; exact shw_str x h⟩
    | tup xs =>
      obtain ⟨a2, a3, a4⟩ := shq_all ih h
      refine ⟨by simp only [pyOf, PyData.showable]; exact a2, by simp only [pyOf, PyData.depth]; omega, ?_⟩
      simp only [pyOf, PyData.shown]
      have := tupleText_len_le (PyData.shownAll (pyOfL (xs.map (M.toQ n S))))
      omega
    | fl xs =>
      obtain ⟨a2, a3, a4⟩ := shq_all ih h
      refine ⟨by simp only [pyOf, PyData.showable]; exact a2, by simp only [pyOf, PyData.depth]; omega, ?_⟩
      simp only [pyOf, PyData.shown]
      have := listText_len_le (PyData.shownAll (pyOfL (xs.map (M.toQ n S))))
      omega
    | ref a =>
      have h : M.fitO (M.fitQ n S) (S a) := h
      cases e : S a with
      | none => rw [e] at h; exact False.elim h
      | some o =>
        rw [e] at h
        cases o with
        | lst xs =>
          obtain ⟨a2, a3, a4⟩ := shq_all ih h
          simp only [e]
          refine ⟨by simp only [pyOf, PyData.showable]; exact a2, by simp only [pyOf, PyData.depth]; omega, ?_⟩
          simp only [pyOf, PyData.shown]
          have := listText_len_le (PyData.shownAll (pyOfL (xs.map (M.toQ n S))))
          omega
        | dic =>
          simp only [e]
          exact ⟨by simp [pyOf, PyData.showable, PyData.showableKv], by simp [pyOf, PyData.depth, PyData.depthKv], by simp only [pyOf]; decide +kernel⟩
        | dct kvs =>
          obtain ⟨a2, a3, a4⟩ := shq_kv ih h.2
          simp only [e]
          refine ⟨by simp only [pyOf, PyData.showable]; exact a2, by simp only [pyOf, PyData.depth]; omega, ?_⟩
          simp only [pyOf, PyData.shown]
          have := dictText_len_le (PyData.shownKv (pyOfK (kvs.map fun p : M.Tx × M.D => (p.1, M.toQ n S p.2))))
          omega
        | ins C fs => exact False.elim h
    | xn c fs => exact False.elim h
def rRep (K : Frag) : List V → Hp → VK → Prop := fun vs H Q => ∃ x v S Qd, vs = [v] ∧ RelS K H S ∧ RelD K H x v ∧ M.fitD S x ∧ M.szR M.dep S x ≤ M.lim ∧ Qd (.str (rpF (M.toQ M.dep S x))) S ∧ OkV K S H Qd Q
theorem bi_rep {X : Cx} (hg : X.A.guards = some []) (hu : X.A.units + 64 < cLine) (sy : SysK X.K) : CallR X (.builtin "repr") (rRep X.K) := by
  intro pins s σ H vs us Q I rv h
  obtain ⟨x, v, S, Qd, rfl, r, rd, ft, hz, w, hq⟩ := h
  obtain ⟨u, rfl, r1⟩ := vals1 rv
  have fin : ∀ {h' : Heap} {t : Tok} {tk : Nat}, (∀ b o, s.heap.get? b = some o → h'.get? b = some o) → EP X pins σ Q (.str (pyOf (M.toQ M.dep S x)).shown t) { s with heap := h', toks := tk } := fun {h' t tk} hk =>
    ⟨.str (stx (rpF (M.toQ M.dep S x))), H, I.kept (t' := tk) hk, ⟨t, by rw [stx_rpF]⟩, hq.same r (.str _) w⟩
  have hL : M.lim = sizeLine := lim_eq
  have hdep : M.dep = 8 := rfl
  have go : ∀ {as}, Reads s.heap u (pyOf (M.toQ M.dep S x)) as → ((pyOf (M.toQ M.dep S x)).hasDict = true → sysModules ∉ as) → (pyOf (M.toQ M.dep S x)).showable = true → (pyOf (M.toQ M.dep S x)).depth ≤ 9 → (pyOf (M.toQ M.dep S x)).shown.length ≤ M.szR M.dep S x → wpAny (model X.prog X.w) X.A (call (.builtin "repr") [u]) (EP X pins σ Q) X.xe s := by
    intro as hr hs a2 a3 a4
    have hz2 : (pyOf (M.toQ M.dep S x)).shown.length ≤ sizeLine := by omega
    generalize hp : pyOf (M.toQ M.dep S x) = p at *
    cases hr with
    | none => exact PySem.P.repr_of_none (fin (fun b o e => e))
    | bool b => exact PySem.P.repr_of_bool (fin (fun b o e => e))
    | int i t => exact PySem.P.repr_of_int (by simpa [PyData.showable] using a2) (fin (fun b o e => e))
    | str x t => exact PySem.P.repr_of_str (fin (fun b o e => e)) hz2
    | list h1 h2 h3 h4 => exact repr_of_reads' (.list h1 h2 h3 h4) a2 hs hg (by omega) (fun b o e => e) (fun h' u tk hk => fin hk) hz2
    | tuple h1 h2 h3 h4 => exact repr_of_reads' (.tuple h1 h2 h3 h4) a2 hs hg (by omega) (fun b o e => e) (fun h' u tk hk => fin hk) hz2
    | dict h1 h2 h3 h4 h5 => exact repr_of_reads' (.dict h1 h2 h3 h4 h5) a2 hs hg (by omega) (fun b o e => e) (fun h' u tk hk => fin hk) hz2
  rcases ft with ft | ft
  · have ft : M.fitQ M.dep S x := by
      rcases ft with ft | ft
      · cases x with
        | ref a =>
          have ft' : M.isDic (S a) := ft
          show M.fitO (M.fitQ 7 S) (S a)
          cases e : S a with
          | none => rw [e] at ft'; exact False.elim ft'
          | some o => cases o with
            | lst xs => rw [e] at ft'; exact False.elim ft'
            | dic => exact True.intro
            | dct kvs => rw [e] at ft'; exact False.elim ft'
            | ins C fs => rw [e] at ft'; exact False.elim ft'
        | _ => exact False.elim ft
      · exact ft
    obtain ⟨a2, a3, a4⟩ := shq_fit M.dep S x ft
    obtain ⟨as, hr, hn⟩ := reads_fitQ I sy r M.dep x v u ft rd r1
    exact go hr (fun _ => hn) a2 (by omega) a4
  · obtain ⟨a1, a2, a3, a4⟩ := shw_fit M.dep S x ft
    obtain ⟨as, hr⟩ := reads_fit I r M.dep x v u ft rd r1
    exact go hr (PyData.noDict_hsm a1) a2 (by omega) a4
end Snd
namespace Snd
open PySem PySem.Spec PyProof.Rows L2
/-! ### an error that is caught is tracked -/
section
variable {X : Cx} {pins : List (Addr × Obj)} {σ : Sl} {H : Hp} {s : Shared}
theorem xo_ok {P : Program} {w : World} {H : Hp} {h : Heap} {a : Addr} {oe : Obj} (e : h.get? a = some oe) : ObjOk P w H h a (XO a oe) :=
  ⟨e, e, ⟨oe, e⟩, fun _ _ q k => k _ q⟩
/-- what stands there and isn't tracked, tracked from now on -/
theorem track {a : Addr} {o : HO} {oe : Obj} {vs : Array Value} (I : Inv X pins σ H s) (hex : X.ex = []) (n0 : X.s_0.heap.get? a = none) (ha : s.heap.get? a = some oe) (hd : oe.data = .fields vs) (na : H a = none) (nL : a ≠ X.env.locals)
    (np : ∀ p ∈ X.pn ++ pins, p.1 ≠ a) (new : ObjOk X.prog X.w (L2.upd H a o) s.heap a o) : Inv X pins σ (L2.upd H a o) s where
  ok := I.ok
  os := I.os
  bare := I.bare
  base := {
    keep := I.base.keep
    slot := I.base.slot
    free := fun b ob e n hb => by
      have hne : b ≠ a := fun z => by rw [z, n0] at e; cases e
      rw [L2.upd_ne hne]
      exact I.base.free b ob e n hb
    there := I.base.there
    tups := fun b xs e => by
      have q := I.base.tups b xs e
      have hne : b ≠ a := fun z => by rw [z, na] at q; cases q
      rw [L2.upd_ne hne]; exact q
    frzs := fun b ob u e => by
      have q := I.base.frzs b ob u e
      have hne : b ≠ a := fun z => by rw [z, na] at q; cases q
      rw [L2.upd_ne hne]; exact q
    tbls := fun b ps e => by
      obtain ⟨m, q⟩ := I.base.tbls b ps e
      have hne : b ≠ a := fun z => by rw [z, na] at q; cases q
      exact ⟨m, by rw [L2.upd_ne hne]; exact q⟩ }
  loc := I.loc
  cell := I.cell
  free := by rw [L2.upd_ne (Ne.symm nL)]; exact I.free
  freeC := fun x c e => by
    have hne : c ≠ a := fun z => by
      obtain ⟨v, ob, h1, h2⟩ := I.cell x c e
      rw [z, ha] at h1
      cases h1
      rw [hd] at h2; cases h2
    rw [L2.upd_ne hne]; exact I.freeC x c e
  pin := fun p hp => by
    obtain ⟨q1, q2, q3⟩ := I.pin p hp
    exact ⟨q1, by rw [L2.upd_ne (np p hp)]; exact q2, q3⟩
  hok := I.hok.laidN (fun _ _ e => e) na new
  len := I.len
theorem Inv.suiteT (I : Inv X pins σ H s) (a : Addr) : Inv (X.suite a (X.pn ++ pins)) [] σ H s :=
  ⟨I.ok.suite _ _, I.os, I.bare, I.base, I.loc, I.cell, I.free, I.freeC, fun p hp => I.pin p (by rw [List.append_nil] at hp; exact hp), I.hok, I.len⟩
theorem Inv.unsuiteT {a : Addr} {pn' : List (Addr × Obj)} (I : Inv (X.suite a (X.pn ++ pins)) pn' σ H s) (ok : X.Ok) : Inv X pins σ H s :=
  ⟨ok, I.os, I.bare, I.base, I.loc, I.cell, I.free, I.freeC, fun p hp => I.pin p (List.mem_append_left _ hp), I.hok, I.len⟩
end
/-- the wish of a try: caught, the error stands at a new place -/
def wAsT (K : Frag) (c : Value) (i : Nat) (ts : Addr → TS) (Wout : WX) (D : Ends) : WX := fun cls d σ H => ∃ b, PySem.W.exmOne K cls c = some b ∧
  (b = true → ∃ C, cls = .ref C ∧ ∀ a oe, H a = none → ExA C d oe → ts a { nx := fun σ' H' => D.nx (σ'.set i none) H', rt := D.rt, bk := fun σ' H' => D.bk (σ'.set i none) H', ct := fun σ' H' => D.ct (σ'.set i none) H' } (σ.set i (some (.ref a))) (L2.upd H a (XO a oe))) ∧ (b = false → Wout cls d σ H)
section
variable {X : Cx} {x n : Str} {c : Value} {i : Nat} {body suite : List Stmt} {b₀ : Stmt} {np pos pos' : Pos} {tb : WX → TS} {ts : Addr → TS} {Wout : WX}
theorem ps_try_asT (hs : X.stack = X.env :: X.outer) (hf : X.env.frame = some X.env.locals) (hex : X.ex = []) (hN : X.N.Nodup) (hi : X.N[i]? = some n) (hln : X.env.kindOf n = some .local) (hc : Names X x c) (tk : L2N.Takes X Wout)
    (hb : ∀ (W : WX) (pn : List (Addr × Obj)) (xe : Value → Shared → Prop), L2N.Takes (X.tr pn xe) W → PassesOwn (model X.prog X.w) X.A X.env xe → PSs (X.tr pn xe) body (tb W))
    (hsu : ∀ (a : Addr) (pn : List (Addr × Obj)), PSs (X.suite a pn) (b₀ :: suite) (ts a)) :
    PS X (.Try body [.ExceptHandler (some (.Name x np)) (some n) (b₀ :: suite) pos'] [] [] pos) (fun D σ H => tb (wAsT X.K c i ts Wout D) D σ H) := by
  refine ⟨fun pins s σ H D I h => ?_⟩
  have ok := I.ok
  have hfr : X.A.frames = some (X.env :: X.outer) := by rw [ok.frames, hs]
  have hloc : Loc X.env.scope n := .inl hln
  refine wpAny_Try_except ?_
  refine wpAny_mono ((hb (wAsT X.K c i ts Wout D) (X.pn ++ pins) (fun e s₁ => wpAny (model X.prog X.w) X.A (noteFrame e X.env) (fun _ s₂ => wpAny (model X.prog X.w) X.A (setFlight e none) (fun _ s₃ =>
    wpAny (model X.prog X.w) X.A (handleBy e X.env [.ExceptHandler (some (.Name x np)) (some n) (b₀ :: suite) pos']) (SP X pins D) X.xe s₃) X.xe s₂) X.xe s₁) (fun u s' xx => ?_) PassesOwn.looking).run [] s σ H D (I.toTry _) h) (fun f s1 hsp => ?_) (fun e s1 he => he)
  · -- the catch
    obtain ⟨a, B, sI, pins', σ', H', cls, d, rfl, J', nb, up, sky, na, os, ag, b, hb1, hyes, hno⟩ := xx
    have J : Inv X pins σ' H' sI := J'.ofTry ok
    have sky' : Sky B (X.env :: X.outer) a (L2N.Zn cls d) X.env.locals s'.heap := by rw [← hs]; exact sky
    show wpAny (model X.prog X.w) X.A (noteFrame (.ref a) X.env) _ _ _
    refine L2N.Sky.land L2N.Zn.steady hfr hf sky' fun h3 fl3 up3 => ?_
    have J3 : Inv X pins σ' H' { s' with heap := h3 } := J.landed nb fl3.1 (up.trans up3) os ag
    obtain ⟨oe3, vs3, he3, hz3, hd3⟩ := fl3.there
    have notFr : ∀ {h : Heap} {o : Obj} {vs : Array Value}, h.FunFrames B (X.env :: X.outer) → h.get? a = some o → o.data = .fields vs → a ∉ frs (X.env :: X.outer) := fun {h o vs} ff e dd hm => by
      obtain ⟨_, o', e', hnf⟩ := ff.mem hm
      rw [e] at e'; cases e'
      exact hnf _ dd
    have nfr := notFr fl3.2.2.1 he3 hd3
    have nL : a ≠ X.env.locals := fun z => nfr (List.mem_filterMap.mpr ⟨X.env, List.mem_cons_self, by rw [hf, z]⟩)
    have nF : a ∉ X.fs := fun hm => by
      obtain ⟨e, he, q⟩ := List.mem_filterMap.mp hm
      exact nfr (List.mem_filterMap.mpr ⟨e, List.mem_cons_of_mem _ he, q⟩)
    have nI : sI.heap.get? a = none := by
      cases q : sI.heap.get? a with
      | none => rfl
      | some o =>
        have z := nb a o q (by rw [hs]; exact nfr)
        rw [fl3.2.1] at z; cases z
    have n0 : X.s_0.heap.get? a = none := by
      cases q : X.s_0.heap.get? a with
      | none => rfl
      | some o =>
        obtain ⟨o', z⟩ := J.base.there a o q (by rw [hex]; exact fun z => nomatch z)
        rw [nI] at z; cases z
    have npn : ∀ p ∈ X.pn ++ pins, p.1 ≠ a := fun p hp z => by
      have q := (J.pin p hp).1
      rw [z, nI] at q; cases q
    have S3 := J3.suite he3 hd3 na nL nF
    refine wpAny_handleBy_cons (codeAny_handlers_test ?_) (by intro q; cases q)
    have LT : PySem.W.Looks (model X.prog X.w) h3 (typeOf (.ref a)) cls := fun A Q E s k q => wpAny_typeOf_ref (k _ _ he3) (by rw [hz3.1]; exact q)
    have LM := PySem.W.exm_one (M := model X.prog X.w) (J3.kIn) LT hb1
    have test : ∀ {Q : Value → Shared → Prop} {E : Value → Shared → Prop}, Q c { s' with heap := h3 } → wpAny (model X.prog X.w) (X.A.mark (some (.ref a))) (eval (.Name x np) X.env) Q E { s' with heap := h3 } := fun {Q E} q => by
      obtain ⟨hg, hdbg, hm | ⟨hm, hv, hnn⟩⟩ := hc
      · exact ld_glob (X := X.suite a ((a, oe3) :: (X.pn ++ pins))) S3 hg hm q hdbg
      · exact ld_blt (X := X.suite a ((a, oe3) :: (X.pn ++ pins))) S3 hg hm hv q hnn hdbg
    refine test (LM.here ?_)
    cases b with
    | true =>
      obtain ⟨C, ec, hyes2⟩ := hyes rfl
      subst ec
      refine codeAny_handlers_suite_as ?_
      refine HandSPX.lands_againZ fl3 fun h4 fl4 up4 => ?_
      have J4 : Inv X pins σ' H' { s' with heap := h4 } := J.landed nb fl4.1 ((up.trans up3).trans up4) os ag
      obtain ⟨oe4, vs4, he4, hz4, hd4⟩ := fl4.there
      have J5 : Inv X pins σ' (L2.upd H' a (XO a oe4)) { s' with heap := h4 } := track J4 hex n0 he4 hd4 na nL npn (xo_ok he4)
      have S4 := Inv.suiteT J5 a
      refine store_ok (X := X.suite a (X.pn ++ pins)) (v := .ref a) S4 hN hi hloc rfl (fun s5 S5 => ?_) (.inr hln)
      refine wpAny_mono ((hsu a (X.pn ++ pins)).run [] s5 _ _ _ S5 (hyes2 a oe4 na ⟨hz4, vs4, hd4⟩)) (fun f s6 hsp => ?_) (fun _ _ z => False.elim z)
      have end_ : ∀ {σ6 : Sl} {H6 : Hp} {Q : Shared → Prop}, Inv (X.suite a (X.pn ++ pins)) [] σ6 H6 s6 → (∀ s7, Inv X pins (σ6.set i none) H6 s7 → Q s7) →
          wpAny (model X.prog X.w) X.A (do bindName X.env n .none; unbindBehindTheSuite X.env n pos') (fun _ s7 => Q s7) X.xe s6 := fun {σ6 H6 Q} S6 hq => gone_ok (Inv.unsuiteT S6 ok) hN hi hln hq
      cases f with
      | next =>
        obtain ⟨σ6, H6, S6, q6⟩ := hsp
        exact end_ S6 fun s7 J7 => ⟨_, _, J7, q6⟩
      | brk =>
        obtain ⟨σ6, H6, S6, q6⟩ := hsp
        exact end_ S6 fun s7 J7 => ⟨_, _, J7, q6⟩
      | cont =>
        obtain ⟨σ6, H6, S6, q6⟩ := hsp
        exact end_ S6 fun s7 J7 => ⟨_, _, J7, q6⟩
      | ret u =>
        obtain ⟨v6, σ6, H6, S6, r6, q6⟩ := hsp
        exact end_ S6 fun s7 J7 => ⟨_, _, _, J7, r6, q6⟩
    | false =>
      show wpAny _ X.A (handleBy (.ref a) X.env []) _ _ _
      refine wpAny_handleBy_nil ?_
      obtain ⟨k1, k2, k3, oe, vs, T, oT, ts', he, hz, hd, h1, hr⟩ := id fl3
      unfold PySem.passOn
      refine wpAny_bind (wpAny_field he hd h1 ?_)
      rw [if_neg (show ¬ ((Value.ref T == Value.none) = true) from by simp)]
      have fin : wpAny (model X.prog X.w) X.A (setFlight (.ref a) X.env.frame) (fun _ s4 => wpAny (model X.prog X.w) X.A (throw (.ref a) : Sem Flow) (SP X pins D) X.xe s4) X.xe { s' with heap := h3 } := by
        rw [hf]
        refine HandSPX.setFlight_upZ fl3 fun h4 hh4 up4 => wpAny_throw (tk _ _ ?_)
        exact ⟨a, B, sI, pins, σ', H', cls, d, rfl, J, nb, (up.trans up3).trans up4, .inr (.inr (by rw [hs]; exact hh4)), na, os, ag, hno rfl⟩
      first
        | exact wpAny_bind (wpAny_pure (wpAny_bind fin))
        | exact wpAny_bind fin
  · cases f with
    | next =>
      obtain ⟨σ', H', J', q⟩ := hsp
      exact wpAny_execs_nil ⟨σ', H', J'.ofTry ok, q⟩
    | brk =>
      obtain ⟨σ', H', J', q⟩ := hsp
      exact ⟨σ', H', J'.ofTry ok, q⟩
    | cont =>
      obtain ⟨σ', H', J', q⟩ := hsp
      exact ⟨σ', H', J'.ofTry ok, q⟩
    | ret u =>
      obtain ⟨v, σ', H', J', r, q⟩ := hsp
      exact ⟨v, σ', H', J'.ofTry ok, r, q⟩
end
/-! ### isinstance of a tracked error -/
section
variable {X : Cx}
theorem inst_of {pins : List (Addr × Obj)} {σ : Sl} {H : Hp} {s : Shared} {C a : Addr} (I : Inv X pins σ H s) (h : Xo H C a) : ∃ oe od, PySem.W.InstAt s.heap a oe C od := by
  obtain ⟨oe, d, h0, h2, h5⟩ := h
  obtain ⟨h2, vs, h3⟩ := h2
  obtain ⟨h1, _⟩ := I.hok a _ h0
  obtain ⟨oc, od, oda, osl⟩ := oe
  obtain ⟨z1, z2, _⟩ := h2
  dsimp only at z1 z2 h3
  subst z1 z2 h3
  cases od with
  | none => exact ⟨_, none, h1, rfl, rfl, trivial⟩
  | some dd =>
    obtain ⟨fs, h6⟩ := h5 dd rfl
    have hx : ObjOk X.prog X.w H s.heap dd (.xd fs) := I.hok dd _ h6
    obtain ⟨mA, hns, hr⟩ := hx
    obtain ⟨od, ho, hl⟩ := lookIn_ns hns
    exact ⟨_, some od, h1, rfl, rfl, ho⟩
theorem kitx_of {K : Frag} {D x : Addr} {ox : Obj} {od : Option Obj} (C : ExcC K D) : PySem.W.KitX K (.ref x) (.ref D) (fun h => PySem.W.InstAt h x ox D od) :=
  PySem.W.kitx_exc (by obtain ⟨cd, h, _⟩ := PySem.W.any_some C.hd; rw [h]; rfl) C.hg C.hk C.hs C.ha C.hn C.ht C.hm
/-- e.f, e a tracked error -/
theorem pe_xfld {e : Expr} {te : TE} {pos : Pos} {n : Str} (he : PE X e te) (hb : attributeBase e n X.env (eval e X.env) = eval e X.env) :
    PE X (.Attribute e n pos) (fun σ H Q => te σ H fun x H1 => ∃ (a C : Addr) (oe : Obj) (dd : Addr) (v : V), x = .ref a ∧ H1 a = some (XO a oe) ∧ ExA C (some dd) oe ∧ H1 dd = some (.xd [(n, v)]) ∧ ExcC X.K C ∧ PySem.W.findIn X.K (.ref C) n = some none ∧ Q v H1) := by
  refine ⟨fun pins s σ H Q I h => ?_⟩
  refine attr_of hb (thn (he.run pins s σ H _ I h) fun u s1 hh => ?_)
  obtain ⟨x, H1, I1, rx, a, C, oe, dd, v, ex, ha0, hE, ea, T, hno, q⟩ := hh
  subst ex
  obtain rfl : u = Value.ref a := rx
  obtain ⟨h1, _⟩ := I1.hok a _ ha0
  obtain ⟨hz, vs, hd⟩ := hE
  have hx : ObjOk X.prog X.w H1 s1.heap dd (.xd [(n, v)]) := I1.hok dd _ ea
  obtain ⟨mA, hns, hr⟩ := hx
  obtain ⟨od, ho, hl⟩ := lookIn_ns hns
  obtain ⟨u, hu, ru⟩ := RelO.some_of (v := v) (o := mA n) (by have z := hr n; rw [List.lookup_cons, beq_self_eq_true] at z; exact z)
  have J : PySem.W.InstAt s1.heap a oe C (some od) := ⟨h1, hz.1, by unfold PySem.W.notCls; rw [hd] <;> rfl, by rw [hz.2.1]; exact ho⟩
  exact HandSPX.exc_get I1.kIn J T.hg T.hk T.hs (PySem.W.findObj_own T.hd hno rfl (by rw [hl, hu])) (handed_of ru) ⟨v, H1, I1.tok _, ru, q⟩
/-- isinstance(e, c), e a tracked error of the class D -/
def rIsX (K : Frag) (D : Addr) : List V → Hp → VK → Prop := fun xs H Q => ∃ (a : Addr) (c : V) (cv : Value) (b : Bool), xs = [.ref a, c] ∧ Xo H D a ∧ (∀ u, RelV c u → u = cv) ∧ PySem.W.kitOne K (.ref D) cv = some b ∧ Q (.bl b) H
theorem call_isX {D : Addr} (C : ExcC X.K D) : CallR X (.builtin "isinstance") (rIsX X.K D) := by
  intro pins s σ H xs us Q I r h
  obtain ⟨a, c, cv, b, rfl, ha, hcv, e, q⟩ := h
  cases r with
  | cons rx rr =>
    cases rr with
    | cons rt rr =>
      cases rr
      cases rx
      have ec := hcv _ rt
      subst ec
      obtain ⟨oe, od, J⟩ := inst_of I ha
      exact PySem.W.kia_one (kitx_of C) I.kIn J e (fun z => nomatch z) fun tk => ⟨.bl b, H, I.kept (t' := tk) fun _ _ z => z, rfl, q⟩
/-- isinstance(e, (c, ..)) -/
def rIsXT (K : Frag) (D : Addr) : List V → Hp → VK → Prop := fun xs H Q => ∃ (a tp : Addr) (cs : List V) (ws : List Value) (b : Bool), xs = [.ref a, .ref tp] ∧ Xo H D a ∧ H tp = some (.tup cs) ∧ (∀ us, Vals cs us → us = ws) ∧ PySem.W.kitAny K (.ref D) ws = some b ∧ Q (.bl b) H
theorem call_isXT {D : Addr} (C : ExcC X.K D) : CallR X (.builtin "isinstance") (rIsXT X.K D) := by
  intro pins s σ H xs us Q I r h
  obtain ⟨a, tp, cs, ws, b, rfl, ha, hT, hcv, e, q⟩ := h
  cases r with
  | cons rx rr =>
    cases rr with
    | cons rt rr =>
      cases rr
      cases rx
      cases rt
      obtain ⟨oe, od, J⟩ := inst_of I ha
      obtain ⟨_, its, rv, o, h1, h2, n, h3⟩ := (show ObjOk X.prog X.w H s.heap tp (.tup cs) from I.hok tp _ hT)
      have e3 := hcv _ rv
      subst e3
      obtain ⟨oc, od, dt, sl⟩ := o
      simp only at h2 h3
      subst h2 h3
      exact PySem.W.kia_tup (kitx_of C) I.kIn J h1 e (fun z => nomatch z) fun tk => ⟨.bl b, H, I.kept (t' := tk) fun _ _ z => z, rfl, q⟩
/-! ### raise C() -/
theorem pmk_own0 {C : Addr} {bmB : List Value} {B newId initId : String} {x : Str} {p pos : Pos} (F : ExcBaseFacts B newId initId bmB) (q : PySem.W.excIn X.K C bmB newId = true) (gC : X.mg x = some (.ref C)) (kC : PySem.W.keepIn X.K (.ref C) = true) (r : Raises X (.ref C)) (hg : Gl X x)
    (hdb : (x == ("__debug__" : Str)) = false) : L2N.PMk X (.Call (.Name x p) [] [] pos) (fun _ H Q => Q (.ref C) none H) := by
  intro pins s σ H Q I h
  refine wpAny_Call_Name_kw (ld_glob I hg gC ?_ hdb)
  refine PySem.W.callWith_K0 I.kIn kC ?_
  show wpAny _ _ (call (.ref C) []) _ _ _
  obtain ⟨bm, N, nm, qn, bs, hdct, sn, sub, ab, col, dd, k0, k1, k2, k3, k5, mN, hC, hN, hni, T⟩ := exc_obj I.kIn q
  refine wpAny_call_exc_subT F T hC hN hni (fun h' e hm => ?_) (by show 0 ≤ sizeLine; rw [sizeLine_eq]; omega)
  exact L2N.mk_of I hm r h (I.hok.gone hm.new)
end
end Snd
namespace Snd
open PySem PySem.Spec PyProof.Rows L2
/-! ### defs, where no repr is under way -/
/-- room, whether an error is handled or not -/
structure RoomB (hot : Bool) (k : Nat) (A : Around) : Prop where
  hd : hot = false → A.handled = none
  dp : A.depth + 3 * k + 5 < recursionLimit
  un : A.units + 16 * k + 200 < cLine
section
variable {hot : Bool} {j k : Nat} {A : Around}
theorem RoomB.room (r : RoomB false k A) : Room k A := ⟨r.hd rfl, r.dp, r.un⟩
theorem roomB (r : Room k A) (hot : Bool) : RoomB hot k A := ⟨fun _ => r.hd, r.dp, r.un⟩
theorem RoomB.mono (r : RoomB hot k A) (h : j ≤ k) : RoomB hot j A := ⟨r.hd, by have := r.dp; omega, by have := r.un; omega⟩
theorem RoomB.deeper (r : RoomB hot (k + 1) A) (env : Env) : RoomB hot k (A.deeper env) :=
  ⟨r.hd, by have := r.dp; show A.depth + 1 + 3 * k + 5 < _; omega, by have := r.un; show A.units + 3 + 16 * k + 200 < _; omega⟩
/-- room, and some more for what is called from within -/
structure RoomX (hot : Bool) (k : Nat) (A : Around) : Prop where
  hd : hot = false → A.handled = none
  dp : A.depth + 3 * k + 7 < recursionLimit
  un : A.units + 16 * k + 213 < cLine
theorem RoomX.b (r : RoomX hot k A) : RoomB hot k A := ⟨r.hd, by have := r.dp; omega, by have := r.un; omega⟩
theorem RoomB.deeperX (r : RoomB hot (k + 1) A) (env : Env) : RoomX hot k (A.deeper env) :=
  ⟨r.hd, by have := r.dp; show A.depth + 1 + 3 * k + 7 < _; omega, by have := r.un; show A.units + 3 + 16 * k + 213 < _; omega⟩
theorem RoomX.in1 (r : RoomX hot k A) : RoomB hot k A.in1 := ⟨r.hd, by have := r.dp; show A.depth + 3 * k + 5 < _; omega, by have := r.un; show A.units + 1 + 16 * k + 200 < _; omega⟩
theorem RoomX.make (r : RoomX hot k A) (C : Addr) (us : List Value) (kw : List (Str × Value)) : RoomB hot k (A.under (.builtin "type.__call__" ⟨.ref C :: us, kw⟩)) :=
  ⟨r.hd, by have := r.dp; rw [make_depth]; omega, by have := r.un; rw [make_units]; omega⟩
theorem RoomB.depth (r : RoomB hot k A) : A.depth < recursionLimit := by have := r.dp; omega
theorem RoomB.units (r : RoomB hot k A) : A.units + 64 < cLine := by have := r.un; omega
end
/-- an error is handled, and it is the first argument -/
def HotA (A : Around) (vs : List V) (H : Hp) : Prop := ∃ (a C : Addr) (rest : List V), vs = .ref a :: rest ∧ A.handled = some (.ref a) ∧ Xo H C a
structure FnG (P : Program) (w : World) (K : Frag) (mg : Str → Option Value) (base : Heap) (hot : Bool) (k : Nat) (f : Addr) (fd : FuncData) (ps : List Str) (sp : L2.Sp) : Prop where
  len : ∀ vs H Q E, sp vs H Q E → vs.length = ps.length
  run : ∀ (A : Around) (outer : List Env) (s : Shared) (H : Hp) (args : Args) (us : List Value) (vs : List V) (Q : VK) (E : XK), RoomB hot k A → A.guards = some [] → (hot = true → HotA A vs H) → Env0 P w K mg base A outer s H → BindsTo s fd args (ps.zip us) → Vals vs us → sp vs H Q E →
    codeAny (model P w) A (.call (.ref f) args) (CR (L2N.CX P w) outer P w H s Q E) s
  /-- called with what is left over as a tuple -/
  star : ∀ (A : Around) (outer : List Env) (s : Shared) (H : Hp) (u1 u2 : List Value) (ws rest : List V) (Q : VK) (E : XK), RoomB hot k A → A.guards = some [] → hot = false → Env0 P w K mg base A outer s H →
    (bindArgs fd ⟨u1 ++ u2, []⟩ = (newTuple u2 >>= fun t => pure (ps.zip (u1 ++ [t])))) → Vals ws u1 → Vals rest u2 → rest.length ≤ sizeLine → sp (ws ++ [V.ref s.heap.objs.size]) (L2.upd H s.heap.objs.size (.tup rest)) Q E →
    codeAny (model P w) A (.call (.ref f) ⟨u1 ++ u2, []⟩) (CR (L2N.CX P w) outer P w H s Q E) s
theorem FnG.mono {P : Program} {w : World} {K : Frag} {mg : Str → Option Value} {base : Heap} {hot : Bool} {j k : Nat} {f : Addr} {fd : FuncData} {ps : List Str} {sp : L2.Sp} (F : FnG P w K mg base hot j f fd ps sp) (h : j ≤ k) :
    FnG P w K mg base hot k f fd ps sp := ⟨F.len, fun A outer s H args us vs Q E hr => F.run A outer s H args us vs Q E (hr.mono h), fun A outer s H u1 u2 ws rest Q E hr => F.star A outer s H u1 u2 ws rest Q E (hr.mono h)⟩
theorem FnG.never {P : Program} {w : World} {K : Frag} {mg : Str → Option Value} {base : Heap} {hot : Bool} {k : Nat} {f : Addr} {fd : FuncData} {ps : List Str} {sp : L2.Sp} (h : ∀ vs H Q E, ¬ sp vs H Q E) :
    FnG P w K mg base hot k f fd ps sp := ⟨fun vs H Q E q => (h _ _ _ _ q).elim, fun A outer s H args us vs Q E _ _ _ _ _ _ q => (h _ _ _ _ q).elim, fun A outer s H u1 u2 ws rest Q E _ _ _ _ _ _ _ _ q => (h _ _ _ _ q).elim⟩
/-- how the positional and the named values bind -/
def KB (K : Frag) (fd : FuncData) (ps : List Str) (m : Nat) (ks : List Str) (perm : List Nat) : Prop :=
  ∀ (s : Shared) (us ws : List Value), K.In s.heap → us.length = m → ws.length = ks.length → BindsTo s fd ⟨us, ks.zip ws⟩ (ps.zip (perm.filterMap fun i => (us ++ ws)[i]?))
/-- the getter of a property -/
def prA (K : Frag) (C : Addr) (f : Str) : Addr := match PySem.W.findIn K (.ref C) f with
  | some (some (.ref p)) => (match PySem.W.recIn K p "property" with
    | some (.ref g :: _) => g
    | _ => 0)
  | _ => 0
def plA (K : Frag) : Pl → Addr
  | .mt x m => He.ma K (He.ga K x) m
  | .pr x f => prA K (He.ga K x) f
/-- how a def of the text stands -/
structure Def (K : Frag) (mg : Str → Option Value) (T : Tb) (n : Nat) (x : Str) (f : Addr) (fd : FuncData) (ps : List Str) : Prop where
  mg : T.ats.lookup n = none → mg x = some (.ref f)
  at_ : ∀ q, T.ats.lookup n = some q → f = plA K q
  kp : PySem.W.keepIn K (.ref f) = true
  bd : T.sts.contains n = false → Binds K fd ps []
  kb : ∀ m ks perm, (n, m, ks, perm) ∈ T.kws → KB K fd ps m ks perm
  bf : ∀ cs, (n, cs) ∈ T.dfl → ∃ dvs us, Vals dvs us ∧ (∀ H, RelDs K H (cs.map M.kcD) dvs) ∧ Binds K fd ps us
  st : T.sts.contains n = true → ∃ p1 pv, ps = [p1, pv] ∧ ∀ (a : Value) (rest : List Value), bindArgs fd ⟨a :: rest, []⟩ = (newTuple rest >>= fun t => pure [(p1, a), (pv, t)])
/-- the mro of an own error below its own classes -/
def bmVE : List Value := [.type "ValueError", .type "Exception", .type "BaseException", .type "object"]
/-- what is known of an own class of errors -/
structure ErrC (K : Frag) (C : Addr) : Prop where
  kp : PySem.W.keepIn K (.ref C) = true
  sb : PySem.W.subIn K (.ref C) (.type "BaseException") = some true
  ty : PySem.W.typeIn K (.ref C) = some (.type "type")
  ec : ExcC K C
/-- what is known of the text's own errors; the number behind them: ValueError -/
structure Errs (K : Frag) (mg : Str → Option Value) (T : Tb) (G : M.Gm) : Prop where
  at_ : ∀ j x, T.cls[j]? = some x → ∃ D, mg x = some (.ref D) ∧ (j < T.nr → G.adr j = some D) ∧ ∀ k C, G.adr k = some C → PySem.W.kitOne K (.ref C) (.ref D) = some (G.sub k j) ∧ PySem.W.exmOne K (.ref C) (.ref D) = some (G.sub k j)
  ok : ∀ k C, G.adr k = some C → ErrC K C
  ve : ∀ k C, G.adr k = some C → PySem.W.kitOne K (.ref C) (.type "ValueError") = some (G.sub k T.cls.length)
  ex : ∀ k C, G.adr k = some C → T.xin.any (fun e => e.1 == k) = false → PySem.W.excIn K C bmVE "ValueError.__new__" = true
  fl : ∀ k C, G.adr k = some C → ∀ f ∈ T.xns, PySem.W.findIn K (.ref C) (stx f) = some none
/-- the built-in types of data -/
def tyNs : List String := ["NoneType", "bool", "int", "str", "tuple", "list", "dict"]
/-- what super() finds behind the class D of an object of the class C -/
structure SupC (K : Frag) (C D : Addr) (m : Str) (f : Addr) : Prop where
  hm : PySem.W.ks_superIn K C D m = some (some (.ref f))
  ty : PySem.W.typeIn K (.ref f) = some (.type "function")
  sub : PySem.W.mroIn K C (.ref D) = some true
  cd : (PySem.W.clsIn K D).isSome = true
  fi : PySem.W.fnIn K f = true
  op : PySem.W.nsIn K cStatics "thirdparty.any" = some none
/-- what is known of an own class of objects -/
structure OC (K : Frag) (T : Tb) (G : M.Gm) (k : Nat) (C : Addr) : Prop where
  cl : Cls K C
  mks : PySem.W.makesIn K C = true
  kp : PySem.W.keepIn K (.ref C) = true
  sf : PySem.W.selfFirst K C = true
  mt : ∀ m n, m ∉ T.prs → M.keyB m = false → G.mt k m = some n → ∃ q, T.ats.lookup n = some q ∧ Meth K C (stx m) (plA K q) ∧ PySem.W.fnIn K (plA K q) = true
  ms : ∀ m n, G.mt k (M.starN m) = some n → ∃ q, T.ats.lookup n = some q ∧ Meth K C (stx m) (plA K q)
  pn : ∀ m ∈ T.prs, M.keyB m = false
  su : ∀ d m n, G.mt k (M.supN d m) = some n → ∃ q D, T.ats.lookup n = some q ∧ G.ob d = some D ∧ SupC K C D (stx m) (plA K q)
  pr : ∀ m n, m ∈ T.prs → G.mt k m = some n → ∃ q p, T.ats.lookup n = some q ∧ PropOf K C (stx m) p (plA K q)
  fd : ∀ f ∈ T.fds, NoAttr K C (stx f)
  ha : PySem.W.findIn K (.ref C) "__class__" = some (some (.builtin "object.__class__"))
  hn : PySem.W.specialIn K (.builtin "object.__class__") "__get__" = some (some (.builtin "getset_descriptor.__get__"))
  ht : PySem.W.takesIn K (.builtin "object.__class__") = some true
  hm : PySem.W.mroIn K C (.type "object") = some true
  ne : PySem.W.findIn K (.ref C) "__ne__" = some (some (.builtin "object.__ne__"))
  sub : ∀ n ∈ tyNs, PySem.W.subIn K (.type n) (.ref C) = some false ∧ PySem.W.kitOne K (.type n) (.ref C) = some false
  andl : ∀ n ∈ tyNs, (∃ fo, PySem.W.findIn K (.type n) "__and__" = some fo) ∧ ∃ ro, PySem.W.findIn K (.type n) "__rand__" = some ro
  andr : PySem.W.findIn K (.ref C) "__rand__" = some none
  isb : ∀ n ∈ ["int", "bool", "tuple", "list", "str"], PySem.W.kitOne K (.ref C) (.type n) = some false
  isc : ∀ j D, G.ob j = some D → PySem.W.kitOne K (.ref C) (.ref D) = some (G.os k j)
theorem OC.iso {K : Frag} {T : Tb} {G : M.Gm} {k : Nat} {C : Addr} (o : OC K T G k C) : IsO K C := ⟨o.cl, o.ha, o.hn, o.ht, o.hm, o.isb⟩
structure Obs (K : Frag) (mg : Str → Option Value) (T : Tb) (G : M.Gm) : Prop where
  gm : ∀ k m n, G.mt k m = some n → ((k, m), n) ∈ T.mtb ∧ T.hots.contains n = false ∧ T.sts.contains n = M.starB m ∧ ∃ x, T.fns[n]? = some x
  nm : ∀ k x, T.ocs[k]? = some x → ∃ C, mg x = some (.ref C) ∧ G.ob k = some C
  ok : ∀ k C, G.ob k = some C → OC K T G k C
/-- an own __init__ that stores its argument -/
def spXI (C : Addr) (n : Str) : L2.Sp := fun vs H Q _ => ∃ a v, vs = [.ref a, v] ∧ H a = some (exo a C none) ∧ ∀ d, H d = none → d ≠ a → Q .non (L2.upd (L2.upd H d (exd d [(n, v)])) a (exo a C (some d)))
structure XIn (P : Program) (w : World) (K : Frag) (mg : Str → Option Value) (base : Heap) (k : Nat) (C : Addr) (n : Str) : Prop where
  oc : OexC K C
  no : PySem.W.findIn K (.ref C) n = some none
  ex : ∃ fI fd ps, PySem.W.findIn K (.ref C) "__init__" = some (some (.ref fI)) ∧ PySem.W.typeIn K (.ref fI) = some (.type "function") ∧ ps.length = 2 ∧ (Binds K fd ps [] ∧ KB K fd ps 1 [n] [0, 1]) ∧ FnG P w K mg base false k fI fd ps (spXI C n)
theorem XIn.mono {P : Program} {w : World} {K : Frag} {mg : Str → Option Value} {base : Heap} {j k : Nat} {C : Addr} {n : Str} (h : XIn P w K mg base j C n) (l : j ≤ k) : XIn P w K mg base k C n :=
  ⟨h.oc, h.no, let ⟨fI, fd, ps, a, b, c, d, F⟩ := h.ex; ⟨fI, fd, ps, a, b, c, d, F.mono l⟩⟩
structure Ok (c : Cn) (k : Nat) (N : List Str) (sc : Scope) (X : Cx) (W : WX) : Prop where
  eN : X.N = N
  es : X.env.scope = sc
  eK : X.K = c.K
  em : X.mg = c.mg
  nd : N.Nodup
  calm : c.T.hot = false → X.calm = true
  room : RoomB c.T.hot k X.A
  roomX : RoomX c.T.hot k X.A
  gd : X.A.guards = some []
  rp : c.G.rp = rpF
  bt : ∀ x ∈ c.T.bts, c.mg x = none
  con : ∀ n x, c.T.cons[n]? = some x → ∃ u v, c.mg x = some u ∧ RelV v u ∧ ∀ H, RelD c.K H (c.G.con n) v
  fns : ∀ n x, c.T.fns[n]? = some x → ∃ f fd ps, Def c.K c.mg c.T n x f fd ps ∧ FnG X.prog X.w c.K c.mg X.base (c.T.hots.contains n) k f fd ps (lift c (M.cl (c.G.fn n)))
  tk : L2N.Takes X W
  sys : SysK c.K
  er : Errs c.K c.mg c.T c.G
  oc : Obs c.K c.mg c.T c.G
  xi : ∀ cc n, (cc, n) ∈ c.T.xin → ∃ C, c.G.adr cc = some C ∧ XIn X.prog X.w c.K c.mg X.base k C (stx n)
  hx : c.T.hot = true → ∃ a, c.G.hd = some a ∧ X.A.handled = some (.ref a)
/-! ### the checks -/
def kOk : M.Kc → Const → Bool
  | .non, .none => true
  | .bl b, .bool d => b == d
  | .int i, .int j => decide (i = j)
  | .str x, .str y => decide (stx x = y)
  | _, _ => false
def visB (sc : Scope) (x : Str) : Bool := match sc.names.lookup x with
  | some .local => true | some .cell => true | some .free => true | _ => false
def glB (sc : Scope) (x : Str) : Bool := match sc.names.lookup x with
  | some .globalImplicit => true | _ => false
def locB (sc : Scope) (x : Str) : Bool := match sc.names.lookup x with
  | some .local => true | _ => false
def locCB (sc : Scope) (x : Str) : Bool := match sc.names.lookup x with
  | some .local => true | some .cell => true | _ => false
def dbgB (x : Str) : Bool := (x == ("__debug__" : Str)) || (x == ("__classdict__" : Str))
def plB : Expr → Bool
  | .Starred .. => false | .Slice .. => false | _ => true
def bareB : Expr → Bool
  | .Call (.Attribute ..) .. => true | .Call .. => false | .Starred .. => false | .Slice .. => false | _ => true
def bareK : Expr → Bool
  | .Call (.Name _ _) (_ :: _) _ _ => true
  | .Call (.Name _ _) [] (_ :: _) _ => true
  | e => bareB e
def biN : M.Bi → Str
  | .len => "len" | .abs => "abs" | .int => "int" | .min => "min" | .max => "max" | .all => "all" | .any => "any" | .sum => "sum" | .list => "list" | .tuple => "tuple" | .str => "str" | .sorted => "sorted" | .minp => "min" | .sortp => "sorted"
def mtN : M.Mt → Str
  | .append => "append" | .extend => "extend" | .pop => "pop" | .count => "count" | .index => "index"
def mtOk : M.Mt → Bool
  | .append => true | .extend => true | .pop => true | .count => true | .index => true
def moN : M.Mo → Str
  | .split => "split" | .join => "join" | .strip => "strip"
def ownOf (N : List Str) (is : List Nat) : List (Str × Nat) := is.filterMap fun i => N[i]?.map fun x => (x, i)
def nameAt (N : List Str) (ok : Str → Bool) (i : Nat) : Expr → Bool
  | .Name x _ => decide (N[i]? = some x) && ok x && !dbgB x
  | _ => false
def namesAt (N : List Str) (ok : Str → Bool) : List Nat → List Expr → Bool
  | [], [] => true
  | i :: is, e :: es => nameAt N ok i e && namesAt N ok is es
  | _, _ => false
def chkTg (N : List Str) (ok : Str → Bool) : M.Tg → Expr → Bool
  | .v i, e => nameAt N ok i e
  | .tup is, .Tuple es _ _ => namesAt N ok is es
  | .nest is js, .Tuple (.Tuple es _ _ :: es2) _ _ => namesAt N ok is es && namesAt N ok js es2
  | _, _ => false
def noSet : Expr → Bool
  | .Set .. => false | .Starred .. => false | .Slice .. => false | _ => true
def isTupB : Expr → Bool
  | .Tuple .. => true | _ => false
/-- a call of a free built-in name with such arguments -/
def biCall (T : Tb) (sc : Scope) (nm : Str) (ok : List Expr → Bool) : Expr → Bool
  | .Call (.Name x _) es ks _ => decide (x = nm) && decide (nm ∈ T.bts) && glB sc x && !dbgB x && ks.isEmpty && ok es
  | _ => false
def kwsB : List Keyword → Option (List Str)
  | [] => some []
  | ⟨some x, _, _⟩ :: r => (kwsB r).map (x :: ·)
  | _ => none
def one (p : Expr → Bool) : List Expr → Bool
  | [e] => plB e && p e
  | _ => false
def two (p q : Expr → Bool) : List Expr → Bool
  | [e, d] => plB e && plB d && p e && q d
  | _ => false
def three (p q r : Expr → Bool) : List Expr → Bool
  | [e, d, f] => plB e && plB d && plB f && p e && q d && r f
  | _ => false
/-- a block's own name: a local, or a cell that a block within takes -/
def cellB (scope : Scope) (x : Str) : Bool := scope.names.lookup x == some .cell
def tgB (scope sc : Scope) (x : Str) : Bool := locB (relS scope sc) x || cellB scope x
/-- the name of a built-in type -/
def clsB (T : Tb) (sc : Scope) (t : M.Ty) (z : Str) : Bool := decide (z = tyS t) && decide (z ∈ T.bts) && glB sc z && !dbgB z
/-- a class of errors by its name -/
def clsX (T : Tb) (sc : Scope) (c : Nat) (z : Str) : Bool := glB sc z && !dbgB z && (decide (T.cls[c]? = some z) || (decide (c = T.cls.length) && decide (z = "ValueError") && decide (z ∈ T.bts)))
def clsXs (T : Tb) (sc : Scope) : List Nat → List Expr → Bool
  | [], [] => true
  | c :: cs, .Name z _ :: es => clsX T sc c z && clsXs T sc cs es
  | _, _ => false
def clsM (T : Tb) (sc : Scope) (cs : List Nat) : Expr → Bool
  | .Name z _ => decide (cs.length = 1) && clsX T sc (cs.headD 0) z
  | .Tuple zs _ _ => decide (zs.length ≤ 20) && clsXs T sc cs zs
  | _ => false
/-- an object that is called: a name, or -e -/
def objE : Expr → Bool
  | .Name .. => true | .UnaryOp .. => true | _ => false
def keysB : List M.Tx → List (Option Expr) → Bool
  | [], [] => true
  | k :: ks, some (.Constant (.str y) _ _) :: es => decide (stx k = y) && keysB ks es
  | _, _ => false
def isV1 : M.Tg → Bool
  | .v _ => true
  | _ => false
mutual
def chkE (T : Tb) (N : List Str) : M.Ex → Scope → Expr → Bool
  | .v i => fun sc ex => nameAt N (visB sc) i ex
  | .k c => fun sc ex => (match ex with | .Constant d _ _ => kOk c d | _ => false)
  | .g n => fun sc ex => (match ex with | .Name x _ => decide (T.cons[n]? = some x) && glB sc x && !dbgB x | _ => false)
  | .bin o a b => fun sc ex => (match ex with | .BinOp a' p b' _ => boOk o p && chkE T N a sc a' && chkE T N b sc b' | _ => false)
  | .neg a => fun sc ex => (match ex with | .UnaryOp .USub a' _ => chkE T N a sc a' | _ => false)
  | .not a => fun sc ex => (match ex with | .UnaryOp .Not a' _ => chkE T N a sc a' | _ => false)
  | .cmp o a b => fun sc ex => (match ex with | .Compare a' [p] [b'] _ => coOk o p && chkE T N a sc a' && chkE T N b sc b' && !behindInMarks p b' | _ => false)
  | .chain o p a b c => fun sc ex => (match ex with | .Compare a' [o', p'] [b', c'] _ => coOk o o' && coOk p p' && chkE T N a sc a' && chkE T N b sc b' && chkE T N c sc c' && !lastMarks [o', p'] [b', c'] | _ => false)
  | .and a r => fun sc ex => (match ex with | .BoolOp .And (a' :: b' :: r') _ => chkE T N a sc a' && chkR T N r sc (b' :: r') | _ => false)
  | .or a r => fun sc ex => (match ex with | .BoolOp .Or (a' :: b' :: r') _ => chkE T N a sc a' && chkR T N r sc (b' :: r') | _ => false)
  | .ite c a b => fun sc ex => (match ex with | .IfExp c' a' b' _ => chkE T N c sc c' && chkE T N a sc a' && chkE T N b sc b' | _ => false)
  | .tup es => fun sc ex => (match ex with | .Tuple es' _ _ => chkEs T N es sc es' | _ => false)
  | .lst es => fun sc ex => (match ex with | .List es' _ => chkEs T N es sc es' | _ => false)
  | .ix a i => fun sc ex => (match ex with | .Subscript a' i' _ => plB i' && chkE T N a sc a' && chkE T N i sc i' | _ => false)
  | .sl a lo hi => fun sc ex => (match ex with | .Subscript a' (.Slice lo' hi' none _) _ => chkE T N a sc a' && chkO T N lo sc lo' && chkO T N hi sc hi' | _ => false)
  | .rev a => fun sc ex => (match ex with | .Subscript a' (.Slice none none (some (.UnaryOp .USub (.Constant (.int i) _ _) _)) _) _ => decide (i = 1) && chkE T N a sc a' | _ => false)
  | .call f es => fun sc ex => (match ex with | .Call (.Name x _) es' [] _ => decide (T.fns[f]? = some x) && ((T.ats.lookup f).isNone && (!T.sts.contains f && !T.hot)) && (T.hots.contains f == T.hot) && glB sc x && !dbgB x && es'.all plB && chkEs T N es sc es' | _ => false)
  | .callk f es ks perm => fun sc ex => (match ex with
    | .Call (.Name x _) es' kw _ => decide (T.fns[f]? = some x) && ((T.ats.lookup f).isNone && !T.hot) && (T.hots.contains f == T.hot) && glB sc x && !dbgB x && es'.all plB && chkEs T N es sc es' && (match kwsB kw with
      | some nms => decide ((f, M.esLen es, nms, perm) ∈ T.kws) && decide (nms.length = M.esLen ks) && (kw.map (·.value)).all plB && chkEs T N ks sc (kw.map (·.value))
      | none => false)
    | _ => false)
  | .callh f es => fun sc ex => (match ex with | .Call (.Name x _) es' [] _ => decide (T.fns[f]? = some x) && ((T.ats.lookup f).isNone && !T.sts.contains f) && (T.hots.contains f && T.hot) && glB sc x && !dbgB x && es'.all plB && chkEs T N es sc es' | _ => false)
  | .comph i e t it c => fun sc ex => (match ex with
    | .ListComp e' [⟨tg, it', ifs, k⟩] scope _ => T.hot && isV1 t && decide (k = 0) && blkC N sc scope (ownOf N (M.tgs t)) && decide ((ownOf N (M.tgs t)).map (·.2) = M.tgs t) && decide (M.tgs t).Nodup && noSet it' && chkIt T N it sc it' (isTupB tg) && chkTg N (tgB scope sc) t tg
        && (match ifs with | [] => chkO T N c (relS scope sc) none | [d] => chkO T N c (relS scope sc) (some d) | _ => false) && chkE T N e (relS scope sc) e'
    | _ => false)
  | .rep a => fun sc ex => biCall T sc "repr" (one (chkE T N a sc)) ex
  | .bi b es => fun sc ex => (!T.hot || decide (b = .len)) && biCall T sc (biN b) (fun es' => !es'.isEmpty && es'.all plB && chkEs T N es sc es') ex
  | .mt m a es => fun sc ex => (match ex with | .Call (.Attribute a' nm apos) es' [] cpos => decide (nm = mtN m) && mtOk m && (apos.endLine == cpos.line) && bareB a' && chkE T N a sc a' && es'.all plB && decide (es'.length < 29) && chkEs T N es sc es' | _ => false)
  | .dix a i => fun sc ex => (match ex with | .Subscript a' i' _ => plB i' && chkE T N a sc a' && chkE T N i sc i' | _ => false)
  | .m2 m a e => fun sc ex => (match ex with | .Call (.Attribute a' nm apos) [e'] [] cpos => decide (nm = moN m) && (apos.endLine == cpos.line) && bareB a' && plB e' && chkE T N a sc a' && chkE T N e sc e' | _ => false)
  | .isi a t => fun sc ex => biCall T sc "isinstance" (two (chkE T N a sc) (fun y => match y with | .Name z _ => decide (z = tyS t) && decide (z ∈ T.bts) && glB sc z && !dbgB z | _ => false)) ex
  | .isi2 a t u => fun sc ex => biCall T sc "isinstance" (two (chkE T N a sc) (fun y => match y with | .Tuple [.Name z _, .Name z2 _] _ _ => clsB T sc t z && clsB T sc u z2 | _ => false)) ex
  | .isx a cs => fun sc ex => biCall T sc "isinstance" (two (chkE T N a sc) (clsM T sc cs)) ex
  | .dic => fun sc ex => (match ex with | .Dict [] [] _ => true | _ => false)
  | .dct ks es => fun sc ex => (match ex with | .Dict kes vs _ => decide (ks ≠ []) && decide (ks.Nodup) && decide (ks.length ≤ 15) && keysB ks kes && decide (vs.length = ks.length) && vs.all plB && chkEs T N es sc vs | _ => false)
  | .comp e t it c => fun sc ex => (match ex with
    | .ListComp e' [⟨tg, it', ifs, k⟩] scope _ => !T.hot && decide (k = 0) && blkC N sc scope (ownOf N (M.tgs t)) && decide ((ownOf N (M.tgs t)).map (·.2) = M.tgs t) && decide (M.tgs t).Nodup && noSet it' && chkIt T N it sc it' (isTupB tg) && chkTg N (tgB scope sc) t tg
        && (match ifs with | [] => chkO T N c (relS scope sc) none | [d] => chkO T N c (relS scope sc) (some d) | _ => false) && chkE T N e (relS scope sc) e'
    | _ => false)
  | .new k es => fun sc ex => (match ex with | .Call (.Name x _) es' [] _ => !T.hot && decide (T.ocs[k]? = some x) && glB sc x && !dbgB x && es'.all plB && decide (M.nmInit ∉ T.prs) && chkEs T N es sc es' | _ => false)
  | .newk k es ks perm => fun sc ex => (match ex with
    | .Call (.Name x _) es' kw _ => !T.hot && decide (T.ocs[k]? = some x) && glB sc x && !dbgB x && es'.all plB && decide (M.nmInit ∉ T.prs) && chkEs T N es sc es' && (match kwsB kw with
      | some nms => T.mtb.all (fun e => decide (e.1 = (k, M.nmInit) → (e.2, M.esLen es + 1, nms, perm) ∈ T.kws)) && decide (nms.length = M.esLen ks) && (kw.map (·.value)).all plB && chkEs T N ks sc (kw.map (·.value))
      | none => false)
    | _ => false)
  | .fld a n => fun sc ex => (match ex with | .Attribute a' nm _ => decide (nm = stx n) && decide (n ∈ T.fds) && bareB a' && chkE T N a sc a' | _ => false)
  | .prp a n => fun sc ex => (match ex with | .Attribute a' nm _ => !T.hot && decide (nm = stx n) && decide (n ∈ T.prs) && bareB a' && chkE T N a sc a' | _ => false)
  | .ocl a es => fun sc ex => (match ex with | .Call a' es' [] _ => !T.hot && objE a' && !es'.isEmpty && es'.all plB && decide (M.nmCall ∉ T.prs) && chkE T N a sc a' && chkEs T N es sc es' | _ => false)
  | .oclk a ks perm => fun sc ex => (match ex with
    | .Call (.Name z p) [] kw _ => !T.hot && decide (M.nmCall ∉ T.prs) && chkE T N a sc (.Name z p) && (match kwsB kw with
      | some nms => T.mtb.all (fun e => decide (e.1.2 = M.nmCall → (e.2, 1, nms, perm) ∈ T.kws)) && decide (nms.length = M.esLen ks) && (kw.map (·.value)).all plB && chkEs T N ks sc (kw.map (·.value))
      | none => false)
    | _ => false)
  | .xfld a n => fun sc ex => (match ex with | .Attribute a' nm _ => decide (nm = stx n) && decide (n ∈ T.xns) && bareK a' && chkE T N a sc a' | _ => false)
  | .xnew0 cc => fun sc ex => (match ex with
    | .Call (.Name x _) [] [] _ => !T.hot && !T.xin.any (fun e => e.1 == cc) && decide (cc < T.nr) && decide (T.cls[cc]? = some x) && glB sc x && !dbgB x
    | _ => false)
  | .xnew cc n kw e => fun sc ex => (match ex with
    | .Call (.Name x _) es ks _ => !T.hot && decide ((cc, n) ∈ T.xin) && decide (cc < T.nr) && decide (T.cls[cc]? = some x) && glB sc x && !dbgB x && (if kw then (match es, ks with
      | [], [⟨some y, e', _⟩] => decide (y = stx n) && plB e' && chkE T N e sc e'
      | _, _ => false) else (match es, ks with
      | [e'], [] => plB e' && chkE T N e sc e'
      | _, _ => false))
    | _ => false)
  | .mth m a es => fun sc ex => (match ex with | .Call (.Attribute a' nm apos) es' [] cpos => !T.hot && decide (nm = stx m) && (!M.keyB m && decide (m ∉ T.prs)) && (apos.endLine == cpos.line) && bareB a' && chkE T N a sc a' && es'.all plB && decide (es'.length < 29) && chkEs T N es sc es' | _ => false)
  | .mthk m a es ks perm => fun sc ex => (match ex with
    | .Call (.Attribute a' nm apos) es' kw cpos => !T.hot && decide (nm = stx m) && (!M.keyB m && decide (m ∉ T.prs)) && (apos.endLine == cpos.line) && bareB a' && chkE T N a sc a' && es'.all plB && decide (es'.length + kw.length < 28) && chkEs T N es sc es' && (match kwsB kw with
      | some nms => T.mtb.all (fun e => decide (e.1.2 = m → (e.2, M.esLen es + 1, nms, perm) ∈ T.kws)) && decide (nms.length = M.esLen ks) && (kw.map (·.value)).all plB && chkEs T N ks sc (kw.map (·.value))
      | none => false)
    | _ => false)
  | .mths m a es => fun sc ex => (match ex with | .Call (.Attribute a' nm apos) es' [] cpos => !T.hot && decide (nm = stx m) && (apos.endLine == cpos.line) && bareB a' && chkE T N a sc a' && es'.all plB && decide (es'.length < 29) && chkEs T N es sc es' | _ => false)
  | .oln a => fun sc ex => !T.hot && decide (M.nmLen ∉ T.prs) && biCall T sc "len" (one (chkE T N a sc)) ex
  | .newd k es cs => fun sc ex => (match ex with | .Call (.Name x _) es' [] _ => !T.hot && decide (T.ocs[k]? = some x) && glB sc x && !dbgB x && es'.all plB && decide (M.nmInit ∉ T.prs) && chkEs T N es sc es' && T.mtb.all (fun e => decide (e.1 = (k, M.nmInit) → (e.2, cs) ∈ T.dfl)) | _ => false)
  | .oun a => fun sc ex => (match ex with | .UnaryOp .USub a' _ => !T.hot && decide (M.nmNeg ∉ T.prs) && chkE T N a sc a' | _ => false)
  | .oand a b => fun sc ex => (match ex with | .BinOp a' .BitAnd b' _ => !T.hot && decide (M.nmAnd ∉ T.prs) && chkE T N a sc a' && chkE T N b sc b' | _ => false)
  | .oeq a b => fun sc ex => (match ex with | .Compare a' [.Eq] [b'] _ => !T.hot && decide (M.nmEq ∉ T.prs) && chkE T N a sc a' && chkE T N b sc b' && !behindInMarks .Eq b' | _ => false)
  | .one a b => fun sc ex => (match ex with | .Compare a' [.NotEq] [b'] _ => !T.hot && decide (M.nmEq ∉ T.prs) && chkE T N a sc a' && chkE T N b sc b' && !behindInMarks .NotEq b' | _ => false)
  | .oin o a b => fun sc ex => (match ex with | .Compare a' [p] [b'] _ => !T.hot && coOk o p && (decide (o = .in_) || decide (o = .nin)) && decide (M.nmIn ∉ T.prs) && chkE T N a sc a' && chkE T N b sc b' && !behindInMarks p b' | _ => false)
  | .isc a k => fun sc ex => biCall T sc "isinstance" (two (chkE T N a sc) (fun y => match y with | .Name z _ => decide (T.ocs[k]? = some z) && glB sc z && !dbgB z | _ => false)) ex
def chkEs (T : Tb) (N : List Str) : M.Es → Scope → List Expr → Bool
  | .nil => fun sc es' => es'.isEmpty
  | .cons e r => fun sc es' => (match es' with | e' :: r' => plB e' && chkE T N e sc e' && chkEs T N r sc r' | [] => false)
  | .star e r => fun sc es' => (match es' with | .Starred e' _ :: r' => chkE T N e sc e' && chkEs T N r sc r' | _ => false)
/-- what stands behind the first of and, or -/
def chkR (T : Tb) (N : List Str) : M.Es → Scope → List Expr → Bool
  | .nil => fun sc es' => es'.isEmpty
  | .cons e r => fun sc es' => (match es' with | e' :: r' => chkE T N e sc e' && chkR T N r sc r' | [] => false)
  | .star e r => fun sc es' => false
def chkO (T : Tb) (N : List Str) : M.Oe → Scope → Option Expr → Bool
  | .none => fun sc o => o.isNone
  | .some e => fun sc o => (match o with | some e' => chkE T N e sc e' | none => false)
def chkIt (T : Tb) (N : List Str) : M.It → Scope → Expr → Bool → Bool
  | .seq e => fun sc ex tp => chkE T N e sc ex
  | .rng e => fun sc ex tp => biCall T sc "range" (one (chkE T N e sc)) ex
  | .rng2 a b => fun sc ex tp => biCall T sc "range" (two (chkE T N a sc) (chkE T N b sc)) ex
  | .zip3 a b d => fun sc ex tp => tp && biCall T sc "zip" (three (chkE T N a sc) (chkE T N b sc) (chkE T N d sc)) ex
  | .zip a b => fun sc ex tp => tp && biCall T sc "zip" (two (chkE T N a sc) (chkE T N b sc)) ex
  | .enum e => fun sc ex tp => tp && biCall T sc "enumerate" (one (chkE T N e sc)) ex
end
end Snd
namespace Snd
open PySem PySem.Spec PyProof.Rows L2
/-! ### zip over sources of any kind -/
inductive Sc where | lst (a : Addr) | tup (a : Addr) | txt (x : Str)
def chrs (x : Str) : List V := x.cps.toList.map fun c => .str ⟨#[c]⟩
def Sc.has (K : Frag) (H : Hp) : Sc → List V → Prop
  | .lst a, xs => SqL K H a xs
  | .tup a, xs => SqT K H a xs
  | .txt x, xs => xs = chrs x
def Sc.st : Sc → Addr → Nat → Heap → Prop
  | .lst a, it, i, h => h.IsListIter it a i
  | .tup a, it, i, h => h.IsTupleIter it a i
  | .txt x, it, i, h => ∃ t, h.IsStrIter it (strIterType x) x t i
def Sc.adr : Sc → List Addr
  | .lst a => [a]
  | .tup a => [a]
  | .txt _ => []
theorem Sc.obj {p : Sc} {it : Addr} {i : Nat} {h : Heap} (s : p.st it i h) : ∃ o, h.get? it = some o ∧ ∀ v, o.data ≠ .cell v := by
  cases p with
  | lst a => obtain ⟨o, e, _, d⟩ := s; exact ⟨o, e, fun v q => by rw [d] at q; cases q⟩
  | tup a => obtain ⟨o, e, _, d⟩ := s; exact ⟨o, e, fun v q => by rw [d] at q; cases q⟩
  | txt x => obtain ⟨t, o, e, _, d⟩ := s; exact ⟨o, e, fun v q => by rw [d] at q; cases q⟩
theorem Sc.keep {p : Sc} {it : Addr} {i : Nat} {h h' : Heap} (s : p.st it i h) (k : ∀ o, h.get? it = some o → h'.get? it = some o) : p.st it i h' := by
  cases p with
  | lst a => exact Heap.IsListIter.at s k
  | tup a => exact Heap.IsTupleIter.at s k
  | txt x => obtain ⟨t, o, e, r⟩ := s; exact ⟨t, o, k o e, r⟩
theorem Sc.inj {X : Cx} {pins : List (Addr × Obj)} {σ : L2.St} {H : Hp} {s : Shared} (I : Inv X pins σ H s) {p : Sc} {xs ys : List V} (h1 : p.has X.K H xs) (h2 : p.has X.K H ys) : xs = ys := by
  cases p with
  | lst a => exact I.list_inj h1 h2
  | tup a => exact I.tuple_inj h1 h2
  | txt x => exact h1.trans h2.symm
/-- its iterator draws the values -/
theorem Sc.draws {X : Cx} {pins : List (Addr × Obj)} {σ : L2.St} {H : Hp} {s : Shared} (I : Inv X pins σ H s) (hc : X.calm = true) {p : Sc} {xs : List V} (h : p.has X.K H xs) {it : Addr} {i : Nat} (hs : p.st it i s.heap) (ha : it ∉ p.adr) :
    ∃ (P : Nat → Value → Prop) (St : Nat → Heap → Prop), Draws X.prog X.w X.A.in1 it (it :: p.adr) xs.length P St ∧ St i s.heap ∧ (∀ j h', St j h' → p.st it j h') ∧ ∀ j v x, P j v → xs[j]? = some x → RelV x v := by
  have hh : X.A.in1.handled = none := I.ok.hd hc
  cases p with
  | lst a =>
    obtain ⟨its, rv, q, _⟩ := I.list h
    have e : its.toArray.size = xs.length := by rw [List.size_toArray, rv.length]
    have D := Draws.list (prog := X.prog) (w := X.w) hh it a (fun z => ha (by simp [Sc.adr, z])) its.toArray
    rw [e] at D
    refine ⟨_, _, D, ⟨hs, q.isList⟩, fun j h' z => z.1, fun j v x hp hx => ?_⟩
    obtain ⟨u, hu, ru⟩ := rv.get hx
    have hp : its[j]? = some v := by simpa using hp
    rw [hu] at hp
    cases hp
    exact ru
  | tup a =>
    obtain ⟨its, rv, q, _⟩ := I.tuple h
    have e : its.toArray.size = xs.length := by rw [List.size_toArray, rv.length]
    have D := Draws.tuple (prog := X.prog) (w := X.w) hh it a (fun z => ha (by simp [Sc.adr, z])) its.toArray
    rw [e] at D
    refine ⟨_, _, D, ⟨hs, q⟩, fun j h' z => z.1, fun j v x hp hx => ?_⟩
    obtain ⟨u, hu, ru⟩ := rv.get hx
    have hp : its[j]? = some v := by simpa using hp
    rw [hu] at hp
    cases hp
    exact ru
  | txt x =>
    have h : xs = chrs x := h
    subst h
    obtain ⟨t, hs⟩ := hs
    have D := Draws.text (prog := X.prog) (w := X.w) hh it x t
    have e : x.cps.size = (chrs x).length := by unfold chrs; simp
    rw [e] at D
    refine ⟨_, _, D, hs, fun j h' z => ⟨t, z⟩, fun j v y hp hx => ?_⟩
    obtain ⟨c, u, hc', rfl⟩ := hp
    have hx : (x.cps[j]?).map (fun c => V.str ⟨#[c]⟩) = some y := by
      unfold chrs at hx
      simpa using hx
    rw [hc'] at hx
    cases hx
    exact ⟨u, rfl⟩
def ItzM (K : Frag) (p q : Sc) : It :=
  ⟨fun i H => ∃ (xs ys : List V) (x y : V), p.has K H xs ∧ q.has K H ys ∧ xs[i]? = some x ∧ ys[i]? = some y,
    fun i H v H' => ∃ T x y, v = .ref T ∧ H T = none ∧ H' = upd H T (.tup [x, y]) ∧ (∀ xs, p.has K H xs → xs[i]? = some x) ∧ ∀ ys, q.has K H ys → ys[i]? = some y,
    fun i H => ∃ xs ys : List V, p.has K H xs ∧ q.has K H ys ∧ i = min xs.length ys.length⟩
/-- the cells lie apart -/
structure Apt (z TI TO i1 i2 : Addr) (ds : List Addr) : Prop where
  nd : [z, TI, TO, i1, i2].Nodup
  ds : ∀ c ∈ [z, TI, TO, i1, i2], c ∉ ds
theorem Apt.sep {z TI TO i1 i2 : Addr} {d1 d2 : List Addr} (D : Apt z TI TO i1 i2 (d1 ++ d2)) : ZipSep2 z TI TO i1 i2 (i1 :: d1) (i2 :: d2) := by
  have nd := D.nd
  simp at nd
  have a : ∀ c ∈ [z, TI, TO, i1, i2], c ∉ d1 ∧ c ∉ d2 := fun c hc => ⟨fun z => D.ds c hc (List.mem_append_left _ z), fun z => D.ds c hc (List.mem_append_right _ z)⟩
  have az := a z (by simp)
  have aT := a TO (by simp)
  have a1 := a i1 (by simp)
  have a2 := a i2 (by simp)
  obtain ⟨⟨n1, n2, n3, n4⟩, ⟨n5, n6, n7⟩, ⟨n8, n9⟩, n10⟩ := nd
  exact ⟨Ne.symm n1, Ne.symm n2, n5, n6, by simp, by simp [n3, az.1], by simp [n8, aT.1], n7, by simp, by simp [n4, az.2], by simp [n9, aT.2], by simp [n10, a1.2], by simp [Ne.symm n10, a2.1]⟩
theorem turn_zipM {P : Program} {w : World} {K : Frag} {elts : List Expr} {kk : Nat} {tpos : Pos} {p q : Sc} {z TI TO i1 i2 : Addr} (D : Apt z TI TO i1 i2 (p.adr ++ q.adr)) :
    Turn P w K (.Tuple elts kk tpos) (ItzM K p q) [z, TI, TO, i1, i2] z (fun i h => IsZip h z TI TO .none ∧ IsTupOf2 h TI (.ref i1) (.ref i2) ∧ (∃ x y, IsTupOf2 h TO x y) ∧ p.st i1 i h ∧ q.st i2 i h) where
  mem := by simp
  obj := fun i h st c hc => by
    obtain ⟨hz, hTI, ⟨x, y, hTO⟩, h1, h2⟩ := st
    simp only [List.mem_cons, List.not_mem_nil, or_false] at hc
    rcases hc with rfl | rfl | rfl | rfl | rfl
    · exact ⟨_, hz, fun v q => nomatch q⟩
    · exact ⟨_, hTI, fun v q => nomatch q⟩
    · exact ⟨_, hTO, fun v q => nomatch q⟩
    · exact Sc.obj (p := p) h1
    · exact Sc.obj (p := q) h2
  keep := fun i h h' st k => by
    obtain ⟨hz, hTI, ⟨x, y, hTO⟩, h1, h2⟩ := st
    exact ⟨k z (by simp) _ hz, k TI (by simp) _ hTI, ⟨x, y, k TO (by simp) _ hTO⟩, Sc.keep (p := p) h1 fun o e => k i1 (by simp) o e, Sc.keep (p := q) h2 fun o e => k i2 (by simp) o e⟩
  item := by
    intro X hP hw hK hc i pins s σ H E I hf st hg
    subst hP hw hK
    obtain ⟨hz, hTI, ⟨x0, y0, hTO⟩, h1, h2⟩ := st
    obtain ⟨xs, ys, x, y, hp, hq, hx, hy⟩ := hg
    have S := D.sep
    have n1 : i1 ∉ p.adr := fun z => D.ds i1 (by simp) (List.mem_append_left _ z)
    have n2 : i2 ∉ q.adr := fun z => D.ds i2 (by simp) (List.mem_append_right _ z)
    obtain ⟨P1, St1, D1, s1, b1, v1⟩ := Sc.draws I hc hp h1 n1
    obtain ⟨P2, St2, D2, s2, b2, v2⟩ := Sc.draws I hc hq h2 n2
    have l1 := (List.getElem?_eq_some_iff.mp hx).1
    have l2 := (List.getElem?_eq_some_iff.mp hy).1
    have hzl : z < s.heap.objs.size := Heap.lt_size hz
    refine wpAny_pyNext_zipD2_item S D1 D2 hz hTI hTO s1 s2 l1 l2 fun u1 u2 h' tk pu1 pu2 z' TO' t1 t2 hT hsz hk => ?_
    refine ⟨_, rfl, wpAny_letOwnedTupleGo_zip (s := { s with heap := h', toks := tk }) z' fun h'' z'' sb => ?_⟩
    have hT2 : h''.get? s.heap.objs.size = some { cls := .type "tuple", data := .seq #[u1, u2] } := (sb.2 _ (Nat.ne_of_gt hzl)).trans hT
    have new : ObjOk X.prog X.w (upd H s.heap.objs.size (.tup [x, y])) h'' s.heap.objs.size (.tup [x, y]) :=
      ⟨by show 2 ≤ sizeLine; decide, [u1, u2], .cons (v1 i u1 x pu1 hx) (.cons (v2 i u2 y pu2 hy) .nil), ⟨_, hT2, rfl, _, rfl⟩⟩
    have I1 : Inv X pins σ (upd H s.heap.objs.size (.tup [x, y])) { s with heap := h'', toks := tk } :=
      I.turnedNew (t' := tk) (ch := [z, TI, TO, i1, i2]) (fun c o hb e => (sb.2 c (fun q' => hb (by simp [q']))).trans (hk c o (fun q' => hb (by simp [q'])) (fun q' => hb (by simp [q'])) (fun q' => hb (by simp [q'])) (fun q' => hb (by simp [q'])) e)) hf (Nat.le_refl _) new
    refine ⟨.ref s.heap.objs.size, _, I1, rfl, ⟨_, x, y, rfl, I.hok.fresh (Nat.le_refl _), rfl, fun l hl => by rw [Sc.inj I hl hp]; exact hx, fun l hl => by rw [Sc.inj I hl hq]; exact hy⟩, ⟨z'', ?_, ⟨u1, u2, ?_⟩, ?_, ?_⟩, fun c hcm => ?_⟩
    · exact (sb.2 _ S.TIz).trans (hk _ _ S.TIz S.TITO S.TIi1 S.TIi2 hTI)
    · exact (sb.2 _ S.TOz).trans TO'
    · exact Sc.keep (p := p) (b1 _ _ t1) fun o e => (sb.2 _ (Ne.symm S.zi1)).trans e
    · exact Sc.keep (p := q) (b2 _ _ t2) fun o e => (sb.2 _ (Ne.symm S.zi2)).trans e
    · have hlt : c < s.heap.objs.size := by
        simp only [List.mem_cons, List.not_mem_nil, or_false] at hcm
        rcases hcm with rfl | rfl | rfl | rfl | rfl
        · exact hzl
        · exact Heap.lt_size hTI
        · exact Heap.lt_size hTO
        · obtain ⟨o, e, _⟩ := Sc.obj (p := p) h1; exact Heap.lt_size e
        · obtain ⟨o, e, _⟩ := Sc.obj (p := q) h2; exact Heap.lt_size e
      rw [upd_ne (Nat.ne_of_lt hlt)]
      exact (hf c hcm).1
  done := by
    intro X hP hw hK hc i pins s σ H E I hf st hg
    subst hP hw hK
    obtain ⟨hz, hTI, ⟨x0, y0, hTO⟩, h1, h2⟩ := st
    obtain ⟨xs, ys, hp, hq, hend⟩ := hg
    have S := D.sep
    have n1 : i1 ∉ p.adr := fun z => D.ds i1 (by simp) (List.mem_append_left _ z)
    have n2 : i2 ∉ q.adr := fun z => D.ds i2 (by simp) (List.mem_append_right _ z)
    obtain ⟨P1, St1, D1, s1, b1, v1⟩ := Sc.draws I hc hp h1 n1
    obtain ⟨P2, St2, D2, s2, b2, v2⟩ := Sc.draws I hc hq h2 n2
    refine wpAny_pyNext_zipD2_end S D1 D2 hz hTI hTO s1 s2 (by omega) (by omega) (by omega) fun h' tk hk => ⟨rfl, I.turnedL (t' := tk) (ch := [z, TI, TO, i1, i2]) (fun c o hb e =>
      hk c o (fun q' => hb (by simp [q'])) (fun q' => hb (by simp [q'])) (fun q' => hb (by simp [q'])) (fun q' => hb (by simp [q'])) e) hf⟩
  self := fun A i s Q E st h => wpAny_pyIter_zip st.1 h
def Sc.is (v : V) : Sc → Prop
  | .lst a => v = .ref a
  | .tup a => v = .ref a
  | .txt x => v = .str x
/-- how it begins -/
theorem Sc.begins {X : Cx} {pins : List (Addr × Obj)} {σ : L2.St} {H : Hp} {s : Shared} (I : Inv X pins σ H s) {p : Sc} {xs : List V} (h : p.has X.K H xs) {v : V} {u : Value} (hv : RelV v u) (hp : Sc.is v p) :
    ∃ (o : Obj) (HH : Heap → Prop), Begins u o HH ∧ HH s.heap ∧ (∀ (it : Addr) (h' : Heap), h'.get? it = some o → p.st it 0 h') ∧ ∀ b ∈ p.adr, b < s.heap.objs.size := by
  cases p with
  | lst a =>
    have hp : v = .ref a := hp
    subst hp
    cases hv
    obtain ⟨its, rv, q, _⟩ := I.list h
    exact ⟨_, _, begins_list a its.toArray, q.isList, fun it h' e => ⟨_, e, rfl, rfl⟩, fun b hb => by
      have : b = a := by simpa [Sc.adr] using hb
      rw [this]; exact q.lt⟩
  | tup a =>
    have hp : v = .ref a := hp
    subst hp
    cases hv
    obtain ⟨its, rv, q, _⟩ := I.tuple h
    exact ⟨_, _, begins_tuple a its.toArray, q, fun it h' e => ⟨_, e, rfl, rfl⟩, fun b hb => by
      have : b = a := by simpa [Sc.adr] using hb
      obtain ⟨o, e, _⟩ := q
      rw [this]; exact Heap.lt_size e⟩
  | txt x =>
    have hp : v = .str x := hp
    subst hp
    obtain ⟨t, rfl⟩ := hv
    exact ⟨_, _, begins_text x t, trivial, fun it h' e => ⟨t, _, e, rfl, rfl⟩, fun b hb => by simp [Sc.adr] at hb⟩
def iZipM (K : Frag) (ta : TA) : TI := fun σ H R => ta σ H fun vs H1 => ∃ v w p q xs ys, vs = [v, w] ∧ Sc.is v p ∧ Sc.is w q ∧ p.has K H1 xs ∧ q.has K H1 ys ∧ R (ItzM K p q) H1
theorem pi_zipM {X : Cx} {e e2 : Expr} {ta : TA} {p pos tpos : Pos} {elts : List Expr} {kk : Nat} (hg : Gl X "zip") (hm : X.mg "zip" = none) (ha : PA X [e, e2] ta)
    (hs : starEach [e, e2] X.env = (false, eval e X.env) :: starEach [e2] X.env := by rfl) (hpl : (backTo pos (starEach [e2] X.env)).any (·.1) = false := by rfl) :
    PI X (.Tuple elts kk tpos) (.Call (.Name "zip" p) [e, e2] [] pos) (iZipM X.K ta) := by
  refine ⟨fun pins s σ H R I h => ?_⟩
  refine Call_ (ld_blt I hg hm PyProof.Rows.boot_zip (PyProof.Rows.callWith_type1 (thn (ha.run pos pins s σ H _ I h) fun us s1 ⟨vs, H1, I1, r1, q1⟩ => ?_) hs hpl))
  obtain ⟨v, w', a, b, xs, ys, ex, hv, hw, h1, h2, q1⟩ := q1
  subst ex
  cases r1 with
  | cons r rr =>
    cases rr with
    | cons r' rr =>
      cases rr
      obtain ⟨o1, H1', B1, g1, t1, ad1⟩ := Sc.begins I1 h1 r hv
      obtain ⟨o2, H2', B2, g2, t2, ad2⟩ := Sc.begins I1 h2 r' hw
      refine zip_begins2 B1 B2 g1 g2 fun h' hz hTI hTO k1 k2 hsz hk => wpAny_pyIter_zip hz ?_
      have I2 : Inv X pins σ H1 { s1 with heap := h' } := I1.kept (t' := s1.toks) hk
      have new : ∀ c ∈ [s1.heap.objs.size + 4, s1.heap.objs.size + 2, s1.heap.objs.size + 3, s1.heap.objs.size, s1.heap.objs.size + 1], s1.heap.objs.size ≤ c := fun c hc => by
        simp only [List.mem_cons, List.not_mem_nil, or_false] at hc
        rcases hc with rfl | rfl | rfl | rfl | rfl
        · exact Nat.le_add_right _ _
        · exact Nat.le_add_right _ _
        · exact Nat.le_add_right _ _
        · exact Nat.le_refl _
        · exact Nat.le_add_right _ _
      have D : Apt (s1.heap.objs.size + 4) (s1.heap.objs.size + 2) (s1.heap.objs.size + 3) s1.heap.objs.size (s1.heap.objs.size + 1) (a.adr ++ b.adr) := by
        refine ⟨?_, fun c hc hd => ?_⟩
        · generalize s1.heap.objs.size = n
          simp
        · have hn := new c hc
          rcases List.mem_append.mp hd with z | z
          · exact absurd (ad1 c z) (Nat.not_lt.mpr hn)
          · exact absurd (ad2 c z) (Nat.not_lt.mpr hn)
      exact ⟨s1.heap.objs.size + 4, [s1.heap.objs.size + 4, s1.heap.objs.size + 2, s1.heap.objs.size + 3, s1.heap.objs.size, s1.heap.objs.size + 1], _, _, H1, rfl, I2, turn_zipM D, ⟨hz, hTI, ⟨_, _, hTO⟩, t1 _ _ k1, t2 _ _ k2⟩, fun c hc => I1.fpOk (new c hc) (I1.hok.fresh (new c hc)), q1⟩
end Snd
namespace Snd
open PySem PySem.Spec PyProof.Rows L2
/-! ### zip over three sources of any kind -/
def Itz3 (K : Frag) (p q r : Sc) : It :=
  ⟨fun i H => ∃ (xs ys zs : List V) (x y z : V), p.has K H xs ∧ q.has K H ys ∧ r.has K H zs ∧ xs[i]? = some x ∧ ys[i]? = some y ∧ zs[i]? = some z,
    fun i H v H' => ∃ T x y z, v = .ref T ∧ H T = none ∧ H' = upd H T (.tup [x, y, z]) ∧ (∀ xs, p.has K H xs → xs[i]? = some x) ∧ (∀ ys, q.has K H ys → ys[i]? = some y) ∧ ∀ zs, r.has K H zs → zs[i]? = some z,
    fun i H => ∃ xs ys zs : List V, p.has K H xs ∧ q.has K H ys ∧ r.has K H zs ∧ i = min (min xs.length ys.length) zs.length⟩
structure Apt3 (z TI TO i1 i2 i3 : Addr) (ds : List Addr) : Prop where
  nd : [z, TI, TO, i1, i2, i3].Nodup
  ds : ∀ c ∈ [z, TI, TO, i1, i2, i3], c ∉ ds
theorem Apt3.sep {z TI TO i1 i2 i3 : Addr} {d1 d2 d3 : List Addr} (D : Apt3 z TI TO i1 i2 i3 (d1 ++ (d2 ++ d3))) : ZipSep3 z TI TO i1 i2 i3 (i1 :: d1) (i2 :: d2) (i3 :: d3) := by
  have nd := D.nd
  simp at nd
  have a : ∀ c ∈ [z, TI, TO, i1, i2, i3], c ∉ d1 ∧ c ∉ d2 ∧ c ∉ d3 := fun c hc => ⟨fun z => D.ds c hc (List.mem_append_left _ z), fun z => D.ds c hc (List.mem_append_right _ (List.mem_append_left _ z)), fun z => D.ds c hc (List.mem_append_right _ (List.mem_append_right _ z))⟩
  have az := a z (by simp)
  have aT := a TO (by simp)
  have a1 := a i1 (by simp)
  have a2 := a i2 (by simp)
  have a3 := a i3 (by simp)
  obtain ⟨⟨n1, n2, n3, n4, n5⟩, ⟨n6, n7, n8, n9⟩, ⟨n10, n11, n12⟩, ⟨n13, n14⟩, n15⟩ := nd
  exact { TIz := Ne.symm n1, TOz := Ne.symm n2, TITO := n6, TIi1 := n7, mem1 := by simp, zf1 := by simp [n3, az.1], Tf1 := by simp [n10, aT.1], TIi2 := n8, mem2 := by simp, zf2 := by simp [n4, az.2.1], Tf2 := by simp [n11, aT.2.1], TIi3 := n9, mem3 := by simp, zf3 := by simp [n5, az.2.2], Tf3 := by simp [n12, aT.2.2], sep1_2 := by simp [n13, a1.2.1], sep1_3 := by simp [n14, a1.2.2], sep2_1 := by simp [Ne.symm n13, a2.1], sep2_3 := by simp [n15, a2.2.2], sep3_1 := by simp [Ne.symm n14, a3.1], sep3_2 := by simp [Ne.symm n15, a3.2.1] }
theorem turn_zip3 {P : Program} {w : World} {K : Frag} {elts : List Expr} {kk : Nat} {tpos : Pos} {p q r : Sc} {z TI TO i1 i2 i3 : Addr} (D : Apt3 z TI TO i1 i2 i3 (p.adr ++ (q.adr ++ r.adr))) :
    Turn P w K (.Tuple elts kk tpos) (Itz3 K p q r) [z, TI, TO, i1, i2, i3] z (fun i h => IsZip h z TI TO .none ∧ IsTupOf3 h TI (.ref i1) (.ref i2) (.ref i3) ∧ (∃ x y w, IsTupOf3 h TO x y w) ∧ p.st i1 i h ∧ q.st i2 i h ∧ r.st i3 i h) where
  mem := by simp
  obj := fun i h st c hc => by
    obtain ⟨hz, hTI, ⟨x, y, u, hTO⟩, h1, h2, h3⟩ := st
    simp only [List.mem_cons, List.not_mem_nil, or_false] at hc
    rcases hc with rfl | rfl | rfl | rfl | rfl | rfl
    · exact ⟨_, hz, fun v q => nomatch q⟩
    · exact ⟨_, hTI, fun v q => nomatch q⟩
    · exact ⟨_, hTO, fun v q => nomatch q⟩
    · exact Sc.obj (p := p) h1
    · exact Sc.obj (p := q) h2
    · exact Sc.obj (p := r) h3
  keep := fun i h h' st k => by
    obtain ⟨hz, hTI, ⟨x, y, u, hTO⟩, h1, h2, h3⟩ := st
    exact ⟨k z (by simp) _ hz, k TI (by simp) _ hTI, ⟨x, y, u, k TO (by simp) _ hTO⟩, Sc.keep (p := p) h1 fun o e => k i1 (by simp) o e, Sc.keep (p := q) h2 fun o e => k i2 (by simp) o e, Sc.keep (p := r) h3 fun o e => k i3 (by simp) o e⟩
  item := by
    intro X hP hw hK hc i pins s σ H E I hf st hg
    subst hP hw hK
    obtain ⟨hz, hTI, ⟨x0, y0, u0, hTO⟩, h1, h2, h3⟩ := st
    obtain ⟨xs, ys, zs, x, y, u, hp, hq, hr, hx, hy, hu⟩ := hg
    have S := D.sep
    have n1 : i1 ∉ p.adr := fun z => D.ds i1 (by simp) (List.mem_append_left _ z)
    have n2 : i2 ∉ q.adr := fun z => D.ds i2 (by simp) (List.mem_append_right _ (List.mem_append_left _ z))
    have n3 : i3 ∉ r.adr := fun z => D.ds i3 (by simp) (List.mem_append_right _ (List.mem_append_right _ z))
    obtain ⟨P1, St1, D1, s1, b1, v1⟩ := Sc.draws I hc hp h1 n1
    obtain ⟨P2, St2, D2, s2, b2, v2⟩ := Sc.draws I hc hq h2 n2
    obtain ⟨P3, St3, D3, s3, b3, v3⟩ := Sc.draws I hc hr h3 n3
    have l1 := (List.getElem?_eq_some_iff.mp hx).1
    have l2 := (List.getElem?_eq_some_iff.mp hy).1
    have l3 := (List.getElem?_eq_some_iff.mp hu).1
    have hzl : z < s.heap.objs.size := Heap.lt_size hz
    have zi3 : z ≠ i3 := fun e => S.zf3 (by rw [e]; exact S.mem3)
    have zi2 : z ≠ i2 := fun e => S.zf2 (by rw [e]; exact S.mem2)
    refine wpAny_pyNext_zipD3_item S D1 D2 D3 hz hTI hTO s1 s2 s3 l1 l2 l3 fun u1 u2 u3 h' tk pu1 pu2 pu3 z' TO' t1 t2 t3 hT hsz hk => ?_
    refine ⟨_, rfl, wpAny_letOwnedTupleGo_zip (s := { s with heap := h', toks := tk }) z' fun h'' z'' sb => ?_⟩
    have hT2 : h''.get? s.heap.objs.size = some { cls := .type "tuple", data := .seq #[u1, u2, u3] } := (sb.2 _ (Nat.ne_of_gt hzl)).trans hT
    have new : ObjOk X.prog X.w (upd H s.heap.objs.size (.tup [x, y, u])) h'' s.heap.objs.size (.tup [x, y, u]) :=
      ⟨by show 3 ≤ sizeLine; decide, [u1, u2, u3], .cons (v1 i u1 x pu1 hx) (.cons (v2 i u2 y pu2 hy) (.cons (v3 i u3 u pu3 hu) .nil)), ⟨_, hT2, rfl, _, rfl⟩⟩
    have I1 : Inv X pins σ (upd H s.heap.objs.size (.tup [x, y, u])) { s with heap := h'', toks := tk } :=
      I.turnedNew (t' := tk) (ch := [z, TI, TO, i1, i2, i3]) (fun c o hb e => (sb.2 c (fun q' => hb (by simp [q']))).trans (hk c o (fun q' => hb (by simp [q'])) (fun q' => hb (by simp [q'])) (fun q' => hb (by simp [q'])) (fun q' => hb (by simp [q'])) (fun q' => hb (by simp [q'])) e)) hf (Nat.le_refl _) new
    refine ⟨.ref s.heap.objs.size, _, I1, rfl, ⟨_, x, y, u, rfl, I.hok.fresh (Nat.le_refl _), rfl, fun l hl => by rw [Sc.inj I hl hp]; exact hx, fun l hl => by rw [Sc.inj I hl hq]; exact hy, fun l hl => by rw [Sc.inj I hl hr]; exact hu⟩, ⟨z'', ?_, ⟨u1, u2, u3, ?_⟩, ?_, ?_, ?_⟩, fun c hcm => ?_⟩
    · exact (sb.2 _ S.TIz).trans (hk _ _ S.TIz S.TITO S.TIi1 S.TIi2 S.TIi3 hTI)
    · exact (sb.2 _ S.TOz).trans TO'
    · exact Sc.keep (p := p) (b1 _ _ t1) fun o e => (sb.2 _ (Ne.symm S.zi1)).trans e
    · exact Sc.keep (p := q) (b2 _ _ t2) fun o e => (sb.2 _ (Ne.symm zi2)).trans e
    · exact Sc.keep (p := r) (b3 _ _ t3) fun o e => (sb.2 _ (Ne.symm zi3)).trans e
    · have hlt : c < s.heap.objs.size := by
        simp only [List.mem_cons, List.not_mem_nil, or_false] at hcm
        rcases hcm with rfl | rfl | rfl | rfl | rfl | rfl
        · exact hzl
        · exact Heap.lt_size hTI
        · exact Heap.lt_size hTO
        · obtain ⟨o, e, _⟩ := Sc.obj (p := p) h1; exact Heap.lt_size e
        · obtain ⟨o, e, _⟩ := Sc.obj (p := q) h2; exact Heap.lt_size e
        · obtain ⟨o, e, _⟩ := Sc.obj (p := r) h3; exact Heap.lt_size e
      rw [upd_ne (Nat.ne_of_lt hlt)]
      exact (hf c hcm).1
  done := by
    intro X hP hw hK hc i pins s σ H E I hf st hg
    subst hP hw hK
    obtain ⟨hz, hTI, ⟨x0, y0, u0, hTO⟩, h1, h2, h3⟩ := st
    obtain ⟨xs, ys, zs, hp, hq, hr, hend⟩ := hg
    have S := D.sep
    have n1 : i1 ∉ p.adr := fun z => D.ds i1 (by simp) (List.mem_append_left _ z)
    have n2 : i2 ∉ q.adr := fun z => D.ds i2 (by simp) (List.mem_append_right _ (List.mem_append_left _ z))
    have n3 : i3 ∉ r.adr := fun z => D.ds i3 (by simp) (List.mem_append_right _ (List.mem_append_right _ z))
    obtain ⟨P1, St1, D1, s1, b1, v1⟩ := Sc.draws I hc hp h1 n1
    obtain ⟨P2, St2, D2, s2, b2, v2⟩ := Sc.draws I hc hq h2 n2
    obtain ⟨P3, St3, D3, s3, b3, v3⟩ := Sc.draws I hc hr h3 n3
    refine wpAny_pyNext_zipD3_end S D1 D2 D3 hz hTI hTO s1 s2 s3 (by omega) (by omega) (by omega) (by omega) fun h' tk hk => ⟨rfl, I.turnedL (t' := tk) (ch := [z, TI, TO, i1, i2, i3]) (fun c o hb e =>
      hk c o (fun q' => hb (by simp [q'])) (fun q' => hb (by simp [q'])) (fun q' => hb (by simp [q'])) (fun q' => hb (by simp [q'])) (fun q' => hb (by simp [q'])) e) hf⟩
  self := fun A i s Q E st h => wpAny_pyIter_zip st.1 h
def iZip3 (K : Frag) (ta : TA) : TI := fun σ H R => ta σ H fun vs H1 => ∃ v w u p q r xs ys zs, vs = [v, w, u] ∧ Sc.is v p ∧ Sc.is w q ∧ Sc.is u r ∧ p.has K H1 xs ∧ q.has K H1 ys ∧ r.has K H1 zs ∧ R (Itz3 K p q r) H1
theorem pi_zip3 {X : Cx} {e e2 e3 : Expr} {ta : TA} {p pos tpos : Pos} {elts : List Expr} {kk : Nat} (hg : Gl X "zip") (hm : X.mg "zip" = none) (ha : PA X [e, e2, e3] ta)
    (hs : starEach [e, e2, e3] X.env = (false, eval e X.env) :: starEach [e2, e3] X.env := by rfl) (hpl : (backTo pos (starEach [e2, e3] X.env)).any (·.1) = false := by rfl) :
    PI X (.Tuple elts kk tpos) (.Call (.Name "zip" p) [e, e2, e3] [] pos) (iZip3 X.K ta) := by
  refine ⟨fun pins s σ H R I h => ?_⟩
  refine Call_ (ld_blt I hg hm PyProof.Rows.boot_zip (PyProof.Rows.callWith_type1 (thn (ha.run pos pins s σ H _ I h) fun us s1 ⟨vs, H1, I1, r1, q1⟩ => ?_) hs hpl))
  obtain ⟨v, w', u', a, b, d, xs, ys, zs, ex, hv, hw, hu, h1, h2, h3, q1⟩ := q1
  subst ex
  cases r1 with
  | cons r rr =>
    cases rr with
    | cons r' rr =>
      cases rr with
      | cons r'' rr =>
        cases rr
        obtain ⟨o1, H1', B1, g1, t1, ad1⟩ := Sc.begins I1 h1 r hv
        obtain ⟨o2, H2', B2, g2, t2, ad2⟩ := Sc.begins I1 h2 r' hw
        obtain ⟨o3, H3', B3, g3, t3, ad3⟩ := Sc.begins I1 h3 r'' hu
        refine zip_begins3 B1 B2 B3 g1 g2 g3 fun h' hz hTI hTO k1 k2 k3 hsz hk => wpAny_pyIter_zip hz ?_
        have I2 : Inv X pins σ H1 { s1 with heap := h' } := I1.kept (t' := s1.toks) hk
        have new : ∀ c ∈ [s1.heap.objs.size + 5, s1.heap.objs.size + 3, s1.heap.objs.size + 4, s1.heap.objs.size, s1.heap.objs.size + 1, s1.heap.objs.size + 2], s1.heap.objs.size ≤ c := fun c hc => by
          simp only [List.mem_cons, List.not_mem_nil, or_false] at hc
          rcases hc with rfl | rfl | rfl | rfl | rfl | rfl
          · exact Nat.le_add_right _ _
          · exact Nat.le_add_right _ _
          · exact Nat.le_add_right _ _
          · exact Nat.le_refl _
          · exact Nat.le_add_right _ _
          · exact Nat.le_add_right _ _
        have D : Apt3 (s1.heap.objs.size + 5) (s1.heap.objs.size + 3) (s1.heap.objs.size + 4) s1.heap.objs.size (s1.heap.objs.size + 1) (s1.heap.objs.size + 2) (a.adr ++ (b.adr ++ d.adr)) := by
          refine ⟨?_, fun c hc hd => ?_⟩
          · generalize s1.heap.objs.size = n
            simp
          · have hn := new c hc
            rcases List.mem_append.mp hd with z | z
            · exact absurd (ad1 c z) (Nat.not_lt.mpr hn)
            · rcases List.mem_append.mp z with z | z
              · exact absurd (ad2 c z) (Nat.not_lt.mpr hn)
              · exact absurd (ad3 c z) (Nat.not_lt.mpr hn)
        exact ⟨s1.heap.objs.size + 5, [s1.heap.objs.size + 5, s1.heap.objs.size + 3, s1.heap.objs.size + 4, s1.heap.objs.size, s1.heap.objs.size + 1, s1.heap.objs.size + 2], _, _, H1, rfl, I2, turn_zip3 D, ⟨hz, hTI, ⟨_, _, _, hTO⟩, t1 _ _ k1, t2 _ _ k2, t3 _ _ k3⟩, fun c hc => I1.fpOk (new c hc) (I1.hok.fresh (new c hc)), q1⟩
end Snd
namespace Snd
open PySem PySem.Spec PyProof.Rows L2 RZ
/-! ### what is walked -/
/-- the turns of J yield these items as long as the store is as chk says -/
def Mat (K : Frag) (S : M.Sto) (H : Hp) (J : It) (items : List M.D) (chk : M.Sto → Prop) : Prop :=
  ∀ i S2 H2, Fr S H S2 H2 → RelS K H2 S2 → chk S2 → (∀ d, items[i]? = some d → J.go i H2 ∧ ∀ x H3, J.yld i H2 x H3 → Fr S2 H2 S2 H3 ∧ RelS K H3 S2 ∧ RelD K H3 d x) ∧ (i = items.length → J.stop i H2)
def OkI (K : Frag) (S : M.Sto) (H : Hp) (Rd : M.IK) (R : It → Hp → Prop) : Prop := ∀ items chk S' H' J, Fr S H S' H' → RelS K H' S' → Mat K S' H' J items chk → Rd items chk S' → R J H'
theorem OkI.after {K : Frag} {S S' : M.Sto} {H H' : Hp} {Rd : M.IK} {R : It → Hp → Prop} (h : OkI K S H Rd R) (f : Fr S H S' H') : OkI K S' H' Rd R := fun items chk S2 H2 J f2 r2 m q => h items chk S2 H2 J (f.trans f2) r2 m q
theorem OkI.here {K : Frag} {S : M.Sto} {H : Hp} {Rd : M.IK} {R : It → Hp → Prop} (h : OkI K S H Rd R) (r : RelS K H S) {J : It} {items : List M.D} {chk : M.Sto → Prop} (m : Mat K S H J items chk) (q : Rd items chk S) : R J H := h _ _ _ _ _ Fr.refl r m q
def tIt (c : Cn) (W : WX) (it : M.It) : TI := fun σ H R => ∃ ρ S Rd Xd, ρ.length = σ.length ∧ RelE c.K H ρ σ ∧ RelS c.K H S ∧ M.wpIt c.G it ρ S Rd Xd ∧ OkI c.K S H Rd R ∧ OkX c S H Xd fun cls d H' => W cls d σ H'
theorem get_lt {α : Type} {xs : List α} {i : Nat} {d : α} (h : xs[i]? = some d) : i < xs.length := (List.getElem?_eq_some_iff.mp h).1
/-- what lsOf tells stays told -/
theorem ls_at {K : Frag} {H H2 : Hp} {S S2 : M.Sto} (r : RelS K H S) (f : Fr S H S2 H2) (r2 : RelS K H2 S2) {d : M.D} {a : Addr} {xs : List M.D} (rd : RelD K H d (.ref a)) (e : M.lsOf S2 d = some xs) : ∃ vs, SqL K H2 a vs ∧ RelDs K H2 xs vs := by
  obtain ⟨b, vs, eb, h1, h2⟩ := lsOf_rel r2 (rd.mono r f) e
  cases eb
  exact ⟨vs, h1, h2⟩
theorem mat_list {K : Frag} {H : Hp} {S : M.Sto} (r : RelS K H S) {d : M.D} {a : Addr} {xs : List M.D} (rd : RelD K H d (.ref a)) : Mat K S H (Itl K a) xs fun S' => M.lsOf S' d = some xs := by
  intro i S2 H2 f r2 ch
  obtain ⟨vs, h1, h2⟩ := ls_at r f r2 rd ch
  refine ⟨fun y hy => ?_, fun hl0 => have hl := Nat.le_of_eq hl0.symm; ⟨vs, h1, by rw [← h2.length]; exact hl⟩⟩
  obtain ⟨v, e, rv⟩ := h2.get hy
  refine ⟨⟨vs, v, h1, e⟩, fun x H3 q => ?_⟩
  obtain ⟨e3, q⟩ := q
  subst e3
  have e4 := q vs h1
  rw [e] at e4
  cases e4
  exact ⟨Fr.refl, r2, rv⟩
theorem mat_tup {K : Frag} {H : Hp} {S : M.Sto} (r : RelS K H S) {a : Addr} {xs : List M.D} {vs : List V} (h1 : SqT K H a vs) (h2 : RelDs K H xs vs) : Mat K S H (Itt K a) xs fun _ => True := by
  intro i S2 H2 f r2 ch
  have h1 := sqt_mono r f h1
  have h2 := h2.mono r f
  refine ⟨fun y hy => ?_, fun hl0 => have hl := Nat.le_of_eq hl0.symm; ⟨vs, h1, by rw [← h2.length]; exact hl⟩⟩
  obtain ⟨v, e, rv⟩ := h2.get hy
  refine ⟨⟨vs, v, h1, e⟩, fun x H3 q => ?_⟩
  obtain ⟨e3, q⟩ := q
  subst e3
  have e4 := q vs h1
  rw [e] at e4
  cases e4
  exact ⟨Fr.refl, r2, rv⟩
theorem mat_str {K : Frag} {H : Hp} {S : M.Sto} {a : M.Tx} : Mat K S H (Its (stx a)) (a.map fun c => .str [c]) fun _ => True := by
  intro i S2 H2 f r2 ch
  have hs : (stx a).cps.size = a.length := by unfold stx; simp
  refine ⟨fun y hy => ?_, fun hl0 => have hl := Nat.le_of_eq hl0.symm; ?_⟩
  · rw [List.getElem?_map] at hy
    obtain ⟨c, e, ey⟩ := Option.map_eq_some_iff.mp hy
    subst ey
    refine ⟨by show i < (stx a).cps.size; rw [hs]; exact get_lt e, fun x H3 q => ?_⟩
    obtain ⟨e3, c', e4, ex⟩ := q
    subst e3 ex
    have e5 : (stx a).cps[i]? = a[i]? := by unfold stx; simp
    rw [e5, e] at e4
    cases e4
    exact ⟨Fr.refl, r2, .str [c]⟩
  · show (stx a).cps.size ≤ i
    rw [hs]
    simpa using hl
theorem mat_rng {K : Frag} {H : Hp} {S : M.Sto} {lo : Int} {n : Nat} : Mat K S H (Itr lo n) ((List.range n).map fun i => .int (lo + (i : Nat))) fun _ => True := by
  intro i S2 H2 f r2 ch
  refine ⟨fun y hy => ?_, fun hl0 => have hl := Nat.le_of_eq hl0.symm; by show n ≤ i; simpa using hl⟩
  have hl := get_lt hy
  rw [List.length_map, List.length_range] at hl
  rw [List.getElem?_map, List.getElem?_range hl] at hy
  cases hy
  refine ⟨hl, fun x H3 q => ?_⟩
  obtain ⟨e3, ex⟩ := q
  subst e3 ex
  exact ⟨Fr.refl, r2, .int _⟩
theorem enumL_get : ∀ {xs : List M.D} {n i : Nat} {y : M.D}, (M.enumL n xs)[i]? = some y → ∃ d, xs[i]? = some d ∧ y = .tup [.int ((n + i : Nat) : Int), d]
  | [], _, _, _, h => by simp [M.enumL] at h
  | d :: ds, n, 0, y, h => by simp [M.enumL] at h; exact ⟨d, rfl, by simpa using h.symm⟩
  | d :: ds, n, i + 1, y, h => by
    obtain ⟨d', e1, e2⟩ := enumL_get (xs := ds) (n := n + 1) (i := i) (y := y) (by simpa [M.enumL] using h)
    exact ⟨d', by simpa using e1, by rw [e2]; congr 3; omega⟩
theorem enumL_len : ∀ (xs : List M.D) (n : Nat), (M.enumL n xs).length = xs.length
  | [], _ => rfl
  | _ :: ds, n => by simp [M.enumL, enumL_len ds (n + 1)]
theorem pair_new {K : Frag} {H : Hp} {S : M.Sto} {T : Addr} {x y : V} {d e : M.D} (r : RelS K H S) (hT : H T = none) (rx : RelD K H d x) (ry : RelD K H e y) :
    Fr S H S (L2.upd H T (.tup [x, y])) ∧ RelS K (L2.upd H T (.tup [x, y])) S ∧ RelD K (L2.upd H T (.tup [x, y])) (.tup [d, e]) (.ref T) := by
  have f : Fr S H S (L2.upd H T (.tup [x, y])) := Fr.laid hT
  exact ⟨f, r.laid hT, .tup (SqT.of upd_same) (.cons (rx.mono r f) (.cons (ry.mono r f) .nil))⟩
theorem mat_enum {K : Frag} {H : Hp} {S : M.Sto} (r : RelS K H S) {d : M.D} {a : Addr} {xs : List M.D} (rd : RelD K H d (.ref a)) : Mat K S H (Ite K a) (M.enumL 0 xs) fun S' => M.lsOf S' d = some xs := by
  intro i S2 H2 f r2 ch
  obtain ⟨vs, h1, h2⟩ := ls_at r f r2 rd ch
  refine ⟨fun y hy => ?_, fun hl0 => have hl := Nat.le_of_eq hl0.symm; ⟨vs, h1, by rw [← h2.length]; rwa [enumL_len] at hl⟩⟩
  obtain ⟨d', e1, ey⟩ := enumL_get hy
  subst ey
  obtain ⟨v, e, rv⟩ := h2.get e1
  refine ⟨⟨vs, v, h1, e⟩, fun x H3 q => ?_⟩
  obtain ⟨T, z, ex, hT, e3, q⟩ := q
  subst ex e3
  have e4 := q vs h1
  rw [e] at e4
  cases e4
  rw [Nat.zero_add]
  exact pair_new r2 hT (.int _) rv
theorem zipP_get {xs ys : List M.D} {i : Nat} {y : M.D} (h : (M.zipP xs ys)[i]? = some y) : ∃ d e, xs[i]? = some d ∧ ys[i]? = some e ∧ y = .tup [d, e] := by
  unfold M.zipP at h
  rw [List.getElem?_map] at h
  obtain ⟨⟨d, e⟩, hz, hy⟩ := Option.map_eq_some_iff.mp h
  obtain ⟨h1, h2⟩ := List.getElem?_zip_eq_some.mp hz
  exact ⟨d, e, h1, h2, hy.symm⟩
theorem zipP_len (xs ys : List M.D) : (M.zipP xs ys).length = min xs.length ys.length := by unfold M.zipP; simp
theorem mat_zipM {K : Frag} {H : Hp} {S : M.Sto} {p q : Sc} {xs ys : List M.D} {chk : M.Sto → Prop} (hp : ∀ S2 H2, Fr S H S2 H2 → RelS K H2 S2 → chk S2 → ∃ vs, p.has K H2 vs ∧ RelDs K H2 xs vs) (hq : ∀ S2 H2, Fr S H S2 H2 → RelS K H2 S2 → chk S2 → ∃ vs, q.has K H2 vs ∧ RelDs K H2 ys vs) :
    Mat K S H (ItzM K p q) (M.zipP xs ys) chk := by
  intro i S2 H2 f r2 ch
  obtain ⟨vs, h1, h2⟩ := hp S2 H2 f r2 ch
  obtain ⟨us, g1, g2⟩ := hq S2 H2 f r2 ch
  refine ⟨fun y hy => ?_, fun hl => ⟨vs, us, h1, g1, by rw [zipP_len, h2.length, g2.length] at hl; exact hl⟩⟩
  obtain ⟨d', e', e1, e2, ey⟩ := zipP_get hy
  subst ey
  obtain ⟨v, ev, rv⟩ := h2.get e1
  obtain ⟨u, eu, ru⟩ := g2.get e2
  refine ⟨⟨vs, us, v, u, h1, g1, ev, eu⟩, fun x H3 q' => ?_⟩
  obtain ⟨T, z, z', ex, hT, e3, w1, w2⟩ := q'
  subst ex e3
  have e4 := w1 vs h1
  rw [ev] at e4
  cases e4
  have e4 := w2 us g1
  rw [eu] at e4
  cases e4
  exact pair_new r2 hT rv ru
theorem zipP3_get {xs ys zs : List M.D} {i : Nat} {y : M.D} (h : (M.zipP3 xs ys zs)[i]? = some y) : ∃ d e f, xs[i]? = some d ∧ ys[i]? = some e ∧ zs[i]? = some f ∧ y = .tup [d, e, f] := by
  unfold M.zipP3 at h
  rw [List.getElem?_map] at h
  cases hz : (xs.zip (ys.zip zs))[i]? with
  | none => rw [hz] at h; cases h
  | some q =>
    rw [hz] at h
    injection h with h
    obtain ⟨h1, h2⟩ := List.getElem?_zip_eq_some.mp hz
    obtain ⟨h3, h4⟩ := List.getElem?_zip_eq_some.mp h2
    exact ⟨_, _, _, h1, h3, h4, h.symm⟩
theorem zipP3_len (xs ys zs : List M.D) : (M.zipP3 xs ys zs).length = min (min xs.length ys.length) zs.length := by unfold M.zipP3; simp [Nat.min_assoc]
theorem triple_new {K : Frag} {H : Hp} {S : M.Sto} {T : Addr} {x y z : V} {d e f : M.D} (r : RelS K H S) (hT : H T = none) (rx : RelD K H d x) (ry : RelD K H e y) (rz : RelD K H f z) :
    Fr S H S (L2.upd H T (.tup [x, y, z])) ∧ RelS K (L2.upd H T (.tup [x, y, z])) S ∧ RelD K (L2.upd H T (.tup [x, y, z])) (.tup [d, e, f]) (.ref T) := by
  have g : Fr S H S (L2.upd H T (.tup [x, y, z])) := Fr.laid hT
  exact ⟨g, r.laid hT, .tup (SqT.of upd_same) (.cons (rx.mono r g) (.cons (ry.mono r g) (.cons (rz.mono r g) .nil)))⟩
theorem mat_zip3 {K : Frag} {H : Hp} {S : M.Sto} {p q t : Sc} {xs ys zs : List M.D} {chk : M.Sto → Prop} (hp : ∀ S2 H2, Fr S H S2 H2 → RelS K H2 S2 → chk S2 → ∃ vs, p.has K H2 vs ∧ RelDs K H2 xs vs) (hq : ∀ S2 H2, Fr S H S2 H2 → RelS K H2 S2 → chk S2 → ∃ vs, q.has K H2 vs ∧ RelDs K H2 ys vs) (ht : ∀ S2 H2, Fr S H S2 H2 → RelS K H2 S2 → chk S2 → ∃ vs, t.has K H2 vs ∧ RelDs K H2 zs vs) :
    Mat K S H (Itz3 K p q t) (M.zipP3 xs ys zs) chk := by
  intro i S2 H2 f r2 ch
  obtain ⟨vs, h1, h2⟩ := hp S2 H2 f r2 ch
  obtain ⟨us, g1, g2⟩ := hq S2 H2 f r2 ch
  obtain ⟨ws, k1, k2⟩ := ht S2 H2 f r2 ch
  refine ⟨fun y hy => ?_, fun hl => ⟨vs, us, ws, h1, g1, k1, by rw [zipP3_len, h2.length, g2.length, k2.length] at hl; exact hl⟩⟩
  obtain ⟨d', e', f', e1, e2, e3, ey⟩ := zipP3_get hy
  subst ey
  obtain ⟨v, ev, rv⟩ := h2.get e1
  obtain ⟨u, eu, ru⟩ := g2.get e2
  obtain ⟨w, ew, rw'⟩ := k2.get e3
  refine ⟨⟨vs, us, ws, v, u, w, h1, g1, k1, ev, eu, ew⟩, fun x H3 q' => ?_⟩
  obtain ⟨T, z, z', z'', ex, hT, e3, w1, w2, w3⟩ := q'
  subst ex e3
  have e4 := w1 vs h1
  rw [ev] at e4
  cases e4
  have e4 := w2 us g1
  rw [eu] at e4
  cases e4
  have e4 := w3 ws k1
  rw [ew] at e4
  cases e4
  exact triple_new r2 hT rv ru rw'
theorem chrs_rel {K : Frag} {H : Hp} : ∀ a : M.Tx, RelDs K H (a.map fun c => .str [c]) (chrs (stx a))
  | [] => .nil
  | c :: r => .cons (.str [c]) (chrs_rel r)
/-! ### over a list, a tuple, a text -/
theorem PI.imp {X : Cx} {tg e : Expr} {t t' : TI} (h : PI X tg e t) (i : ∀ σ H R, t' σ H R → t σ H R) : PI X tg e t' := ⟨fun pins s σ H R I q => h.run pins s σ H R I (i σ H R q)⟩
def iSeq (K : Frag) (te : TE) : TI := fun σ H R => te σ H fun v H1 => (∃ a xs, v = .ref a ∧ SqL K H1 a xs ∧ R (Itl K a) H1) ∨ (∃ a xs, v = .ref a ∧ SqT K H1 a xs ∧ R (Itt K a) H1) ∨ ∃ x, v = .str x ∧ R (Its x) H1
theorem pi_seqM {X : Cx} {tg e : Expr} {te : TE} (he : PE X e te) : PI X tg e (iSeq X.K te) := by
  refine ⟨fun pins s σ H R I h => ?_⟩
  refine thn (he.run pins s σ H _ I h) fun v s1 ⟨y, H1, I1, r1, q⟩ => ?_
  rcases q with ⟨a, xs, ey, hq, q⟩ | ⟨a, xs, ey, hq, q⟩ | ⟨x, ey, q⟩
  · subst ey
    cases r1
    obtain ⟨its, rv, p, hz⟩ := I1.list hq
    exact wpAny_pyIter_list p.isList (pi_one (tk := s1.toks) I1 _ (turn_list a _) ⟨_, Heap.get?_push_size _ rfl, rfl, rfl⟩ q)
  · subst ey
    cases r1
    obtain ⟨its, rv, p, hz⟩ := I1.tuple hq
    exact wpAny_pyIter_tuple (show s1.heap.IsTuple a its.toArray from p) (pi_one (tk := s1.toks) I1 _ (turn_tuple a _) ⟨_, Heap.get?_push_size _ rfl, rfl, rfl⟩ q)
  · subst ey
    obtain ⟨t, rfl⟩ := r1
    cases ha : x.cps.all (· < 128)
    · exact wpAny_pyIter_wide ha (pi_one (tk := s1.toks) I1 _ (turn_str _ x t "str_iterator" (.inr rfl)) ⟨_, Heap.get?_push_size _ rfl, rfl, rfl⟩ q)
    · exact wpAny_pyIter_ascii ha (pi_one (tk := s1.toks) I1 _ (turn_str _ x t "str_ascii_iterator" (.inl rfl)) ⟨_, Heap.get?_push_size _ rfl, rfl, rfl⟩ q)
/-- the reading of what is walked, by value -/
theorem seq_rel {K : Frag} {H : Hp} {S : M.Sto} {d : M.D} {v : V} {Rd : M.IK} {R : It → Hp → Prop} (r : RelS K H S) (rd : RelD K H d v) (w : M.seqD d S Rd) (q : OkI K S H Rd R) :
    (∃ a xs, v = .ref a ∧ SqL K H a xs ∧ R (Itl K a) H) ∨ (∃ a xs, v = .ref a ∧ SqT K H a xs ∧ R (Itt K a) H) ∨ ∃ x, v = .str x ∧ R (Its x) H := by
  cases rd with
  | ref a =>
    obtain ⟨xs, e, w⟩ := opt_of (show M.opt (M.lstAt S a) (fun xs => Rd xs (fun S' => S' a = some (.lst xs)) S) from w)
    obtain ⟨vs, h1, h2⟩ := r.at e
    refine .inl ⟨a, vs, rfl, SqL.of h1, q.here r ?_ w⟩
    intro i S2 H2 f r2 ch
    exact mat_list r (.ref a) i S2 H2 f r2 (show M.lsOf S2 (.ref a) = some xs from lstAt_of ch)
  | fl h1 h2 => exact .inl ⟨_, _, rfl, h1.sq, q.here r (fun i S2 H2 f r2 _ => mat_list r (.fl h1 h2) i S2 H2 f r2 rfl) w⟩
  | tup h1 h2 => exact .inr (.inl ⟨_, _, rfl, h1, q.here r (mat_tup r h1 h2) w⟩)
  | str x => exact .inr (.inr ⟨_, rfl, q.here r mat_str w⟩)
  | non => exact False.elim w
  | bl b => exact False.elim w
  | int i => exact False.elim w
  | xn _ => exact False.elim w
  | xf _ _ _ _ => exact False.elim w
end Snd
namespace Snd
open PySem PySem.Spec PyProof.Rows L2
/-! ### from the checks -/
theorem and2 {a b : Bool} (h : (a && b) = true) : a = true ∧ b = true := Bool.and_eq_true_iff.mp h
theorem not1 {a : Bool} (h : (!a) = true) : a = false := by cases a <;> first | rfl | cases h
theorem vis_of {sc : Scope} {x : Str} (h : visB sc x = true) : Vis sc x := by
  unfold visB at h
  split at h <;> first | exact .inl (by assumption) | exact .inr (.inl (by assumption)) | exact .inr (.inr (by assumption)) | cases h
theorem gl_of {X : Cx} {sc : Scope} {x : Str} (hs : X.env.scope = sc) (h : glB sc x = true) : Gl X x := by
  unfold glB at h
  subst hs
  split at h <;> first | assumption | cases h
theorem loc_of {sc : Scope} {x : Str} (h : locB sc x = true) : sc.names.lookup x = some .local := by
  unfold locB at h
  split at h <;> first | assumption | cases h
theorem tgB_of {scope sc : Scope} {x : Str} (h : tgB scope sc x = true) : Loc (relS scope sc) x ∧ ((scope.names.lookup x == some NameKind.cell) = true ∨ (relS scope sc).names.lookup x = some .local) := by
  rcases Bool.or_eq_true_iff.mp h with h | h
  · exact ⟨.inl (loc_of h), .inr (loc_of h)⟩
  · have e : scope.names.lookup x = some .cell := eq_of_beq h
    exact ⟨.inr (lookup_relS_keep (by decide) e), .inl h⟩
theorem locC_of {sc : Scope} {x : Str} (h : locCB sc x = true) : Loc sc x := by
  unfold locCB at h
  split at h <;> first | exact .inl (by assumption) | exact .inr (by assumption) | cases h
theorem dbg_of {x : Str} (h : (!dbgB x) = true) : (x == ("__debug__" : Str)) = false ∧ (x == ("__classdict__" : Str)) = false := by
  have h := not1 h
  unfold dbgB at h
  exact Bool.or_eq_false_iff.mp h
theorem plB_star {e : Expr} {es : List Expr} {env : Env} (h : plB e = true) : starEach (e :: es) env = (false, eval e env) :: starEach es env := by
  cases e <;> first | rfl | cases h
theorem plB_all {pos : Pos} {env : Env} : ∀ {es : List Expr}, es.all plB = true → (backTo pos (starEach es env)).any (·.1) = false
  | [], _ => rfl
  | e :: es, h => by
    have h := and2 (show (plB e && es.all plB) = true from h)
    rw [plB_star h.1]
    show (false || (backTo pos (starEach es env)).any (·.1)) = false
    rw [plB_all h.2]
    rfl
theorem plB_few {pos : Pos} {env : Env} : ∀ {es : List Expr}, es.all plB = true → (backTo pos (starEach es env)).all (fun x => !x.1) = true
  | [], _ => rfl
  | e :: es, h => by
    have h := and2 (show (plB e && es.all plB) = true from h)
    rw [plB_star h.1]
    show (true && (backTo pos (starEach es env)).all (fun x => !x.1)) = true
    rw [plB_few h.2]
    rfl
theorem plB_ix {e : Expr} (h : plB e = true) : PlainIx e := by
  cases e <;> first | (intro _ _; rfl) | cases h
theorem bare_of {e : Expr} {nm : Str} {env : Env} (h : bareB e = true) : attributeBase e nm env (eval e env) = eval e env := by
  cases e <;> first | rfl | cases h | (rename_i f _ _ _; cases f <;> first | rfl | cases h)
theorem folded_of {e : Expr} {env : Env} (h : noSet e = true) : ∀ x, foldedSetIterable e env x = pure x := by
  cases e <;> first | (intro _; rfl) | cases h
theorem name_of {N : List Str} {ok : Str → Bool} {i : Nat} {e : Expr} (h : nameAt N ok i e = true) : ∃ x p, e = .Name x p ∧ N[i]? = some x ∧ ok x = true ∧ (x == ("__debug__" : Str)) = false ∧ (x == ("__classdict__" : Str)) = false := by
  unfold nameAt at h
  split at h
  · rename_i x p
    obtain ⟨h, h3⟩ := and2 h
    obtain ⟨h1, h2⟩ := and2 h
    exact ⟨x, p, rfl, of_decide_eq_true h1, h2, dbg_of h3⟩
  · cases h
theorem biCall_of {T : Tb} {sc : Scope} {nm : Str} {ok : List Expr → Bool} {e : Expr} (h : biCall T sc nm ok e = true) :
    ∃ p es pos, e = .Call (.Name nm p) es [] pos ∧ nm ∈ T.bts ∧ glB sc nm = true ∧ (nm == ("__debug__" : Str)) = false ∧ ok es = true := by
  unfold biCall at h
  split at h
  · rename_i x p es ks pos
    obtain ⟨h, h6⟩ := and2 h
    obtain ⟨h, h5⟩ := and2 h
    obtain ⟨h, h4⟩ := and2 h
    obtain ⟨h, h3⟩ := and2 h
    obtain ⟨h1, h2⟩ := and2 h
    have e1 : x = nm := of_decide_eq_true h1
    subst e1
    have e5 : ks = [] := by cases ks with | nil => rfl | cons => cases h5
    subst e5
    exact ⟨p, es, pos, rfl, of_decide_eq_true h2, h3, (dbg_of h4).1, h6⟩
  · cases h
theorem one_of {p : Expr → Bool} {es : List Expr} (h : one p es = true) : ∃ e, es = [e] ∧ plB e = true ∧ p e = true := by
  unfold one at h
  split at h
  · exact ⟨_, rfl, and2 h⟩
  · cases h
theorem two_of {p q : Expr → Bool} {es : List Expr} (h : two p q es = true) : ∃ e d, es = [e, d] ∧ plB e = true ∧ plB d = true ∧ p e = true ∧ q d = true := by
  unfold two at h
  split at h
  · obtain ⟨h, h4⟩ := and2 h
    obtain ⟨h, h3⟩ := and2 h
    obtain ⟨h1, h2⟩ := and2 h
    exact ⟨_, _, rfl, h1, h2, h3, h4⟩
  · cases h
theorem three_of {p q r : Expr → Bool} {es : List Expr} (h : three p q r es = true) : ∃ e d f, es = [e, d, f] ∧ plB e = true ∧ plB d = true ∧ plB f = true ∧ p e = true ∧ q d = true ∧ r f = true := by
  unfold three at h
  split at h
  · obtain ⟨h, h6⟩ := and2 h
    obtain ⟨h, h5⟩ := and2 h
    obtain ⟨h, h4⟩ := and2 h
    obtain ⟨h, h3⟩ := and2 h
    obtain ⟨h1, h2⟩ := and2 h
    exact ⟨_, _, _, rfl, h1, h2, h3, h4, h5, h6⟩
  · cases h
/-! ### readings -/
section
variable {c : Cn} {W : WX} {σ : Sl} {H : Hp} {Q : VK}
/-- two values in a row -/
theorem two_rel {a b : M.Ex} {ρ : M.Env} {S : M.Sto} {Xd : M.XK} {f : M.D → M.D → M.Sto → Prop} {R : V → V → Hp → Prop} (hl : ρ.length = σ.length) (re : RelE c.K H ρ σ) (r : RelS c.K H S)
    (w : M.wpE c.G a ρ S (fun x S1 => M.wpE c.G b ρ S1 (fun y S2 => f x y S2) Xd) Xd) (hx : OkX c S H Xd fun cls d H' => W cls d σ H')
    (k : ∀ x y S2 v u H2, Fr S H S2 H2 → RelS c.K H2 S2 → RelD c.K H2 x v → RelD c.K H2 y u → f x y S2 → R v u H2) : tE c W a σ H fun v H1 => tE c W b σ H1 fun u H2 => R v u H2 :=
  ⟨ρ, S, _, Xd, hl, re, r, w, fun x S1 v H1 f1 r1 rx q1 => ⟨ρ, S1, _, Xd, hl, re.mono r f1, r1, q1, fun y S2 u H2 f2 r2 ry q2 => k x y S2 v u H2 (f1.trans f2) r2 (rx.mono r1 f2) ry q2, hx.after f1⟩, hx⟩
theorem three_rel {a b d : M.Ex} {ρ : M.Env} {S : M.Sto} {Xd : M.XK} {f : M.D → M.D → M.D → M.Sto → Prop} {R : V → V → V → Hp → Prop} (hl : ρ.length = σ.length) (re : RelE c.K H ρ σ) (r : RelS c.K H S)
    (w : M.wpE c.G a ρ S (fun x S1 => M.wpE c.G b ρ S1 (fun y S2 => M.wpE c.G d ρ S2 (fun z S3 => f x y z S3) Xd) Xd) Xd) (hx : OkX c S H Xd fun cls d H' => W cls d σ H')
    (k : ∀ x y z S2 v u t H2, Fr S H S2 H2 → RelS c.K H2 S2 → RelD c.K H2 x v → RelD c.K H2 y u → RelD c.K H2 z t → f x y z S2 → R v u t H2) : tE c W a σ H fun v H1 => tE c W b σ H1 fun u H2 => tE c W d σ H2 fun t H3 => R v u t H3 :=
  ⟨ρ, S, _, Xd, hl, re, r, w, fun x S1 v H1 f1 r1 rx q1 => ⟨ρ, S1, _, Xd, hl, re.mono r f1, r1, q1, fun y S2 u H2 f2 r2 ry q2 => ⟨ρ, S2, _, Xd, hl, re.mono r (f1.trans f2), r2, q2, fun z S3 t H3 f3 r3 rz q3 => k x y z S3 v u t H3 ((f1.trans f2).trans f3) r3 (rx.mono r1 (f2.trans f3)) (ry.mono r2 f3) rz q3, (hx.after f1).after f2⟩, hx.after f1⟩, hx⟩
theorem one_rel {a : M.Ex} {ρ : M.Env} {S : M.Sto} {Xd : M.XK} {f : M.D → M.Sto → Prop} {R : V → Hp → Prop} (hl : ρ.length = σ.length) (re : RelE c.K H ρ σ) (r : RelS c.K H S)
    (w : M.wpE c.G a ρ S f Xd) (hx : OkX c S H Xd fun cls d H' => W cls d σ H')
    (k : ∀ x S2 v H2, Fr S H S2 H2 → RelS c.K H2 S2 → RelD c.K H2 x v → f x S2 → R v H2) : tE c W a σ H R :=
  ⟨ρ, S, _, Xd, hl, re, r, w, fun x S1 v H1 f1 r1 rx q1 => k x S1 v H1 f1 r1 rx q1, hx⟩
theorem ones_rel {a : M.Es} {ρ : M.Env} {S : M.Sto} {Xd : M.XK} {f : List M.D → M.Sto → Prop} {R : List V → Hp → Prop} (hl : ρ.length = σ.length) (re : RelE c.K H ρ σ) (r : RelS c.K H S)
    (w : M.wpEs c.G a ρ S f Xd) (hx : OkX c S H Xd fun cls d H' => W cls d σ H')
    (k : ∀ x S2 v H2, Fr S H S2 H2 → RelS c.K H2 S2 → RelDs c.K H2 x v → f x S2 → R v H2) : tEs c W a σ H R :=
  ⟨ρ, S, _, Xd, hl, re, r, w, fun x S1 v H1 f1 r1 rx q1 => k x S1 v H1 f1 r1 rx q1, hx⟩
end
/-- a value's reading as a test -/
abbrev tB1 (t : TE) : TT := tB t
/-- the reading of what stands behind and, or -/
def tR (c : Cn) (W : WX) (f : M.Gm → M.Es → M.Env → M.Sto → M.VK → M.XK → Prop) (es : M.Es) : TE := fun σ H Q => ∃ ρ S Qd Xd, ρ.length = σ.length ∧ RelE c.K H ρ σ ∧ RelS c.K H S ∧ f c.G es ρ S Qd Xd ∧ OkV c.K S H Qd Q ∧ OkX c S H Xd fun cls d H' => W cls d σ H'
def tO (c : Cn) (W : WX) (o : M.Oe) : TO := fun σ H Q => ∃ ρ S Qd Xd, ρ.length = σ.length ∧ RelE c.K H ρ σ ∧ RelS c.K H S ∧ M.wpO c.G o ρ S Qd Xd ∧ (∀ i S' H', Fr S H S' H' → RelS c.K H' S' → Qd i S' → Q i H') ∧ OkX c S H Xd fun cls d H' => W cls d σ H'
/-- a clause's test in a block: nothing may leave it -/
def tCn (c : Cn) (o : M.Oe) : TT := fun σ H Q => ∃ ρ S Qd, ρ.length = σ.length ∧ RelE c.K H ρ σ ∧ RelS c.K H S ∧ M.wpC c.G o ρ S Qd ∧ ∀ b S' H', Fr S H S' H' → RelS c.K H' S' → Qd b S' → Q b H'
def W0 : WX := fun _ _ _ _ => False
theorem okX0 {c : Cn} {S : M.Sto} {H : Hp} {W : Value → Option Addr → Hp → Prop} : OkX c S H M.X0 W := fun _ _ _ _ _ _ _ _ _ q => False.elim q
/-! ### the callee runs -/
theorem run_fnG {X : Cx} {hot : Bool} {k : Nat} {f : Addr} {fd : FuncData} {ps : List Str} {sp : L2.Sp} {E : Sl → XK} {pins : List (Addr × Obj)} {σ : Sl} {H : Hp} {s : Shared} {Q : VK} {args : Args} {us : List Value} {vs : List V} (F : FnG X.prog X.w X.K X.mg X.base hot k f fd ps sp) (hr : RoomB hot k X.A) (hg : X.A.guards = some []) (ht : hot = true → HotA X.A vs H)
    (hb : BindsTo s fd args (ps.zip us)) (hx : PassesAt (L2N.CX X.prog X.w) X σ (E σ)) (I : Inv X pins σ H s) (r : Vals vs us) (h : sp vs H Q (E σ)) : wpAny (model X.prog X.w) X.A (call (.ref f) args.pos args.kw) (EP X pins σ Q) X.xe s := by
  refine wpAny_call (codeAny_mono (F.run X.A X.stack s H args us vs Q (E σ) hr hg ht I.env0 hb r h) fun r s' hq => ?_)
  cases r with
  | error e => exact hx pins H s e s' I hq
  | ok fl =>
    cases fl with
    | ret u => exact I.after hq
    | next => exact False.elim hq
    | brk => exact False.elim hq
    | cont => exact False.elim hq
end Snd
namespace Snd
open PySem PySem.Spec PyProof.Rows L2
/-! ### targets -/
def gNames : List Nat → TGs
  | [] => gNil
  | i :: is => gCons (gName i) (gNames is)
def tgG (K : Frag) : M.Tg → TG
  | .v i => gName i
  | .tup is => fun v σ H Q => gTup K is.length (gNames is) v σ H Q ∨ gUnl K is.length (gNames is) v σ H Q
  | .nest is js => gTup K (js.length + 1) (gCons (gTup K is.length (gNames is)) (gNames js))
section
variable {X : Cx}
theorem pgsOk {ok : Str → Bool} (hN : X.N.Nodup) (hok : ∀ x, ok x = true → Loc X.env.scope x ∧ (X.fn x = true ∨ X.env.scope.names.lookup x = some .local)) : ∀ {is : List Nat} {es : List Expr}, namesAt X.N ok is es = true →
    PGs X es (gNames is) ∧ (assignEach es X.env).length = is.length ∧ (assignEach es X.env).findIdx? (·.1) = none
  | [], [], _ => ⟨pgs_nil, rfl, rfl⟩
  | [], _ :: _, h => nomatch h
  | _ :: _, [], h => nomatch h
  | i :: is, e :: es, h => by
    obtain ⟨h1, h2⟩ := and2 (show (nameAt X.N ok i e && namesAt X.N ok is es) = true from h)
    obtain ⟨x, p, rfl, a1, a2, _⟩ := name_of h1
    obtain ⟨b1, b2, b3⟩ := pgsOk hN hok h2
    obtain ⟨l1, l2⟩ := hok x a2
    refine ⟨pgs_cons (pg_name hN a1 l1 l2) b1, ?_, ?_⟩
    · show (assignEach es X.env).length + 1 = is.length + 1
      rw [b2]
    · show List.findIdx? (·.1) ((false, _) :: assignEach es X.env) = none
      rw [List.findIdx?_cons, b3]
      rfl
theorem pgOk {ok : Str → Bool} {t : M.Tg} (hc : (∀ i, t ≠ .v i) → X.calm = true) (hN : X.N.Nodup) (hok : ∀ x, ok x = true → Loc X.env.scope x ∧ (X.fn x = true ∨ X.env.scope.names.lookup x = some .local)) {e : Expr} (h : chkTg X.N ok t e = true) : PG X e (tgG X.K t) := by
  cases t with
  | v i =>
    obtain ⟨x, p, rfl, a1, a2, _⟩ := name_of (show nameAt X.N ok i e = true from h)
    obtain ⟨l1, l2⟩ := hok x a2
    exact pg_name hN a1 l1 l2
  | tup is =>
    have hc := hc (fun i => nofun)
    unfold chkTg at h
    split at h
    · rename_i heq
      cases heq
    · rename_i heq
      cases heq
      obtain ⟨b1, b2, b3⟩ := pgsOk hN hok h
      exact ⟨fun pins s σ H v u Q I r h => h.elim (fun h => (pg_tup hc b1 b2 b3).run pins s σ H v u Q I r h) fun h => (pg_unl hc b1 b2 b3).run pins s σ H v u Q I r h⟩
    · rename_i heq
      cases heq
    · cases h
  | nest is js =>
    have hc := hc (fun i => nofun)
    unfold chkTg at h
    split at h
    · rename_i heq
      cases heq
    · rename_i heq
      cases heq
    · rename_i heq
      cases heq
      obtain ⟨g1, g2⟩ := and2 h
      obtain ⟨b1, b2, b3⟩ := pgsOk hN hok g1
      obtain ⟨c1, c2, c3⟩ := pgsOk hN hok g2
      refine pg_tup hc (pgs_cons (pg_tup hc b1 b2 b3) c1) ?_ ?_
      · show (assignEach _ X.env).length + 1 = js.length + 1
        rw [c2]
      · show List.findIdx? (·.1) ((false, _) :: assignEach _ X.env) = none
        rw [List.findIdx?_cons, c3]
        rfl
    · cases h
end
theorem setAll_rel {K : Frag} {H : Hp} : ∀ {is : List Nat} {ds : List M.D} {vs : List V} {ρ : M.Env} {σ : Sl} {R : Sl → Hp → Prop}, ds.length = is.length → RelDs K H ds vs → ρ.length = σ.length → RelE K H ρ σ →
    (∀ σ', σ'.length = σ.length → RelE K H (M.setAll is ds ρ) σ' → (∀ i, i ∉ is → σ'[i]? = σ[i]?) → R σ' H) → gNames is vs σ H R
  | [], [], _, ρ, σ, R, _, .nil, hl, re, k => ⟨rfl, k σ rfl re fun _ _ => rfl⟩
  | [], _ :: _, _, _, _, _, h, _, _, _, _ => nomatch h
  | _ :: _, [], _, _, _, _, h, _, _, _, _ => nomatch h
  | i :: is, d :: ds, _, ρ, σ, R, h, .cons (v := v) a b, hl, re, k => by
    refine ⟨v, _, rfl, ?_⟩
    refine setAll_rel (ρ := ρ.set i (some d)) (Nat.succ.inj h) b (by rw [List.length_set, List.length_set, hl]) (re.set hl a i) fun σ' l r q => k σ' (by rw [l, List.length_set]) r fun j hj => ?_
    rw [q j fun z => hj (List.mem_cons_of_mem _ z), List.getElem?_set_ne (fun z => hj (by rw [z]; exact List.mem_cons_self))]
theorem asg_rel {K : Frag} {H : Hp} {S : M.Sto} (rS : RelS K H S) {t : M.Tg} {d : M.D} {v : V} {ρ : M.Env} {σ : Sl} {Qe : M.Env → Prop} {R : Sl → Hp → Prop} (hl : ρ.length = σ.length) (re : RelE K H ρ σ) (rd : RelD K H d v) (w : M.asg t d S ρ Qe)
    (k : ∀ ρ' σ', ρ'.length = σ'.length → σ'.length = σ.length → RelE K H ρ' σ' → (∀ i, i ∉ M.tgs t → σ'[i]? = σ[i]?) → Qe ρ' → R σ' H) : tgG K t v σ H R := by
  cases t with
  | v i =>
    refine k _ _ (by rw [List.length_set, List.length_set, hl]) (by rw [List.length_set]) (re.set hl rd i) (fun j hj => ?_) w
    rw [List.getElem?_set_ne fun z => hj (by rw [z]; exact List.mem_cons_self)]
  | tup is =>
    have hs : ∀ (is : List Nat) (ds : List M.D) (ρ : M.Env), (M.setAll is ds ρ).length = ρ.length := by
      intro is
      induction is with
      | nil => intro ds ρ; cases ds <;> rfl
      | cons i is ih => intro ds ρ; cases ds with
        | nil => rfl
        | cons d ds => show (M.setAll is ds (ρ.set i (some d))).length = _; rw [ih, List.length_set]
    have list : ∀ xs, M.lsOf S d = some xs → xs.length = is.length ∧ Qe (M.setAll is xs ρ) → gUnl K is.length (gNames is) v σ H R := by
      rintro xs e ⟨w1, w2⟩
      obtain ⟨a, vs, rfl, h1, h2⟩ := lsOf_rel rS rd e
      exact ⟨a, vs, rfl, h1, by rw [← h2.length]; exact w1, setAll_rel w1 h2 hl re fun σ' l r q => k _ σ' (by rw [hs, l, hl]) l r q w2⟩
    cases rd with
    | tup h1 h2 =>
      obtain ⟨w1, w2⟩ := w
      exact .inl ⟨_, _, rfl, h1, by rw [← h2.length]; exact w1, setAll_rel w1 h2 hl re fun σ' l r q => k _ σ' (by rw [hs, l, hl]) l r q w2⟩
    | fl h1 h2 => exact .inr (list _ rfl w)
    | ref a =>
      obtain ⟨xs, e, w⟩ := opt_of (show M.opt (M.lsOf S (.ref a)) (fun xs => xs.length = is.length ∧ Qe (M.setAll is xs ρ)) from w)
      exact .inr (list _ e w)
    | _ => exact False.elim w
  | nest is js =>
    have hs : ∀ (is : List Nat) (ds : List M.D) (ρ : M.Env), (M.setAll is ds ρ).length = ρ.length := by
      intro is
      induction is with
      | nil => intro ds ρ; cases ds <;> rfl
      | cons i is ih => intro ds ρ; cases ds with
        | nil => rfl
        | cons d ds => show (M.setAll is ds (ρ.set i (some d))).length = _; rw [ih, List.length_set]
    cases rd with
    | @tup a ds vs h1 h2 =>
      cases h2 with
      | nil => exact False.elim w
      | @cons d v ds vs r1 r2 =>
        cases r1 with
        | @tup b xs us h3 h4 =>
          obtain ⟨w1, w2, w3⟩ := w
          refine ⟨_, _, rfl, h1, by rw [List.length_cons, ← r2.length, w2], ?_⟩
          refine ⟨_, _, rfl, b, us, rfl, h3, by rw [← h4.length]; exact w1, ?_⟩
          refine setAll_rel w1 h4 hl re fun σ' l r q => ?_
          refine setAll_rel w2 r2 (by rw [hs, l, hl]) r fun σ2 l2 r2 q2 => ?_
          exact k _ σ2 (by rw [hs, hs, l2, l, hl]) (by rw [l2, l]) r2 (fun i hi => by
            rw [q2 i fun z => hi (List.mem_append_right _ z), q i fun z => hi (List.mem_append_left _ z)]) w3
        | _ => exact False.elim w
    | _ => exact False.elim w
/-! ### comprehensions -/
theorem wipe_same {σ σ' : Sl} {vs : List Nat} (hl : σ'.length = σ.length) (h : ∀ i, i ∉ vs → σ'[i]? = σ[i]?) : L2.wipe σ' vs = L2.wipe σ vs := by
  refine List.ext_getElem? fun i => ?_
  by_cases hi : i ∈ vs
  · have hlen : (L2.wipe σ' vs).length = (L2.wipe σ vs).length := by rw [wipe_length, wipe_length, hl]
    cases e1 : (L2.wipe σ' vs)[i]? with
    | none =>
      rw [List.getElem?_eq_none_iff] at e1
      exact (List.getElem?_eq_none_iff.mpr (by omega)).symm
    | some o1 =>
      have hlt := get_lt e1
      cases e2 : (L2.wipe σ vs)[i]? with
      | none => rw [List.getElem?_eq_none_iff] at e2; omega
      | some o2 =>
        cases o1 with
        | some x => exact absurd hi (wipe_some e1).2
        | none => cases o2 with
          | some x => exact absurd hi (wipe_some e2).2
          | none => rfl
  · rw [wipe_out hi, wipe_out hi, h i hi]
/-- a list that is tracked may stand in the store -/
theorem RelS.put {K : Frag} {H : Hp} {S : M.Sto} (r : RelS K H S) {D : Addr} {acc : List V} {ds : List M.D} (h : H D = some (.lst acc)) (hd : RelDs K H ds acc) : RelS K H (M.upd S D (.lst ds)) := fun a o e => by
  by_cases ha : a = D
  · subst ha
    rw [mupd_same] at e
    cases e
    exact ⟨acc, h, hd⟩
  · rw [mupd_ne ha] at e
    exact r a o e
theorem comp_rel {c : Cn} {J : It} {items : List M.D} {chk : M.Sto → Prop} {S1 : M.Sto} {H1 : Hp} {ρ : M.Env} {σ : Sl} {t : M.Tg} {e : M.Ex} {oc : M.Oe} {Qd : M.VK} {Q : VK} (hl : ρ.length = σ.length) (re : RelE c.K H1 ρ σ) (r1 : RelS c.K H1 S1)
    (m : Mat c.K S1 H1 J items chk) (hz : items.length ≤ M.lim) (hq : OkV c.K S1 H1 Qd Q)
    (w : M.compW chk (fun d S2 k => M.asg t d S2 (M.wipe ρ (M.tgs t)) fun ρ2 => M.wpC c.G oc ρ2 S2 (fun b S3 => M.br b (M.wpE c.G e ρ2 S3 (fun x S4 => k (some x) S4) M.X0) (k none S3))) Qd items [] S1) :
    ∀ D, H1 D = none → ∃ Wi : Nat → Nat → Hp → Prop, (∃ m, Wi 0 m (L2.upd H1 D (.lst []))) ∧ ∀ i m H, Wi i m H →
      (J.stop i H ∧ Q (.ref D) H) ∨ (J.go i H ∧ ∃ Nx : Hp → Prop, (∀ H', Nx H' → ∃ m', m' < m ∧ Wi (i + 1) m' H') ∧ ∀ x H', J.yld i H x H' → tgG c.K t x (L2.wipe σ (M.tgs t)) H' fun σ2 H2 => L2.wipe σ2 (M.tgs t) = L2.wipe σ (M.tgs t) ∧ tCn c oc σ2 H2 fun b H3 =>
        if b = true then tE c W0 e σ2 H3 fun y H4 => ∃ acc, H4 D = some (.lst acc) ∧ acc.length < sizeLine ∧ Nx (L2.upd H4 D (.lst (acc ++ [y]))) else Nx H3) := by
  intro D hD
  have hL : M.lim = sizeLine := lim_eq
  generalize hst : (fun (d : M.D) (S2 : M.Sto) (k : Option M.D → M.Sto → Prop) => M.asg t d S2 (M.wipe ρ (M.tgs t)) fun ρ2 => M.wpC c.G oc ρ2 S2 (fun b S3 => M.br b (M.wpE c.G e ρ2 S3 (fun x S4 => k (some x) S4) M.X0) (k none S3))) = step at w
  let Wi : Nat → Nat → Hp → Prop := fun i m H => m = items.length - i ∧ i ≤ items.length ∧ ∃ S ds acc, Fr S1 H1 S H ∧ RelS c.K H S ∧ S D = none ∧ H D = some (.lst acc) ∧ RelDs c.K H ds acc ∧ acc.length ≤ i ∧ M.compW chk step Qd (items.drop i) ds S
  have hS1D : S1 D = none := r1.none hD
  refine ⟨Wi, ⟨_, rfl, Nat.zero_le _, S1, [], [], Fr.laid hD, r1.laid hD, hS1D, upd_same, .nil, Nat.le_refl _, by simpa using w⟩, ?_⟩
  rintro i m' H ⟨rfl, hi, S, ds, acc, f, r, hSD, hHD, rds, hacc, w⟩
  have putFr : ∀ {S' : M.Sto} {H' : Hp} {ds' : List M.D}, Fr S1 H1 S' H' → Fr S1 H1 (M.upd S' D (.lst ds')) H' := fun {S' H' ds'} f' a o h n => by
    obtain ⟨h1, h2⟩ := f' a o h n
    refine ⟨h1, ?_⟩
    have : a ≠ D := fun z => by rw [z, hD] at h; cases h
    rw [mupd_ne this]; exact h2
  by_cases hlt : i < items.length
  · obtain ⟨d, hd⟩ : ∃ d, items[i]? = some d := ⟨items[i], by simp [hlt]⟩
    have ed : items.drop i = d :: items.drop (i + 1) := by
      rw [List.drop_eq_getElem_cons hlt]
      have : items[i] = d := by simpa [hlt] using hd
      rw [this]
    rw [ed] at w
    obtain ⟨hch, w⟩ := (show chk S ∧ step d S (fun r S' => M.compW chk step Qd (items.drop (i + 1)) (ds ++ r.toList) S') from w)
    obtain ⟨hgo, hy⟩ := (m i S H f r hch).1 d hd
    refine .inr ⟨hgo, Wi (i + 1) (items.length - (i + 1)), fun H' q => ⟨items.length - (i + 1), by omega, q⟩, fun x H' y => ?_⟩
    obtain ⟨f2, r2, rx⟩ := hy x H' y
    subst hst
    have f' := f.trans f2
    refine asg_rel r2 (by rw [wipe_len, wipe_length, hl]) ((re.mono r1 f').wipe (M.tgs t)) rx w fun ρ' σ' l1 l2 re' same w => ⟨?_, ?_⟩
    · have h1 : ∀ j, j ∉ M.tgs t → σ'[j]? = σ[j]? := fun j hj => by rw [same j hj, wipe_out hj]
      exact wipe_same (by rw [l2, wipe_length]) h1
    · refine ⟨ρ', S, _, l1, re', r2, w, fun b S3 H3 f3 r3 q => ?_⟩
      have f3' := f'.trans f3
      have hD3 : H3 D = some (.lst acc) ∧ S3 D = none := by
        obtain ⟨a1, a2⟩ := f2 D _ hHD hSD
        exact f3 D _ a1 a2
      have rds3 : RelDs c.K H3 ds acc := (rds.mono r f2).mono r2 f3
      obtain ⟨q1, q2⟩ := q
      cases b with
      | false =>
        show if false = true then _ else _
        rw [if_neg Bool.false_ne_true]
        exact ⟨rfl, hlt, S3, ds, acc, f3', r3, hD3.2, hD3.1, rds3, by omega, by simpa using q2 rfl⟩
      | true =>
        show if true = true then _ else _
        rw [if_pos rfl]
        refine ⟨ρ', S3, _, M.X0, l1, re'.mono r2 f3, r3, q1 rfl, fun dv S4 v H4 f4 r4 rv q => ?_, okX0⟩
        have f4' := f3'.trans f4
        obtain ⟨e4, n4⟩ := f4 D _ hD3.1 hD3.2
        have rds4 := rds3.mono r3 f4
        refine ⟨acc, e4, by omega, rfl, hlt, S4, ds ++ [dv], acc ++ [v], ?_, ?_, n4, upd_same, ?_, by rw [List.length_append]; simp only [List.length_cons, List.length_nil]; omega, by simpa using q⟩
        · intro a o h n
          obtain ⟨h1, h2⟩ := f4' a o h n
          have : a ≠ D := fun z => by rw [z, hD] at h; cases h
          exact ⟨by rw [upd_ne this]; exact h1, h2⟩
        · have rp := r4.put e4 rds4
          have fw : Fr (M.upd S4 D (.lst ds)) H4 (M.upd (M.upd S4 D (.lst ds)) D (.lst (ds ++ [dv]))) (L2.upd H4 D (.lst (acc ++ [v]))) := Fr.wr mupd_same
          intro a o h
          have : a ≠ D := fun z => by rw [z, n4] at h; cases h
          exact (rp.wr mupd_same (rds4.append (.cons rv .nil))) a o (by rw [mupd_ne this, mupd_ne this]; exact h)
        · have rp := r4.put e4 rds4
          have fw : Fr (M.upd S4 D (.lst ds)) H4 (M.upd (M.upd S4 D (.lst ds)) D (.lst (ds ++ [dv]))) (L2.upd H4 D (.lst (acc ++ [v]))) := Fr.wr mupd_same
          exact (rds4.append (.cons rv .nil)).mono rp fw
  · have e : i = items.length := by omega
    subst e
    rw [List.drop_length] at w
    obtain ⟨hch, w⟩ := (show chk S ∧ ∀ p, S p = none → Qd (.ref p) (M.upd S p (.lst ds)) from w)
    exact .inl ⟨(m _ S H f r hch).2 rfl, hq _ _ _ _ (putFr f) (r.put hHD rds) (.ref D) (w D hSD)⟩
end Snd
namespace Snd
open PySem PySem.Spec PyProof.Rows L2
/-! ### pieces over a context -/
section
variable {c : Cn} {k : Nat} {N : List Str} {sc : Scope} {X : Cx} {W : WX}
theorem Ok.op (o : Ok c k N sc X W) {b : M.Bo} {p : Operator} (h : boOk b p = true) : OpR X (binaryOp p) (rB c.K b) := by rw [← o.eK]; exact ob_all h
theorem Ok.co (o : Ok c k N sc X W) {b : M.Co} {p : CmpOp} (h : coOk b p = true) : OpR X (compareOp p) (rCm c.K b) := by rw [← o.eK]; exact oc_all o.room.units h
theorem Ok.ix (o : Ok c k N sc X W) : IxR X (rIxM c.K) := by rw [← o.eK]; exact ix_all
theorem Ok.sl (o : Ok c k N sc X W) : SlR X (rSlM c.K) := by rw [← o.eK]; exact sl_allM
theorem Ok.rep (o : Ok c k N sc X W) : CallR X (.builtin "repr") (rRep c.K) := by rw [← o.eK]; exact bi_rep o.gd o.room.units (by rw [o.eK]; exact o.sys)
theorem Ok.free (o : Ok c k N sc X W) {x : Str} (h : x ∈ c.T.bts) : X.mg x = none := by rw [o.em]; exact o.bt x h
theorem Ok.gl (o : Ok c k N sc X W) {x : Str} (h : glB sc x = true) : Gl X x := gl_of o.es h
theorem Ok.var (o : Ok c k N sc X W) {x : Str} {i : Nat} (h : N[i]? = some x) : X.N[i]? = some x := by rw [o.eN]; exact h
theorem fin {ex : Expr} {t : TE} (h : PE X ex t) (he : ∀ whole, isTrue ex X.env whole = (do let v ← whole; standAt ex.pos; holding [v] (truthy v)) := by intro _; rfl) : PE X ex t ∧ PT X ex (tB t) := ⟨h, pt_val h he⟩
theorem Ok.calm' (o : Ok c k N sc X W) (h : (!c.T.hot) = true) : X.calm = true := o.calm (not1 h)
theorem Ok.blk (o : Ok c k N sc X W) (s : Shared) (H : Hp) (scope : Scope) (C : Addr) (cl : List (Str × Addr)) (fp : List Addr) : Ok c k N (relS scope sc) (X.blk s H scope (compEnvC scope cl C X.env) fp) W0 where
  eN := o.eN
  es := by rw [← o.es]; rfl
  eK := o.eK
  em := o.em
  nd := o.nd
  calm := o.calm
  room := o.room
  roomX := o.roomX
  gd := o.gd
  rp := o.rp
  bt := o.bt
  con := o.con
  fns := o.fns
  hx := o.hx
  tk := fun u s' ⟨a, B, sI, pins, σ, H, cls, d, e, I, nb, up, sky, na, os, ag, w⟩ => False.elim w
  sys := o.sys
  er := o.er
  xi := o.xi
  oc := o.oc
theorem pt_ite {c0 a b : Expr} {pos : Pos} {tA tB' tC' : TT} (hc : PT X c0 tA) (ha : PT X a tB') (hb : PT X b tC') : PT X (.IfExp c0 a b pos) (fun σ H Q => tA σ H fun k H1 => if k = true then tB' σ H1 Q else tC' σ H1 Q) := by
  refine ⟨fun pins s σ H Q I h => ?_⟩
  refine isTrue_IfExp (thn (hc.run pins s σ H _ I h) fun d s1 ⟨H1, I1, q1⟩ => ?_)
  cases d with
  | true => exact ha.run pins s1 σ H1 Q I1 q1
  | false => exact hb.run pins s1 σ H1 Q I1 q1
theorem bi_ty {b : M.Bi} : (b = .int ∨ b = .list ∨ b = .tuple ∨ b = .str) ∨ ¬(b = .int ∨ b = .list ∨ b = .tuple ∨ b = .str) := Classical.em _
/-- a built-in's call -/
theorem bi_hot {x y : Bool} (h : (x || y) = true) (z : y = false) : x = true := by rw [z, Bool.or_false] at h; exact h
theorem pe_biM (o : Ok c k N sc X W) {b : M.Bi} (hh : (!c.T.hot || decide (b = .len)) = true) {e : Expr} {es : List Expr} {p pos : Pos} {t : TA} (hm : biN b ∈ c.T.bts) (hg : glB sc (biN b) = true) (ha : PA X (e :: es) t) (hp : (e :: es).all plB = true) :
    PE X (.Call (.Name (biN b) p) (e :: es) [] pos) (tCB (rBi c.K b) t) := by
  have hp' := and2 (show (plB e && es.all plB) = true from hp)
  have gl := o.gl hg
  have mn := o.free hm
  have st := plB_star (es := es) (env := X.env) hp'.1
  have an := plB_all (pos := pos) (env := X.env) hp'.2
  rw [← o.eK]
  cases b with
  | len => exact pe_callB bi_len gl mn (by decide +kernel) ha (by decide +kernel) (by decide +kernel) st an
  | abs => exact pe_callB bi_abs gl mn (by decide +kernel) ha (by decide +kernel) (by decide +kernel) st an
  | int => exact pe_callTy bi_int gl mn (by decide +kernel) ha (by decide +kernel) (by decide +kernel) st an
  | min => exact pe_callB (bi_min (o.calm' (bi_hot hh rfl))) gl mn (by decide +kernel) ha (by decide +kernel) (by decide +kernel) st an
  | max => exact pe_callB (bi_max (o.calm' (bi_hot hh rfl))) gl mn (by decide +kernel) ha (by decide +kernel) (by decide +kernel) st an
  | all => exact pe_callB (bi_all (o.calm' (bi_hot hh rfl))) gl mn (by decide +kernel) ha (by decide +kernel) (by decide +kernel) st an
  | any => exact pe_callB (bi_any (o.calm' (bi_hot hh rfl))) gl mn (by decide +kernel) ha (by decide +kernel) (by decide +kernel) st an
  | sum => exact pe_callB (bi_sum (o.calm' (bi_hot hh rfl))) gl mn (by decide +kernel) ha (by decide +kernel) (by decide +kernel) st an
  | list => exact pe_callTy bi_list gl mn (by decide +kernel) ha (by decide +kernel) (by decide +kernel) st an
  | tuple => exact pe_callTy bi_tuple gl mn (by decide +kernel) ha (by decide +kernel) (by decide +kernel) st an
  | str => exact pe_callTy bi_str gl mn (by decide +kernel) ha (by decide +kernel) (by decide +kernel) st an
  | sorted => exact pe_callB bi_sorted gl mn (by decide +kernel) ha (by decide +kernel) (by decide +kernel) st an
  | minp => exact pe_callB (bi_minp (o.calm' (bi_hot hh rfl)) o.room.units) gl mn (by decide +kernel) ha (by decide +kernel) (by decide +kernel) st an
  | sortp => exact pe_callB bi_sortp gl mn (by decide +kernel) ha (by decide +kernel) (by decide +kernel) st an
theorem few_of {es : List Expr} {cpos : Pos} {env : Env} (h : es.all plB = true) (h2 : es.length < 29) : ((backTo cpos (starEach es env)).all (fun x => !x.1) && (backToKw cpos (keywordEach [] env)).all (fun x => x.1.isSome)
      && decide (es.length + ([] : List Keyword).length + (if ([] : List Keyword).isEmpty then 0 else 1) < 30)) = true := by
  rw [plB_few h]
  show (true && true && decide _) = true
  have : decide (es.length + ([] : List Keyword).length + (if ([] : List Keyword).isEmpty then 0 else 1) < 30) = true := by
    refine decide_eq_true ?_
    show es.length + 0 + 0 < 30
    omega
  rw [this]
  rfl
theorem pe_mt0 (o : Ok c k N sc X W) {m : M.Mt} {a : Expr} {apos cpos : Pos} {ta : TE} (hm : mtOk m = true) (hl : (apos.endLine == cpos.line) = true) (hb : bareB a = true) (ho : PE X a ta) :
    PE X (.Call (.Attribute a (mtN m) apos) [] [] cpos) (tBM0 c.K "list" (rMt c.K m) ta) := by
  rw [← o.eK]
  cases m with
  | append => exact pe_bm0 PySem.F.plainAttrs_list PySem.F.slot_list_append PySem.F.type_list_append mt_appendM ho (bare_of hb) hl
  | extend => exact pe_bm0 PySem.F.plainAttrs_list PySem.F.slot_list_extend PySem.F.type_list_extend mt_extendM ho (bare_of hb) hl
  | pop => exact pe_bm0 PySem.F.plainAttrs_list PySem.F.slot_list_pop PySem.F.type_list_pop mt_popM ho (bare_of hb) hl
  | count => exact pe_bm0 PySem.F.plainAttrs_list PySem.F.slot_list_count PySem.F.type_list_count mt_countM ho (bare_of hb) hl
  | index => exact pe_bm0 PySem.F.plainAttrs_list PySem.F.slot_list_index PySem.F.type_list_index mt_indexM ho (bare_of hb) hl
theorem pe_mtM (o : Ok c k N sc X W) {m : M.Mt} {a e : Expr} {es : List Expr} {apos cpos : Pos} {ta : TE} {t : TA} (hm : mtOk m = true) (hl : (apos.endLine == cpos.line) = true) (hb : bareB a = true) (ho : PE X a ta) (ha : PA X (e :: es) t) (hp : (e :: es).all plB = true) (hn : (e :: es).length < 29) :
    PE X (.Call (.Attribute a (mtN m) apos) (e :: es) [] cpos) (tBM c.K "list" (rMt c.K m) ta t) := by
  rw [← o.eK]
  have hp' := and2 (show (plB e && es.all plB) = true from hp)
  have st := plB_star (es := es) (env := X.env) hp'.1
  have an := plB_all (pos := cpos) (env := X.env) hp'.2
  have fw := few_of (cpos := cpos) (env := X.env) hp hn
  cases m with
  | append => exact pe_bm PySem.F.plainAttrs_list PySem.F.slot_list_append PySem.F.type_list_append mt_appendM ho ha (bare_of hb) fw hl st an
  | extend => exact pe_bm PySem.F.plainAttrs_list PySem.F.slot_list_extend PySem.F.type_list_extend mt_extendM ho ha (bare_of hb) fw hl st an
  | pop => exact pe_bm PySem.F.plainAttrs_list PySem.F.slot_list_pop PySem.F.type_list_pop mt_popM ho ha (bare_of hb) fw hl st an
  | count => exact pe_bm PySem.F.plainAttrs_list PySem.F.slot_list_count PySem.F.type_list_count mt_countM ho ha (bare_of hb) fw hl st an
  | index => exact pe_bm PySem.F.plainAttrs_list PySem.F.slot_list_index PySem.F.type_list_index mt_indexM ho ha (bare_of hb) fw hl st an
/-! ### calls of the text's defs -/
theorem pass_ok (o : Ok c k N sc X W) (σ : Sl) : PassesAt (L2N.CX X.prog X.w) X σ (WE W σ) := L2N.passAt o.tk σ
theorem pe_callM (o : Ok c k N sc X W) {n : Nat} {x : Str} {es : List Expr} {p pos : Pos} {t : TA} (hx : c.T.fns[n]? = some x) (hat : ((c.T.ats.lookup n).isNone && (!c.T.sts.contains n && !c.T.hot)) = true) (hh : (c.T.hots.contains n == c.T.hot) = true) (hg : glB sc x = true) (hd : (x == ("__debug__" : Str)) = false) (ha : PA X es t) (hp : es.all plB = true) (h0 : es = [] → ∀ σ H Q, t σ H Q → Q [] H) :
    PE X (.Call (.Name x p) es [] pos) (fun σ H Q => t σ H fun vs H1 => lift c (M.cl (c.G.fn n)) vs H1 Q (WE W σ)) := by
  obtain ⟨f, fd, ps, D, F⟩ := o.fns n x hx
  rw [eq_of_beq hh] at F
  rw [← o.eK, ← o.em] at D F
  have go : ∀ {pins : List (Addr × Obj)} {s : Shared} {σ : Sl} {H : Hp} {Q : VK} {us : List Value} {vs : List V}, Inv X pins σ H s → Vals vs us → lift c (M.cl (c.G.fn n)) vs H Q (WE W σ) → wpAny (model X.prog X.w) X.A (call (.ref f) us) (EP X pins σ Q) X.xe s := by
    intro pins s σ H Q us vs I r q
    have hl : us.length = ps.length := by rw [← r.length]; exact F.len _ _ _ _ q
    have b := D.bd (not1 (and2 (and2 hat).2).1) s us I.kIn (by rw [List.append_nil]; exact hl)
    rw [List.append_nil] at b
    exact run_fnG (args := ⟨us, []⟩) (E := WE W) F o.room o.gd (fun z => absurd z (by rw [not1 (and2 (and2 hat).2).2]; exact Bool.false_ne_true)) b (pass_ok o σ) I r q
  refine ⟨fun pins s σ H Q I h => ?_⟩
  refine wpAny_Call_Name_kw (ld_glob I (o.gl hg) (D.mg (Option.isNone_iff_eq_none.mp (and2 hat).1)) ?_ hd)
  cases es with
  | nil =>
    refine PySem.W.callWith_K0 I.kIn D.kp ?_
    exact go I .nil (h0 rfl _ _ _ h)
  | cons e es =>
    have hp' := and2 (show (plB e && es.all plB) = true from hp)
    exact PySem.W.callWith_K (h₀ := X.base) I.ok.mod.kin D.kp (thn (ha.run pos pins s σ H _ I h) fun us s1 ⟨vs, H1, I1, r, q⟩ => ⟨I1.kIn, go I1 r q⟩) (plB_star hp'.1) (plB_all hp'.2)
/-- f(e, .., k = v, ..) -/
theorem kws_len : ∀ {kws : List Keyword} {nms : List Str}, kwsB kws = some nms → ∀ (pos : Pos) (env : Env), (backToKw pos (keywordEach kws env)).all (·.1.isSome) = true ∧ (backToKw pos (keywordEach kws env)).filterMap (·.1) = nms ∧ (backToKw pos (keywordEach kws env)).any (·.1.isNone) = false ∧ nms.length = kws.length
  | [], nms, h, _, _ => by
    cases h
    exact ⟨rfl, rfl, rfl, rfl⟩
  | ⟨none, _, _⟩ :: _, _, h, _, _ => nomatch h
  | ⟨some x, v, p⟩ :: r, nms, h, pos, env => by
    obtain ⟨l, e, rfl⟩ := Option.map_eq_some_iff.mp (show (kwsB r).map (x :: ·) = some nms from h)
    obtain ⟨a1, a2, a3, a4⟩ := kws_len e pos env
    refine ⟨?_, ?_, ?_, ?_⟩
    · show (true && (backToKw pos (keywordEach r env)).all (·.1.isSome)) = true
      rw [a1]; rfl
    · show x :: (backToKw pos (keywordEach r env)).filterMap (·.1) = x :: l
      rw [a2]
    · show (false || (backToKw pos (keywordEach r env)).any (·.1.isNone)) = false
      rw [a3]; rfl
    · rw [List.length_cons, List.length_cons, a4]
theorem vals_fm {us : List Value} {vs : List V} (r : Vals vs us) : ∀ perm : List Nat, Vals (perm.filterMap fun i => vs[i]?) (perm.filterMap fun i => us[i]?)
  | [] => .nil
  | i :: perm => by
    cases e : vs[i]? with
    | none =>
      rw [List.filterMap_cons_none e, List.filterMap_cons_none (r.none_of e)]
      exact vals_fm r perm
    | some v =>
      obtain ⟨u, e2, ru⟩ := r.get e
      rw [List.filterMap_cons_some e, List.filterMap_cons_some e2]
      exact .cons ru (vals_fm r perm)
theorem rels_fm {K : Frag} {H : Hp} {ds : List M.D} {vs : List V} (r : RelDs K H ds vs) : ∀ perm : List Nat, RelDs K H (perm.filterMap fun i => ds[i]?) (perm.filterMap fun i => vs[i]?)
  | [] => .nil
  | i :: perm => by
    cases e : ds[i]? with
    | none =>
      have e2 : vs[i]? = none := by rw [List.getElem?_eq_none_iff] at e ⊢; rw [← r.length]; exact e
      rw [List.filterMap_cons_none e, List.filterMap_cons_none e2]
      exact rels_fm r perm
    | some v =>
      obtain ⟨u, e2, ru⟩ := r.get e
      rw [List.filterMap_cons_some e, List.filterMap_cons_some e2]
      exact .cons ru (rels_fm r perm)
theorem pe_callkM (o : Ok c k N sc X W) {n m : Nat} {perm : List Nat} {nms : List Str} {x : Str} {es : List Expr} {kws : List Keyword} {p pos : Pos} {t tk : TA} (hx : c.T.fns[n]? = some x) (hat : ((c.T.ats.lookup n).isNone && !c.T.hot) = true) (hh : (c.T.hots.contains n == c.T.hot) = true) (hg : glB sc x = true) (hd : (x == ("__debug__" : Str)) = false) (ha : PA X es t) (hp : es.all plB = true) (h0 : es = [] → ∀ σ H Q, t σ H Q → Q [] H)
    (hk : PK X kws tk) (hn : kwsB kws = some nms) (hm : (n, m, nms, perm) ∈ c.T.kws) :
    PE X (.Call (.Name x p) es kws pos) (fun σ H Q => t σ H fun vs H1 => tk σ H1 fun zs H2 => vs.length = m ∧ zs.length = nms.length ∧ lift c (M.cl (c.G.fn n)) (perm.filterMap fun i => (vs ++ zs)[i]?) H2 Q (WE W σ)) := by
  obtain ⟨f, fd, ps, D, F⟩ := o.fns n x hx
  rw [eq_of_beq hh] at F
  rw [← o.eK, ← o.em] at D F
  obtain ⟨k1, k2, k3, k4⟩ := kws_len hn pos X.env
  have go : ∀ {pins : List (Addr × Obj)} {s : Shared} {σ : Sl} {H : Hp} {Q : VK} {us ws : List Value} {vs zs : List V}, Inv X pins σ H s → Vals vs us → Vals zs ws → vs.length = m → zs.length = nms.length → lift c (M.cl (c.G.fn n)) (perm.filterMap fun i => (vs ++ zs)[i]?) H Q (WE W σ) →
      wpAny (model X.prog X.w) X.A (call (.ref f) us (nms.zip ws)) (EP X pins σ Q) X.xe s := by
    intro pins s σ H Q us ws vs zs I r rz l1 l2 q
    exact run_fnG (args := ⟨us, nms.zip ws⟩) (E := WE W) F o.room o.gd (fun z => absurd z (by rw [not1 (and2 hat).2]; exact Bool.false_ne_true)) (D.kb m nms perm hm s us ws I.kIn (by rw [← r.length]; exact l1) (by rw [← rz.length]; exact l2)) (pass_ok o σ) I (vals_fm (r.append rz) perm) q
  refine ⟨fun pins s σ H Q I h => ?_⟩
  refine wpAny_Call_Name_kw (ld_glob I (o.gl hg) (D.mg (Option.isNone_iff_eq_none.mp (and2 hat).1)) ?_ hd)
  cases es with
  | nil =>
    refine PySem.W.callWith_KW0 (h₀ := X.base) I.ok.mod.kin D.kp k1 (thn (hk.run pos pins s σ H _ I (h0 rfl _ _ _ h)) fun ws s2 ⟨zs, H2, I2, rz, q2⟩ => ⟨I2.kIn, ?_⟩) (by show (false || _) = false; rw [k3]; rfl)
    rw [k2]
    exact go I2 .nil rz q2.1 q2.2.1 q2.2.2
  | cons e es =>
    have hp' := and2 (show (plB e && es.all plB) = true from hp)
    refine PySem.W.callWith_KW (h₀ := X.base) I.ok.mod.kin D.kp k1 (thn (ha.run pos pins s σ H _ I h) fun us s1 ⟨vs, H1, I1, r, q⟩ => ?_) (by rw [plB_all hp, k3]; rfl) (plB_star hp'.1)
    refine thn (hk.run pos pins s1 σ H1 _ I1 q) fun ws s2 ⟨zs, H2, I2, rz, q2⟩ => ⟨I2.kIn, ?_⟩
    rw [k2]
    exact go I2 r rz q2.1 q2.2.1 q2.2.2
/-- a built-in type by its name -/
theorem cls_name (o : Ok c k N sc X W) {t : M.Ty} {z : Str} (h : clsB c.T sc t z = true) : z = tyS t ∧ ∀ p, PE X (.Name z p) (tC (.ty (tyN t))) := by
  unfold clsB at h
  obtain ⟨h, h4⟩ := and2 h
  obtain ⟨h, h3⟩ := and2 h
  obtain ⟨h1, h2⟩ := and2 h
  have e := of_decide_eq_true h1
  subst e
  exact ⟨rfl, fun p => pe_bltn (o.gl h3) (o.free (of_decide_eq_true h2)) (tyB t) rfl (by cases t <;> decide +kernel) (dbg_of h4).1⟩
end
end Snd
namespace Snd
open PySem PySem.Spec PyProof.Rows L2
/-! ### classes of errors by their names -/
section
variable {c : Cn} {k : Nat} {N : List Str} {sc : Scope} {X : Cx} {W : WX}
theorem cls_one (o : Ok c k N sc X W) {j : Nat} {z : Str} (h : clsX c.T sc j z = true) : ∃ v wv, (∀ p, PE X (.Name z p) (tC v)) ∧ (∀ u, RelV v u → u = wv) ∧ ∀ i D, c.G.adr i = some D → PySem.W.kitOne c.K (.ref D) wv = some (c.G.sub i j) := by
  obtain ⟨h, h3⟩ := and2 h
  obtain ⟨h1, h2⟩ := and2 h
  rcases Bool.or_eq_true_iff.mp h3 with h3 | h3
  · obtain ⟨C, m, _, a⟩ := o.er.at_ j z (of_decide_eq_true h3)
    exact ⟨.ref C, .ref C, fun p => pe_glob (o.gl h1) (by rw [o.em]; exact m) rfl (dbg_of h2).1, fun u r => r, fun i D e => (a i D e).1⟩
  · obtain ⟨h3, h5⟩ := and2 h3
    obtain ⟨h3, h4⟩ := and2 h3
    have e1 := of_decide_eq_true h3
    have e2 := of_decide_eq_true h4
    subst e1 e2
    exact ⟨.ty "ValueError", .type "ValueError", fun p => pe_bltn (o.gl h1) (o.free (of_decide_eq_true h5)) (by decide +kernel) rfl (by decide +kernel) (dbg_of h2).1, fun u r => r, fun i D e => o.er.ve i D e⟩
theorem cls_all (o : Ok c k N sc X W) : ∀ {cs : List Nat} {zs : List Expr}, clsXs c.T sc cs zs = true → ∃ (vs : List V) (wvs : List Value) (t : TA), PA X zs t ∧ (∀ σ H Q, Q vs H → t σ H Q) ∧ vs.length = zs.length ∧ (∀ us, Vals vs us → us = wvs) ∧ ∀ i D, c.G.adr i = some D → PySem.W.kitAny c.K (.ref D) wvs = some (cs.any (c.G.sub i))
  | [], [], _ => ⟨[], [], _, pa_nil, fun _ _ _ q => q, rfl, fun us r => by cases r; rfl, fun _ _ _ => rfl⟩
  | j :: cs, .Name z p :: zs, h => by
    obtain ⟨h1, h2⟩ := and2 (show (clsX c.T sc j z && clsXs c.T sc cs zs) = true from h)
    obtain ⟨v, wv, e1, e2, e3⟩ := cls_one o h1
    obtain ⟨vs, wvs, t, g1, g2, g3, g4, g5⟩ := cls_all o h2
    refine ⟨v :: vs, wv :: wvs, _, pa_cons (e1 p) g1, fun σ H Q q => ?_, by rw [List.length_cons, List.length_cons, g3], fun us r => ?_, fun i D e => ?_⟩
    · exact g2 σ H _ q
    · cases r with
      | cons a b => rw [e2 _ a, g4 _ b]
    · exact kitAny_cons (e3 i D e) (fun hb => by rw [List.any_cons, hb, Bool.false_or]; exact g5 i D e) fun hb => by rw [List.any_cons, hb, Bool.true_or]
  | [], _ :: _, h => by cases h
  | _ :: _, [], h => by cases h
  | _ :: _, .BoolOp .. :: _, h => by cases h
  | _ :: _, .NamedExpr .. :: _, h => by cases h
  | _ :: _, .BinOp .. :: _, h => by cases h
  | _ :: _, .UnaryOp .. :: _, h => by cases h
  | _ :: _, .Lambda .. :: _, h => by cases h
  | _ :: _, .IfExp .. :: _, h => by cases h
  | _ :: _, .Dict .. :: _, h => by cases h
  | _ :: _, .Set .. :: _, h => by cases h
  | _ :: _, .ListComp .. :: _, h => by cases h
  | _ :: _, .SetComp .. :: _, h => by cases h
  | _ :: _, .DictComp .. :: _, h => by cases h
  | _ :: _, .GeneratorExp .. :: _, h => by cases h
  | _ :: _, .Yield .. :: _, h => by cases h
  | _ :: _, .YieldFrom .. :: _, h => by cases h
  | _ :: _, .Compare .. :: _, h => by cases h
  | _ :: _, .Call .. :: _, h => by cases h
  | _ :: _, .JoinedStr .. :: _, h => by cases h
  | _ :: _, .FormattedValue .. :: _, h => by cases h
  | _ :: _, .Constant .. :: _, h => by cases h
  | _ :: _, .Attribute .. :: _, h => by cases h
  | _ :: _, .Subscript .. :: _, h => by cases h
  | _ :: _, .Starred .. :: _, h => by cases h
  | _ :: _, .List .. :: _, h => by cases h
  | _ :: _, .Tuple .. :: _, h => by cases h
  | _ :: _, .Slice .. :: _, h => by cases h
theorem clsXs_pl {T : Tb} {sc : Scope} : ∀ {cs : List Nat} {zs : List Expr}, clsXs T sc cs zs = true → zs.all plB = true
  | [], [], _ => rfl
  | _ :: _, .Name _ _ :: zs, h => by
    obtain ⟨_, h2⟩ := and2 h
    show (true && zs.all plB) = true
    rw [clsXs_pl h2]; rfl
  | [], _ :: _, h => by cases h
  | _ :: _, [], h => by cases h
  | _ :: _, .BoolOp .. :: _, h => by cases h
  | _ :: _, .NamedExpr .. :: _, h => by cases h
  | _ :: _, .BinOp .. :: _, h => by cases h
  | _ :: _, .UnaryOp .. :: _, h => by cases h
  | _ :: _, .Lambda .. :: _, h => by cases h
  | _ :: _, .IfExp .. :: _, h => by cases h
  | _ :: _, .Dict .. :: _, h => by cases h
  | _ :: _, .Set .. :: _, h => by cases h
  | _ :: _, .ListComp .. :: _, h => by cases h
  | _ :: _, .SetComp .. :: _, h => by cases h
  | _ :: _, .DictComp .. :: _, h => by cases h
  | _ :: _, .GeneratorExp .. :: _, h => by cases h
  | _ :: _, .Yield .. :: _, h => by cases h
  | _ :: _, .YieldFrom .. :: _, h => by cases h
  | _ :: _, .Compare .. :: _, h => by cases h
  | _ :: _, .Call .. :: _, h => by cases h
  | _ :: _, .JoinedStr .. :: _, h => by cases h
  | _ :: _, .FormattedValue .. :: _, h => by cases h
  | _ :: _, .Constant .. :: _, h => by cases h
  | _ :: _, .Attribute .. :: _, h => by cases h
  | _ :: _, .Subscript .. :: _, h => by cases h
  | _ :: _, .Starred .. :: _, h => by cases h
  | _ :: _, .List .. :: _, h => by cases h
  | _ :: _, .Tuple .. :: _, h => by cases h
  | _ :: _, .Slice .. :: _, h => by cases h
theorem call_isXA {X : Cx} : CallR X (.builtin "isinstance") (fun xs H Q => ∃ D, ExcC X.K D ∧ rIsX X.K D xs H Q) := fun pins s σ H xs us Q I r ⟨D, C, h⟩ => call_isX C pins s σ H xs us Q I r h
theorem call_isXTA {X : Cx} : CallR X (.builtin "isinstance") (fun xs H Q => ∃ D, ExcC X.K D ∧ rIsXT X.K D xs H Q) := fun pins s σ H xs us Q I r ⟨D, C, h⟩ => call_isXT C pins s σ H xs us Q I r h
theorem onF_of {d : M.D} {n : M.Tx} {P : M.D → Prop} (h : M.onF d n P) : ∃ C y x, d = .xn C [y, .str n, x] ∧ P x := by
  unfold M.onF at h
  split at h
  · obtain ⟨rfl, h⟩ := h
    exact ⟨_, _, _, rfl, h⟩
  · exact False.elim h
theorem onX_of {d : M.D} {P : Nat → Prop} (h : M.onX d P) : ∃ C fs, d = .xn C fs ∧ P C := by
  cases d with
  | xn C fs => exact ⟨C, fs, rfl, h⟩
  | _ => exact False.elim h
end
/-! ### displays of dicts -/
def trsOf (c : Cn) (W : WX) : List M.Tx → M.Es → List (TE × TE)
  | k :: ks, .cons e r => (tC (.str (stx k)), tE c W e) :: trsOf c W ks r
  | _, _ => []
def noStar : M.Es → Bool
  | .nil => true
  | .cons _ r => noStar r
  | .star _ _ => false
theorem pairs_rel {c : Cn} {W : WX} {σ : Sl} : ∀ (es : M.Es) {ks : List M.Tx} {ρ : M.Env} {S : M.Sto} {H : Hp} {Xd : M.XK} {f : List M.D → M.Sto → Prop} {R : List (V × V) → Hp → Prop}, ρ.length = σ.length → RelE c.K H ρ σ → RelS c.K H S → M.wpEs c.G es ρ S f Xd → (OkX c S H Xd fun cls d H' => W cls d σ H') → ks.length = M.esLen es → noStar es = true →
    (∀ ds S2 vs H2, Fr S H S2 H2 → RelS c.K H2 S2 → RelDs c.K H2 ds vs → f ds S2 → R ((ks.map fun k => V.str (stx k)).zip vs) H2) → tPairs (trsOf c W ks es) σ H R
  | .nil, ks, ρ, S, H, Xd, f, R, hl, re, r, w, hx, hk, hs, q => by
    cases ks with
    | nil => exact q [] S [] H Fr.refl r .nil w
    | cons _ _ => cases hk
  | .star _ _, ks, ρ, S, H, Xd, f, R, hl, re, r, w, hx, hk, hs, q => by cases hs
  | .cons e es, ks, ρ, S, H, Xd, f, R, hl, re, r, w, hx, hk, hs, q => by
    cases ks with
    | nil => cases hk
    | cons k ks =>
      show tE c W e σ H fun y H2 => tPairs (trsOf c W ks es) σ H2 fun ps H3 => R ((V.str (stx k), y) :: ps) H3
      exact one_rel hl re r w hx fun x S2 v H2 f2 r2 rx q2 => pairs_rel es hl (re.mono r f2) r2 q2 (hx.after f2) (Nat.succ.inj hk) hs fun ds S3 vs H3 f3 r3 rds q3 => q (x :: ds) S3 (v :: vs) H3 (f2.trans f3) r3 (.cons (rx.mono r2 f3) rds) q3
theorem merge_nd : ∀ {more kvs : List (Key × V)}, ((kvs ++ more).map (·.1)).Nodup → mergeK kvs more = kvs ++ more
  | [], kvs, _ => by rw [List.append_nil]; rfl
  | p :: more, kvs, h => by
    have hn : valV kvs p.1 = none := by
      cases e : valV kvs p.1 with
      | none => rfl
      | some v =>
        have h2 := valV_any p.1 kvs
        rw [e] at h2
        obtain ⟨q, hq, he⟩ := List.any_eq_true.mp h2
        have he := of_decide_eq_true he
        rw [List.map_append, List.nodup_append] at h
        exact absurd he (h.2.2 q.1 (List.mem_map.mpr ⟨q, hq, rfl⟩) p.1 (by simp))
    show mergeK (putK kvs p.1 p.2) more = _
    rw [putK_new p.2 hn, merge_nd (by simpa using h)]
    simp
theorem inr_nd {ks : List M.Tx} (h : ks.Nodup) : (ks.map fun k => (Sum.inr (stx k) : Key)).Nodup :=
  List.Pairwise.map _ (fun a b hab e => hab (stx_inj.mp (Sum.inr.inj e))) h
theorem disp_rel {c : Cn} {W : WX} {σ : Sl} {H : Hp} {Q : VK} {es : M.Es} {ks : List M.Tx} (h0 : ks.length ≤ 15) (hn : ks.Nodup) (hk : ks.length = M.esLen es) (hs : noStar es = true) (h : tE c W (.dct ks es) σ H Q) : tDisp (trsOf c W ks es) σ H Q := by
  obtain ⟨ρ, S, Qd, Xd, hl, re, r, w, hq, hx⟩ := h
  intro p hp
  have f0 : Fr S H S (L2.upd H p (.dK [])) := Fr.laid hp
  refine pairs_rel es hl (re.mono r f0) (r.laid hp) w (hx.after f0) hk hs fun ds S2 vs H2 f2 r2 rds q => ?_
  obtain ⟨e2, n2⟩ := f2 p _ L2.upd_same (r.none hp)
  obtain ⟨q1, q2⟩ := q
  have hlen : vs.length = ks.length := by rw [← rds.length]; exact q1
  refine ⟨e2, (ks.map fun k => (Sum.inr (stx k) : Key)).zip vs, ?_, by rw [List.length_zip, List.length_map]; omega, ?_⟩
  · rw [List.zip_map_left, List.zip_map_left, List.map_map]
    rfl
  · rw [merge_nd (kvs := []) (by
      rw [List.nil_append, List.map_fst_zip (by rw [List.length_map]; omega)]
      exact inr_nd hn), List.nil_append]
    refine hq _ _ _ _ ?_ ?_ (.ref p) (q2 p n2)
    · intro a o ha hb
      have hne : a ≠ p := fun z => by rw [z, hp] at ha; cases ha
      obtain ⟨g1, g2⟩ := (f0.trans f2) a o ha hb
      exact ⟨by rw [L2.upd_ne hne]; exact g1, by rw [mupd_ne hne]; exact g2⟩
    · intro a mo e
      have r3 : RelS c.K H2 (M.upd S2 p .dic) := fun a mo e => by
        by_cases ha : a = p
        · subst ha
          rw [mupd_same] at e
          cases e
          exact e2
        · rw [mupd_ne ha] at e
          exact r2 a mo e
      have f3 : Fr (M.upd S2 p .dic) H2 (M.upd (M.upd S2 p .dic) p (.dct (ks.zip ds))) (L2.upd H2 p (.dK ((ks.map fun k => (Sum.inr (stx k) : Key)).zip vs))) := fun b ob hb n => by
        have ne : b ≠ p := fun z => by rw [z, mupd_same] at n; cases n
        exact ⟨by rw [L2.upd_ne ne]; exact hb, by rw [mupd_ne ne]; exact n⟩
      by_cases ha : a = p
      · subst ha
        rw [mupd_same] at e
        cases e
        have e1 : ((ks.zip ds).map fun p => (Sum.inr (stx p.1) : Key)) = ks.map fun k => (Sum.inr (stx k) : Key) := by
          have : ((ks.zip ds).map fun p => (Sum.inr (stx p.1) : Key)) = ((ks.zip ds).map (·.1)).map fun k => (Sum.inr (stx k) : Key) := by rw [List.map_map]; rfl
          rw [this, List.map_fst_zip (by omega)]
        have e3 : (ks.zip ds).map (·.2) = ds := List.map_snd_zip (by omega)
        exact ⟨vs, by rw [e1]; exact L2.upd_same, by rw [e3]; exact rds.mono r3 f3⟩
      · rw [mupd_ne ha] at e
        exact (r2 a mo e).mono r3 f3 fun ob h1 => by rw [L2.upd_ne ha]; exact h1
theorem keysB_some : ∀ {ks : List M.Tx} {kes : List (Option Expr)}, keysB ks kes = true → kes.all (·.isSome) = true ∧ kes.length = ks.length
  | [], [], _ => ⟨rfl, rfl⟩
  | k :: ks, some (.Constant (.str y) _ _) :: kes, h => by
    obtain ⟨_, h2⟩ := and2 (show (decide (stx k = y) && keysB ks kes) = true from h)
    obtain ⟨a, b⟩ := keysB_some h2
    exact ⟨by show (true && kes.all (·.isSome)) = true; rw [a]; rfl, by rw [List.length_cons, List.length_cons, b]⟩
  | [], _ :: _, h => by cases h
  | _ :: _, [], h => by cases h
  | _ :: _, none :: _, h => by cases h
  | _ :: _, some e :: _, h => by
    unfold keysB at h
    split at h
    · cases ‹_ = []›
    · rename_i k ks y a b es heq1 heq2
      injection heq1 with _ z1
      injection heq2 with z2 z3
      subst z1 z3
      injection z2 with z2
      subst z2
      obtain ⟨_, h2⟩ := and2 h
      obtain ⟨a, b⟩ := keysB_some h2
      exact ⟨by show (true && _) = true; rw [a]; rfl, by rw [List.length_cons, List.length_cons, b]⟩
    · cases h
end Snd
namespace Snd
open PySem PySem.Spec PyProof.Rows L2
/-! ### methods of texts: split, join, strip -/
theorem stx_of (y : Str) : stx y.cps.toList = y := by
  apply Str.ext'
  show y.cps.toList.toArray = y.cps
  simp
theorem join_stx (s : M.Tx) : ∀ ts : List M.Tx, Str.join (stx s) (ts.map stx) = stx (M.joinT s ts)
  | [] => rfl
  | [x] => rfl
  | x :: y :: r => by
    have ih := join_stx s (y :: r)
    show stx x ++ stx s ++ Str.join (stx s) ((y :: r).map stx) = stx (x ++ s ++ M.joinT s (y :: r))
    rw [ih, stx_app, stx_app]
theorem joinT_stx (s : M.Tx) (ts : List M.Tx) : Txt.join (stx s) (ts.map stx) = stx (M.joinT s ts) := by
  show Builtin.Str.glued _ _ = _
  rw [StrLaws.glued_eq_join, join_stx]
theorem splitT_free {c : Nat} : ∀ {w : M.Tx}, c ∉ w → M.splitT c w = [w]
  | [], _ => rfl
  | d :: r, h => by
    have h1 : d ≠ c := fun e => h (by rw [e]; simp)
    have h2 : c ∉ r := fun e => h (by simp [e])
    unfold M.splitT
    rw [if_neg h1, splitT_free h2]
theorem splitT_cons (c d : Nat) (r : M.Tx) : M.splitT c (d :: r) = if d = c then [] :: M.splitT c r else (match M.splitT c r with | [] => [[d]] | w :: ws => (d :: w) :: ws) := rfl
theorem splitT_app {c : Nat} {rest : M.Tx} : ∀ {w : M.Tx}, c ∉ w → M.splitT c (w ++ [c] ++ rest) = w :: M.splitT c rest
  | [], _ => by
    show M.splitT c (c :: rest) = _
    rw [splitT_cons, if_pos rfl]
  | d :: r, h => by
    have h1 : d ≠ c := fun e => h (by rw [e]; simp)
    have h2 : c ∉ r := fun e => h (by simp [e])
    show M.splitT c (d :: (r ++ [c] ++ rest)) = _
    rw [splitT_cons, if_neg h1, splitT_app h2]
theorem split_join {c : Nat} : ∀ {ts : List M.Tx}, ts ≠ [] → (∀ t ∈ ts, c ∉ t) → M.splitT c (M.joinT [c] ts) = ts
  | [], h, _ => absurd rfl h
  | [x], _, h => splitT_free (h x (by simp))
  | x :: y :: r, _, h => by
    show M.splitT c (x ++ [c] ++ M.joinT [c] (y :: r)) = _
    rw [splitT_app (h x (by simp)), split_join (by simp) fun t ht => h t (by simp [ht])]
theorem split_stx (c : Nat) (t : M.Tx) : Txt.split (stx t) (stx [c]) = (M.splitT c t).map stx := by
  obtain ⟨ps, hps⟩ : ∃ ps, ps = Txt.split (stx t) (stx [c]) := ⟨_, rfl⟩
  have hj := StrLaws.join_split (stx t) (stx [c])
  have hf := StrLaws.split_free (stx t) c
  have hl := split_pos (stx t) (stx [c])
  rw [← hps]
  rw [← hps] at hj hl
  have hf : ∀ p ∈ ps, c ∉ p.cps.toList := by rw [hps]; exact hf
  have e : ps = (ps.map fun p => p.cps.toList).map stx := by
    rw [List.map_map]
    conv => lhs; rw [← List.map_id ps]
    exact List.map_congr_left fun p _ => (stx_of p).symm
  have h2 : M.splitT c (M.joinT [c] (ps.map fun p => p.cps.toList)) = ps.map fun p => p.cps.toList := split_join (by
    intro z
    have : ps = [] := List.map_eq_nil_iff.mp z
    rw [this] at hl; simp at hl) fun t ht => by
    obtain ⟨p, hp, rfl⟩ := List.mem_map.mp ht
    exact hf p hp
  rw [e, join_stx] at hj
  have e3 := stx_inj.mp hj
  rw [e3] at h2
  rw [h2]; exact e
theorem strs_rel {K : Frag} {H : Hp} : ∀ {ds : List M.D} {vs : List V} {ts : List M.Tx}, RelDs K H ds vs → M.strsD ds = some ts → vs = (ts.map stx).map V.str
  | [], _, _, .nil, e => by cases e; rfl
  | d :: ds, _, ts, .cons h t, e => by
    cases d with
    | str x =>
      cases hs : M.strsD ds with
      | none => rw [show M.strsD (.str x :: ds) = (M.strsD ds).map (x :: ·) from rfl, hs] at e; cases e
      | some us =>
        rw [show M.strsD (.str x :: ds) = (M.strsD ds).map (x :: ·) from rfl, hs] at e
        cases e
        cases h
        rw [strs_rel t hs]; rfl
    | _ => cases e
theorem strs_back {K : Frag} {H : Hp} : ∀ ts : List M.Tx, RelDs K H (ts.map M.D.str) ((ts.map stx).map V.str)
  | [] => .nil
  | t :: ts => .cons (.str t) (strs_back ts)
theorem onS_of {d : M.D} {P : M.Tx → Prop} (h : M.onS d P) : ∃ x, d = .str x ∧ P x := by
  cases d with
  | str x => exact ⟨x, rfl, h⟩
  | _ => exact False.elim h
theorem sum_len (ts : List M.Tx) : ((ts.map stx).map (·.length)).sum = (ts.map (·.length)).sum := by
  induction ts with
  | nil => rfl
  | cons t ts ih => simp only [List.map_cons, List.sum_cons, ih, stx_len]
theorem dw_nil {b : Nat → Bool} : ∀ {l : M.Tx}, l.dropWhile b = [] ↔ ∀ c ∈ l, b c = true
  | [] => ⟨(fun _ c h => nomatch h), (fun _ => rfl)⟩
  | d :: r => by
    rw [List.dropWhile_cons]
    by_cases h : b d = true
    · rw [if_pos h, dw_nil (l := r)]
      constructor
      · intro g c hc
        rcases List.mem_cons.mp hc with rfl | hc
        · exact h
        · exact g c hc
      · exact fun g c hc => g c (by simp [hc])
    · rw [if_neg h]
      constructor
      · intro g; cases g
      · exact fun g => absurd (g d (by simp)) h
theorem strip_ok (a b : M.Tx) : ∃ r : M.Tx, Txt.stripChars (stx a) (stx b) = stx r ∧ r.length ≤ a.length ∧ (r = [] ↔ ∀ c ∈ a, c ∈ b) := by
  have e : Txt.stripChars (stx a) (stx b) = Builtin.Str.strSub (stx a) (stripLo (stx b).cps.contains true (stx a)) (stripHi (stx b).cps.contains true (stx a) (stripLo (stx b).cps.contains true (stx a))) := PyProof.Rows.stripBy_eq _ _ _ _
  have hb : (stx b).cps.contains = fun c => decide (c ∈ b) := by
    funext c
    show b.toArray.contains c = decide (c ∈ b)
    rw [Bool.eq_iff_iff]; simp
  rw [hb] at e
  generalize hg : (fun c => decide (c ∈ b)) = g at e
  have hgt : ∀ c, g c = true ↔ c ∈ b := fun c => by rw [← hg]; simp
  have ec : (stx a).cps.toList = a := stx_cps a
  have elo : stripLo g true (stx a) = (a.takeWhile g).length := by
    show (((stx a).cps.toList).takeWhile g).length = _
    rw [ec]
  have edr : a.drop (a.takeWhile g).length = a.dropWhile g := by
    have h := List.takeWhile_append_dropWhile (p := g) (l := a)
    conv => lhs; rw [← h]
    rw [List.drop_append_of_le_length (by rw [h]; exact Nat.le_refl _)]
    rw [h]; simp
  have ehi : stripHi g true (stx a) (stripLo g true (stx a)) = a.length - ((a.dropWhile g).reverse.takeWhile g).length := by
    show (stx a).length - (((stx a).cps.toList.drop (stripLo g true (stx a))).reverse.takeWhile g).length = _
    rw [ec, elo, edr, stx_len]
  rw [e]
  refine ⟨(Builtin.Str.strSub (stx a) (stripLo g true (stx a)) (stripHi g true (stx a) (stripLo g true (stx a)))).cps.toList, (stx_of _).symm, ?_, ?_⟩
  · rw [StrLaws.strSub_toList, ec]
    simp only [List.length_take, List.length_drop]
    omega
  · rw [StrLaws.strSub_toList, ec, elo, edr]
    rw [elo] at ehi
    rw [ehi]
    have hlen : (a.takeWhile g).length + (a.dropWhile g).length = a.length := by
      have := congrArg List.length (List.takeWhile_append_dropWhile (p := g) (l := a))
      rw [List.length_append] at this
      exact this
    have hdw := dw_nil (b := g) (l := a)
    rw [show (∀ c ∈ a, c ∈ b) ↔ (∀ c ∈ a, g c = true) from ⟨fun h c hc => (hgt c).mpr (h c hc), fun h c hc => (hgt c).mp (h c hc)⟩, ← hdw]
    refine ⟨fun h => ?_, fun h => by rw [h]; simp⟩
    cases hd : a.dropWhile g with
    | nil => rfl
    | cons d r =>
      exfalso
      rw [hd] at h hlen
      have hnd : g d = false := by
        have := List.head?_dropWhile_not g a
        rw [hd] at this
        simpa using this
      have htw : (((d :: r).reverse).takeWhile g).length < (d :: r).length := by
        have h1 : ((d :: r).reverse).takeWhile g = r.reverse.takeWhile g := by
          rw [List.reverse_cons, List.takeWhile_append]
          split
          · rw [List.takeWhile_cons_of_neg (by rw [hnd]; exact Bool.false_ne_true), List.append_nil]
            rename_i h9
            exact ((List.takeWhile_prefix (p := g) (l := r.reverse)).eq_of_length h9).symm
          · rfl
        rw [h1]
        have := (List.takeWhile_prefix (p := g) (l := r.reverse)).length_le
        rw [List.length_reverse] at this
        simp only [List.length_cons]
        omega
      have := congrArg List.length h
      rw [List.length_take, List.length_nil] at this
      simp only [List.length_cons] at this hlen htw
      omega
/-! ### a dict's value at a text -/
theorem dct_look {K : Frag} {H : Hp} : ∀ {kvs : List (M.Tx × M.D)} {vs : List V} {k : M.Tx} {d : M.D}, RelDs K H (kvs.map (·.2)) vs → kvs.lookup k = some d → ∃ v, valV ((kvs.map fun p => (Sum.inr (stx p.1) : Key)).zip vs) (Sum.inr (stx k)) = some v ∧ RelD K H d v
  | [], _, _, _, _, e => by cases e
  | (k0, d0) :: kvs, _, k, d, .cons (v := v) h t, e => by
    rw [List.lookup_cons] at e
    by_cases hk : k = k0
    · subst hk
      rw [beq_self_eq_true] at e
      cases e
      refine ⟨v, ?_, h⟩
      show (List.find? (fun kv => decide (kv.1 = (Sum.inr (stx k) : Key))) (((Sum.inr (stx k) : Key), v) :: _)).map (·.2) = some v
      rw [List.find?_cons_of_pos (by simp)]
      rfl
    · rw [beq_false_of_ne hk] at e
      obtain ⟨u, e1, e2⟩ := dct_look t e
      refine ⟨u, ?_, e2⟩
      show (List.find? (fun kv => decide (kv.1 = (Sum.inr (stx k) : Key))) (((Sum.inr (stx k0) : Key), v) :: _)).map (·.2) = some u
      rw [List.find?_cons_of_neg (by
        simp only [decide_eq_true_eq]
        intro z
        injection z with z
        exact hk (stx_inj.mp z).symm)]
      exact e1
theorem dix_rel {K : Frag} {H : Hp} {S : M.Sto} {x y : M.D} {v u : V} {Qd : M.VK} {Q : VK} (r : RelS K H S) (rx : RelD K H x v) (ry : RelD K H y u) (w : M.dixD x y S Qd) (hq : OkV K S H Qd Q) : ∃ a z, v = .ref a ∧ DGet H a u (some z) ∧ Q z H := by
  cases rx with
  | ref a =>
    obtain ⟨k, rfl, w⟩ := onS_of (show M.onS y _ from w)
    obtain ⟨kvs, e1, w⟩ := opt_of w
    obtain ⟨d, e2, w⟩ := opt_of w
    cases ry
    have es : S a = some (.dct kvs) := by
      cases h : S a with
      | none => rw [h] at e1; cases e1
      | some o =>
        rw [h] at e1
        cases o with
        | dct kvs' => cases e1; rfl
        | _ => cases e1
    obtain ⟨vs, h1, h2⟩ := r a _ es
    obtain ⟨z, g1, g2⟩ := dct_look h2 e2
    refine ⟨a, z, rfl, ?_, hq.same r g2 w⟩
    have := DGet.k (k := (Sum.inr (stx k) : Key)) h1
    rw [g1] at this
    exact this
  | _ => exact False.elim w
theorem nosl_of {i : Expr} (h : (match i with | .Starred .. => false | .Slice .. => false | _ => true) = true) : NoSl i := by
  cases i <;> first | (intro _ _; rfl) | cases h
end Snd
namespace Snd
open PySem PySem.Spec PyProof.Rows L2
/-! ### objects of the store -/
theorem insO_some {o : Option M.O} {p : Nat × List (M.Tx × M.D)} (h : M.insO o = some p) : o = some (.ins p.1 p.2) := by
  cases o with
  | none => cases h
  | some o => cases o <;> first | (cases h; rfl) | cases h
theorem onO_of {S : M.Sto} {x : M.D} {P : Nat → List (M.Tx × M.D) → Prop} (h : M.onO S x P) : ∃ a C fs, x = .ref a ∧ S a = some (.ins C fs) ∧ P C fs := by
  obtain ⟨a, rfl, h⟩ := onR_of h
  obtain ⟨p, e, h⟩ := opt_of h
  exact ⟨a, p.1, p.2, rfl, insO_some e, h⟩
def zipF (fs : List (M.Tx × M.D)) (vs : List V) : List (Str × V) := (fs.map fun p => stx p.1).zip vs
section
variable {K : Frag} {H : Hp} {S : M.Sto}
theorem fs_some : ∀ {fs : List (M.Tx × M.D)} {vs : List V} {n : M.Tx} {d : M.D}, RelDs K H (fs.map (·.2)) vs → fs.lookup n = some d → ∃ v, (zipF fs vs).lookup (stx n) = some v ∧ RelD K H d v
  | [], _, _, _, _, e => by cases e
  | (m, d0) :: fs, _, n, d, .cons (v := v) h t, e => by
    rw [List.lookup_cons] at e
    show ∃ v', List.lookup (stx n) ((stx m, v) :: zipF fs _) = some v' ∧ _
    rw [List.lookup_cons]
    by_cases hk : n = m
    · subst hk
      rw [beq_self_eq_true] at e ⊢
      cases e
      exact ⟨v, rfl, h⟩
    · rw [beq_false_of_ne hk] at e
      rw [beq_false_of_ne fun z => hk (stx_inj.mp z)]
      exact fs_some t e
theorem fs_none : ∀ {fs : List (M.Tx × M.D)} {vs : List V} {n : M.Tx}, RelDs K H (fs.map (·.2)) vs → fs.lookup n = none → (zipF fs vs).lookup (stx n) = none
  | [], _, _, _, _ => rfl
  | (m, d0) :: fs, _, n, .cons (v := v) h t, e => by
    rw [List.lookup_cons] at e
    show List.lookup (stx n) ((stx m, v) :: zipF fs _) = none
    rw [List.lookup_cons]
    by_cases hk : n = m
    · subst hk
      rw [beq_self_eq_true] at e
      cases e
    · rw [beq_false_of_ne hk] at e
      rw [beq_false_of_ne fun z => hk (stx_inj.mp z)]
      exact fs_none t e
theorem fs_put : ∀ {fs : List (M.Tx × M.D)} {vs : List V} (n : M.Tx) {d : M.D} {v : V}, RelDs K H (fs.map (·.2)) vs → RelD K H d v → ∃ ws, putF (stx n) v (zipF fs vs) = zipF (M.putK n d fs) ws ∧ RelDs K H ((M.putK n d fs).map (·.2)) ws
  | [], _, n, d, v, .nil, r => ⟨[v], rfl, .cons r .nil⟩
  | (m, d0) :: fs, _, n, d, v, .cons (v := v0) (vs := vs) h t, r => by
    by_cases hk : m = n
    · subst hk
      refine ⟨v :: vs, ?_, ?_⟩
      · show putF (stx m) v ((stx m, v0) :: zipF fs vs) = zipF (M.putK m d ((m, d0) :: fs)) (v :: vs)
        rw [show putF (stx m) v ((stx m, v0) :: zipF fs vs) = if stx m = stx m then (stx m, v) :: zipF fs vs else (stx m, v0) :: putF (stx m) v (zipF fs vs) from rfl, if_pos rfl]
        rw [show M.putK m d ((m, d0) :: fs) = if m = m then (m, d) :: fs else (m, d0) :: M.putK m d fs from rfl, if_pos rfl]
        rfl
      · rw [show M.putK m d ((m, d0) :: fs) = if m = m then (m, d) :: fs else (m, d0) :: M.putK m d fs from rfl, if_pos rfl]
        exact .cons r t
    · obtain ⟨ws, e1, e2⟩ := fs_put n t r
      have hs : ¬ stx m = stx n := fun z => hk (stx_inj.mp z)
      refine ⟨v0 :: ws, ?_, ?_⟩
      · show putF (stx n) v ((stx m, v0) :: zipF fs vs) = zipF (M.putK n d ((m, d0) :: fs)) (v0 :: ws)
        rw [show putF (stx n) v ((stx m, v0) :: zipF fs vs) = if stx m = stx n then (stx m, v) :: zipF fs vs else (stx m, v0) :: putF (stx n) v (zipF fs vs) from rfl, if_neg hs]
        rw [show M.putK n d ((m, d0) :: fs) = if m = n then (m, d) :: fs else (m, d0) :: M.putK n d fs from rfl, if_neg hk, e1]
        rfl
      · rw [show M.putK n d ((m, d0) :: fs) = if m = n then (m, d) :: fs else (m, d0) :: M.putK n d fs from rfl, if_neg hk]
        exact .cons h e2
/-- a new object -/
theorem ins_new {x dx C : Addr} (hI : IsO K C) (r : RelS K H S) (hx : H x = none) (hd : H dx = none) (ne : dx ≠ x) :
    Fr S H (M.upd S x (.ins C [])) (L2.upd (L2.upd H dx (.own x)) x (.ins C dx [])) ∧ RelS K (L2.upd (L2.upd H dx (.own x)) x (.ins C dx [])) (M.upd S x (.ins C [])) := by
  have hx2 : L2.upd H dx (.own x) x = none := by rw [L2.upd_ne (Ne.symm ne)]; exact hx
  have f1 : Fr S H S (L2.upd H dx (.own x)) := Fr.laid hd
  have r1 := r.laid (o := .own x) hd
  have f2 : Fr S (L2.upd H dx (.own x)) (M.upd S x (.ins C [])) (L2.upd (L2.upd H dx (.own x)) x (.ins C dx [])) := Fr.laidS hx2
  refine ⟨f1.trans f2, fun a mo e => ?_⟩
  by_cases ha : a = x
  · subst ha
    rw [mupd_same] at e
    cases e
    exact ⟨dx, [], L2.upd_same, .nil, hI⟩
  · rw [mupd_ne ha] at e
    exact (r1 a mo e).mono r1 f2 fun ob h1 => by rw [L2.upd_ne ha]; exact h1
/-- an object is written -/
theorem ins_wr {a C dx : Addr} {fs fs' : List (M.Tx × M.D)} {vs ws : List V} (r : RelS K H S) (e : S a = some (.ins C fs)) (hd : RelDs K H (fs'.map (·.2)) ws) :
    Fr S H (M.upd S a (.ins C fs')) (L2.upd H a (.ins C dx (zipF fs' ws))) ∧ RelS K (L2.upd H a (.ins C dx (zipF fs' ws))) (M.upd S a (.ins C fs')) := by
  have f : Fr S H (M.upd S a (.ins C fs')) (L2.upd H a (.ins C dx (zipF fs' ws))) := fun b ob hb n => by
    have ne : b ≠ a := fun z => by rw [z, e] at n; cases n
    exact ⟨by rw [L2.upd_ne ne]; exact hb, by rw [mupd_ne ne]; exact n⟩
  refine ⟨f, fun b mo e2 => ?_⟩
  by_cases hb : b = a
  · subst hb
    rw [mupd_same] at e2
    cases e2
    obtain ⟨_, _, _, _, h3⟩ := r _ _ e
    exact ⟨dx, ws, L2.upd_same, hd.mono r f, h3⟩
  · rw [mupd_ne hb] at e2
    exact (r b mo e2).mono r f fun ob h1 => by rw [L2.upd_ne hb]; exact h1
end
theorem attr_bare {e : Expr} {f : Str} {env : Env} {w : Sem Value} (h : bareB e = true) : attributeBase e f env w = w := by
  cases e <;> first | rfl | cases h | (rename_i f _ _ _; cases f <;> first | rfl | cases h)
theorem attr_bareK {e : Expr} {f : Str} {env : Env} {w : Sem Value} (h : bareK e = true) : attributeBase e f env w = w := by
  unfold bareK at h
  split at h
  · rfl
  · rfl
  · exact attr_bare h
section
variable {c : Cn} {k : Nat} {N : List Str} {sc : Scope} {X : Cx} {W : WX}
/-- e.n -/
theorem fld_rel (o : Ok c k N sc X W) {H : Hp} {S : M.Sto} {x : M.D} {v : V} {n : M.Tx} {Qd : M.VK} {Q : VK} (hn : n ∈ c.T.fds) (r : RelS c.K H S) (rx : RelD c.K H x v) (w : M.fldD c.G n x S Qd) (hq : OkV c.K S H Qd Q) :
    ∃ a C dx fs u, v = .ref a ∧ H a = some (.ins C dx fs) ∧ Cls X.K C ∧ NoAttr X.K C (stx n) ∧ fs.lookup (stx n) = some u ∧ Q u H := by
  obtain ⟨a, C, fs, rfl, e, ⟨kk, ek⟩, w⟩ := onO_of w
  obtain ⟨d, el, q⟩ := opt_of w
  cases rx
  obtain ⟨dx, vs, h1, h2, h3⟩ := r a _ e
  obtain ⟨u, g1, g2⟩ := fs_some h2 el
  have oc := o.oc.ok kk C ek
  rw [o.eK]
  exact ⟨a, C, dx, _, u, rfl, h1, oc.cl, oc.fd n hn, g1, hq.same r g2 q⟩
/-- e.n = d -/
theorem fset_rel (o : Ok c k N sc X W) {H : Hp} {S : M.Sto} {x d : M.D} {v u : V} {n : M.Tx} {P : M.Sto → Prop} (hn : n ∈ c.T.fds) (r : RelS c.K H S) (rx : RelD c.K H x v) (ru : RelD c.K H d u) (w : M.fsetD c.G n x d S P) :
    ∃ a C dx fs, v = .ref a ∧ H a = some (.ins C dx fs) ∧ Cls X.K C ∧ NoAttr X.K C (stx n) ∧ fs.length < 1000 ∧ ∃ S', Fr S H S' (L2.upd H a (.ins C dx (putF (stx n) u fs))) ∧ RelS c.K (L2.upd H a (.ins C dx (putF (stx n) u fs))) S' ∧ P S' := by
  obtain ⟨a, rfl, w⟩ := onR_of w
  obtain ⟨p, e, ⟨kk, ek⟩, hl, q⟩ := opt_of w
  have e := insO_some e
  obtain ⟨C, fs⟩ := p
  cases rx
  obtain ⟨dx, vs, h1, h2, h3⟩ := r a _ e
  obtain ⟨ws, g1, g2⟩ := fs_put n h2 ru
  have oc := o.oc.ok kk C ek
  rw [o.eK]
  have lz : (zipF fs vs).length < 1000 := by
    unfold zipF
    rw [List.length_zip, List.length_map]
    exact Nat.lt_of_le_of_lt (Nat.min_le_left _ _) hl
  obtain ⟨f, r'⟩ := ins_wr (dx := dx) (vs := vs) r e g2
  refine ⟨a, C, dx, zipF fs vs, rfl, h1, oc.cl, oc.fd n hn, lz, _, ?_, ?_, q⟩
  · rw [g1]; exact f
  · rw [g1]; exact r'
/-- a method, or a property's getter, by the class's number -/
theorem Ok.meth (o : Ok c k N sc X W) {kk : Nat} {m : M.Tx} {n : Nat} (em : c.G.mt kk m = some n) :
    ∃ x f fd ps, ((kk, m), n) ∈ c.T.mtb ∧ Def X.K X.mg c.T n x f fd ps ∧ FnG X.prog X.w X.K X.mg X.base false k f fd ps (lift c (M.cl (c.G.fn n))) := by
  obtain ⟨g1, g2, _, x, hx⟩ := o.oc.gm kk m n em
  obtain ⟨f, fd, ps, D, F⟩ := o.fns n x hx
  rw [g2] at F
  rw [← o.eK, ← o.em] at D F
  exact ⟨x, f, fd, ps, g1, D, F⟩
theorem Ok.sts (o : Ok c k N sc X W) {kk : Nat} {m : M.Tx} {n : Nat} (em : c.G.mt kk m = some n) : c.T.sts.contains n = M.starB m := (o.oc.gm kk m n em).2.2.1
/-- what a call of a method tells -/
def RO (c : Cn) (m : M.Tx) (v : V) (vs : List V) (H : Hp) (Q : VK) (E : XK) : Prop := ∃ x ds S Qd Xd, RelS c.K H S ∧ RelD c.K H x v ∧ RelDs c.K H ds vs ∧ M.mcall c.G m x ds S Qd Xd ∧ OkV c.K S H Qd Q ∧ OkX c S H Xd E
theorem ro_at (o : Ok c k N sc X W) {m : M.Tx} {v : V} {vs : List V} {H : Hp} {Q : VK} {E : XK} (h : RO c m v vs H Q E) :
    ∃ a C dx fs kk n, v = .ref a ∧ H a = some (.ins C dx fs) ∧ fs.lookup (stx m) = none ∧ c.G.ob kk = some C ∧ OC c.K c.T c.G kk C ∧ c.G.mt kk m = some n ∧ lift c (M.cl (c.G.fn n)) (v :: vs) H Q E := by
  obtain ⟨x, ds, S, Qd, Xd, r, rx, rds, w, hq, hx⟩ := h
  obtain ⟨a, C, fs, rfl, e, hn, kk, ek, w⟩ := onO_of w
  obtain ⟨n, en, w⟩ := opt_of w
  cases rx
  obtain ⟨dx, ws, h1, h2, h3⟩ := r a _ e
  exact ⟨a, C, dx, _, kk, n, rfl, h1, fs_none h2 hn, ek, o.oc.ok kk C ek, en, _, S, Qd, Xd, .cons (.ref a) rds, r, w, hq, hx⟩
/-- the method's code at the object: the call that a dunder's lookup makes -/
theorem ro_run (o : Ok c k N sc X W) (hh : (!c.T.hot) = true) {m : M.Tx} (hp : m ∉ c.T.prs) (hs : M.keyB m = false) {v : V} {vs : List V} {u : Value} {us : List Value} {pins : List (Addr × Obj)} {σ : Sl} {H : Hp} {s : Shared} {Q : VK} (I : Inv X pins σ H s) (rv : RelV v u) (r : Vals vs us) (h : RO c m v vs H Q (WE W σ)) :
    ∃ a C dx fs f kk, v = .ref a ∧ u = .ref a ∧ H a = some (.ins C dx fs) ∧ fs.lookup (stx m) = none ∧ c.G.ob kk = some C ∧ OC X.K c.T c.G kk C ∧ Meth X.K C (stx m) f ∧ PySem.W.fnIn X.K f = true ∧ wpAny (model X.prog X.w) X.A (call (.ref f) (u :: us)) (EP X pins σ Q) X.xe s := by
  obtain ⟨a, C, dx, fs, kk, n, rfl, ha, hl, ek, oc, en, w⟩ := ro_at o h
  obtain ⟨x, f, fd, ps, _, D, F⟩ := o.meth en
  rw [← o.eK] at oc
  obtain ⟨q, eq, hm, hf⟩ := oc.mt m n hp hs en
  have ef := D.at_ q eq
  subst ef
  obtain rfl : u = Value.ref a := rv
  have r2 : Vals (V.ref a :: vs) (Value.ref a :: us) := .cons rfl r
  have hlen : (Value.ref a :: us).length = ps.length := by rw [← r2.length]; exact F.len _ _ _ _ w
  have b := D.bd ((o.sts en).trans (M.keyB_star hs)) s (Value.ref a :: us) I.kIn (by rw [List.append_nil]; exact hlen)
  rw [List.append_nil] at b
  have hc : c.T.hot = false := not1 hh
  have rm : RoomB false k X.A := by have := o.room; rw [hc] at this; exact this
  exact ⟨a, C, dx, fs, _, kk, rfl, rfl, ha, hl, ek, oc, hm, hf, run_fnG (args := ⟨Value.ref a :: us, []⟩) (E := WE W) F rm o.gd (fun z => nomatch z) b (pass_ok o σ) I r2 w⟩
theorem inst_at {pins : List (Addr × Obj)} {σ : Sl} {H : Hp} {s : Shared} {a C dx : Addr} {fs : List (Str × V)} (I : Inv X pins σ H s) (h : H a = some (.ins C dx fs)) : ∃ od, PySem.W.InstAt s.heap a (PySem.W.instObj C dx) C (some od) := by
  obtain ⟨mA, O, _⟩ := ins_get I.hok h
  obtain ⟨od, J, _⟩ := O.look
  exact ⟨od, J⟩
end
end Snd
namespace PySem.W
open Lean Elab Tactic Meta PySem PySem.Calls PyProof.Rows
section
variable {prog : Program} {w : World} {A : Around} {E : Value → Shared → Prop} {s : Shared} {K : Frag} {x C L f : Addr} {h₀ : Heap} {m : Str → Option Value} {ox : Obj} {od : Option Obj} {T : String}
/-- a & b by the left one's own method, b of a built-in type wherever it stands -/
theorem sno_binT {op : Operator} {b : Value} {fo ro rc : Option Value} {Q : Value → Shared → Prop} (F : Fr h₀ L s.heap m) (X₀ : K.In h₀) (I : InstAt s.heap x ox C od) (hb : Looks (model prog w) s.heap (typeOf b) (.type T)) (hc : selfFirst K C = true)
    (hs : findIn K (.ref C) (PySem.dunder op.info.2) = some (some (.ref f))) (hf : isFn K (.ref f) = true) (hr : findIn K (.ref C) (dunderR op.info.2) = some rc) (hp : rc = none ∨ ∃ g : Addr, rc = some (.ref g))
    (h1 : findIn K (.type T) (PySem.dunder op.info.2) = some fo) (h2 : findIn K (.type T) (dunderR op.info.2) = some ro) (hsub : subIn K (.type T) (.ref C) = some false)
    (h : wpAny (model prog w) A (call (.ref f) [.ref x, b]) (CmpBack Q) E s) : wpAny (model prog w) A (binaryOp op (.ref x) b) Q E s := by
  have X := X₀.keeps F.keep
  obtain ⟨cd, rest, hcd, hm⟩ := ksp_first hc
  rcases hi : op.info with ⟨sym, nm'⟩
  rw [hi] at hs hr h1 h2
  dsimp only at hs hr h1 h2
  have one := ksp_try X I hs hf h
  obtain ⟨hh, g, d, tt, os⟩ := s
  have L1 : Looks (model prog w) hh (typeOf (.ref x)) (.ref C) := I.type
  have L2 : Looks (model prog w) hh (typeOf b) (.type T) := hb
  have L3 : Looks (model prog w) hh (fillsNumberSlot (.ref C) nm') true := fills_K X hcd hm hs
  have L4 : Looks (model prog w) hh (fillsNumberSlot (.type T) nm') ((fo.isSome && !isSeqSlot fo) || (ro.isSome && !isSeqSlot ro)) := ksp_fillsT X h1 h2
  have L5 : Looks (model prog w) hh (isSubtype (.type T) (.ref C)) false := looks_subIn X hsub
  have L6 : Looks (model prog w) hh (numberSlotInPython (.ref C) nm') true := ksp_inPy X hs hr hp
  have L7 : Looks (model prog w) hh (numberSlotInPython (.type T) nm') false := Looks.of_pure rfl
  have L8 : Looks (model prog w) hh (typeLookup (.type T) (dunderR nm')) ro := looks_findIn X h2
  generalize ((fo.isSome && !isSeqSlot fo) || (ro.isSome && !isSeqSlot ro)) = right at L4
  have hne : (Value.ref C == Value.type T) = false := Bool.eq_false_iff.mpr fun q => by cases beq_iff_eq.mp q
  simp only [binaryOp, hi]
  refine wpAny_holding (wpAny_bind ?_)
  unfold binaryOp1
  refine wpAny_bind (L1.at (wpAny_bind (L2.at (wpAny_bind (L3.at ?_)))))
  simp only [hne, Bool.false_eq_true, if_false]
  cases right with
  | false =>
    ksp_lk
    refine wpAny_mono one (fun r s' hr' => ?_) fun _ _ e => e
    obtain ⟨v, rfl, hq⟩ := hr'
    ksp_lk
    exact hq
  | true =>
    ksp_lk
    refine wpAny_mono one (fun r s' hr' => ?_) fun _ _ e => e
    obtain ⟨v, rfl, hq⟩ := hr'
    ksp_lk
    exact hq
/-- .. b of the object's own class -/
theorem sno_binS {op : Operator} {b : Value} {Q : Value → Shared → Prop} (F : Fr h₀ L s.heap m) (X₀ : K.In h₀) (I : InstAt s.heap x ox C od) (hb : Looks (model prog w) s.heap (typeOf b) (.ref C)) (hc : selfFirst K C = true)
    (hs : findIn K (.ref C) (PySem.dunder op.info.2) = some (some (.ref f))) (hf : isFn K (.ref f) = true)
    (h : wpAny (model prog w) A (call (.ref f) [.ref x, b]) (CmpBack Q) E s) : wpAny (model prog w) A (binaryOp op (.ref x) b) Q E s := by
  have X := X₀.keeps F.keep
  obtain ⟨cd, rest, hcd, hm⟩ := ksp_first hc
  rcases hi : op.info with ⟨sym, nm'⟩
  rw [hi] at hs
  dsimp only at hs
  have one := ksp_try X I hs hf h
  obtain ⟨hh, g, d, tt, os⟩ := s
  have L1 : Looks (model prog w) hh (typeOf (.ref x)) (.ref C) := I.type
  have L2 : Looks (model prog w) hh (typeOf b) (.ref C) := hb
  have L3 : Looks (model prog w) hh (fillsNumberSlot (.ref C) nm') true := fills_K X hcd hm hs
  have he : (Value.ref C == Value.ref C) = true := beq_iff_eq.mpr rfl
  simp only [binaryOp, hi]
  refine wpAny_holding (wpAny_bind ?_)
  unfold binaryOp1
  refine wpAny_bind (L1.at (wpAny_bind (L2.at (wpAny_bind (L3.at ?_)))))
  simp only [he, if_true]
  ksp_lk
  refine wpAny_mono one (fun r s' hr' => ?_) fun _ _ e => e
  obtain ⟨v, rfl, hq⟩ := hr'
  ksp_lk
  exact hq
end
end PySem.W
namespace PySem.W
open Lean Elab Tactic Meta PySem PySem.Calls PyProof.Rows
open Builtin
section
variable {prog : Program} {w : World} {A : Around} {E : Value → Shared → Prop} {s : Shared} {K : Frag} {x C L f : Addr} {h₀ : Heap} {m : Str → Option Value} {ox : Obj} {od : Option Obj} {T : String}
/-- a slot of object, found on an own class -/
theorem ifBound_B {M : Model} {name : Str} {id : String} {args : List Value} {Q : Option Value → Shared → Prop} (X : K.In s.heap) (I : InstAt s.heap x ox C od) (hs : findIn K (.ref C) name = some (some (.builtin id))) (S : ∀ self, bindSpecial (.builtin id) self = pure (.builtin id, [self]))
    (h : wpAny M A (call (.builtin id) (.ref x :: args)) (fun v => Q (some v)) E s) : wpAny M A (callSpecialIfBound? (.ref x) name args) Q E s := by
  simp only [callSpecialIfBound?, bindSpecialIfBound?]
  refine wpAny_holding (wpAny_bind (wpAny_bind (wpAny_bind (I.type.here ((looks_findIn X hs).here ?_)))))
  simp only [S]
  refine wpAny_bind (wpAny_askSetting (wpAny_ite ?_))
  have fin : wpAny M A (call (.builtin id) ([.ref x] ++ args) >>= fun v => pure (some v)) Q E s := wpAny_bind (wpAny_mono h (fun v s' h' => wpAny_pure h') fun _ _ h' => h')
  split
  · exact wpAny_bind (wpAny_pure (wpAny_pure fin))
  · exact wpAny_tryCatch (wpAny_bind (wpAny_pure (wpAny_pure fin)))
theorem check_B {M : Model} {id owner n : String} {rest : List Value} {Q : Unit → Shared → Prop} (X : K.In s.heap) (I : InstAt s.heap x ox C od) (hm : mroIn K C (.type owner) = some true) (hk : builtinKind id = some .slot) (hs : splitId id = some (owner, n))
    (ha : argsOk id ⟨.ref x :: rest, []⟩) (hq : Q () s) : wpAny M A (checkBuiltinCall id ⟨.ref x :: rest, []⟩) Q E s := by
  simp only [checkBuiltinCall, hk, hs]
  have sub : Looks M s.heap (isInstance (.ref x) (.type owner)) true := I.type.andThen (looks_mroIn X hm)
  refine wpAny_bind (sub.here ?_)
  simp only [Bool.not_true, Bool.false_eq_true, if_false]
  cases hsig : Manifest.signature? id with
  | none => exact wpAny_pure hq
  | some sig =>
    simp only [argsOk, hsig] at ha
    have h2 : Bind.checkArgs id sig ⟨.ref x :: rest, []⟩ = pure () := ha
    first
    | (rw [h2]; exact wpAny_pure hq)
    | (show wpAny M A (Bind.checkArgs id sig ⟨.ref x :: rest, []⟩) Q E _; rw [h2]; exact wpAny_pure hq)
theorem entry_ne {b : Value} {Q : Fin → Shared → Prop} (X : K.In s.heap) (I : InstAt s.heap x ox C od) (he : findIn K (.ref C) "__eq__" = some (some (.ref f))) (hf : isFn K (.ref f) = true) (hu : A.units < cLine)
    (hcall : wpAny (model prog w) A (call (.ref f) [.ref x, b]) (fun v s' => ∃ bb, v = .bool bb ∧ Q (.done (.ret (.bool (!bb)))) s') E s) :
    wpAny (model prog w) A (Builtin.«object.__ne__» ⟨[.ref x, b], []⟩) Q E s := by
  unfold Builtin.«object.__ne__»
  repeat (first
    | with_reducible refine wpAny_cRoomFor hu ?_
    | (refine wpAny_bind (m := callSpecialIfBound? (.ref x) (Str.ofString "__eq__") [b])
        (ifBound_K X I he hf (wpAny_mono hcall (fun r s' hr => by
          obtain ⟨bb, rfl, hq⟩ := hr
          repeat (first | exact hq | exact wpAny_pure hq | exact wpAny_truthy_bool hq | (refine wpAny_bind (m := truthy (.bool _)) (wpAny_truthy_bool ?_)) | wp_step)) fun _ _ e => e)))
    | wp_step)
theorem ne_K {b tb : Value} {Q : Value → Shared → Prop} (hu : A.units + 1 < cLine) (Fh : Fr h₀ L s.heap m) (X₀ : K.In h₀) (I : InstAt s.heap x ox C od) (hb : Looks (model prog w) s.heap (typeOf b) tb) (hn : notFirst K C tb = true)
    (hs : findIn K (.ref C) "__ne__" = some (some (.builtin "object.__ne__"))) (hm : mroIn K C (.type "object") = some true) (he : findIn K (.ref C) "__eq__" = some (some (.ref f))) (hf : isFn K (.ref f) = true)
    (h : wpAny (model prog w) A.in1 (call (.ref f) [.ref x, b]) (fun v s' => ∃ bb, v = .bool bb ∧ Q (.bool (!bb)) s') E s) : wpAny (model prog w) A (richCompare .NotEq (.ref x) b) Q E s := by
  have X := X₀.keeps Fh.keep
  have one : wpAny (model prog w) A (tryCompare (.ref x) "__ne__" b) (fun r s' => ∃ v, r = some v ∧ Q v s') E s := by
    simp only [tryCompare]
    refine wpAny_bind (ifBound_B X I hs PySem.F.cmp_object.ne.bind (wpAny_call (codeAny_call_builtin PySem.F.cmp_object.ne.plain PySem.F.cmpEntry_ne
      (check_B X I hm PySem.F.cmpKind_ne PySem.F.cmpSplit_ne (PySem.F.cmpArgs_ne _ _) (entry_ne (A := A.in1) X I he hf hu (wpAny_mono h (fun v s' hv => ?_) fun _ _ e => e))))))
    obtain ⟨bb, rfl, hq⟩ := hv
    first | exact ⟨bb, rfl, wpAny_pure ⟨_, rfl, hq⟩⟩ | exact ⟨bb, rfl, wpAny_pure (wpAny_pure ⟨_, rfl, hq⟩)⟩ | exact ⟨bb, rfl, ⟨_, rfl, hq⟩⟩
  unfold richCompare
  simp only [oneThing_ref]
  refine wpAny_holding (wpAny_bind (wpAny_cRoomFor (Nat.lt_of_succ_lt hu) ?_))
  rw [cmpInfo_NotEq]
  dsimp only
  refine wpAny_bind (I.type.here (wpAny_bind (hb.here ?_)))
  split
  · rename_i q
    have e : subIn K tb (.ref C) = some false := by
      rcases Bool.or_eq_true_iff.mp hn with e | e
      · rw [beq_iff_eq.mp e] at q; simp at q
      · exact beq_iff_eq.mp e
    refine wpAny_bind ((looks_subIn X e).here ?_)
    simp only [Bool.false_eq_true, if_false]
    refine wpAny_bind (wpAny_mono one (fun r s' z => ?_) fun _ _ e => e)
    obtain ⟨v, rfl, hq⟩ := z
    exact wpAny_pure hq
  · refine wpAny_bind (wpAny_pure ?_)
    simp only [Bool.false_eq_true, if_false]
    refine wpAny_bind (wpAny_mono one (fun r s' z => ?_) fun _ _ e => e)
    obtain ⟨v, rfl, hq⟩ := z
    exact wpAny_pure hq
end
end PySem.W
namespace Snd
open PySem PySem.Spec PyProof.Rows L2
section
variable {c : Cn} {k : Nat} {N : List Str} {sc : Scope} {X : Cx} {W : WX}
theorem no_cx {P : Program} {w : World} {outer : List Env} {H : Hp} {s s' : Shared} {u : Value} (h : L2N.CX P w outer H s (fun _ _ _ => False) u s') : False := by
  obtain ⟨_, _, _, _, _, _, _, _, _, _, _, _, z⟩ := h
  exact z
/-- o.p, a property -/
theorem pe_prpM (o : Ok c k N sc X W) (hh : (!c.T.hot) = true) {e : Expr} {n : M.Tx} {pos : Pos} {ta : TE} (hn : n ∈ c.T.prs) (hb : bareB e = true) (he : PE X e ta) :
    PE X (.Attribute e (stx n) pos) (fun σ H Q => ta σ H fun v H1 => RO c n v [] H1 Q (fun _ _ _ => False)) := by
  refine ⟨fun pins s σ H Q I h => ?_⟩
  refine attr_of (attr_bare hb) (thn (he.run pins s σ H _ I h) fun u s1 ⟨v, H1, I1, rv, q⟩ => ?_)
  obtain ⟨a, C, dx, fs, kk, m, rfl, ha, hl, ek, oc, en, w⟩ := ro_at o q
  obtain ⟨x, f, fd, ps, _, D, F⟩ := o.meth en
  rw [← o.eK] at oc
  obtain ⟨q', p, eq, hp⟩ := oc.pr n m hn en
  have ef := D.at_ q' eq
  subst ef
  obtain rfl : u = Value.ref a := rv
  obtain ⟨od, J⟩ := inst_at I1 ha
  obtain ⟨rest, hrec⟩ := hp.rec_
  have I2 := I1.tok (s1.toks + 1)
  have r2 : Vals [V.ref a] [Value.ref a] := .cons rfl .nil
  have hlen : [Value.ref a].length = ps.length := by rw [← r2.length]; exact F.len _ _ _ _ w
  have b := D.bd ((o.sts en).trans (M.keyB_star (oc.pn n hn))) { s1 with toks := s1.toks + 1 } [Value.ref a] I2.kIn (by rw [List.append_nil]; exact hlen)
  rw [List.append_nil] at b
  have hc : c.T.hot = false := not1 hh
  have rm : RoomB false k X.A.in1 := by have := o.roomX.in1; rw [hc] at this; exact this
  have hcl : (PySem.W.clsIn X.K C).isSome = true := by
    obtain ⟨cd, hc, _⟩ := PySem.W.any_some oc.cl.hd
    rw [hc]
    rfl
  refine PySem.W.get_bind I1.kIn J (PySem.W.plainGet_of (oc.cl.get (stx n))).1 (PySem.W.findObj_data hcl hp.at_ hp.get hp.tak) (PySem.W.plainGet_of (oc.cl.get (stx n))).2 (wpAny_call (PySem.W.prop_get (s := { s1 with toks := s1.toks + 1 }) I1.kIn hrec ?_))
  refine codeAny_mono (F.run X.A.in1 X.stack { s1 with toks := s1.toks + 1 } H1 ⟨[.ref a], []⟩ [.ref a] [.ref a] Q _ rm o.gd (fun z => nomatch z) I2.env0.in1 b r2 w) fun r s' hq => ?_
  cases r with
  | error er => exact False.elim (no_cx hq)
  | ok fl =>
    cases fl with
    | ret u =>
      obtain ⟨v, H', I3, rv, q3⟩ := I2.after hq
      show wpAny _ _ (handedOut u) _ _ _
      rw [PySem.W.handedOut_of (handed_of rv)]
      exact wpAny_pure ⟨v, H', I3, rv, q3⟩
    | next => exact False.elim hq
    | brk => exact False.elim hq
    | cont => exact False.elim hq
/-! ### new objects -/
def RN (c : Cn) (kk : Nat) (gV : V → List V) (H : Hp) (Q : VK) (E : XK) : Prop := ∃ (gD : M.D → List M.D) (S : M.Sto) (Qd : M.VK) (Xd : M.XK), RelS c.K H S ∧ (∀ p S' H', Fr S H S' H' → RelDs c.K H' (gD (.ref p)) (gV (.ref p))) ∧ M.newD c.G kk gD S Qd Xd ∧ OkV c.K S H Qd Q ∧ OkX c S H Xd E
theorem run_new (o : Ok c k N sc X W) (hh : (!c.T.hot) = true) {kk : Nat} {C : Addr} {gV : V → List V} {gU : Value → List Value} {us : List Value} {kw : List (Str × Value)} (hp : M.nmInit ∉ c.T.prs) (ek : c.G.ob kk = some C) (hr : ∀ p : Addr, Vals (gV (.ref p)) (gU (.ref p)))
    (hb : ∀ n y f fd ps, ((kk, M.nmInit), n) ∈ c.T.mtb → c.T.sts.contains n = false → Def X.K X.mg c.T n y f fd ps → ∀ (p : Addr) (s : Shared), X.K.In s.heap → (gU (.ref p)).length = ps.length → BindsTo s fd ⟨.ref p :: us, kw⟩ (ps.zip (gU (.ref p))))
    {pins : List (Addr × Obj)} {σ : Sl} {H : Hp} {s : Shared} {Q : VK} (I : Inv X pins σ H s) (h : RN c kk gV H Q (WE W σ)) : wpAny (model X.prog X.w) X.A (call (.ref C) us kw) (EP X pins σ Q) X.xe s := by
  obtain ⟨gD, S, Qd, Xd, r, rg, w, hq, hx⟩ := h
  obtain ⟨n, en, w⟩ := opt_of (w C ek)
  obtain ⟨x, f, fd, ps, hm, D, F⟩ := o.meth en
  have oc := o.oc.ok kk C ek
  rw [← o.eK] at oc
  obtain ⟨q', eq, mt, hfn⟩ := oc.mt M.nmInit n hp rfl en
  have ef := D.at_ q' eq
  subst ef
  have hn : H (s.heap.objs.size + 1) = none := I.hok.fresh (Nat.le_succ _)
  have hd : H s.heap.objs.size = none := I.hok.fresh (Nat.le_refl _)
  have ne : s.heap.objs.size ≠ s.heap.objs.size + 1 := Nat.ne_of_lt (Nat.lt_succ_self _)
  obtain ⟨f0, r0⟩ := ins_new (C := C) (o.oc.ok kk C ek).iso r hn hd ne
  have want : lift c (M.cl (c.G.fn n)) (gV (.ref (s.heap.objs.size + 1))) (L2.upd (L2.upd H s.heap.objs.size (.own (s.heap.objs.size + 1))) (s.heap.objs.size + 1) (.ins C s.heap.objs.size [])) (fun v H2 => v = .non ∧ Q (.ref (s.heap.objs.size + 1)) H2) (WE W σ) := by
    refine ⟨_, _, _, Xd, rg _ _ _ f0, r0, w (s.heap.objs.size + 1) (r.none hn), fun d S' v H' f' r' rd ⟨hi, q⟩ => ?_, hx.after f0⟩
    cases rd with
    | non => exact ⟨rfl, hq _ S' _ H' (f0.trans f') r' (.ref _) q⟩
    | _ => cases hi
  have I2 := Inv.made (C := C) I
  have r2 := hr (s.heap.objs.size + 1)
  have hlen : (gU (.ref (s.heap.objs.size + 1))).length = ps.length := by rw [← r2.length]; exact F.len _ _ _ _ want
  have hc : c.T.hot = false := not1 hh
  have rm : RoomB false k (X.A.under (.builtin "type.__call__" ⟨.ref C :: us, kw⟩)) := by have := o.roomX.make C us kw; rw [hc] at this; exact this
  have gd : (X.A.under (.builtin "type.__call__" ⟨.ref C :: us, kw⟩)).guards = some [] := by
    have := o.gd
    first | exact this | (simp [Around.under, Code.isCreation, Code.isGuard, guardIds, this])
  have hI : PySem.W.findIn X.K (.ref C) "__init__" = some (some (.ref (plA X.K q'))) := mt.at_
  refine wpAny_call (make_map (f := plA X.K q') I.kIn oc.mks hI (beq_iff_eq.mp mt.fn) (codeAny_mono (F.run _ X.stack _ _ ⟨Value.ref (s.heap.objs.size + 1) :: us, kw⟩ (gU (.ref (s.heap.objs.size + 1))) (gV (.ref (s.heap.objs.size + 1))) _ (WE W σ) rm gd (fun z => nomatch z)
    (I2.env0.make C us kw) (hb n x _ fd ps hm ((o.sts en).trans rfl) D _ _ I2.kIn hlen) r2 want) fun r s' hq' => ?_))
  cases r with
  | error e => exact pass_ok o σ pins _ _ e s' I2 hq'
  | ok fl =>
    cases fl with
    | ret u =>
      obtain ⟨v, H', I3, rv, ev, q3⟩ := I2.after hq'
      subst ev
      exact ⟨rv, ⟨V.ref (s.heap.objs.size + 1), H', I3, rfl, q3⟩⟩
    | next => exact False.elim hq'
    | brk => exact False.elim hq'
    | cont => exact False.elim hq'
theorem cls_at (o : Ok c k N sc X W) {kk : Nat} {x : Str} (hx : c.T.ocs[kk]? = some x) : ∃ C, X.mg x = some (.ref C) ∧ c.G.ob kk = some C ∧ PySem.W.keepIn X.K (.ref C) = true := by
  obtain ⟨C, h1, h2⟩ := o.oc.nm kk x hx
  rw [o.em, o.eK]
  exact ⟨C, h1, h2, (o.oc.ok kk C h2).kp⟩
theorem pe_newM (o : Ok c k N sc X W) (hh : (!c.T.hot) = true) {kk : Nat} {x : Str} {es : List Expr} {p pos : Pos} {t : TA} (hx : c.T.ocs[kk]? = some x) (hp' : M.nmInit ∉ c.T.prs) (hg : glB sc x = true) (hd : (x == ("__debug__" : Str)) = false) (ha : PA X es t) (hp : es.all plB = true) (h0 : es = [] → ∀ σ H Q, t σ H Q → Q [] H) :
    PE X (.Call (.Name x p) es [] pos) (fun σ H Q => t σ H fun vs H1 => RN c kk (fun p => p :: vs) H1 Q (WE W σ)) := by
  obtain ⟨C, m1, ek, kp⟩ := cls_at o hx
  have go : ∀ {pins : List (Addr × Obj)} {s : Shared} {σ : Sl} {H : Hp} {Q : VK} {us : List Value} {vs : List V}, Inv X pins σ H s → Vals vs us → RN c kk (fun p => p :: vs) H Q (WE W σ) → wpAny (model X.prog X.w) X.A (call (.ref C) us) (EP X pins σ Q) X.xe s := by
    intro pins s σ H Q us vs I r q
    refine run_new o hh (gU := fun p => p :: us) hp' ek (fun p => Paired.cons (show RelV (V.ref p) (Value.ref p) from rfl) r) (fun n y f fd ps _ hs D p s hK hl => ?_) I q
    have b := D.bd hs s (Value.ref p :: us) hK (by rw [List.append_nil]; exact hl)
    rw [List.append_nil] at b
    exact b
  refine ⟨fun pins s σ H Q I h => ?_⟩
  refine wpAny_Call_Name_kw (ld_glob I (o.gl hg) m1 ?_ hd)
  cases es with
  | nil =>
    refine PySem.W.callWith_K0 I.kIn kp ?_
    exact go I .nil (h0 rfl _ _ _ h)
  | cons e es =>
    have hp' := and2 (show (plB e && es.all plB) = true from hp)
    exact PySem.W.callWith_K (h₀ := X.base) I.ok.mod.kin kp (thn (ha.run pos pins s σ H _ I h) fun us s1 ⟨vs, H1, I1, r, q⟩ => ⟨I1.kIn, go I1 r q⟩) (plB_star hp'.1) (plB_all hp'.2)
theorem pe_newkM (o : Ok c k N sc X W) (hh : (!c.T.hot) = true) {kk m : Nat} {perm : List Nat} {nms : List Str} {x : Str} {es : List Expr} {kws : List Keyword} {p pos : Pos} {t tk : TA} (hx : c.T.ocs[kk]? = some x) (hp' : M.nmInit ∉ c.T.prs) (hg : glB sc x = true) (hd : (x == ("__debug__" : Str)) = false) (ha : PA X es t) (hp : es.all plB = true) (h0 : es = [] → ∀ σ H Q, t σ H Q → Q [] H)
    (hk : PK X kws tk) (hn : kwsB kws = some nms) (hm : ∀ e ∈ c.T.mtb, e.1 = (kk, M.nmInit) → (e.2, m + 1, nms, perm) ∈ c.T.kws) :
    PE X (.Call (.Name x p) es kws pos) (fun σ H Q => t σ H fun vs H1 => tk σ H1 fun zs H2 => vs.length = m ∧ zs.length = nms.length ∧ RN c kk (fun p => perm.filterMap fun i => ((p :: vs) ++ zs)[i]?) H2 Q (WE W σ)) := by
  obtain ⟨C, m1, ek, kp⟩ := cls_at o hx
  obtain ⟨k1, k2, k3, k4⟩ := kws_len hn pos X.env
  have go : ∀ {pins : List (Addr × Obj)} {s : Shared} {σ : Sl} {H : Hp} {Q : VK} {us ws : List Value} {vs zs : List V}, Inv X pins σ H s → Vals vs us → Vals zs ws → vs.length = m → zs.length = nms.length → RN c kk (fun p => perm.filterMap fun i => ((p :: vs) ++ zs)[i]?) H Q (WE W σ) →
      wpAny (model X.prog X.w) X.A (call (.ref C) us (nms.zip ws)) (EP X pins σ Q) X.xe s := by
    intro pins s σ H Q us ws vs zs I r rz l1 l2 q
    refine run_new o hh (gU := fun p => perm.filterMap fun i => ((p :: us) ++ ws)[i]?) hp' ek (fun p => vals_fm (Vals.append (Paired.cons (show RelV (V.ref p) (Value.ref p) from rfl) r) rz) perm) (fun n y f fd ps he _ D p s hK hl => ?_) I q
    exact D.kb (m + 1) nms perm (hm _ he rfl) s (Value.ref p :: us) ws hK (by rw [List.length_cons, ← r.length, l1]) (by rw [← rz.length]; exact l2)
  refine ⟨fun pins s σ H Q I h => ?_⟩
  refine wpAny_Call_Name_kw (ld_glob I (o.gl hg) m1 ?_ hd)
  cases es with
  | nil =>
    refine PySem.W.callWith_KW0 (h₀ := X.base) I.ok.mod.kin kp k1 (thn (hk.run pos pins s σ H _ I (h0 rfl _ _ _ h)) fun ws s2 ⟨zs, H2, I2, rz, q2⟩ => ⟨I2.kIn, ?_⟩) (by show (false || _) = false; rw [k3]; rfl)
    rw [k2]
    exact go I2 .nil rz q2.1 q2.2.1 q2.2.2
  | cons e es =>
    have hp' := and2 (show (plB e && es.all plB) = true from hp)
    refine PySem.W.callWith_KW (h₀ := X.base) I.ok.mod.kin kp k1 (thn (ha.run pos pins s σ H _ I h) fun us s1 ⟨vs, H1, I1, r, q⟩ => ?_) (by rw [plB_all hp, k3]; rfl) (plB_star hp'.1)
    refine thn (hk.run pos pins s1 σ H1 _ I1 q) fun ws s2 ⟨zs, H2, I2, rz, q2⟩ => ⟨I2.kIn, ?_⟩
    rw [k2]
    exact go I2 r rz q2.1 q2.2.1 q2.2.2
end
end Snd
namespace Snd
open PySem PySem.Spec PyProof.Rows L2
section
variable {c : Cn} {k : Nat} {N : List Str} {sc : Scope} {X : Cx} {W : WX}
/-! ### an object is called -/
theorem callO_kw {M : Model} {A : Around} {E : Value → Shared → Prop} {s : Shared} {a : Addr} {pos : Pos} {Q : Value → Shared → Prop} {args : List (Bool × Sem Value)} {kws : List (Option Str × Sem Value)} (hplain : (args.any (·.1) || kws.any (·.1.isNone)) = false)
    (h : wpAny M A (evalArgs (.ref a) true args kws) (fun z s₁ => (∃ C ox od, PySem.W.InstAt s₁.heap a ox C od ∧ ox.data = .plain) ∧ wpAny M A (call (.ref a) ([] ++ z.pos) z.kw) Q E s₁) E s) : wpAny M A (callWith pos (.ref a) [] args kws) Q E s := by
  unfold callWith
  refine wpAny_bind (wpAny_holding (wpAny_mono h (fun z s₁ h₁ => wpAny_bind (wpAny_standAt ?_)) fun _ _ y => y))
  obtain ⟨⟨C, ox, od, J, hd⟩, h₁⟩ := h₁
  have L := PySem.W.kco_keeper (M := M) J hd
  simp only [hplain]
  refine wpAny_bind (L.here ?_)
  have tail : ∀ {t : Sem Value}, wpAny M A t Q E s₁ → wpAny M A (t >>= fun r => holding [r] point >>= fun _ => pure r) Q E s₁ :=
    fun ht => wpAny_bind (wpAny_mono ht (fun r s₂ hr => wpAny_bind (wpAny_holding (wpAny_point (wpAny_pure hr)))) fun _ _ y => y)
  exact tail (wpAny_operateT h₁)
theorem stx_call : stx M.nmCall = ("__call__" : Str) := by decide +kernel
theorem stx_neg : stx M.nmNeg = ("__neg__" : Str) := by decide +kernel
theorem stx_and : stx M.nmAnd = ("__and__" : Str) := by decide +kernel
theorem stx_eq : stx M.nmEq = ("__eq__" : Str) := by decide +kernel
theorem stx_in : stx M.nmIn = ("__contains__" : Str) := by decide +kernel
/-- what a call of an object tells, the values in the parameters' order -/
def RK (c : Cn) (a : Addr) (vs : List V) (H : Hp) (Q : VK) (E : XK) : Prop := ∃ C dx fs kk n, H a = some (.ins C dx fs) ∧ c.G.ob kk = some C ∧ c.G.mt kk M.nmCall = some n ∧ lift c (M.cl (c.G.fn n)) vs H Q E
theorem run_ocl (o : Ok c k N sc X W) (hh : (!c.T.hot) = true) (hp : M.nmCall ∉ c.T.prs) {a : Addr} {vs : List V} {ps0 us : List Value} {kw : List (Str × Value)} {pins : List (Addr × Obj)} {σ : Sl} {H : Hp} {s : Shared} {Q : VK} (I : Inv X pins σ H s) (r : Vals vs us)
    (hb : ∀ kk n y f fd ps, ((kk, M.nmCall), n) ∈ c.T.mtb → c.T.sts.contains n = false → Def X.K X.mg c.T n y f fd ps → us.length = ps.length → BindsTo s fd ⟨.ref a :: ps0, kw⟩ (ps.zip us)) (h : RK c a vs H Q (WE W σ)) :
    (∃ C ox od, PySem.W.InstAt s.heap a ox C od ∧ ox.data = .plain) ∧ wpAny (model X.prog X.w) X.A (call (.ref a) ps0 kw) (EP X pins σ Q) X.xe s := by
  obtain ⟨C, dx, fs, kk, n, ha, ek, en, w⟩ := h
  obtain ⟨x, f, fd, ps, hm, D, F⟩ := o.meth en
  have oc := o.oc.ok kk C ek
  rw [← o.eK] at oc
  obtain ⟨q', eq, mt, hfn⟩ := oc.mt M.nmCall n hp rfl en
  have ef := D.at_ q' eq
  subst ef
  obtain ⟨od, J⟩ := inst_at I ha
  have hlen : us.length = ps.length := by rw [← r.length]; exact F.len _ _ _ _ w
  have hc : c.T.hot = false := not1 hh
  have rm : RoomB false k X.A := by have := o.room; rw [hc] at this; exact this
  have hat := mt.at_
  rw [stx_call] at hat
  refine ⟨⟨C, _, _, J, rfl⟩, wpAny_call (PySem.W.kco_code I.kIn J rfl hat mt.fn hfn (codeAny_mono (F.run X.A X.stack s H ⟨.ref a :: ps0, kw⟩ us vs Q (WE W σ) rm o.gd (fun z => nomatch z) I.env0 (hb kk n x _ fd ps hm ((o.sts en).trans rfl) D hlen) r w) fun r s' hq => ?_))⟩
  cases r with
  | error e => exact pass_ok o σ pins H s e s' I hq
  | ok fl =>
    cases fl with
    | ret u => exact I.after hq
    | next => exact False.elim hq
    | brk => exact False.elim hq
    | cont => exact False.elim hq
theorem pe_oclM (o : Ok c k N sc X W) (hh : (!c.T.hot) = true) (hp : M.nmCall ∉ c.T.prs) {fe e : Expr} {es : List Expr} {pos : Pos} {tf : TE} {t : TA} (hf : PE X fe tf) (ha : PA X (e :: es) t) (hpl : (e :: es).all plB = true)
    (ht : eval (.Call fe (e :: es) [] pos) X.env = (do callWith pos (← eval fe X.env) [] (backTo pos (starEach (e :: es) X.env)) (backToKw pos (keywordEach [] X.env)))) :
    PE X (.Call fe (e :: es) [] pos) (fun σ H Q => tf σ H fun y H1 => ∃ a, y = .ref a ∧ t σ H1 fun vs H2 => RK c a (.ref a :: vs) H2 Q (WE W σ)) := by
  refine ⟨fun pins s σ H Q I h => ?_⟩
  refine Call_ (thn (hf.run pins s σ H _ I h) fun u s1 ⟨y, H1, I1, ry, a, ey, q⟩ => ?_) ht
  subst ey
  obtain rfl : u = Value.ref a := ry
  have hp' := and2 (show (plB e && es.all plB) = true from hpl)
  refine StX.callO_with (thn (ha.run pos pins s1 σ H1 _ I1 q) fun us s2 ⟨vs, H2, I2, r, q2⟩ => ?_) (plB_star hp'.1) (plB_all hp'.2)
  refine run_ocl o hh hp I2 (.cons (show RelV (V.ref a) (Value.ref a) from rfl) r) (fun kk n y f fd ps _ hs D hl => ?_) q2
  have b := D.bd hs s2 (Value.ref a :: us) I2.kIn (by rw [List.append_nil]; exact hl)
  rw [List.append_nil] at b
  exact b
theorem call_eval {fe : Expr} {es : List Expr} {pos : Pos} {env : Env} (h : objE fe = true) : eval (.Call fe es [] pos) env = (do callWith pos (← eval fe env) [] (backTo pos (starEach es env)) (backToKw pos (keywordEach [] env))) := by
  cases fe <;> first | rfl | exact arm_eval_Call_Name' .. | cases h
theorem pe_oclkM (o : Ok c k N sc X W) (hh : (!c.T.hot) = true) (hp : M.nmCall ∉ c.T.prs) {perm : List Nat} {nms : List Str} {x : Str} {p : Pos} {kws : List Keyword} {pos : Pos} {tf : TE} {tk : TA} (hf : PE X (.Name x p) tf)
    (hk : PK X kws tk) (hn : kwsB kws = some nms) (hm : ∀ e ∈ c.T.mtb, e.1.2 = M.nmCall → (e.2, 1, nms, perm) ∈ c.T.kws) :
    PE X (.Call (.Name x p) [] kws pos) (fun σ H Q => tf σ H fun y H1 => ∃ a, y = .ref a ∧ tk σ H1 fun zs H2 => zs.length = nms.length ∧ RK c a (perm.filterMap fun i => (V.ref a :: zs)[i]?) H2 Q (WE W σ)) := by
  obtain ⟨k1, k2, k3, k4⟩ := kws_len hn pos X.env
  refine ⟨fun pins s σ H Q I h => ?_⟩
  refine wpAny_Call_Name_kw (thn (hf.run pins s σ H _ I h) fun u s1 ⟨y, H1, I1, ry, a, ey, q⟩ => ?_)
  subst ey
  obtain rfl : u = Value.ref a := ry
  refine callO_kw (by show (false || _) = false; rw [k3]; rfl) (evalArgs_kw_nil k1 (thn (hk.run pos pins s1 σ H1 _ I1 q) fun ws s2 ⟨zs, H2, I2, rz, hl, q2⟩ => ?_))
  rw [k2]
  refine run_ocl o hh hp I2 (us := perm.filterMap fun i => (Value.ref a :: ws)[i]?) (vals_fm (Paired.cons (show RelV (V.ref a) (Value.ref a) from rfl) rz) perm) (fun kk n y f fd ps he _ D _ => ?_) q2
  exact D.kb 1 nms perm (hm _ he rfl) s2 [Value.ref a] ws I2.kIn rfl (by rw [← rz.length]; exact hl)
/-! ### own operators -/
theorem cmpBack {pins : List (Addr × Obj)} {σ : Sl} {Q : VK} {u : Value} {s' : Shared} (h : EP X pins σ Q u s') : PySem.W.CmpBack (EP X pins σ Q) u s' := by
  obtain ⟨v, H', I', rv, q⟩ := h
  have ne : u ≠ .notImplemented := by
    intro z
    subst z
    cases v with
    | int _ => obtain ⟨_, z⟩ := rv; cases z
    | str _ => obtain ⟨_, z⟩ := rv; cases z
    | byt _ => obtain ⟨_, z⟩ := rv; cases z
    | flt _ => obtain ⟨_, z⟩ := rv; cases z
    | _ => cases rv
  cases u <;> first | exact absurd rfl ne | exact ⟨v, H', I', rv, q⟩
theorem pe_ounM (o : Ok c k N sc X W) (hh : (!c.T.hot) = true) (hp : M.nmNeg ∉ c.T.prs) {e : Expr} {pos : Pos} {te : TE} (he : PE X e te) : PE X (.UnaryOp .USub e pos) (fun σ H Q => te σ H fun v H1 => RO c M.nmNeg v [] H1 Q (WE W σ)) := by
  refine ⟨fun pins s σ H Q I h => ?_⟩
  refine UnaryOp_ (thn (he.run pins s σ H _ I h) fun u s1 ⟨v, H1, I1, rv, q⟩ => ?_)
  obtain ⟨a, C, dx, fs, f, kk, rfl, rfl, ha, hl, ek, oc, mt, hfn, run⟩ := ro_run o hh hp rfl I1 rv .nil q
  obtain ⟨od, J⟩ := inst_at I1 ha
  obtain ⟨m, fr⟩ := I1.fr
  have hat := mt.at_
  rw [stx_neg] at hat
  exact PySem.W.ksp_neg fr I1.ok.mod.kin J hat mt.fn run
/-- the type of the right operand -/
theorem rgt_ty {H : Hp} {S : M.Sto} {C : Addr} {y : M.D} {v : V} {u : Value} {pins : List (Addr × Obj)} {σ : Sl} {s : Shared} (I : Inv X pins σ H s) (r : RelS X.K H S) (ry : RelD X.K H y v) (rv : RelV v u) (h : M.rgtD S C y) :
    (∃ n ∈ tyNs, PySem.W.Looks (model X.prog X.w) s.heap (typeOf u) (.type n)) ∨ PySem.W.Looks (model X.prog X.w) s.heap (typeOf u) (.ref C) := by
  have at_ : ∀ {a : Addr} {T : String} {o : Obj}, s.heap.get? a = some o → o.cls = .type T → PySem.W.Looks (model X.prog X.w) s.heap (typeOf (.ref a)) (.type T) := fun {a T o} e hc => by
    have e2 := e
    rw [show o = { o with cls := .type T } by cases o; cases hc; rfl] at e2
    exact (PySem.W.Looks.ld (part := some headPart) e2).andThen .now
  rcases h with h | h
  · left
    cases ry with
    | non => cases rv; exact ⟨"NoneType", by simp [tyNs], PySem.W.Looks.of_pure rfl⟩
    | bl b => cases rv; exact ⟨"bool", by simp [tyNs], PySem.W.Looks.of_pure rfl⟩
    | int i => obtain ⟨t, rfl⟩ := rv; exact ⟨"int", by simp [tyNs], PySem.W.Looks.of_pure rfl⟩
    | str x => obtain ⟨t, rfl⟩ := rv; exact ⟨"str", by simp [tyNs], PySem.W.Looks.of_pure rfl⟩
    | tup h1 h2 =>
      cases rv
      obtain ⟨its, rr, ⟨o, ho, hc, _⟩, _⟩ := I.tuple h1
      exact ⟨"tuple", by simp [tyNs], at_ ho hc⟩
    | fl h1 h2 =>
      cases rv
      obtain ⟨its, rr, ⟨o, m, ho, hc, _⟩, _⟩ := I.list h1.sq
      exact ⟨"list", by simp [tyNs], at_ ho hc⟩
    | xn _ => exact False.elim h
    | xf _ _ _ _ => exact False.elim h
    | ref a =>
      cases rv
      have h : (match S a with
        | some (.ins _ _) => False
        | some _ => True
        | none => False) := h
      cases e : S a with
      | none => rw [e] at h; exact False.elim h
      | some o =>
        rw [e] at h
        cases o with
        | lst xs =>
          obtain ⟨vs, h1, h2⟩ := r a _ e
          obtain ⟨its, rr, ⟨o, m, ho, hc, _⟩, _⟩ := I.list (SqL.of h1)
          exact ⟨"list", by simp [tyNs], at_ ho hc⟩
        | dic =>
          have hH : H a = some (.dK []) := r a _ e
          obtain ⟨z, hS, vs, kv, o, es, ep, ho, hc, _⟩ := dk_of I.hok hH
          exact ⟨"dict", by simp [tyNs], at_ ho hc.1⟩
        | dct kvs =>
          obtain ⟨ws, hH, h2⟩ := r a _ e
          obtain ⟨z, hS, vs, kv, o, es, ep, ho, hc, _⟩ := dk_of I.hok hH
          exact ⟨"dict", by simp [tyNs], at_ ho hc.1⟩
        | ins _ _ => exact False.elim h
  · right
    obtain ⟨a, D, fs, rfl, e, rfl⟩ := onO_of h
    cases ry
    cases rv
    obtain ⟨dx, ws, h1, h2, h3⟩ := r a _ e
    obtain ⟨od, J⟩ := inst_at I h1
    exact J.type
def ROr (c : Cn) (m : M.Tx) (v w : V) (H : Hp) (Q : VK) (E : XK) : Prop := ∃ x y S Qd Xd, RelS c.K H S ∧ RelD c.K H x v ∧ RelD c.K H y w ∧ (M.onO S x fun C _ => M.rgtD S C y ∧ M.mcall c.G m x [y] S Qd Xd) ∧ OkV c.K S H Qd Q ∧ OkX c S H Xd E
theorem ror_at {m : M.Tx} {v w : V} {H : Hp} {Q : VK} {E : XK} (h : ROr c m v w H Q E) : RO c m v [w] H Q E ∧ ∃ a C fs y S, v = .ref a ∧ S a = some (.ins C fs) ∧ RelS c.K H S ∧ RelD c.K H y w ∧ M.rgtD S C y := by
  obtain ⟨x, y, S, Qd, Xd, r, rx, ry, w, hq, hx⟩ := h
  obtain ⟨a, C, fs, rfl, e, h1, h2⟩ := onO_of w
  refine ⟨⟨_, [y], S, Qd, Xd, r, rx, .cons ry .nil, h2, hq, hx⟩, ?_⟩
  cases rx
  exact ⟨a, C, fs, y, S, rfl, e, r, ry, h1⟩
theorem same_cls {K : Frag} {H : Hp} {S : M.Sto} {a C D dx : Addr} {fs : List (M.Tx × M.D)} {gs : List (Str × V)} (r : RelS K H S) (e : S a = some (.ins C fs)) (h : H a = some (.ins D dx gs)) : C = D := by
  obtain ⟨dx', ws, h1, _⟩ := r a _ e
  rw [h1] at h
  cases h
  rfl
theorem pe_oandM (o : Ok c k N sc X W) (hh : (!c.T.hot) = true) (hp : M.nmAnd ∉ c.T.prs) {e e2 : Expr} {pos : Pos} {te tf : TE} (he : PE X e te) (hf : PE X e2 tf) :
    PE X (.BinOp e .BitAnd e2 pos) (fun σ H Q => tOp (fun v w H Q => ROr c M.nmAnd v w H Q (WE W σ)) te tf σ H Q) := by
  refine ⟨fun pins s σ H Q I h => ?_⟩
  refine wpAny_BinOp (binT he hf I h fun u1 u2 s2 v w H2 I2 rv rw' q => ?_)
  obtain ⟨q, a', C', fs', y, S, ev, es, r, ry, hr⟩ := ror_at q
  obtain ⟨a, C, dx, fs, f, kk, rfl, rfl, ha, hl, ek, oc, mt, hfn, run⟩ := ro_run o hh hp rfl I2 rv (.cons rw' .nil) q
  cases ev
  have eC := same_cls r es ha
  subst eC
  obtain ⟨od, J⟩ := inst_at I2 ha
  obtain ⟨m, fr⟩ := I2.fr
  have hat := mt.at_
  rw [stx_and] at hat
  rw [← o.eK] at r ry
  have back := wpAny_mono run (fun _ _ z => cmpBack z) fun _ _ z => z
  rcases rgt_ty I2 r ry rw' hr with ⟨n, hn, L⟩ | L
  · obtain ⟨⟨fo, h1⟩, ro, h2⟩ := oc.andl n hn
    exact PySem.W.sno_binT (op := .BitAnd) fr I2.ok.mod.kin J L oc.sf hat mt.fn oc.andr (.inl rfl) h1 h2 (oc.sub n hn).1 back
  · exact PySem.W.sno_binS (op := .BitAnd) fr I2.ok.mod.kin J L oc.sf hat mt.fn back
/-- == by an own __eq__ -/
def rOeq (c : Cn) : R2 := fun v w H Q => ROr c M.nmEq v w H (fun z H2 => ∃ b, z = .bl b ∧ Q (.bl b) H2) (fun _ _ _ => False)
theorem op_oeq (o : Ok c k N sc X W) (hh : (!c.T.hot) = true) (hp : M.nmEq ∉ c.T.prs) : OpR X (compareOp .Eq) (rOeq c) := by
  intro pins s σ H v w u1 u2 Q I rv rw' q
  obtain ⟨q, a', C', fs', y, S, ev, es, r, ry, hr⟩ := ror_at q
  have q2 : RO c M.nmEq v [w] H (fun z H2 => ∃ b, z = .bl b ∧ Q (.bl b) H2) (WE W σ) := by
    obtain ⟨x, ds, S, Qd, Xd, r, rx, rds, w, hq, hx⟩ := q
    exact ⟨x, ds, S, Qd, Xd, r, rx, rds, w, hq, fun k fs S' H' cls d f r rx q => False.elim (hx k fs S' H' cls d f r rx q)⟩
  obtain ⟨a, C, dx, fs, f, kk, rfl, rfl, ha, hl, ek, oc, mt, hfn, run⟩ := ro_run o hh hp rfl I rv (.cons rw' .nil) q2
  cases ev
  have eC := same_cls r es ha
  subst eC
  obtain ⟨od, J⟩ := inst_at I ha
  obtain ⟨m, fr⟩ := I.fr
  have hat := mt.at_
  rw [stx_eq] at hat
  rw [← o.eK] at r ry
  have hu : X.A.units < cLine := by have := o.room.units; omega
  have back : wpAny (model X.prog X.w) X.A (call (.ref f) [.ref a', u2]) (PySem.W.CmpBack (EP X pins σ Q)) X.xe s := wpAny_mono run (fun u' s' ⟨z, H', I', rz, b, ez, qz⟩ => by
    subst ez
    cases rz
    exact cmpBack ⟨.bl b, H', I', rfl, qz⟩) fun _ _ z => z
  show wpAny (model X.prog X.w) X.A (richCompare .Eq (.ref a') u2) (EP X pins σ Q) X.xe s
  rcases rgt_ty I r ry rw' hr with ⟨n, hn, L⟩ | L
  · exact PySem.W.cmp_K (op := .Eq) hu fr I.ok.mod.kin J L (by unfold PySem.W.notFirst; rw [(oc.sub n hn).1]; simp) hat mt.fn back
  · exact PySem.W.cmp_K (op := .Eq) hu fr I.ok.mod.kin J L (by unfold PySem.W.notFirst; simp) hat mt.fn back
/-- != by an own __eq__ -/
def rOne (c : Cn) : R2 := fun v w H Q => ROr c M.nmEq v w H (fun z H2 => ∃ b, z = .bl b ∧ Q (.bl (!b)) H2) (fun _ _ _ => False)
/-- the method, called from within a slot of object -/
theorem ro_run1 (o : Ok c k N sc X W) (hh : (!c.T.hot) = true) {m : M.Tx} (hp : m ∉ c.T.prs) (hs : M.keyB m = false) {v : V} {vs : List V} {u : Value} {us : List Value} {pins : List (Addr × Obj)} {σ : Sl} {H : Hp} {s : Shared} {Q : VK} (I : Inv X pins σ H s) (rv : RelV v u) (r : Vals vs us) (h : RO c m v vs H Q (WE W σ)) :
    ∃ a C dx fs f kk, v = .ref a ∧ u = .ref a ∧ H a = some (.ins C dx fs) ∧ fs.lookup (stx m) = none ∧ c.G.ob kk = some C ∧ OC X.K c.T c.G kk C ∧ Meth X.K C (stx m) f ∧ PySem.W.fnIn X.K f = true ∧ wpAny (model X.prog X.w) X.A.in1 (call (.ref f) (u :: us)) (EP X pins σ Q) X.xe s := by
  obtain ⟨a, C, dx, fs, kk, n, rfl, ha, hl, ek, oc, en, w⟩ := ro_at o h
  obtain ⟨x, f, fd, ps, _, D, F⟩ := o.meth en
  rw [← o.eK] at oc
  obtain ⟨q, eq, hm, hf⟩ := oc.mt m n hp hs en
  have ef := D.at_ q eq
  subst ef
  obtain rfl : u = Value.ref a := rv
  have r2 : Vals (V.ref a :: vs) (Value.ref a :: us) := .cons rfl r
  have hlen : (Value.ref a :: us).length = ps.length := by rw [← r2.length]; exact F.len _ _ _ _ w
  have b := D.bd ((o.sts en).trans (M.keyB_star hs)) s (Value.ref a :: us) I.kIn (by rw [List.append_nil]; exact hlen)
  rw [List.append_nil] at b
  have hc : c.T.hot = false := not1 hh
  have rm : RoomB false k X.A.in1 := by have := o.roomX.in1; rw [hc] at this; exact this
  refine ⟨a, C, dx, fs, _, kk, rfl, rfl, ha, hl, ek, oc, hm, hf, wpAny_call (codeAny_mono (F.run X.A.in1 X.stack s H ⟨Value.ref a :: us, []⟩ (Value.ref a :: us) (V.ref a :: vs) Q (WE W σ) rm o.gd (fun z => nomatch z) I.env0.in1 b r2 w) fun r s' hq => ?_)⟩
  cases r with
  | error e => exact pass_ok o σ pins H s e s' I hq
  | ok fl =>
    cases fl with
    | ret u => exact I.after hq
    | next => exact False.elim hq
    | brk => exact False.elim hq
    | cont => exact False.elim hq
theorem op_one (o : Ok c k N sc X W) (hh : (!c.T.hot) = true) (hp : M.nmEq ∉ c.T.prs) : OpR X (compareOp .NotEq) (rOne c) := by
  intro pins s σ H v w u1 u2 Q I rv rw' q
  obtain ⟨q, a', C', fs', y, S, ev, es, r, ry, hr⟩ := ror_at q
  have q2 : RO c M.nmEq v [w] H (fun z H2 => ∃ b, z = .bl b ∧ Q (.bl (!b)) H2) (WE W σ) := by
    obtain ⟨x, ds, S, Qd, Xd, r, rx, rds, w, hq, hx⟩ := q
    exact ⟨x, ds, S, Qd, Xd, r, rx, rds, w, hq, fun k fs S' H' cls d f r rx q => False.elim (hx k fs S' H' cls d f r rx q)⟩
  obtain ⟨a, C, dx, fs, f, kk, rfl, rfl, ha, hl, ek, oc, mt, hfn, run⟩ := ro_run1 o hh hp rfl I rv (.cons rw' .nil) q2
  cases ev
  have eC := same_cls r es ha
  subst eC
  obtain ⟨od, J⟩ := inst_at I ha
  obtain ⟨m, fr⟩ := I.fr
  have hat := mt.at_
  rw [stx_eq] at hat
  rw [← o.eK] at r ry
  have hu : X.A.units + 1 < cLine := by have := o.room.units; omega
  have back : wpAny (model X.prog X.w) X.A.in1 (call (.ref f) [.ref a', u2]) (fun v s' => ∃ bb, v = .bool bb ∧ EP X pins σ Q (.bool (!bb)) s') X.xe s := wpAny_mono run (fun u' s' ⟨z, H', I', rz, b, ez, qz⟩ => by
    subst ez
    cases rz
    exact ⟨b, rfl, .bl (!b), H', I', rfl, qz⟩) fun _ _ z => z
  show wpAny (model X.prog X.w) X.A (richCompare .NotEq (.ref a') u2) (EP X pins σ Q) X.xe s
  rcases rgt_ty I r ry rw' hr with ⟨n, hn, L⟩ | L
  · exact PySem.W.ne_K hu fr I.ok.mod.kin J L (by unfold PySem.W.notFirst; rw [(oc.sub n hn).1]; simp) oc.ne oc.hm hat mt.fn back
  · exact PySem.W.ne_K hu fr I.ok.mod.kin J L (by unfold PySem.W.notFirst; simp) oc.ne oc.hm hat mt.fn back
/-- in by an own __contains__ -/
def rOin (c : Cn) (n : Bool) : R2 := fun w v H Q => RO c M.nmIn v [w] H (fun z H2 => ∃ b, z = .bl b ∧ Q (.bl (if n = true then !b else b)) H2) (fun _ _ _ => False)
theorem op_oin (o : Ok c k N sc X W) (hh : (!c.T.hot) = true) (hp : M.nmIn ∉ c.T.prs) : OpR X (compareOp .In) (rOin c false) ∧ OpR X (compareOp .NotIn) (rOin c true) := by
  have go : ∀ (n : Bool) (pins : List (Addr × Obj)) (s : Shared) (σ : Sl) (H : Hp) (w v : V) (u2 u1 : Value) (Q : VK), Inv X pins σ H s → RelV w u2 → RelV v u1 → rOin c n w v H Q →
      ∃ a C dx f od m, u1 = .ref a ∧ PySem.W.InstAt s.heap a (PySem.W.instObj C dx) C (some od) ∧ PyProof.Rows.Fr X.base X.env.locals s.heap m ∧ PySem.W.findIn X.K (.ref C) "__contains__" = some (some (.ref f)) ∧ PySem.W.isFn X.K (.ref f) = true ∧
        wpAny (model X.prog X.w) X.A (call (.ref f) [.ref a, u2]) (fun u' s' => ∃ b, u' = .bool b ∧ EP X pins σ Q (.bool (if n = true then !b else b)) s') X.xe s := by
    intro n pins s σ H w v u2 u1 Q I rw' rv q
    have q2 : RO c M.nmIn v [w] H (fun z H2 => ∃ b, z = .bl b ∧ Q (.bl (if n = true then !b else b)) H2) (WE W σ) := by
      obtain ⟨x, ds, S, Qd, Xd, r, rx, rds, w, hq, hx⟩ := q
      exact ⟨x, ds, S, Qd, Xd, r, rx, rds, w, hq, fun k fs S' H' cls d f r rx q => False.elim (hx k fs S' H' cls d f r rx q)⟩
    obtain ⟨a, C, dx, fs, f, kk, rfl, rfl, ha, hl, ek, oc, mt, hfn, run⟩ := ro_run o hh hp rfl I rv (.cons rw' .nil) q2
    obtain ⟨od, J⟩ := inst_at I ha
    obtain ⟨m, fr⟩ := I.fr
    have hat := mt.at_
    rw [stx_in] at hat
    exact ⟨a, C, dx, f, od, m, rfl, J, fr, hat, mt.fn, wpAny_mono run (fun u' s' ⟨z, H', I', rz, b, ez, qz⟩ => by
      subst ez
      cases rz
      exact ⟨b, rfl, .bl _, H', I', rfl, qz⟩) fun _ _ z => z⟩
  constructor
  · intro pins s σ H w v u2 u1 Q I rw' rv q
    obtain ⟨a, C, dx, f, od, m, rfl, J, fr, hat, hf, run⟩ := go false pins s σ H w v u2 u1 Q I rw' rv q
    exact PySem.W.in_K fr I.ok.mod.kin J hat hf (wpAny_mono run (fun u' s' ⟨b, eb, z⟩ => by subst eb; exact wpAny_truthy_bool z) fun _ _ z => z)
  · intro pins s σ H w v u2 u1 Q I rw' rv q
    obtain ⟨a, C, dx, f, od, m, rfl, J, fr, hat, hf, run⟩ := go true pins s σ H w v u2 u1 Q I rw' rv q
    exact PySem.W.notIn_K fr I.ok.mod.kin J hat hf (wpAny_mono run (fun u' s' ⟨b, eb, z⟩ => by subst eb; exact wpAny_truthy_bool z) fun _ _ z => z)
end
end Snd
namespace Snd
open PySem PySem.Spec PyProof.Rows L2
section
variable {c : Cn} {k : Nat} {N : List Str} {sc : Scope} {X : Cx} {W : WX}
theorem isc_rel (o : Ok c k N sc X W) {kk : Nat} {D : Addr} (ek : c.G.ob kk = some D) {H : Hp} {S : M.Sto} {x : M.D} {v : V} {P : Bool → Prop} {Q : VK} (r : RelS c.K H S) (rx : RelD c.K H x v) (w : M.iscD c.G kk x S P) (hq : ∀ b, P b → Q (.bl b) H) : rIsi X.K [v, .ref D] H Q := by
  have oc := o.oc.ok kk D ek
  rw [o.eK]
  have fin : ∀ {n : String}, n ∈ tyNs → TyX c.K H v (.type n) → P false → rIsi c.K [v, .ref D] H Q := fun {n} hn t p => ⟨v, .ref D, .type n, .ref D, false, rfl, .own D, t, (oc.sub n hn).2, hq _ p⟩
  cases rx with
  | non => exact fin (n := "NoneType") (by simp [tyNs]) (.base .non) w
  | bl b => exact fin (n := "bool") (by simp [tyNs]) (.base (.bl b)) w
  | int i => exact fin (n := "int") (by simp [tyNs]) (.base (.int i)) w
  | str y => exact fin (n := "str") (by simp [tyNs]) (.base (.str _)) w
  | tup h1 h2 =>
    refine fin (n := "tuple") (by simp [tyNs]) ?_ w
    rcases h1 with (h | ⟨o, h⟩) | ⟨o, its, n, hk, hc, _⟩
    · exact .base (.tup h)
    · exact .fTuple h
    · exact .kTuple hk hc
  | fl h1 h2 =>
    refine fin (n := "list") (by simp [tyNs]) ?_ w
    rcases h1 with ⟨o, h⟩ | ⟨o, its, n, hk, hc, _⟩
    · exact .base (.frz h)
    · exact .kList hk hc
  | xn _ => exact False.elim w
  | xf _ _ _ _ => exact False.elim w
  | ref a =>
    have w : M.iscO c.G kk P (S a) := w
    cases e : S a with
    | none => rw [e] at w; exact False.elim w
    | some ob =>
      rw [e] at w
      cases ob with
      | lst xs => obtain ⟨vs, h1, _⟩ := r a _ e; exact fin (n := "list") (by simp [tyNs]) (.base (.lst h1)) w
      | dic => exact fin (n := "dict") (by simp [tyNs]) (.base (.dK (r a _ e))) w
      | dct kvs => obtain ⟨vs, h1, _⟩ := r a _ e; exact fin (n := "dict") (by simp [tyNs]) (.base (.dK h1)) w
      | ins C fs =>
        obtain ⟨dx, vs, h1, _⟩ := r a _ e
        obtain ⟨j, ej, p⟩ := w
        have od := o.oc.ok j C ej
        exact ⟨.ref a, .ref D, .ref C, .ref D, c.G.os j kk, rfl, .own D, .base (.ins h1 od.cl od.ha od.hn od.ht od.hm), od.isc kk D ek, hq _ p⟩
theorem isc_name (o : Ok c k N sc X W) {kk : Nat} {z : Str} (hx : c.T.ocs[kk]? = some z) (hg : glB sc z = true) (hd : (!dbgB z) = true) : ∃ D, c.G.ob kk = some D ∧ ∀ p, PE X (.Name z p) (tC (.ref D)) := by
  obtain ⟨D, m1, ek, _⟩ := cls_at o hx
  exact ⟨D, ek, fun p => pe_glob (o.gl hg) m1 rfl (dbg_of hd).1⟩
end
end Snd
namespace Snd
open PySem PySem.Spec PyProof.Rows L2
section
variable {c : Cn} {k : Nat} {N : List Str} {sc : Scope} {X : Cx} {W : WX}
theorem rk_of (o : Ok c k N sc X W) {a : Addr} {vs : List V} {H : Hp} {Q : VK} {E : XK} (h : RO c M.nmCall (.ref a) vs H Q E) : RK c a (.ref a :: vs) H Q E := by
  obtain ⟨a', C, dx, fs, kk, n, ev, ha, hl, ek, oc, en, w⟩ := ro_at o h
  cases ev
  exact ⟨C, dx, fs, kk, n, ha, ek, en, w⟩
theorem rk_ofk {a : Addr} {ds : List M.D} {vs : List V} {perm : List Nat} {S : M.Sto} {H : Hp} {Qd : M.VK} {Xd : M.XK} {Q : VK} {E : XK} (r : RelS c.K H S) (rz : RelDs c.K H ds vs)
    (w : M.onO S (.ref a) fun C fs => fs.lookup M.nmCall = none ∧ ∃ k, c.G.ob k = some C ∧ M.opt (c.G.mt k M.nmCall) fun f => M.cl (c.G.fn f) (perm.filterMap fun i => (M.D.ref a :: ds)[i]?) S Qd Xd) (hq : OkV c.K S H Qd Q) (hx : OkX c S H Xd E) :
    RK c a (perm.filterMap fun i => (V.ref a :: vs)[i]?) H Q E := by
  obtain ⟨a', C, fs, ea, e, hn, kk, ek, w⟩ := onO_of w
  obtain ⟨n, en, w⟩ := opt_of w
  cases ea
  obtain ⟨dx, ws, h1, h2, h3⟩ := r a _ e
  exact ⟨C, dx, _, kk, n, h1, ek, en, _, S, Qd, Xd, rels_fm (.cons (.ref a) rz) perm, r, w, hq, hx⟩
theorem eq_back {S : M.Sto} {H : Hp} {Qd : M.VK} {Q : VK} {g : Bool → Bool} {K : Frag} (hq : OkV K S H Qd Q) : OkV K S H (fun v S1 => M.onB v fun b => Qd (.bl (g b)) S1) (fun z H2 => ∃ b, z = .bl b ∧ Q (.bl (g b)) H2) := fun d S' v H' f' r' rd q => by
  obtain ⟨b, rfl, q⟩ := onB_of q
  cases rd
  exact ⟨b, rfl, hq _ S' _ H' f' r' (.bl _) q⟩
end
end Snd
namespace Snd
open PySem PySem.Spec PyProof.Rows L2
/-! ### o.m(..) -/
theorem mth_eval {o : Expr} {m : Str} {apos pos : Pos} {args : List Expr} {kws : List Keyword} {env : Env} (hb : bareB o = true) (hf : methodCallForm (args.length + kws.length) (backTo pos (starEach args env)) (backToKw pos (keywordEach kws env)) = true) (hl : (apos.endLine == pos.line) = true) :
    eval (.Call (.Attribute o m apos) args kws pos) env = (do
      let ov ← eval o env
      standAt apos.atName
      let (f, first) ← holding [ov] (getMethod ov m (plainOf o env))
      callWith pos f first (backTo pos (starEach args env)) (backToKw pos (keywordEach kws env))) := by
  rw [arm_eval_Call, bare_of hb]
  congr 1
  funext ov
  congr 1
  funext _
  exact mcall_line hf hl
theorem form0 {es : List Expr} {pos : Pos} {env : Env} (h : es.all plB = true) (h2 : es.length < 29) : methodCallForm (es.length + ([] : List Keyword).length) (backTo pos (starEach es env)) (backToKw pos (keywordEach [] env)) = true := few_of h h2
theorem kw_len : ∀ (kws : List Keyword) (pos : Pos) (env : Env), (backToKw pos (keywordEach kws env)).length = kws.length
  | [], _, _ => rfl
  | ⟨_, _, _⟩ :: r, pos, env => congrArg Nat.succ (kw_len r pos env)
theorem formK {es : List Expr} {kws : List Keyword} {nms : List Str} {pos : Pos} {env : Env} (h : es.all plB = true) (hn : kwsB kws = some nms) (h2 : es.length + kws.length < 28) : methodCallForm (es.length + kws.length) (backTo pos (starEach es env)) (backToKw pos (keywordEach kws env)) = true := by
  obtain ⟨k1, _, _, _⟩ := kws_len hn pos env
  unfold methodCallForm
  rw [plB_few h, k1]
  show (true && true && decide _) = true
  rw [Bool.and_self, Bool.true_and]
  refine decide_eq_true ?_
  split <;> omega
section
variable {c : Cn} {k : Nat} {N : List Str} {sc : Scope} {X : Cx} {W : WX}
/-- the method of the object v, found ahead of the arguments -/
def RM (c : Cn) (m key : M.Tx) (v : V) (H : Hp) (P : Addr → Nat → Prop) : Prop := ∃ a C dx fs kk n, v = .ref a ∧ H a = some (.ins C dx fs) ∧ fs.lookup (stx m) = none ∧ c.G.ob kk = some C ∧ c.G.mt kk key = some n ∧ P a n
theorem pe_mthM (o : Ok c k N sc X W) (hh : (!c.T.hot) = true) {m : M.Tx} (hp : m ∉ c.T.prs) (hs : M.keyB m = false) {a : Expr} {es : List Expr} {apos cpos : Pos} {ta : TE} {t : TA} (hb : bareB a = true) (hl : (apos.endLine == cpos.line) = true) (ho : PE X a ta) (ha : PA X es t) (hpl : es.all plB = true) (hn : es.length < 29) (h0 : es = [] → ∀ σ H Q, t σ H Q → Q [] H) :
    PE X (.Call (.Attribute a (stx m) apos) es [] cpos) (fun σ H Q => ta σ H fun v H1 => RM c m m v H1 fun a n => t σ H1 fun vs H2 => lift c (M.cl (c.G.fn n)) (.ref a :: vs) H2 Q (WE W σ)) := by
  refine ⟨fun pins s σ H Q I h => ?_⟩
  refine PySem.W.methodCall_KW (pl := plainOf a X.env) (thn (ho.run pins s σ H _ I h) fun u s1 ⟨v, H1, I1, rv, a0, C, dx, fs, kk, n, ev, ha0, hl0, ek, en, q⟩ => ?_) (mth_eval hb (form0 hpl hn) hl)
  subst ev
  obtain rfl : u = Value.ref a0 := rv
  obtain ⟨x, f, fd, ps, hm, D, F⟩ := o.meth en
  have oc := o.oc.ok kk C ek
  rw [← o.eK] at oc
  obtain ⟨q', eq, mt, hfn⟩ := oc.mt m n hp hs en
  have ef := D.at_ q' eq
  subst ef
  have hc : c.T.hot = false := not1 hh
  have rm : RoomB false k X.A := by have := o.room; rw [hc] at this; exact this
  have go : ∀ {s2 : Shared} {H2 : Hp} {us : List Value} {vs : List V}, Inv X pins σ H2 s2 → Vals vs us → lift c (M.cl (c.G.fn n)) (.ref a0 :: vs) H2 Q (WE W σ) → wpAny (model X.prog X.w) X.A (call (.ref (plA X.K q')) ([Value.ref a0] ++ us)) (EP X pins σ Q) X.xe s2 := by
    intro s2 H2 us vs I2 r q2
    have r2 : Vals (V.ref a0 :: vs) (Value.ref a0 :: us) := .cons rfl r
    have hlen : (Value.ref a0 :: us).length = ps.length := by rw [← r2.length]; exact F.len _ _ _ _ q2
    have b := D.bd ((o.sts en).trans (M.keyB_star hs)) s2 (Value.ref a0 :: us) I2.kIn (by rw [List.append_nil]; exact hlen)
    rw [List.append_nil] at b
    exact run_fnG (args := ⟨Value.ref a0 :: us, []⟩) (E := WE W) F rm o.gd (fun z => nomatch z) b (pass_ok o σ) I2 r2 q2
  refine getmeth_ok I1 ha0 oc.cl mt hl0 ?_
  cases es with
  | nil => exact PySem.W.callWith_K0 (first := [.ref a0]) I1.kIn mt.kp (go I1 .nil (h0 rfl _ _ _ q))
  | cons e es =>
    have hp' := and2 (show (plB e && es.all plB) = true from hpl)
    exact PySem.W.callWith_K (first := [.ref a0]) (h₀ := X.base) I1.ok.mod.kin mt.kp (thn (ha.run cpos pins s1 σ H1 _ I1 q) fun us s2 ⟨vs, H2, I2, r, q2⟩ => ⟨I2.kIn, go I2 r q2⟩) (plB_star hp'.1) (plB_all hp'.2)
theorem pe_mthkM (o : Ok c k N sc X W) (hh : (!c.T.hot) = true) {m : M.Tx} (hp : m ∉ c.T.prs) (hs : M.keyB m = false) {a : Expr} {es : List Expr} {kws : List Keyword} {nms : List Str} {perm : List Nat} {j : Nat} {apos cpos : Pos} {ta : TE} {t tk : TA} (hb : bareB a = true) (hl : (apos.endLine == cpos.line) = true) (ho : PE X a ta) (ha : PA X es t) (hpl : es.all plB = true) (hn : es.length + kws.length < 28) (h0 : es = [] → ∀ σ H Q, t σ H Q → Q [] H)
    (hk : PK X kws tk) (hkn : kwsB kws = some nms) (hm : ∀ e ∈ c.T.mtb, e.1.2 = m → (e.2, j + 1, nms, perm) ∈ c.T.kws) :
    PE X (.Call (.Attribute a (stx m) apos) es kws cpos) (fun σ H Q => ta σ H fun v H1 => RM c m m v H1 fun a n => t σ H1 fun vs H2 => tk σ H2 fun zs H3 => vs.length = j ∧ zs.length = nms.length ∧ lift c (M.cl (c.G.fn n)) (perm.filterMap fun i => ((V.ref a :: vs) ++ zs)[i]?) H3 Q (WE W σ)) := by
  obtain ⟨k1, k2, k3, k4⟩ := kws_len hkn cpos X.env
  refine ⟨fun pins s σ H Q I h => ?_⟩
  refine PySem.W.methodCall_KW (pl := plainOf a X.env) (thn (ho.run pins s σ H _ I h) fun u s1 ⟨v, H1, I1, rv, a0, C, dx, fs, kk, n, ev, ha0, hl0, ek, en, q⟩ => ?_) (mth_eval hb (formK hpl hkn hn) hl)
  subst ev
  obtain rfl : u = Value.ref a0 := rv
  obtain ⟨x, f, fd, ps, hmm, D, F⟩ := o.meth en
  have oc := o.oc.ok kk C ek
  rw [← o.eK] at oc
  obtain ⟨q', eq, mt, hfn⟩ := oc.mt m n hp hs en
  have ef := D.at_ q' eq
  subst ef
  have hc : c.T.hot = false := not1 hh
  have rm : RoomB false k X.A := by have := o.room; rw [hc] at this; exact this
  have go : ∀ {s2 : Shared} {H2 : Hp} {us ws : List Value} {vs zs : List V}, Inv X pins σ H2 s2 → Vals vs us → Vals zs ws → vs.length = j → zs.length = nms.length → lift c (M.cl (c.G.fn n)) (perm.filterMap fun i => ((V.ref a0 :: vs) ++ zs)[i]?) H2 Q (WE W σ) → wpAny (model X.prog X.w) X.A (call (.ref (plA X.K q')) ([Value.ref a0] ++ us) (nms.zip ws)) (EP X pins σ Q) X.xe s2 := by
    intro s2 H2 us ws vs zs I2 r rz l1 l2 q2
    have b := D.kb (j + 1) nms perm (hm _ hmm rfl) s2 (Value.ref a0 :: us) ws I2.kIn (by rw [List.length_cons, ← r.length, l1]) (by rw [← rz.length]; exact l2)
    exact run_fnG (args := ⟨Value.ref a0 :: us, nms.zip ws⟩) (E := WE W) F rm o.gd (fun z => nomatch z) b (pass_ok o σ) I2 (vals_fm (Vals.append (Paired.cons (show RelV (V.ref a0) (Value.ref a0) from rfl) r) rz) perm) q2
  refine getmeth_ok I1 ha0 oc.cl mt hl0 ?_
  cases es with
  | nil =>
    refine PySem.W.callWith_KW0 (first := [.ref a0]) (h₀ := X.base) I1.ok.mod.kin mt.kp k1 (thn (hk.run cpos pins s1 σ H1 _ I1 (h0 rfl _ _ _ q)) fun ws s2 ⟨zs, H2, I2, rz, q2⟩ => ⟨I2.kIn, ?_⟩) (by show (false || _) = false; rw [k3]; rfl)
    rw [k2]
    exact go I2 .nil rz q2.1 q2.2.1 q2.2.2
  | cons e es =>
    have hp' := and2 (show (plB e && es.all plB) = true from hpl)
    refine PySem.W.callWith_KW (first := [.ref a0]) (h₀ := X.base) I1.ok.mod.kin mt.kp k1 (thn (ha.run cpos pins s1 σ H1 _ I1 q) fun us s2 ⟨vs, H2, I2, r, q2⟩ => ?_) (by rw [plB_all hpl, k3]; rfl) (plB_star hp'.1)
    refine thn (hk.run cpos pins s2 σ H2 _ I2 q2) fun ws s3 ⟨zs, H3, I3, rz, q3⟩ => ⟨I3.kIn, ?_⟩
    rw [k2]
    exact go I3 r rz q3.1 q3.2.1 q3.2.2
theorem pe_mthsM (o : Ok c k N sc X W) (hh : (!c.T.hot) = true) {m : M.Tx} {a : Expr} {es : List Expr} {apos cpos : Pos} {ta : TE} {t : TA} (hb : bareB a = true) (hl : (apos.endLine == cpos.line) = true) (ho : PE X a ta) (ha : PA X es t) (hpl : es.all plB = true) (hn : es.length < 29) (h0 : es = [] → ∀ σ H Q, t σ H Q → Q [] H) :
    PE X (.Call (.Attribute a (stx m) apos) es [] cpos) (fun σ H Q => ta σ H fun v H1 => RM c m (M.starN m) v H1 fun a n => t σ H1 fun vs H2 => vs.length ≤ sizeLine ∧ ∀ p, H2 p = none → lift c (M.cl (c.G.fn n)) [.ref a, .ref p] (L2.upd H2 p (.tup vs)) Q (WE W σ)) := by
  refine ⟨fun pins s σ H Q I h => ?_⟩
  refine PySem.W.methodCall_KW (pl := plainOf a X.env) (thn (ho.run pins s σ H _ I h) fun u s1 ⟨v, H1, I1, rv, a0, C, dx, fs, kk, n, ev, ha0, hl0, ek, en, q⟩ => ?_) (mth_eval hb (form0 hpl hn) hl)
  subst ev
  obtain rfl : u = Value.ref a0 := rv
  obtain ⟨x, f, fd, ps, hm, D, F⟩ := o.meth en
  have oc := o.oc.ok kk C ek
  rw [← o.eK] at oc
  obtain ⟨q', eq, mt⟩ := oc.ms m n en
  have ef := D.at_ q' eq
  subst ef
  obtain ⟨p1, pv, eps, hbd⟩ := D.st ((o.sts en).trans rfl)
  have hc : c.T.hot = false := not1 hh
  have rm : RoomB false k X.A := by have := o.room; rw [hc] at this; exact this
  have go : ∀ {s2 : Shared} {H2 : Hp} {us : List Value} {vs : List V}, Inv X pins σ H2 s2 → Vals vs us → (vs.length ≤ sizeLine ∧ ∀ p, H2 p = none → lift c (M.cl (c.G.fn n)) [.ref a0, .ref p] (L2.upd H2 p (.tup vs)) Q (WE W σ)) → wpAny (model X.prog X.w) X.A (call (.ref (plA X.K q')) ([Value.ref a0] ++ us)) (EP X pins σ Q) X.xe s2 := by
    intro s2 H2 us vs I2 r ⟨hz, q2⟩
    refine wpAny_call (codeAny_mono (F.star X.A X.stack s2 H2 [Value.ref a0] us [V.ref a0] vs Q (WE W σ) rm o.gd rfl I2.env0 (by subst eps; exact hbd _ _) (.cons rfl .nil) r hz (q2 _ (I2.hok.fresh (Nat.le_refl _)))) fun r s' hq => ?_)
    cases r with
    | error e => exact pass_ok o σ pins H2 s2 e s' I2 hq
    | ok fl =>
      cases fl with
      | ret u => exact I2.after hq
      | next => exact False.elim hq
      | brk => exact False.elim hq
      | cont => exact False.elim hq
  refine getmeth_ok I1 ha0 oc.cl mt hl0 ?_
  cases es with
  | nil => exact PySem.W.callWith_K0 (first := [.ref a0]) I1.kIn mt.kp (go I1 .nil (h0 rfl _ _ _ q))
  | cons e es =>
    have hp' := and2 (show (plB e && es.all plB) = true from hpl)
    exact PySem.W.callWith_K (first := [.ref a0]) (h₀ := X.base) I1.ok.mod.kin mt.kp (thn (ha.run cpos pins s1 σ H1 _ I1 q) fun us s2 ⟨vs, H2, I2, r, q2⟩ => ⟨I2.kIn, go I2 r q2⟩) (plB_star hp'.1) (plB_all hp'.2)
theorem rm_of (o : Ok c k N sc X W) {m key : M.Tx} {x : M.D} {v : V} {S : M.Sto} {H : Hp} {P : Nat → Prop} {R : Addr → Nat → Prop} (r : RelS c.K H S) (rx : RelD c.K H x v)
    (w : M.onO S x fun C fs => fs.lookup m = none ∧ ∃ k, c.G.ob k = some C ∧ M.opt (c.G.mt k key) P) (h : ∀ a n, x = .ref a → P n → R a n) : RM c m key v H R := by
  obtain ⟨a, C, fs, ea, e, hn, kk, ek, w2⟩ := onO_of w
  obtain ⟨n, en, w3⟩ := opt_of w2
  clear w
  subst ea
  cases rx
  obtain ⟨dx, ws, h1, h2, h3⟩ := r a _ e
  exact ⟨a, C, dx, _, kk, n, rfl, h1, fs_none h2 hn, ek, en, h a n rfl w3⟩
/-! ### len of an object -/
theorem stx_len0 : stx M.nmLen = ("__len__" : Str) := by decide +kernel
def rOln (c : Cn) : List V → Hp → VK → Prop := fun xs H Q => ∃ v, xs = [v] ∧ RO c M.nmLen v [] H (fun z H2 => ∃ i : Int, z = .int i ∧ (0 ≤ i ∧ i < 2 ^ 63) ∧ Q (.int i) H2) (fun _ _ _ => False)
theorem call_oln (o : Ok c k N sc X W) (hh : (!c.T.hot) = true) (hp : M.nmLen ∉ c.T.prs) : CallR X (.builtin "len") (rOln c) := by
  intro pins s σ H xs us Q I r q
  obtain ⟨v, rfl, q⟩ := q
  cases r with
  | cons rv rr =>
    cases rr
    have q2 : RO c M.nmLen v [] H (fun z H2 => ∃ i : Int, z = .int i ∧ (0 ≤ i ∧ i < 2 ^ 63) ∧ Q (.int i) H2) (WE W σ) := by
      obtain ⟨x, ds, S, Qd, Xd, r, rx, rds, w, hq, hx⟩ := q
      exact ⟨x, ds, S, Qd, Xd, r, rx, rds, w, hq, fun k fs S' H' cls d f r rx q => False.elim (hx k fs S' H' cls d f r rx q)⟩
    obtain ⟨a, C, dx, fs, f, kk, rfl, rfl, ha, hl, ek, oc, mt, hfn, run⟩ := ro_run1 o hh hp rfl I rv .nil q2
    obtain ⟨od, J⟩ := inst_at I ha
    obtain ⟨m, fr⟩ := I.fr
    have hat := mt.at_
    rw [stx_len0] at hat
    refine PySem.W.len_K fr I.ok.mod.kin J hat mt.fn (wpAny_mono run (fun u' s' ⟨z, H', I', rz, i, ez, hi, qz⟩ => ?_) fun _ _ z => z)
    subst ez
    obtain ⟨t, rfl⟩ := rz
    exact ⟨hi, .int i, H', I'.tok _, ⟨_, rfl⟩, qz⟩
theorem len_back {S : M.Sto} {H : Hp} {Qd : M.VK} {Q : VK} {K : Frag} (hq : OkV K S H Qd Q) : OkV K S H (fun v S1 => M.onI v fun i => (0 ≤ i ∧ i < 2 ^ 63) ∧ Qd (.int i) S1) (fun z H2 => ∃ i : Int, z = .int i ∧ (0 ≤ i ∧ i < 2 ^ 63) ∧ Q (.int i) H2) := fun d S' v H' f' r' rd q => by
  cases rd with
  | int i => exact ⟨i, rfl, q.1, hq _ S' _ H' f' r' (.int i) q.2⟩
  | _ => exact False.elim q
/-! ### a new object, defaults fill up -/
theorem run_newB (o : Ok c k N sc X W) (hh : (!c.T.hot) = true) {kk n : Nat} {C : Addr} {gV : V → List V} {gU : Value → List Value} {us : List Value} {kw : List (Str × Value)} (hp : M.nmInit ∉ c.T.prs) (ek : c.G.ob kk = some C) (en : c.G.mt kk M.nmInit = some n) {x : Str} {f : Addr} {fd : FuncData} {ps : List Str}
    (D : Def X.K X.mg c.T n x f fd ps) (F : FnG X.prog X.w X.K X.mg X.base false k f fd ps (lift c (M.cl (c.G.fn n)))) (hr : ∀ p : Addr, Vals (gV (.ref p)) (gU (.ref p)))
    (hb : ∀ (p : Addr) (s : Shared), X.K.In s.heap → (gU (.ref p)).length = ps.length → BindsTo s fd ⟨.ref p :: us, kw⟩ (ps.zip (gU (.ref p))))
    {pins : List (Addr × Obj)} {σ : Sl} {H : Hp} {s : Shared} {Q : VK} (I : Inv X pins σ H s) (h : RN c kk gV H Q (WE W σ)) : wpAny (model X.prog X.w) X.A (call (.ref C) us kw) (EP X pins σ Q) X.xe s := by
  obtain ⟨gD, S, Qd, Xd, r, rg, w, hq, hx⟩ := h
  obtain ⟨n2, en2, w⟩ := opt_of (w C ek)
  rw [en] at en2
  cases en2
  have oc := o.oc.ok kk C ek
  rw [← o.eK] at oc
  obtain ⟨q', eq, mt, hfn⟩ := oc.mt M.nmInit n hp rfl en
  have ef := D.at_ q' eq
  subst ef
  have hn : H (s.heap.objs.size + 1) = none := I.hok.fresh (Nat.le_succ _)
  have hd : H s.heap.objs.size = none := I.hok.fresh (Nat.le_refl _)
  have ne : s.heap.objs.size ≠ s.heap.objs.size + 1 := Nat.ne_of_lt (Nat.lt_succ_self _)
  obtain ⟨f0, r0⟩ := ins_new (C := C) (o.oc.ok kk C ek).iso r hn hd ne
  have want : lift c (M.cl (c.G.fn n)) (gV (.ref (s.heap.objs.size + 1))) (L2.upd (L2.upd H s.heap.objs.size (.own (s.heap.objs.size + 1))) (s.heap.objs.size + 1) (.ins C s.heap.objs.size [])) (fun v H2 => v = .non ∧ Q (.ref (s.heap.objs.size + 1)) H2) (WE W σ) := by
    refine ⟨_, _, _, Xd, rg _ _ _ f0, r0, w (s.heap.objs.size + 1) (r.none hn), fun d S' v H' f' r' rd ⟨hi, q⟩ => ?_, hx.after f0⟩
    cases rd with
    | non => exact ⟨rfl, hq _ S' _ H' (f0.trans f') r' (.ref _) q⟩
    | _ => cases hi
  have I2 := Inv.made (C := C) I
  have r2 := hr (s.heap.objs.size + 1)
  have hlen : (gU (.ref (s.heap.objs.size + 1))).length = ps.length := by rw [← r2.length]; exact F.len _ _ _ _ want
  have hc : c.T.hot = false := not1 hh
  have rm : RoomB false k (X.A.under (.builtin "type.__call__" ⟨.ref C :: us, kw⟩)) := by have := o.roomX.make C us kw; rw [hc] at this; exact this
  have gd : (X.A.under (.builtin "type.__call__" ⟨.ref C :: us, kw⟩)).guards = some [] := by
    have := o.gd
    first | exact this | (simp [Around.under, Code.isCreation, Code.isGuard, guardIds, this])
  have hI : PySem.W.findIn X.K (.ref C) "__init__" = some (some (.ref (plA X.K q'))) := mt.at_
  refine wpAny_call (make_map (f := plA X.K q') I.kIn oc.mks hI (beq_iff_eq.mp mt.fn) (codeAny_mono (F.run _ X.stack _ _ ⟨Value.ref (s.heap.objs.size + 1) :: us, kw⟩ (gU (.ref (s.heap.objs.size + 1))) (gV (.ref (s.heap.objs.size + 1))) _ (WE W σ) rm gd (fun z => nomatch z)
    (I2.env0.make C us kw) (hb _ _ I2.kIn hlen) r2 want) fun r s' hq' => ?_))
  cases r with
  | error e => exact pass_ok o σ pins _ _ e s' I2 hq'
  | ok fl =>
    cases fl with
    | ret u =>
      obtain ⟨v, H', I3, rv, ev, q3⟩ := I2.after hq'
      subst ev
      exact ⟨rv, ⟨V.ref (s.heap.objs.size + 1), H', I3, rfl, q3⟩⟩
    | next => exact False.elim hq'
    | brk => exact False.elim hq'
    | cont => exact False.elim hq'
def RND (c : Cn) (kk : Nat) (cs : List M.Kc) (vs : List V) (H : Hp) (Q : VK) (E : XK) : Prop := (∀ C, c.G.ob kk = some C → ∃ n, c.G.mt kk M.nmInit = some n) ∧ ∀ dvs, (∀ H, RelDs c.K H (cs.map M.kcD) dvs) → RN c kk (fun p => p :: (vs ++ dvs)) H Q E
theorem pe_newdM (o : Ok c k N sc X W) (hh : (!c.T.hot) = true) {kk : Nat} {cs : List M.Kc} {x : Str} {es : List Expr} {p pos : Pos} {t : TA} (hx : c.T.ocs[kk]? = some x) (hp' : M.nmInit ∉ c.T.prs) (hg : glB sc x = true) (hd : (x == ("__debug__" : Str)) = false) (ha : PA X es t) (hp : es.all plB = true) (h0 : es = [] → ∀ σ H Q, t σ H Q → Q [] H)
    (hm : ∀ e ∈ c.T.mtb, e.1 = (kk, M.nmInit) → (e.2, cs) ∈ c.T.dfl) :
    PE X (.Call (.Name x p) es [] pos) (fun σ H Q => t σ H fun vs H1 => RND c kk cs vs H1 Q (WE W σ)) := by
  obtain ⟨C, m1, ek, kp⟩ := cls_at o hx
  have go : ∀ {pins : List (Addr × Obj)} {s : Shared} {σ : Sl} {H : Hp} {Q : VK} {us : List Value} {vs : List V}, Inv X pins σ H s → Vals vs us → RND c kk cs vs H Q (WE W σ) → wpAny (model X.prog X.w) X.A (call (.ref C) us) (EP X pins σ Q) X.xe s := by
    intro pins s σ H Q us vs I r ⟨q1, q⟩
    obtain ⟨n, en⟩ := q1 C ek
    obtain ⟨y, f, fd, ps, hmm, D, F⟩ := o.meth en
    obtain ⟨dvs, dus, rd, rD, b⟩ := D.bf cs (hm _ hmm rfl)
    refine run_newB o hh (gV := fun p => p :: (vs ++ dvs)) (gU := fun p => p :: (us ++ dus)) hp' ek en D F (fun p => Paired.cons (show RelV (V.ref p) (Value.ref p) from rfl) (r.append rd)) (fun p s hK hl => ?_) I (q dvs (by rw [← o.eK]; exact rD))
    exact b s (Value.ref p :: us) hK hl
  refine ⟨fun pins s σ H Q I h => ?_⟩
  refine wpAny_Call_Name_kw (ld_glob I (o.gl hg) m1 ?_ hd)
  cases es with
  | nil =>
    refine PySem.W.callWith_K0 I.kIn kp ?_
    exact go I .nil (h0 rfl _ _ _ h)
  | cons e es =>
    have hp' := and2 (show (plB e && es.all plB) = true from hp)
    exact PySem.W.callWith_K (h₀ := X.base) I.ok.mod.kin kp (thn (ha.run pos pins s σ H _ I h) fun us s1 ⟨vs, H1, I1, r, q⟩ => ⟨I1.kIn, go I1 r q⟩) (plB_star hp'.1) (plB_all hp'.2)
end
end Snd
/-! list comprehensions while an error is handled -/
namespace Snd
open PySem PySem.Spec PyProof.Rows L2
open HotX (HotAt)
/-! ### a list ends while an error is handled -/
theorem list_end_hot {prog : Program} {w : World} {A : Around} {E : Value → Shared → Prop} {s : Shared} {it l x1 : Addr} {i : Nat} {items : Array Value} {Q : Option Value → Shared → Prop} (hot : HotAt A x1 s.heap) (hne : x1 ≠ it) (hit : s.heap.IsListIter it l i) (hl : s.heap.IsList l items) (hx : items[i]? = none)
    (hQ : ∀ h', (∀ b o, b ≠ it → s.heap.get? b = some o → h'.get? b = some o) → Q none { s with heap := h' }) : wpAny (model prog w) A (pyNext (.ref it)) Q E s := by
  obtain ⟨o, ho, hc, hd⟩ := id hit
  obtain ⟨ol, hol, _, nl, hdl⟩ := hl
  obtain ⟨hh, o1, vs1, h1, d1, c1⟩ := hot
  unfold pyNext
  refine wpAny_bind (wpAny_attempt (wpAny_callSpecial?_slot (name := Str.ofString "__next__") hit.typeIs slot_listiter_next
    (wpAny_call_entry slot_listiter_next hit.typeIs entry_listiter_next ?_ (args_listiter_next _))))
  show wpAny _ _ (field (.ref it) 0 >>= _) _ _ s
  refine wpAny_bind (wpAny_field ho hd (x := .ref l) rfl ?_)
  show wpAny _ _ (if (Value.ref l == Value.none) = true then _ else _) _ _ s
  rw [if_neg (show ¬ ((Value.ref l == Value.none) = true) from Bool.false_ne_true)]
  show wpAny _ _ (field (.ref it) 1 >>= _) _ _ s
  refine wpAny_bind (wpAny_field ho hd (x := .int i 0) rfl ?_)
  show wpAny _ _ (seqItems? (.ref l) >>= _) _ _ s
  refine wpAny_bind (wpAny_seqItems hol hdl ?_)
  simp only [Int.toNat_natCast, hx]
  refine wpAny_bind (wpAny_rule (wpAny_bind (wpAny_setField ho hd (by simp) ?_)))
  show wpAny _ _ (newExc (.type "StopIteration") [] >>= _) _ _ _
  refine wpAny_bind ?_
  simp only [newExc, newTuple]
  refine wpAny_bind (wpAny_newObj_type ?_ (by size_fits))
  refine wpAny_bind (m := firstArgMember _ _) (wpAny_of_eq (a := Value.none) (by first | rfl | (simp only [firstArgMember]; rfl)) ?_)
  refine wpAny_newObj_type ?_ (by size_fits)
  have k1 : ∀ {b : Addr} {o : Obj} {f : Obj → Obj}, b ≠ it → s.heap.get? b = some o → (s.heap.update it f).get? b = some o := fun {b o f} hb e => (Heap.get?_update_other _ _ (Ne.symm hb)).trans e
  refine HotX.raiseNew_hot ⟨hh, o1, vs1, Heap.get?_push_of_some _ (Heap.get?_push_of_some _ (k1 hne h1)), d1, c1⟩ (Nat.ne_of_lt (Heap.lt_size (Heap.get?_push_of_some _ (k1 hne h1)))) (Heap.get?_push_size _ rfl) rfl (by first | (simp; done) | (simp; omega) | (simp only [Array.size_append]; simp; omega)) ?_
  refine wpAny_bind (wpAny_isInstance (T := "StopIteration") (b := true) ⟨_, Heap.get?_update_self _ (Heap.get?_push_size _ rfl) rfl, rfl⟩ isSubtype_stop ?_)
  refine wpAny_pure (hQ _ fun b o hb e => ?_)
  rw [Heap.get?_update_other _ _ (Nat.ne_of_gt (Heap.lt_size (Heap.get?_push_of_some _ (k1 hb e))))]
  exact Heap.get?_push_of_some _ (Heap.get?_push_of_some _ (k1 hb e))
/-! ### the handled error stands frozen from the entry on -/
def HotF (X : Cx) : Prop := ∃ (x1 : Addr) (oe : Obj) (u : HO), X.A.handled = some (.ref x1) ∧ X.H_0 x1 = some (.frz oe u) ∧ ∃ vs, oe.data = .fields vs ∧ vs[2]? = some .none
theorem HotF.at {X : Cx} {pins : List (Addr × Obj)} {σ : Sl} {H : Hp} {s : Shared} (h : HotF X) (I : Inv X pins σ H s) : ∃ x1 o, HotAt X.A x1 s.heap ∧ H x1 = some o := by
  obtain ⟨x1, oe, u, h1, h2, vs, h3, h4⟩ := h
  have e := I.base.frzs x1 oe u h2
  obtain ⟨g, _⟩ := I.hok x1 _ e
  exact ⟨x1, _, ⟨h1, oe, vs, g, h3, h4⟩, e⟩
/-- an iterator, read while an error is handled -/
structure TurnX (P : Program) (w : World) (K : Frag) (tg : Expr) (J : It) (it : Addr) (tn : Nat → Heap → Prop) : Prop where
  obj : ∀ i h, tn i h → ∃ o, h.get? it = some o ∧ ∀ v, o.data ≠ .cell v
  keep : ∀ i h h', tn i h → (∀ o, h.get? it = some o → h'.get? it = some o) → tn i h'
  item : ∀ (X : Cx), X.prog = P → X.w = w → X.K = K → ∀ (i : Nat) (pins : List (Addr × Obj)) (s : Shared) (σ : Sl) (H : Hp) (E : Value → Shared → Prop), Inv X pins σ H s → FpOk X pins H it → tn i s.heap → J.go i H →
    wpAny (model P w) X.A (pyNext (.ref it)) (fun r s1 => ∃ u, r = some u ∧
      wpAny (model P w) X.A (letOwnedTupleGo tg (.ref it) u) (fun _ s2 => ∃ x H', Inv X pins σ H' s2 ∧ RelV x u ∧ J.yld i H x H' ∧ tn (i + 1) s2.heap ∧ H' it = none) E s1) E s
  done : ∀ (X : Cx), X.prog = P → X.w = w → X.K = K → HotF X → ∀ (i : Nat) (pins : List (Addr × Obj)) (s : Shared) (σ : Sl) (H : Hp) (E : Value → Shared → Prop), Inv X pins σ H s → FpOk X pins H it → tn i s.heap → J.stop i H →
    wpAny (model P w) X.A (pyNext (.ref it)) (fun r s1 => r = none ∧ Inv X pins σ H s1) E s
  self : ∀ (A : Around) (i : Nat) (s : Shared) (Q : Value → Shared → Prop) (E : Value → Shared → Prop), tn i s.heap → Q (.ref it) s → wpAny (model P w) A (pyIter (.ref it)) Q E s
theorem turnX_list {P : Program} {w : World} {K : Frag} {tg : Expr} (a it : Addr) : TurnX P w K tg (Itl K a) it (fun i h => h.IsListIter it a i) where
  obj := fun i h ⟨o, e, c, d⟩ => ⟨o, e, fun v z => by rw [d] at z; cases z⟩
  keep := fun i h h' st k => st.at fun o e => k o e
  item := by
    intro X hP hw hK i pins s σ H E I hf st ⟨xs, x, hq, hx⟩
    subst hP hw hK
    obtain ⟨its, rv, p, hz⟩ := I.list hq
    obtain ⟨u, hu, ru⟩ := rv.get hx
    obtain ⟨f0, f1, f2, f3, f4, f5⟩ := hf
    refine wpAny_pyNext_list_item st p.isList (x := u) (by simpa using hu) fun h' st' sb => ?_
    have I1 : Inv X pins σ H { s with heap := h' } := I.turned (t' := s.toks) (fun b o hb e => (sb.2 b hb).trans e) f0 f1 f3 f4 f5
    obtain ⟨o, e, c, d⟩ := id st'
    exact ⟨u, rfl, go_of (s := { s with heap := h' }) e c d (by decide) ⟨x, H, I1, ru, ⟨rfl, fun ys hy => by rw [I.list_inj hy hq]; exact hx⟩, st', f0⟩⟩
  done := by
    intro X hP hw hK hc i pins s σ H E I hf st ⟨xs, hq, hx⟩
    subst hP hw hK
    obtain ⟨its, rv, p, hz⟩ := I.list hq
    obtain ⟨f0, f1, f2, f3, f4, f5⟩ := hf
    obtain ⟨x1, o, hot, e1⟩ := hc.at I
    have hl := rv.length
    exact list_end_hot hot (fun z => by rw [z, f0] at e1; cases e1) st p.isList (by simp; omega) fun h' eb => ⟨rfl, I.turned (t' := s.toks) (fun b o hb e => eb b o hb e) f0 f1 f3 f4 f5⟩
  self := fun _ _ _ _ _ st h => wpAny_pyIter_listiter st h
theorem turnX_range {P : Program} {w : World} {K : Frag} {tg : Expr} (it : Addr) (lo : Int) (n : Nat) : TurnX P w K tg (Itr lo n) it (fun i h => IsRangeIter h it (lo + (i : Nat) * 1) ((n : Int) - (i : Nat)) 1) where
  obj := fun i h st => ⟨_, st, fun v z => by
    have z' : Data.fields _ = Data.cell v := z
    cases z'⟩
  keep := fun i h h' st k => k _ st
  item := by
    intro X hP hw hK i pins s σ H E I hf st hg
    subst hP hw hK
    obtain ⟨f0, f1, f2, f3, f4, f5⟩ := hf
    have hlt : i < n := hg
    refine wpAny_pyNext_range_item st (by omega) fun h' st' sb => ?_
    have st2 : IsRangeIter h' it (lo + ((i + 1 : Nat) : Int) * 1) ((n : Int) - ((i + 1 : Nat) : Int)) 1 := by
      rw [show lo + ((i + 1 : Nat) : Int) * 1 = lo + ((i : Nat) : Int) * 1 + 1 by omega, show (n : Int) - ((i + 1 : Nat) : Int) = (n : Int) - ((i : Nat) : Int) - 1 by omega]
      exact st'
    have I1 : Inv X pins σ H { s with heap := h', toks := s.toks + 1 } := I.turned (fun b o hb e => (sb.2 b hb).trans e) f0 f1 f3 f4 f5
    refine ⟨_, rfl, go_of (s := { s with heap := h', toks := s.toks + 1 }) (n := "range_iterator") st2 rfl rfl (by decide) ⟨.int (lo + i), H, I1, ⟨s.toks, ?_⟩, ⟨rfl, rfl⟩, st2, f0⟩⟩
    rw [Int.mul_one]
  done := by
    intro X hP hw hK hc i pins s σ H E I hf st hg
    subst hP hw hK
    obtain ⟨f0, f1, f2, f3, f4, f5⟩ := hf
    obtain ⟨x1, o, hot, e1⟩ := hc.at I
    exact HotX.pyNext_range_end_hot hot st (by have : n ≤ i := hg; omega) fun h' eb => ⟨rfl, I.turned (t' := s.toks) (fun b o _ e => eb b o e) f0 f1 f3 f4 f5⟩
  self := fun _ _ _ _ _ st h => wpAny_pyIter_rangeiter st h
/-! ### what is walked -/
def PIEX (X : Cx) (pins : List (Addr × Obj)) (σ : Sl) (tg : Expr) (R : It → Hp → Prop) (itv : Value) (s2 : Shared) : Prop :=
  ∃ (it : Addr) (tn : Nat → Heap → Prop) (J : It) (H' : Hp), itv = .ref it ∧ Inv X pins σ H' s2 ∧ TurnX X.prog X.w X.K tg J it tn ∧ tn 0 s2.heap ∧ FpOk X pins H' it ∧ R J H'
structure PIX (X : Cx) (tg iter : Expr) (wi : TI) : Prop where
  run : ∀ (pins : List (Addr × Obj)) (s : Shared) (σ : Sl) (H : Hp) (R : It → Hp → Prop), Inv X pins σ H s → wi σ H R →
    wpAny (model X.prog X.w) X.A (eval iter X.env) (fun v s1 => wpAny (model X.prog X.w) X.A (pyIter v) (PIEX X pins σ tg R) X.xe s1) X.xe s
theorem PIX.imp {X : Cx} {tg e : Expr} {t t' : TI} (h : PIX X tg e t) (i : ∀ σ H R, t' σ H R → t σ H R) : PIX X tg e t' := ⟨fun pins s σ H R I q => h.run pins s σ H R I (i σ H R q)⟩
def iLstX (K : Frag) (te : TE) : TI := fun σ H R => te σ H fun v H1 => ∃ a xs, v = .ref a ∧ SqL K H1 a xs ∧ R (Itl K a) H1
theorem pix_list {X : Cx} {tg e : Expr} {te : TE} (he : PE X e te) : PIX X tg e (iLstX X.K te) := by
  refine ⟨fun pins s σ H R I h => ?_⟩
  refine thn (he.run pins s σ H _ I h) fun v s1 ⟨y, H1, I1, r1, a, xs, ey, hq, q⟩ => ?_
  subst ey
  cases r1
  obtain ⟨its, rv, p, hz⟩ := I1.list hq
  refine wpAny_pyIter_list p.isList ?_
  exact ⟨s1.heap.objs.size, _, _, H1, rfl, I1.kept (t' := s1.toks) fun b o e => Heap.get?_push_of_some _ e, turnX_list a _, ⟨_, Heap.get?_push_size _ rfl, rfl, rfl⟩, I1.fpOk (Nat.le_refl _) (I1.hok.fresh (Nat.le_refl _)), q⟩
theorem pix_range {X : Cx} {tg a : Expr} {ta : TA} {p pos : Pos} (hg : Gl X "range") (hm : X.mg "range" = none) (ha : PA X [a] ta) (hs : starEach [a] X.env = [(false, eval a X.env)]) : PIX X tg (.Call (.Name "range" p) [a] [] pos) (iRng1 ta) := by
  refine ⟨fun pins s σ H R I h => ?_⟩
  refine Call_ (ld_blt I hg hm boot_range (PyProof.Rows.callWith_type1 (thn (ha.run pos pins s σ H _ I h) fun us s1 ⟨vs, H1, I1, r1, j, ej, q1, q2, q⟩ => ?_) hs rfl))
  subst ej
  cases r1 with
  | cons r rr =>
    cases rr
    obtain ⟨t, rfl⟩ := r
    refine call_range_1 ?_
    refine wpAny_pyIter_range (IsRange.new ..) (small_one (by omega) (by omega) q1 q2) ?_
    refine ⟨_, _, Itr 0 j.toNat, H1, rfl, (I1.kept fun b o e => Heap.get?_push_of_some _ (Heap.get?_push_of_some _ e)), turnX_range _ 0 j.toNat, ?_, ?_, q⟩
    · show IsRangeIter _ _ (0 + ((0 : Nat) : Int) * 1) (((j.toNat : Nat) : Int) - ((0 : Nat) : Int)) 1
      have e2 : ((j.toNat : Nat) : Int) - ((0 : Nat) : Int) = Builtin.Range.rangeSize 0 j 1 := by rw [rangeSize_one]; split <;> omega
      rw [e2, show (0 : Int) + ((0 : Nat) : Int) * 1 = 0 by omega]
      exact Heap.get?_push_size _ rfl
    · exact I1.fpOk (by rw [Heap.size_push]; exact Nat.le_succ _) (I1.hok.fresh (by rw [Heap.size_push]; exact Nat.le_succ _))
/-! ### the comprehension -/
/-- the items are read where the error at hd still stands -/
def tHot (hd : Addr) (wi : TI) : TI := fun σ H R => wi σ H fun J H1 => (∃ C, Xo H1 C hd) ∧ R J H1
section
variable {X : Cx} {elt tg iter : Expr} {ifs : List Expr} {scope : Scope} {own : List (Str × Nat)} {pos : Pos} {wi : TI} {g : TG} {tt : TT} {te : TE} {hd : Addr}
/-- the loop within the block's own context -/
theorem hot_loop {s3 s4 : Shared} {H3 : Hp} {ce : Env} {it D : Addr} {tn : Nat → Heap → Prop} {J : It} {σ : Sl} {R : Result → Shared → Prop} {Wi : Nat → Nat → Hp → Prop} {m0 : Nat} {QD : Hp → Prop}
    (hf : HotF (X.blk s3 H3 scope ce [it])) (T : TurnX X.prog X.w X.K tg J it tn) (pg : PG (X.blk s3 H3 scope ce [it]) tg g) (pt : PTs (X.blk s3 H3 scope ce [it]) ifs tt) (pe : PE (X.blk s3 H3 scope ce [it]) elt te)
    (I4 : Inv (X.blk s3 H3 scope ce [it]) [] (L2.wipe σ (own.map (·.2))) H3 s4) (st4 : tn 0 s4.heap) (n4 : H3 it = none) (w0 : Wi 0 m0 H3)
    (turn : ∀ i m H, Wi i m H → (J.stop i H ∧ QD H) ∨ (J.go i H ∧ ∃ Nx : Hp → Prop, (∀ H', Nx H' → ∃ m', m' < m ∧ Wi (i + 1) m' H') ∧ ∀ x H', J.yld i H x H' → g x (L2.wipe σ (own.map (·.2))) H' fun σ2 H2 => L2.wipe σ2 (own.map (·.2)) = L2.wipe σ (own.map (·.2)) ∧ tt σ2 H2 fun b H3 =>
      if b = true then te σ2 H3 fun y H4 => ∃ acc, H4 D = some (.lst acc) ∧ acc.length < sizeLine ∧ Nx (L2.upd H4 D (.lst (acc ++ [y]))) else Nx H3))
    (fin : ∀ s6 H6, Inv (X.blk s3 H3 scope ce [it]) [] (L2.wipe σ (own.map (·.2))) H6 s6 → QD H6 → R (.ok .next) s6) :
    codeAny (model X.prog X.w) X.A (.compLoop (.ListComp elt [⟨tg, iter, ifs, 0⟩] scope pos) 0 (.ref it) (.ref D) ce) R s4 := by
  have stat : ∀ {σ' : Sl} {H' : Hp} {s' : Shared}, Inv (X.blk s3 H3 scope ce [it]) [] σ' H' s' → H' it = none → FpOk (X.blk s3 H3 scope ce [it]) [] H' it := fun {σ' H' s'} I' hn =>
    ⟨hn, (I'.ok.exf it List.mem_cons_self).1, I'.ok.exfs it List.mem_cons_self, .inl List.mem_cons_self, fun x c e => (I'.ok.exf it List.mem_cons_self).2 x c e, fun p hp => absurd (show p ∈ ([] : List (Addr × Obj)) ++ [] from hp) (by simp)⟩
  have pinIt : ∀ {s' : Shared} {o : Obj}, s'.heap.get? it = some o → (it, o) ∈ pinsAt [it] s'.heap := fun {s' o} e => mem_pinsAt List.mem_cons_self e
  refine compLoop_any (fun n s' => ∃ i H', Inv (X.blk s3 H3 scope ce [it]) [] (L2.wipe σ (own.map (·.2))) H' s' ∧ tn i s'.heap ∧ H' it = none ∧ Wi i n H') (fun n s5 h5 => ?_) m0 ⟨0, H3, I4, st4, n4, w0⟩
  obtain ⟨i, H5, I5, st5, n5, w5⟩ := h5
  rcases turn i n H5 w5 with ⟨stop, qq⟩ | ⟨go, Nx, hNx, step⟩
  · refine thnF (T.done (X.blk s3 H3 scope ce [it]) rfl rfl rfl hf i [] s5 _ H5 (fun _ _ => False) I5 (stat I5 n5) st5 stop) fun r s6 ⟨hr, I6⟩ => ?_
    subst hr
    exact fin s6 H5 I6 qq
  · refine thnF (T.item (X.blk s3 H3 scope ce [it]) rfl rfl rfl i [] s5 _ H5 (fun _ _ => False) I5 (stat I5 n5) st5 go) fun r s6 ⟨u, hr, h6⟩ => ?_
    subst hr
    refine thnF h6 fun _ s7 ⟨x, H7, I7, r7, y7, st7, n7⟩ => ?_
    obtain ⟨oi, ei, ci⟩ := T.obj _ _ st7
    have I7' := I7.pinned (fp := [it]) (fun b hb => by rw [List.mem_singleton.mp hb]; exact stat I7 n7) (fun b hb => by rw [List.mem_singleton.mp hb]; exact ⟨oi, ei, ci⟩)
    refine thnF (pg.run _ s7 _ H7 x u _ I7' r7 (step x H7 y7)) fun _ s8 ⟨σ8, H8, I8, hw8, q8⟩ => ?_
    refine thnF (pt.run _ s8 σ8 H8 _ I8 q8) fun b s9 ⟨H9, I9, q9⟩ => ?_
    have next : ∀ {s' : Shared} {H' : Hp}, Inv (X.blk s3 H3 scope ce [it]) ([] ++ pinsAt [it] s7.heap) σ8 H' s' → Nx H' → ∃ m, m < n ∧ ∃ i H', Inv (X.blk s3 H3 scope ce [it]) [] (L2.wipe σ (own.map (·.2))) H' s' ∧ tn i s'.heap ∧ H' it = none ∧ Wi i m H' := fun {s' H'} I' nx => by
      obtain ⟨m', hm, w'⟩ := hNx H' nx
      have pin' := I'.pin (it, oi) (List.mem_append_right _ (List.mem_append_right _ (pinIt ei)))
      refine ⟨m', hm, i + 1, H', (I'.unpinned (pins := [])).weak (by rw [← hw8, wipe_length]) (fun j v e => ?_), T.keep _ _ _ st7 fun o e => ?_, pin'.2.1, w'⟩
      · rw [← hw8] at e
        exact (wipe_some e).1
      · rw [ei] at e
        cases e
        exact pin'.1
    cases b with
    | false =>
      simp only [Bool.false_eq_true, if_false] at q9 ⊢
      exact next I9 q9
    | true =>
      simp only [if_true] at q9 ⊢
      refine thnF (pe.run _ s9 σ8 H9 _ I9 q9) fun z s10 ⟨yv, H10, I10, r10, acc, hD10, hz10, nx⟩ => ?_
      exact app_ok (X := X.blk s3 H3 scope ce [it]) I10 hD10 hz10 r10 fun s11 I11 => next I11 nx
theorem pe_lcX (hh : X.A.handled = some (.ref hd)) (hN : X.N.Nodup) (hi : PIX X tg iter wi) (ok : BlkOk X.N X.env.scope scope own)
    (hg : ∀ (s : Shared) (H : Hp) (C : Addr) (cl : List (Str × Addr)) (fp : List Addr), PG (X.blk s H scope (compEnvC scope cl C X.env) fp) tg g) (ht : ∀ (s : Shared) (H : Hp) (C : Addr) (cl : List (Str × Addr)) (fp : List Addr), PTs (X.blk s H scope (compEnvC scope cl C X.env) fp) ifs tt)
    (he : ∀ (s : Shared) (H : Hp) (C : Addr) (cl : List (Str × Addr)) (fp : List Addr), PE (X.blk s H scope (compEnvC scope cl C X.env) fp) elt te) (hs : ∀ x, foldedSetIterable iter X.env x = pure x) :
    PE X (.ListComp elt [⟨tg, iter, ifs, 0⟩] scope pos) (tLc (tHot hd wi) g tt te (own.map (·.2))) := by
  refine ⟨fun pins s σ H Q I h => ?_⟩
  rw [eval_ListComp]
  have hfree : ∀ y ∈ scope.names, y.2 = .free → ∃ c, X.env.cells.lookup y.1 = some c := fun y hy e => (ok.free y hy e).elim (fun k => I.ok.has _ (.inl k)) fun k => I.ok.has _ (.inr k)
  refine wpAny_comprehension_free (use := none) rfl hs (closure_ok hfree) ok.kind (fun y hy e => by rw [ok.uniq y hy, e]) (thn (hi.run pins s σ H _ I h) fun xv s1 hx => thn hx fun itv s2 h2 => ?_)
  obtain ⟨it, tn, J, H2, e, I2, T, st2, f2, ⟨C0, oe, xd0, eo, ⟨ea, vs, ed⟩, _⟩, q⟩ := h2
  subst e
  refine wpAny_newObj_type (newEnv_comp ?_) (by show 0 ≤ sizeLine; decide)
  obtain ⟨D, hD⟩ : ∃ D, s2.heap.objs.size = D := ⟨_, rfl⟩
  rw [hD]
  have hDn : H2 D = none := I2.hok.fresh (Nat.le_of_eq hD)
  obtain ⟨Wi, ⟨m0, w0⟩, turn⟩ := q D hDn
  obtain ⟨s3, hs3⟩ : ∃ z : Shared, { s2 with heap := s2.heap.push { cls := .type "list", data := .seq ([] : List Value).toArray } } = z := ⟨_, rfl⟩
  have I3 : Inv X pins σ (L2.upd H2 D (.lst [])) s3 := by
    rw [← hs3]
    refine I2.laid (t' := s2.toks) (fun b o e => Heap.get?_push_of_some _ e) (Nat.le_of_eq hD) ⟨Nat.zero_le _, [], 0, .nil, ?_⟩
    rw [← hD]
    exact Heap.get?_push_size _ rfl
  have up3 : ∀ b o, s2.heap.get? b = some o → s3.heap.get? b = some o := fun b o e => by rw [← hs3]; exact Heap.get?_push_of_some _ e
  obtain ⟨oi, ei, _⟩ := T.obj _ _ st2
  have ltI : it < s2.heap.objs.size := Heap.lt_size ei
  have n3 : (L2.upd H2 D (.lst [])) it = none := by rw [L2.upd_ne (by rw [← hD]; exact Nat.ne_of_lt ltI)]; exact f2.1
  have f3 : FpOk X pins (L2.upd H2 D (.lst [])) it := ⟨n3, f2.2⟩
  have I4 := block_start I3 ok hN (fp := [it]) fun b hb => by rw [List.mem_singleton.mp hb]; exact ⟨f3, Heap.lt_size (up3 _ _ ei)⟩
  have hf : ∀ ce, HotF (X.blk s3 (L2.upd H2 D (.lst [])) scope ce [it]) := fun ce => ⟨hd, oe, _, hh, by
    show (L2.upd H2 D (.lst [])) hd = _
    rw [L2.upd_ne (fun z => by rw [z, hDn] at eo; cases eo)]
    exact eo, vs, ed, ea.2.2 vs ed⟩
  have st3 : tn 0 s3.heap := T.keep _ _ _ st2 fun o e => up3 _ _ e
  have pg := hg s3 (L2.upd H2 D (.lst [])) s3.heap.objs.size (cellsFrom (s3.heap.objs.size + 1) scope.names (cloFrom X.env.cells scope.names [])) [it]
  have pt := ht s3 (L2.upd H2 D (.lst [])) s3.heap.objs.size (cellsFrom (s3.heap.objs.size + 1) scope.names (cloFrom X.env.cells scope.names [])) [it]
  have pe := he s3 (L2.upd H2 D (.lst [])) s3.heap.objs.size (cellsFrom (s3.heap.objs.size + 1) scope.names (cloFrom X.env.cells scope.names [])) [it]
  rw [hs3]
  show codeAny _ _ (.compStart (.ListComp elt [⟨tg, iter, ifs, 0⟩] scope pos) 0 (.ref it) (.ref D) (compEnvC scope (cellsFrom (s3.heap.objs.size + 1) scope.names (cloFrom X.env.cells scope.names [])) s3.heap.objs.size X.env)) (compPost (model X.prog X.w) X.A X.xe none _ (.ref D) s3.heap.objs.size) { s3 with heap := pushCells (s3.heap.push { cls := .type "dict", data := .dict #[] }) scope.names }
  have st4 : tn 0 ({ s3 with heap := pushCells (s3.heap.push { cls := .type "dict", data := .dict #[] }) scope.names } : Shared).heap := T.keep _ _ _ st3 fun o e => pushCells_keeps _ _ _ _ (Heap.get?_push_of_some _ e)
  refine codeAny_compStart_list ?_ (T.self X.A 0 _ _ _ st4 ?_) <;>
  · refine hot_loop (hf _) T pg pt pe I4 st4 n3 w0 turn fun s6 H6 I6 qq => ?_
    have I7 : Inv X pins σ H6 s6 := I3.call' (ch := [it]) I6.os I6.base I6.hok I6.bare fun b hb => by rw [List.mem_singleton.mp hb]; exact ⟨f3.2.2.2.1, f3.2.1, f3.2.2.2.2.1, f3.2.2.2.2.2⟩
    have nC : H6 s3.heap.objs.size = none := I6.free
    obtain ⟨m, hn, _⟩ := I6.loc
    obtain ⟨f0, f1, f2', f3', f4, f5⟩ := I3.fpOk (Nat.le_refl _) nC
    exact ⟨m, hn, fun h'' sb => ⟨.ref D, H6, I7.turned (t' := s6.toks) (fun b o hb e => (sb.2 b hb).trans e) f0 f1 f3' f4 f5, rfl, qq⟩⟩
end
/-! ### calls and readings while an error is handled -/
section
variable {c : Cn} {k : Nat} {N : List Str} {sc : Scope} {X : Cx} {W : WX}
def tItH (c : Cn) (W : WX) (it : M.It) : TI := fun σ H R => ∃ ρ S Rd Xd, ρ.length = σ.length ∧ RelE c.K H ρ σ ∧ RelS c.K H S ∧ M.wpH c.G it ρ S Rd Xd ∧ OkI c.K S H Rd R ∧ OkX c S H Xd fun cls d H' => W cls d σ H'
theorem lst_rel {K : Frag} {H : Hp} {S : M.Sto} {d : M.D} {v : V} {Rd : M.IK} {R : It → Hp → Prop} (r : RelS K H S) (rd : RelD K H d v) (w : M.opt (M.lsOf S d) fun _ => M.seqD d S Rd) (q : OkI K S H Rd R) : ∃ a xs, v = .ref a ∧ SqL K H a xs ∧ R (Itl K a) H := by
  obtain ⟨xs0, e0, w⟩ := opt_of w
  cases rd with
  | ref a =>
    obtain ⟨xs, e, w⟩ := opt_of (show M.opt (M.lstAt S a) (fun xs => Rd xs (fun S' => S' a = some (.lst xs)) S) from w)
    obtain ⟨vs, h1, h2⟩ := r.at e
    refine ⟨a, vs, rfl, SqL.of h1, q.here r ?_ w⟩
    intro i S2 H2 f r2 ch
    exact mat_list r (.ref a) i S2 H2 f r2 (show M.lsOf S2 (.ref a) = some xs from lstAt_of ch)
  | fl h1 h2 => exact ⟨_, _, rfl, h1.sq, q.here r (fun i S2 H2 f r2 _ => mat_list r (.fl h1 h2) i S2 H2 f r2 rfl) w⟩
  | _ => cases e0
theorem hd_of {H : Hp} {d : M.D} {ds : List M.D} {v : V} (rd : RelD c.K H d v) (q : M.hdA c.G (d :: ds)) : ∃ a C, v = .ref a ∧ c.G.hd = some a ∧ Xo H C a := by
  unfold M.hdA at q
  split at q
  · rename_i C a0 r0 r1 e
    cases e
    obtain ⟨n, e1, e2⟩ := q
    obtain ⟨a, r, e4, e5, h⟩ := rd.xo
    cases e4
    have e3 := Int.ofNat.inj e1
    subst e3
    exact ⟨_, _, e5, e2, h⟩
  · exact False.elim q
theorem hotA_of (o : Ok c k N sc X W) (hh : c.T.hot = true) {H : Hp} {ds : List M.D} {vs : List V} (rd : RelDs c.K H ds vs) (q : M.hdA c.G ds) : HotA X.A vs H := by
  obtain ⟨a0, h0, hA⟩ := o.hx hh
  cases rd with
  | nil => exact False.elim q
  | cons r1 rr =>
    obtain ⟨a, C, e1, e2, e3⟩ := hd_of r1 q
    rw [h0] at e2
    cases e2
    exact ⟨a0, C, _, by rw [e1], hA, e3⟩
theorem hot_xo {H : Hp} {ρ : M.Env} {σ : Sl} {i : Nat} {d : M.D} {a0 : Addr} (re : RelE c.K H ρ σ) (hd : M.look ρ i = some d) (q : M.hdA c.G [d]) (h0 : c.G.hd = some a0) : ∃ C, Xo H C a0 := by
  have e : ρ[i]? = some (some d) := by
    unfold M.look at hd
    cases h : ρ[i]? with
    | none => rw [h] at hd; cases hd
    | some z => rw [h] at hd; cases z with
      | none => cases hd
      | some y => cases hd; rfl
  obtain ⟨v, _, rd⟩ := re i d e
  obtain ⟨a, C, _, e2, e3⟩ := hd_of rd q
  rw [h0] at e2
  cases e2
  exact ⟨C, e3⟩
theorem pe_callhM (o : Ok c k N sc X W) {n : Nat} {x : Str} {es : List Expr} {p pos : Pos} {t : TA} (hx : c.T.fns[n]? = some x) (hat : ((c.T.ats.lookup n).isNone && !c.T.sts.contains n) = true) (hh : c.T.hots.contains n = true) (hot : c.T.hot = true) (hg : glB sc x = true) (hd : (x == ("__debug__" : Str)) = false) (ha : PA X es t) (hp : es.all plB = true) (h0 : es = [] → ∀ σ H Q, t σ H Q → Q [] H) :
    PE X (.Call (.Name x p) es [] pos) (fun σ H Q => t σ H fun vs H1 => HotA X.A vs H1 ∧ lift c (M.cl (c.G.fn n)) vs H1 Q (WE W σ)) := by
  obtain ⟨f, fd, ps, D, F⟩ := o.fns n x hx
  rw [hh] at F
  rw [← o.eK, ← o.em] at D F
  have rm : RoomB true k X.A := by have := o.room; rw [hot] at this; exact this
  have go : ∀ {pins : List (Addr × Obj)} {s : Shared} {σ : Sl} {H : Hp} {Q : VK} {us : List Value} {vs : List V}, Inv X pins σ H s → Vals vs us → HotA X.A vs H ∧ lift c (M.cl (c.G.fn n)) vs H Q (WE W σ) → wpAny (model X.prog X.w) X.A (call (.ref f) us) (EP X pins σ Q) X.xe s := by
    intro pins s σ H Q us vs I r ⟨q0, q⟩
    have hl : us.length = ps.length := by rw [← r.length]; exact F.len _ _ _ _ q
    have b := D.bd (not1 (and2 hat).2) s us I.kIn (by rw [List.append_nil]; exact hl)
    rw [List.append_nil] at b
    exact run_fnG (args := ⟨us, []⟩) (E := WE W) F rm o.gd (fun _ => q0) b (pass_ok o σ) I r q
  refine ⟨fun pins s σ H Q I h => ?_⟩
  refine wpAny_Call_Name_kw (ld_glob I (o.gl hg) (D.mg (Option.isNone_iff_eq_none.mp (and2 hat).1)) ?_ hd)
  cases es with
  | nil =>
    refine PySem.W.callWith_K0 I.kIn D.kp ?_
    exact go I .nil (h0 rfl _ _ _ h)
  | cons e es =>
    have hp' := and2 (show (plB e && es.all plB) = true from hp)
    exact PySem.W.callWith_K (h₀ := X.base) I.ok.mod.kin D.kp (thn (ha.run pos pins s σ H _ I h) fun us s1 ⟨vs, H1, I1, r, q⟩ => ⟨I1.kIn, go I1 r q⟩) (plB_star hp'.1) (plB_all hp'.2)
end
end Snd
namespace PySem
namespace OXK
open PySem.W PySem.Calls PyProof.Rows PySem.HandSPX
section
variable {M : Model} {A : Around} {E : Value → Shared → Prop} {h : Heap} {g : Array GenState} {d : Drawn} {t : Nat} {os : OsState}
variable {nm q : Str} {C N : Addr} {bs bm bmB : List Value} {hdct : Bool} {sn : List Str} {sub : List Value} {ab : Bool} {col : Option Bool} {dd : Option Addr} {k0 k1 k2 k3 k5 : Option Value} {B newId initId : String}
theorem check_new_own (F : ExcBaseFacts B newId initId bmB) (hT : ∀ X : String, bm.contains (.type X) = bmB.contains (.type X)) {rest : List Value} {kw : List (Str × Value)} {Q : Unit → Shared → Prop}
    (hC : h.get? C = some (excClassObj nm q C N bs bm hdct sn sub ab col dd k0 k1 k2 k3 k5 newId)) (hq : Q () ⟨h, g, d, t, os⟩) : wpAny M A (checkBuiltinCall newId ⟨.ref C :: rest, kw⟩) Q E ⟨h, g, d, t, os⟩ := by
  have hcont : (Value.ref C :: bm).contains (.type B) = true := by rw [List.contains_cons, hT, F.hasB, Bool.or_true]
  have hstar := F.noStar
  simp only [checkBuiltinCall, F.newKind, F.newSplit, F.newRow]
  repeat (first | refine wpAny_loadPart_at hC ?_ | (refine wpAny_isSubtype_exc hC ?_; rw [hcont]) | refine wpAny_staticBase_exc hC ?_ | refine wpAny_madeBy_exc hC ?_ | simp only [bne_self_eq_false, Bool.false_eq_true, if_false] | wp_step)
  exact hq
theorem check_type_call {rest : List Value} {kw : List (Str × Value)} {Q : Unit → Shared → Prop} (hC : h.get? C = some (excClassObj nm q C N bs bm hdct sn sub ab col dd k0 k1 k2 k3 k5 newId))
    (hq : Q () ⟨h, g, d, t, os⟩) : wpAny M A (checkBuiltinCall "type.__call__" ⟨.ref C :: rest, kw⟩) Q E ⟨h, g, d, t, os⟩ := by
  have f3 := tc_sub
  have hT : (⟨h, g, d, t, os⟩ : Shared).TypeIs (.ref C) "type" := ⟨_, hC, rfl⟩
  simp only [checkBuiltinCall, tc_kind, tc_split]
  repeat (any_goals (first | assumption | with_reducible refine wpAny_loadPart_at hC ?_ | with_reducible refine wpAny_onRaise ?_ | with_reducible refine wpAny_map ?_ | wp_step))
end
section
variable {prog : Program} {w : World} {A : Around} {E : Value → Shared → Prop} {R : Result → Shared → Prop} {h : Heap} {g : Array GenState} {d : Drawn} {t : Nat} {os : OsState}
variable {nm q : Str} {C N : Addr} {bs bm bmB : List Value} {hdct : Bool} {sn : List Str} {sub : List Value} {ab : Bool} {col : Option Bool} {dd : Option Addr} {k0 k1 k2 k3 k5 : Option Value} {B newId initId : String}
theorem new_own (F : ExcBaseFacts B newId initId bmB) (hT : ∀ X : String, bm.contains (.type X) = bmB.contains (.type X)) {rest : List Value} {kw : List (Str × Value)}
    (hC : h.get? C = some (excClassObj nm q C N bs bm hdct sn sub ab col dd k0 k1 k2 k3 k5 newId))
    (hq : R (.ok (.ret (.ref (h.objs.size + 1)))) ⟨(h.push { cls := .type "tuple", data := .seq rest.toArray }).push
      { cls := .ref C, data := .fields #[.ref h.objs.size, .none, .none, .none, .bool false, .none] }, g, d, t, os⟩) (hrest : rest.length ≤ sizeLine) :
    codeAny (model prog w) A (.builtin newId ⟨.ref C :: rest, kw⟩) R ⟨h, g, d, t, os⟩ := by
  have hends := F.ends
  have hcB : (Value.ref C :: bm).contains (.type B) = true := by rw [List.contains_cons, hT, F.hasB, Bool.or_true]
  have hcA : (Value.ref C :: bm).contains (.type "AttributeError") = false := by rw [List.contains_cons, hT, F.noAttr]; rfl
  have hcN : (Value.ref C :: bm).contains (.type "NameError") = false := by rw [List.contains_cons, hT, F.noName]; rfl
  refine codeAny_builtinAt F.entry ?_
  unfold Builtin.«BaseException.__new__»
  refine PySem.wpAt_bind ?_
  show PySem.wpAt _ _ _ (stack >>= _) _ _ _
  refine PySem.wpAt_bind (PySem.wpAt_stack fun p below => PySem.wpAt_of_wpAny ?_)
  wp_walk
  refine PySem.wpAt_of_wpAny ?_
  rw [F.owner]
  repeat (first | with_reducible refine wpAny_madeHere_exc F.canon hC ?_ | with_reducible refine wpAny_loadPart_at hC ?_ | (with_reducible refine wpAny_isSubtype_exc hC ?_; first | rw [hcB] | rw [hcA] | rw [hcN]) | wp_step)
  show R _ _
  rw [Heap.size_push]
  exact hq
theorem type_call_own (F : ExcBaseFacts B newId initId bmB) (hT : ∀ X : String, bm.contains (.type X) = bmB.contains (.type X)) {rest : List Value} {kw : List (Str × Value)} {fI : Addr} {Q : Fin → Shared → Prop}
    (hC : h.get? C = some (excClassObj nm q C N bs bm hdct sn sub ab col dd k0 k1 k2 k3 k5 newId))
    (hi : W.Looks (model prog w) h (typeLookup (.ref C) "__init__") (some (.ref fI))) (hb : ∀ self, W.Looks (model prog w) h (bindSpecial (.ref fI) self) (.ref fI, [self])) (hrest : rest.length ≤ sizeLine)
    (hq : codeAny (model prog w) A (.call (.ref fI) ⟨.ref (h.objs.size + 1) :: rest, kw⟩)
      (fun r s' => match r with | .ok (.ret v) => v = .none ∧ Q (.done (.ret (.ref (h.objs.size + 1)))) s' | .ok _ => False | .error e => E e s')
      ⟨(h.push (W.kdv_tup rest)).push (excO C h.objs.size), g, d, t, os⟩) :
    wpAny (model prog w) A (Builtin.«type.__call__» ⟨.ref C :: rest, kw⟩) Q E ⟨h, g, d, t, os⟩ := by
  repeat (first | with_reducible refine wpAny_loadPart_at hC ?_ | with_reducible refine wpAny_madeBy_exc hC ?_ | wp_step)
  refine codeAny_call_builtin_code (Code.quiet_builtin _ F.quiet) (check_new_own F hT hC ?_)
  refine new_own F hT hC ?_ hrest
  show wpAny _ _ _ _ _ _
  have k : ∀ b o, h.get? b = some o → ((h.push (W.kdv_tup rest)).push (excO C h.objs.size)).get? b = some o := fun b o e => Heap.get?_push_of_some _ (Heap.get?_push_of_some _ e)
  have hC₁ := k _ _ hC
  have hget : ((h.push (W.kdv_tup rest)).push (excO C h.objs.size)).get? (h.objs.size + 1) = some (excO C h.objs.size) := by heap_get
  have hcC : (Value.ref C :: bm).contains (.ref C) = true := by simp
  have i1 := hi.keeps k
  have b1 := (hb (.ref (h.objs.size + 1))).keeps k
  unfold isInstance
  repeat (first | with_reducible refine wpAny_loadPart_at hget ?_ | (with_reducible refine wpAny_isSubtype_exc hC₁ ?_; rw [hcC]) | wp_step)
  show wpAny _ _ (typeLookup (.ref C) _) _ _ _
  refine i1.at ?_
  refine wpAny_holding (wpAny_bind (b1.at ?_))
  refine wpAny_bind (wpAny_call (codeAny_mono hq fun r s' z => ?_))
  rcases r with e | (v | _ | _ | _) <;> first | exact z | exact z.elim | skip
  obtain ⟨rfl, z⟩ := z
  first
    | exact wpAny_pure (wpAny_pure z)
    | (wp_walk; exact z)
theorem call_own (F : ExcBaseFacts B newId initId bmB) (hT : ∀ X : String, bm.contains (.type X) = bmB.contains (.type X)) {rest : List Value} {kw : List (Str × Value)} {fI : Addr}
    (hC : h.get? C = some (excClassObj nm q C N bs bm hdct sn sub ab col dd k0 k1 k2 k3 k5 newId))
    (hi : W.Looks (model prog w) h (typeLookup (.ref C) "__init__") (some (.ref fI))) (hb : ∀ self, W.Looks (model prog w) h (bindSpecial (.ref fI) self) (.ref fI, [self])) (hrest : rest.length ≤ sizeLine)
    (hq : codeAny (model prog w) (A.under (.builtin "type.__call__" ⟨.ref C :: rest, kw⟩)) (.call (.ref fI) ⟨.ref (h.objs.size + 1) :: rest, kw⟩) (W.InitBack (h.objs.size + 1) R)
      ⟨(h.push (W.kdv_tup rest)).push (excO C h.objs.size), g, d, t, os⟩) :
    codeAny (model prog w) A (.call (.ref C) ⟨rest, kw⟩) R ⟨h, g, d, t, os⟩ := by
  have f1 := tc_lookup
  have f2 := tc_bind (.ref C)
  have hTy : (⟨h, g, d, t, os⟩ : Shared).TypeIs (.ref C) "type" := ⟨_, hC, rfl⟩
  refine codeAny_of_tree ?_
  show wpAny _ _ (callAny (.ref C) _) _ _ _
  repeat (any_goals (first | assumption | with_reducible refine wpAny_loadPart_at hC ?_ | wp_step))
  refine ⟨rfl, ?_⟩
  refine codeAny_call_builtin_at (Code.quiet_builtin _ (by decide +kernel)) entry_typeCall (check_type_call hC (type_call_own F hT hC hi hb hrest ?_))
  refine codeAny_mono hq fun r s' z => ?_
  rcases r with e | (v | _ | _ | _) <;> exact z
end
end OXK
end PySem
namespace Snd
open PySem PySem.Spec PyProof.Rows L2
/-! ### raise C(e), C's own __init__ stores its argument -/
section
variable {X : Cx} {k : Nat} {C : Addr} {n x : Str} {p pos : Pos} {e : Expr} {te : TE}
theorem del_two {H1 : Hp} {a d : Addr} {o1 o2 o3 o4 : HO} (hn : H1 a = none) (hda : d ≠ a) : L2.upd (L2.del (L2.upd (L2.upd (L2.upd H1 a o1) d o2) a o3) a) d o4 = L2.upd H1 d o4 := by
  funext b
  by_cases hb : b = d
  · subst hb; rw [L2.upd_same, L2.upd_same]
  · rw [L2.upd_ne hb, L2.upd_ne hb]
    by_cases ha : b = a
    · subst ha; rw [L2.del_same, hn]
    · rw [L2.del_ne ha, L2.upd_ne ha, L2.upd_ne hb, L2.upd_ne ha]
/-- the argument, written by place or by name -/
def xiPos (kw : Bool) (u : Value) : List Value := if kw then [] else [u]
def xiKw (kw : Bool) (n : Str) (u : Value) : List (Str × Value) := if kw then [(n, u)] else []
theorem call_xi {kw : Bool} {pins : List (Addr × Obj)} {σ : Sl} {H1 : Hp} {s1 : Shared} {u : Value} {v : V} {R : Value → Shared → Prop} (T : XIn X.prog X.w X.K X.mg X.base k C n) (rm : RoomX false k X.A) (gd : X.A.guards = some []) (I1 : Inv X pins σ H1 s1) (rv : RelV v u)
    (h : ∀ (a d : Addr) (t0 : Addr) (G : Heap) (s2 : Shared), d ≠ a → H1 a = none → H1 d = none → Inv X pins σ (L2.upd H1 d (.xd [(n, v)])) { s2 with heap := G } → (∀ b o, G.get? b = some o → s2.heap.get? b = some o) → G.get? a = none →
      s2.heap.get? a = some ({ cls := .ref C, dict := some d, data := .fields #[.ref t0, .none, .none, .none, .bool false, .none] } : Obj) → (L2.upd H1 d (.xd [(n, v)])) a = none → R (.ref a) s2) :
    wpAny (model X.prog X.w) X.A (call (.ref C) (xiPos kw u) (xiKw kw n u)) R X.xe s1 := by
  obtain ⟨fI, fd, ps, iC, tI, hps, ⟨hb, hkb⟩, FG⟩ := T.ex
  obtain ⟨nm, q, N, bs, bm, sn, sub, ab, col, dd, k0, k1, k2, k3, k5, hC, hbm⟩ := T.oc.cls
  obtain ⟨hp, g, dr, tk, os⟩ := s1
  have hsz : hp.objs.size ≤ hp.objs.size + 1 := Nat.le_succ _
  have hn : H1 (hp.objs.size + 1) = none := I1.hok.fresh hsz
  have kk : ∀ b o, hp.get? b = some o → ((hp.push (PySem.W.kdv_tup (xiPos kw u))).push (PySem.HandSPX.excO C hp.objs.size)).get? b = some o := fun b o e => Heap.get?_push_of_some _ (Heap.get?_push_of_some _ e)
  have hget : ((hp.push (PySem.W.kdv_tup (xiPos kw u))).push (PySem.HandSPX.excO C hp.objs.size)).get? (hp.objs.size + 1) = some (PySem.HandSPX.excO C hp.objs.size) := by heap_get
  have I2 : Inv X pins σ (L2.upd H1 (hp.objs.size + 1) (exo (hp.objs.size + 1) C none)) ⟨(hp.push (PySem.W.kdv_tup (xiPos kw u))).push (PySem.HandSPX.excO C hp.objs.size), g, dr, tk, os⟩ :=
    I1.laid (t' := tk) (a := hp.objs.size + 1) (o := exo (hp.objs.size + 1) C none) (h' := (hp.push (PySem.W.kdv_tup (xiPos kw u))).push (PySem.HandSPX.excO C hp.objs.size)) kk hsz (exo_ok hget)
  have r2 : Vals [V.ref (hp.objs.size + 1), v] [Value.ref (hp.objs.size + 1), u] := .cons rfl (.cons rv .nil)
  have want : spXI C n [V.ref (hp.objs.size + 1), v] (L2.upd H1 (hp.objs.size + 1) (exo (hp.objs.size + 1) C none)) (fun z H2 => z = .non ∧ ∃ d, H1 d = none ∧ d ≠ hp.objs.size + 1 ∧ H2 = L2.upd (L2.upd (L2.upd H1 (hp.objs.size + 1) (exo (hp.objs.size + 1) C none)) d (exd d [(n, v)])) (hp.objs.size + 1) (exo (hp.objs.size + 1) C (some d))) (fun _ _ _ => False) :=
    ⟨_, v, rfl, L2.upd_same, fun d hd hda => ⟨rfl, d, by rw [L2.upd_ne hda] at hd; exact hd, hda, rfl⟩⟩
  have hus : (xiPos kw u).length ≤ sizeLine := by rw [sizeLine_eq]; unfold xiPos; split <;> (first | (show 0 ≤ _; omega) | (show 1 ≤ _; omega))
  have gd2 : (X.A.under (.builtin "type.__call__" ⟨.ref C :: xiPos kw u, xiKw kw n u⟩)).guards = some [] := by
    have := gd
    first | exact this | (simp [Around.under, Code.isCreation, Code.isGuard, guardIds, this])
  have b : BindsTo ⟨(hp.push (PySem.W.kdv_tup (xiPos kw u))).push (PySem.HandSPX.excO C hp.objs.size), g, dr, tk, os⟩ fd ⟨Value.ref (hp.objs.size + 1) :: xiPos kw u, xiKw kw n u⟩ (ps.zip [Value.ref (hp.objs.size + 1), u]) := by
    cases kw with
    | false =>
      have b := hb ⟨(hp.push (PySem.W.kdv_tup (xiPos false u))).push (PySem.HandSPX.excO C hp.objs.size), g, dr, tk, os⟩ [Value.ref (hp.objs.size + 1), u] I2.kIn (by rw [List.append_nil, hps]; rfl)
      rw [List.append_nil] at b
      exact b
    | true => exact hkb ⟨(hp.push (PySem.W.kdv_tup (xiPos true u))).push (PySem.HandSPX.excO C hp.objs.size), g, dr, tk, os⟩ [Value.ref (hp.objs.size + 1)] [u] I2.kIn rfl rfl
  refine wpAny_call (PySem.OXK.call_own PySem.F.excBase_ValueError (fun Y => PySem.HandSPX.refsVE_contains Y bm hbm) (I1.kIn _ _ hC) (PySem.W.looks_findIn I1.kIn iC) (fun self => PySem.W.bind_fn I1.kIn self tI) hus
    (codeAny_mono (FG.run _ X.stack _ _ ⟨Value.ref (hp.objs.size + 1) :: xiPos kw u, xiKw kw n u⟩ [Value.ref (hp.objs.size + 1), u] _ _ (fun _ _ _ => False) (rm.make C _ _) gd2 (fun z => nomatch z) (I2.env0.make C _ _) b r2 want) fun r s' hq' => ?_))
  cases r with
  | error er =>
    obtain ⟨_, _, _, _, _, _, _, _, _, _, _, _, no⟩ := (show L2N.CX X.prog X.w X.stack _ _ (fun _ _ _ => False) er s' from hq')
    exact no.elim
  | ok fl =>
    cases fl with
    | ret u2 =>
      obtain ⟨v2, H2, os2, bare2, un2, hok2, rv2, ev, d, hd1, hda, eH⟩ := hq'
      subst ev
      subst eH
      obtain ⟨h2, g2, d2, t2, os'⟩ := s'
      have ea : (L2.upd (L2.upd (L2.upd H1 (hp.objs.size + 1) (exo (hp.objs.size + 1) C none)) d (exd d [(n, v)])) (hp.objs.size + 1) (exo (hp.objs.size + 1) C (some d))) (hp.objs.size + 1) = some (exo (hp.objs.size + 1) C (some d)) := L2.upd_same
      have ed : (L2.upd (L2.upd (L2.upd H1 (hp.objs.size + 1) (exo (hp.objs.size + 1) C none)) d (exd d [(n, v)])) (hp.objs.size + 1) (exo (hp.objs.size + 1) C (some d))) d = some (exd d [(n, v)]) := by rw [L2.upd_ne hda, L2.upd_same]
      obtain ⟨t0, G, J, kG, ge, hoe, na⟩ := mk_end0 (d2 := d2) (t2 := t2) I1 hsz kk un2 hok2 os2 bare2 ea ed hd1
      rw [del_two hn hda] at J na
      exact ⟨rv2, h _ d t0 G ⟨h2, g2, d2, t2, os'⟩ hda hn hd1 J kG ge hoe na⟩
    | next => exact False.elim hq'
    | brk => exact False.elim hq'
    | cont => exact False.elim hq'
theorem pmk_xi (hc : X.calm = true) (T : XIn X.prog X.w X.K X.mg X.base k C n) (rm : RoomX false k X.A) (gd : X.A.guards = some []) (hr : Raises X (.ref C)) (hg : Gl X x) (hm : X.mg x = some (.ref C)) (hdb : (x == ("__debug__" : Str)) = false) (he : PE X e te)
    (hs : starEach [e] X.env = (false, eval e X.env) :: starEach [] X.env) : L2N.PMk X (.Call (.Name x p) [e] [] pos) (fun σ H Q => te σ H fun v H1 => ∀ d, H1 d = none → Q (.ref C) (some d) (L2.upd H1 d (.xd [(n, v)]))) := by
  intro pins s σ H Q I h
  refine wpAny_Call_Name_kw (ld_glob I hg hm ?_ hdb)
  refine PySem.W.callWith_K (h₀ := X.base) I.ok.mod.kin T.oc.kC ?_ hs (by rfl)
  rw [hs]
  show wpAny _ _ (spliced ((false, eval e X.env) :: backTo pos (starEach [] X.env))) _ _ s
  refine Calls.spliced_cons (thn (he.run pins s σ H _ I h) fun u s1 ⟨v, H1, I1, r1, q1⟩ => ?_)
  refine Calls.spliced_nil ⟨I1.kIn, ?_⟩
  show wpAny _ _ (call (.ref C) [u]) _ _ _
  refine call_xi (kw := false) T rm gd I1 r1 fun a d t0 G s2 hda ha hd J kG ge hoe na => ?_
  exact ⟨a, _, _, { s2 with heap := G }, _, .ref C, some d, rfl, J, kG, ge, hoe, ⟨rfl, rfl, fun vs e => by cases e; rfl⟩, rfl, rfl, na, rfl, J.bare, hr, q1 d hd⟩
/-- C(e), C(n=e) as a value: the error stands at a new place -/
def tXn (C : Addr) (n : Str) (te : TE) : TE := fun σ H Q => te σ H fun v H1 => ∀ (a d : Addr) (oe : Obj), d ≠ a → H1 a = none → H1 d = none → ExA C (some d) oe → Q (.ref a) (L2.upd (L2.upd H1 d (.xd [(n, v)])) a (XO a oe))
theorem ep_xn {kw : Bool} {pins : List (Addr × Obj)} {σ : Sl} {H1 : Hp} {s1 : Shared} {u : Value} {v : V} {Q : VK} (T : XIn X.prog X.w X.K X.mg X.base k C n) (rm : RoomX false k X.A) (gd : X.A.guards = some []) (I1 : Inv X pins σ H1 s1) (rv : RelV v u)
    (q : ∀ (a d : Addr) (oe : Obj), d ≠ a → H1 a = none → H1 d = none → ExA C (some d) oe → Q (.ref a) (L2.upd (L2.upd H1 d (.xd [(n, v)])) a (XO a oe))) : wpAny (model X.prog X.w) X.A (call (.ref C) (xiPos kw u) (xiKw kw n u)) (EP X pins σ Q) X.xe s1 := by
  refine call_xi T rm gd I1 rv fun a d t0 G s2 hda ha hd J kG ge hoe na => ?_
  have J2 := J.laidN (t' := s2.toks) kG ge na (xo_ok hoe)
  exact ⟨.ref a, _, J2, rfl, q a d _ hda ha hd ⟨⟨rfl, rfl, fun vs e => by cases e; rfl⟩, _, rfl⟩⟩
theorem pe_xn (T : XIn X.prog X.w X.K X.mg X.base k C n) (rm : RoomX false k X.A) (gd : X.A.guards = some []) (hg : Gl X x) (hm : X.mg x = some (.ref C)) (hdb : (x == ("__debug__" : Str)) = false) (he : PE X e te)
    (hs : starEach [e] X.env = (false, eval e X.env) :: starEach [] X.env) : PE X (.Call (.Name x p) [e] [] pos) (tXn C n te) := by
  refine ⟨fun pins s σ H Q I h => ?_⟩
  refine wpAny_Call_Name_kw (ld_glob I hg hm ?_ hdb)
  refine PySem.W.callWith_K (h₀ := X.base) I.ok.mod.kin T.oc.kC ?_ hs (by rfl)
  rw [hs]
  show wpAny _ _ (spliced ((false, eval e X.env) :: backTo pos (starEach [] X.env))) _ _ s
  refine Calls.spliced_cons (thn (he.run pins s σ H _ I h) fun u s1 ⟨v, H1, I1, r1, q1⟩ => ?_)
  exact Calls.spliced_nil ⟨I1.kIn, ep_xn (kw := false) T rm gd I1 r1 q1⟩
theorem pe_xnk {tk : TA} {kws : List Keyword} (T : XIn X.prog X.w X.K X.mg X.base k C n) (rm : RoomX false k X.A) (gd : X.A.guards = some []) (hg : Gl X x) (hm : X.mg x = some (.ref C)) (hdb : (x == ("__debug__" : Str)) = false) (hk : PK X kws tk) (hkn : kwsB kws = some [n]) :
    PE X (.Call (.Name x p) [] kws pos) (fun σ H Q => tk σ H fun vs H1 => ∃ v, vs = [v] ∧ ∀ (a d : Addr) (oe : Obj), d ≠ a → H1 a = none → H1 d = none → ExA C (some d) oe → Q (.ref a) (L2.upd (L2.upd H1 d (.xd [(n, v)])) a (XO a oe))) := by
  obtain ⟨k1, k2, k3, k4⟩ := kws_len hkn pos X.env
  refine ⟨fun pins s σ H Q I h => ?_⟩
  refine wpAny_Call_Name_kw (ld_glob I hg hm ?_ hdb)
  refine PySem.W.callWith_KW0 (h₀ := X.base) I.ok.mod.kin T.oc.kC k1 (thn (hk.run pos pins s σ H _ I h) fun ws s2 ⟨zs, H2, I2, rz, v, ez, q⟩ => ⟨I2.kIn, ?_⟩) (by show (false || _) = false; rw [k3]; rfl)
  rw [k2]
  subst ez
  cases rz with
  | cons rv rr =>
    cases rr
    exact ep_xn (kw := true) T rm gd I2 rv q
/-- C() as a value -/
theorem pe_xn0 {bmB : List Value} {B newId initId : String} (F : ExcBaseFacts B newId initId bmB) (q : PySem.W.excIn X.K C bmB newId = true) (gC : X.mg x = some (.ref C)) (kC : PySem.W.keepIn X.K (.ref C) = true) (hg : Gl X x) (hdb : (x == ("__debug__" : Str)) = false) :
    PE X (.Call (.Name x p) [] [] pos) (fun _ H Q => ∀ (a : Addr) (oe : Obj), H a = none → ExA C none oe → Q (.ref a) (L2.upd H a (XO a oe))) := by
  refine ⟨fun pins s σ H Q I h => ?_⟩
  refine wpAny_Call_Name_kw (ld_glob I hg gC ?_ hdb)
  refine PySem.W.callWith_K0 I.kIn kC ?_
  show wpAny _ _ (call (.ref C) []) _ _ _
  obtain ⟨bm, N, nm, qn, bs, hdct, sn, sub, ab, col, dd, k0, k1, k2, k3, k5, mN, hC, hN, hni, T⟩ := exc_obj I.kIn q
  refine wpAny_call_exc_subT F T hC hN hni (fun h' e hm => ?_) (by show 0 ≤ sizeLine; rw [sizeLine_eq]; omega)
  have hn := I.hok.gone hm.new
  obtain ⟨t, he, _, _⟩ := hm.there
  exact ⟨.ref e, _, I.laidN (t' := s.toks) hm.keeps hm.new hn (xo_ok he), rfl, h e _ hn ⟨⟨rfl, rfl, fun vs e => by cases e; rfl⟩, _, rfl⟩⟩
end
end Snd
namespace Snd
open PySem PySem.Spec PyProof.Rows L2
section
variable {c : Cn} {k : Nat} {N : List Str}
theorem zip_cases {x y : M.D} {S : M.Sto} {R : M.IK} (w : M.zipD x y S R) : (∃ xs ys, x = .tup xs ∧ y = .tup ys ∧ R (M.zipP xs ys) (fun _ => True) S) ∨
    (∃ a ys, x = .str a ∧ y = .tup ys ∧ R (M.zipP (a.map fun c => .str [c]) ys) (fun _ => True) S) ∨
    M.opt (M.lsOf S x) fun xs => M.opt (M.lsOf S y) fun ys => R (M.zipP xs ys) (fun S' => M.lsOf S' x = some xs ∧ M.lsOf S' y = some ys) S := by
  cases x <;> cases y <;> first | exact .inl ⟨_, _, rfl, rfl, w⟩ | exact .inr (.inl ⟨_, _, rfl, rfl, w⟩) | exact .inr (.inr w)
theorem tupB_of {tg : Expr} (h : isTupB tg = true) : ∃ es k p, tg = .Tuple es k p := by
  cases tg <;> first | exact ⟨_, _, _, rfl⟩ | cases h
theorem oin_cases {b : M.Co} {p : CmpOp} (h2 : coOk b p = true) (h3 : (decide (b = .in_) || decide (b = .nin)) = true) : (b = .in_ ∧ p = .In) ∨ (b = .nin ∧ p = .NotIn) := by
  rcases Bool.or_eq_true_iff.mp h3 with e | e
  · have e := of_decide_eq_true e
    subst e
    cases p <;> first | exact .inl ⟨rfl, rfl⟩ | cases h2
  · have e := of_decide_eq_true e
    subst e
    cases p <;> first | exact .inr ⟨rfl, rfl⟩ | cases h2
theorem own_map {N : List Str} {is : List Nat} : ((ownOf N is).map (·.2)) = is → (ownOf N is).map (·.2) = is := id
mutual
theorem peOk : ∀ (e : M.Ex) {sc : Scope} {ex : Expr} {X : Cx} {W : WX}, chkE c.T N e sc ex = true → Ok c k N sc X W → PE X ex (tE c W e) ∧ PT X ex (tB (tE c W e))
  | .v i, sc, ex, X, W, h, o => by
    obtain ⟨x, p, rfl, hi, hv, hd, hcd⟩ := name_of (show nameAt N (visB sc) i ex = true from h)
    refine fin (PE.imp (pe_var (o.var hi) (by rw [o.es]; exact vis_of hv) hd hcd) fun σ H Q ⟨ρ, S, Qd, Xd, hl, re, r, w, hq, hx⟩ => ?_)
    obtain ⟨d, e, w⟩ := opt_of (show M.opt (M.look ρ i) (fun d => Qd d S) from w)
    have e2 : ρ[i]? = some (some d) := by
      unfold M.look M.joinO at e
      split at e
      · rename_i a heq; cases e; exact heq
      · cases e
    obtain ⟨v, e3, rd⟩ := re i d e2
    exact ⟨v, e3, hq.same r rd w⟩
  | .k kc, sc, ex, X, W, h, o => by
    have h : (match (generalizing := false) ex with | .Constant d _ _ => kOk kc d | _ => false) = true := h
    split at h
    · rename_i d j p hh
      cases kc with
      | non => cases d with
        | none => exact fin (PE.imp pe_non fun σ H Q ⟨ρ, S, Qd, Xd, hl, re, r, w, hq, hx⟩ => hq.same r .non w)
        | _ => cases h
      | bl b => cases d with
        | bool b' =>
          have e : b = b' := by simpa [kOk] using h
          subst e
          exact fin (PE.imp pe_bl fun σ H Q ⟨ρ, S, Qd, Xd, hl, re, r, w, hq, hx⟩ => hq.same r (.bl b) w)
        | _ => cases h
      | int i => cases d with
        | int i' =>
          have e : i = i' := of_decide_eq_true h
          subst e
          exact fin (PE.imp pe_int fun σ H Q ⟨ρ, S, Qd, Xd, hl, re, r, w, hq, hx⟩ => hq.same r (.int i) w)
        | _ => cases h
      | str y => cases d with
        | str y' =>
          have e : stx y = y' := of_decide_eq_true h
          subst e
          exact fin (PE.imp pe_str fun σ H Q ⟨ρ, S, Qd, Xd, hl, re, r, w, hq, hx⟩ => hq.same r (.str y) w)
        | _ => cases h
      | unit => cases d <;> cases h
    · cases h
  | .g n, sc, ex, X, W, h, o => by
    have h : (match (generalizing := false) ex with | .Name x _ => decide (c.T.cons[n]? = some x) && glB sc x && !dbgB x | _ => false) = true := h
    split at h
    · rename_i x p hh
      obtain ⟨h, h3⟩ := and2 h
      obtain ⟨h1, h2⟩ := and2 h
      obtain ⟨u, v, e1, e2, e3⟩ := o.con n x (of_decide_eq_true h1)
      exact fin (PE.imp (pe_glob (o.gl h2) (by rw [o.em]; exact e1) e2 (dbg_of h3).1) fun σ H Q ⟨ρ, S, Qd, Xd, hl, re, r, w, hq, hx⟩ => hq.same r (e3 H) w)
    · cases h
  | .bin b x y, sc, ex, X, W, h, o => by
    have h : (match (generalizing := false) ex with | .BinOp a' p b' _ => boOk b p && chkE c.T N x sc a' && chkE c.T N y sc b' | _ => false) = true := h
    split at h
    · obtain ⟨h, h3⟩ := and2 h
      obtain ⟨h1, h2⟩ := and2 h
      exact fin (PE.imp (pe_op (o.op h1) (peOk x h2 o).1 (peOk y h3 o).1) fun σ H Q ⟨ρ, S, Qd, Xd, hl, re, r, w, hq, hx⟩ =>
        two_rel hl re r w hx fun x y S2 v u H2 f r2 rx ry q => ⟨x, y, S2, Qd, r2, rx, ry, q, hq.after f⟩)
    · cases h
  | .neg a, sc, ex, X, W, h, o => by
    have h : (match (generalizing := false) ex with | .UnaryOp .USub a' _ => chkE c.T N a sc a' | _ => false) = true := h
    split at h
    · exact fin (PE.imp (pe_un un_neg (peOk a h o).1) fun σ H Q ⟨ρ, S, Qd, Xd, hl, re, r, w, hq, hx⟩ =>
        one_rel hl re r w hx fun x S2 v H2 f r2 rx q => by
          obtain ⟨i, rfl, q⟩ := onI_of q
          cases rx
          exact ⟨i, rfl, (hq.after f).same r2 (.int _) q⟩)
    · cases h
  | .not a, sc, ex, X, W, h, o => by
    have h : (match (generalizing := false) ex with | .UnaryOp .Not a' _ => chkE c.T N a sc a' | _ => false) = true := h
    split at h
    · obtain ⟨p1, p2⟩ := peOk a h o
      have rd : ∀ {σ : Sl} {H : Hp} {Q : VK}, tE c W (.not a) σ H Q → tE c W a σ H fun v H1 => ∃ b, v = .bl b ∧ Q (.bl (!b)) H1 := fun {σ H Q} ⟨ρ, S, Qd, Xd, hl, re, r, w, hq, hx⟩ =>
        one_rel hl re r w hx fun x S2 v H2 f r2 rx q => by
          obtain ⟨i, rfl, q⟩ := onB_of q
          cases rx
          exact ⟨i, rfl, (hq.after f).same r2 (.bl _) q⟩
      refine ⟨PE.imp (pe_not p1) fun σ H Q h => rd h, PT.imp (pt_not p2) fun σ H Q h => ?_⟩
      have q := rd h
      obtain ⟨ρ, S, Qd, Xd, hl, re, r, w, hq, hx⟩ := q
      refine ⟨ρ, S, Qd, Xd, hl, re, r, w, fun d S' v H' f r' rd' q => ?_, hx⟩
      obtain ⟨b, e, b', e', q⟩ := hq d S' v H' f r' rd' q
      cases e'
      exact ⟨b, e, q⟩
    · cases h
  | .cmp b x y, sc, ex, X, W, h, o => by
    have h : (match (generalizing := false) ex with | .Compare a' [p] [b'] _ => coOk b p && chkE c.T N x sc a' && chkE c.T N y sc b' && !behindInMarks p b' | _ => false) = true := h
    split at h
    · obtain ⟨h, h4⟩ := and2 h
      obtain ⟨h, h3⟩ := and2 h
      obtain ⟨h1, h2⟩ := and2 h
      have rd : ∀ {σ : Sl} {H : Hp} {Q : VK}, tE c W (.cmp b x y) σ H Q → tOp (rCm c.K b) (tE c W x) (tE c W y) σ H Q := fun {σ H Q} ⟨ρ, S, Qd, Xd, hl, re, r, w, hq, hx⟩ =>
        two_rel hl re r w hx fun x y S2 v u H2 f r2 rx ry q => ⟨x, y, S2, _, r2, rx, ry, q, fun k q => (hq.after f).same r2 (.bl k) q⟩
      exact ⟨PE.imp (pe_cmpR (o.co h1) (peOk x h2 o).1 (peOk y h3 o).1 (not1 h4)) fun σ H Q h => rd h, PT.imp (pt_cmpR (o.co h1) (peOk x h2 o).1 (peOk y h3 o).1 (not1 h4)) fun σ H Q h => rd h⟩
    · cases h
  | .chain b d x y z, sc, ex, X, W, h, o => by
    have h : (match (generalizing := false) ex with | .Compare a' [o', p'] [b', c'] _ => coOk b o' && coOk d p' && chkE c.T N x sc a' && chkE c.T N y sc b' && chkE c.T N z sc c' && !lastMarks [o', p'] [b', c'] | _ => false) = true := h
    split at h
    · obtain ⟨h, h6⟩ := and2 h
      obtain ⟨h, h5⟩ := and2 h
      obtain ⟨h, h4⟩ := and2 h
      obtain ⟨h, h3⟩ := and2 h
      obtain ⟨h1, h2⟩ := and2 h
      have rd : ∀ {σ : Sl} {H : Hp} {Q : VK}, tE c W (.chain b d x y z) σ H Q → tChain (rCm c.K b) (rCm c.K d) (tE c W x) (tE c W y) (tE c W z) σ H Q := fun {σ H Q} ⟨ρ, S, Qd, Xd, hl, re, r, w, hq, hx⟩ => by
        refine ⟨ρ, S, _, Xd, hl, re, r, w, fun dx S1 v H1 f1 r1 rx q1 => ⟨ρ, S1, _, Xd, hl, re.mono r f1, r1, q1, fun dy S2 u H2 f2 r2 ry q2 => ?_, hx.after f1⟩, hx⟩
        refine ⟨dx, dy, S2, _, r2, rx.mono r1 f2, ry, q2, fun kb q3 => ⟨kb, rfl, ?_⟩⟩
        obtain ⟨qt, qf⟩ := q3
        cases kb with
        | true =>
          show if true = true then _ else _
          rw [if_pos rfl]
          refine ⟨ρ, S2, _, Xd, hl, re.mono r (f1.trans f2), r2, qt rfl, fun dz S3 w' H3 f3 r3 rz q3 => ?_, hx.after (f1.trans f2)⟩
          exact ⟨dy, dz, S3, _, r3, ry.mono r2 f3, rz, q3, fun kb q4 => (hq.after ((f1.trans f2).trans f3)).same r3 (.bl kb) q4⟩
        | false =>
          show if false = true then _ else _
          rw [if_neg Bool.false_ne_true]
          exact (hq.after (f1.trans f2)).same r2 (.bl false) (qf rfl)
      exact ⟨PE.imp (pe_chain (o.co h1) (o.co h2) (peOk x h3 o).1 (peOk y h4 o).1 (peOk z h5 o).1 (not1 h6)) fun σ H Q h => rd h, PT.imp (pt_chain (o.co h1) (o.co h2) (peOk x h3 o).1 (peOk y h4 o).1 (peOk z h5 o).1 (not1 h6)) fun σ H Q h => rd h⟩
    · cases h
  | .and a r, sc, ex, X, W, h, o => by
    have h : (match (generalizing := false) ex with | .BoolOp .And (a' :: b' :: r') _ => chkE c.T N a sc a' && chkR c.T N r sc (b' :: r') | _ => false) = true := h
    split at h
    · obtain ⟨h1, h2⟩ := and2 h
      have rd : ∀ {σ : Sl} {H : Hp} {Q : VK}, tE c W (.and a r) σ H Q → tE c W a σ H fun v H1 => ∃ b, v = .bl b ∧ if b = true then tR c W M.wpAnd r σ H1 Q else Q (.bl false) H1 := fun {σ H Q} ⟨ρ, S, Qd, Xd, hl, re, rr, w, hq, hx⟩ =>
        one_rel hl re rr w hx fun x S2 v H2 f r2 rx q => by
          obtain ⟨b, rfl, qt, qf⟩ := onB_of q
          cases rx
          refine ⟨b, rfl, ?_⟩
          cases b with
          | true => rw [if_pos rfl]; exact ⟨ρ, S2, Qd, Xd, hl, re.mono rr f, r2, qt rfl, hq.after f, hx.after f⟩
          | false => rw [if_neg Bool.false_ne_true]; exact (hq.after f).same r2 (.bl false) (qf rfl)
      obtain ⟨⟨g1, g2⟩, _⟩ := prOk r h2 (by simp) o _
      refine ⟨PE.imp (pe_and (peOk a h1 o).1 g1) fun σ H Q h => rd h, PT.imp (pw_and (peOk a h1 o).2 g2).pt fun σ H Q h => ?_⟩
      obtain ⟨ρ, S, Qd, Xd, hl, re, rr, w, hq, hx⟩ := rd h
      refine ⟨ρ, S, Qd, Xd, hl, re, rr, w, fun d S' v H' f r' rd' q => ?_, hx⟩
      obtain ⟨b, e, q⟩ := hq d S' v H' f r' rd' q
      refine ⟨b, e, ?_⟩
      cases b with
      | true => exact q
      | false =>
        obtain ⟨b', e', q⟩ := q
        cases e'
        exact q
    · cases h
  | .or a r, sc, ex, X, W, h, o => by
    have h : (match (generalizing := false) ex with | .BoolOp .Or (a' :: b' :: r') _ => chkE c.T N a sc a' && chkR c.T N r sc (b' :: r') | _ => false) = true := h
    split at h
    · obtain ⟨h1, h2⟩ := and2 h
      have rd : ∀ {σ : Sl} {H : Hp} {Q : VK}, tE c W (.or a r) σ H Q → tE c W a σ H fun v H1 => ∃ b, v = .bl b ∧ if b = true then Q (.bl true) H1 else tR c W M.wpOr r σ H1 Q := fun {σ H Q} ⟨ρ, S, Qd, Xd, hl, re, rr, w, hq, hx⟩ =>
        one_rel hl re rr w hx fun x S2 v H2 f r2 rx q => by
          obtain ⟨b, rfl, qt, qf⟩ := onB_of q
          cases rx
          refine ⟨b, rfl, ?_⟩
          cases b with
          | false => rw [if_neg Bool.false_ne_true]; exact ⟨ρ, S2, Qd, Xd, hl, re.mono rr f, r2, qf rfl, hq.after f, hx.after f⟩
          | true => rw [if_pos rfl]; exact (hq.after f).same r2 (.bl true) (qt rfl)
      obtain ⟨_, g1, g2⟩ := prOk r h2 (by simp) o _
      refine ⟨PE.imp (pe_or (peOk a h1 o).1 g1) fun σ H Q h => rd h, PT.imp (pw_or (peOk a h1 o).2 g2).pt fun σ H Q h => ?_⟩
      obtain ⟨ρ, S, Qd, Xd, hl, re, rr, w, hq, hx⟩ := rd h
      refine ⟨ρ, S, Qd, Xd, hl, re, rr, w, fun d S' v H' f r' rd' q => ?_, hx⟩
      obtain ⟨b, e, q⟩ := hq d S' v H' f r' rd' q
      refine ⟨b, e, ?_⟩
      cases b with
      | false => exact q
      | true =>
        obtain ⟨b', e', q⟩ := q
        cases e'
        exact q
    · cases h
  | .ite g a b, sc, ex, X, W, h, o => by
    have h : (match (generalizing := false) ex with | .IfExp c' a' b' _ => chkE c.T N g sc c' && chkE c.T N a sc a' && chkE c.T N b sc b' | _ => false) = true := h
    split at h
    · obtain ⟨h, h3⟩ := and2 h
      obtain ⟨h1, h2⟩ := and2 h
      have rd : ∀ {σ : Sl} {H : Hp} {Q : VK}, tE c W (.ite g a b) σ H Q → tB (tE c W g) σ H fun k H1 => if k = true then tE c W a σ H1 Q else tE c W b σ H1 Q := fun {σ H Q} ⟨ρ, S, Qd, Xd, hl, re, rr, w, hq, hx⟩ =>
        one_rel hl re rr w hx fun x S2 v H2 f r2 rx q => by
          obtain ⟨b, rfl, qt, qf⟩ := onB_of q
          cases rx
          refine ⟨b, rfl, ?_⟩
          cases b with
          | false => rw [if_neg Bool.false_ne_true]; exact ⟨ρ, S2, Qd, Xd, hl, re.mono rr f, r2, qf rfl, hq.after f, hx.after f⟩
          | true => rw [if_pos rfl]; exact ⟨ρ, S2, Qd, Xd, hl, re.mono rr f, r2, qt rfl, hq.after f, hx.after f⟩
      exact ⟨PE.imp (pe_ifExp (peOk g h1 o).2 (peOk a h2 o).1 (peOk b h3 o).1) fun σ H Q h => rd h, PT.imp (pt_ite (peOk g h1 o).2 (peOk a h2 o).2 (peOk b h3 o).2) fun σ H Q h => rd h⟩
    · cases h
  | .tup es, sc, ex, X, W, h, o => by
    have h : (match (generalizing := false) ex with | .Tuple es' _ _ => chkEs c.T N es sc es' | _ => false) = true := h
    split at h
    · exact fin (PE.imp (pe_tup (paOk es h o)) fun σ H Q ⟨ρ, S, Qd, Xd, hl, re, r, w, hq, hx⟩ =>
        ones_rel hl re r w hx fun x S2 v H2 f r2 rx q => ⟨by rw [← rx.length, ← lim_eq]; exact q.1, (hq.after f).newT r2 rx q.2⟩)
    · cases h
  | .lst es, sc, ex, X, W, h, o => by
    have h : (match (generalizing := false) ex with | .List es' _ => chkEs c.T N es sc es' | _ => false) = true := h
    split at h
    · exact fin (PE.imp (pe_lst (paOk es h o)) fun σ H Q ⟨ρ, S, Qd, Xd, hl, re, r, w, hq, hx⟩ =>
        ones_rel hl re r w hx fun x S2 v H2 f r2 rx q => ⟨by rw [← rx.length, ← lim_eq]; exact q.1, (hq.after f).newL r2 rx q.2⟩)
    · cases h
  | .ix a i, sc, ex, X, W, h, o => by
    have h : (match (generalizing := false) ex with | .Subscript a' i' _ => plB i' && chkE c.T N a sc a' && chkE c.T N i sc i' | _ => false) = true := h
    split at h
    · obtain ⟨h, h3⟩ := and2 h
      obtain ⟨h1, h2⟩ := and2 h
      exact fin (PE.imp (pe_ix o.ix (peOk a h2 o).1 (peOk i h3 o).1 (plB_ix h1)) fun σ H Q ⟨ρ, S, Qd, Xd, hl, re, r, w, hq, hx⟩ =>
        two_rel hl re r w hx fun x y S2 v u H2 f r2 rx ry q => ⟨x, y, S2, Qd, r2, rx, ry, q, hq.after f⟩)
    · cases h
  | .sl a lo hi, sc, ex, X, W, h, o => by
    have h : (match (generalizing := false) ex with | .Subscript a' (.Slice lo' hi' none _) _ => chkE c.T N a sc a' && chkO c.T N lo sc lo' && chkO c.T N hi sc hi' | _ => false) = true := h
    split at h
    · obtain ⟨h, h3⟩ := and2 h
      obtain ⟨h1, h2⟩ := and2 h
      exact fin (PE.imp (pe_slice o.sl (peOk a h1 o).1 (poOk lo h2 o).1 (poOk hi h3 o).1) fun σ H Q ⟨ρ, S, Qd, Xd, hl, re, r, w, hq, hx⟩ =>
        one_rel hl re r w hx fun x S2 v H2 f r2 rx q => ⟨ρ, S2, _, Xd, hl, re.mono r f, r2, q, fun l S3 H3 f3 r3 q3 => ⟨ρ, S3, _, Xd, hl, re.mono r (f.trans f3), r3, q3, fun u S4 H4 f4 r4 q4 =>
          ⟨x, S4, Qd, r4, (rx.mono r2 f3).mono r3 f4, q4, hq.after ((f.trans f3).trans f4)⟩, hx.after (f.trans f3)⟩, hx.after f⟩)
    · cases h
  | .rev a, sc, ex, X, W, h, o => by
    have h : (match (generalizing := false) ex with | .Subscript a' (.Slice none none (some (.UnaryOp .USub (.Constant (.int i) _ _) _)) _) _ => decide (i = 1) && chkE c.T N a sc a' | _ => false) = true := h
    split at h
    · obtain ⟨h1, h2⟩ := and2 h
      have e := of_decide_eq_true h1
      subst e
      have eK := o.eK
      exact fin (PE.imp (pe_revM (peOk a h2 o).1) fun σ H Q ⟨ρ, S, Qd, Xd, hl, re, r, w, hq, hx⟩ =>
        one_rel hl re r w hx fun x S2 v H2 f r2 rx q => by rw [eK]; exact ⟨x, S2, Qd, r2, rx, q, hq.after f⟩)
    · cases h
  | .call n es, sc, ex, X, W, h, o => by
    have h : (match (generalizing := false) ex with | .Call (.Name x _) es' [] _ => decide (c.T.fns[n]? = some x) && ((c.T.ats.lookup n).isNone && (!c.T.sts.contains n && !c.T.hot)) && (c.T.hots.contains n == c.T.hot) && glB sc x && !dbgB x && es'.all plB && chkEs c.T N es sc es' | _ => false) = true := h
    split at h
    · obtain ⟨h, h5⟩ := and2 h
      obtain ⟨h, h4⟩ := and2 h
      obtain ⟨h, h3⟩ := and2 h
      obtain ⟨h, h2⟩ := and2 h
      obtain ⟨h, hh⟩ := and2 h
      obtain ⟨h1, hat⟩ := and2 h
      exact fin (PE.imp (pe_callM o (of_decide_eq_true h1) hat hh h2 (dbg_of h3).1 (paOk es h5 o) h4 (fun e => pnOk es h5 e)) fun σ H Q ⟨ρ, S, Qd, Xd, hl, re, r, w, hq, hx⟩ =>
        ones_rel hl re r w hx fun x S2 v H2 f r2 rx q => ⟨x, S2, Qd, Xd, rx, r2, q, hq.after f, hx.after f⟩)
    · cases h
  | .callk n es ks perm, sc, ex, X, W, h, o => by
    have h : (match (generalizing := false) ex with
      | .Call (.Name x _) es' kw _ => decide (c.T.fns[n]? = some x) && ((c.T.ats.lookup n).isNone && !c.T.hot) && (c.T.hots.contains n == c.T.hot) && glB sc x && !dbgB x && es'.all plB && chkEs c.T N es sc es' && (match kwsB kw with
        | some nms => decide ((n, M.esLen es, nms, perm) ∈ c.T.kws) && decide (nms.length = M.esLen ks) && (kw.map (·.value)).all plB && chkEs c.T N ks sc (kw.map (·.value))
        | none => false)
      | _ => false) = true := h
    split at h
    · rename_i x p es' kw pos hh
      obtain ⟨h, h6⟩ := and2 h
      obtain ⟨h, h5⟩ := and2 h
      obtain ⟨h, h4⟩ := and2 h
      obtain ⟨h, h3⟩ := and2 h
      obtain ⟨h, h2⟩ := and2 h
      obtain ⟨h, hhot⟩ := and2 h
      obtain ⟨h1, hat⟩ := and2 h
      split at h6
      · rename_i nms hn
        obtain ⟨h6, h9⟩ := and2 h6
        obtain ⟨h6, h8⟩ := and2 h6
        obtain ⟨h6, h7⟩ := and2 h6
        have e7 : nms.length = M.esLen ks := of_decide_eq_true h7
        exact fin (PE.imp (pe_callkM o (of_decide_eq_true h1) hat hhot h2 (dbg_of h3).1 (paOk es h5 o) h4 (fun e => pnOk es h5 e) (pkOk ks h9 h8 o) hn (of_decide_eq_true h6)) fun σ H Q ⟨ρ, S, Qd, Xd, hl, re, r, w, hq, hx⟩ =>
          ones_rel hl re r w hx fun x S2 v H2 f r2 rx q => ⟨ρ, S2, _, Xd, hl, re.mono r f, r2, q, fun y S3 z H3 f3 r3 rz q => by
            obtain ⟨q1, q2, q3⟩ := q
            have rx3 := rx.mono r2 f3
            exact ⟨by rw [← rx3.length]; exact q1, by rw [← rz.length, e7]; exact q2, _, S3, Qd, Xd, rels_fm (rx3.append rz) perm, r3, q3, hq.after (f.trans f3), hx.after (f.trans f3)⟩, hx.after f⟩)
      · cases h6
    · cases h
  | .callh n es, sc, ex, X, W, h, o => by
    have h : (match (generalizing := false) ex with | .Call (.Name x _) es' [] _ => decide (c.T.fns[n]? = some x) && ((c.T.ats.lookup n).isNone && !c.T.sts.contains n) && (c.T.hots.contains n && c.T.hot) && glB sc x && !dbgB x && es'.all plB && chkEs c.T N es sc es' | _ => false) = true := h
    split at h
    · obtain ⟨h, h5⟩ := and2 h
      obtain ⟨h, h4⟩ := and2 h
      obtain ⟨h, h3⟩ := and2 h
      obtain ⟨h, h2⟩ := and2 h
      obtain ⟨h, hh⟩ := and2 h
      obtain ⟨h1, hat⟩ := and2 h
      obtain ⟨hh1, hh2⟩ := and2 hh
      exact fin (PE.imp (pe_callhM o (of_decide_eq_true h1) hat hh1 hh2 h2 (dbg_of h3).1 (paOk es h5 o) h4 (fun e => pnOk es h5 e)) fun σ H Q ⟨ρ, S, Qd, Xd, hl, re, r, w, hq, hx⟩ =>
        ones_rel hl re r w hx fun x S2 v H2 f r2 rx q => ⟨hotA_of o hh2 rx q.1, x, S2, Qd, Xd, rx, r2, q.2, hq.after f, hx.after f⟩)
    · cases h
  | .comph i e t it oc, sc, ex, X, W, h, o => by
    have h : (match (generalizing := false) ex with
      | .ListComp e' [⟨tg, it', ifs, k⟩] scope _ => c.T.hot && isV1 t && decide (k = 0) && blkC N sc scope (ownOf N (M.tgs t)) && decide ((ownOf N (M.tgs t)).map (·.2) = M.tgs t) && decide (M.tgs t).Nodup && noSet it' && chkIt c.T N it sc it' (isTupB tg) && chkTg N (tgB scope sc) t tg
          && (match ifs with | [] => chkO c.T N oc (relS scope sc) none | [d] => chkO c.T N oc (relS scope sc) (some d) | _ => false) && chkE c.T N e (relS scope sc) e'
      | _ => false) = true := h
    split at h
    · rename_i e' tg it' ifs k0 scope pos hh
      obtain ⟨h, h9⟩ := and2 h
      obtain ⟨h, h8⟩ := and2 h
      obtain ⟨h, h7⟩ := and2 h
      obtain ⟨h, h6⟩ := and2 h
      obtain ⟨h, h5⟩ := and2 h
      obtain ⟨h, h4⟩ := and2 h
      obtain ⟨h, h3⟩ := and2 h
      obtain ⟨h, h2⟩ := and2 h
      obtain ⟨h, h1⟩ := and2 h
      obtain ⟨hcal, hv⟩ := and2 h
      have e0 := of_decide_eq_true h1
      subst e0
      have eo : (ownOf N (M.tgs t)).map (·.2) = M.tgs t := of_decide_eq_true h3
      obtain ⟨a0, ha0, hA0⟩ := o.hx hcal
      refine fin ?_
      have hpe : PE X (.ListComp e' [⟨tg, it', ifs, 0⟩] scope pos) (tLc (tHot a0 (tItH c W it)) (tgG c.K t) (tCn c oc) (tE c W0 e) ((ownOf N (M.tgs t)).map (·.2))) := by
        refine pe_lcX hA0 (by rw [o.eN]; exact o.nd) (pihOk it h6 o) (by rw [o.eN, o.es]; exact blkOk_by h2) (fun s H C cl fp => ?_) (fun s H C cl fp => ?_) (fun s H C cl fp => ?_) (folded_of h5)
        · have ob := o.blk s H scope C cl fp
          have q := pgOk (X := X.blk s H scope (compEnvC scope cl C X.env) fp) (t := t) (e := tg) (ok := tgB scope sc) (fun z => by cases t with | v j => exact absurd rfl (z j) | _ => cases hv) (by rw [ob.eN]; exact ob.nd) (fun x hx => by rw [ob.es]; exact tgB_of hx) (by rw [ob.eN]; exact h7)
          rw [ob.eK] at q
          exact q
        · have ob := o.blk s H scope C cl fp
          split at h8
          · exact (poOk oc h8 ob).2
          · exact (poOk oc h8 ob).2
          · cases h8
        · exact (peOk e h9 (o.blk s H scope C cl fp)).1
      refine PE.imp hpe fun σ H Q ⟨ρ, S, Qd, Xd, hl, re, r, w, hq, hx⟩ => ?_
      obtain ⟨d, hd, hA, w⟩ := opt_of w
      obtain ⟨C, hXo⟩ := hot_xo re hd hA ha0
      refine ⟨ρ, S, _, Xd, hl, re, r, w, fun items chk S1 H1 J f1 r1 m q => ⟨⟨C, xo_mono r f1 hXo⟩, ?_⟩, hx⟩
      rw [eo]
      exact comp_rel hl (re.mono r f1) r1 m q.1 (hq.after f1) q.2
    · cases h
  | .rep a, sc, ex, X, W, h, o => by
    obtain ⟨p, es', pos, rfl, hm, hg, hd, ho⟩ := biCall_of (show biCall c.T sc "repr" (one (chkE c.T N a sc)) ex = true from h)
    obtain ⟨e', rfl, hp, ho⟩ := one_of ho
    refine fin (PE.imp (pe_callB o.rep (o.gl hg) (o.free hm) (by decide +kernel) (pa_cons (peOk a ho o).1 pa_nil (plB_star hp)) (by decide +kernel) hd (plB_star hp) rfl) fun σ H Q ⟨ρ, S, Qd, Xd, hl, re, r, w, hq, hx⟩ => ?_)
    exact one_rel hl re r w hx fun x S2 v H2 f r2 rx q => ⟨x, v, S2, Qd, rfl, r2, rx, q.1, q.2.1, by rw [← o.rp]; exact q.2.2, hq.after f⟩
  | .bi b es, sc, ex, X, W, h, o => by
    obtain ⟨hh, h⟩ := and2 (show ((!c.T.hot || decide (b = .len)) && biCall c.T sc (biN b) (fun es' => !es'.isEmpty && es'.all plB && chkEs c.T N es sc es') ex) = true from h)
    obtain ⟨p, es', pos, rfl, hm, hg, hd, ho⟩ := biCall_of (show biCall c.T sc (biN b) (fun es' => !es'.isEmpty && es'.all plB && chkEs c.T N es sc es') ex = true from h)
    obtain ⟨ho, h3⟩ := and2 ho
    obtain ⟨h1, h2⟩ := and2 ho
    cases es' with
    | nil => cases h1
    | cons e' es' =>
      exact fin (PE.imp (pe_biM o hh hm hg (paOk es h3 o) h2) fun σ H Q ⟨ρ, S, Qd, Xd, hl, re, r, w, hq, hx⟩ =>
        ones_rel hl re r w hx fun x S2 v H2 f r2 rx q => ⟨x, S2, Qd, r2, rx, q, hq.after f⟩)
  | .mt m a es, sc, ex, X, W, h, o => by
    have h : (match (generalizing := false) ex with | .Call (.Attribute a' nm apos) es' [] cpos => decide (nm = mtN m) && mtOk m && (apos.endLine == cpos.line) && bareB a' && chkE c.T N a sc a' && es'.all plB && decide (es'.length < 29) && chkEs c.T N es sc es' | _ => false) = true := h
    split at h
    · rename_i a' nm apos es' cpos hh
      obtain ⟨h, h8⟩ := and2 h
      obtain ⟨h, h7⟩ := and2 h
      obtain ⟨h, h6⟩ := and2 h
      obtain ⟨h, h5⟩ := and2 h
      obtain ⟨h, h4⟩ := and2 h
      obtain ⟨h, h3⟩ := and2 h
      obtain ⟨h1, h2⟩ := and2 h
      have e := of_decide_eq_true h1
      subst e
      have ty : ∀ {H : Hp} {S : M.Sto} {x : M.D} {v : V} {xs : List M.D}, RelS c.K H S → RelD c.K H x v → M.lsOf S x = some xs → tyV c.K "list" v H := fun r rd e => by
        obtain ⟨p, vs, rfl, hs, _⟩ := lsOf_rel r rd e
        exact .inl ⟨rfl, vs, hs⟩
      cases es' with
      | nil =>
        have e0 : ∀ σ H Q, tEs c W es σ H Q → Q [] H := fun σ H Q q => pnOk es h8 rfl σ H Q q
        refine fin (PE.imp (pe_mt0 o h2 h3 h4 (peOk a h5 o).1) fun σ H Q ⟨ρ, S, Qd, Xd, hl, re, r, w, hq, hx⟩ =>
          one_rel hl re r w hx fun x S2 v H2 f r2 rx q => ?_)
        obtain ⟨xs, e, q⟩ := opt_of q
        have q2 := e0 σ H2 (fun vs H3 => rMt c.K m v vs H3 Q) ⟨ρ, S2, _, Xd, hl, re.mono r f, r2, q, fun y S3 z H3 f3 r3 rz q => ⟨x, y, S3, Qd, r3, rx.mono r2 f3, rz, q, hq.after (f.trans f3)⟩, hx.after f⟩
        exact ⟨ty r2 rx e, q2⟩
      | cons e' es' =>
        refine fin (PE.imp (pe_mtM o h2 h3 h4 (peOk a h5 o).1 (paOk es h8 o) h6 (of_decide_eq_true h7)) fun σ H Q ⟨ρ, S, Qd, Xd, hl, re, r, w, hq, hx⟩ =>
          one_rel hl re r w hx fun x S2 v H2 f r2 rx q => ?_)
        obtain ⟨xs, e, q⟩ := opt_of q
        exact ⟨ty r2 rx e, ρ, S2, _, Xd, hl, re.mono r f, r2, q, fun y S3 z H3 f3 r3 rz q => ⟨x, y, S3, Qd, r3, rx.mono r2 f3, rz, q, hq.after (f.trans f3)⟩, hx.after f⟩
    · cases h
  | .dix a i, sc, ex, X, W, h, o => by
    have h : (match (generalizing := false) ex with | .Subscript a' i' _ => plB i' && chkE c.T N a sc a' && chkE c.T N i sc i' | _ => false) = true := h
    split at h
    · obtain ⟨h, h3⟩ := and2 h
      obtain ⟨h1, h2⟩ := and2 h
      exact fin (PE.imp (pe_dget (by have := o.room.units; omega) (peOk a h2 o).1 (peOk i h3 o).1 (nosl_of h1)) fun σ H Q ⟨ρ, S, Qd, Xd, hl, re, r, w, hq, hx⟩ =>
        two_rel hl re r w hx fun x y S2 v u H2 f r2 rx ry q => dix_rel r2 rx ry q (hq.after f))
    · cases h
  | .new kk es, sc, ex, X, W, h, o => by
    have h : (match (generalizing := false) ex with | .Call (.Name x _) es' [] _ => !c.T.hot && decide (c.T.ocs[kk]? = some x) && glB sc x && !dbgB x && es'.all plB && decide (M.nmInit ∉ c.T.prs) && chkEs c.T N es sc es' | _ => false) = true := h
    split at h
    · obtain ⟨h, h7⟩ := and2 h
      obtain ⟨h, h6⟩ := and2 h
      obtain ⟨h, h5⟩ := and2 h
      obtain ⟨h, h4⟩ := and2 h
      obtain ⟨h, h3⟩ := and2 h
      obtain ⟨h1, h2⟩ := and2 h
      exact fin (PE.imp (pe_newM o h1 (of_decide_eq_true h2) (of_decide_eq_true h6) h3 (dbg_of h4).1 (paOk es h7 o) h5 (fun e => pnOk es h7 e)) fun σ H Q ⟨ρ, S, Qd, Xd, hl, re, r, w, hq, hx⟩ =>
        ones_rel hl re r w hx fun x S2 v H2 f r2 rx q => ⟨fun p => p :: x, S2, Qd, Xd, r2, fun p S' H' f' => .cons (.ref _) (rx.mono r2 f'), q, hq.after f, hx.after f⟩)
    · cases h
  | .newk kk es ks perm, sc, ex, X, W, h, o => by
    have h : (match (generalizing := false) ex with
      | .Call (.Name x _) es' kw _ => !c.T.hot && decide (c.T.ocs[kk]? = some x) && glB sc x && !dbgB x && es'.all plB && decide (M.nmInit ∉ c.T.prs) && chkEs c.T N es sc es' && (match kwsB kw with
        | some nms => c.T.mtb.all (fun e => decide (e.1 = (kk, M.nmInit) → (e.2, M.esLen es + 1, nms, perm) ∈ c.T.kws)) && decide (nms.length = M.esLen ks) && (kw.map (·.value)).all plB && chkEs c.T N ks sc (kw.map (·.value))
        | none => false)
      | _ => false) = true := h
    split at h
    · rename_i x p es' kw pos hh
      obtain ⟨h, h8⟩ := and2 h
      obtain ⟨h, h7⟩ := and2 h
      obtain ⟨h, h6⟩ := and2 h
      obtain ⟨h, h5⟩ := and2 h
      obtain ⟨h, h4⟩ := and2 h
      obtain ⟨h, h3⟩ := and2 h
      obtain ⟨h1, h2⟩ := and2 h
      split at h8
      · rename_i nms hn
        obtain ⟨h8, h12⟩ := and2 h8
        obtain ⟨h8, h11⟩ := and2 h8
        obtain ⟨h9, h10⟩ := and2 h8
        have e10 : nms.length = M.esLen ks := of_decide_eq_true h10
        exact fin (PE.imp (pe_newkM o h1 (of_decide_eq_true h2) (of_decide_eq_true h6) h3 (dbg_of h4).1 (paOk es h7 o) h5 (fun e => pnOk es h7 e) (pkOk ks h12 h11 o) hn (fun e he e1 => of_decide_eq_true (List.all_eq_true.mp h9 e he) e1)) fun σ H Q ⟨ρ, S, Qd, Xd, hl, re, r, w, hq, hx⟩ =>
          ones_rel hl re r w hx fun x S2 v H2 f r2 rx q => ⟨ρ, S2, _, Xd, hl, re.mono r f, r2, q, fun y S3 z H3 f3 r3 rz q => by
            obtain ⟨q1, q2, q3⟩ := q
            have rx3 := rx.mono r2 f3
            exact ⟨by rw [← rx3.length]; exact q1, by rw [← rz.length, e10]; exact q2, fun p => perm.filterMap fun i => ((p :: x) ++ y)[i]?, S3, Qd, Xd, r3, fun p S' H' f' => rels_fm ((RelDs.cons (.ref _) (rx3.mono r3 f')).append (rz.mono r3 f')) perm, q3, hq.after (f.trans f3), hx.after (f.trans f3)⟩, hx.after f⟩)
      · cases h8
    · cases h
  | .fld a n, sc, ex, X, W, h, o => by
    have h : (match (generalizing := false) ex with | .Attribute a' nm _ => decide (nm = stx n) && decide (n ∈ c.T.fds) && bareB a' && chkE c.T N a sc a' | _ => false) = true := h
    split at h
    · obtain ⟨h, h4⟩ := and2 h
      obtain ⟨h, h3⟩ := and2 h
      obtain ⟨h1, h2⟩ := and2 h
      have e := of_decide_eq_true h1
      subst e
      exact fin (PE.imp (pe_fld (peOk a h4 o).1 (attr_bare h3)) fun σ H Q ⟨ρ, S, Qd, Xd, hl, re, r, w, hq, hx⟩ =>
        one_rel hl re r w hx fun x S2 v H2 f r2 rx q => fld_rel o (of_decide_eq_true h2) r2 rx q (hq.after f))
    · cases h
  | .prp a n, sc, ex, X, W, h, o => by
    have h : (match (generalizing := false) ex with | .Attribute a' nm _ => !c.T.hot && decide (nm = stx n) && decide (n ∈ c.T.prs) && bareB a' && chkE c.T N a sc a' | _ => false) = true := h
    split at h
    · obtain ⟨h, h5⟩ := and2 h
      obtain ⟨h, h4⟩ := and2 h
      obtain ⟨h, h3⟩ := and2 h
      obtain ⟨h1, h2⟩ := and2 h
      have e := of_decide_eq_true h2
      subst e
      exact fin (PE.imp (pe_prpM o h1 (of_decide_eq_true h3) h4 (peOk a h5 o).1) fun σ H Q ⟨ρ, S, Qd, Xd, hl, re, r, w, hq, hx⟩ =>
        one_rel hl re r w hx fun x S2 v H2 f r2 rx q => ⟨x, [], S2, Qd, M.X0, r2, rx, .nil, q, hq.after f, okX0⟩)
    · cases h
  | .ocl a es, sc, ex, X, W, h, o => by
    have h : (match (generalizing := false) ex with | .Call a' es' [] _ => !c.T.hot && objE a' && !es'.isEmpty && es'.all plB && decide (M.nmCall ∉ c.T.prs) && chkE c.T N a sc a' && chkEs c.T N es sc es' | _ => false) = true := h
    split at h
    · rename_i a' es' pos hh
      obtain ⟨h, h7⟩ := and2 h
      obtain ⟨h, h6⟩ := and2 h
      obtain ⟨h, h5⟩ := and2 h
      obtain ⟨h, h4⟩ := and2 h
      obtain ⟨h, h3⟩ := and2 h
      obtain ⟨h1, h2⟩ := and2 h
      cases es' with
      | nil => cases h3
      | cons e' es' =>
        exact fin (PE.imp (pe_oclM o h1 (of_decide_eq_true h5) (peOk a h6 o).1 (paOk es h7 o) h4 (call_eval h2)) fun σ H Q ⟨ρ, S, Qd, Xd, hl, re, r, w, hq, hx⟩ =>
          one_rel hl re r w hx fun x S2 v H2 f r2 rx q => by
            obtain ⟨a0, rfl, q⟩ := onR_of q
            cases rx
            exact ⟨a0, rfl, ρ, S2, _, Xd, hl, re.mono r f, r2, q, fun y S3 z H3 f3 r3 rz q => rk_of o ⟨_, y, S3, Qd, Xd, r3, .ref a0, rz, q, hq.after (f.trans f3), hx.after (f.trans f3)⟩, hx.after f⟩)
    · cases h
  | .oclk a ks perm, sc, ex, X, W, h, o => by
    have h : (match (generalizing := false) ex with
      | .Call (.Name z p) [] kw _ => !c.T.hot && decide (M.nmCall ∉ c.T.prs) && chkE c.T N a sc (.Name z p) && (match kwsB kw with
        | some nms => c.T.mtb.all (fun e => decide (e.1.2 = M.nmCall → (e.2, 1, nms, perm) ∈ c.T.kws)) && decide (nms.length = M.esLen ks) && (kw.map (·.value)).all plB && chkEs c.T N ks sc (kw.map (·.value))
        | none => false)
      | _ => false) = true := h
    split at h
    · rename_i z p kw pos hh
      obtain ⟨h, h8⟩ := and2 h
      obtain ⟨h, h7⟩ := and2 h
      obtain ⟨h1, h2⟩ := and2 h
      split at h8
      · rename_i nms hn
        obtain ⟨h8, h12⟩ := and2 h8
        obtain ⟨h8, h11⟩ := and2 h8
        obtain ⟨h9, h10⟩ := and2 h8
        have e10 : nms.length = M.esLen ks := of_decide_eq_true h10
        exact fin (PE.imp (pe_oclkM o h1 (of_decide_eq_true h2) (peOk a h7 o).1 (pkOk ks h12 h11 o) hn (fun e he e1 => of_decide_eq_true (List.all_eq_true.mp h9 e he) e1)) fun σ H Q ⟨ρ, S, Qd, Xd, hl, re, r, w, hq, hx⟩ =>
          one_rel hl re r w hx fun x S2 v H2 f r2 rx q => by
            obtain ⟨a0, rfl, q⟩ := onR_of q
            cases rx
            exact ⟨a0, rfl, ρ, S2, _, Xd, hl, re.mono r f, r2, q, fun y S3 z H3 f3 r3 rz q => ⟨by rw [← rz.length, e10]; exact q.1, rk_ofk r3 rz q.2 (hq.after (f.trans f3)) (hx.after (f.trans f3))⟩, hx.after f⟩)
      · cases h8
    · cases h
  | .mth m a es, sc, ex, X, W, h, o => by
    have h : (match (generalizing := false) ex with | .Call (.Attribute a' nm apos) es' [] cpos => !c.T.hot && decide (nm = stx m) && (!M.keyB m && decide (m ∉ c.T.prs)) && (apos.endLine == cpos.line) && bareB a' && chkE c.T N a sc a' && es'.all plB && decide (es'.length < 29) && chkEs c.T N es sc es' | _ => false) = true := h
    split at h
    · obtain ⟨h, h9⟩ := and2 h
      obtain ⟨h, h8⟩ := and2 h
      obtain ⟨h, h7⟩ := and2 h
      obtain ⟨h, h6⟩ := and2 h
      obtain ⟨h, h5⟩ := and2 h
      obtain ⟨h, h4⟩ := and2 h
      obtain ⟨h, h3⟩ := and2 h
      obtain ⟨h1, h2⟩ := and2 h
      have e := of_decide_eq_true h2
      subst e
      exact fin (PE.imp (pe_mthM o h1 (of_decide_eq_true (and2 h3).2) (not1 (and2 h3).1) h5 h4 (peOk a h6 o).1 (paOk es h9 o) h7 (of_decide_eq_true h8) (fun e => pnOk es h9 e)) fun σ H Q ⟨ρ, S, Qd, Xd, hl, re, r, w, hq, hx⟩ =>
        one_rel hl re r w hx fun x S2 v H2 f r2 rx q => rm_of o r2 rx q fun a0 n ea q => by
          subst ea
          exact ones_rel hl (re.mono r f) r2 q (hx.after f) fun y S3 z H3 f3 r3 rz q => ⟨.ref a0 :: y, S3, Qd, Xd, .cons (.ref a0) rz, r3, q, hq.after (f.trans f3), hx.after (f.trans f3)⟩)
    · cases h
  | .mthk m a es ks perm, sc, ex, X, W, h, o => by
    have h : (match (generalizing := false) ex with
      | .Call (.Attribute a' nm apos) es' kw cpos => !c.T.hot && decide (nm = stx m) && (!M.keyB m && decide (m ∉ c.T.prs)) && (apos.endLine == cpos.line) && bareB a' && chkE c.T N a sc a' && es'.all plB && decide (es'.length + kw.length < 28) && chkEs c.T N es sc es' && (match kwsB kw with
        | some nms => c.T.mtb.all (fun e => decide (e.1.2 = m → (e.2, M.esLen es + 1, nms, perm) ∈ c.T.kws)) && decide (nms.length = M.esLen ks) && (kw.map (·.value)).all plB && chkEs c.T N ks sc (kw.map (·.value))
        | none => false)
      | _ => false) = true := h
    split at h
    · rename_i a' nm apos es' kw cpos hh
      obtain ⟨h, h10⟩ := and2 h
      obtain ⟨h, h9⟩ := and2 h
      obtain ⟨h, h8⟩ := and2 h
      obtain ⟨h, h7⟩ := and2 h
      obtain ⟨h, h6⟩ := and2 h
      obtain ⟨h, h5⟩ := and2 h
      obtain ⟨h, h4⟩ := and2 h
      obtain ⟨h, h3⟩ := and2 h
      obtain ⟨h1, h2⟩ := and2 h
      have e := of_decide_eq_true h2
      subst e
      split at h10
      · rename_i nms hn
        obtain ⟨h10, g4⟩ := and2 h10
        obtain ⟨h10, g3⟩ := and2 h10
        obtain ⟨g1, g2⟩ := and2 h10
        have e10 : nms.length = M.esLen ks := of_decide_eq_true g2
        exact fin (PE.imp (pe_mthkM o h1 (of_decide_eq_true (and2 h3).2) (not1 (and2 h3).1) h5 h4 (peOk a h6 o).1 (paOk es h9 o) h7 (of_decide_eq_true h8) (fun e => pnOk es h9 e) (pkOk ks g4 g3 o) hn (fun e he e1 => of_decide_eq_true (List.all_eq_true.mp g1 e he) e1)) fun σ H Q ⟨ρ, S, Qd, Xd, hl, re, r, w, hq, hx⟩ =>
          one_rel hl re r w hx fun x S2 v H2 f r2 rx q => rm_of o r2 rx q fun a0 n ea q => by
            subst ea
            exact ones_rel hl (re.mono r f) r2 q (hx.after f) fun y S3 z H3 f3 r3 rz q => ⟨ρ, S3, _, Xd, hl, re.mono r (f.trans f3), r3, q, fun y2 S4 z2 H4 f4 r4 rz2 q => by
              obtain ⟨q1, q2, q3⟩ := q
              have rz4 := rz.mono r3 f4
              exact ⟨by rw [← rz4.length]; exact q1, by rw [← rz2.length, e10]; exact q2, _, S4, Qd, Xd, rels_fm ((RelDs.cons (.ref a0) rz4).append rz2) perm, r4, q3, hq.after ((f.trans f3).trans f4), hx.after ((f.trans f3).trans f4)⟩, hx.after (f.trans f3)⟩)
      · cases h10
    · cases h
  | .mths m a es, sc, ex, X, W, h, o => by
    have h : (match (generalizing := false) ex with | .Call (.Attribute a' nm apos) es' [] cpos => !c.T.hot && decide (nm = stx m) && (apos.endLine == cpos.line) && bareB a' && chkE c.T N a sc a' && es'.all plB && decide (es'.length < 29) && chkEs c.T N es sc es' | _ => false) = true := h
    split at h
    · obtain ⟨h, h9⟩ := and2 h
      obtain ⟨h, h8⟩ := and2 h
      obtain ⟨h, h7⟩ := and2 h
      obtain ⟨h, h6⟩ := and2 h
      obtain ⟨h, h5⟩ := and2 h
      obtain ⟨h, h4⟩ := and2 h
      obtain ⟨h1, h2⟩ := and2 h
      have e := of_decide_eq_true h2
      subst e
      exact fin (PE.imp (pe_mthsM o h1 h5 h4 (peOk a h6 o).1 (paOk es h9 o) h7 (of_decide_eq_true h8) (fun e => pnOk es h9 e)) fun σ H Q ⟨ρ, S, Qd, Xd, hl, re, r, w, hq, hx⟩ =>
        one_rel hl re r w hx fun x S2 v H2 f r2 rx q => rm_of o r2 rx q fun a0 n ea q => by
          subst ea
          exact ones_rel hl (re.mono r f) r2 q (hx.after f) fun y S3 z H3 f3 r3 rz q => ⟨by rw [← rz.length, ← lim_eq]; exact q.1, fun p hp =>
            ⟨[.ref a0, .tup y], S3, Qd, Xd, .cons (.ref a0) (.cons (.tup (SqT.of L2.upd_same) (rz.mono r3 (Fr.laid hp))) .nil), r3.laid hp, q.2, (hq.after (f.trans f3)).after (Fr.laid hp), (hx.after (f.trans f3)).after (Fr.laid hp)⟩⟩)
    · cases h
  | .oln a, sc, ex, X, W, h, o => by
    obtain ⟨hh, h⟩ := and2 (show (!c.T.hot && decide (M.nmLen ∉ c.T.prs) && biCall c.T sc "len" (one (chkE c.T N a sc)) ex) = true from h)
    obtain ⟨hh, hp0⟩ := and2 hh
    obtain ⟨p, es', pos, rfl, hm, hg, hd, ho⟩ := biCall_of h
    obtain ⟨e', rfl, hp, ho⟩ := one_of ho
    exact fin (PE.imp (pe_callB (call_oln o hh (of_decide_eq_true hp0)) (o.gl hg) (o.free hm) (by decide +kernel) (pa_cons (peOk a ho o).1 pa_nil (plB_star hp)) (by decide +kernel) hd (plB_star hp) rfl) fun σ H Q ⟨ρ, S, Qd, Xd, hl, re, r, w, hq, hx⟩ =>
      one_rel hl re r w hx fun x S2 v H2 f r2 rx q => ⟨v, rfl, x, [], S2, _, M.X0, r2, rx, .nil, q, len_back (hq.after f), okX0⟩)
  | .newd kk es cs, sc, ex, X, W, h, o => by
    have h : (match (generalizing := false) ex with | .Call (.Name x _) es' [] _ => !c.T.hot && decide (c.T.ocs[kk]? = some x) && glB sc x && !dbgB x && es'.all plB && decide (M.nmInit ∉ c.T.prs) && chkEs c.T N es sc es' && c.T.mtb.all (fun e => decide (e.1 = (kk, M.nmInit) → (e.2, cs) ∈ c.T.dfl)) | _ => false) = true := h
    split at h
    · obtain ⟨h, h8⟩ := and2 h
      obtain ⟨h, h7⟩ := and2 h
      obtain ⟨h, h6⟩ := and2 h
      obtain ⟨h, h5⟩ := and2 h
      obtain ⟨h, h4⟩ := and2 h
      obtain ⟨h, h3⟩ := and2 h
      obtain ⟨h1, h2⟩ := and2 h
      exact fin (PE.imp (pe_newdM o h1 (of_decide_eq_true h2) (of_decide_eq_true h6) h3 (dbg_of h4).1 (paOk es h7 o) h5 (fun e => pnOk es h7 e) (fun e he e1 => of_decide_eq_true (List.all_eq_true.mp h8 e he) e1)) fun σ H Q ⟨ρ, S, Qd, Xd, hl, re, r, w, hq, hx⟩ =>
        ones_rel hl re r w hx fun x S2 v H2 f r2 rx q => ⟨fun C ek => (opt_of (q C ek)).imp fun n h => h.1, fun dvs rd => ⟨fun p => p :: (x ++ cs.map M.kcD), S2, Qd, Xd, r2, fun p S' H' f' => .cons (.ref _) ((rx.mono r2 f').append (rd H')), q, hq.after f, hx.after f⟩⟩)
    · cases h
  | .oun a, sc, ex, X, W, h, o => by
    have h : (match (generalizing := false) ex with | .UnaryOp .USub a' _ => !c.T.hot && decide (M.nmNeg ∉ c.T.prs) && chkE c.T N a sc a' | _ => false) = true := h
    split at h
    · obtain ⟨h, h3⟩ := and2 h
      obtain ⟨h1, h2⟩ := and2 h
      exact fin (PE.imp (pe_ounM o h1 (of_decide_eq_true h2) (peOk a h3 o).1) fun σ H Q ⟨ρ, S, Qd, Xd, hl, re, r, w, hq, hx⟩ =>
        one_rel hl re r w hx fun x S2 v H2 f r2 rx q => ⟨x, [], S2, Qd, Xd, r2, rx, .nil, q, hq.after f, hx.after f⟩)
    · cases h
  | .oand a b, sc, ex, X, W, h, o => by
    have h : (match (generalizing := false) ex with | .BinOp a' .BitAnd b' _ => !c.T.hot && decide (M.nmAnd ∉ c.T.prs) && chkE c.T N a sc a' && chkE c.T N b sc b' | _ => false) = true := h
    split at h
    · obtain ⟨h, h4⟩ := and2 h
      obtain ⟨h, h3⟩ := and2 h
      obtain ⟨h1, h2⟩ := and2 h
      exact fin (PE.imp (pe_oandM o h1 (of_decide_eq_true h2) (peOk a h3 o).1 (peOk b h4 o).1) fun σ H Q ⟨ρ, S, Qd, Xd, hl, re, r, w, hq, hx⟩ =>
        two_rel hl re r w hx fun x y S2 v u H2 f r2 rx ry q => ⟨x, y, S2, Qd, Xd, r2, rx, ry, q, hq.after f, hx.after f⟩)
    · cases h
  | .oeq a b, sc, ex, X, W, h, o => by
    have h : (match (generalizing := false) ex with | .Compare a' [.Eq] [b'] _ => !c.T.hot && decide (M.nmEq ∉ c.T.prs) && chkE c.T N a sc a' && chkE c.T N b sc b' && !behindInMarks .Eq b' | _ => false) = true := h
    split at h
    · obtain ⟨h, h5⟩ := and2 h
      obtain ⟨h, h4⟩ := and2 h
      obtain ⟨h, h3⟩ := and2 h
      obtain ⟨h1, h2⟩ := and2 h
      have rd : ∀ {σ : Sl} {H : Hp} {Q : VK}, tE c W (.oeq a b) σ H Q → tOp (rOeq c) (tE c W a) (tE c W b) σ H Q := fun {σ H Q} ⟨ρ, S, Qd, Xd, hl, re, r, w, hq, hx⟩ =>
        two_rel hl re r w hx fun x y S2 v u H2 f r2 rx ry q => ⟨x, y, S2, _, M.X0, r2, rx, ry, q, eq_back (g := fun b => b) (hq.after f), okX0⟩
      exact ⟨PE.imp (pe_cmpR (op_oeq o h1 (of_decide_eq_true h2)) (peOk a h3 o).1 (peOk b h4 o).1 (not1 h5)) fun σ H Q h => rd h, PT.imp (pt_cmpR (op_oeq o h1 (of_decide_eq_true h2)) (peOk a h3 o).1 (peOk b h4 o).1 (not1 h5)) fun σ H Q h => rd h⟩
    · cases h
  | .one a b, sc, ex, X, W, h, o => by
    have h : (match (generalizing := false) ex with | .Compare a' [.NotEq] [b'] _ => !c.T.hot && decide (M.nmEq ∉ c.T.prs) && chkE c.T N a sc a' && chkE c.T N b sc b' && !behindInMarks .NotEq b' | _ => false) = true := h
    split at h
    · obtain ⟨h, h5⟩ := and2 h
      obtain ⟨h, h4⟩ := and2 h
      obtain ⟨h, h3⟩ := and2 h
      obtain ⟨h1, h2⟩ := and2 h
      have rd : ∀ {σ : Sl} {H : Hp} {Q : VK}, tE c W (.one a b) σ H Q → tOp (rOne c) (tE c W a) (tE c W b) σ H Q := fun {σ H Q} ⟨ρ, S, Qd, Xd, hl, re, r, w, hq, hx⟩ =>
        two_rel hl re r w hx fun x y S2 v u H2 f r2 rx ry q => ⟨x, y, S2, _, M.X0, r2, rx, ry, q, eq_back (g := fun b => !b) (hq.after f), okX0⟩
      exact ⟨PE.imp (pe_cmpR (op_one o h1 (of_decide_eq_true h2)) (peOk a h3 o).1 (peOk b h4 o).1 (not1 h5)) fun σ H Q h => rd h, PT.imp (pt_cmpR (op_one o h1 (of_decide_eq_true h2)) (peOk a h3 o).1 (peOk b h4 o).1 (not1 h5)) fun σ H Q h => rd h⟩
    · cases h
  | .oin b x y, sc, ex, X, W, h, o => by
    have h : (match (generalizing := false) ex with | .Compare a' [p] [b'] _ => !c.T.hot && coOk b p && (decide (b = .in_) || decide (b = .nin)) && decide (M.nmIn ∉ c.T.prs) && chkE c.T N x sc a' && chkE c.T N y sc b' && !behindInMarks p b' | _ => false) = true := h
    split at h
    · rename_i a' p b' pos hh
      obtain ⟨h, h7⟩ := and2 h
      obtain ⟨h, h6⟩ := and2 h
      obtain ⟨h, h5⟩ := and2 h
      obtain ⟨h, h4⟩ := and2 h
      obtain ⟨h, h3⟩ := and2 h
      obtain ⟨h1, h2⟩ := and2 h
      have hb := oin_cases h2 h3
      obtain ⟨g1, g2⟩ := op_oin o h1 (of_decide_eq_true h4)
      rcases hb with ⟨rfl, rfl⟩ | ⟨rfl, rfl⟩
      · have rd : ∀ {σ : Sl} {H : Hp} {Q : VK}, tE c W (.oin .in_ x y) σ H Q → tOp (rOin c false) (tE c W x) (tE c W y) σ H Q := fun {σ H Q} ⟨ρ, S, Qd, Xd, hl, re, r, w, hq, hx⟩ =>
          two_rel hl re r w hx fun x y S2 v u H2 f r2 rx ry q => ⟨y, [x], S2, _, M.X0, r2, ry, .cons rx .nil, q, eq_back (g := fun b => b) (hq.after f), okX0⟩
        exact ⟨PE.imp (pe_cmpR g1 (peOk x h5 o).1 (peOk y h6 o).1 (not1 h7)) fun σ H Q h => rd h, PT.imp (pt_cmpR g1 (peOk x h5 o).1 (peOk y h6 o).1 (not1 h7)) fun σ H Q h => rd h⟩
      · have rd : ∀ {σ : Sl} {H : Hp} {Q : VK}, tE c W (.oin .nin x y) σ H Q → tOp (rOin c true) (tE c W x) (tE c W y) σ H Q := fun {σ H Q} ⟨ρ, S, Qd, Xd, hl, re, r, w, hq, hx⟩ =>
          two_rel hl re r w hx fun x y S2 v u H2 f r2 rx ry q => ⟨y, [x], S2, _, M.X0, r2, ry, .cons rx .nil, q, eq_back (g := fun b => !b) (hq.after f), okX0⟩
        exact ⟨PE.imp (pe_cmpR g2 (peOk x h5 o).1 (peOk y h6 o).1 (not1 h7)) fun σ H Q h => rd h, PT.imp (pt_cmpR g2 (peOk x h5 o).1 (peOk y h6 o).1 (not1 h7)) fun σ H Q h => rd h⟩
    · cases h
  | .isc a kk, sc, ex, X, W, h, o => by
    obtain ⟨p, es', pos, rfl, hm, hg, hd, ho⟩ := biCall_of (show biCall c.T sc "isinstance" (two (chkE c.T N a sc) (fun y => match y with | .Name z _ => decide (c.T.ocs[kk]? = some z) && glB sc z && !dbgB z | _ => false)) ex = true from h)
    obtain ⟨e', y, rfl, hp, hp2, h1, h2⟩ := two_of ho
    split at h2
    · rename_i z pz
      obtain ⟨h2, h5⟩ := and2 h2
      obtain ⟨h3, h4⟩ := and2 h2
      obtain ⟨D, ek, pty⟩ := isc_name o (of_decide_eq_true h3) h4 h5
      refine fin (PE.imp (pe_callB call_isi (o.gl hg) (o.free hm) (by decide +kernel) (pa_cons (peOk a h1 o).1 (pa_cons (pty pz) pa_nil (plB_star hp2)) (plB_star hp)) (by decide +kernel) hd (plB_star hp) (plB_all (es := [_]) (by show (plB _ && true) = true; rw [hp2]; rfl))) fun σ H Q ⟨ρ, S, Qd, Xd, hl, re, r, w, hq, hx⟩ =>
        one_rel hl re r w hx fun x S2 v H2 f r2 rx q => isc_rel o ek r2 rx q fun b q => (hq.after f).same r2 (.bl b) q)
    · cases h2
  | .m2 m a e, sc, ex, X, W, h, o => by
    have h : (match (generalizing := false) ex with | .Call (.Attribute a' nm apos) [e'] [] cpos => decide (nm = moN m) && (apos.endLine == cpos.line) && bareB a' && plB e' && chkE c.T N a sc a' && chkE c.T N e sc e' | _ => false) = true := h
    split at h
    · rename_i a' nm apos e' cpos hh
      obtain ⟨h, h6⟩ := and2 h
      obtain ⟨h, h5⟩ := and2 h
      obtain ⟨h, h4⟩ := and2 h
      obtain ⟨h, h3⟩ := and2 h
      obtain ⟨h1, h2⟩ := and2 h
      have e1 := of_decide_eq_true h1
      subst e1
      have eK := o.eK
      cases m with
      | split =>
        refine fin (PE.imp (pe_split (peOk a h5 o).1 (peOk e h6 o).1 (plB_star h4) (bare_of h3) h2) fun σ H Q ⟨ρ, S, Qd, Xd, hl, re, r, w, hq, hx⟩ =>
          one_rel hl re r w hx fun x S2 v H2 f r2 rx q => ?_)
        obtain ⟨t, rfl, q⟩ := onS_of q
        cases rx
        refine ⟨⟨_, rfl⟩, ρ, S2, _, Xd, hl, re.mono r f, r2, q, fun y S3 u H3 f3 r3 ry q => ?_, hx.after f⟩
        obtain ⟨b, rfl, q⟩ := onS_of q
        cases ry
        match b, q with
        | [c'], q =>
          obtain ⟨q1, q2⟩ := q
          refine ⟨_, _, rfl, rfl, rfl, by rw [stx_len, ← lim_eq]; exact q1, ?_⟩
          rw [split_stx]
          exact (hq.after (f.trans f3)).newL r3 (strs_back _) q2
      | strip =>
        refine fin (PE.imp (pe_m1 PySem.F.slot_str_strip PySem.F.type_str_strip mt_stripChars (peOk a h5 o).1 (peOk e h6 o).1 (plB_star h4) (bare_of h3) h2) fun σ H Q ⟨ρ, S, Qd, Xd, hl, re, r, w, hq, hx⟩ =>
          one_rel hl re r w hx fun x S2 v H2 f r2 rx q => ?_)
        obtain ⟨t, rfl, q⟩ := onS_of q
        cases rx
        refine ⟨⟨_, rfl⟩, ρ, S2, _, Xd, hl, re.mono r f, r2, q, fun y S3 u H3 f3 r3 ry q => ?_, hx.after f⟩
        obtain ⟨b, rfl, q1, q2⟩ := onS_of q
        cases ry
        obtain ⟨r', e1, e2, e3⟩ := strip_ok t b
        refine ⟨_, _, rfl, rfl, by rw [stx_len, ← lim_eq]; exact q1, ?_⟩
        rw [e1]
        exact (hq.after (f.trans f3)).same r3 (.str _) (q2 r' e2 e3)
      | join =>
        refine fin (PE.imp (pe_join (peOk a h5 o).1 (peOk e h6 o).1 (plB_star h4) (bare_of h3) h2) fun σ H Q ⟨ρ, S, Qd, Xd, hl, re, r, w, hq, hx⟩ =>
          one_rel hl re r w hx fun x S2 v H2 f r2 rx q => ?_)
        obtain ⟨t, rfl, q⟩ := onS_of q
        cases rx
        refine ⟨⟨_, rfl⟩, ρ, S2, _, Xd, hl, re.mono r f, r2, q, fun y S3 u H3 f3 r3 ry q => ?_, hx.after f⟩
        obtain ⟨xs, e2, q⟩ := opt_of q
        obtain ⟨ts, e3, q1, q2⟩ := opt_of q
        obtain ⟨p, vs, rfl, hs, rs⟩ := sqOf_rel r3 ry e2
        have e4 := strs_rel rs e3
        subst e4
        refine ⟨_, p, ts.map stx, rfl, rfl, by rw [eK]; exact hs, by rw [sum_len, List.length_map, stx_len]; exact q1, ?_⟩
        rw [joinT_stx]
        exact (hq.after (f.trans f3)).same r3 (.str _) q2
    · cases h
  | .isi a t, sc, ex, X, W, h, o => by
    obtain ⟨p, es', pos, rfl, hm, hg, hd, ho⟩ := biCall_of (show biCall c.T sc "isinstance" (two (chkE c.T N a sc) (fun y => match y with | .Name z _ => decide (z = tyS t) && decide (z ∈ c.T.bts) && glB sc z && !dbgB z | _ => false)) ex = true from h)
    obtain ⟨e', y, rfl, hp, hp2, h1, h2⟩ := two_of ho
    split at h2
    · rename_i z pz
      obtain ⟨h2, h6⟩ := and2 h2
      obtain ⟨h2, h5⟩ := and2 h2
      obtain ⟨h3, h4⟩ := and2 h2
      have e := of_decide_eq_true h3
      subst e
      have pty : PE X (.Name (tyS t) pz) (tC (.ty (tyN t))) := pe_bltn (o.gl h5) (o.free (of_decide_eq_true h4)) (tyB t) rfl (by cases t <;> decide +kernel) (dbg_of h6).1
      have eK := o.eK
      refine fin (PE.imp (pe_callB call_isi (o.gl hg) (o.free hm) (by decide +kernel) (pa_cons (peOk a h1 o).1 (pa_cons pty pa_nil (plB_star hp2)) (plB_star hp)) (by decide +kernel) hd (plB_star hp) (plB_all (es := [_]) (by show (plB _ && true) = true; rw [hp2]; rfl))) fun σ H Q ⟨ρ, S, Qd, Xd, hl, re, r, w, hq, hx⟩ =>
        one_rel hl re r w hx fun x S2 v H2 f r2 rx q => ?_)
      obtain ⟨b, e, q⟩ := opt_of q
      obtain ⟨n, g1, g2⟩ := isTy_rel r2 rx e
      refine ⟨v, .ty (tyN t), n, .type (tyN t), b, rfl, .ty _, ?_, by rw [eK]; exact g2, (hq.after f).same r2 (.bl b) q⟩
      rw [eK]; exact g1
    · cases h2
  | .isi2 a t u, sc, ex, X, W, h, o => by
    obtain ⟨p, es', pos, rfl, hm, hg, hd, ho⟩ := biCall_of (show biCall c.T sc "isinstance" (two (chkE c.T N a sc) (fun y => match y with | .Tuple [.Name z _, .Name z2 _] _ _ => clsB c.T sc t z && clsB c.T sc u z2 | _ => false)) ex = true from h)
    obtain ⟨e', y, rfl, hp, hp2, h1, h2⟩ := two_of ho
    split at h2
    · rename_i z pz z2 pz2 kt ptt
      obtain ⟨g1, g2⟩ := and2 h2
      obtain ⟨f1, p1⟩ := cls_name o g1
      obtain ⟨f2, p2⟩ := cls_name o g2
      have eK := o.eK
      have pt := pe_tup (x1 := kt) (pos := ptt) (pa_cons (p1 pz) (pa_cons (p2 pz2) pa_nil))
      refine fin (PE.imp (pe_callB call_isiT (o.gl hg) (o.free hm) (by decide +kernel) (pa_cons (peOk a h1 o).1 (pa_cons pt pa_nil (plB_star rfl)) (plB_star hp)) (by decide +kernel) hd (plB_star hp) (plB_all (es := [_]) rfl)) fun σ H Q ⟨ρ, S, Qd, Xd, hl, re, r, w, hq, hx⟩ =>
        one_rel hl re r w hx fun x S2 v H2 f r2 rx q => ?_)
      obtain ⟨b, e, q⟩ := opt_of q
      obtain ⟨d, e2, q⟩ := opt_of q
      refine ⟨by show 2 ≤ sizeLine; rw [sizeLine_eq]; omega, fun tp htp => ?_⟩
      have f3 : Fr S2 H2 S2 (L2.upd H2 tp (.tup [.ty (tyN t), .ty (tyN u)])) := Fr.laid htp
      have r3 := r2.laid (o := .tup [.ty (tyN t), .ty (tyN u)]) htp
      have rx3 := rx.mono r2 f3
      obtain ⟨n', k1, kk⟩ := isTy_all r3 rx3 e
      have k2 := kk t b e
      have k4 := kk u d e2
      refine ⟨v, tp, [.ty (tyN t), .ty (tyN u)], n', [.type (tyN t), .type (tyN u)], b || d, rfl, upd_same, .cons (.ty _) (.cons (.ty _) .nil), ?_, ?_, (hq.after (f.trans f3)).same r3 (.bl _) q⟩
      · rw [eK]; exact k1
      · rw [eK]
        refine kitAny_cons k2 (fun hb => kitAny_cons k4 (fun hd => ?_) fun hd => ?_) fun hb => ?_
        · subst hb hd; exact kitAny_nil
        · subst hd; rw [Bool.or_true]
        · subst hb; rfl
    · cases h2
  | .isx a cs, sc, ex, X, W, h, o => by
    obtain ⟨p, es', pos, rfl, hm, hg, hd, ho⟩ := biCall_of (show biCall c.T sc "isinstance" (two (chkE c.T N a sc) (clsM c.T sc cs)) ex = true from h)
    obtain ⟨e', y, rfl, hp, hp2, h1, h2⟩ := two_of ho
    have eK := o.eK
    unfold clsM at h2
    split at h2
    · rename_i z pz
      obtain ⟨hlen, h2⟩ := and2 h2
      match cs, of_decide_eq_true hlen, h2 with
      | [c'], _, h2 =>
        have h2 : clsX c.T sc c' z = true := h2
        obtain ⟨v, wv, pty, hv, hk⟩ := cls_one o h2
        refine fin (PE.imp (pe_callB call_isXA (o.gl hg) (o.free hm) (by decide +kernel) (pa_cons (peOk a h1 o).1 (pa_cons (pty pz) pa_nil (plB_star hp2)) (plB_star hp)) (by decide +kernel) hd (plB_star hp) (plB_all (es := [_]) (by show (plB _ && true) = true; rw [hp2]; rfl))) fun σ H Q ⟨ρ, S, Qd, Xd, hl, re, r, w, hq, hx⟩ =>
          one_rel hl re r w hx fun x S2 u H2 f r2 rx q => ?_)
        obtain ⟨C, fs, ex, i, hi, q2⟩ := onX_of q
        clear q
        subst ex
        obtain ⟨a1, r1, _, rfl, ha⟩ := rx.xo
        · refine ⟨C, by rw [eK]; exact (o.er.ok i C hi).ec, _, v, wv, _, rfl, ha, hv, by rw [eK]; exact hk i C hi, ?_⟩
          have e1 : ([c'] : List Nat).any (c.G.sub i) = c.G.sub i c' := by simp
          rw [e1] at q2
          exact (hq.after f).same r2 (.bl _) q2
    · rename_i zs kt ptt
      obtain ⟨h3, h4⟩ := and2 h2
      obtain ⟨vs, wvs, t, g1, g2, g3, g4, g5⟩ := cls_all o h4
      have pt := pe_tup (x1 := kt) (pos := ptt) g1
      refine fin (PE.imp (pe_callB call_isXTA (o.gl hg) (o.free hm) (by decide +kernel) (pa_cons (peOk a h1 o).1 (pa_cons pt pa_nil (plB_star rfl)) (plB_star hp)) (by decide +kernel) hd (plB_star hp) (plB_all (es := [_]) rfl)) fun σ H Q ⟨ρ, S, Qd, Xd, hl, re, r, w, hq, hx⟩ =>
        one_rel hl re r w hx fun x S2 u H2 f r2 rx q => ?_)
      obtain ⟨C, fs, ex, i, hi, q2⟩ := onX_of q
      clear q
      subst ex
      refine g2 _ _ _ ⟨?_, fun tp htp => ?_⟩
      · have := of_decide_eq_true h3
        rw [g3, sizeLine_eq]; omega
      · obtain ⟨a1, r1, _, rfl, ha⟩ := rx.xo
        · have f3 : Fr S2 H2 S2 (L2.upd H2 tp (.tup vs)) := Fr.laid htp
          have r3 := r2.laid (o := .tup vs) htp
          have ha3 := xo_mono r2 f3 ha
          exact ⟨C, by rw [eK]; exact (o.er.ok i C hi).ec, _, tp, vs, wvs, _, rfl, ha3, L2.upd_same, g4, by rw [eK]; exact g5 i C hi, (hq.after (f.trans f3)).same r3 (.bl _) q2⟩
    · cases h2
  | .xnew0 cc, sc, ex, X, W, h, o => by
    have h : (match (generalizing := false) ex with
      | .Call (.Name x _) [] [] _ => !c.T.hot && !c.T.xin.any (fun e => e.1 == cc) && decide (cc < c.T.nr) && decide (c.T.cls[cc]? = some x) && glB sc x && !dbgB x
      | _ => false) = true := h
    split at h
    · obtain ⟨h, h6⟩ := and2 h
      obtain ⟨h, h5⟩ := and2 h
      obtain ⟨h, h4⟩ := and2 h
      obtain ⟨h, h3⟩ := and2 h
      obtain ⟨h1, h2⟩ := and2 h
      have h4 := of_decide_eq_true h4
      have hnr := of_decide_eq_true h3
      obtain ⟨C, m, a, _⟩ := o.er.at_ cc _ h4
      have a := a hnr
      have E := o.er.ok cc C a
      refine fin (PE.imp (pe_xn0 PySem.F.excBase_ValueError (by rw [o.eK]; exact o.er.ex cc C a (not1 h2)) (by rw [o.em]; exact m) (by rw [o.eK]; exact E.kp) (o.gl h5) (dbg_of h6).1) fun σ H Q ⟨ρ, S, Qd, Xd, hl, re, r, w, hq, hx⟩ => fun a1 oe ha hE => ?_)
      have f1 : Fr S H S (L2.upd H a1 (XO a1 oe)) := Fr.laid ha
      exact (hq.after f1).same (r.laid (o := XO a1 oe) ha) (.xn ⟨oe, none, L2.upd_same, hE, fun dd z => nomatch z⟩) (w C a a1)
    · cases h
  | .xnew cc n kw e, sc, ex, X, W, h, o => by
    have h : (match (generalizing := false) ex with
      | .Call (.Name x _) es ks _ => !c.T.hot && decide ((cc, n) ∈ c.T.xin) && decide (cc < c.T.nr) && decide (c.T.cls[cc]? = some x) && glB sc x && !dbgB x && (if kw then (match es, ks with
        | [], [⟨some y, e', _⟩] => decide (y = stx n) && plB e' && chkE c.T N e sc e'
        | _, _ => false) else (match es, ks with
        | [e'], [] => plB e' && chkE c.T N e sc e'
        | _, _ => false))
      | _ => false) = true := h
    split at h
    · rename_i x p es ks pos hh
      obtain ⟨h, h8⟩ := and2 h
      obtain ⟨h, h6⟩ := and2 h
      obtain ⟨h, h5⟩ := and2 h
      obtain ⟨h, h4⟩ := and2 h
      obtain ⟨h, h3⟩ := and2 h
      obtain ⟨h1, h2⟩ := and2 h
      have h4 := of_decide_eq_true h4
      have hnr := of_decide_eq_true h3
      obtain ⟨C, m, a, _⟩ := o.er.at_ cc x h4
      have a := a hnr
      obtain ⟨C', a', xi⟩ := o.xi cc n (of_decide_eq_true h2)
      obtain rfl : C' = C := Option.some.inj (a'.symm.trans a)
      have hc : c.T.hot = false := not1 h1
      have rm : RoomX false k X.A := by have := o.roomX; rw [hc] at this; exact this
      rw [← o.eK, ← o.em] at xi
      have eK := o.eK
      have fin2 : ∀ {σ : Sl} {H : Hp} {Q : VK}, tE c W (.xnew cc n kw e) σ H Q → tE c W e σ H fun v H1 => ∀ (a d : Addr) (oe : Obj), d ≠ a → H1 a = none → H1 d = none → ExA C' (some d) oe → Q (.ref a) (L2.upd (L2.upd H1 d (.xd [(stx n, v)])) a (XO a oe)) := by
        intro σ H Q ⟨ρ, S, Qd, Xd, hl, re, r, w, hq, hx⟩
        refine one_rel hl re r w hx fun x S2 v H2 f r2 rx q a d oe hda ha hd hE => ?_
        have f1 : Fr S2 H2 S2 (L2.upd H2 d (.xd [(stx n, v)])) := Fr.laid hd
        have r3 := r2.laid (o := .xd [(stx n, v)]) hd
        have ha' : (L2.upd H2 d (.xd [(stx n, v)])) a = none := by rw [L2.upd_ne (Ne.symm hda)]; exact ha
        have f2 : Fr S2 (L2.upd H2 d (.xd [(stx n, v)])) S2 (L2.upd (L2.upd H2 d (.xd [(stx n, v)])) a (XO a oe)) := Fr.laid ha'
        have r4 := r3.laid (o := XO a oe) ha'
        exact (hq.after (f.trans (f1.trans f2))).same r4 (.xf L2.upd_same hE (by rw [L2.upd_ne hda, L2.upd_same]) ((rx.mono r2 f1).mono r3 f2)) (q C' a' a)
      cases kw with
      | false =>
        rw [if_neg Bool.false_ne_true] at h8
        split at h8
        · rename_i e'
          obtain ⟨g1, g2⟩ := and2 h8
          exact fin (PE.imp (pe_xn xi rm o.gd (o.gl h5) (by rw [o.em]; exact m) (dbg_of h6).1 (peOk e g2 o).1 (plB_star g1)) fun σ H Q h => fin2 h)
        · cases h8
      | true =>
        rw [if_pos rfl] at h8
        split at h8
        · rename_i y e' pk
          obtain ⟨g, g3⟩ := and2 h8
          obtain ⟨g1, g2⟩ := and2 g
          have ey := of_decide_eq_true g1
          subst ey
          have pk1 : PK X [⟨some (stx n), e', pk⟩] (tCons (tE c W e) tNil) := pk_cons (peOk e g3 o).1 pk_nil
          refine fin (PE.imp (pe_xnk xi rm o.gd (o.gl h5) (by rw [o.em]; exact m) (dbg_of h6).1 pk1 rfl) fun σ H Q h => ?_)
          have z := fin2 h
          obtain ⟨ρ, S, Qd, Xd, hl, re, r, w, hq, hx⟩ := z
          exact ⟨ρ, S, Qd, Xd, hl, re, r, w, fun d2 S' v H' f' r' rd q => ⟨v, rfl, hq d2 S' v H' f' r' rd q⟩, hx⟩
        · cases h8
    · cases h
  | .xfld a n, sc, ex, X, W, h, o => by
    have h : (match (generalizing := false) ex with | .Attribute a' nm _ => decide (nm = stx n) && decide (n ∈ c.T.xns) && bareK a' && chkE c.T N a sc a' | _ => false) = true := h
    split at h
    · obtain ⟨h, h4⟩ := and2 h
      obtain ⟨h, h3⟩ := and2 h
      obtain ⟨h1, h2⟩ := and2 h
      have e := of_decide_eq_true h1
      subst e
      refine fin (PE.imp (pe_xfld (peOk a h4 o).1 (attr_bareK h3)) fun σ H Q ⟨ρ, S, Qd, Xd, hl, re, r, w, hq, hx⟩ => one_rel hl re r w hx fun x S2 v H2 f r2 rx q => ?_)
      have eK := o.eK
      obtain ⟨C0, y, x0, rfl, q⟩ := onF_of q
      obtain ⟨⟨kk, ek⟩, q2⟩ := (show (∃ k, c.G.adr k = some C0) ∧ Qd x0 S2 from q)
      clear q
      cases rx with
      | xf g1 g2 g3 g4 => exact ⟨_, C0, _, _, _, rfl, g1, g2, g3, by rw [eK]; exact (o.er.ok kk C0 ek).ec, by rw [eK]; exact o.er.fl kk C0 ek _ (of_decide_eq_true h2), (hq.after f).same r2 g4 q2⟩
    · cases h
  | .dic, sc, ex, X, W, h, o => by
    have h : (match (generalizing := false) ex with | .Dict [] [] _ => true | _ => false) = true := h
    split at h
    · exact fin (PE.imp pe_dnewK fun σ H Q ⟨ρ, S, Qd, Xd, hl, re, r, w, hq, hx⟩ => fun p hp => hq _ _ _ _ (Fr.laidS hp) (r.dic hp) (.ref p) (w p (r.none hp)))
    · cases h
  | .dct ks es, sc, ex, X, W, h, o => by
    have h : (match (generalizing := false) ex with | .Dict kes vs _ => decide (ks ≠ []) && decide (ks.Nodup) && decide (ks.length ≤ 15) && keysB ks kes && decide (vs.length = ks.length) && vs.all plB && chkEs c.T N es sc vs | _ => false) = true := h
    split at h
    · rename_i kes vs pos hheq
      obtain ⟨h, h7⟩ := and2 h
      obtain ⟨h, h6⟩ := and2 h
      obtain ⟨h, h5⟩ := and2 h
      obtain ⟨h, h4⟩ := and2 h
      obtain ⟨h, h3⟩ := and2 h
      obtain ⟨h1, h2⟩ := and2 h
      obtain ⟨k1, k2⟩ := keysB_some h4
      have h5 := of_decide_eq_true h5
      have h3 := of_decide_eq_true h3
      obtain ⟨p1, p2, p3⟩ := ppOk es (pos := pos) h4 h7 h6 h5 o
      refine fin (PE.imp (pe_disp p1 k1 (by omega) (fun z => of_decide_eq_true h1 (by rw [z] at k2; exact List.eq_nil_of_length_eq_zero k2.symm)) (by omega)) fun σ H Q q => disp_rel h3 (of_decide_eq_true h2) p2 p3 q)
    · cases h
  | .comp e t it oc, sc, ex, X, W, h, o => by
    have h : (match (generalizing := false) ex with
      | .ListComp e' [⟨tg, it', ifs, k⟩] scope _ => !c.T.hot && decide (k = 0) && blkC N sc scope (ownOf N (M.tgs t)) && decide ((ownOf N (M.tgs t)).map (·.2) = M.tgs t) && decide (M.tgs t).Nodup && noSet it' && chkIt c.T N it sc it' (isTupB tg) && chkTg N (tgB scope sc) t tg
          && (match ifs with | [] => chkO c.T N oc (relS scope sc) none | [d] => chkO c.T N oc (relS scope sc) (some d) | _ => false) && chkE c.T N e (relS scope sc) e'
      | _ => false) = true := h
    split at h
    · rename_i e' tg it' ifs k0 scope pos hh
      obtain ⟨h, h9⟩ := and2 h
      obtain ⟨h, h8⟩ := and2 h
      obtain ⟨h, h7⟩ := and2 h
      obtain ⟨h, h6⟩ := and2 h
      obtain ⟨h, h5⟩ := and2 h
      obtain ⟨h, h4⟩ := and2 h
      obtain ⟨h, h3⟩ := and2 h
      obtain ⟨h, h2⟩ := and2 h
      obtain ⟨hcal, h1⟩ := and2 h
      have e0 := of_decide_eq_true h1
      subst e0
      have eo : (ownOf N (M.tgs t)).map (·.2) = M.tgs t := of_decide_eq_true h3
      refine fin ?_
      have hpe : PE X (.ListComp e' [⟨tg, it', ifs, 0⟩] scope pos) (tLc (tIt c W it) (tgG c.K t) (tCn c oc) (tE c W0 e) ((ownOf N (M.tgs t)).map (·.2))) := by
        refine pe_lc (o.calm' hcal) (by rw [o.eN]; exact o.nd) (piOk it h6 o) (by rw [o.eN, o.es]; exact blkOk_by h2) (fun s H C cl fp => ?_) (fun s H C cl fp => ?_) (fun s H C cl fp => ?_) (folded_of h5)
        · have ob := o.blk s H scope C cl fp
          have q := pgOk (X := X.blk s H scope (compEnvC scope cl C X.env) fp) (t := t) (e := tg) (ok := tgB scope sc) (fun _ => ob.calm' hcal) (by rw [ob.eN]; exact ob.nd) (fun x hx => by rw [ob.es]; exact tgB_of hx) (by rw [ob.eN]; exact h7)
          rw [ob.eK] at q
          exact q
        · have ob := o.blk s H scope C cl fp
          split at h8
          · exact (poOk oc h8 ob).2
          · exact (poOk oc h8 ob).2
          · cases h8
        · exact (peOk e h9 (o.blk s H scope C cl fp)).1
      refine PE.imp hpe fun σ H Q ⟨ρ, S, Qd, Xd, hl, re, r, w, hq, hx⟩ => ?_
      refine ⟨ρ, S, _, Xd, hl, re, r, w, fun items chk S1 H1 J f1 r1 m q => ?_, hx⟩
      rw [eo]
      exact comp_rel hl (re.mono r f1) r1 m q.1 (hq.after f1) q.2
    · cases h
theorem ppOk : ∀ (es : M.Es) {ks : List M.Tx} {kes : List (Option Expr)} {vs : List Expr} {sc : Scope} {pos : Pos} {X : Cx} {W : WX}, keysB ks kes = true → chkEs c.T N es sc vs = true → vs.all plB = true → vs.length = ks.length → Ok c k N sc X W → PPs X pos kes vs (trsOf c W ks es) ∧ ks.length = M.esLen es ∧ noStar es = true
  | .nil, ks, kes, vs, sc, pos, X, W, hk, h, hp, hlen, o => by
    cases vs with
    | cons _ _ => cases h
    | nil =>
      cases ks with
      | cons _ _ => cases hlen
      | nil =>
        have := (keysB_some hk).2
        cases kes with
        | cons _ _ => cases this
        | nil => exact ⟨pps_nil, rfl, rfl⟩
  | .cons e r, ks, kes, vs, sc, pos, X, W, hk, h, hp, hlen, o => by
    cases vs with
    | nil => cases h
    | cons v vs =>
      obtain ⟨h, h3⟩ := and2 (show (plB v && chkE c.T N e sc v && chkEs c.T N r sc vs) = true from h)
      obtain ⟨h1, h2⟩ := and2 h
      obtain ⟨_, hp2⟩ := and2 (show (plB v && vs.all plB) = true from hp)
      cases ks with
      | nil => cases hlen
      | cons kk ks =>
        unfold keysB at hk
        split at hk
        · cases ‹_ = []›
        · rename_i hole es' k' ks' y a b heq1
          injection heq1 with z1 z2
          subst z1 z2
          obtain ⟨g1, g2⟩ := and2 hk
          have g1 := of_decide_eq_true g1
          subst g1
          obtain ⟨p1, p2, p3⟩ := ppOk r (pos := pos) g2 h3 hp2 (Nat.succ.inj hlen) o
          exact ⟨pps_cons pe_str (peOk e h2 o).1 p1, by rw [List.length_cons, p2]; rfl, p3⟩
        · cases hk
  | .star e r, ks, kes, vs, sc, pos, X, W, hk, h, hp, hlen, o => by
    have h : (match (generalizing := false) vs with | .Starred e' _ :: r' => chkE c.T N e sc e' && chkEs c.T N r sc r' | _ => false) = true := h
    split at h
    · cases hp
    · cases h
theorem paOk : ∀ (es : M.Es) {sc : Scope} {ex : List Expr} {X : Cx} {W : WX}, chkEs c.T N es sc ex = true → Ok c k N sc X W → PA X ex (tEs c W es)
  | .nil, sc, ex, X, W, h, o => by
    cases ex with
    | nil => exact PA.imp pa_nil fun σ H Q ⟨ρ, S, Qd, Xd, hl, re, r, w, hq, hx⟩ => hq [] S [] H Fr.refl r .nil w
    | cons _ _ => cases h
  | .cons e r, sc, ex, X, W, h, o => by
    cases ex with
    | nil => cases h
    | cons e' r' =>
      obtain ⟨h, h3⟩ := and2 (show (plB e' && chkE c.T N e sc e' && chkEs c.T N r sc r') = true from h)
      obtain ⟨h1, h2⟩ := and2 h
      exact PA.imp (pa_cons (peOk e h2 o).1 (paOk r h3 o) (plB_star h1)) fun σ H Q ⟨ρ, S, Qd, Xd, hl, re, rr, w, hq, hx⟩ =>
        one_rel hl re rr w hx fun x S2 v H2 f r2 rx q => ⟨ρ, S2, _, Xd, hl, re.mono rr f, r2, q, fun ds S3 vs H3 f3 r3 rds q => hq _ _ _ _ (f.trans f3) r3 (.cons (rx.mono r2 f3) rds) q, hx.after f⟩
  | .star e r, sc, ex, X, W, h, o => by
    have h : (match (generalizing := false) ex with | .Starred e' _ :: r' => chkE c.T N e sc e' && chkEs c.T N r sc r' | _ => false) = true := h
    split at h
    · rename_i e' p r'
      obtain ⟨h1, h2⟩ := and2 h
      have eK := o.eK
      refine PA.imp (pa_star (r := fun v H Q => ∃ a vs, v = .ref a ∧ (SqL X.K H a vs ∨ SqT X.K H a vs) ∧ Q vs H) (fun v H Q q => q) (peOk e h1 o).1 (paOk r h2 o)) fun σ H Q ⟨ρ, S, Qd, Xd, hl, re, rr, w, hq, hx⟩ =>
        one_rel hl re rr w hx fun x S2 v H2 f r2 rx q => ?_
      obtain ⟨xs, e2, q⟩ := opt_of q
      obtain ⟨a, vs, ea, hs, rd⟩ := sqOf_rel r2 rx e2
      exact ⟨a, vs, ea, by rw [eK]; exact hs, ρ, S2, _, Xd, hl, re.mono rr f, r2, q, fun ds S3 us H3 f3 r3 rds q => hq _ _ _ _ (f.trans f3) r3 ((rd.mono r2 f3).append rds) q, hx.after f⟩
    · cases h
theorem pkOk : ∀ (es : M.Es) {sc : Scope} {kw : List Keyword} {X : Cx} {W : WX}, chkEs c.T N es sc (kw.map (·.value)) = true → (kw.map (·.value)).all plB = true → Ok c k N sc X W → PK X kw (tEs c W es)
  | .nil, sc, kw, X, W, h, hp, o => by
    cases kw with
    | nil => exact ⟨fun pos pins s σ H Q I ⟨ρ, S, Qd, Xd, hl, re, r, w, hq, hx⟩ => pk_nil.run pos pins s σ H Q I (hq [] S [] H Fr.refl r .nil w)⟩
    | cons _ _ => cases h
  | .cons e r, sc, kw, X, W, h, hp, o => by
    cases kw with
    | nil => cases h
    | cons kw r' =>
      obtain ⟨nm, e', kp⟩ := kw
      obtain ⟨h, h3⟩ := and2 (show (plB e' && chkE c.T N e sc e' && chkEs c.T N r sc (r'.map (·.value))) = true from h)
      obtain ⟨h1, h2⟩ := and2 h
      obtain ⟨_, hp2⟩ := and2 (show (plB e' && (r'.map (·.value)).all plB) = true from hp)
      exact ⟨fun pos pins s σ H Q I ⟨ρ, S, Qd, Xd, hl, re, rr, w, hq, hx⟩ => (pk_cons (peOk e h2 o).1 (pkOk r h3 hp2 o)).run pos pins s σ H Q I
        (one_rel hl re rr w hx fun x S2 v H2 f r2 rx q => ⟨ρ, S2, _, Xd, hl, re.mono rr f, r2, q, fun ds S3 vs H3 f3 r3 rds q => hq _ _ _ _ (f.trans f3) r3 (.cons (rx.mono r2 f3) rds) q, hx.after f⟩)⟩
  | .star e r, sc, kw, X, W, h, hp, o => by
    have h : (match (generalizing := false) kw.map (·.value) with | .Starred e' _ :: r' => chkE c.T N e sc e' && chkEs c.T N r sc r' | _ => false) = true := h
    split at h
    · rename_i heq
      rw [heq] at hp
      cases hp
    · cases h
theorem pnOk : ∀ (es : M.Es) {sc : Scope} {ex : List Expr} {T : Tb}, chkEs T N es sc ex = true → ex = [] → ∀ {c : Cn} {W : WX} σ H Q, tEs c W es σ H Q → Q [] H
  | .nil, sc, ex, T, h, e, c, W, σ, H, Q, ⟨ρ, S, Qd, Xd, hl, re, r, w, hq, hx⟩ => hq [] S [] H Fr.refl r .nil w
  | .cons _ _, sc, ex, T, h, e, c, W, σ, H, Q, _ => by subst e; cases h
  | .star _ _, sc, ex, T, h, e, c, W, σ, H, Q, _ => by subst e; cases h
theorem prOk : ∀ (es : M.Es) {sc : Scope} {ex : List Expr} {X : Cx} {W : WX}, chkR c.T N es sc ex = true → ex ≠ [] → Ok c k N sc X W → ∀ pos : Pos,
    (PE X (.BoolOp .And ex pos) (tR c W M.wpAnd es) ∧ PW X (.BoolOp .And ex pos) (tB (tR c W M.wpAnd es))) ∧ PE X (.BoolOp .Or ex pos) (tR c W M.wpOr es) ∧ PW X (.BoolOp .Or ex pos) (tB (tR c W M.wpOr es))
  | .nil, sc, ex, X, W, h, hne, o, pos => by
    cases ex with
    | nil => exact absurd rfl hne
    | cons _ _ => cases h
  | .star _ _, sc, ex, X, W, h, _, o, pos => nomatch h
  | .cons e r, sc, ex, X, W, h, hne, o, pos => by
    cases ex with
    | nil => exact absurd rfl hne
    | cons e' r' =>
      obtain ⟨h1, h2⟩ := and2 (show (chkE c.T N e sc e' && chkR c.T N r sc r') = true from h)
      obtain ⟨p1, p2⟩ := peOk e h1 o
      cases r' with
      | nil =>
        cases r with
        | nil =>
          have i1 : ∀ σ H Q, tR c W M.wpAnd (.cons e .nil) σ H Q → tE c W e σ H Q := fun σ H Q ⟨ρ, S, Qd, Xd, hl, re, rr, w, hq, hx⟩ => ⟨ρ, S, Qd, Xd, hl, re, rr, w, hq, hx⟩
          have i2 : ∀ σ H Q, tR c W M.wpOr (.cons e .nil) σ H Q → tE c W e σ H Q := fun σ H Q ⟨ρ, S, Qd, Xd, hl, re, rr, w, hq, hx⟩ => ⟨ρ, S, Qd, Xd, hl, re, rr, w, hq, hx⟩
          exact ⟨⟨PE.imp (pe_one p1) i1, ⟨fun wh pins s σ H Q I h => (pw_and1 p2).run wh pins s σ H Q I (i1 _ _ _ h)⟩⟩, PE.imp (pe_one p1) i2, ⟨fun wh pins s σ H Q I h => (pw_or1 p2).run wh pins s σ H Q I (i2 _ _ _ h)⟩⟩
        | cons _ _ => cases h2
        | star _ _ => cases h2
      | cons e2 r2 =>
        obtain ⟨⟨g1, g2⟩, g3, g4⟩ := prOk r h2 (by simp) o pos
        cases r with
        | nil => cases h2
        | star _ _ => cases h2
        | cons f r =>
          have rdA : ∀ {σ : Sl} {H : Hp} {Q : VK}, tR c W M.wpAnd (.cons e (.cons f r)) σ H Q → tE c W e σ H fun v H1 => ∃ b, v = .bl b ∧ if b = true then tR c W M.wpAnd (.cons f r) σ H1 Q else Q (.bl false) H1 := fun {σ H Q} ⟨ρ, S, Qd, Xd, hl, re, rr, w, hq, hx⟩ =>
            one_rel hl re rr w hx fun x S2 v H2 f r2 rx q => by
              obtain ⟨b, rfl, qt, qf⟩ := onB_of q
              cases rx
              refine ⟨b, rfl, ?_⟩
              cases b with
              | true => rw [if_pos rfl]; exact ⟨ρ, S2, Qd, Xd, hl, re.mono rr f, r2, qt rfl, hq.after f, hx.after f⟩
              | false => rw [if_neg Bool.false_ne_true]; exact (hq.after f).same r2 (.bl false) (qf rfl)
          have rdO : ∀ {σ : Sl} {H : Hp} {Q : VK}, tR c W M.wpOr (.cons e (.cons f r)) σ H Q → tE c W e σ H fun v H1 => ∃ b, v = .bl b ∧ if b = true then Q (.bl true) H1 else tR c W M.wpOr (.cons f r) σ H1 Q := fun {σ H Q} ⟨ρ, S, Qd, Xd, hl, re, rr, w, hq, hx⟩ =>
            one_rel hl re rr w hx fun x S2 v H2 f r2 rx q => by
              obtain ⟨b, rfl, qt, qf⟩ := onB_of q
              cases rx
              refine ⟨b, rfl, ?_⟩
              cases b with
              | false => rw [if_neg Bool.false_ne_true]; exact ⟨ρ, S2, Qd, Xd, hl, re.mono rr f, r2, qf rfl, hq.after f, hx.after f⟩
              | true => rw [if_pos rfl]; exact (hq.after f).same r2 (.bl true) (qt rfl)
          refine ⟨⟨PE.imp (pe_and p1 g1) fun σ H Q h => rdA h, ⟨fun wh pins s σ H Q I h => (pw_and p2 g2).run wh pins s σ H Q I ?_⟩⟩, PE.imp (pe_or p1 g3) fun σ H Q h => rdO h, ⟨fun wh pins s σ H Q I h => (pw_or p2 g4).run wh pins s σ H Q I ?_⟩⟩
          · obtain ⟨ρ, S, Qd, Xd, hl, re, rr, w, hq, hx⟩ := rdA h
            refine ⟨ρ, S, Qd, Xd, hl, re, rr, w, fun d S' v H' f r' rd' q => ?_, hx⟩
            obtain ⟨b, e, q⟩ := hq d S' v H' f r' rd' q
            refine ⟨b, e, ?_⟩
            cases b with
            | true => exact q
            | false =>
              obtain ⟨b', e', q⟩ := q
              cases e'
              exact q
          · obtain ⟨ρ, S, Qd, Xd, hl, re, rr, w, hq, hx⟩ := rdO h
            refine ⟨ρ, S, Qd, Xd, hl, re, rr, w, fun d S' v H' f r' rd' q => ?_, hx⟩
            obtain ⟨b, e, q⟩ := hq d S' v H' f r' rd' q
            refine ⟨b, e, ?_⟩
            cases b with
            | false => exact q
            | true =>
              obtain ⟨b', e', q⟩ := q
              cases e'
              exact q
theorem poOk : ∀ (oe : M.Oe) {sc : Scope} {ex : Option Expr} {X : Cx} {W : WX}, chkO c.T N oe sc ex = true → Ok c k N sc X W → PO X ex (tO c W oe) ∧ PTs X ex.toList (tCn c oe)
  | .none, sc, ex, X, W, h, o => by
    cases ex with
    | none => exact ⟨⟨fun pins s σ H Q I ⟨ρ, S, Qd, Xd, hl, re, r, w, hq, hx⟩ => po_none.run pins s σ H Q I (hq none S H Fr.refl r w)⟩, ⟨fun pins s σ H Q I ⟨ρ, S, Qd, hl, re, r, w, hq⟩ => pts_nil.run pins s σ H Q I (hq true S H Fr.refl r w)⟩⟩
    | some _ => cases h
  | .some e, sc, ex, X, W, h, o => by
    cases ex with
    | none => cases h
    | some e' =>
      obtain ⟨p1, p2⟩ := peOk e (show chkE c.T N e sc e' = true from h) o
      refine ⟨⟨fun pins s σ H Q I ⟨ρ, S, Qd, Xd, hl, re, r, w, hq, hx⟩ => (po_some p1).run pins s σ H Q I ?_⟩, ⟨fun pins s σ H Q I ⟨ρ, S, Qd, hl, re, r, w, hq⟩ => (pts_one p2).run pins s σ H Q I ?_⟩⟩
      · exact one_rel hl re r w hx fun x S2 v H2 f r2 rx q => by
          obtain ⟨i, rfl, q⟩ := onI_of q
          cases rx
          exact ⟨i, rfl, hq _ _ _ f r2 q⟩
      · refine ⟨ρ, S, _, M.X0, hl, re, r, w, fun x S2 v H2 f r2 rx q => ?_, okX0⟩
        obtain ⟨b, rfl, q⟩ := onB_of q
        cases rx
        exact ⟨b, rfl, hq _ _ _ f r2 q⟩
theorem piOk : ∀ (it : M.It) {sc : Scope} {ex tg : Expr} {X : Cx} {W : WX}, chkIt c.T N it sc ex (isTupB tg) = true → Ok c k N sc X W → PI X tg ex (tIt c W it)
  | .seq e, sc, ex, tg, X, W, h, o => by
    have eK := o.eK
    exact PI.imp (pi_seqM (peOk e (show chkE c.T N e sc ex = true from h) o).1) fun σ H R ⟨ρ, S, Rd, Xd, hl, re, r, w, hq, hx⟩ => one_rel hl re r w hx fun x S2 v H2 f r2 rx q => by rw [eK]; exact seq_rel r2 rx q (hq.after f)
  | .rng e, sc, ex, tg, X, W, h, o => by
    obtain ⟨p, es', pos, rfl, hm, hg, hd, ho⟩ := biCall_of (show biCall c.T sc "range" (one (chkE c.T N e sc)) ex = true from h)
    obtain ⟨e', rfl, hp, ho⟩ := one_of ho
    refine PI.imp (pi_range1 (o.gl hg) (o.free hm) (pa_cons (peOk e ho o).1 pa_nil (plB_star hp)) (plB_star hp)) fun σ H R ⟨ρ, S, Rd, Xd, hl, re, r, w, hq, hx⟩ => one_rel hl re r w hx fun x S2 v H2 f r2 rx q => ?_
    obtain ⟨j, rfl, q⟩ := onI_of q
    cases rx
    obtain ⟨_, _, q1, q2, q3⟩ := q
    refine ⟨j, rfl, q1, q2, (hq.after f).here r2 ?_ q3⟩
    have e0 : j.toNat = (j - 0).toNat := by rw [Int.sub_zero]
    rw [e0]
    exact mat_rng
  | .rng2 a b, sc, ex, tg, X, W, h, o => by
    obtain ⟨p, es', pos, rfl, hm, hg, hd, ho⟩ := biCall_of (show biCall c.T sc "range" (two (chkE c.T N a sc) (chkE c.T N b sc)) ex = true from h)
    obtain ⟨e1, e2, rfl, hp, hp2, h1, h2⟩ := two_of ho
    refine PI.imp (pi_range2 (o.gl hg) (o.free hm) (pa_cons (peOk a h1 o).1 (pa_cons (peOk b h2 o).1 pa_nil (plB_star hp2)) (plB_star hp)) (by rw [plB_star hp, plB_star hp2]; rfl) (plB_star hp2)) fun σ H R ⟨ρ, S, Rd, Xd, hl, re, r, w, hq, hx⟩ => two_rel hl re r w hx fun x y S2 v u H2 f r2 rx ry q => ?_
    obtain ⟨i, ei, q'⟩ := onI_of q
    obtain ⟨j, ej, q''⟩ := onI_of q'
    subst ei ej
    cases rx
    cases ry
    obtain ⟨q1, q2, q3, q4, q5⟩ := q''
    exact ⟨i, j, rfl, ⟨q1, q2, q3, q4⟩, (hq.after f).here r2 mat_rng q5⟩
  | .zip a b, sc, ex, tg, X, W, h, o => by
    obtain ⟨ht, h⟩ := and2 (show (isTupB tg && biCall c.T sc "zip" (two (chkE c.T N a sc) (chkE c.T N b sc)) ex) = true from h)
    obtain ⟨ts, tk, tp, rfl⟩ := tupB_of ht
    obtain ⟨p, es', pos, rfl, hm, hg, hd, ho⟩ := biCall_of h
    obtain ⟨e1, e2, rfl, hp, hp2, h1, h2⟩ := two_of ho
    have eK := o.eK
    refine PI.imp (pi_zipM (o.gl hg) (o.free hm) (pa_cons (peOk a h1 o).1 (pa_cons (peOk b h2 o).1 pa_nil (plB_star hp2)) (plB_star hp)) (plB_star hp) (plB_all (es := [_]) (by show (plB _ && true) = true; rw [hp2]; rfl))) fun σ H R ⟨ρ, S, Rd, Xd, hl, re, r, w, hq, hx⟩ => two_rel hl re r w hx fun x y S2 v u H2 f r2 rx ry q => ?_
    rw [eK]
    rcases zip_cases q with ⟨xs, ys, rfl, rfl, q⟩ | ⟨a, ys, rfl, rfl, q⟩ | q
    · cases rx with
      | tup a1 a2 => cases ry with
        | tup b1 b2 => exact ⟨_, _, .tup _, .tup _, _, _, rfl, rfl, rfl, a1, b1, (hq.after f).here r2 (mat_zipM (fun _ _ f' _ _ => ⟨_, sqt_mono r2 f' a1, a2.mono r2 f'⟩) fun _ _ f' _ _ => ⟨_, sqt_mono r2 f' b1, b2.mono r2 f'⟩) q⟩
    · cases rx with
      | str a => cases ry with
        | tup b1 b2 => exact ⟨_, _, .txt _, .tup _, _, _, rfl, rfl, rfl, rfl, b1, (hq.after f).here r2 (mat_zipM (fun _ _ _ _ _ => ⟨_, rfl, chrs_rel a⟩) fun _ _ f' _ _ => ⟨_, sqt_mono r2 f' b1, b2.mono r2 f'⟩) q⟩
    · obtain ⟨xs, ex, q⟩ := opt_of q
      obtain ⟨ys, ey, q⟩ := opt_of q
      obtain ⟨p1, vs, rfl, hs, _⟩ := lsOf_rel r2 rx ex
      obtain ⟨p2, us, rfl, hs2, _⟩ := lsOf_rel r2 ry ey
      exact ⟨_, _, .lst p1, .lst p2, vs, us, rfl, rfl, rfl, hs, hs2, (hq.after f).here r2 (mat_zipM (fun _ _ f' r' ch => ls_at r2 f' r' rx ch.1) fun _ _ f' r' ch => ls_at r2 f' r' ry ch.2) q⟩
  | .zip3 a b d, sc, ex, tg, X, W, h, o => by
    obtain ⟨ht, h⟩ := and2 (show (isTupB tg && biCall c.T sc "zip" (three (chkE c.T N a sc) (chkE c.T N b sc) (chkE c.T N d sc)) ex) = true from h)
    obtain ⟨ts, tk, tp, rfl⟩ := tupB_of ht
    obtain ⟨p, es', pos, rfl, hm, hg, hd, ho⟩ := biCall_of h
    obtain ⟨e1, e2, e3, rfl, hp, hp2, hp3, h1, h2, h3⟩ := three_of ho
    have eK := o.eK
    refine PI.imp (pi_zip3 (o.gl hg) (o.free hm) (pa_cons (peOk a h1 o).1 (pa_cons (peOk b h2 o).1 (pa_cons (peOk d h3 o).1 pa_nil (plB_star hp3)) (plB_star hp2)) (plB_star hp)) (plB_star hp) (plB_all (es := [_, _]) (by show (plB _ && (plB _ && true)) = true; rw [hp2, hp3]; rfl))) fun σ H R ⟨ρ, S, Rd, Xd, hl, re, r, w, hq, hx⟩ => three_rel hl re r w hx fun x y z S2 v u t H2 f r2 rx ry rz q => ?_
    rw [eK]
    have q : M.zip3D x y z S2 Rd := q
    unfold M.zip3D at q
    split at q
    · cases rx with
      | tup a1 a2 => cases ry with
        | tup b1 b2 => cases rz with
          | tup c1 c2 => exact ⟨_, _, _, .tup _, .tup _, .tup _, _, _, _, rfl, rfl, rfl, rfl, a1, b1, c1, (hq.after f).here r2 (mat_zip3 (fun _ _ f' _ _ => ⟨_, sqt_mono r2 f' a1, a2.mono r2 f'⟩) (fun _ _ f' _ _ => ⟨_, sqt_mono r2 f' b1, b2.mono r2 f'⟩) fun _ _ f' _ _ => ⟨_, sqt_mono r2 f' c1, c2.mono r2 f'⟩) q⟩
    · exact False.elim q
  | .enum e, sc, ex, tg, X, W, h, o => by
    obtain ⟨ht, h⟩ := and2 (show (isTupB tg && biCall c.T sc "enumerate" (one (chkE c.T N e sc)) ex) = true from h)
    obtain ⟨ts, tk, tp, rfl⟩ := tupB_of ht
    obtain ⟨p, es', pos, rfl, hm, hg, hd, ho⟩ := biCall_of h
    obtain ⟨e', rfl, hp, ho⟩ := one_of ho
    have eK := o.eK
    refine PI.imp (pi_enum (o.gl hg) (o.free hm) (pa_cons (peOk e ho o).1 pa_nil (plB_star hp)) (plB_star hp)) fun σ H R ⟨ρ, S, Rd, Xd, hl, re, r, w, hq, hx⟩ => one_rel hl re r w hx fun x S2 v H2 f r2 rx q => ?_
    obtain ⟨xs, ex, q⟩ := opt_of q
    obtain ⟨p1, vs, rfl, hs, _⟩ := lsOf_rel r2 rx ex
    rw [eK]
    exact ⟨p1, vs, rfl, hs, (hq.after f).here r2 (mat_enum r2 rx) q⟩
/-- what is walked while an error is handled -/
theorem pihOk : ∀ (it : M.It) {sc : Scope} {ex tg : Expr} {X : Cx} {W : WX}, chkIt c.T N it sc ex (isTupB tg) = true → Ok c k N sc X W → PIX X tg ex (tItH c W it)
  | .seq e, sc, ex, tg, X, W, h, o => by
    have eK := o.eK
    exact PIX.imp (pix_list (peOk e (show chkE c.T N e sc ex = true from h) o).1) fun σ H R ⟨ρ, S, Rd, Xd, hl, re, r, w, hq, hx⟩ => one_rel hl re r w hx fun x S2 v H2 f r2 rx q => by rw [eK]; exact lst_rel r2 rx q (hq.after f)
  | .rng e, sc, ex, tg, X, W, h, o => by
    obtain ⟨p, es', pos, rfl, hm, hg, hd, ho⟩ := biCall_of (show biCall c.T sc "range" (one (chkE c.T N e sc)) ex = true from h)
    obtain ⟨e', rfl, hp, ho⟩ := one_of ho
    refine PIX.imp (pix_range (o.gl hg) (o.free hm) (pa_cons (peOk e ho o).1 pa_nil (plB_star hp)) (plB_star hp)) fun σ H R ⟨ρ, S, Rd, Xd, hl, re, r, w, hq, hx⟩ => one_rel hl re r w hx fun x S2 v H2 f r2 rx q => ?_
    obtain ⟨j, rfl, q⟩ := onI_of q
    cases rx
    obtain ⟨_, _, q1, q2, q3⟩ := q
    refine ⟨j, rfl, q1, q2, (hq.after f).here r2 ?_ q3⟩
    have e0 : j.toNat = (j - 0).toNat := by rw [Int.sub_zero]
    rw [e0]
    exact mat_rng
  | .rng2 a b, sc, ex, tg, X, W, h, o => ⟨fun pins s σ H R I ⟨_, _, _, _, _, _, _, w, _⟩ => False.elim w⟩
  | .zip a b, sc, ex, tg, X, W, h, o => ⟨fun pins s σ H R I ⟨_, _, _, _, _, _, _, w, _⟩ => False.elim w⟩
  | .zip3 a b d, sc, ex, tg, X, W, h, o => ⟨fun pins s σ H R I ⟨_, _, _, _, _, _, _, w, _⟩ => False.elim w⟩
  | .enum e, sc, ex, tg, X, W, h, o => ⟨fun pins s σ H R I ⟨_, _, _, _, _, _, _, w, _⟩ => False.elim w⟩
end
end
end Snd
namespace Snd
open PySem PySem.Spec PyProof.Rows L2
def isStar : Expr → Bool
  | .Starred .. => true | _ => false
def swName (sc : Scope) (line : Nat) : Expr → Option Str
  | .Name id pos => if sc.names.lookup id == some .local && pos.line == line then some id else none
  | _ => none
def swTup (sc : Scope) (ts vs : List Expr) : Option (Option (List Str)) :=
    if (!(ts.length == 2 || ts.length == 3) || vs.length != ts.length) = true then some none
    else if vs.any isStar = true then some none
    else if ((ts.filterMap (swName sc ((ts.head?.map (·.pos.line)).getD 0))).length != ts.length || (ts.filterMap (swName sc ((ts.head?.map (·.pos.line)).getD 0))).eraseDups.length != (ts.filterMap (swName sc ((ts.head?.map (·.pos.line)).getD 0))).length) = true then some none
      else if vs.all (foldedForSure 8) = true then some none
      else if vs.all (constantsAlone 8) = true then none
      else some (some (ts.filterMap (swName sc ((ts.head?.map (·.pos.line)).getD 0))))
theorem sw_ok {env : Env} {ts vs : List Expr} {k k2 : Nat} {p p2 : Pos} {r : Option (List Str)} (hk : env.scope.kind = .function) (h : swTup env.scope ts vs = some r) : swappedStores [.Tuple ts k p] (.Tuple vs k2 p2) env = pure r := by
  have hb : env.blockKind = .function := by unfold Env.blockKind; rw [hk]; rfl
  have e1 : ∀ F : Expr → Bool, (∀ x, F x = isStar x) → vs.any F = vs.any isStar := fun F h => by rw [funext h]
  have e2 : ∀ (line : Nat) (F : Expr → Option Str), (∀ x, F x = swName env.scope line x) → ts.filterMap F = ts.filterMap (swName env.scope line) := fun line F h => by rw [funext h]
  unfold swappedStores
  unfold swTup at h
  simp only [hb, bne_self_eq_false, Bool.or_false]
  split at h
  · rename_i h1
    cases h
    rw [if_pos h1]
  · rename_i h1
    rw [if_neg h1]
    split at h
    · rename_i h2
      cases h
      rw [if_pos ((e1 _ (by intro x; cases x <;> rfl)).trans h2)]
    · rename_i h2
      rw [if_neg (fun z => h2 ((e1 _ (by intro x; cases x <;> rfl)).symm.trans z))]
      rw [e2 ((ts.head?.map (·.pos.line)).getD 0) _ (by intro x; cases x <;> rfl)]
      split at h
      · rename_i h3
        cases h
        exact if_pos h3
      · rename_i h3
        rw [if_neg h3]
        split at h
        · rename_i h4
          cases h
          exact if_pos h4
        · rename_i h4
          rw [if_neg h4]
          split at h
          · cases h
          · rename_i h5
            cases h
            rw [if_neg h5]
def notComp : Expr → Bool
  | .ListComp .. => false | .SetComp .. => false | .DictComp .. => false | _ => true
def notTup : Expr → Bool
  | .Tuple .. => false | _ => true
/-- a comprehension on the name's own line, the name a local: the stores are exchanged -/
def swC (sc : Scope) (e tg : Expr) : Bool := match e, tg with
  | .ListComp _ _ scope pos, .Name t p => locB sc t && (p.line == pos.line) && !(scope.names.any fun (n, k) => n == t && (k == .local || k == .cell))
  | _, _ => false
theorem swapsWith_not {e : Expr} {tg : Option Expr} {l : Nat} {env : Env} (h : notComp e = true) : swapsWith e tg l env = pure false := by
  cases e <;> first | rfl | cases h
theorem swapsSole_not {e tg : Expr} {l : Nat} {env : Env} (h : notComp e = true) : swapsWithSole [tg] e l env = pure false := swapsWith_not h
/-- what a set's value and target may be: no exchange of stores -/
def setB (sc : Scope) (e tg : Expr) : Bool := match tg with
  | .Name t p => (match e with
    | .ListComp _ _ scope pos => !(locB sc t && (p.line == pos.line) && !(scope.names.any fun (n, k) => n == t && (k == .local || k == .cell)))
    | e => notComp e)
  | .Tuple ts _ _ => (match e with
    | .Tuple vs _ _ => decide (swTup sc ts vs = some none)
    | .ListComp .. => true
    | e => notComp e)
  | _ => false
theorem set_sw {env : Env} {e tg : Expr} {l : Nat} (hk : env.scope.kind = .function) (h : setB env.scope e tg = true) : swapsWithSole [tg] e l env = pure false ∧ swappedStores [tg] e env = pure none := by
  have hb : env.blockKind = .function := by unfold Env.blockKind; rw [hk]; rfl
  cases tg with
  | Name t p =>
    refine ⟨?_, by cases e <;> rfl⟩
    cases e with
    | ListComp elt gs scope pos =>
      have h := not1 (show (!(locB env.scope t && (p.line == pos.line) && !(scope.names.any fun (n, k) => n == t && (k == .local || k == .cell)))) = true from h)
      have e1 : locB env.scope t = (env.kindOf t == some .local) := by
        unfold locB Env.kindOf
        cases e2 : env.scope.names.lookup t with
        | none => rfl
        | some q => cases q <;> rfl
      rw [e1] at h
      show swapsWith (.ListComp elt gs scope pos) (some (.Name t p)) l env = pure false
      unfold swapsWith
      simp only [hb, Expr.pos]
      have hf : ((ScopeKind.function == ScopeKind.function) && (env.kindOf t == some .local) && (p.line == pos.line) && !(scope.names.any fun (n, k) => n == t && (k == .local || k == .cell))) = false := by
        rw [show (ScopeKind.function == ScopeKind.function) = true from rfl, Bool.true_and]; exact h
      first
        | (show pure _ = pure false; exact congrArg pure hf)
        | (rw [hf])
        | (simp only [hf])
    | _ => first | exact swapsSole_not h | cases h
  | Tuple ts k p =>
    cases e with
    | Tuple vs k2 p2 => exact ⟨swapsSole_not rfl, sw_ok hk (of_decide_eq_true h)⟩
    | ListComp elt gs scope pos => exact ⟨rfl, rfl⟩
    | _ => first | exact ⟨swapsSole_not h, rfl⟩ | cases h
  | _ => cases h
end Snd
namespace Snd
open PySem PySem.Spec PyProof.Rows L2
def lineB (e tg : Expr) : Bool := match e, tg with
  | .ListComp _ _ _ pos, .Name _ p => p.line == pos.line
  | _, _ => false
/-- names side by side, all plain locals, on one line: stored from the right -/
def parB (N : List Str) (sc : Scope) (is : List Nat) (ts vs : List Expr) : Bool :=
  namesAt N (locB sc) is ts && decide is.Nodup && vs.all plB && decide (swTup sc ts vs = some (some (is.filterMap fun i => N[i]?)))
def compV : M.Tg → Expr → Bool
  | .v _, .ListComp _ [_] _ _ => true
  | _, _ => false
theorem compV_of {t : M.Tg} {e : Expr} (h : compV t e = true) : ∃ i elt g0 scope p0, t = .v i ∧ e = .ListComp elt [g0] scope p0 := by
  unfold compV at h
  split at h
  · exact ⟨_, _, _, _, _, rfl, rfl⟩
  · cases h
theorem sub_asg {o i : Expr} {pos : Pos} {env : Env} (h : plB i = true) : ∀ v, assign (.Subscript o i pos) env v = (do
      let ov ← holding [v] (eval o env)
      let iv ← holding [v, ov] (eval i env)
      standAt pos
      holding [v, ov, iv] (setItem ov iv v)
      release [v, ov, iv] []) := by
  cases i <;> first | (intro _; rfl) | cases h
def isNilEs : M.Es → Bool
  | .nil => true
  | _ => false
def isVT : M.Tg → Bool
  | .v _ => true
  | _ => false
mutual
def chkS (T : Tb) (N : List Str) : M.St → Scope → Stmt → Bool
  | .set t e => fun sc st => (match st with
    | .Assign [tg] e' _ => (!T.hot || isVT t) && chkTg N (locCB sc) t tg && chkE T N e sc e' && (setB sc e' tg || (compV t e' && (!T.hot && swC sc e' tg)))
    | _ => false)
  | .par i j a b => fun sc st => (match st with
    | .Assign [.Tuple [x, y] _ _] (.Tuple [a', b'] _ _) _ => !T.hot && parB N sc [i, j] [x, y] [a', b'] && chkE T N a sc a' && chkE T N b sc b'
    | _ => false)
  | .par3 i j l a b d => fun sc st => (match st with
    | .Assign [.Tuple [x, y, z] _ _] (.Tuple [a', b', d'] _ _) _ => !T.hot && parB N sc [i, j, l] [x, y, z] [a', b', d'] && chkE T N a sc a' && chkE T N b sc b' && chkE T N d sc d'
    | _ => false)
  | .nev => fun _ _ => true
  | .six a i e => fun sc st => (match st with
    | .Assign [.Subscript a' i' _] e' _ => plB i' && notComp e' && chkE T N a sc a' && chkE T N i sc i' && chkE T N e sc e'
    | _ => false)
  | .fset n a e => fun sc st => (match st with
    | .Assign [.Attribute a' nm _] e' _ => decide (nm = stx n) && decide (n ∈ T.fds) && notComp e' && chkE T N a sc a' && chkE T N e sc e'
    | _ => false)
  | .psx a i j e => fun sc st => (match st with
    | .Assign [.Tuple [.Subscript a' i' ps, y] _ _] (.Tuple vs k2 p2) _ => !T.hot && plB i' && nameAt N (locCB sc) j y && decide (swTup sc [.Subscript a' i' ps, y] vs = some none) && chkE T N a sc a' && chkE T N i sc i' && chkE T N e sc (.Tuple vs k2 p2)
    | _ => false)
  | .ex e => fun sc st => (match st with | .Expr e' _ => notComp e' && chkE T N e sc e' | _ => false)
  | .ret e => fun sc st => (match st with | .Return (some e') _ => chkE T N e sc e' | _ => false)
  | .retn => fun sc st => (match st with | .Return none _ => true | _ => false)
  | .if_ g a b => fun sc st => (match st with | .If g' a' b' _ => chkE T N g sc g' && chkSs T N a sc a' && chkSs T N b sc b' | _ => false)
  | .while_ g b => fun sc st => (match st with | .While g' b' [] _ => !T.hot && chkE T N g sc g' && chkSs T N b sc b' | _ => false)
  | .for_ t it b => fun sc st => (match st with | .For tg it' b' [] _ => !T.hot && chkTg N (locCB sc) t tg && noSet it' && chkIt T N it sc it' (isTupB tg) && chkSs T N b sc b' | _ => false)
  | .brk => fun sc st => (match st with | .Break _ => true | _ => false)
  | .pass => fun sc st => (match st with | .Pass _ => true | _ => false)
  | .raisef cc n e => fun sc st => (match st with
    | .Raise (some (.Call (.Name x _) [e'] [] _)) none _ => !T.hot && decide ((cc, n) ∈ T.xin) && decide (cc < T.nr) && decide (T.cls[cc]? = some x) && glB sc x && !dbgB x && plB e' && chkE T N e sc e'
    | _ => false)
  | .raise c es => fun sc st => (match st with
    | .Raise (some (.Call (.Name x _) [] [] _)) none _ => !T.hot && !T.xin.any (fun e => e.1 == c) && isNilEs es && decide (c < T.nr) && decide (T.cls[c]? = some x) && glB sc x && !dbgB x
    | _ => false)
  | .try_ b c i h => fun sc st => (match st with
    | .Try body [.ExceptHandler (some (.Name x _)) (some n) (s0 :: suite) _] [] [] _ => !T.hot && decide (N[i]? = some n) && locB sc n && decide (T.cls[c]? = some x) && glB sc x && !dbgB x && chkSs T N b sc body && chkSs { T with hot := true } N h sc (s0 :: suite)
    | _ => false)
def chkSs (T : Tb) (N : List Str) : M.Ss → Scope → List Stmt → Bool
  | .nil => fun sc st => st.isEmpty
  | .cons s r => fun sc st => (match st with | s' :: r' => chkS T N s sc s' && chkSs T N r sc r' | [] => false)
end
/-- what is wanted of a statement -/
structure OkK (c : Cn) (W : WX) (S : M.Sto) (H : Hp) (Kd : M.Kt) (D : Ends) : Prop where
  nx : ∀ ρ' S' σ' H', Fr S H S' H' → RelS c.K H' S' → RelE c.K H' ρ' σ' → ρ'.length = σ'.length → Kd.nx ρ' S' → D.nx σ' H'
  rt : OkV c.K S H Kd.rt D.rt
  bk : ∀ ρ' S' σ' H', Fr S H S' H' → RelS c.K H' S' → RelE c.K H' ρ' σ' → ρ'.length = σ'.length → Kd.bk ρ' S' → D.bk σ' H'
  xe : ∀ k fs ρ' S' σ' H' cls d, Fr S H S' H' → RelS c.K H' S' → RelE c.K H' ρ' σ' → ρ'.length = σ'.length → RelX c.K c.mg c.T k fs cls d H' → Kd.xe k fs ρ' S' → W cls d σ' H'
theorem OkK.after {c : Cn} {W : WX} {S S' : M.Sto} {H H' : Hp} {Kd : M.Kt} {D : Ends} (h : OkK c W S H Kd D) (f : Fr S H S' H') : OkK c W S' H' Kd D :=
  ⟨fun _ _ _ _ f2 => h.nx _ _ _ _ (f.trans f2), h.rt.after f, fun _ _ _ _ f2 => h.bk _ _ _ _ (f.trans f2), fun _ _ _ _ _ _ _ _ f2 => h.xe _ _ _ _ _ _ _ _ (f.trans f2)⟩
theorem OkK.ox {c : Cn} {W : WX} {S : M.Sto} {H : Hp} {Kd : M.Kt} {D : Ends} (h : OkK c W S H Kd D) {ρ : M.Env} {σ : Sl} (re : RelE c.K H ρ σ) (hl : ρ.length = σ.length) (r : RelS c.K H S) :
    OkX c S H (fun k fs S1 => Kd.xe k fs ρ S1) fun cls d H' => W cls d σ H' := fun k fs S' H' cls d f r' rx q => h.xe k fs ρ S' σ H' cls d f r' (re.mono r f) hl rx q
def tS (c : Cn) (W : WX) (st : M.St) : TS := fun D σ H => ∃ ρ S Kd, ρ.length = σ.length ∧ RelE c.K H ρ σ ∧ RelS c.K H S ∧ M.wpS c.G st ρ S Kd ∧ OkK c W S H Kd D
def tSs (c : Cn) (W : WX) (st : M.Ss) : TS := fun D σ H => ∃ ρ S Kd, ρ.length = σ.length ∧ RelE c.K H ρ σ ∧ RelS c.K H S ∧ M.wpSs c.G st ρ S Kd ∧ OkK c W S H Kd D
theorem PS.imp {X : Cx} {e : Stmt} {t t' : TS} (h : PS X e t) (i : ∀ D σ H, t' D σ H → t D σ H) : PS X e t' := ⟨fun pins s σ H D I q => h.run pins s σ H D I (i D σ H q)⟩
theorem PSs.imp {X : Cx} {e : List Stmt} {t t' : TS} (h : PSs X e t) (i : ∀ D σ H, t' D σ H → t D σ H) : PSs X e t' := ⟨fun pins s σ H D I q => h.run pins s σ H D I (i D σ H q)⟩
/-- a def's body's context -/
structure OkS (c : Cn) (k : Nat) (N : List Str) (sc : Scope) (X : Cx) (W : WX) : Prop where
  ok : Ok c k N sc X W
  kind : sc.kind = .function
  fn : ∀ x, locCB sc x = true → X.fn x = true
  po : c.T.hot = false → PassesOwn (model X.prog X.w) X.A X.env X.xe
  stk : X.stack = X.env :: X.outer
  frm : X.env.frame = some X.env.locals
  exn : X.ex = []
section
variable {k : Nat} {N : List Str}
theorem tgt_of {c : Cn} {sc : Scope} {X : Cx} {W : WX} (o : OkS c k N sc X W) {t : M.Tg} {tg : Expr} (hv : (!c.T.hot || isVT t) = true) (h : chkTg N (locCB sc) t tg = true) : PG X tg (tgG c.K t) := by
  have q := pgOk (X := X) (t := t) (e := tg) (ok := locCB sc) (fun hn => o.ok.calm' (by
    rcases Bool.or_eq_true_iff.mp hv with z | z
    · exact z
    · cases t with
      | v i => exact absurd rfl (hn i)
      | tup _ => cases z
      | nest _ _ => cases z)) (by rw [o.ok.eN]; exact o.ok.nd) (fun x hx => by rw [o.ok.es]; exact ⟨locC_of hx, .inl (o.fn x hx)⟩) (by rw [o.ok.eN]; exact h)
  rw [o.ok.eK] at q
  exact q
theorem asg_ok {c : Cn} {W : WX} {e : M.Ex} {t : M.Tg} {D : Ends} {σ : Sl} {H : Hp} (h : tS c W (.set t e) D σ H) : tAsg (tE c W e) (tgG c.K t) D σ H := by
  obtain ⟨ρ, S, Kd, hl, re, r, w, ok⟩ := h
  refine one_rel hl re r w (ok.ox re hl r) fun x S2 v H2 f r2 rx q => ?_
  exact asg_rel r2 hl (re.mono r f) rx q fun ρ' σ' l1 l2 re' _ q => ok.nx _ _ _ _ f r2 re' l1 q
theorem name3 {N : List Str} {ok : Str → Bool} {i : Nat} {e : Expr} (h : nameAt N ok i e = true) : ∃ x p, e = .Name x p ∧ N[i]? = some x ∧ ok x = true := by
  obtain ⟨x, p, a, b, d, _⟩ := name_of h
  exact ⟨x, p, a, b, d⟩
mutual
theorem psOk : ∀ (st : M.St) {c : Cn} {sc : Scope} {ex : Stmt} {X : Cx} {W : WX}, chkS c.T N st sc ex = true → OkS c k N sc X W → PS X ex (tS c W st)
  | .set t e, c, sc, ex, X, W, h, o => by
    have h : (match (generalizing := false) ex with
      | .Assign [tg] e' _ => (!c.T.hot || isVT t) && chkTg N (locCB sc) t tg && chkE c.T N e sc e' && (setB sc e' tg || (compV t e' && (!c.T.hot && swC sc e' tg)))
      | _ => false) = true := h
    split at h
    · rename_i tg e' pos hh
      obtain ⟨h, h3⟩ := and2 h
      obtain ⟨h, h2⟩ := and2 h
      obtain ⟨hvt, h1⟩ := and2 h
      rcases Bool.or_eq_true_iff.mp h3 with h3 | h3
      · obtain ⟨w1, w2⟩ := set_sw (env := X.env) (l := pos.line) (by rw [o.ok.es]; exact o.kind) (by rw [o.ok.es]; exact h3)
        exact PS.imp (ps_asg (peOk e h2 o.ok).1 (tgt_of o hvt h1) w1 w2 (by cases tg <;> first | rfl | cases h1 | (cases t <;> cases h1))) fun D σ H h => asg_ok h
      · obtain ⟨hv, h31⟩ := and2 h3
        obtain ⟨hnh, h33⟩ := and2 h31
        · obtain ⟨i, elt, g0, scope, p0, rfl, rfl⟩ := compV_of hv
          cases e with
          | comp e0 t0 it oc =>
            have h2 : (match (generalizing := false) Expr.ListComp elt [g0] scope p0 with
              | .ListComp e' [⟨tg, it', ifs, k⟩] scope _ => !c.T.hot && decide (k = 0) && blkC N sc scope (ownOf N (M.tgs t0)) && decide ((ownOf N (M.tgs t0)).map (·.2) = M.tgs t0) && decide (M.tgs t0).Nodup && noSet it' && chkIt c.T N it sc it' (isTupB tg) && chkTg N (tgB scope sc) t0 tg
                  && (match ifs with | [] => chkO c.T N oc (relS scope sc) none | [d] => chkO c.T N oc (relS scope sc) (some d) | _ => false) && chkE c.T N e0 (relS scope sc) e'
              | _ => false) = true := h2
            obtain ⟨tg0, it', ifs, k0⟩ := g0
            obtain ⟨h, g9⟩ := and2 h2
            obtain ⟨h, g8⟩ := and2 h
            obtain ⟨h, g7⟩ := and2 h
            obtain ⟨h, g6⟩ := and2 h
            obtain ⟨h, g5⟩ := and2 h
            obtain ⟨h, g4⟩ := and2 h
            obtain ⟨h, g3⟩ := and2 h
            obtain ⟨h, g2⟩ := and2 h
            obtain ⟨hcal, g1⟩ := and2 h
            have e0' := of_decide_eq_true g1
            subst e0'
            have eo : (ownOf N (M.tgs t0)).map (·.2) = M.tgs t0 := of_decide_eq_true g3
            obtain ⟨y, py, rfl, a1, a2⟩ := name3 (show nameAt N (locCB sc) i tg = true from h1)
            obtain ⟨b, b3⟩ := and2 (show (locB sc y && (py.line == p0.line) && !(scope.names.any fun (n, k) => n == y && (k == .local || k == .cell))) = true from h33)
            obtain ⟨b1, b2⟩ := and2 b
            have hy : X.env.scope.names.lookup y = some .local := by rw [o.ok.es]; exact loc_of b1
            have hpe : PS X (.Assign [.Name y py] (.ListComp elt [⟨tg0, it', ifs, 0⟩] scope p0) pos) (tAsg (tLc (tIt c W it) (tgG c.K t0) (tCn c oc) (tE c W0 e0) ((ownOf N (M.tgs t0)).map (·.2))) (gName i)) := by
              refine ps_setLc (o.ok.calm' hcal) (by rw [o.ok.eN]; exact o.ok.nd) (o.ok.var a1) hy (sw_true (by rw [o.ok.es]; exact o.kind) hy b2 (not1 b3)) (piOk it g6 o.ok) (by rw [o.ok.eN, o.ok.es]; exact blkOk_by g2) (fun s H C cl fp => ?_) (fun s H C cl fp => ?_) (fun s H C cl fp => ?_) (folded_of g5)
              · have ob := o.ok.blk s H scope C cl fp
                have q := pgOk (X := X.blk s H scope (compEnvC scope cl C X.env) fp) (t := t0) (e := tg0) (ok := tgB scope sc) (fun _ => ob.calm' hcal) (by rw [ob.eN]; exact ob.nd) (fun x hx => by rw [ob.es]; exact tgB_of hx) (by rw [ob.eN]; exact g7)
                rw [ob.eK] at q
                exact q
              · have ob := o.ok.blk s H scope C cl fp
                split at g8
                · exact (poOk oc g8 ob).2
                · exact (poOk oc g8 ob).2
                · cases g8
              · exact (peOk e0 g9 (o.ok.blk s H scope C cl fp)).1
            refine PS.imp hpe fun D σ H h => ?_
            obtain ⟨ρ, S, Kd, hl, re, r, w, ok⟩ := h
            refine ⟨ρ, S, _, _, hl, re, r, w, fun items chk S1 H1 J f1 r1 m q => ?_, ok.ox re hl r⟩
            rw [eo]
            refine comp_rel (Q := fun x H1 => gName i x σ H1 D.nx) hl (re.mono r f1) r1 m q.1 (fun d S2 v H2 f2 r2 rx q => ?_) q.2
            exact asg_rel r2 (t := .v i) hl ((re.mono r f1).mono r1 f2) rx q fun ρ' σ' l1 l2 re' _ q => ok.nx _ _ _ _ (f1.trans f2) r2 re' l1 q
          | comph i0 e0 t0 it oc =>
            obtain ⟨tg0, it', ifs, k0⟩ := g0
            obtain ⟨h, _⟩ := and2 h2
            obtain ⟨h, _⟩ := and2 h
            obtain ⟨h, _⟩ := and2 h
            obtain ⟨h, _⟩ := and2 h
            obtain ⟨h, _⟩ := and2 h
            obtain ⟨h, _⟩ := and2 h
            obtain ⟨h, _⟩ := and2 h
            obtain ⟨h, _⟩ := and2 h
            obtain ⟨h, _⟩ := and2 h
            obtain ⟨h, _⟩ := and2 h
            rw [h] at hnh
            cases hnh
          | _ => first | cases h2 | exact absurd h2 (by simp [chkE, nameAt, biCall])
    · cases h
  | .par i j a b, c, sc, ex, X, W, h, o => by
    have h : (match (generalizing := false) ex with
      | .Assign [.Tuple [x, y] _ _] (.Tuple [a', b'] _ _) _ => !c.T.hot && parB N sc [i, j] [x, y] [a', b'] && chkE c.T N a sc a' && chkE c.T N b sc b'
      | _ => false) = true := h
    split at h
    · rename_i x y kt pt a' b' k2 pt2 pos hh
      obtain ⟨h, h3⟩ := and2 h
      obtain ⟨h, h2⟩ := and2 h
      obtain ⟨hcal, h1⟩ := and2 h
      obtain ⟨g, g4⟩ := and2 h1
      obtain ⟨g, g3⟩ := and2 g
      obtain ⟨g1, g2⟩ := and2 g
      obtain ⟨n1, n2⟩ := and2 (show (nameAt N (locB sc) i x && namesAt N (locB sc) [j] [y]) = true from g1)
      obtain ⟨n2, _⟩ := and2 (show (nameAt N (locB sc) j y && namesAt N (locB sc) [] []) = true from n2)
      obtain ⟨x, px, rfl, ix, lx⟩ := name3 n1
      obtain ⟨y, py, rfl, iy, ly⟩ := name3 n2
      obtain ⟨p1, p2⟩ := and2 (show (plB a' && [b'].all plB) = true from g3)
      obtain ⟨p2, _⟩ := and2 (show (plB b' && [].all plB) = true from p2)
      have hne : i ≠ j := fun e => by
        have nd : [i, j].Nodup := of_decide_eq_true g2
        subst e
        simp at nd
      have hw := sw_ok (env := X.env) (k := kt) (p := pt) (k2 := k2) (p2 := pt2) (by rw [o.ok.es]; exact o.kind) (by rw [o.ok.es]; exact of_decide_eq_true g4)
      have en : ([i, j].filterMap fun i => N[i]?) = [x, y] := by
        rw [List.filterMap_cons_some ix, List.filterMap_cons_some iy]; rfl
      rw [en] at hw
      refine PS.imp (ps_par (o.ok.calm' hcal) (by rw [o.ok.eN]; exact o.ok.nd) (o.ok.var ix) (o.ok.var iy) hne (by rw [o.ok.es]; exact loc_of lx) (by rw [o.ok.es]; exact loc_of ly) (pa_cons (peOk a h2 o.ok).1 (pa_cons (peOk b h3 o.ok).1 pa_nil (plB_star p2)) (plB_star p1)) hw (swapsSole_not rfl)) fun D σ H h => ?_
      obtain ⟨ρ, S, Kd, hl, re, r, w, ok⟩ := h
      refine two_rel hl re r w (ok.ox re hl r) fun x y S2 v u H2 f r2 rx ry q => ⟨v, u, rfl, ok.nx _ _ _ _ f r2 ?_ (by simp [hl]) q⟩
      have re2 := re.mono r f
      exact (re2.set hl rx i).set (by simp [hl]) ry j
    · cases h
  | .par3 i j l a b d, c, sc, ex, X, W, h, o => by
    have h : (match (generalizing := false) ex with
      | .Assign [.Tuple [x, y, z] _ _] (.Tuple [a', b', d'] _ _) _ => !c.T.hot && parB N sc [i, j, l] [x, y, z] [a', b', d'] && chkE c.T N a sc a' && chkE c.T N b sc b' && chkE c.T N d sc d'
      | _ => false) = true := h
    split at h
    · rename_i x y z kt pt a' b' d' k2 pt2 pos hh
      obtain ⟨h, h4⟩ := and2 h
      obtain ⟨h, h3⟩ := and2 h
      obtain ⟨h, h2⟩ := and2 h
      obtain ⟨hcal, h1⟩ := and2 h
      obtain ⟨g, g4⟩ := and2 h1
      obtain ⟨g, g3⟩ := and2 g
      obtain ⟨g1, g2⟩ := and2 g
      obtain ⟨n1, n2⟩ := and2 (show (nameAt N (locB sc) i x && namesAt N (locB sc) [j, l] [y, z]) = true from g1)
      obtain ⟨n2, n3⟩ := and2 (show (nameAt N (locB sc) j y && namesAt N (locB sc) [l] [z]) = true from n2)
      obtain ⟨n3, _⟩ := and2 (show (nameAt N (locB sc) l z && namesAt N (locB sc) [] []) = true from n3)
      obtain ⟨x, px, rfl, ix, lx⟩ := name3 n1
      obtain ⟨y, py, rfl, iy, ly⟩ := name3 n2
      obtain ⟨z, pz, rfl, iz, lz⟩ := name3 n3
      obtain ⟨p1, p2⟩ := and2 (show (plB a' && [b', d'].all plB) = true from g3)
      obtain ⟨p2, p3⟩ := and2 (show (plB b' && [d'].all plB) = true from p2)
      obtain ⟨p3, _⟩ := and2 (show (plB d' && [].all plB) = true from p3)
      have nd : [i, j, l].Nodup := of_decide_eq_true g2
      have hw := sw_ok (env := X.env) (k := kt) (p := pt) (k2 := k2) (p2 := pt2) (by rw [o.ok.es]; exact o.kind) (by rw [o.ok.es]; exact of_decide_eq_true g4)
      have en : ([i, j, l].filterMap fun i => N[i]?) = [x, y, z] := by
        rw [List.filterMap_cons_some ix, List.filterMap_cons_some iy, List.filterMap_cons_some iz]; rfl
      rw [en] at hw
      refine PS.imp (ps_par3 (o.ok.calm' hcal) (by rw [o.ok.eN]; exact o.ok.nd) (o.ok.var ix) (o.ok.var iy) (o.ok.var iz) (fun e => by subst e; simp at nd) (fun e => by subst e; simp at nd) (fun e => by subst e; simp at nd) (by rw [o.ok.es]; exact loc_of lx) (by rw [o.ok.es]; exact loc_of ly) (by rw [o.ok.es]; exact loc_of lz)
        (pa_cons (peOk a h2 o.ok).1 (pa_cons (peOk b h3 o.ok).1 (pa_cons (peOk d h4 o.ok).1 pa_nil (plB_star p3)) (plB_star p2)) (plB_star p1)) hw (swapsSole_not rfl)) fun D σ H h => ?_
      obtain ⟨ρ, S, Kd, hl, re, r, w, ok⟩ := h
      refine ⟨ρ, S, _, _, hl, re, r, w, fun x S1 v H1 f1 r1 rx q1 => ⟨ρ, S1, _, _, hl, re.mono r f1, r1, q1, fun y S2 u H2 f2 r2 ry q2 => ⟨ρ, S2, _, _, hl, re.mono r (f1.trans f2), r2, q2, fun z S3 w' H3 f3 r3 rz q3 => ?_, (ok.after (f1.trans f2)).ox (re.mono r (f1.trans f2)) hl r2⟩, (ok.after f1).ox (re.mono r f1) hl r1⟩, ok.ox re hl r⟩
      have ff := (f1.trans f2).trans f3
      refine ⟨v, u, w', rfl, ok.nx _ _ _ _ ff r3 ?_ (by simp [hl]) q3⟩
      exact (((re.mono r ff).set hl ((rx.mono r1 f2).mono r2 f3) i).set (by simp [hl]) (ry.mono r2 f3) j).set (by simp [hl]) rz l
    · cases h
  | .nev, c, sc, ex, X, W, h, o => PS.imp ps_never fun D σ H ⟨ρ, S, Kd, hl, re, r, w, ok⟩ => w
  | .six a i e, c, sc, ex, X, W, h, o => by
    have h : (match (generalizing := false) ex with
      | .Assign [.Subscript a' i' _] e' _ => plB i' && notComp e' && chkE c.T N a sc a' && chkE c.T N i sc i' && chkE c.T N e sc e'
      | _ => false) = true := h
    split at h
    · obtain ⟨h, h5⟩ := and2 h
      obtain ⟨h, h4⟩ := and2 h
      obtain ⟨h, h3⟩ := and2 h
      obtain ⟨h1, h2⟩ := and2 h
      have eK := o.ok.eK
      have hset : PSet X (tSx c.K) := by rw [← eK]; exact set_listM
      refine PS.imp (ps_asg (peOk e h5 o.ok).1 (pg_sub (peOk a h3 o.ok).1 (peOk i h4 o.ok).1 hset (sub_asg h1)) (swapsSole_not h2)) fun D σ H h => ?_
      obtain ⟨ρ, S, Kd, hl, re, r, w, ok⟩ := h
      refine ⟨ρ, S, _, _, hl, re, r, w, fun z S1 v H1 f1 r1 rz q1 => ⟨ρ, S1, _, _, hl, re.mono r f1, r1, q1, fun x S2 u H2 f2 r2 rx q2 => ⟨ρ, S2, _, _, hl, re.mono r (f1.trans f2), r2, q2, fun y S3 w' H3 f3 r3 ry q3 => ?_, (ok.after (f1.trans f2)).ox (re.mono r (f1.trans f2)) hl r2⟩, (ok.after f1).ox (re.mono r f1) hl r1⟩, ok.ox re hl r⟩
      refine ⟨x, y, z, S3, _, r3, rx.mono r2 f3, ry, (rz.mono r1 f2).mono r2 f3, q3, fun S4 H4 f4 r4 q4 => ?_⟩
      have ff := ((f1.trans f2).trans f3).trans f4
      exact ok.nx _ _ _ _ ff r4 (re.mono r ff) hl q4
    · cases h
  | .fset n a e, c, sc, ex, X, W, h, o => by
    have h : (match (generalizing := false) ex with
      | .Assign [.Attribute a' nm _] e' _ => decide (nm = stx n) && decide (n ∈ c.T.fds) && notComp e' && chkE c.T N a sc a' && chkE c.T N e sc e'
      | _ => false) = true := h
    split at h
    · obtain ⟨h, h5⟩ := and2 h
      obtain ⟨h, h4⟩ := and2 h
      obtain ⟨h, h3⟩ := and2 h
      obtain ⟨h1, h2⟩ := and2 h
      have e1 := of_decide_eq_true h1
      subst e1
      refine PS.imp (ps_fld (peOk a h4 o.ok).1 (peOk e h5 o.ok).1 (swapsWith_not h3)) fun D σ H h => ?_
      obtain ⟨ρ, S, Kd, hl, re, r, w, ok⟩ := h
      refine ⟨ρ, S, _, _, hl, re, r, w, fun d S1 u H1 f1 r1 rd q1 => ⟨ρ, S1, _, _, hl, re.mono r f1, r1, q1, fun x S2 v H2 f2 r2 rx q2 => ?_, (ok.after f1).ox (re.mono r f1) hl r1⟩, ok.ox re hl r⟩
      obtain ⟨a0, C, dx, fs, ev, ha, hc, hn, hlt, S3, f3, r3, q3⟩ := fset_rel o.ok (of_decide_eq_true h2) r2 rx (rd.mono r1 f2) q2
      have ff := (f1.trans f2).trans f3
      exact ⟨a0, C, dx, fs, ev, ha, hc, hn, hlt, ok.nx _ _ _ _ ff r3 (re.mono r ff) hl q3⟩
    · cases h
  | .psx a i j e, c, sc, ex, X, W, h, o => by
    have h : (match (generalizing := false) ex with
      | .Assign [.Tuple [.Subscript a' i' ps, y] _ _] (.Tuple vs k2 p2) _ => !c.T.hot && plB i' && nameAt N (locCB sc) j y && decide (swTup sc [.Subscript a' i' ps, y] vs = some none) && chkE c.T N a sc a' && chkE c.T N i sc i' && chkE c.T N e sc (.Tuple vs k2 p2)
      | _ => false) = true := h
    split at h
    · rename_i a' i' ps y kt pt vs k2 p2 pos hh
      obtain ⟨h, h7⟩ := and2 h
      obtain ⟨h, h6⟩ := and2 h
      obtain ⟨h, h5⟩ := and2 h
      obtain ⟨h, h4⟩ := and2 h
      obtain ⟨h, h3⟩ := and2 h
      obtain ⟨hcal, h1⟩ := and2 h
      obtain ⟨y, py, rfl, iy, ly⟩ := name3 h3
      have eK := o.ok.eK
      have hset : PSet X (tSx c.K) := by rw [← eK]; exact set_listM
      have hw := sw_ok (env := X.env) (k := kt) (p := pt) (k2 := k2) (p2 := p2) (ts := [.Subscript a' i' ps, .Name y py]) (vs := vs) (r := none) (by rw [o.ok.es]; exact o.kind) (by rw [o.ok.es]; exact of_decide_eq_true h4)
      have cal := o.ok.calm' hcal
      have nn : PG X (.Name y py) (gName j) := pg_name (by rw [o.ok.eN]; exact o.ok.nd) (o.ok.var iy) (by rw [o.ok.es]; exact locC_of ly) (.inl (o.fn y ly))
      refine PS.imp (ps_asg (peOk e h7 o.ok).1 (pg_tup cal (pgs_cons (pg_sub (peOk a h5 o.ok).1 (peOk i h6 o.ok).1 hset (sub_asg h1)) (pgs_cons nn pgs_nil))) (swapsSole_not rfl) hw) fun D σ H h => ?_
      obtain ⟨ρ, S, Kd, hl, re, r, w, ok⟩ := h
      refine one_rel hl re r w (ok.ox re hl r) fun dv S1 v H1 f1 r1 rv q => ?_
      obtain ⟨x, y, rfl, q⟩ : ∃ x y, dv = .tup [x, y] ∧ M.wpE c.G a ρ S1 (fun o S2 => M.wpE c.G i ρ S2 (fun z S3 => M.sixD o z x S3 fun S4 => Kd.nx (ρ.set j (some y)) S4) (fun c fs S3 => Kd.xe c fs ρ S3)) (fun c fs S2 => Kd.xe c fs ρ S2) := by
        unfold M.onP at q
        split at q
        · exact ⟨_, _, rfl, q⟩
        · exact False.elim q
      cases rv with
      | tup g1 g2 =>
        cases g2 with
        | cons gx g2 =>
          cases g2 with
          | cons gy g2 =>
            cases g2
            refine ⟨_, _, rfl, by rw [eK]; exact g1, rfl, _, _, rfl, ?_⟩
            have re1 := re.mono r f1
            refine ⟨ρ, S1, _, _, hl, re1, r1, q, fun o' S2 u H2 f2 r2 rx q2 => ⟨ρ, S2, _, _, hl, re1.mono r1 f2, r2, q2, fun z' S3 w' H3 f3 r3 ry q3 => ?_, (ok.after (f1.trans f2)).ox (re.mono r (f1.trans f2)) hl r2⟩, (ok.after f1).ox re1 hl r1⟩
            refine ⟨o', z', x, S3, _, r3, rx.mono r2 f3, ry, (gx.mono r1 f2).mono r2 f3, q3, fun S4 H4 f4 r4 q4 => ?_⟩
            have ff := ((f1.trans f2).trans f3).trans f4
            exact ⟨_, _, rfl, rfl, ok.nx _ _ _ _ ff r4 ((re.mono r ff).set hl (((gy.mono r1 f2).mono r2 f3).mono r3 f4) j) (by simp [hl]) q4⟩
    · cases h
  | .ex e, c, sc, ex, X, W, h, o => by
    have h : (match (generalizing := false) ex with | .Expr e' _ => notComp e' && chkE c.T N e sc e' | _ => false) = true := h
    split at h
    · obtain ⟨h1, h2⟩ := and2 h
      refine PS.imp (ps_expr (peOk e h2 o.ok).1 (swapsWith_not h1)) fun D σ H ⟨ρ, S, Kd, hl, re, r, w, ok⟩ => ?_
      exact one_rel hl re r w (ok.ox re hl r) fun x S2 v H2 f r2 rx q => ok.nx _ _ _ _ f r2 (re.mono r f) hl q
    · cases h
  | .ret e, c, sc, ex, X, W, h, o => by
    have h : (match (generalizing := false) ex with | .Return (some e') _ => chkE c.T N e sc e' | _ => false) = true := h
    split at h
    · exact PS.imp (ps_ret (peOk e h o.ok).1) fun D σ H ⟨ρ, S, Kd, hl, re, r, w, ok⟩ => ⟨ρ, S, _, _, hl, re, r, w, ok.rt, ok.ox re hl r⟩
    · cases h
  | .retn, c, sc, ex, X, W, h, o => by
    have h : (match (generalizing := false) ex with | .Return none _ => true | _ => false) = true := h
    split at h
    · exact PS.imp ps_retN fun D σ H ⟨ρ, S, Kd, hl, re, r, w, ok⟩ => ok.rt.same r .non w
    · cases h
  | .if_ g a b, c, sc, ex, X, W, h, o => by
    have h : (match (generalizing := false) ex with | .If g' a' b' _ => chkE c.T N g sc g' && chkSs c.T N a sc a' && chkSs c.T N b sc b' | _ => false) = true := h
    split at h
    · obtain ⟨h, h3⟩ := and2 h
      obtain ⟨h1, h2⟩ := and2 h
      refine PS.imp (ps_if (peOk g h1 o.ok).2 (pssOk a h2 o) (pssOk b h3 o)) fun D σ H ⟨ρ, S, Kd, hl, re, r, w, ok⟩ => ?_
      exact one_rel hl re r w (ok.ox re hl r) fun x S2 v H2 f r2 rx q => by
        obtain ⟨kb, rfl, qt, qf⟩ := onB_of q
        cases rx
        refine ⟨kb, rfl, ?_⟩
        cases kb with
        | true => show if true = true then _ else _; rw [if_pos rfl]; exact ⟨ρ, S2, Kd, hl, re.mono r f, r2, qt rfl, ok.after f⟩
        | false => show if false = true then _ else _; rw [if_neg Bool.false_ne_true]; exact ⟨ρ, S2, Kd, hl, re.mono r f, r2, qf rfl, ok.after f⟩
    · cases h
  | .while_ g b, c, sc, ex, X, W, h, o => by
    have h : (match (generalizing := false) ex with | .While g' b' [] _ => !c.T.hot && chkE c.T N g sc g' && chkSs c.T N b sc b' | _ => false) = true := h
    split at h
    · obtain ⟨h, h2⟩ := and2 h
      obtain ⟨hcal, h1⟩ := and2 h
      refine PS.imp (ps_while (o.po (not1 hcal)) (peOk g h1 o.ok).2 (pssOk b h2 o)) fun D σ H ⟨ρ, S, Kd, hl, re, r, w, ok⟩ => ?_
      obtain ⟨n, w⟩ := (show ∃ n, M.whileN (fun ρ1 S1 nx => M.wpE c.G g ρ1 S1 (fun x S2 => M.onB x fun k => M.br k (M.wpSs c.G b ρ1 S2 { Kd with nx := nx, bk := Kd.nx }) (Kd.nx ρ1 S2)) (fun c fs S2 => Kd.xe c fs ρ1 S2)) n ρ S from w)
      refine ⟨fun m σ' H' => ∃ ρ' S', ρ'.length = σ'.length ∧ RelE c.K H' ρ' σ' ∧ RelS c.K H' S' ∧ Fr S H S' H' ∧ M.whileN (fun ρ1 S1 nx => M.wpE c.G g ρ1 S1 (fun x S2 => M.onB x fun k => M.br k (M.wpSs c.G b ρ1 S2 { Kd with nx := nx, bk := Kd.nx }) (Kd.nx ρ1 S2)) (fun c fs S2 => Kd.xe c fs ρ1 S2)) m ρ' S', ⟨n, ρ, S, hl, re, r, Fr.refl, w⟩, ?_⟩
      rintro m σ1 H1 ⟨ρ1, S1, hl1, re1, r1, f1, w1⟩
      cases m with
      | zero => exact False.elim w1
      | succ m =>
        refine one_rel hl1 re1 r1 w1 ((ok.after f1).ox re1 hl1 r1) fun x S2 v H2 f r2 rx q => ?_
        obtain ⟨kb, rfl, qt, qf⟩ := onB_of q
        cases rx
        refine ⟨kb, rfl, ?_⟩
        have f12 := f1.trans f
        have ok2 := ok.after f12
        cases kb with
        | true =>
          show if true = true then _ else _
          rw [if_pos rfl]
          refine ⟨_, fun σ' H' q => ⟨m, Nat.lt_succ_self m, q⟩, ρ1, S2, _, hl1, re1.mono r1 f, r2, qt rfl, ?_⟩
          exact ⟨fun ρ' S' σ' H' f' r' re' l' q => ⟨ρ', S', l', re', r', f12.trans f', q⟩, ok2.rt, fun ρ' S' σ' H' f' r' re' l' q => ok2.nx ρ' S' σ' H' f' r' re' l' q, ok2.xe⟩
        | false =>
          show if false = true then _ else _
          rw [if_neg Bool.false_ne_true]
          exact ok2.nx _ _ _ _ Fr.refl r2 (re1.mono r1 f) hl1 (qf rfl)
    · cases h
  | .for_ t it b, c, sc, ex, X, W, h, o => by
    have h : (match (generalizing := false) ex with | .For tg it' b' [] _ => !c.T.hot && chkTg N (locCB sc) t tg && noSet it' && chkIt c.T N it sc it' (isTupB tg) && chkSs c.T N b sc b' | _ => false) = true := h
    split at h
    · obtain ⟨h, h4⟩ := and2 h
      obtain ⟨h, h3⟩ := and2 h
      obtain ⟨h, h2⟩ := and2 h
      obtain ⟨hcal, h1⟩ := and2 h
      refine PS.imp (ps_for (o.po (not1 hcal)) (o.ok.calm' hcal) (piOk it h3 o.ok) (tgt_of o (by rw [hcal]; rfl) h1) (pssOk b h4 o) (folded_of h2)) fun D σ H ⟨ρ, S, Kd, hl, re, r, w, ok⟩ => ?_
      refine ⟨ρ, S, _, _, hl, re, r, w, fun items chk S1 H1 J f1 r1 m w => ?_, ok.ox re hl r⟩
      let stp := fun (d : M.D) (ρ1 : M.Env) (S2 : M.Sto) (nx : M.Env → M.Sto → Prop) => M.asg t d S2 ρ1 fun ρ2 => M.wpSs c.G b ρ2 S2 { Kd with nx := nx, bk := Kd.nx }
      refine ⟨fun i m σ' H' => m = items.length - i ∧ i ≤ items.length ∧ ∃ ρ' S', ρ'.length = σ'.length ∧ RelE c.K H' ρ' σ' ∧ RelS c.K H' S' ∧ Fr S1 H1 S' H' ∧ M.forW chk stp Kd.nx (items.drop i) ρ' S', ⟨_, rfl, Nat.zero_le _, ρ, S1, hl, re.mono r f1, r1, Fr.refl, w⟩, ?_⟩
      rintro i m' σ2 H2 ⟨rfl, hi, ρ2, S2, hl2, re2, r2, f2, w2⟩
      by_cases hlt : i < items.length
      · obtain ⟨d, hd⟩ : ∃ d, items[i]? = some d := ⟨items[i], by simp [hlt]⟩
        have ed : items.drop i = d :: items.drop (i + 1) := by
          rw [List.drop_eq_getElem_cons hlt]
          have : items[i] = d := by simpa [hlt] using hd
          rw [this]
        rw [ed] at w2
        obtain ⟨hch, w2⟩ := (show chk S2 ∧ stp d ρ2 S2 (M.forW chk stp Kd.nx (items.drop (i + 1))) from w2)
        obtain ⟨hgo, hy⟩ := (m i S2 H2 f2 r2 hch).1 d hd
        refine .inr ⟨hgo, _, fun σ' H' q => ⟨items.length - (i + 1), by omega, q⟩, fun x H3 y => ?_⟩
        obtain ⟨f3, r3, rx⟩ := hy x H3 y
        have f23 := f2.trans f3
        refine asg_rel r3 hl2 (re2.mono r2 f3) rx w2 fun ρ' σ' l1 l2 re' _ w3 => ⟨ρ', S2, _, l1, re', r3, w3, ?_⟩
        have ok3 := ok.after (f1.trans f23)
        exact ⟨fun ρ4 S4 σ4 H4 f4 r4 re4 l4 q => ⟨rfl, hlt, ρ4, S4, l4, re4, r4, f23.trans f4, q⟩, ok3.rt, fun ρ' S' σ' H' f' r' re' l' q => ok3.nx ρ' S' σ' H' f' r' re' l' q, ok3.xe⟩
      · have e : i = items.length := by omega
        subst e
        rw [List.drop_length] at w2
        obtain ⟨hch, w2⟩ := (show chk S2 ∧ Kd.nx ρ2 S2 from w2)
        exact .inl ⟨(m _ S2 H2 f2 r2 hch).2 rfl, ok.nx _ _ _ _ (f1.trans f2) r2 re2 hl2 w2⟩
    · cases h
  | .brk, c, sc, ex, X, W, h, o => by
    have h : (match (generalizing := false) ex with | .Break _ => true | _ => false) = true := h
    split at h
    · exact PS.imp ps_break fun D σ H ⟨ρ, S, Kd, hl, re, r, w, ok⟩ => ok.bk _ _ _ _ Fr.refl r re hl w
    · cases h
  | .pass, c, sc, ex, X, W, h, o => by
    have h : (match (generalizing := false) ex with | .Pass _ => true | _ => false) = true := h
    split at h
    · exact PS.imp ps_pass fun D σ H ⟨ρ, S, Kd, hl, re, r, w, ok⟩ => ok.nx _ _ _ _ Fr.refl r re hl w
    · cases h
  | .raisef cc n e, c, sc, ex, X, W, h, o => by
    have h : (match (generalizing := false) ex with
      | .Raise (some (.Call (.Name x _) [e'] [] _)) none _ => !c.T.hot && decide ((cc, n) ∈ c.T.xin) && decide (cc < c.T.nr) && decide (c.T.cls[cc]? = some x) && glB sc x && !dbgB x && plB e' && chkE c.T N e sc e'
      | _ => false) = true := h
    split at h
    · rename_i x p e' q r hh
      obtain ⟨h, h8⟩ := and2 h
      obtain ⟨h, h7⟩ := and2 h
      obtain ⟨h, h6⟩ := and2 h
      obtain ⟨h, h5⟩ := and2 h
      obtain ⟨h, h4⟩ := and2 h
      obtain ⟨h, h3⟩ := and2 h
      obtain ⟨h1, h2⟩ := and2 h
      have h4 := of_decide_eq_true h4
      have hnr := of_decide_eq_true h3
      obtain ⟨C, m, a, _⟩ := o.ok.er.at_ cc x h4
      have a := a hnr
      obtain ⟨C', a', xi⟩ := o.ok.xi cc n (of_decide_eq_true h2)
      obtain rfl : C' = C := Option.some.inj (a'.symm.trans a)
      have hc : c.T.hot = false := not1 h1
      have rm : RoomX false k X.A := by have := o.ok.roomX; rw [hc] at this; exact this
      have E := o.ok.er.ok cc C' a
      have hr : Raises X (.ref C') := raises_own (by rw [o.ok.eK]; exact E.sb) (by rw [o.ok.eK]; exact E.ty)
      rw [← o.ok.eK, ← o.ok.em] at xi
      have mk := pmk_xi (p := p) (pos := q) (o.ok.calm' h1) xi rm o.ok.gd hr (o.ok.gl h5) (by rw [o.ok.em]; exact m) (dbg_of h6).1 (peOk e h8 o.ok).1 (plB_star h7)
      refine PS.imp (L2N.ps_raise (o.ok.calm' h1) o.ok.tk mk) fun D σ H ⟨ρ, S, Kd, hl, re, r, w, ok⟩ => ?_
      refine one_rel hl re r w (ok.ox re hl r) fun x2 S2 v H2 f r2 rx q dd hdd => ?_
      have fl : Fr S2 H2 S2 (L2.upd H2 dd (.xd [(stx n, v)])) := Fr.laid hdd
      exact ok.xe cc [.str n, x2] ρ S2 σ _ (.ref C') (some dd) (f.trans fl) (r2.laid hdd) ((re.mono r f).mono r2 fl) hl ⟨.inr ⟨n, dd, x2, v, rfl, rfl, L2.upd_same, rx.mono r2 fl⟩, hnr, x, C', h4, m, rfl⟩ q
    · cases h
  | .raise cc es, c, sc, ex, X, W, h, o => by
    have h : (match (generalizing := false) ex with
      | .Raise (some (.Call (.Name x _) [] [] _)) none _ => !c.T.hot && !c.T.xin.any (fun e => e.1 == cc) && isNilEs es && decide (cc < c.T.nr) && decide (c.T.cls[cc]? = some x) && glB sc x && !dbgB x
      | _ => false) = true := h
    split at h
    · rename_i x p q r hh
      obtain ⟨h, h5⟩ := and2 h
      obtain ⟨h, h4⟩ := and2 h
      obtain ⟨h, h3⟩ := and2 h
      obtain ⟨h, hnr⟩ := and2 h
      obtain ⟨h, h2⟩ := and2 h
      obtain ⟨h1, hxi⟩ := and2 h
      have h3 := of_decide_eq_true h3
      have hnr := of_decide_eq_true hnr
      obtain ⟨C, m, a, _⟩ := o.ok.er.at_ cc x h3
      have a := a hnr
      have E := o.ok.er.ok cc C a
      have hr : Raises X (.ref C) := raises_own (by rw [o.ok.eK]; exact E.sb) (by rw [o.ok.eK]; exact E.ty)
      have mk := pmk_own0 (X := X) (p := p) (pos := q) PySem.F.excBase_ValueError (by rw [o.ok.eK]; exact o.ok.er.ex cc C a (not1 hxi)) (by rw [o.ok.em]; exact m) (by rw [o.ok.eK]; exact E.kp) hr (o.ok.gl h4) (dbg_of h5).1
      refine PS.imp (L2N.ps_raise (o.ok.calm' h1) o.ok.tk mk) fun D σ H ⟨ρ, S, Kd, hl, re, r, w, ok⟩ => ?_
      cases es with
      | nil => exact ok.xe cc [] ρ S σ H (.ref C) none Fr.refl r re hl ⟨.inl ⟨rfl, rfl⟩, hnr, x, C, h3, m, rfl⟩ w
      | _ => cases h2
    · cases h
  | .try_ b cc i hd, c, sc, ex, X, W, h, o => by
    have h : (match (generalizing := false) ex with
      | .Try body [.ExceptHandler (some (.Name x _)) (some n) (s0 :: suite) _] [] [] _ => !c.T.hot && decide (N[i]? = some n) && locB sc n && decide (c.T.cls[cc]? = some x) && glB sc x && !dbgB x && chkSs c.T N b sc body && chkSs (c.h 0).T N hd sc (s0 :: suite)
      | _ => false) = true := h
    split at h
    · rename_i body x np n s0 suite pos' pos hh
      obtain ⟨h, h8⟩ := and2 h
      obtain ⟨h, h7⟩ := and2 h
      obtain ⟨h, h6⟩ := and2 h
      obtain ⟨h, h5⟩ := and2 h
      obtain ⟨h, h4⟩ := and2 h
      obtain ⟨h, h3⟩ := and2 h
      obtain ⟨h1, h2⟩ := and2 h
      have h2 := of_decide_eq_true h2
      have h4 := of_decide_eq_true h4
      have h1 := not1 h1
      obtain ⟨Cc, mc, _, ac⟩ := o.ok.er.at_ cc x h4
      have ok0 := o.ok
      have htr : ∀ (W' : WX) (pn : List (Addr × Obj)) (xe : Value → Shared → Prop), L2N.Takes (X.tr pn xe) W' → PassesOwn (model X.prog X.w) X.A X.env xe → OkS c k N sc (X.tr pn xe) W' := fun W' pn xe tk po =>
        ⟨⟨ok0.eN, ok0.es, ok0.eK, ok0.em, ok0.nd, ok0.calm, ok0.room, ok0.roomX, ok0.gd, ok0.rp, ok0.bt, ok0.con, ok0.fns, tk, ok0.sys, ok0.er, ok0.oc, ok0.xi, ok0.hx⟩, o.kind, o.fn, fun _ => po, o.stk, o.frm, o.exn⟩
      have hsu : ∀ (a : Addr) (pn : List (Addr × Obj)), OkS (c.h a) k N sc (X.suite a pn) W0 := fun a pn =>
        ⟨⟨ok0.eN, ok0.es, ok0.eK, ok0.em, ok0.nd, fun z => absurd (show true = false from z) (by decide), ⟨fun z => absurd (show true = false from z) (by decide), ok0.room.dp, ok0.room.un⟩, ⟨fun z => absurd (show true = false from z) (by decide), ok0.roomX.dp, ok0.roomX.un⟩, ok0.gd, ok0.rp, ok0.bt, ok0.con, (fun n x hx => let ⟨f, fd, ps, D, F⟩ := ok0.fns n x hx; ⟨f, fd, ps, ⟨D.mg, D.at_, D.kp, D.bd, D.kb, D.bf, D.st⟩, F⟩), fun u s' ⟨a, B, sI, pins, σ, H, cls, d, e, I, nb, up, sky, na, os, ag, w⟩ => False.elim w, ok0.sys, ⟨ok0.er.at_, ok0.er.ok, ok0.er.ve, ok0.er.ex, ok0.er.fl⟩, ⟨ok0.oc.gm, ok0.oc.nm, fun k C e => { ok0.oc.ok k C e with }⟩, ok0.xi, fun _ => ⟨a, rfl, rfl⟩⟩, o.kind, o.fn, fun z => absurd (show true = false from z) (by decide), o.stk, o.frm, o.exn⟩
      refine PS.imp (ps_try_asT (X := X) (c := .ref Cc) (i := i) (Wout := W) (tb := fun W' => tSs c W' b) (ts := fun a => tSs (c.h a) W0 hd) o.stk o.frm o.exn (by rw [ok0.eN]; exact ok0.nd) (ok0.var h2) (by
        show X.env.scope.names.lookup n = some .local
        rw [ok0.es]; exact loc_of h3) ⟨ok0.gl h5, (dbg_of h6).1, .inl (by rw [ok0.em]; exact mc)⟩ ok0.tk (fun W' pn xe tk po => pssOk b h7 (htr W' pn xe tk po)) (fun a pn => pssOk hd h8 (hsu a pn))) fun D σ H ⟨ρ, S, Kd, hl, re, r, w, ok⟩ => ?_
      refine ⟨ρ, S, _, hl, re, r, w, ok.nx, ok.rt, ok.bk, fun kk fs ρ' S' σ' H' cls d f r' re' l' rx q => ?_⟩
      obtain ⟨hfd, hkk, y, C, ey, my, rfl⟩ := rx
      obtain ⟨C0, m0, a0, _⟩ := ok0.er.at_ kk y ey
      have a0 := a0 hkk
      have eC : C0 = C := by rw [my] at m0; injection m0 with m0; injection m0 with m0; exact m0.symm
      subst eC
      obtain ⟨qt, qf⟩ := q
      refine ⟨c.G.sub kk cc, by rw [ok0.eK]; exact (ac kk C0 a0).2, fun hb => ⟨C0, rfl, fun a oe ha hE => ?_⟩, fun hb => ok.xe kk fs ρ' S' σ' H' _ d f r' re' l' ⟨hfd, hkk, y, C0, ey, my, rfl⟩ (qf hb)⟩
      have fl : Fr S' H' S' (L2.upd H' a (XO a oe)) := Fr.laid ha
      have rdx : RelD c.K (L2.upd H' a (XO a oe)) (.xn C0 (.int a :: fs)) (.ref a) := by
        rcases hfd with ⟨rfl, rfl⟩ | ⟨n, dd, x, v, rfl, rfl, hdd, rxv⟩
        · exact .xn ⟨oe, none, L2.upd_same, hE, fun dd z => nomatch z⟩
        · exact .xf L2.upd_same hE (fl _ _ hdd (r'.xd hdd)).1 (rxv.mono r' fl)
      refine ⟨ρ'.set i (some (.xn C0 (.int a :: fs))), S', _, by rw [List.length_set, List.length_set, l'], (re'.mono r' fl).set l' rdx i, r'.laid ha, qt hb C0 a0 a, ?_⟩
      have ok2 := ok.after (f.trans fl)
      refine ⟨fun ρ2 S2 σ2 H2 f2 r2 re2 l2 q => ok2.nx _ _ _ _ f2 r2 (re2.unset i) (by rw [List.length_set, List.length_set, l2]) q, ok2.rt, fun ρ2 S2 σ2 H2 f2 r2 re2 l2 q => ok2.bk _ _ _ _ f2 r2 (re2.unset i) (by rw [List.length_set, List.length_set, l2]) q, fun _ _ _ _ _ _ _ _ _ _ _ _ _ q => False.elim q⟩
    · cases h
theorem pssOk : ∀ (st : M.Ss) {c : Cn} {sc : Scope} {ex : List Stmt} {X : Cx} {W : WX}, chkSs c.T N st sc ex = true → OkS c k N sc X W → PSs X ex (tSs c W st)
  | .nil, c, sc, ex, X, W, h, o => by
    cases ex with
    | nil => exact PSs.imp pss_nil fun D σ H ⟨ρ, S, Kd, hl, re, r, w, ok⟩ => ok.nx _ _ _ _ Fr.refl r re hl w
    | cons _ _ => cases h
  | .cons s q, c, sc, ex, X, W, h, o => by
    cases ex with
    | nil => cases h
    | cons s' q' =>
      obtain ⟨h1, h2⟩ := and2 (show (chkS c.T N s sc s' && chkSs c.T N q sc q') = true from h)
      refine PSs.imp (pss_cons (psOk s h1 o) (pssOk q h2 o)) fun D σ H ⟨ρ, S, Kd, hl, re, r, w, ok⟩ => ?_
      exact ⟨ρ, S, _, hl, re, r, w, fun ρ1 S1 σ1 H1 f1 r1 re1 l1 q => ⟨ρ1, S1, Kd, l1, re1, r1, q, ok.after f1⟩, ok.rt, ok.bk, ok.xe⟩
end
end
end Snd
namespace Snd
open PySem PySem.Spec PyProof.Rows L2
/-- the context of a def's body, called where an error may be handled -/
abbrev cxB (hot : Bool) (CX : CXT) (P : Program) (w : World) (K : Frag) (mg : Str → Option Value) (base : Heap) (N : List Str) (qual : Str) (scope : Scope) (f : Addr) (cd : Value) (A : Around) (outer : List Env) (s : Shared) (H : Hp) (E : XK) : Cx :=
  { cxOf CX P w K mg base N qual scope f cd A outer s H E with calm := !hot }
/-! ### a def of the text -/
section
variable {P : Program} {w : World} {K : Frag} {mg : Str → Option Value} {base : Heap} {k : Nat} {name qual : Str} {params : Arguments} {body : List Stmt} {scope : Scope} {f : Addr} {fd : FuncData} {N ps : List Str}
/-- the entry's base lies in the heap: the module's objects, no limit set -/
theorem base_in {A : Around} {outer : List Env} {s : Shared} {H : Hp} (e0 : Env0 P w K mg base A outer s H) : K.In s.heap ∧ s.heap.NoLimit := by
  have up : ∀ b o, base.get? b = some o → s.heap.get? b = some o := fun b o h => (e0.bs b o h).1
  exact ⟨e0.mod.kin.keeps up, e0.mod.nolimit.keeps up⟩
/-- each parameter is a local, or its cell is made -/
theorem par_kind (S : FnScope N ps scope) {us : List Value} {n : Nat} : ∀ z ∈ ps.zip us, scope.names.lookup z.1 = some .local ∨ (scope.names.lookup z.1 = some .cell ∧ ((cellsFrom n scope.names []).lookup z.1).isSome = true) := by
  rintro ⟨x, u⟩ hz
  cases S.par x (List.of_mem_zip hz).1 with
  | inl l => exact Or.inl l
  | inr c => exact Or.inr ⟨c, PySem.W.cellsFrom_some _ _ _ (Or.inl c)⟩
/-- how a body ends, told as a call's end -/
theorem end_of {hot : Bool} {cdv : Value} {A : Around} {outer : List Env} {s s2 : Shared} {H : Hp} {Q : VK} {E : XK} {fl : Flow}
    (h : SP (cxB hot (L2N.CX P w) P w K mg base N qual scope f cdv A outer s H E) [] { nx := fun _ H' => Q .non H', rt := Q } fl s2) (nb : fl ≠ .brk ∧ fl ≠ .cont) :
    CE outer P w H s Q (match fl with | .ret u => u | _ => .none) s2 := by
  match fl, h, nb with
  | .ret u, ⟨v, _, H2, I2, rel, q⟩, _ => exact ⟨v, H2, I2.os, I2.bare, I2.base, I2.hok, rel, q⟩
  | .next, ⟨_, H2, I2, q⟩, _ => exact ⟨.non, H2, I2.os, I2.bare, I2.base, I2.hok, rfl, q⟩
  | .brk, _, nb => exact absurd rfl nb.1
  | .cont, _, nb => exact absurd rfl nb.2
theorem inv_startB {hot : Bool} {CX : CXT} {P : Program} {w : World} {K : Frag} {mg : Str → Option Value} {base : Heap} {N ps : List Str} {qual : Str} {scope : Scope} {f : Addr} {cd : Value} {A : Around} {outer : List Env} {s s1 : Shared} {H : Hp} {E : XK} {us : List Value} {vs : List V}
    (S : FnScope N ps scope) (hd : hot = false → A.handled = none) (e0 : Env0 P w K mg base A outer s H) (hl : vs.length = ps.length) (r : Vals vs us)
    (x : InCallC s s.heap.objs.size (bindL (envOfC qual scope s.heap.objs.size f cd).kindOf (ps.zip us) fun _ => none) (cellsFrom (s.heap.objs.size + 1) scope.names []) (bindC (envOfC qual scope s.heap.objs.size f cd).kindOf (ps.zip us) fun _ => none) s1) :
    Inv (cxB hot CX P w K mg base N qual scope f cd A outer s H E) [] (L2.start N vs) H s1 := by
  have hpl : ps.length ≤ N.length := by have := congrArg List.length S.pre; rw [List.length_take] at this; omega
  obtain ⟨h1, tk, rfl, hk⟩ := x.done
  have noA : ∀ b : Addr, b ∉ (cxB hot CX P w K mg base N qual scope f cd A outer s H E).ex := fun b z => absurd (show b ∈ ([] : List Addr) from z) (by simp)
  refine ⟨⟨e0.mod, S.kind, rfl, rfl, Nat.le_refl _, fun y z c h1 h2 => ?_, fun y hy => ?_, fun y c _ h => ?_, (fun z => hd (by cases hot with | false => rfl | true => cases z)), Around.frames_deeper e0.frames, .inr ⟨rfl, rfl⟩, fun b z => absurd z (noA b), e0.bs, e0.bsz, fun b _ _ => noA b, fun b z => absurd z (noA b), e0.funs, e0.frf⟩,
    rfl, e0.bare, Un.kept hk, ⟨_, x.toInCall.ns, fun i y v h1 h2 h3 => ?_⟩, fun y c h => ⟨_, x.cell y c h⟩, e0.hok.fresh (Nat.le_refl _), fun y c h => ?_, fun q hq => ?_, e0.hok.kept hk, ?_⟩
  · exact name_of_addr x.apart (PySem.mem_of_lookup h1) (PySem.mem_of_lookup h2)
  · have hy : scope.names.lookup y = some .cell ∨ scope.names.lookup y = some .free := hy
    rcases hy with hy | hy
    · exact cell_has hy
    · exact absurd rfl (S.nofree _ (PySem.mem_of_lookup hy))
  · exact Nat.le_of_lt (x.above y c (PySem.mem_of_lookup h))
  · have hi : i < vs.length := by
      unfold L2.start at h2
      by_cases hi : i < vs.length
      · exact hi
      · rw [List.getElem?_append_right (by simpa using hi)] at h2
        rw [List.getElem?_replicate] at h2
        split at h2 <;> cases h2
    have ha : vs[i]? = some v := by
      unfold L2.start at h2
      rw [List.getElem?_append_left (by simpa using hi), List.getElem?_map] at h2
      cases e : vs[i]? with
      | none => rw [e] at h2; cases h2
      | some a => rw [e] at h2; cases h2; rfl
    obtain ⟨u, hu, rv⟩ := r.get ha
    have hp : ps[i]? = some y := by
      rw [← S.pre, List.getElem?_take_of_lt (by omega)]; exact h1
    have ndP : ps.Nodup := by rw [← S.pre]; exact S.nd.sublist (List.take_sublist _ _)
    refine ⟨u, rv, ?_⟩
    rcases S.par y (List.mem_of_getElem? hp) with k | k
    · exact .inl ⟨k, bindL_get ndP hp hu k⟩
    · obtain ⟨c, e⟩ := cell_has (n := s.heap.objs.size + 1) k
      refine .inr ⟨.inl k, c, e, ?_⟩
      have q := x.cell y c e
      rw [bindC_get ndP hp hu (by show scope.names.lookup y ≠ _; rw [k]; decide)] at q
      exact q
  · exact e0.hok.fresh (Nat.le_of_lt (x.above y c (PySem.mem_of_lookup h)))
  · exact absurd (show q ∈ ([] : List (Addr × Obj)) from hq) (by simp)
  · unfold L2.start
    show _ = N.length
    rw [List.length_append, List.length_map, List.length_replicate]
    omega
theorem cxUpN {P : Program} {w : World} : StX.CXUp (L2N.CX P w) := by
  rintro outer s H s2 H2 E e s' un kp ho ⟨a, B, H', cls, d, ea, fl, hok, ub, na, os, ag, he⟩
  refine ⟨a, B, H', cls, d, ea, fl, hok, ⟨fun b o q n hb => ub.keep b o (kp b o q) (un.free b o q n (by simp)) hb, fun b o q hb => ub.slot b o (kp b o q) hb, fun b o q n => ub.free b o (kp b o q) (un.free b o q n (by simp)),
    fun b o q hb => ub.there b o (kp b o q) hb, fun b xs q => ub.tups b xs (un.tups b xs q), fun b o xs q => ub.frzs b o xs (un.frzs b o xs q), fun b ps q => ?_⟩, na, os.trans ho, ag, he⟩
  obtain ⟨m1, e1⟩ := un.tbls b ps q
  obtain ⟨m2, e2⟩ := ub.tbls b _ e1
  exact ⟨m1 ++ m2, by rw [e2, Array.append_assoc]⟩
/-- a def by its body, where no repr is under way -/
theorem fnG_of {hot : Bool} {sp : L2.Sp} {dvs : List V} (F : FunD K name qual params body scope dvs [] f fd) (S : FnScope N ps scope) (len : ∀ xs Hx Qx Ex, sp xs Hx Qx Ex → xs.length = ps.length)
    (run : ∀ (cdv : Value) (A : Around) (outer : List Env) (s : Shared) (H : Hp) (xs : List V) (Q : VK) (E : XK), RoomX hot k (A.deeper (envOfC qual scope s.heap.objs.size f cdv)) → A.guards = some [] → (hot = true → HotA A xs H) → sp xs H Q E →
      ∃ t, PSs (cxB hot (L2N.CX P w) P w K mg base N qual scope f cdv A outer s H E) body t ∧ t { nx := fun _ H' => Q .non H', rt := Q } (L2.start N xs) H) : FnG P w K mg base hot (k + 1) f fd ps sp where
  len := len
  run := by
    intro A outer s H args us xs Q E room quiet ht env bound rel want
    obtain ⟨c1, c2, c3, c4, c5, c6, c7, cdv, c9, c10, same, stands, code, -, -⟩ := F.ex
    subst same
    obtain ⟨inK, free⟩ := base_in env
    refine codeAny_call_function room.depth (inK _ _ stands) rfl S.co S.gen rfl (PySem.W.codeRec_of inK code) (bound _ _ _ _ ?_)
    refine wpAny_newFunctionEnv_cells S.kind (par_kind S) fun env' made s1 entry => ?_
    subst made
    refine ⟨free.keeps entry.toInCall.keep, codeAny_func ?_⟩
    obtain ⟨t, ok, start⟩ := run cdv A outer s H xs Q E (room.deeperX _) quiet ht want
    have I0 := inv_startB (hot := hot) (CX := L2N.CX P w) (qual := qual) (f := f) (cd := cdv) (E := E) S room.hd env (len _ _ _ _ want) rel entry
    refine wpAny_mono (ok.run [] s1 _ H _ I0 start) (fun fl s2 done => ?_) fun _ _ out => out
    match fl, done with
    | .ret u, done => exact end_of done ⟨nofun, nofun⟩
    | .next, done => exact end_of done ⟨nofun, nofun⟩
    | .brk, ⟨_, _, _, no⟩ => exact False.elim no
    | .cont, ⟨_, _, _, no⟩ => exact False.elim no
  star := by
    intro A outer s H u1 u2 ws rest Q E room quiet h0 env hb r1 r2 hz want
    obtain ⟨c1, c2, c3, c4, c5, c6, c7, cdv, c9, c10, same, stands, code, -, -⟩ := F.ex
    subst same
    obtain ⟨inK, free⟩ := base_in env
    have hn : H s.heap.objs.size = none := env.hok.fresh (Nat.le_refl _)
    have hl2 : u2.length ≤ sizeLine := by rw [← r2.length]; exact hz
    refine codeAny_call_function room.depth (inK _ _ stands) rfl S.co S.gen rfl (PySem.W.codeRec_of inK code) ?_
    show wpAny _ _ (bindArgs _ ⟨u1 ++ u2, []⟩) _ _ _
    rw [hb]
    refine wpAny_bind (wpAny_newTuple (wpAny_pure ?_) hl2)
    have new : ObjOk P w (L2.upd H s.heap.objs.size (.tup rest)) (s.heap.push ({ cls := .type "tuple", data := .seq u2.toArray } : Obj)) s.heap.objs.size (.tup rest) := ⟨hz, u2, r2, ⟨_, Heap.get?_push_size _ rfl, rfl, _, rfl⟩⟩
    have un := StX.un_laid (fs := frs outer) (s := s) (o := ({ cls := .type "tuple", data := .seq u2.toArray } : Obj)) (u := .tup rest) hn
    have e2 := StX.env0_laid env new
    have up : ∀ e s'', L2N.CX P w outer (L2.upd H s.heap.objs.size (.tup rest)) { s with heap := s.heap.push ({ cls := .type "tuple", data := .seq u2.toArray } : Obj) } E e s'' → L2N.CX P w outer H s E e s'' := fun e s'' z => cxUpN outer s H { s with heap := s.heap.push ({ cls := .type "tuple", data := .seq u2.toArray } : Obj) } (L2.upd H s.heap.objs.size (.tup rest)) E e s'' un (fun b o q => Heap.get?_push_of_some _ q) rfl z
    have rel : Vals (ws ++ [V.ref s.heap.objs.size]) (u1 ++ [Value.ref s.heap.objs.size]) := r1.append (.cons rfl .nil)
    have free2 : ({ s with heap := s.heap.push ({ cls := .type "tuple", data := .seq u2.toArray } : Obj) } : Shared).heap.NoLimit := free.keeps fun b o q => Heap.get?_push_of_some _ q
    refine wpAny_newFunctionEnv_cells (s := { s with heap := s.heap.push ({ cls := .type "tuple", data := .seq u2.toArray } : Obj) }) S.kind (par_kind S) fun env' made s1 entry => ?_
    subst made
    refine ⟨free2.keeps entry.toInCall.keep, codeAny_func ?_⟩
    obtain ⟨t, ok, start⟩ := run cdv A outer { s with heap := s.heap.push ({ cls := .type "tuple", data := .seq u2.toArray } : Obj) } _ _ Q E (room.deeperX _) quiet (fun z => absurd z (by rw [h0]; exact Bool.false_ne_true)) want
    have I0 := inv_startB (hot := hot) (CX := L2N.CX P w) (qual := qual) (f := f) (cd := cdv) (E := E) S room.hd e2 (len _ _ _ _ want) rel entry
    have fin : ∀ {u s2}, CE outer P w (L2.upd H s.heap.objs.size (.tup rest)) { s with heap := s.heap.push ({ cls := .type "tuple", data := .seq u2.toArray } : Obj) } Q u s2 → CE outer P w H s Q u s2 := fun {u s2} ⟨v', H', os, bare, un', hok', rv', q⟩ => ⟨v', H', os, bare, un.trans un', hok', rv', q⟩
    refine wpAny_mono (ok.run [] s1 _ _ _ I0 start) (fun fl s2 done => ?_) fun e s' out => wpAny_mono out (fun _ s'' z => up _ s'' z) fun _ s'' z => up _ s'' z
    match fl, done with
    | .ret u, done => exact fin (end_of done ⟨nofun, nofun⟩)
    | .next, done => exact fin (end_of done ⟨nofun, nofun⟩)
    | .brk, ⟨_, _, _, no⟩ => exact False.elim no
    | .cont, ⟨_, _, _, no⟩ => exact False.elim no
/-- what a law's text stands on -/
structure Law (c : Cn) (P : Program) (w : World) (base : Heap) (k : Nat) : Prop where
  rp : c.G.rp = rpF
  bt : ∀ x ∈ c.T.bts, c.mg x = none
  con : ∀ n x, c.T.cons[n]? = some x → ∃ u v, c.mg x = some u ∧ RelV v u ∧ ∀ H, RelD c.K H (c.G.con n) v
  fns : ∀ n x, c.T.fns[n]? = some x → ∃ f fd ps, Def c.K c.mg c.T n x f fd ps ∧ FnG P w c.K c.mg base (c.T.hots.contains n) k f fd ps (lift c (M.cl (c.G.fn n)))
  sys : SysK c.K
  er : Errs c.K c.mg c.T c.G
  xi : ∀ cc n, (cc, n) ∈ c.T.xin → ∃ C, c.G.adr cc = some C ∧ XIn P w c.K c.mg base k C (stx n)
  oc : Obs c.K c.mg c.T c.G
theorem start_rel {K : Frag} {H : Hp} {ds : List M.D} {vs : List V} (r : RelDs K H ds vs) : RelE K H (M.start N.length ds) (L2.start N vs) := by
  have e : ∀ {ds : List M.D} {vs : List V} {n m : Nat}, RelDs K H ds vs → ∀ (i : Nat) (d : M.D), (ds.map some ++ List.replicate n none)[i]? = some (some d) → ∃ v, (vs.map some ++ List.replicate m (none : Option V))[i]? = some (some v) ∧ RelD K H d v := by
    intro ds vs n m r i d h
    by_cases hi : i < ds.length
    · rw [List.getElem?_append_left (by simpa using hi), List.getElem?_map] at h
      obtain ⟨d', h1, h2⟩ := Option.map_eq_some_iff.mp h
      cases h2
      obtain ⟨v, g1, g2⟩ := r.get h1
      refine ⟨v, ?_, g2⟩
      rw [List.getElem?_append_left (by rw [List.length_map, ← r.length]; exact hi), List.getElem?_map, g1]
      rfl
    · rw [List.getElem?_append_right (by simpa using hi), List.getElem?_replicate] at h
      split at h <;> cases h
  exact e r
theorem fn_ok {c : Cn} (L : Law c P w base k) {hot : Bool} {ast : M.Ss} {sp : M.Sp} {dvs : List V} (F : FunD c.K name qual params body scope dvs [] f fd) (S : FnScope N ps scope) (ck : chkSs { c.T with hot := hot } N ast scope body = true)
    (spec : ∀ ds S0 Q X, sp ds S0 Q X → ds.length = ps.length ∧ M.wpSs c.G ast (M.start N.length ds) S0 ⟨fun _ S' => Q .non S', Q, fun _ _ => False, fun k fs _ S' => X k fs S'⟩) (h0 : hot = false := by rfl) :
    FnG P w c.K c.mg base hot (k + 1) f fd ps (lift c (M.cl sp)) := by
  have pl : ps.length ≤ N.length := by have := congrArg List.length S.pre; rw [List.length_take] at this; omega
  let c' : Cn := { c with T := { c.T with hot := hot } }
  refine fnG_of F S (fun vs H Q E ⟨ds, S0, Qd, Xd, rd, r, ⟨Q0, X0, q, _⟩, _⟩ => by rw [← rd.length]; exact (spec _ _ _ _ q).1) fun cdv A outer s H vs Q E hr hg _ ⟨ds, S0, Qd, Xd, rd, r, ⟨Q0, X0, q, hQ, hX⟩, hq, hx⟩ => ?_
  obtain ⟨hlen, hw⟩ := spec _ _ _ _ q
  have ok : OkS c' k N scope (cxB hot (L2N.CX P w) P w c.K c.mg base N qual scope f cdv A outer s H E) (fun cls d _ H => E cls d H) := {
    ok := {
      eN := rfl
      es := rfl
      eK := rfl
      em := rfl
      nd := S.nd
      calm := fun h => by
        have h : hot = false := h
        show (!hot) = true
        rw [h]; rfl
      room := hr.b
      roomX := hr
      gd := hg
      rp := L.rp
      bt := L.bt
      con := L.con
      fns := fun n x hx => let ⟨f, fd, ps, D, F⟩ := L.fns n x hx; ⟨f, fd, ps, ⟨D.mg, D.at_, D.kp, D.bd, D.kb, D.bf, D.st⟩, F⟩
      tk := L2N.takes_of rfl rfl rfl rfl
      sys := L.sys
      er := ⟨L.er.at_, L.er.ok, L.er.ve, L.er.ex, L.er.fl⟩
      oc := ⟨L.oc.gm, L.oc.nm, fun k C e => { L.oc.ok k C e with }⟩
      xi := L.xi
      hx := fun z => absurd (show hot = true from z) (by rw [h0]; exact Bool.false_ne_true) }
    kind := S.kind
    fn := fun _ _ => rfl
    po := fun _ => passes_of (X := cxB hot (L2N.CX P w) P w c.K c.mg base N qual scope f cdv A outer s H E) rfl
    stk := rfl
    frm := rfl
    exn := rfl }
  refine ⟨_, pssOk ast ck ok, M.start N.length ds, S0, _, ?_, start_rel rd, r, hw, ?_⟩
  · unfold M.start L2.start
    rw [List.length_append, List.length_append, List.length_map, List.length_map, List.length_replicate, List.length_replicate, rd.length]
  · exact ⟨fun ρ' S' σ' H' f' r' re' l' q => hq .non S' .non H' f' r' .non (hQ _ _ q), fun d S' v H' f' r' rd' q => hq d S' v H' f' r' rd' (hQ _ _ q), fun _ _ _ _ _ _ _ _ q => False.elim q, fun kx fs ρ' S' σ' H' cls d f' r' re' l' rx q => hx kx fs S' H' cls d f' r' rx (hX _ _ _ q)⟩
/-- a def that is called while an error is handled -/
theorem fn_hot {c : Cn} (L : Law c P w base k) {ast : M.Ss} {sp : M.Sp} {dvs : List V} (F : FunD c.K name qual params body scope dvs [] f fd) (S : FnScope N ps scope) (ck : chkSs { c.T with hot := true } N ast scope body = true)
    (spec : ∀ ds S0 Q X, sp ds S0 Q X → ds.length = ps.length ∧ ∀ (C a : Nat) (fs ds' : List M.D), ds = .xn C (.int a :: fs) :: ds' → M.wpSs { c.G with hd := some a } ast (M.start N.length ds) S0 ⟨fun _ S' => Q .non S', Q, fun _ _ => False, fun k fs _ S' => X k fs S'⟩)
    (first : ∀ ds S0 Q X, sp ds S0 Q X → ∃ C fs ds', ds = .xn C fs :: ds') :
    FnG P w c.K c.mg base true (k + 1) f fd ps (lift c (M.cl sp)) := by
  have pl : ps.length ≤ N.length := by have := congrArg List.length S.pre; rw [List.length_take] at this; omega
  refine fnG_of F S (fun vs H Q E ⟨ds, S0, Qd, Xd, rd, r, ⟨Q0, X0, q, _⟩, _⟩ => by rw [← rd.length]; exact (spec _ _ _ _ q).1) fun cdv A outer s H vs Q E hr hg ht ⟨ds, S0, Qd, Xd, rd, r, ⟨Q0, X0, q, hQ, hX⟩, hq, hx⟩ => ?_
  obtain ⟨hlen, hw⟩ := spec _ _ _ _ q
  obtain ⟨C0, fs0, ds', eds⟩ := first _ _ _ _ q
  obtain ⟨a0, C1, rest, ev, hA, hX0⟩ := ht rfl
  obtain ⟨r0, e0⟩ : ∃ r0, fs0 = .int (a0 : Nat) :: r0 := by
    subst eds ev
    cases rd with
    | cons r1 _ =>
      obtain ⟨a1, r0, e1, e2, _⟩ := r1.xo
      cases e2
      exact ⟨r0, e1⟩
  subst e0
  have hw := hw C0 a0 r0 ds' eds
  let c' : Cn := { c with T := { c.T with hot := true }, G := { c.G with hd := some a0 } }
  have ok : OkS c' k N scope (cxB true (L2N.CX P w) P w c.K c.mg base N qual scope f cdv A outer s H E) (fun cls d _ H => E cls d H) := {
    ok := {
      eN := rfl
      es := rfl
      eK := rfl
      em := rfl
      nd := S.nd
      calm := fun h => nomatch h
      room := hr.b
      roomX := hr
      gd := hg
      rp := L.rp
      bt := L.bt
      con := L.con
      fns := fun n x hx => let ⟨f, fd, ps, D, F⟩ := L.fns n x hx; ⟨f, fd, ps, ⟨D.mg, D.at_, D.kp, D.bd, D.kb, D.bf, D.st⟩, F⟩
      tk := L2N.takes_of rfl rfl rfl rfl
      sys := L.sys
      er := ⟨L.er.at_, L.er.ok, L.er.ve, L.er.ex, L.er.fl⟩
      oc := ⟨L.oc.gm, L.oc.nm, fun k C e => { L.oc.ok k C e with }⟩
      xi := L.xi
      hx := fun _ => ⟨a0, rfl, hA⟩ }
    kind := S.kind
    fn := fun _ _ => rfl
    po := fun _ => passes_of (X := cxB true (L2N.CX P w) P w c.K c.mg base N qual scope f cdv A outer s H E) rfl
    stk := rfl
    frm := rfl
    exn := rfl }
  refine ⟨_, pssOk ast ck ok, M.start N.length ds, S0, _, ?_, start_rel rd, r, hw, ?_⟩
  · unfold M.start L2.start
    rw [List.length_append, List.length_append, List.length_map, List.length_map, List.length_replicate, List.length_replicate, rd.length]
  · exact ⟨fun ρ' S' σ' H' f' r' re' l' q => hq .non S' .non H' f' r' .non (hQ _ _ q), fun d S' v H' f' r' rd' q => hq d S' v H' f' r' rd' (hQ _ _ q), fun _ _ _ _ _ _ _ _ q => False.elim q, fun kx fs ρ' S' σ' H' cls d f' r' re' l' rx q => hx kx fs S' H' cls d f' r' rx (hX _ _ _ q)⟩
end
/-! ### the law's end -/
/-- where the script lies at a: nothing else is tracked -/
def onlyAt (H : Hp) (a : Addr) : Prop := ∀ b, H b ≠ none → b = a
/-- the heap without the script is a base for the law's def -/
theorem env_script {P : Program} {w : World} {K : Frag} {mg mb : Str → Option Value} {a : Addr} {s : Shared} {vs : List Value} {H : Hp} (inK : K.In s.heap) (hg : s.heap.Ns mainGlobals mg) (hb : s.heap.Ns builtinsNs mb) (hbb : ∀ x : Str, x ≠ "__name__" → mb x = bootBuiltins x) (free : s.heap.NoLimit) (quiet : s.gens = #[])
    (obj : s.heap.get? a = some { cls := .type "list", data := .seq vs.toArray }) (one : onlyAt H a) (apart : H a ≠ none → K.lookup a = none) (ok : HOk P w H s.heap) :
    Env0 P w K mg (hidT s.heap H) callerA [] s H ∧ K.In (hidT s.heap H) ∧ (hidT s.heap H).Ns mainGlobals mg := by
  -- a record that is not the script's stands in the base
  have stay : ∀ {b : Addr} {o : Obj}, s.heap.get? b = some o → (b = a → H b = none) → (hidT s.heap H).get? b = some o := fun {b o} e n => hidT_get e (Classical.byContradiction fun t => t (n (one b t)))
  have names : ∀ {b : Addr} {m : Str → Option Value}, s.heap.Ns b m → (hidT s.heap H).Ns b m := by
    rintro b m ⟨o, es, ep, at_, dat, rest⟩
    refine ⟨o, es, ep, stay at_ fun e => ?_, dat, rest⟩
    rw [e, obj] at at_
    rw [← Option.some.inj at_] at dat
    exact nomatch (show Data.seq vs.toArray _ = Data.dict es ep from dat)
  have kin : K.In (hidT s.heap H) := fun b o e => stay (inK b o e) fun hba => by
    subst hba
    exact Classical.byContradiction fun t => by have z := apart t; rw [e] at z; cases z
  obtain ⟨mc, lim1, lim2⟩ := free
  refine ⟨{ frames := rfl, mod := ⟨kin, names hg, ⟨mb, names hb, hbb⟩, ⟨mc, names lim1, lim2⟩⟩, bs := fun _ _ e => of_hidT e, bsz := Nat.le_of_eq (hidT_size _ _), funs := trivial, frf := ?_, hok := ok, bare := AllBare.of_eq quiet }, kin, names hg⟩
  intro b z
  cases z
/-- what stood stands behind the law's call -/
theorem old_script {P : Program} {w : World} {H H2 : Hp} {h h2 : Heap} (only : Only H) (un : Un (frs []) [] H H2 h h2) (ok : HOk P w H h) (ok2 : HOk P w H2 h2) : OldK h h2 := by
  refine OldK.of_keep fun b o e => ?_
  rcases only b with z | ⟨ob, xs, z⟩
  · exact un.keep b o e z nofun nofun
  · have u1 := (ok b _ z).1
    have u2 := (ok2 b _ (un.frzs b ob _ z)).1
    rw [u1] at e
    rw [← e]
    exact u2
/-- the law's promise: of the script as a list that is never written, True comes -/
theorem law_callG {P : Program} {w : World} {K : Frag} {mg mb : Str → Option Value} {k : Nat} {fa a : Addr} {fd : FuncData} {x : Str} {sp : L2.Sp} {s : Shared} {vs : List Value} {ns : List Int}
    (inK : K.In s.heap) (hg : s.heap.Ns mainGlobals mg) (hb : s.heap.Ns builtinsNs mb) (hbb : ∀ y : Str, y ≠ "__name__" → mb y = bootBuiltins y) (free : s.heap.NoLimit) (quiet : s.gens = #[])
    (obj : s.heap.get? a = some { cls := .type "list", data := .seq vs.toArray }) (hints : IntsAre vs ns) (small : ns.length ≤ sizeLine) (room : Room k callerA)
    (F : ∀ base : Heap, K.In base → base.Ns mainGlobals mg → FnG P w K mg base false k fa fd [x] sp) (bind : ∀ (t : Shared) (u : Value), BindsTo t fd ⟨[u], []⟩ [(x, u)])
    (want : ∀ H : Hp, Only H → SqF K H a (ns.map V.int) → sp [.ref a] H (fun v _ => v = .bl true) fun _ _ _ => False) :
    codeAny (model P w) callerA (.call (.ref fa) ⟨[.ref a], []⟩) (fun r t => r = .ok (.ret (.bool true)) ∧ OldK s.heap t.heap ∧ t.os = s.os ∧ AllBare t.gens) s := by
  have vals := vals_ints hints
  have go : ∀ H : Hp, Only H → SqF K H a (ns.map V.int) → HOk P w H s.heap → onlyAt H a → (H a ≠ none → K.lookup a = none) →
      codeAny (model P w) callerA (.call (.ref fa) ⟨[.ref a], []⟩) (fun r t => r = .ok (.ret (.bool true)) ∧ OldK s.heap t.heap ∧ t.os = s.os ∧ AllBare t.gens) s := fun H only sq ok one apart => by
    obtain ⟨env, kin, nsg⟩ := env_script (P := P) (w := w) inK hg hb hbb free quiet obj one apart ok
    have call := (F _ kin nsg).run callerA [] s H ⟨[.ref a], []⟩ [.ref a] [.ref a] _ _ (roomB room false) rfl (fun z => nomatch z) env (bind s (.ref a)) (Paired.cons rfl Paired.nil) (want H only sq)
    refine codeAny_mono call fun r t out => ?_
    match r, out with
    | .error e, out => obtain ⟨_, _, _, _, _, _, _, _, _, _, _, _, no⟩ := (show L2N.CX P w [] H s (fun _ _ _ => False) e t from out); exact no.elim
    | .ok .next, out => exact False.elim out
    | .ok .brk, out => exact False.elim out
    | .ok .cont, out => exact False.elim out
    | .ok (.ret u), ⟨v, H2, os, bare, un, ok2, rel, q⟩ =>
      have ev : v = .bl true := q
      subst ev
      have eu : u = Value.bool true := rel
      subst eu
      exact ⟨rfl, old_script only un ok ok2, os, bare⟩
  by_cases hk : K.lookup a = none
  · -- the script is tracked as a list that is never written
    let Hs : Hp := fun b => if b = a then some (.frz { cls := .type "list", data := .seq vs.toArray } (.lst (ns.map V.int))) else none
    have at_ : Hs a = some (.frz { cls := .type "list", data := .seq vs.toArray } (.lst (ns.map V.int))) := if_pos rfl
    have off : ∀ b, b ≠ a → Hs b = none := fun b hb => if_neg hb
    refine go Hs (fun b => ?_) (Or.inl ⟨_, at_⟩) (fun b u e => ?_) (fun b t => Classical.byContradiction fun hb => t (off b hb)) fun _ => hk
    · exact if hb : b = a then Or.inr ⟨_, _, hb ▸ at_⟩ else Or.inl (off b hb)
    · by_cases hb : b = a
      · subst hb
        rw [at_] at e
        cases e
        refine ⟨obj, ?_, vs, _, vals, obj⟩
        rw [List.length_map]
        exact small
      · rw [off b hb] at e
        cases e
  · -- the script is an object of the module
    obtain ⟨o, ho⟩ := Option.ne_none_iff_exists'.mp hk
    have eo := inK a o ho
    rw [obj] at eo
    have eo := Option.some.inj eo
    subst eo
    refine go (fun _ => none) (fun _ => Or.inl rfl) (Or.inr ⟨_, vs.toArray, _, ho, rfl, rfl, rfl, ?_, ?_⟩) (fun b u e => nomatch (show (none : Option HO) = some u from e)) (fun b t => absurd rfl t) fun t => absurd rfl t
    · rw [List.size_toArray, hints.length]
      exact small
    · simpa using vals
theorem rel_ints {K : Frag} {H : Hp} : ∀ ns : List Int, RelDs K H (ns.map M.D.int) (ns.map V.int)
  | [] => .nil
  | n :: ns => .cons (.int n) (rel_ints ns)
/-- THE END: the promise of the law's def in the small language -/
theorem walkG {l : PySem.W.OpenLaw} {n k : Nat} {q : Program} {loose : List Str} {XP : (Str → Option Value) → Heap → Prop} {YP : World → Heap → Prop} {d : DefRec} {x : Str} {sp : M.Sp}
    (hn : l.most = some n) (hn2 : n ≤ sizeLine) (hdf : d.params.defaults = []) (hr : Room k callerA)
    (hsp : ∀ (ns : List Int), ns.length ≤ n → sp [.fl (ns.map .int)] (fun _ => none) (fun v _ => v = .bl true) fun _ _ _ => False)
    (F : ∀ (w : World) (mg : Str → Option Value) (fa : Addr) (h : Heap), YP w h → h.Ns mainGlobals mg → mg d.name = some (.ref fa) →
      ∃ (K : Frag) (fd : FuncData) (T : Tb) (G : M.Gm), K.In h ∧ (∀ (s : Shared) (u : Value), BindsTo s fd ⟨[u], []⟩ [(x, u)]) ∧
        ∀ base : Heap, K.In base → base.Ns mainGlobals mg → FnG l.prog w K mg base false k fa fd [x] (lift ⟨K, mg, T, G⟩ (M.cl sp))) :
    PySem.W.WalkO q loose XP YP l.row.toRowW d [] (fun f vs => PySem.call f vs) := by
  refine Att.attach_call hn hdf fun w s₀ s₁ mg mb fa o pm cd doc a vs ns G Y ho hd hcd hmg hobj hints hlen hg => ?_
  obtain ⟨K, fd, T, Gm, KX, hb, hF⟩ := F w mg fa _ Y G.T.g hmg
  refine law_callG KX G.T.g G.T.b G.T.builtins G.T.nolimit hg hobj hints (Nat.le_trans hlen hn2) hr hF hb fun H hO hS => ?_
  refine ⟨[.fl (ns.map .int)], fun _ => none, _, _, .cons (.fl hS (rel_ints ns)) .nil, (fun a o e => by cases e), M.cl_of (hsp ns hlen), fun d S' v H' f r rd q => ?_, fun _ _ _ _ _ _ _ _ _ q => False.elim q⟩
  subst q
  cases rd
  rfl
end Snd
namespace Snd
open PySem PySem.Spec PyProof.Rows L2
section
variable {K : Frag} {x qual : Str} {params : Arguments} {body : List Stmt} {scope : Scope} {kws : List (Str × V)} {f : Addr} {fd : FuncData} {ps ks : List Str} {m : Nat} {perm : List Nat}
theorem kb_of (F : FunD K x qual params body scope [] kws f fd)
    (h : ∀ (kV doc pm : Value) (an : Option Addr) (cdv ct : Value) (us ws : List Value), us.length = m → ws.length = ks.length → bindArgs (PySem.W.fnOf x qual params body scope .none kV doc pm an cdv ct) ⟨us, ks.zip ws⟩ = pure (ps.zip (perm.filterMap fun i => (us ++ ws)[i]?))) : KB K fd ps m ks perm := by
  obtain ⟨oc, od, dV, kV, doc, pm, an, cdv, ct, osl, rfl, lk, hcd, hD, hK⟩ := F.ex
  rcases hD with ⟨_, rfl⟩ | ⟨e, _⟩
  · exact fun s us ws _ h1 h2 => .of_eq (h kV doc pm an cdv ct us ws h1 h2)
  · exact absurd rfl e
/-- the same of a def with defaults, none of which is taken -/
theorem kb_ofD {dvs : List V} (hd : dvs ≠ []) (F : FunD K x qual params body scope dvs kws f fd)
    (h : ∀ (T : Addr) (kV doc pm : Value) (an : Option Addr) (cdv ct : Value) (us ws its : List Value), us.length = m → ws.length = ks.length → its.length = dvs.length → ∃ r, bindArgs (PySem.W.fnOf x qual params body scope (.ref T) kV doc pm an cdv ct) ⟨us, ks.zip ws⟩ = seqItems? (.ref T) >>= r ∧ r (some its.toArray) = pure (ps.zip (perm.filterMap fun i => (us ++ ws)[i]?))) : KB K fd ps m ks perm := by
  obtain ⟨oc, od, dV, kV, doc, pm, an, cdv, ct, osl, rfl, lk, hcd, hD, hK⟩ := F.ex
  rcases hD with ⟨e, _⟩ | ⟨_, T, o, its, n, rfl, lT, oT, rT⟩
  · exact absurd e hd
  · intro s us ws X h1 h2
    obtain ⟨r, e1, e2⟩ := h T kV doc pm an cdv ct us ws its h1 h2 rT.length.symm
    refine BindsTo.of_looks fun M => ?_
    rw [e1]
    exact looks_items X lT oT (.of_pure e2)
end
/-- the classes of objects -/
structure Objs where
  ob : Nat → Option Nat
  mt : Nat → M.Tx → Option Nat
  os : Nat → Nat → Bool
/-- the specs below n -/
def stage (sb : Nat → Nat → Bool) (ad : Nat → Option Nat) (oj : Objs) (sp : Nat → M.Sp) (con : Nat → M.D) (n : Nat) : M.Gm := ⟨M.upto n sp, con, sb, ad, rpF, oj.ob, oj.mt, oj.os, none⟩
theorem never_fn {c : Cn} {hot : Bool} {P : Program} {w : World} {base : Heap} {k : Nat} {f : Addr} {fd : FuncData} {ps : List Str} {sp : M.Sp} (h : ∀ ds S Q X, ¬ sp ds S Q X) : FnG P w c.K c.mg base hot k f fd ps (lift c (M.cl sp)) :=
  .never fun vs H Q E ⟨ds, S, Qd, Xd, _, _, ⟨Q0, X0, q, _⟩, _⟩ => h _ _ _ _ q
/-- all defs of a text, callees first; lev n: the room that the n-th wants below it, cost n: its own (a recursive def: its depth) -/
theorem chain {P : Program} {w : World} {K : Frag} {mg : Str → Option Value} {T : Tb} {base : Heap} {sp : Nat → M.Sp} {con : Nat → M.D} {sb : Nat → Nat → Bool} {ad : Nat → Option Nat} {oj : Objs} (lev cost : Nat → Nat) (hl : ∀ m n, m < n → lev m + cost m ≤ lev n) (sy : SysK K) (er : Errs K mg T (stage sb ad oj sp con 0)) (oc : Obs K mg T (stage sb ad oj sp con 0)) (bt : ∀ x ∈ T.bts, mg x = none) (xi : ∀ cc n, (cc, n) ∈ T.xin → ∃ C, ad cc = some C ∧ XIn P w K mg base 1 C (stx n)) (hv : T.xin ≠ [] → ∀ n, 1 ≤ lev n)
    (cn : ∀ n x, T.cons[n]? = some x → ∃ u v, mg x = some u ∧ RelV v u ∧ ∀ H, RelD K H (con n) v)
    (D : ∀ n x, T.fns[n]? = some x → ∃ f fd ps, Def K mg T n x f fd ps ∧ ∀ k, Law ⟨K, mg, T, stage sb ad oj sp con n⟩ P w base k → FnG P w K mg base (T.hots.contains n) (k + cost n) f fd ps (lift ⟨K, mg, T, stage sb ad oj sp con n⟩ (M.cl (sp n)))) :
    ∀ n, Law ⟨K, mg, T, stage sb ad oj sp con n⟩ P w base (lev n) := by
  have go : ∀ N n, n < N → ∀ x, T.fns[n]? = some x → ∃ f fd ps, Def K mg T n x f fd ps ∧ ∀ G, FnG P w K mg base (T.hots.contains n) (lev n + cost n) f fd ps (lift ⟨K, mg, T, G⟩ (M.cl (sp n))) := by
    intro N
    induction N with
    | zero => exact fun _ h => absurd h (Nat.not_lt_zero _)
    | succ N ih =>
      intro n hn x hx
      obtain ⟨f, fd, ps, d, F⟩ := D n x hx
      refine ⟨f, fd, ps, d, fun G => F (lev n) ⟨rfl, bt, cn, fun m y hy => ?_, sy, ⟨er.at_, er.ok, er.ve, er.ex, er.fl⟩, fun cc m h => let ⟨C, a, x⟩ := xi cc m h; ⟨C, a, x.mono (hv (List.ne_nil_of_mem h) n)⟩, ⟨oc.gm, oc.nm, fun k C e => { oc.ok k C e with }⟩⟩⟩
      by_cases hm : m < n
      · obtain ⟨g, gd, qs, d2, F2⟩ := ih m (by omega) y hy
        refine ⟨g, gd, qs, d2, ?_⟩
        have e : (stage sb ad oj sp con n).fn m = sp m := if_pos hm
        rw [show (Cn.G ⟨K, mg, T, stage sb ad oj sp con n⟩) = stage sb ad oj sp con n from rfl, e]
        exact (F2 _).mono (hl m n hm)
      · obtain ⟨g, gd, qs, d2, _⟩ := D m y hy
        refine ⟨g, gd, qs, d2, ?_⟩
        have e : (stage sb ad oj sp con n).fn m = fun _ _ _ _ => False := if_neg hm
        rw [show (Cn.G ⟨K, mg, T, stage sb ad oj sp con n⟩) = stage sb ad oj sp con n from rfl, e]
        exact never_fn (c := ⟨K, mg, T, stage sb ad oj sp con n⟩) fun _ _ _ _ q => q
  refine fun n => ⟨rfl, bt, cn, fun m y hy => ?_, sy, ⟨er.at_, er.ok, er.ve, er.ex, er.fl⟩, fun cc m h => let ⟨C, a, x⟩ := xi cc m h; ⟨C, a, x.mono (hv (List.ne_nil_of_mem h) n)⟩, ⟨oc.gm, oc.nm, fun k C e => { oc.ok k C e with }⟩⟩
  by_cases hm : m < n
  · obtain ⟨g, gd, qs, d2, F2⟩ := go (m + 1) m (Nat.lt_succ_self m) y hy
    refine ⟨g, gd, qs, d2, ?_⟩
    have e : (stage sb ad oj sp con n).fn m = sp m := if_pos hm
    rw [show (Cn.G ⟨K, mg, T, stage sb ad oj sp con n⟩) = stage sb ad oj sp con n from rfl, e]
    exact (F2 _).mono (hl m n hm)
  · obtain ⟨g, gd, qs, d2, _⟩ := D m y hy
    refine ⟨g, gd, qs, d2, ?_⟩
    have e : (stage sb ad oj sp con n).fn m = fun _ _ _ _ => False := if_neg hm
    rw [show (Cn.G ⟨K, mg, T, stage sb ad oj sp con n⟩) = stage sb ad oj sp con n from rfl, e]
    exact never_fn (c := ⟨K, mg, T, stage sb ad oj sp con n⟩) fun _ _ _ _ q => q
/-- a text without recursion -/
theorem chain_law {P : Program} {w : World} {K : Frag} {mg : Str → Option Value} {T : Tb} {base : Heap} {sp : Nat → M.Sp} {con : Nat → M.D} {sb : Nat → Nat → Bool} {ad : Nat → Option Nat} {oj : Objs} (sy : SysK K) (er : Errs K mg T (stage sb ad oj sp con 0)) (oc : Obs K mg T (stage sb ad oj sp con 0)) (bt : ∀ x ∈ T.bts, mg x = none) (xi : ∀ cc n, (cc, n) ∈ T.xin → ∃ C, ad cc = some C ∧ XIn P w K mg base 1 C (stx n)) (hv : T.xin = [])
    (cn : ∀ n x, T.cons[n]? = some x → ∃ u v, mg x = some u ∧ RelV v u ∧ ∀ H, RelD K H (con n) v)
    (D : ∀ n x, T.fns[n]? = some x → ∃ f fd ps, Def K mg T n x f fd ps ∧ ∀ k, Law ⟨K, mg, T, stage sb ad oj sp con n⟩ P w base k → FnG P w K mg base (T.hots.contains n) (k + 1) f fd ps (lift ⟨K, mg, T, stage sb ad oj sp con n⟩ (M.cl (sp n)))) (n : Nat) :
    Law ⟨K, mg, T, stage sb ad oj sp con n⟩ P w base n := chain (fun n => n) (fun _ => 1) (fun _ _ h => h) sy er oc bt xi (fun h => absurd hv h) cn D n
/-- a recursive def: its promise with fuel; a call of itself spends some -/
theorem rec_fn {P : Program} {w : World} {K : Frag} {mg : Str → Option Value} {T : Tb} {base : Heap} {sp : Nat → M.Sp} {con : Nat → M.D} {sb : Nat → Nat → Bool} {ad : Nat → Option Nat} {oj : Objs} {n k : Nat} {x : Str} {f : Addr} {fd : FuncData} {ps : List Str} (L : Law ⟨K, mg, T, stage sb ad oj sp con n⟩ P w base k) (d : Def K mg T n x f fd ps) (hx : T.fns[n]? = some x)
    (fuel : Nat → M.Sp) (h0 : ∀ ds S Q X, ¬ fuel 0 ds S Q X)
    (step : ∀ m k, Law ⟨K, mg, T, { stage sb ad oj sp con n with fn := fun i => if i = n then fuel m else M.upto n sp i }⟩ P w base k → FnG P w K mg base (T.hots.contains n) (k + 1) f fd ps (lift ⟨K, mg, T, stage sb ad oj sp con n⟩ (M.cl (fuel (m + 1))))) :
    ∀ m, FnG P w K mg base (T.hots.contains n) (k + m) f fd ps (lift ⟨K, mg, T, stage sb ad oj sp con n⟩ (M.cl (fuel m)))
  | 0 => never_fn (c := ⟨K, mg, T, stage sb ad oj sp con n⟩) (h0)
  | m + 1 => step m (k + m) ⟨rfl, L.bt, L.con, fun i y hy => by
    by_cases hi : i = n
    · subst hi
      have e : x = y := Option.some.inj (hx.symm.trans hy)
      subst e
      refine ⟨f, fd, ps, d, ?_⟩
      show FnG P w K mg base (T.hots.contains i) (k + m) f fd ps (lift _ (M.cl (if i = i then fuel m else M.upto i sp i)))
      rw [if_pos rfl]
      exact rec_fn L d hx fuel h0 step m
    · obtain ⟨g, gd, qs, d2, F2⟩ := L.fns i y hy
      refine ⟨g, gd, qs, d2, ?_⟩
      show FnG P w K mg base (T.hots.contains i) (k + m) g gd qs (lift _ (M.cl (if i = n then fuel m else M.upto n sp i)))
      rw [if_neg hi]
      exact F2.mono (Nat.le_add_right _ _), L.sys, ⟨L.er.at_, L.er.ok, L.er.ve, L.er.ex, L.er.fl⟩, fun cc q h => let ⟨C, a, x⟩ := L.xi cc q h; ⟨C, a, x.mono (Nat.le_add_right _ _)⟩, ⟨L.oc.gm, L.oc.nm, fun k C e => { L.oc.ok k C e with }⟩⟩
/-- with some fuel below B -/
theorem rec_all {c : Cn} {hot : Bool} {P : Program} {w : World} {base : Heap} {k B : Nat} {f : Addr} {fd : FuncData} {ps : List Str} {fuel : Nat → M.Sp} (F : ∀ m, FnG P w c.K c.mg base hot (k + m) f fd ps (lift c (M.cl (fuel m)))) :
    FnG P w c.K c.mg base hot (k + B) f fd ps (lift c (M.cl fun ds S Q X => ∃ m, m < B ∧ fuel m ds S Q X)) where
  len := fun vs H Q E ⟨ds, S, Qd, Xd, r1, r2, ⟨Q0, X0, ⟨m, _, q⟩, g1, g2⟩, h1, h2⟩ => (F m).len vs H Q E ⟨ds, S, Qd, Xd, r1, r2, ⟨Q0, X0, q, g1, g2⟩, h1, h2⟩
  run := fun A outer s H args us vs Q E hr hg ht e0 hb rv ⟨ds, S, Qd, Xd, r1, r2, ⟨Q0, X0, ⟨m, hm, q⟩, g1, g2⟩, h1, h2⟩ => ((F m).mono (Nat.add_le_add_left (Nat.le_of_lt hm) k)).run A outer s H args us vs Q E hr hg ht e0 hb rv ⟨ds, S, Qd, Xd, r1, r2, ⟨Q0, X0, q, g1, g2⟩, h1, h2⟩
  star := fun A outer s H u1 u2 ws rest Q E hr hg h0 e0 hb rv rr hz ⟨ds, S, Qd, Xd, r1, r2, ⟨Q0, X0, ⟨m, hm, q⟩, g1, g2⟩, h1, h2⟩ => ((F m).mono (Nat.add_le_add_left (Nat.le_of_lt hm) k)).star A outer s H u1 u2 ws rest Q E hr hg h0 e0 hb rv rr hz ⟨ds, S, Qd, Xd, r1, r2, ⟨Q0, X0, q, g1, g2⟩, h1, h2⟩
end Snd
namespace Snd
open PySem PySem.Spec PyProof.Rows L2 ClX StX
/-! ### at a def's own code -/
structure PEA (X : Cx) (cd : Code) (e : Expr) (t : TE) : Prop where
  run : ∀ (pins : List (Addr × Obj)) (s : Shared) (σ : Sl) (H : Hp) (Q : VK), Inv X pins σ H s → t σ H Q → _root_.PySem.wpAt (model X.prog X.w) X.A cd (eval e X.env) (EP X pins σ Q) X.xe s
structure PAA (X : Cx) (cd : Code) (es : List Expr) (t : TA) : Prop where
  run : ∀ (pos : Pos) (pins : List (Addr × Obj)) (s : Shared) (σ : Sl) (H : Hp) (Q : List V → Hp → Prop), Inv X pins σ H s → t σ H Q → _root_.PySem.wpAt (model X.prog X.w) X.A cd (spliced (backTo pos (starEach es X.env))) (AP X pins σ Q) X.xe s
structure PSA (X : Cx) (cd : Code) (st : Stmt) (t : TS) : Prop where
  run : ∀ (pins : List (Addr × Obj)) (s : Shared) (σ : Sl) (H : Hp) (D : Ends), Inv X pins σ H s → t D σ H → _root_.PySem.wpAt (model X.prog X.w) X.A cd (exec st X.env) (SP X pins D) X.xe s
structure PSsA (X : Cx) (cd : Code) (st : List Stmt) (t : TS) : Prop where
  run : ∀ (pins : List (Addr × Obj)) (s : Shared) (σ : Sl) (H : Hp) (D : Ends), Inv X pins σ H s → t D σ H → _root_.PySem.wpAt (model X.prog X.w) X.A cd (execs st X.env) (SP X pins D) X.xe s
section
variable {X : Cx} {cd : Code} {e : Expr} {es : List Expr} {st : Stmt} {rest : List Stmt} {te : TE} {ta : TA} {t u : TS} {pos p : Pos}
theorem PEA.imp {t' : TE} (h : PEA X cd e te) (i : ∀ σ H Q, t' σ H Q → te σ H Q) : PEA X cd e t' := ⟨fun pins s σ H Q I q => h.run pins s σ H Q I (i σ H Q q)⟩
theorem PAA.imp {t' : TA} (h : PAA X cd es ta) (i : ∀ σ H Q, t' σ H Q → ta σ H Q) : PAA X cd es t' := ⟨fun pos pins s σ H Q I q => h.run pos pins s σ H Q I (i σ H Q q)⟩
theorem PSA.imp {t' : TS} (h : PSA X cd st t) (i : ∀ D σ H, t' D σ H → t D σ H) : PSA X cd st t' := ⟨fun pins s σ H D I q => h.run pins s σ H D I (i D σ H q)⟩
theorem PSsA.imp {t' : TS} (h : PSsA X cd rest t) (i : ∀ D σ H, t' D σ H → t D σ H) : PSsA X cd rest t' := ⟨fun pins s σ H D I q => h.run pins s σ H D I (i D σ H q)⟩
theorem PSA.of (h : PS X st t) : PSA X cd st t := ⟨fun pins s σ H D I q => PySem.wpAt_of_wpAny (h.run pins s σ H D I q)⟩
theorem pssA_nil : PSsA X cd [] tNext := ⟨fun pins s σ H D I q => PySem.wpAt_of_wpAny (pss_nil.run pins s σ H D I q)⟩
theorem pssA_cons (h1 : PSA X cd st t) (h2 : PSsA X cd rest u) : PSsA X cd (st :: rest) (tSeq t u) := by
  refine ⟨fun pins s σ H D I h => ?_⟩
  refine ks_wpAt_execs_cons (ks_wpAt_mono (h1.run pins s σ H { D with nx := u D } I h) (fun f s1 q => ?_) fun _ _ z => z)
  cases f with
  | next =>
    obtain ⟨σ', H', I', q⟩ := q
    exact h2.run pins s1 σ' H' D I' q
  | ret v => exact q
  | brk => exact q
  | cont => exact q
theorem psA_expr (he : PEA X cd e te) (hs : swapsWith e none pos.line X.env = pure false := by rfl) : PSA X cd (.Expr e pos) (tDrop te) :=
  ⟨fun pins s σ H D I h => ks_wpAt_Expr_any (ks_wpAt_mono (he.run pins s σ H _ I h) (fun v s1 ⟨x, H1, I1, r1, q1⟩ => ⟨σ, H1, I1, q1⟩) fun _ _ z => z) I.quiet hs⟩
theorem psA_ret (he : PEA X cd e te) : PSA X cd (.Return (some e) pos) (tRet te) :=
  ⟨fun pins s σ H D I h => ks_wpAt_Return_some (ks_wpAt_mono (he.run pins s σ H _ I h) (fun v s1 ⟨x, H1, I1, r1, q1⟩ => ⟨x, σ, H1, I1, r1, q1⟩) fun _ _ z => z)⟩
theorem peA_lst (h : PAA X cd es ta) : PEA X cd (.List es pos) (tLst ta) := by
  refine ⟨fun pins s σ H Q I hq => ?_⟩
  rw [arm_eval_List]
  refine PySem.wpAt_bind (PySem.wpAt_of_wpAny (wpAny_standAt (PySem.wpAt_bind (ks_wpAt_mono (h.run pos pins s σ H _ I hq) (fun us s1 ⟨xs, H1, I1, r, z, q⟩ => PySem.wpAt_of_wpAny (wpAny_newList ?_ (by rw [← r.length]; exact z))) fun _ _ z => z))))
  have hf : H1 s1.heap.objs.size = none := I1.hok.fresh (Nat.le_refl _)
  refine ⟨.ref s1.heap.objs.size, L2.upd H1 s1.heap.objs.size (.lst xs), I1.laid (t' := s1.toks) (fun b u e => Heap.get?_push_of_some _ e) (Nat.le_refl _) ?_, rfl, q _ hf⟩
  exact ⟨z, us, 0, r, Heap.get?_push_size _ rfl⟩
theorem ksA_spliced {M : Model} {A : Around} {E : Value → Shared → Prop} {s : Shared} {x : Sem Value} {rest : List (Bool × Sem Value)} {Q : List Value → Shared → Prop}
    (h : _root_.PySem.wpAt M A cd x (fun v s₁ => PySem.W.StarOf M A E v (fun here s₂ => wpAny M A (spliced rest) (fun vs s₃ => Q (here ++ vs) s₃) E s₂) s₁) E s) :
    _root_.PySem.wpAt M A cd (spliced ((true, (do let v ← x; standAt pos; pure v)) :: rest)) Q E s := by
  rw [spliced]
  refine PySem.wpAt_bind (PySem.wpAt_bind (ks_wpAt_mono h (fun v s₁ h₁ => PySem.wpAt_of_wpAny (wpAny_bind (wpAny_standAt (wpAny_pure ?_)))) fun _ _ x => x))
  refine PySem.wpAt_of_wpAny ?_
  unfold PySem.W.StarOf at h₁
  refine wpAny_bind (wpAny_mono h₁ (fun b s₂ h₂ => ?_) fun _ _ x => x)
  obtain ⟨rfl, h₂⟩ := h₂
  have z := wpAny_mono h₂ (fun here s₃ h₃ => (show wpAny M A (holding here (spliced rest) >>= fun r => pure (here ++ r)) Q E s₃ from
    wpAny_bind (wpAny_holding (wpAny_mono h₃ (fun vs s₄ h₄ => wpAny_pure h₄) fun _ _ x => x)))) fun _ _ x => x
  try simp only [Bool.false_eq_true, if_false]
  first
    | exact wpAny_bind z
    | exact z
    | exact wpAny_bind (wpAny_pure z)
theorem paA_star (he : PEA X cd e te) (hr : PA X es ta) (hs : starEach (.Starred e p :: es) X.env = (true, eval e X.env) :: starEach es X.env := by rfl) :
    PAA X cd (.Starred e p :: es) (tStar X.K te ta) := by
  refine ⟨fun pos pins s σ H Q I h => ?_⟩
  rw [hs]
  refine ksA_spliced (ks_wpAt_mono (he.run pins s σ H _ I h) (fun v s1 ⟨y, H1, I1, ry, a, xs, ey, hx, q⟩ => ?_) fun _ _ z => z)
  subst ey
  obtain rfl : v = Value.ref a := ry
  refine star_any I1 hx fun us s2 I2 rv => ?_
  exact thn (hr.run pos pins s2 σ H1 _ I2 q) fun ws s3 ⟨vs, H3, I3, r3, q3⟩ => ⟨xs ++ vs, H3, I3, rv.append r3, q3⟩
end
/-! ### super().m(..) -/
/-- how a def stands that says super(): its class is D -/
structure SupX (X : Cx) (D : Addr) : Prop where
  fn : ∃ (f : Addr) (oc : Value) (od : Option Addr) (fd : FuncData) (osl : Array (Option Value)) (ar : Arg), X.env.func = some f ∧ X.K.lookup f = some ⟨oc, od, .func fd, osl⟩ ∧ (fd.params.posonlyargs ++ fd.params.args).head? = some ar ∧ X.N[0]? = some ar.arg ∧ X.env.kindOf ar.arg = some .local
  cd : ∃ (cda : Addr) (ccl : Value) (cdd : Option Addr) (vs : Array Value) (ccs : Array (Option Value)) (file : Str) (tf : Tok), X.env.code = .ref cda ∧ X.K.lookup cda = some ⟨ccl, cdd, .fields vs, ccs⟩ ∧ vs[2]? = some (.str file tf) ∧ ((X.prog.main.file : Str) == file) = true
  ce : ∃ (cc : Addr) (cl : Value) (cld : Option Addr) (csl : Array (Option Value)), X.env.cells.lookup ("__class__" : Str) = some cc ∧ X.K.lookup cc = some ⟨cl, cld, .cell (some (.ref D)), csl⟩
  ks : X.env.kindOf "super" = some .globalImplicit
  kc : X.env.kindOf "__class__" = some .free
  top : (X.prog.main.scope.names.lookup ("super" : Str)).isSome = false
  mg : X.mg "super" = none
theorem sup_eval {o : Expr} {m : Str} {apos pos : Pos} {args : List Expr} {env : Env} (hf : methodCallForm (args.length + ([] : List Keyword).length) (backTo pos (starEach args env)) (backToKw pos (keywordEach [] env)) = true) (hl : (apos.endLine == pos.line) = true) :
    eval (.Call (.Attribute o m apos) args [] pos) env = (do
      let ov ← attributeBase o m env (eval o env)
      standAt apos.atName
      let (f, first) ← holding [ov] (getMethod ov m (plainOf o env))
      callWith pos f first (backTo pos (starEach args env)) []) := by
  rw [arm_eval_Call]
  congr 1
  funext ov
  congr 1
  funext _
  exact mcall_line hf hl
section
variable {c : Cn} {k : Nat} {N : List Str} {sc : Scope} {X : Cx} {W : WX} {D : Addr} {body : List Stmt}
theorem boot_super : bootBuiltins "super" = some (.type "super") := by decide +kernel
/-- the object at the first parameter, and what super() finds -/
def RSu (c : Cn) (d : Nat) (m : M.Tx) (σ : Sl) (H : Hp) (P : Addr → Nat → Prop) : Prop := ∃ a C dx fs kk n, σ[0]? = some (some (.ref a)) ∧ H a = some (.ins C dx fs) ∧ c.G.ob kk = some C ∧ c.G.mt kk (M.supN d m) = some n ∧ P a n
theorem peA_super (o : Ok c k N sc X W) (hh : c.T.hot = false) (sx : SupX X D) {d : Nat} (hd : c.G.ob d = some D) {m : M.Tx} (hcl : (stx m == ("__class__" : Str)) = false) {es : List Expr} {p0 p1 apos cpos : Pos} {t : TA} (hl : (apos.endLine == cpos.line) = true) (ha : PA X es t) (hpl : es.all plB = true) (hn : es.length < 29) (h0 : es = [] → ∀ σ H Q, t σ H Q → Q [] H) :
    PEA X (.func body X.env) (.Call (.Attribute (.Call (.Name "super" p0) [] [] p1) (stx m) apos) es [] cpos) (fun σ H Q => RSu c d m σ H fun a n => t σ H fun vs H2 => lift c (M.cl (c.G.fn n)) (.ref a :: vs) H2 Q (WE W σ)) := by
  refine ⟨fun pins s σ H Q I h => ?_⟩
  obtain ⟨a, C, dx, fs, kk, n, ea, ha0, ek, en, q⟩ := h
  obtain ⟨f, oc, od, fd, osl, ar, ef, lf, hp, n0, ka⟩ := sx.fn
  obtain ⟨cda, ccl, cdd, vs, ccs, file, tf, ecd, lcd, hvs, hfile⟩ := sx.cd
  obtain ⟨cc, cl, cld, csl, ecc, lcc⟩ := sx.ce
  obtain ⟨x, f2, fd2, ps, hm, Dn, F⟩ := o.meth en
  have oc2 := o.oc.ok kk C ek
  rw [← o.eK] at oc2
  obtain ⟨q', D', eq, eD, su⟩ := oc2.su d m n en
  obtain rfl : D' = D := Option.some.inj (eD.symm.trans hd)
  have ef2 := Dn.at_ q' eq
  subst ef2
  have rm : RoomB false k X.A := by have := o.room; rw [hh] at this; exact this
  have kin := I.kIn
  obtain ⟨oD, cdD, lD, hD2⟩ : ∃ oD cdD, s.heap.get? D' = some oD ∧ oD.data = .cls cdD := by
    obtain ⟨cdD, e⟩ := Option.isSome_iff_exists.mp su.cd
    unfold PySem.W.clsIn at e
    split at e
    · rename_i c1 d1 cd' sl ho
      cases e
      exact ⟨_, _, kin _ _ ho, rfl⟩
    · cases e
  have J := inst_at I ha0
  obtain ⟨odx, J⟩ := J
  obtain ⟨mL, hns, hlk⟩ := I.loc
  obtain ⟨u, ru, lk⟩ := hlk 0 ar.arg (.ref a) n0 ea (.inl ka)
  obtain rfl : u = Value.ref a := ru
  have hmL : mL ar.arg = some (.ref a) := by
    rcases lk with l | ⟨l, _⟩
    · exact l.2
    · rw [ka] at l
      rcases l with l | l <;> cases l
  have hks := sx.ks
  refine ks_wpAt_MethodCall (pl := plainOf (.Call (.Name "super" p0) [] [] p1) X.env) ?_ (sup_eval (form0 hpl hn) hl)
  refine ks_wpAt_super_base hks sx.kc hcl ef (kin _ _ lf) rfl hp ecd (kin _ _ lcd) rfl hvs hfile sx.top ?_
  obtain ⟨mb, b1, b2⟩ := I.mod.blt
  refine PySem.W.ks_loadName_global I.ok.kind hks (Calls.loadGlobal_builtin (by rw [I.ok.glob]; exact I.mod.glob.keeps I.bk) sx.mg (by rw [I.ok.blt]; exact b1.keeps I.bk) ((b2 _ (by decide +kernel)).trans boot_super) ⟨rfl, ?_⟩)
  refine wpAny_loadName_free I.ok.kind sx.kc ecc ⟨_, kin _ _ lcc, rfl⟩ ?_
  refine wpAny_loadName_local I.ok.kind ka hns hmL ?_
  refine ks_wpAny_isType_cls lD hD2 ⟨rfl, ?_⟩
  have noc : ∀ c', (PySem.W.instObj C dx).data ≠ .cls c' := fun c' e => by cases e
  have hlen0 : s.heap.objs.size ≤ s.heap.objs.size := Nat.le_refl _
  obtain ⟨hh0, g0, d0, t0, os0⟩ := s
  refine ks_wpAny_call_super lD hD2 J.at_ J.cls noc (PySem.W.looks_mroIn kin su.sub) fun h' e1 k1 => ?_
  have I1 := pin_new (t' := t0) I k1 hlen0 e1 (fun v z => nomatch z)
  have kin1 := I1.kIn
  -- the method
  obtain ⟨cdC, hcC, hal⟩ : ∃ cdC, PySem.W.clsIn X.K C = some cdC ∧ PySem.W.alongIn X.K (stx m) ((cdC.mro.dropWhile (· != .ref D')).drop 1) = some (some (.ref (plA X.K q'))) := by
    have z := su.hm
    unfold PySem.W.ks_superIn at z
    cases hc : PySem.W.clsIn X.K C with
    | none => rw [hc] at z; cases z
    | some cd => rw [hc] at z; exact ⟨cd, rfl, z⟩
  obtain ⟨of, lof, ofc⟩ : ∃ of, X.K.lookup (plA X.K q') = some of ∧ of.cls = .type "function" := by
    have ht' : (X.K.lookup (plA X.K q')).map (·.cls) = some (.type "function") := su.ty
    cases z : X.K.lookup (plA X.K q') with
    | none => rw [z] at ht'; cases ht'
    | some of => rw [z] at ht'; exact ⟨of, rfl, Option.some.inj ht'⟩
  refine ks_wpAny_getMethod_super (l₀ := cdC.mro) e1 (PySem.W.looks_opaque kin1 su.op) (fun A Q E s k q => wpAny_bind ((PySem.W.looks_clsIn kin1 hcC) A _ E s k (wpAny_pure q))) rfl kin1 hal (kin1 _ _ lof) ofc (PySem.W.ks_ne kin J hcC) hcl ?_
  have I2 := pin_new (t' := t0 + 1) I1 (fun b o z => Heap.get?_push_of_some _ z) (Nat.le_refl _) (Heap.get?_push_size h' (o := ({ cls := .type "method", data := .fields #[.ref (plA X.K q'), .ref a] } : Obj)) rfl) (fun v z => nomatch z)
  have go : ∀ {s2 : Shared} {H2 : Hp} {us : List Value} {vs : List V}, Inv X ((h'.objs.size, PySem.W.methodObj (.ref (plA X.K q')) (.ref a)) :: (hh0.objs.size, PySem.W.ks_superObj D' a C) :: pins) σ H2 s2 → Vals vs us → lift c (M.cl (c.G.fn n)) (.ref a :: vs) H2 Q (WE W σ) →
      wpAny (model X.prog X.w) X.A (call (.ref h'.objs.size) us) (EP X pins σ Q) X.xe s2 := by
    intro s2 H2 us vs I3 r q2
    have r2 : Vals (V.ref a :: vs) (Value.ref a :: us) := .cons rfl r
    have hlen : (Value.ref a :: us).length = ps.length := by rw [← r2.length]; exact F.len _ _ _ _ q2
    have b := Dn.bd ((o.sts en).trans rfl) s2 (Value.ref a :: us) I3.kIn (by rw [List.append_nil]; exact hlen)
    rw [List.append_nil] at b
    refine thn (Q := EP X ((h'.objs.size, PySem.W.methodObj (.ref (plA X.K q')) (.ref a)) :: (hh0.objs.size, PySem.W.ks_superObj D' a C) :: pins) σ Q) ?_ fun _ _ y => unpinE (unpinE y)
    refine wpAny_call (PySem.W.method_call (pin_at I3) (codeAny_mono (F.run X.A X.stack s2 H2 ⟨Value.ref a :: us, []⟩ (Value.ref a :: us) (V.ref a :: vs) Q (WE W σ) rm o.gd (fun z => nomatch z) I3.env0 b r2 q2) fun r s' hq => ?_))
    cases r with
    | error e => exact pass_ok o σ _ H2 s2 e s' I3 hq
    | ok fl =>
      cases fl with
      | ret u => exact I3.after hq
      | next => exact False.elim hq
      | brk => exact False.elim hq
      | cont => exact False.elim hq
  cases es with
  | nil => exact PySem.W.callWith_M0 ⟨pin_at I2, I2.kIn⟩ su.fi (go I2 .nil (h0 rfl _ _ _ q))
  | cons e es =>
    have hp' := and2 (show (plB e && es.all plB) = true from hpl)
    refine callwith_cm I2 (base_none I1 (Nat.le_refl _)) su.fi (thn (ha.run cpos _ _ σ H _ I2 q) fun us s3 ⟨vs, H2, I3, rv, q2⟩ => ⟨⟨pin_at I3, I3.kIn⟩, ?_⟩) (plB_star hp'.1) (plB_all hp'.2)
    exact go I3 rv q2
end
/-! ### the check of a def that says super() -/
def supCall (T : Tb) (N : List Str) (sc : Scope) (dk : Nat) (e : M.Ex) (ex : Expr) : Bool := match e, ex with
  | .mth (43 :: d :: m) (.v 0) es, .Call (.Attribute (.Call (.Name s0 _) [] [] _) nm apos) es' [] cpos =>
    decide (s0 = "super") && decide (d = dk) && decide (nm = stx m) && !(stx m == ("__class__" : Str)) && (apos.endLine == cpos.line) && es'.all plB && decide (es'.length < 29) && chkEs T N es sc es'
  | _, _ => false
def chkSA (T : Tb) (N : List Str) (dk : Nat) (st : M.St) (sc : Scope) (ex : Stmt) : Bool := match st, ex with
  | .ex e, .Expr e' _ => if supCall T N sc dk e e' then true else chkS T N st sc ex
  | .ret (.lst (.star e r)), .Return (some (.List (.Starred e' _ :: r') _)) _ => if supCall T N sc dk e e' && chkEs T N r sc r' then true else chkS T N st sc ex
  | _, _ => chkS T N st sc ex
def chkSsA (T : Tb) (N : List Str) (dk : Nat) : M.Ss → Scope → List Stmt → Bool
  | .nil, _, ex => ex.isEmpty
  | .cons s r, sc, ex => match ex with
    | s' :: r' => chkSA T N dk s sc s' && chkSsA T N dk r sc r'
    | [] => false
section
variable {c : Cn} {k : Nat} {N : List Str} {sc : Scope} {X : Cx} {W : WX} {D : Addr} {body : List Stmt} {d : Nat}
theorem supOk {e : M.Ex} {ex : Expr} (h : supCall c.T N sc d e ex = true) (o : Ok c k N sc X W) (hh : c.T.hot = false) (sx : SupX X D) (hd : c.G.ob d = some D) :
    PEA X (.func body X.env) ex (tE c W e) ∧ ∀ l env, swapsWith ex none l env = pure false := by
  unfold supCall at h
  split at h
  · rename_i d' m es s0 q1 q2 nm apos es' cpos
    obtain ⟨h, h8⟩ := and2 h
    obtain ⟨h, h7⟩ := and2 h
    obtain ⟨h, h6⟩ := and2 h
    obtain ⟨h, h5⟩ := and2 h
    obtain ⟨h, h4⟩ := and2 h
    obtain ⟨h, h3⟩ := and2 h
    obtain ⟨h1, h2⟩ := and2 h
    have e1 := of_decide_eq_true h1
    have e2 := of_decide_eq_true h2
    have e3 := of_decide_eq_true h3
    subst e1 e2 e3
    refine ⟨PEA.imp (peA_super o hh sx hd (not1 h4) h5 (paOk es h8 o) h6 (of_decide_eq_true h7) fun e => pnOk (c := c) (k := k) es h8 e) fun σ H Q ⟨ρ, S, Qd, Xd, hl, re, r, w, hq, hx⟩ => ?_, fun _ _ => rfl⟩
    obtain ⟨x, ex, w⟩ := opt_of (show M.opt (M.look ρ 0) _ from w)
    obtain ⟨a, C, fs, rfl, eS, hn, kk, ek, w⟩ := onO_of w
    obtain ⟨n, en, w⟩ := opt_of w
    have e0 : ρ[0]? = some (some (.ref a)) := by
      unfold M.look M.joinO at ex
      split at ex
      · rename_i z; cases ex; exact z
      · cases ex
    obtain ⟨v, ev, rv⟩ := re 0 _ e0
    cases rv
    obtain ⟨dx, ws, g1, g2, g3⟩ := r a _ eS
    refine ⟨a, C, dx, _, kk, n, ev, g1, ek, en, ?_⟩
    exact ones_rel hl re r w hx fun y S3 z H3 f3 r3 rz q => ⟨.ref a :: y, S3, Qd, Xd, .cons (.ref a) rz, r3, q, hq.after f3, hx.after f3⟩
  · cases h
theorem psAOk {st : M.St} {ex : Stmt} (h : chkSA c.T N d st sc ex = true) (o : OkS c k N sc X W) (hh : c.T.hot = false) (sx : SupX X D) (hd : c.G.ob d = some D) : PSA X (.func body X.env) ex (tS c W st) := by
  unfold chkSA at h
  split at h
  · rename_i e e' p
    split at h
    · rename_i hs
      obtain ⟨z1, z2⟩ := supOk (body := body) hs o.ok hh sx hd
      refine PSA.imp (psA_expr z1 (z2 _ _)) fun D σ H ⟨ρ, S, Kd, hl, re, r, w, ok⟩ => ?_
      exact one_rel hl re r w (ok.ox re hl r) fun x S2 v H2 f r2 rx q => ok.nx _ _ _ _ f r2 (re.mono r f) hl q
    · exact PSA.of (psOk _ h o)
  · rename_i e r0 e' p r' p2 p3
    split at h
    · rename_i hs
      obtain ⟨h1, h2⟩ := and2 hs
      have eK := o.ok.eK
      obtain ⟨z1, z2⟩ := supOk (body := body) h1 o.ok hh sx hd
      refine PSA.imp (psA_ret (peA_lst (PAA.imp (t' := tEs c W (.star e r0)) (paA_star z1 (paOk r0 h2 o.ok)) fun σ H Q ⟨ρ, S, Qd, Xd, hl, re, rr, w, hq, hx⟩ => ?_))) fun D σ H ⟨ρ, S, Kd, hl, re, r, w, ok⟩ => ?_
      · refine one_rel hl re rr w hx fun x S2 v H2 f r2 rx q => ?_
        obtain ⟨xs, e2, q⟩ := opt_of q
        obtain ⟨a, vs, ea, hs, rd⟩ := sqOf_rel r2 rx e2
        exact ⟨a, vs, ea, by rw [eK]; exact hs.symm, ρ, S2, _, Xd, hl, re.mono rr f, r2, q, fun ds S3 us H3 f3 r3 rds q => hq _ _ _ _ (f.trans f3) r3 ((rd.mono r2 f3).append rds) q, hx.after f⟩
      · have w' : M.wpEs c.G (.star e r0) ρ S (fun ds S1 => M.mkL ds S1 Kd.rt) (fun c fs S1 => Kd.xe c fs ρ S1) := w
        exact ones_rel hl re r w' (ok.ox re hl r) fun x S2 v H2 f r2 rx q => ⟨by rw [← rx.length, ← lim_eq]; exact q.1, (ok.rt.after f).newL r2 rx q.2⟩
    · exact PSA.of (psOk _ h o)
  · exact PSA.of (psOk _ h o)
theorem pssAOk : ∀ (st : M.Ss) {ex : List Stmt}, chkSsA c.T N d st sc ex = true → OkS c k N sc X W → c.T.hot = false → SupX X D → c.G.ob d = some D → PSsA X (.func body X.env) ex (tSs c W st)
  | .nil, ex, h, o, hh, sx, hd => by
    cases ex with
    | nil => exact PSsA.imp pssA_nil fun D σ H ⟨ρ, S, Kd, hl, re, r, w, ok⟩ => ok.nx _ _ _ _ Fr.refl r re hl w
    | cons _ _ => cases h
  | .cons s q, ex, h, o, hh, sx, hd => by
    cases ex with
    | nil => cases h
    | cons s' q' =>
      obtain ⟨h1, h2⟩ := and2 (show (chkSA c.T N d s sc s' && chkSsA c.T N d q sc q') = true from h)
      refine PSsA.imp (pssA_cons (psAOk h1 o hh sx hd) (pssAOk q h2 o hh sx hd)) fun D σ H ⟨ρ, S, Kd, hl, re, r, w, ok⟩ => ?_
      exact ⟨ρ, S, _, hl, re, r, w, fun ρ1 S1 σ1 H1 f1 r1 re1 l1 q => ⟨ρ1, S1, Kd, l1, re1, r1, q, ok.after f1⟩, ok.rt, ok.bk, ok.xe⟩
end
/-! ### a def of the text that says super() -/
structure FunS (K : Frag) (x qual : Str) (params : Arguments) (body : List Stmt) (scope : Scope) (dvs : List V) (f : Addr) (fd : FuncData) (D : Addr) (file : Str) : Prop where
  ex : ∃ (oc : Value) (od : Option Addr) (dV kV doc pm : Value) (an : Option Addr) (cda : Addr) (ct : Value) (osl : Array (Option Value)) (cc : Addr),
    fd = PySem.W.fnX x qual params body scope [("__class__", cc)] dV kV doc pm an (.ref cda) ct ∧ K.lookup f = some ⟨oc, od, .func fd, osl⟩ ∧ PySem.W.codeIn K (.ref cda) qual = true ∧ DflV K dV dvs ∧ KwdV K kV [] ∧
      (∃ cl cld csl, K.lookup cc = some ⟨cl, cld, .cell (some (.ref D)), csl⟩) ∧ ∃ ccl cdd vs ccs tf, K.lookup cda = some ⟨ccl, cdd, .fields vs, ccs⟩ ∧ vs[2]? = some (.str file tf)
  kp : PySem.W.keepIn K (.ref f) = true
/-- what its text says -/
structure SupT (N ps : List Str) (params : Arguments) (sc : Scope) : Prop where
  kind : sc.kind = .function
  co : sc.isCoroutine = false
  gen : sc.isGenerator = false
  nd : N.Nodup
  pre : N.take ps.length = ps
  par : ∀ x ∈ ps, sc.names.lookup x = some .local
  free : ∀ y ∈ sc.names, y.2 = .free → y.1 = ("__class__" : Str)
  nocell : ∀ y ∈ sc.names, y.2 ≠ .cell
  self : ∃ ar, (params.posonlyargs ++ params.args).head? = some ar ∧ N[0]? = some ar.arg ∧ sc.names.lookup ar.arg = some .local
  ks : sc.names.lookup ("super" : Str) = some .globalImplicit
  kc : sc.names.lookup ("__class__" : Str) = some .free
structure MainP (P : Program) (file : Str) : Prop where
  mf : ((P.main.file : Str) == file) = true
  top : (P.main.scope.names.lookup ("super" : Str)).isSome = false
theorem nd_lookup {y : Str} {u : Value} : ∀ {l : List (Str × Value)}, (l.map (·.1)).Nodup → (y, u) ∈ l → l.lookup y = some u
  | [], _, h => nomatch h
  | (x, v) :: l, nd, h => by
    rw [List.lookup_cons]
    rw [List.map_cons, List.nodup_cons] at nd
    rcases List.mem_cons.mp h with e | e
    · cases e
      rw [beq_self_eq_true]
    · have ne : y ≠ x := fun z => nd.1 (by rw [← z]; exact List.mem_map_of_mem (f := (·.1)) e)
      rw [beq_false_of_ne ne]
      exact nd_lookup nd.2 e
theorem rev_lookup {ps : List Str} {us : List Value} {i : Nat} {y : Str} {u : Value} (nd : ps.Nodup) (hl : us.length = ps.length) (hp : ps[i]? = some y) (hu : us[i]? = some u) : (ps.zip us).reverse.lookup y = some u := by
  refine nd_lookup ?_ (List.mem_reverse.mpr ?_)
  · rw [List.map_reverse, List.map_fst_zip (by omega)]
    exact List.pairwise_reverse.mpr (nd.imp fun h e => h e.symm)
  · have : (ps.zip us)[i]? = some (y, u) := by rw [List.getElem?_zip_eq_some]; exact ⟨hp, hu⟩
    exact List.mem_of_getElem? this
abbrev envS (qual : Str) (scope : Scope) (L f : Addr) (cd : Value) (cc : Addr) : Env := PySem.W.envX qual scope L f cd [("__class__", cc)]
/-- the context of its body -/
def cxS (CX : CXT) (P : Program) (w : World) (K : Frag) (mg : Str → Option Value) (base : Heap) (N : List Str) (qual : Str) (scope : Scope) (f : Addr) (cd : Value) (cc : Addr) (A : Around) (outer : List Env) (s : Shared) (H : Hp) (E : XK) : Cx where
  prog := P
  w := w
  K := K
  mg := mg
  base := base
  A := A.deeper (envS qual scope s.heap.objs.size f cd cc)
  N := N
  s_0 := s
  H_0 := H
  env := envS qual scope s.heap.objs.size f cd cc
  outer := outer
  stack := envS qual scope s.heap.objs.size f cd cc :: outer
  ex := []
  calm := true
  fn := fun x => !(x == ("__class__" : Str))
  pn := []
  xe := fun e s' => wpAny (model P w) (A.deeper (envS qual scope s.heap.objs.size f cd cc)) (leaving (envS qual scope s.heap.objs.size f cd cc) e) (fun _ s'' => CX outer H s E e s'') (fun e' s'' => CX outer H s E e' s'') s'
section
variable {P : Program} {w : World} {K : Frag} {mg : Str → Option Value} {base : Heap} {k : Nat} {name qual file : Str} {params : Arguments} {body : List Stmt} {scope : Scope} {f D : Addr} {fd : FuncData} {N ps : List Str}
theorem look1 {x y : Str} {cc c : Addr} (h : ([(x, cc)] : List (Str × Addr)).lookup y = some c) : y = x ∧ c = cc := by
  rw [List.lookup_cons] at h
  by_cases e : y = x
  · subst e
    rw [beq_self_eq_true] at h
    cases h
    exact ⟨rfl, rfl⟩
  · rw [beq_false_of_ne e] at h
    cases h
theorem inv_startS {CX : CXT} {cd : Value} {cc : Addr} {A : Around} {outer : List Env} {s : Shared} {h1 : Heap} {tk : Nat} {H : Hp} {E : XK} {us : List Value} {vs : List V}
    (S : SupT N ps params scope) (hd : A.handled = none) (e0 : Env0 P w K mg base A outer s H) (hl : vs.length = ps.length) (r : Vals vs us) (hcc : ∃ cl cld csl, K.lookup cc = some ⟨cl, cld, .cell (some (.ref D)), csl⟩)
    (hns : h1.Ns s.heap.objs.size fun x => (ps.zip us).reverse.lookup x) (hk : ∀ b o, s.heap.get? b = some o → h1.get? b = some o) :
    Inv (cxS CX P w K mg base N qual scope f cd cc A outer s H E) [] (L2.start N vs) H { s with heap := h1, toks := tk } := by
  have hpl : ps.length ≤ N.length := by have := congrArg List.length S.pre; rw [List.length_take] at this; omega
  have noA : ∀ b : Addr, b ∉ (cxS CX P w K mg base N qual scope f cd cc A outer s H E).ex := fun b z => absurd (show b ∈ ([] : List Addr) from z) (by simp)
  obtain ⟨cl, cld, csl, lcc⟩ := hcc
  have bcc := e0.mod.kin _ _ lcc
  refine ⟨⟨e0.mod, S.kind, rfl, rfl, Nat.le_refl _, fun y z c h1 h2 => ?_, fun y hy => ?_, fun y c g h => ?_, fun _ => hd, Around.frames_deeper e0.frames, .inr ⟨rfl, rfl⟩, fun b z => absurd z (noA b), e0.bs, e0.bsz, fun b _ _ => noA b, fun b z => absurd z (noA b), e0.funs, e0.frf⟩,
    rfl, e0.bare, Un.kept hk, ⟨_, hns, fun i y v h1 h2 h3 => ?_⟩, fun y c h => ?_, e0.hok.fresh (Nat.le_refl _), fun y c h => ?_, fun q hq => absurd (show q ∈ ([] : List (Addr × Obj)) from hq) (by simp), e0.hok.kept hk, ?_⟩
  · obtain ⟨rfl, _⟩ := look1 h1
    obtain ⟨rfl, _⟩ := look1 h2
    rfl
  · have hy : scope.names.lookup y = some .cell ∨ scope.names.lookup y = some .free := hy
    rcases hy with hy | hy
    · exact absurd rfl (S.nocell _ (PySem.mem_of_lookup hy))
    · have e := S.free _ (PySem.mem_of_lookup hy) rfl
      have e : y = ("__class__" : Str) := e
      subst e
      exact ⟨cc, by show ([(("__class__" : Str), cc)] : List (Str × Addr)).lookup _ = _; rw [List.lookup_cons, beq_self_eq_true]⟩
  · obtain ⟨rfl, _⟩ := look1 h
    exact absurd (show (!(("__class__" : Str) == ("__class__" : Str))) = true from g) (by rw [beq_self_eq_true]; exact Bool.false_ne_true)
  · have hi : i < vs.length := by
      unfold L2.start at h2
      by_cases hi : i < vs.length
      · exact hi
      · rw [List.getElem?_append_right (by simpa using hi)] at h2
        rw [List.getElem?_replicate] at h2
        split at h2 <;> cases h2
    have ha : vs[i]? = some v := by
      unfold L2.start at h2
      rw [List.getElem?_append_left (by simpa using hi), List.getElem?_map] at h2
      cases e : vs[i]? with
      | none => rw [e] at h2; cases h2
      | some a => rw [e] at h2; cases h2; rfl
    obtain ⟨u, hu, rv⟩ := r.get ha
    have hp : ps[i]? = some y := by
      rw [← S.pre, List.getElem?_take_of_lt (by omega)]; exact h1
    have ndP : ps.Nodup := by rw [← S.pre]; exact S.nd.sublist (List.take_sublist _ _)
    exact ⟨u, rv, .inl ⟨S.par y (List.mem_of_getElem? hp), rev_lookup ndP (by rw [← r.length]; exact hl) hp hu⟩⟩
  · obtain ⟨_, rfl⟩ := look1 h
    exact ⟨_, _, hk _ _ (e0.bs _ _ bcc).1, rfl⟩
  · obtain ⟨_, rfl⟩ := look1 h
    exact (e0.bs _ _ bcc).2
  · unfold L2.start
    show _ = N.length
    rw [List.length_append, List.length_map, List.length_replicate]
    omega
theorem end_ofS {cdv : Value} {cc : Addr} {A : Around} {outer : List Env} {s s2 : Shared} {H : Hp} {Q : VK} {E : XK} {fl : Flow}
    (h : SP (cxS (L2N.CX P w) P w K mg base N qual scope f cdv cc A outer s H E) [] { nx := fun _ H' => Q .non H', rt := Q } fl s2) (nb : fl ≠ .brk ∧ fl ≠ .cont) :
    CE outer P w H s Q (match fl with | .ret u => u | _ => .none) s2 := by
  match fl, h, nb with
  | .ret u, ⟨v, _, H2, I2, rel, q⟩, _ => exact ⟨v, H2, I2.os, I2.bare, I2.base, I2.hok, rel, q⟩
  | .next, ⟨_, H2, I2, q⟩, _ => exact ⟨.non, H2, I2.os, I2.bare, I2.base, I2.hok, rfl, q⟩
  | .brk, _, nb => exact absurd rfl nb.1
  | .cont, _, nb => exact absurd rfl nb.2
theorem fnS_of {sp : L2.Sp} {dvs : List V} (F : FunS K name qual params body scope dvs f fd D file) (S : SupT N ps params scope) (len : ∀ xs Hx Qx Ex, sp xs Hx Qx Ex → xs.length = ps.length)
    (run : ∀ (cda cc : Addr) (A : Around) (outer : List Env) (s : Shared) (H : Hp) (xs : List V) (Q : VK) (E : XK), (∃ cl cld csl, K.lookup cc = some ⟨cl, cld, .cell (some (.ref D)), csl⟩) → (∃ ccl cdd vs ccs tf, K.lookup cda = some ⟨ccl, cdd, .fields vs, ccs⟩ ∧ vs[2]? = some (.str file tf)) →
      (∃ oc od fd osl, K.lookup f = some ⟨oc, od, .func fd, osl⟩ ∧ fd.params = params) → RoomX false k (A.deeper (envS qual scope s.heap.objs.size f (.ref cda) cc)) → A.guards = some [] → sp xs H Q E →
      ∃ t, PSsA (cxS (L2N.CX P w) P w K mg base N qual scope f (.ref cda) cc A outer s H E) (.func body (envS qual scope s.heap.objs.size f (.ref cda) cc)) body t ∧ t { nx := fun _ H' => Q .non H', rt := Q } (L2.start N xs) H) : FnG P w K mg base false (k + 1) f fd ps sp := by
  obtain ⟨c1, c2, c3, c4, c5, c6, c7, cda, c9, c10, cc, same, stands, code, -, -, hcc, hcd⟩ := F.ex
  subst same
  -- from the bound arguments on
  have go : ∀ (A : Around) (outer : List Env) (s : Shared) (H : Hp) (us : List Value) (vs : List V) (Q : VK) (E : XK), RoomB false (k + 1) A → A.guards = some [] → Env0 P w K mg base A outer s H → Vals vs us → sp vs H Q E →
      wpAny (model P w) A.in1 (newFunctionEnv scope mainGlobals [("__class__", cc)] (ps.zip us) (qual ++ ".<locals>.") (some f) (.ref cda) none builtinsNs)
        (fun env s₂ => s₂.heap.NoLimit ∧ codeAny (model P w) A (.func body env) (CR (L2N.CX P w) outer P w H s Q E) s₂) (fun e s' => CR (L2N.CX P w) outer P w H s Q E (.error e) s') s := by
    intro A outer s H us vs Q E room quiet env rel want
    obtain ⟨inK, free⟩ := base_in env
    refine wpAny_newFunctionEnv S.nocell (fun z hz => S.par _ (List.of_mem_zip hz).1) (fun h₀ hns hsb => ⟨free.fresh _ hsb, ks_codeAny_funcAt ?_⟩) S.kind
    obtain ⟨t, ok, start⟩ := run cda cc A outer s H vs Q E hcc hcd ⟨_, _, _, _, stands, rfl⟩ (room.deeperX _) quiet want
    have I0 := inv_startS (CX := L2N.CX P w) (qual := qual) (f := f) (cd := .ref cda) (cc := cc) (E := E) (tk := s.toks + (ps.zip us).length) S (room.hd rfl) env (len _ _ _ _ want) rel hcc hns (fun b o e => hsb.extBut b o (Nat.ne_of_lt (Heap.lt_size e)) (Heap.get?_push_of_some _ e))
    refine ks_wpAt_mono (ok.run [] _ _ H _ I0 start) (fun fl s2 done => ?_) fun _ _ out => out
    match fl, done with
    | .ret u, done => exact end_ofS done ⟨nofun, nofun⟩
    | .next, done => exact end_ofS done ⟨nofun, nofun⟩
    | .brk, ⟨_, _, _, no⟩ => exact False.elim no
    | .cont, ⟨_, _, _, no⟩ => exact False.elim no
  refine ⟨len, ?_, ?_⟩
  · intro A outer s H args us xs Q E room quiet ht env bound rel want
    obtain ⟨inK, free⟩ := base_in env
    exact codeAny_call_function room.depth (inK _ _ stands) rfl S.co S.gen rfl (PySem.W.codeRec_of inK code) (bound _ _ _ _ (go A outer s H us xs Q E room quiet env rel want))
  · intro A outer s H u1 u2 ws rest Q E room quiet h0 env hb r1 r2 hz want
    obtain ⟨inK, free⟩ := base_in env
    have hn : H s.heap.objs.size = none := env.hok.fresh (Nat.le_refl _)
    have hl2 : u2.length ≤ sizeLine := by rw [← r2.length]; exact hz
    refine codeAny_call_function room.depth (inK _ _ stands) rfl S.co S.gen rfl (PySem.W.codeRec_of inK code) ?_
    show wpAny _ _ (bindArgs _ ⟨u1 ++ u2, []⟩) _ _ _
    rw [hb]
    refine wpAny_bind (wpAny_newTuple (wpAny_pure ?_) hl2)
    have new : ObjOk P w (L2.upd H s.heap.objs.size (.tup rest)) (s.heap.push ({ cls := .type "tuple", data := .seq u2.toArray } : Obj)) s.heap.objs.size (.tup rest) := ⟨hz, u2, r2, ⟨_, Heap.get?_push_size _ rfl, rfl, _, rfl⟩⟩
    have un := StX.un_laid (fs := frs outer) (s := s) (o := ({ cls := .type "tuple", data := .seq u2.toArray } : Obj)) (u := .tup rest) hn
    have e2 := StX.env0_laid env new
    have up : ∀ e s'', L2N.CX P w outer (L2.upd H s.heap.objs.size (.tup rest)) { s with heap := s.heap.push ({ cls := .type "tuple", data := .seq u2.toArray } : Obj) } E e s'' → L2N.CX P w outer H s E e s'' := fun e s'' z => cxUpN outer s H { s with heap := s.heap.push ({ cls := .type "tuple", data := .seq u2.toArray } : Obj) } (L2.upd H s.heap.objs.size (.tup rest)) E e s'' un (fun b o q => Heap.get?_push_of_some _ q) rfl z
    have rel : Vals (ws ++ [V.ref s.heap.objs.size]) (u1 ++ [Value.ref s.heap.objs.size]) := r1.append (.cons rfl .nil)
    have fin : ∀ {u s2}, CE outer P w (L2.upd H s.heap.objs.size (.tup rest)) { s with heap := s.heap.push ({ cls := .type "tuple", data := .seq u2.toArray } : Obj) } Q u s2 → CE outer P w H s Q u s2 := fun {u s2} ⟨v', H', os, bare, un', hok', rv', q⟩ => ⟨v', H', os, bare, un.trans un', hok', rv', q⟩
    refine wpAny_mono (go A outer { s with heap := s.heap.push ({ cls := .type "tuple", data := .seq u2.toArray } : Obj) } _ _ _ Q E room quiet e2 rel want) (fun env' s₂ h => ⟨h.1, codeAny_mono h.2 fun r s3 hq => ?_⟩) fun e s' z => up _ _ z
    match r, hq with
    | .error e, hq => exact up _ _ hq
    | .ok (.ret u), hq => exact fin hq
    | .ok .next, hq => exact False.elim hq
    | .ok .brk, hq => exact False.elim hq
    | .ok .cont, hq => exact False.elim hq
theorem fnS_ok {c : Cn} (L : Law c P w base k) {d : Nat} {ast : M.Ss} {sp : M.Sp} {dvs : List V} (F : FunS c.K name qual params body scope dvs f fd D file) (S : SupT N ps params scope) (mp : MainP P file) (hs : ("super" : Str) ∈ c.T.bts) (hd : c.G.ob d = some D) (ck : chkSsA { c.T with hot := false } N d ast scope body = true)
    (spec : ∀ ds S0 Q X, sp ds S0 Q X → ds.length = ps.length ∧ M.wpSs c.G ast (M.start N.length ds) S0 ⟨fun _ S' => Q .non S', Q, fun _ _ => False, fun k fs _ S' => X k fs S'⟩) :
    FnG P w c.K c.mg base false (k + 1) f fd ps (lift c (M.cl sp)) := by
  have pl : ps.length ≤ N.length := by have := congrArg List.length S.pre; rw [List.length_take] at this; omega
  let c' : Cn := { c with T := { c.T with hot := false } }
  refine fnS_of F S (fun vs H Q E ⟨ds, S0, Qd, Xd, rd, r, ⟨Q0, X0, q, _⟩, _⟩ => by rw [← rd.length]; exact (spec _ _ _ _ q).1) fun cda cc A outer s H vs Q E hcc hcd hfd hr hg ⟨ds, S0, Qd, Xd, rd, r, ⟨Q0, X0, q, hQ, hX⟩, hq, hx⟩ => ?_
  obtain ⟨hlen, hw⟩ := spec _ _ _ _ q
  obtain ⟨cl, cld, csl, lcc⟩ := hcc
  obtain ⟨ccl, cdd, vs', ccs, tf, lcd, hvs⟩ := hcd
  obtain ⟨oc, od, fd', osl, lf, ep⟩ := hfd
  obtain ⟨ar, s1, s2, s3⟩ := S.self
  have ok : OkS c' k N scope (cxS (L2N.CX P w) P w c.K c.mg base N qual scope f (.ref cda) cc A outer s H E) (fun cls d _ H => E cls d H) := {
    ok := {
      eN := rfl
      es := rfl
      eK := rfl
      em := rfl
      nd := S.nd
      calm := fun h => rfl
      room := hr.b
      roomX := hr
      gd := hg
      rp := L.rp
      bt := L.bt
      con := L.con
      fns := fun n x hx => let ⟨f, fd, ps, D, F⟩ := L.fns n x hx; ⟨f, fd, ps, ⟨D.mg, D.at_, D.kp, D.bd, D.kb, D.bf, D.st⟩, F⟩
      tk := L2N.takes_of rfl rfl rfl rfl
      sys := L.sys
      er := ⟨L.er.at_, L.er.ok, L.er.ve, L.er.ex, L.er.fl⟩
      oc := ⟨L.oc.gm, L.oc.nm, fun k C e => { L.oc.ok k C e with }⟩
      xi := L.xi
      hx := fun z => absurd (show false = true from z) Bool.false_ne_true }
    kind := S.kind
    fn := fun x hx => by
      show (!(x == ("__class__" : Str))) = true
      by_cases e : x = ("__class__" : Str)
      · subst e
        unfold locCB at hx
        rw [S.kc] at hx
        cases hx
      · rw [beq_false_of_ne e]; rfl
    po := fun _ => passes_of (X := cxS (L2N.CX P w) P w c.K c.mg base N qual scope f (.ref cda) cc A outer s H E) rfl
    stk := rfl
    frm := rfl
    exn := rfl }
  have sx : SupX (cxS (L2N.CX P w) P w c.K c.mg base N qual scope f (.ref cda) cc A outer s H E) D := {
    fn := ⟨f, oc, od, fd', osl, ar, rfl, lf, by rw [ep]; exact s1, s2, s3⟩
    cd := ⟨cda, ccl, cdd, vs', ccs, file, tf, rfl, lcd, hvs, mp.mf⟩
    ce := ⟨cc, cl, cld, csl, by show ([(("__class__" : Str), cc)] : List (Str × Addr)).lookup _ = _; rw [List.lookup_cons, beq_self_eq_true], lcc⟩
    ks := S.ks
    kc := S.kc
    top := mp.top
    mg := L.bt _ hs }
  refine ⟨_, pssAOk (D := D) (d := d) ast ck ok rfl sx hd, M.start N.length ds, S0, _, ?_, start_rel rd, r, hw, ?_⟩
  · unfold M.start L2.start
    rw [List.length_append, List.length_append, List.length_map, List.length_map, List.length_replicate, List.length_replicate, rd.length]
  · exact ⟨fun ρ' S' σ' H' f' r' re' l' q => hq .non S' .non H' f' r' .non (hQ _ _ q), fun d S' v H' f' r' rd' q => hq d S' v H' f' r' rd' (hQ _ _ q), fun _ _ _ _ _ _ _ _ q => False.elim q, fun kx fs ρ' S' σ' H' cls d f' r' re' l' rx q => hx kx fs S' H' cls d f' r' rx (hX _ _ _ q)⟩
end
end Snd
namespace Snd
open PySem PySem.Spec PyProof.Rows L2 ClX StX
/-! ### super().__init__(x) of an own error -/
structure XSup (K : Frag) (D : Addr) : Prop where
  oc : OexC K D
  hm : PySem.W.ks_superIn K D D "__init__" = some (some (.builtin "ValueError.__init__"))
  sub : PySem.W.mroIn K D (.ref D) = some true
  op : PySem.W.nsIn K cStatics "thirdparty.any" = some none
  ve : PySem.W.subIn K (.ref D) (.type "ValueError") = some true
section
variable {X : Cx} {D : Addr} {body : List Stmt} {e : Expr} {te : TE}
theorem peA_exinit (sx : SupX X D) (xs : XSup X.K D) {p0 p1 apos cpos : Pos} (hl : (apos.endLine == cpos.line) = true) (he : PE X e te) (hpl : plB e = true) :
    PEA X (.func body X.env) (.Call (.Attribute (.Call (.Name "super" p0) [] [] p1) "__init__" apos) [e] [] cpos) (fun σ H Q => ∃ a, σ[0]? = some (some (.ref a)) ∧ H a = some (exo a D none) ∧ te σ H fun v H1 => H1 a = some (exo a D none) ∧ Q .non H1) := by
  refine ⟨fun pins s σ H Q I h => ?_⟩
  obtain ⟨a, ea, ha0, q⟩ := h
  obtain ⟨f, oc, od, fd, osl, ar, ef, lf, hp, n0, ka⟩ := sx.fn
  obtain ⟨cda, ccl, cdd, vs, ccs, file, tf, ecd, lcd, hvs, hfile⟩ := sx.cd
  obtain ⟨cc, cl, cld, csl, ecc, lcc⟩ := sx.ce
  obtain ⟨nm, q0, N, bs, bm, sn, sub, ab, col, dd, k0, k1, k2, k3, k5, hC, hbm⟩ := xs.oc.cls
  have kin := I.kIn
  have hcD : PySem.W.clsIn X.K D = some { name := nm, bases := bs, mro := .ref D :: bm, ns := N, qualname := q0, hasDict := true, slotNames := sn, subclasses := sub, abstract := ab, collection := col, hasDel := false } := by unfold PySem.W.clsIn; rw [hC] <;> rfl
  have lD := kin _ _ hC
  obtain ⟨t1, ho⟩ := exo_at I.hok ha0
  have J : PySem.W.InstAt s.heap a ({ cls := .ref D, dict := none, data := .fields #[.ref t1, .none, .none, .none, .bool false, .none] } : Obj) D none := ⟨ho, rfl, rfl, trivial⟩
  obtain ⟨mL, hns, hlk⟩ := I.loc
  obtain ⟨u, ru, lk⟩ := hlk 0 ar.arg (.ref a) n0 ea (.inl ka)
  obtain rfl : u = Value.ref a := ru
  have hmL : mL ar.arg = some (.ref a) := by
    rcases lk with l | ⟨l, _⟩
    · exact l.2
    · rw [ka] at l
      rcases l with l | l <;> cases l
  have hks := sx.ks
  have hpl' : [e].all plB = true := by show (plB e && true) = true; rw [hpl]; rfl
  refine ks_wpAt_MethodCall (pl := plainOf (.Call (.Name "super" p0) [] [] p1) X.env) ?_ (sup_eval (form0 hpl' (by show 1 < 29; decide)) hl)
  refine ks_wpAt_super_base hks sx.kc (by decide +kernel) ef (kin _ _ lf) rfl hp ecd (kin _ _ lcd) rfl hvs hfile sx.top ?_
  obtain ⟨mb, b1, b2⟩ := I.mod.blt
  refine PySem.W.ks_loadName_global I.ok.kind hks (Calls.loadGlobal_builtin (by rw [I.ok.glob]; exact I.mod.glob.keeps I.bk) sx.mg (by rw [I.ok.blt]; exact b1.keeps I.bk) ((b2 _ (by decide +kernel)).trans boot_super) ⟨rfl, ?_⟩)
  refine wpAny_loadName_free I.ok.kind sx.kc ecc ⟨_, kin _ _ lcc, rfl⟩ ?_
  refine wpAny_loadName_local I.ok.kind ka hns hmL ?_
  refine ks_wpAny_isType_cls lD rfl ⟨rfl, ?_⟩
  have hlen0 : s.heap.objs.size ≤ s.heap.objs.size := Nat.le_refl _
  obtain ⟨hh0, g0, d0, t0, os0⟩ := s
  refine ks_wpAny_call_super lD rfl J.at_ J.cls (fun c' e => by cases e) (PySem.W.looks_mroIn kin xs.sub) fun h' e1 k1 => ?_
  have I1 := pin_new (t' := t0) I k1 hlen0 e1 (fun v z => nomatch z)
  have kin1 := I1.kIn
  have hal : PySem.W.alongIn X.K "__init__" (((Value.ref D :: bm).dropWhile (· != .ref D)).drop 1) = some (some (.builtin "ValueError.__init__")) := by
    have z := xs.hm
    unfold PySem.W.ks_superIn at z
    rw [hcD] at z
    exact z
  have J1 : PySem.W.InstAt h' a ({ cls := .ref D, dict := none, data := .fields #[.ref t1, .none, .none, .none, .bool false, .none] } : Obj) D none := ⟨k1 _ _ ho, rfl, rfl, trivial⟩
  have hI : PySem.W.Looks (model X.prog X.w) h' (isInstance (.ref a) (.type "ValueError")) true := J1.type.andThen (PySem.W.looks_subIn kin1 xs.ve)
  refine PySem.W.kxs_getMethod PySem.W.kxs_ValueError (l₀ := .ref D :: bm) e1 (PySem.W.looks_opaque kin1 xs.op) (fun A Q E s k q => wpAny_bind ((PySem.W.looks_clsIn kin1 hcD) A _ E s k (wpAny_pure q))) rfl kin1 hal hI (PySem.W.ks_ne kin J hcD) (by decide +kernel) ?_
  have I2 := pin_new (t' := t0 + 1) I1 (fun b o z => Heap.get?_push_of_some _ z) (Nat.le_refl _) (Heap.get?_push_size h' (o := PySem.W.kxs_mw "ValueError.__init__" a) rfl) (fun v z => nomatch z)
  refine PySem.W.kxs_callWith (i := "ValueError.__init__") (x := a) (by rw [plB_star hpl]; rfl) ?_
  rw [plB_star (es := []) hpl]
  refine Calls.evalArgs_plain (Calls.spliced_cons (thn (he.run _ _ σ H _ I2 q) fun v s3 ⟨y, H1, I3, ry, ha1, q3⟩ => Calls.spliced_nil ⟨pin_at I3, ?_⟩))
  show wpAny _ _ (call (.ref h'.objs.size) [v]) _ _ _
  have hu := pin_at I3
  have kin3 := I3.kIn
  have hC3 := kin3 _ _ hC
  obtain ⟨t3, ho3⟩ := exo_at I3.hok ha1
  have done : ∀ h4 : Heap, (∀ b o, b ≠ a → s3.heap.get? b = some o → h4.get? b = some o) → h4.get? a = some (PySem.W.excRec (.ref D) s3.heap.objs.size none .none .none (.bool false)) → h4.get? s3.heap.objs.size = some (PySem.W.excTup [v]) → EP X pins σ Q .none { s3 with heap := h4 } := by
    intro h4 k4 e4 _
    have I5 := I3.write (t' := s3.toks) (x := a) (e := a) (o := exo a D none) (h' := h4) (by rw [ha1]; exact True.intro) (.inl rfl) k4 ⟨_, e4⟩ (exo_ok e4)
    have eu : L2.upd H1 a (exo a D none) = H1 := by
      funext b
      by_cases hb : b = a
      · rw [hb, L2.upd_same, ha1]
      · rw [L2.upd_ne hb]
    rw [eu] at I5
    exact ⟨.non, H1, unpin (unpin I5), rfl, q3⟩
  obtain ⟨hh, g, d, tk, os⟩ := s3
  refine wpAny_call (codeAny_of_tree ?_)
  show wpAny _ X.A.in1 (callAny (.ref h'.objs.size) ⟨[v], []⟩) _ _ _
  simp only [callAny]
  refine wpAny_bind (wpAny_load hu ?_)
  simp only [PySem.W.kxs_mw, show (Value.type "method-wrapper" == Value.type "method" || Value.type "method-wrapper" == Value.type "builtin_function_or_method" || Value.type "method-wrapper" == Value.type "method-wrapper") = true by decide, if_true]
  refine PySem.W.KFB.if_so (by decide) ?_
  refine wpAny_bind (PySem.W.check_bound_init PySem.F.excBase_ValueError.toExcCallFacts hC3 ho3 rfl ?_)
  refine wpAny_bind (wpAny_pure (wpAny_pure ?_))
  refine ⟨plainId_quiet PySem.F.excBase_ValueError.init.plain _, codeAny_builtin PySem.F.excBase_ValueError.initEntry ?_⟩
  exact PySem.W.exc_init_tree (cls := .ref D) (t0 := t3) (dv := none) (c2 := .none) (c3 := .none) (b4 := .bool false) ho3 (by rw [sizeLine_eq]; show 1 ≤ _; omega) done
end
/-! ### class C(..): def __init__(self, x): super().__init__(x); self.f = x -/
def xiB (N : List Str) (sc : Scope) (n : Str) (body : List Stmt) : Bool := match body with
  | [.Expr (.Call (.Attribute (.Call (.Name s0 _) [] [] _) m apos) [.Name y _] [] cpos) _, .Assign [.Attribute (.Name z _) nm _] (.Name y2 _) _] =>
    decide (s0 = "super") && decide (m = "__init__") && (apos.endLine == cpos.line) && decide (N[1]? = some y) && decide (y2 = y) && decide (N[0]? = some z) && decide (nm = n) && visB sc y && visB sc z && !dbgB y && !dbgB z
  | _ => false
theorem xin_of {P : Program} {w : World} {K : Frag} {mg : Str → Option Value} {base : Heap} {name qual file : Str} {params : Arguments} {body : List Stmt} {scope : Scope} {f D : Addr} {fd : FuncData} {N ps : List Str} {n : Str}
    (F : FunS K name qual params body scope [] f fd D file) (S : SupT N ps params scope) (mp : MainP P file) (hps : ps.length = 2) (mgS : mg "super" = none) (hb : xiB N scope n body = true) (xs : XSup K D) (no : PySem.W.findIn K (.ref D) n = some none)
    (iC : PySem.W.findIn K (.ref D) "__init__" = some (some (.ref f))) (tI : PySem.W.typeIn K (.ref f) = some (.type "function")) (bd : Binds K fd ps [] ∧ KB K fd ps 1 [n] [0, 1]) : XIn P w K mg base 1 D n := by
  refine ⟨xs.oc, no, f, fd, ps, iC, tI, hps, bd, ?_⟩
  unfold xiB at hb
  split at hb
  · rename_i s0 q1 q2 m apos y q3 cpos q4 z q5 nm q6 y2 q7 q8
    obtain ⟨hb, h11⟩ := and2 hb
    obtain ⟨hb, h10⟩ := and2 hb
    obtain ⟨hb, h9⟩ := and2 hb
    obtain ⟨hb, h8⟩ := and2 hb
    obtain ⟨hb, h7⟩ := and2 hb
    obtain ⟨hb, h6⟩ := and2 hb
    obtain ⟨hb, h5⟩ := and2 hb
    obtain ⟨hb, h4⟩ := and2 hb
    obtain ⟨hb, h3⟩ := and2 hb
    obtain ⟨h1, h2⟩ := and2 hb
    have e1 := of_decide_eq_true h1
    have e2 := of_decide_eq_true h2
    have e5 := of_decide_eq_true h5
    have e7 := of_decide_eq_true h7
    subst e1 e2 e5 e7
    have n1 := of_decide_eq_true h4
    have n0 := of_decide_eq_true h6
    refine fnS_of F S (fun vs H Q E ⟨a, v, e, _⟩ => by rw [e, hps]; rfl) fun cda cc A outer s H vs Q E hcc hcd hfd hr hg want => ?_
    obtain ⟨a, v, rfl, ea, hq⟩ := want
    obtain ⟨cl, cld, csl, lcc⟩ := hcc
    obtain ⟨ccl, cdd, vs', ccs, tf, lcd, hvs⟩ := hcd
    obtain ⟨oc, od, fd', osl, lf, ep⟩ := hfd
    obtain ⟨ar, s1, s2, s3⟩ := S.self
    have sx : SupX (cxS (L2N.CX P w) P w K mg base N qual scope f (.ref cda) cc A outer s H E) D := {
      fn := ⟨f, oc, od, fd', osl, ar, rfl, lf, by rw [ep]; exact s1, s2, s3⟩
      cd := ⟨cda, ccl, cdd, vs', ccs, file, tf, rfl, lcd, hvs, mp.mf⟩
      ce := ⟨cc, cl, cld, csl, by show ([(("__class__" : Str), cc)] : List (Str × Addr)).lookup _ = _; rw [List.lookup_cons, beq_self_eq_true], lcc⟩
      ks := S.ks
      kc := S.kc
      top := mp.top
      mg := mgS }
    have py : ∀ q, PE (cxS (L2N.CX P w) P w K mg base N qual scope f (.ref cda) cc A outer s H E) (.Name y2 q) (tVar 1) := fun q => pe_var n1 (vis_of h8) (dbg_of h10).1 (dbg_of h10).2
    have pz : ∀ q, PE (cxS (L2N.CX P w) P w K mg base N qual scope f (.ref cda) cc A outer s H E) (.Name z q) (tVar 0) := fun q => pe_var n0 (vis_of h9) (dbg_of h11).1 (dbg_of h11).2
    have l0 : (L2.start N [V.ref a, v])[0]? = some (some (.ref a)) := rfl
    have l1 : (L2.start N [V.ref a, v])[1]? = some (some v) := rfl
    refine ⟨_, pssA_cons (psA_expr (peA_exinit sx xs h3 (py _) rfl)) (pssA_cons (PSA.of (ps_ost (pz _) (py _) (swapsWith_not rfl))) pssA_nil), ?_⟩
    refine ⟨a, l0, ea, v, l1, ea, v, l1, .ref a, l0, a, D, rfl, xs.oc, no, .inl ⟨ea, fun dx hd hda => ?_⟩⟩
    exact hq dx hd hda
  · cases hb
end Snd
namespace Snd
open PySem PySem.Spec PyProof.Rows L2
/-! ### constants of the module: numbers, texts, nested tuples -/
mutual
def conB (K : Frag) : M.D → Value → Bool
  | .non, u => (match u with | .none => true | _ => false)
  | .bl b, u => (match u with | .bool d => b == d | _ => false)
  | .int i, u => (match u with | .int j _ => decide (i = j) | _ => false)
  | .str x, u => (match u with | .str y _ => decide (stx x = y) | _ => false)
  | .tup ds, u => (match u with
    | .ref a => (match K.lookup a with
      | some ⟨.type c, _, .seq its _, _⟩ => decide (c = "tuple") && decide (its.size ≤ sizeLine) && consB K ds its.toList
      | _ => false)
    | _ => false)
  | _, _ => false
def consB (K : Frag) : List M.D → List Value → Bool
  | [], us => us.isEmpty
  | d :: ds, us => (match us with | u :: us => conB K d u && consB K ds us | [] => false)
end
mutual
theorem conB_ok {K : Frag} : ∀ (d : M.D) {u : Value}, conB K d u = true → ∃ v, RelV v u ∧ ∀ H, RelD K H d v
  | .non, u, h => by
    cases u <;> first | exact ⟨.non, rfl, fun _ => .non⟩ | cases h
  | .bl b, u, h => by
    cases u <;> first | cases h | skip
    rename_i d
    have e : b = d := by simpa [conB] using h
    subst e
    exact ⟨.bl b, rfl, fun _ => .bl b⟩
  | .int i, u, h => by
    cases u <;> first | cases h | skip
    rename_i j t
    have e : i = j := of_decide_eq_true h
    subst e
    exact ⟨.int i, ⟨t, rfl⟩, fun _ => .int i⟩
  | .str x, u, h => by
    cases u <;> first | cases h | skip
    rename_i y t
    have e : stx x = y := of_decide_eq_true h
    subst e
    exact ⟨.str (stx x), ⟨t, rfl⟩, fun _ => .str x⟩
  | .tup ds, u, h => by
    cases u with
    | ref a =>
      have h : (match (generalizing := false) K.lookup a with
        | some ⟨.type c, _, .seq its _, _⟩ => decide (c = "tuple") && decide (its.size ≤ sizeLine) && consB K ds its.toList
        | _ => false) = true := h
      split at h
      · rename_i c od its n sl q
        obtain ⟨h, h3⟩ := and2 h
        obtain ⟨h1, h2⟩ := and2 h
        have e := of_decide_eq_true h1
        subst e
        obtain ⟨vs, rv, rd⟩ := consB_ok ds h3
        exact ⟨.ref a, rfl, fun H => .tup (.inr ⟨_, its, n, q, rfl, rfl, of_decide_eq_true h2, rv⟩) (rd H)⟩
      · cases h
    | _ => cases h
  | .fl _, _, h => by simp [conB] at h
  | .ref _, _, h => by simp [conB] at h
  | .xn _ _, _, h => by simp [conB] at h
theorem consB_ok {K : Frag} : ∀ (ds : List M.D) {us : List Value}, consB K ds us = true → ∃ vs, Vals vs us ∧ ∀ H, RelDs K H ds vs
  | [], us, h => by
    cases us with
    | nil => exact ⟨[], .nil, fun _ => .nil⟩
    | cons _ _ => cases h
  | d :: ds, us, h => by
    cases us with
    | nil => cases h
    | cons u us =>
      obtain ⟨h1, h2⟩ := and2 (show (conB K d u && consB K ds us) = true from h)
      obtain ⟨v, r1, r2⟩ := conB_ok d h1
      obtain ⟨vs, r3, r4⟩ := consB_ok ds h2
      exact ⟨v :: vs, .cons r1 r3, fun H => .cons (r2 H) (r4 H)⟩
end
/-- the module's names x are these constants -/
def consK (l : List (Str × M.D)) (K : Frag) : Bool := l.all fun p => match PySem.W.nsIn K mainGlobals p.1 with
  | some (some u) => conB K p.2 u
  | _ => false
theorem consK_ok {l : List (Str × M.D)} {K : Frag} {h : Heap} {mg : Str → Option Value} (X : K.In h) (G : h.Ns mainGlobals mg) (c : consK l K = true) {x : Str} {d : M.D} (hm : (x, d) ∈ l) : ∃ u v, mg x = some u ∧ RelV v u ∧ ∀ H, RelD K H d v := by
  have q := List.all_eq_true.mp c _ hm
  dsimp only at q
  split at q
  · rename_i u e
    obtain ⟨v, r1, r2⟩ := conB_ok d q
    exact ⟨u, v, PySem.W.mg_of X G e, r1, r2⟩
  · cases q
/-! ### the text's own errors -/
def sysB (K : Frag) : Bool := match K.lookup sysModules with
  | some ⟨.type c, _, _, _⟩ => decide (c = "dict")
  | _ => false
theorem sysB_ok {K : Frag} (h : sysB K = true) : SysK K := by
  unfold sysB at h
  split at h
  · rename_i c d da sl e
    exact ⟨_, e, by rw [of_decide_eq_true h]⟩
  · cases h
def adrOf (K : Frag) (x : Str) : Option Addr := match PySem.W.nsIn K mainGlobals x with
  | some (some (.ref C)) => some C
  | _ => none
def adrs (K : Frag) (cs : List Str) (nr i : Nat) : Option Addr := if i < nr then cs[i]?.bind (adrOf K) else none
def errB (K : Frag) (C : Addr) : Bool := PySem.W.keepIn K (.ref C) && (PySem.W.subIn K (.ref C) (.type "BaseException") == some true) && (PySem.W.typeIn K (.ref C) == some (.type "type"))
  && (PySem.W.findIn K (.ref C) "__getattribute__" == some (some (.builtin "BaseException.__getattribute__"))) && (PySem.W.findIn K (.ref C) "__getattr__" == some none) && PySem.W.hasDictIn K C
  && (PySem.W.findIn K (.ref C) "__class__" == some (some (.builtin "object.__class__"))) && (PySem.W.specialIn K (.builtin "object.__class__") "__get__" == some (some (.builtin "getset_descriptor.__get__")))
  && (PySem.W.takesIn K (.builtin "object.__class__") == some true) && (PySem.W.mroIn K C (.type "object") == some true)
theorem errB_ok {K : Frag} {C : Addr} (h : errB K C = true) : ErrC K C := by
  unfold errB at h
  simp only [Bool.and_eq_true, beq_iff_eq] at h
  obtain ⟨⟨⟨⟨⟨⟨⟨⟨⟨h2, h3⟩, h4⟩, h5⟩, h6⟩, h7⟩, h8⟩, h9⟩, h10⟩, h11⟩ := h
  exact ⟨h2, h3, h4, ⟨h5, h6, h3, h7, h8, h9, h10, h11⟩⟩
/-- all that is wanted of the classes cs, by their numbers; the first nr are raised -/
def exK (cs : List Str) (nr : Nat) (sb : Nat → Nat → Bool) (K : Frag) : Bool := decide (nr ≤ cs.length) && ((List.range nr).all fun i => match adrs K cs nr i with
  | some C => errB K C && (PySem.W.kitOne K (.ref C) (.type "ValueError") == some (sb i cs.length))
  | none => false) && (List.range cs.length).all fun j => match cs[j]?.bind (adrOf K) with
    | some D => (List.range nr).all fun i => match adrs K cs nr i with
      | some C => (PySem.W.kitOne K (.ref C) (.ref D) == some (sb i j)) && (PySem.W.exmOne K (.ref C) (.ref D) == some (sb i j))
      | none => false
    | none => false
theorem adrs_lt {K : Frag} {cs : List Str} {nr i : Nat} {C : Addr} (h : adrs K cs nr i = some C) : i < nr := by
  unfold adrs at h
  split at h
  · assumption
  · cases h
/-- the layout of a class of errors that is made with its own __init__ -/
def oexB (K : Frag) (C : Addr) : Bool := (match K.lookup C with
  | some ⟨.type t, _, .cls cd, sl⟩ => decide (t = "type") && (match cd.mro, sl.toList with
    | .ref C' :: bm, [_, _, _, _, some (.builtin n), _] => decide (C' = C) && decide (n = "ValueError.__new__") && !cd.hasDel && cd.hasDict && PySem.HandSPX.refsVE bm
    | _, _ => false)
  | _ => false) && (PySem.W.findIn K (.ref C) "__setattr__" == some (some (.builtin "object.__setattr__"))) && (PySem.W.subIn K (.ref C) (.type "BaseException") == some true) && (PySem.W.typeIn K (.ref C) == some (.type "type")) && PySem.W.keepIn K (.ref C)
theorem oexB_ok {K : Frag} {C : Addr} (h : oexB K C = true) : OexC K C := by
  obtain ⟨h, h5⟩ := and2 h
  obtain ⟨h, h4⟩ := and2 h
  obtain ⟨h, h3⟩ := and2 h
  obtain ⟨h1, h2⟩ := and2 h
  refine ⟨?_, beq_iff_eq.mp h2, beq_iff_eq.mp h3, beq_iff_eq.mp h4, h5⟩
  split at h1
  · rename_i t dd cd sl ho
    obtain ⟨ht, h6⟩ := and2 h1
    have ht := of_decide_eq_true ht
    subst ht
    split at h6
    · rename_i C' bm k0 k1 k2 k3 n k5 hm hs
      obtain ⟨h6, q5⟩ := and2 h6
      obtain ⟨h6, q4⟩ := and2 h6
      obtain ⟨h6, q3⟩ := and2 h6
      obtain ⟨q1, q2⟩ := and2 h6
      have q7 := of_decide_eq_true q1
      have q8 := of_decide_eq_true q2
      have q6 := not1 q3
      clear q3 h6 h1 h2 h3 h4 h
      subst q7 q8
      obtain ⟨nm, bs, mro, ns, qn, hd, sn, sub, ab, col, del⟩ := cd
      dsimp only at hm q6 q4
      subst hm q6 q4
      have hsl : sl = #[k0, k1, k2, k3, some (.builtin "ValueError.__new__"), k5] := by
        obtain ⟨l⟩ := sl
        simp only at hs
        rw [hs]
      subst hsl
      exact ⟨nm, qn, ns, bs, bm, sn, sub, ab, col, dd, k0, k1, k2, k3, k5, ho, q5⟩
    · cases h6
  · cases h1
def xinB (K : Frag) (x : Str) (D : Addr) (n : Str) : Bool := oexB K D && (PySem.W.ks_superIn K D D "__init__" == some (some (.builtin "ValueError.__init__"))) && (PySem.W.mroIn K D (.ref D) == some true) && (PySem.W.nsIn K cStatics "thirdparty.any" == some none) && (PySem.W.subIn K (.ref D) (.type "ValueError") == some true)
  && (PySem.W.findIn K (.ref D) n == some none) && (PySem.W.findIn K (.ref D) "__init__" == some (some (.ref (plA K (.mt x "__init__"))))) && (PySem.W.typeIn K (.ref (plA K (.mt x "__init__"))) == some (.type "function"))
/-- the raised classes: their fields, which store one -/
def xK (K : Frag) (T : Tb) : Bool := ((List.range T.nr).all fun i => match adrs K T.cls T.nr i with
  | some C => (T.xin.any (fun e => e.1 == i) || PySem.W.excIn K C bmVE "ValueError.__new__") && T.xns.all fun f => PySem.W.findIn K (.ref C) (stx f) == some none
  | none => false) && T.xin.all fun e => match T.cls[e.1]?, adrs K T.cls T.nr e.1 with
    | some x, some D => xinB K x D (stx e.2)
    | _, _ => false
theorem xin_at {K : Frag} {T : Tb} {P : Program} {w : World} {mg : Str → Option Value} {base : Heap} {nm qual file x : Str} {params : Arguments} {body : List Stmt} {scope : Scope} {D : Addr} {fd : FuncData} {N ps : List Str} {cc : Nat} {n : M.Tx} (c : xK K T = true) (hm : (cc, n) ∈ T.xin) (hx : T.cls[cc]? = some x) (hnr : cc < T.nr)
    (F : FunS K nm qual params body scope [] (plA K (.mt x "__init__")) fd D file) (hD : adrOf K x = some D) (S : SupT N ps params scope) (mp : MainP P file) (hps : ps.length = 2) (mgS : mg "super" = none) (hb : xiB N scope (stx n) body = true) (bd : Binds K fd ps [] ∧ KB K fd ps 1 [stx n] [0, 1]) :
    ∃ C, adrs K T.cls T.nr cc = some C ∧ XIn P w K mg base 1 C (stx n) := by
  have ea : adrs K T.cls T.nr cc = some D := by unfold adrs; rw [if_pos hnr, hx]; exact hD
  have q := List.all_eq_true.mp (and2 c).2 _ hm
  dsimp only at q
  rw [hx, ea] at q
  have q : xinB K x D (stx n) = true := q
  unfold xinB at q
  obtain ⟨q, q8⟩ := and2 q
  obtain ⟨q, q7⟩ := and2 q
  obtain ⟨q, q6⟩ := and2 q
  obtain ⟨q, q5⟩ := and2 q
  obtain ⟨q, q4⟩ := and2 q
  obtain ⟨q, q3⟩ := and2 q
  obtain ⟨q1, q2⟩ := and2 q
  exact ⟨D, ea, xin_of F S mp hps mgS hb ⟨oexB_ok q1, beq_iff_eq.mp q2, beq_iff_eq.mp q3, beq_iff_eq.mp q4, beq_iff_eq.mp q5⟩ (beq_iff_eq.mp q6) (beq_iff_eq.mp q7) (beq_iff_eq.mp q8) bd⟩
theorem exK_ok {K : Frag} {h : Heap} {mg : Str → Option Value} {T : Tb} {G : M.Gm} (X : K.In h) (N : h.Ns mainGlobals mg) (ga : G.adr = adrs K T.cls T.nr) (c : exK T.cls T.nr G.sub K = true) (cx : xK K T = true) : Errs K mg T G := by
  obtain ⟨c, c2⟩ := and2 c
  obtain ⟨c0, c1⟩ := and2 c
  have c0 := of_decide_eq_true c0
  have at2 : ∀ i C, G.adr i = some C → adrs K T.cls T.nr i = some C := fun i C e => by rw [← ga]; exact e
  have one : ∀ i C, G.adr i = some C → errB K C = true ∧ PySem.W.kitOne K (.ref C) (.type "ValueError") = some (G.sub i T.cls.length) := fun i C e => by
    have e := at2 i C e
    have q := List.all_eq_true.mp c1 i (List.mem_range.mpr (adrs_lt e))
    rw [e] at q
    obtain ⟨q1, q2⟩ := and2 q
    exact ⟨q1, beq_iff_eq.mp q2⟩
  have onx : ∀ i C, G.adr i = some C → (T.xin.any (fun e => e.1 == i) || PySem.W.excIn K C bmVE "ValueError.__new__") = true ∧ (T.xns.all fun f => PySem.W.findIn K (.ref C) (stx f) == some none) = true := fun i C e => by
    have e := at2 i C e
    have q := List.all_eq_true.mp (and2 cx).1 i (List.mem_range.mpr (adrs_lt e))
    rw [e] at q
    exact and2 q
  refine ⟨fun j x hx => ?_, fun k C e => errB_ok (one k C e).1, fun k C e => (one k C e).2, fun k C e hk => ?_, fun k C e f hf => beq_iff_eq.mp (List.all_eq_true.mp (onx k C e).2 f hf)⟩
  rotate_left
  · have z := (onx k C e).1
    rw [hk] at z
    exact z
  have q := List.all_eq_true.mp c2 j (List.mem_range.mpr (List.getElem?_eq_some_iff.mp hx).1)
  rw [hx] at q
  cases eD : adrOf K x with
  | none =>
    rw [Option.bind_some, eD] at q
    cases q
  | some D =>
    rw [Option.bind_some, eD] at q
    refine ⟨D, ?_, fun hj => ?_, fun k C e => ?_⟩
    · unfold adrOf at eD
      split at eD
      · rename_i C' e2
        cases eD
        exact PySem.W.mg_of X N e2
      · cases eD
    · rw [ga]
      unfold adrs
      rw [if_pos hj, hx, Option.bind_some, eD]
    · have e := at2 k C e
      have q4 := List.all_eq_true.mp q k (List.mem_range.mpr (adrs_lt e))
      rw [e] at q4
      obtain ⟨g1, g2⟩ := and2 q4
      exact ⟨beq_iff_eq.mp g1, beq_iff_eq.mp g2⟩
/-! ### the head's hook with them -/
def obsE (l : List (Str × M.D)) (cs : List Str) (nr : Nat) (sb : Nat → Nat → Bool) (fa : List He.Fa) (fn : List He.DefD) (K : Frag) : He.AlD := ((He.obsD fa fn K).1 && (consK l K && (sysB K && exK cs nr sb K)), (He.obsD fa fn K).2)
def hookE (n : Nat) (l : List (Str × M.D)) (cs : List Str) (nr : Nat) (sb : Nat → Nat → Bool) (fa : List He.Fa) (fn : List He.DefD) : PySem.W.Hook where
  α := He.AlD
  obs := fun s => obsE l cs nr sb fa fn (He.frG s.heap.get? (sysModules :: He.asD s.heap.get? n))
  val := fun _ => He.valD fn
  says := fun _ h => ∃ K : Frag, K.In h ∧ obsE l cs nr sb fa fn K = He.valD fn
  of := fun _ _ e => ⟨_, He.frG_in, e⟩
  keeps := fun _ _ _ ⟨K, hK, c⟩ k => ⟨K, PySem.W.Frag.In.keeps hK k, c⟩
theorem obsE_says {l : List (Str × M.D)} {cs : List Str} {nr : Nat} {sb : Nat → Nat → Bool} {fa : List He.Fa} {fn : List He.DefD} {K : Frag} (h : obsE l cs nr sb fa fn K = He.valD fn) : He.SaysD fa fn K ∧ consK l K = true ∧ sysB K = true ∧ exK cs nr sb K = true := by
  have h1 : ((He.obsD fa fn K).1 && (consK l K && (sysB K && exK cs nr sb K))) = true := congrArg (fun z : He.AlD => z.1) h
  have h2 : (obsE l cs nr sb fa fn K).2 = (He.valD fn).2 := congrArg (fun z : He.AlD => z.2) h
  have h2 : (He.obsD fa fn K).2 = (He.valD fn).2 := h2
  obtain ⟨a, b⟩ := and2 h1
  obtain ⟨b, c⟩ := and2 b
  obtain ⟨c, d⟩ := and2 c
  exact ⟨Prod.ext a h2, b, c, d⟩
theorem obsE_eq {n : Nat} {l : List (Str × M.D)} {cs : List Str} {nr : Nat} {sb : Nat → Nat → Bool} {fa : List He.Fa} {fn : List He.DefD} {g : Addr → Option Obj} {s : Shared} (h : ∀ a, g a = s.heap.get? a) : obsE l cs nr sb fa fn (He.frG g (sysModules :: He.asD g n)) = (hookE n l cs nr sb fa fn).obs s := by
  have e : g = s.heap.get? := funext h
  rw [e]
  rfl
end Snd
namespace Snd
open PySem PySem.Spec PyProof.Rows L2
/-! ### classes of objects, their methods and getters -/
structure DefO where
  at_ : Pl
  name : Str
  qual : Str
  params : Arguments
  body : List Stmt
  scope : Scope
  dfl : List M.Kc := []
  su : Bool := false
  file : Str := ""
def plC : Pl → Str
  | .mt x _ => x
  | .pr x _ => x
/-- the cell of the class, the file of the code -/
def supK (K : Frag) (x file : Str) (cl : List (Str × Addr)) (code : Value) : Bool := (match cl with
  | [(y, cc)] => decide (y = "__class__") && (match K.lookup cc with
    | some ⟨_, _, .cell (some (.ref D)), _⟩ => adrOf K x == some D
    | _ => false)
  | _ => false) && (match code with
  | .ref cda => (match K.lookup cda with
    | some ⟨_, _, .fields vs, _⟩ => (match (vs[2]? : Option Value) with
      | some (.str f _) => decide (f = file)
      | _ => false)
    | _ => false)
  | _ => false)
def DefO.val (d : DefO) : He.FnW := some (d.name, d.qual, d.params, .stmts d.body, d.scope, mainGlobals, [], builtinsNs)
def fnWA (K : Frag) (a : Addr) : He.FnW := match K.lookup a with
  | some ⟨_, _, .func fd, _⟩ => some (fd.name, fd.qualname, fd.params, fd.body, fd.scope, fd.globals, [], fd.builtins)
  | _ => none
/-- the defaults that stand -/
def dflK (K : Frag) (dV : Value) : List M.D → Bool
  | [] => He.dflB K dV []
  | d :: ds => match dV with
    | .ref T => (match K.lookup T with
      | some ⟨_, _, .seq its _, _⟩ => consB K (d :: ds) its.toList
      | _ => false)
    | _ => false
theorem dflK_ok {K : Frag} {dV : Value} {ds : List M.D} (h : dflK K dV ds = true) : ∃ dvs, (∀ H, RelDs K H ds dvs) ∧ DflV K dV dvs := by
  cases ds with
  | nil => exact ⟨[], fun _ => .nil, He.dflB_ok h⟩
  | cons d ds =>
    unfold dflK at h
    cases dV with
    | ref T =>
      dsimp only at h
      cases q : K.lookup T with
      | none => rw [q] at h; cases h
      | some o =>
        obtain ⟨oc, od, dt, osl⟩ := o
        rw [q] at h
        cases dt with
        | seq its n =>
          obtain ⟨vs, r1, r2⟩ := consB_ok (d :: ds) h
          refine ⟨vs, r2, .inr ⟨fun e => ?_, T, _, its.toList, n, rfl, q, by simp, r1⟩⟩
          subst e
          cases r2 fun _ => none
        | _ => cases h
    | _ => cases h
def DefO.ok (K : Frag) (d : DefO) : Bool := PySem.W.keepIn K (.ref (plA K d.at_)) && (match K.lookup (plA K d.at_) with
  | some ⟨_, _, .func fd, _⟩ => PySem.W.codeIn K fd.code d.qual && (dflK K fd.defaults (d.dfl.map M.kcD) && He.kwdB K fd.kwdefaults []) && (if d.su then supK K (plC d.at_) d.file fd.closure fd.code else fd.closure.isEmpty)
  | _ => false)
/-- what stands there -/
def DefO.Got (K : Frag) (d : DefO) : Prop := (d.su = false → ∃ fd dvs, (∀ H, RelDs K H (d.dfl.map M.kcD) dvs) ∧ FunD K d.name d.qual d.params d.body d.scope dvs [] (plA K d.at_) fd) ∧
  (d.su = true → ∃ fd dvs D, adrOf K (plC d.at_) = some D ∧ (∀ H, RelDs K H (d.dfl.map M.kcD) dvs) ∧ FunS K d.name d.qual d.params d.body d.scope dvs (plA K d.at_) fd D d.file)
theorem DefO.Got.plain {K : Frag} {d : DefO} (g : d.Got K) (h : d.dfl = []) (hs : d.su = false) : ∃ fd, FunD K d.name d.qual d.params d.body d.scope [] [] (plA K d.at_) fd := by
  obtain ⟨fd, dvs, r, F⟩ := g.1 hs
  rw [h] at r
  cases r fun _ => none
  exact ⟨fd, F⟩
theorem DefO.Got.plainS {K : Frag} {d : DefO} (g : d.Got K) (h : d.dfl = []) (hs : d.su = true) : ∃ fd D, adrOf K (plC d.at_) = some D ∧ FunS K d.name d.qual d.params d.body d.scope [] (plA K d.at_) fd D d.file := by
  obtain ⟨fd, dvs, D, hD, r, F⟩ := g.2 hs
  rw [h] at r
  cases r fun _ => none
  exact ⟨fd, D, hD, F⟩
theorem DefO.funD {K : Frag} {d : DefO} (e : fnWA K (plA K d.at_) = d.val) (c : d.ok K = true) : d.Got K := by
  obtain ⟨kp, c2⟩ := and2 c
  unfold fnWA at e
  cases q : K.lookup (plA K d.at_) with
  | none =>
    rw [q] at c2
    cases c2
  | some o =>
    obtain ⟨oc, od, dt, osl⟩ := o
    rw [q] at c2 e
    cases dt with
    | func fd =>
      obtain ⟨n1, n2, n3, n4, n5, n6, n7, n8, n9, n10, n11, n12, n13, n14, n15⟩ := fd
      have e2 : (some (n1, n2, n3, n4, n5, n6, [], n15) : He.FnW) = some (d.name, d.qual, d.params, .stmts d.body, d.scope, mainGlobals, [], builtinsNs) := e
      simp only [Option.some.injEq, Prod.mk.injEq] at e2
      obtain ⟨h1, h2, h3, h4, h5, h6, -, h8⟩ := e2
      subst h1 h2 h3 h4 h5 h6 h8
      have c3 : (PySem.W.codeIn K n13 d.qual && (dflK K n8 (d.dfl.map M.kcD) && He.kwdB K n9 []) && (if d.su then supK K (plC d.at_) d.file n7 n13 else n7.isEmpty)) = true := c2
      obtain ⟨c3, c4⟩ := and2 c3
      obtain ⟨k1, k2⟩ := and2 c3
      obtain ⟨k3, k4⟩ := and2 k2
      obtain ⟨dvs, r1, r2⟩ := dflK_ok k3
      refine ⟨fun hs => ?_, fun hs => ?_⟩
      · rw [hs, if_neg Bool.false_ne_true] at c4
        obtain rfl : n7 = [] := List.isEmpty_iff.mp c4
        exact ⟨_, dvs, r1, ⟨oc, od, n8, n9, n10, n11, n12, n13, n14, osl, rfl, q, k1, r2, He.kwdB_ok k4⟩, kp⟩
      · rw [hs, if_pos rfl] at c4
        unfold supK at c4
        obtain ⟨c5, c6⟩ := and2 c4
        split at c5
        · rename_i y cc
          obtain ⟨c7, c8⟩ := and2 c5
          have ey := of_decide_eq_true c7
          subst ey
          split at c8
          · rename_i cl cld D csl lcc
            split at c6
            · rename_i cda
              split at c6
              · rename_i ccl cdd vs ccs lcd
                split at c6
                · rename_i f tf ev
                  have ef := of_decide_eq_true c6
                  subst ef
                  exact ⟨_, dvs, D, beq_iff_eq.mp c8, r1, ⟨oc, od, n8, n9, n10, n11, n12, _, n14, osl, cc, rfl, q, k1, r2, He.kwdB_ok k4, ⟨_, _, _, lcc⟩, _, _, vs, _, tf, lcd, ev⟩, kp⟩
                · cases c6
              · cases c6
            · cases c6
          · cases c8
        · cases c5
    | _ => cases c2
def oca (K : Frag) (ocs : List Str) (k : Nat) : Option Addr := ocs[k]?.bind (adrOf K)
def mtB (K : Frag) (T : Tb) (C : Addr) (m : M.Tx) (n : Nat) : Bool := match T.ats.lookup n with
  | some q => (PySem.W.findIn K (.ref C) (stx m) == some (some (.ref (plA K q)))) && PySem.W.isFn K (.ref (plA K q)) && PySem.W.keepIn K (.ref (plA K q)) && PySem.W.fnIn K (plA K q)
  | none => false
/-- what super() finds -/
def suB (K : Frag) (T : Tb) (C : Addr) (m : M.Tx) (n : Nat) : Bool := match m with
  | 43 :: d :: m => (match T.ats.lookup n, oca K T.ocs d with
    | some q, some D => (PySem.W.ks_superIn K C D (stx m) == some (some (.ref (plA K q)))) && (PySem.W.typeIn K (.ref (plA K q)) == some (.type "function")) && (PySem.W.mroIn K C (.ref D) == some true) && (PySem.W.clsIn K D).isSome && PySem.W.fnIn K (plA K q) && (PySem.W.nsIn K cStatics "thirdparty.any" == some none)
    | _, _ => false)
  | _ => false
def mtS (K : Frag) (T : Tb) (C : Addr) (m : M.Tx) (n : Nat) : Bool := if M.starB m = true then mtB K T C m.tail n else if M.supB m = true then suB K T C m n else mtB K T C m n
def prB (K : Frag) (T : Tb) (C : Addr) (f : M.Tx) (n : Nat) : Bool := match T.ats.lookup n with
  | some q => (match PySem.W.findIn K (.ref C) (stx f) with
    | some (some (.ref p)) => (PySem.W.specialIn K (.ref p) "__get__" == some (some (.builtin "property.__get__"))) && (PySem.W.takesIn K (.ref p) == some true) && (match PySem.W.recIn K p "property" with
      | some (.ref g :: _) => decide (g = plA K q)
      | _ => false)
    | _ => false)
  | none => false
def clsB1 (K : Frag) (C : Addr) : Bool := PySem.W.plainGet K C Str.empty && PySem.W.hasDictIn K C && PySem.W.plainOver K C && (PySem.W.findIn K (.ref C) "__setattr__" == some (some (.builtin "object.__setattr__"))) && PySem.W.makesIn K C && PySem.W.keepIn K (.ref C) && PySem.W.selfFirst K C
  && (PySem.W.findIn K (.ref C) "__class__" == some (some (.builtin "object.__class__"))) && (PySem.W.specialIn K (.builtin "object.__class__") "__get__" == some (some (.builtin "getset_descriptor.__get__")))
  && (PySem.W.takesIn K (.builtin "object.__class__") == some true) && (PySem.W.mroIn K C (.type "object") == some true) && (PySem.W.findIn K (.ref C) "__rand__" == some none)
def clsB2 (K : Frag) (C : Addr) : Bool := tyNs.all fun n => (PySem.W.subIn K (.type n) (.ref C) == some false) && (PySem.W.kitOne K (.type n) (.ref C) == some false) && (PySem.W.findIn K (.type n) "__and__").isSome && (PySem.W.findIn K (.type n) "__rand__").isSome
def clsB3 (K : Frag) (C : Addr) : Bool := ["int", "bool", "tuple", "list", "str"].all fun n => PySem.W.kitOne K (.ref C) (.type n) == some false
def objB (K : Frag) (T : Tb) (os : Nat → Nat → Bool) : Bool := (T.mtb.all fun e => !T.hots.contains e.2 && ((T.sts.contains e.2 == M.starB e.1.2) && (T.fns[e.2]?).isSome)) && (T.prs.all fun m => !M.keyB m) && (List.range T.ocs.length).all fun k => match oca K T.ocs k with
  | some C => clsB1 K C && clsB2 K C && (clsB3 K C && (PySem.W.findIn K (.ref C) "__ne__" == some (some (.builtin "object.__ne__")))) && (T.fds.all fun f => PySem.W.findIn K (.ref C) (stx f) == some none) && (T.mtb.all fun e => !decide (e.1.1 = k) || (if e.1.2 ∈ T.prs then prB K T C e.1.2 e.2 else mtS K T C e.1.2 e.2))
    && (List.range T.ocs.length).all fun j => match oca K T.ocs j with
      | some D => PySem.W.kitOne K (.ref C) (.ref D) == some (os k j)
      | none => false
  | none => false
def objsOf (K : Frag) (T : Tb) (os : Nat → Nat → Bool) : Objs := ⟨oca K T.ocs, fun k m => T.mtb.lookup (k, m), os⟩
theorem mem_lk {α β : Type} [BEq α] [LawfulBEq α] : ∀ {l : List (α × β)} {a : α} {b : β}, l.lookup a = some b → (a, b) ∈ l
  | [], _, _, h => by cases h
  | (x, y) :: l, a, b, h => by
    rw [List.lookup_cons] at h
    by_cases e : a = x
    · subst e
      rw [beq_self_eq_true] at h
      cases h
      exact List.mem_cons_self
    · rw [beq_false_of_ne e] at h
      exact List.mem_cons_of_mem _ (mem_lk h)
theorem oca_lt {K : Frag} {ocs : List Str} {k : Nat} {C : Addr} (h : oca K ocs k = some C) : k < ocs.length := by
  unfold oca at h
  cases e : ocs[k]? with
  | none => rw [e] at h; cases h
  | some x => exact (List.getElem?_eq_some_iff.mp e).1
theorem objB_ok {K : Frag} {h : Heap} {mg : Str → Option Value} {T : Tb} {G : M.Gm} {os : Nat → Nat → Bool} (X : K.In h) (N : h.Ns mainGlobals mg) (go : G.ob = oca K T.ocs) (gm : G.mt = fun k m => T.mtb.lookup (k, m)) (gs : G.os = os) (c : objB K T os = true) : Obs K mg T G := by
  obtain ⟨c0, c1⟩ := and2 c
  obtain ⟨c0, c9⟩ := and2 c0
  have at_ : ∀ k C, G.ob k = some C → oca K T.ocs k = some C := fun k C e => by rw [← go]; exact e
  refine ⟨fun k m n e => ?_, fun k x hx => ?_, fun k C e => ?_⟩
  · have e : T.mtb.lookup (k, m) = some n := by rw [gm] at e; exact e
    have hm := mem_lk e
    obtain ⟨g1, g2⟩ := and2 (List.all_eq_true.mp c0 _ hm)
    obtain ⟨g4, g2⟩ := and2 g2
    obtain ⟨x, g3⟩ := Option.isSome_iff_exists.mp g2
    exact ⟨hm, not1 g1, eq_of_beq g4, x, g3⟩
  · have q := List.all_eq_true.mp c1 k (List.mem_range.mpr (List.getElem?_eq_some_iff.mp hx).1)
    cases e : oca K T.ocs k with
    | none => rw [e] at q; cases q
    | some C =>
      refine ⟨C, ?_, by rw [go]; exact e⟩
      unfold oca at e
      rw [hx, Option.bind_some] at e
      unfold adrOf at e
      split at e
      · rename_i C' e2
        cases e
        exact PySem.W.mg_of X N e2
      · cases e
  · have e := at_ k C e
    have q := List.all_eq_true.mp c1 k (List.mem_range.mpr (oca_lt e))
    rw [e] at q
    have q : (clsB1 K C && clsB2 K C && (clsB3 K C && (PySem.W.findIn K (.ref C) "__ne__" == some (some (.builtin "object.__ne__")))) && (T.fds.all fun f => PySem.W.findIn K (.ref C) (stx f) == some none) && (T.mtb.all fun e => !decide (e.1.1 = k) || (if e.1.2 ∈ T.prs then prB K T C e.1.2 e.2 else mtS K T C e.1.2 e.2))
      && (List.range T.ocs.length).all fun j => match oca K T.ocs j with
        | some D => PySem.W.kitOne K (.ref C) (.ref D) == some (os k j)
        | none => false) = true := q
    obtain ⟨q, q5⟩ := and2 q
    obtain ⟨q, q4⟩ := and2 q
    obtain ⟨q, q3⟩ := and2 q
    obtain ⟨q, q6⟩ := and2 q
    obtain ⟨q1, q2⟩ := and2 q
    obtain ⟨q6, q7⟩ := and2 q6
    unfold clsB1 at q1
    simp only [Bool.and_eq_true, beq_iff_eq] at q1
    obtain ⟨⟨⟨⟨⟨⟨⟨⟨⟨⟨⟨h1, h2⟩, h3⟩, h4⟩, h5⟩, h6⟩, h7⟩, h8⟩, h9⟩, h10⟩, h11⟩, h12⟩ := q1
    have ty : ∀ n ∈ tyNs, PySem.W.subIn K (.type n) (.ref C) = some false ∧ PySem.W.kitOne K (.type n) (.ref C) = some false ∧ (PySem.W.findIn K (.type n) "__and__").isSome = true ∧ (PySem.W.findIn K (.type n) "__rand__").isSome = true := fun n hn => by
      have z := List.all_eq_true.mp q2 n hn
      simp only [Bool.and_eq_true, beq_iff_eq] at z
      exact ⟨z.1.1.1, z.1.1.2, z.1.2, z.2⟩
    have mem : ∀ m n, G.mt k m = some n → (if m ∈ T.prs then prB K T C m n else mtS K T C m n) = true := fun m n em => by
      have em : T.mtb.lookup (k, m) = some n := by rw [gm] at em; exact em
      have z := List.all_eq_true.mp q4 _ (mem_lk em)
      rcases Bool.or_eq_true_iff.mp z with z | z
      · simp at z
      · exact z
    exact {
      cl := ⟨h1, h2, h3, h4⟩
      mks := h5
      kp := h6
      sf := h7
      ne := by simpa using q7
      pn := fun m hm => not1 (List.all_eq_true.mp c9 m hm)
      ms := fun m n em => by
        have z := mem _ n em
        rw [if_neg (fun h => by have e := not1 (List.all_eq_true.mp c9 _ h); cases e)] at z
        unfold mtS at z
        rw [if_pos (show M.starB (M.starN m) = true from rfl)] at z
        have z : mtB K T C m n = true := z
        unfold mtB at z
        split at z
        · rename_i q' eq
          simp only [Bool.and_eq_true, beq_iff_eq] at z
          exact ⟨q', eq, ⟨z.1.1.1, z.1.1.2, z.1.2⟩⟩
        · cases z
      su := fun d m n em => by
        have z := mem _ n em
        rw [if_neg (fun h => by have e := not1 (List.all_eq_true.mp c9 _ h); cases e)] at z
        unfold mtS at z
        rw [if_neg (show ¬ M.starB (M.supN d m) = true from Bool.false_ne_true), if_pos (show M.supB (M.supN d m) = true from rfl)] at z
        have z : (match T.ats.lookup n, oca K T.ocs d with
          | some q, some D => (PySem.W.ks_superIn K C D (stx m) == some (some (.ref (plA K q)))) && (PySem.W.typeIn K (.ref (plA K q)) == some (.type "function")) && (PySem.W.mroIn K C (.ref D) == some true) && (PySem.W.clsIn K D).isSome && PySem.W.fnIn K (plA K q) && (PySem.W.nsIn K cStatics "thirdparty.any" == some none)
          | _, _ => false) = true := z
        split at z
        · rename_i q' D eq eD
          simp only [Bool.and_eq_true, beq_iff_eq] at z
          obtain ⟨⟨⟨⟨⟨z1, z2⟩, z3⟩, z4⟩, z5⟩, z6⟩ := z
          exact ⟨q', D, eq, by rw [go]; exact eD, ⟨z1, z2, z3, z4, z5, z6⟩⟩
        · cases z
      mt := fun m n hp hs em => by
        have z := mem m n em
        rw [if_neg hp] at z
        unfold mtS at z
        rw [M.keyB_star hs, if_neg Bool.false_ne_true, M.keyB_sup hs, if_neg Bool.false_ne_true] at z
        unfold mtB at z
        split at z
        · rename_i q' eq
          simp only [Bool.and_eq_true, beq_iff_eq] at z
          exact ⟨q', eq, ⟨z.1.1.1, z.1.1.2, z.1.2⟩, z.2⟩
        · cases z
      pr := fun m n hp em => by
        have z := mem m n em
        rw [if_pos hp] at z
        unfold prB at z
        split at z
        · rename_i q' eq
          split at z
          · rename_i p ep
            obtain ⟨z, z3⟩ := and2 z
            obtain ⟨z1, z2⟩ := and2 z
            split at z3
            · rename_i g rest er
              have eg := of_decide_eq_true z3
              subst eg
              exact ⟨q', p, eq, ep, beq_iff_eq.mp z1, beq_iff_eq.mp z2, rest, er⟩
            · cases z3
          · cases z
        · cases z
      fd := fun f hf => beq_iff_eq.mp (List.all_eq_true.mp q3 f hf)
      ha := h8
      hn := h9
      ht := h10
      hm := h11
      sub := fun n hn => ⟨(ty n hn).1, (ty n hn).2.1⟩
      andl := fun n hn => ⟨Option.isSome_iff_exists.mp (ty n hn).2.2.1, Option.isSome_iff_exists.mp (ty n hn).2.2.2⟩
      andr := h12
      isb := fun n hn => beq_iff_eq.mp (List.all_eq_true.mp q6 n hn)
      isc := fun j D ej => by
        have ej := at_ j D ej
        have z := List.all_eq_true.mp q5 j (List.mem_range.mpr (oca_lt ej))
        rw [ej] at z
        rw [gs]
        exact beq_iff_eq.mp z }
/-! ### the head's hook with them -/
def nsOf (ocs : List Str) (g : Addr → Option Obj) (a : Addr) : List Addr := match g a with
  | some ⟨_, _, .cls cd, _⟩ => if cd.name ∈ ocs then [cd.ns] else []
  | _ => []
def growN (g : Addr → Option Obj) : Nat → List Addr → List Addr
  | 0, as => as
  | n + 1, as => He.growD g (growN g n as)
/-- the classes whose names are looked into -/
def ocx (T : Tb) : List Str := T.ocs ++ T.xin.filterMap fun e => T.cls[e.1]?
/-- what is looked at: globals, defs, their codes; of the classes of objects also their methods, getters, codes -/
def asO (ocs : List Str) (g : Addr → Option Obj) : List Addr := sysModules :: cStatics :: (He.asD g 2 ++ growN g 3 ((He.asD g 2).flatMap (nsOf ocs g)))
def obsO (l : List (Str × M.D)) (T : Tb) (sb os : Nat → Nat → Bool) (fa : List He.Fa) (fn : List He.DefD) (fo : List DefO) (K : Frag) : He.AlD :=
  ((obsE l T.cls T.nr sb fa fn K).1 && (objB K T os && (xK K T && fo.all fun d => d.ok K)), (He.obsD fa fn K).2 ++ fo.map fun d => fnWA K (plA K d.at_))
def valO (fn : List He.DefD) (fo : List DefO) : He.AlD := (true, fn.map He.DefD.val ++ fo.map DefO.val)
def hookO (l : List (Str × M.D)) (T : Tb) (sb os : Nat → Nat → Bool) (fa : List He.Fa) (fn : List He.DefD) (fo : List DefO) : PySem.W.Hook where
  α := He.AlD
  obs := fun s => obsO l T sb os fa fn fo (He.frG s.heap.get? (asO (ocx T) s.heap.get?))
  val := fun _ => valO fn fo
  says := fun _ h => ∃ K : Frag, K.In h ∧ obsO l T sb os fa fn fo K = valO fn fo
  of := fun _ _ e => ⟨_, He.frG_in, e⟩
  keeps := fun _ _ _ ⟨K, hK, c⟩ k => ⟨K, PySem.W.Frag.In.keeps hK k, c⟩
theorem obsO_says {l : List (Str × M.D)} {T : Tb} {sb os : Nat → Nat → Bool} {fa : List He.Fa} {fn : List He.DefD} {fo : List DefO} {K : Frag} (h : obsO l T sb os fa fn fo K = valO fn fo) :
    He.SaysD fa fn K ∧ consK l K = true ∧ sysB K = true ∧ exK T.cls T.nr sb K = true ∧ objB K T os = true ∧ xK K T = true ∧ ∀ (i : Nat) (d : DefO), fo[i]? = some d → d.Got K := by
  have h1 : ((obsE l T.cls T.nr sb fa fn K).1 && (objB K T os && (xK K T && fo.all fun d => d.ok K))) = true := congrArg (fun z : He.AlD => z.1) h
  have h2 : (He.obsD fa fn K).2 ++ fo.map (fun d => fnWA K (plA K d.at_)) = fn.map He.DefD.val ++ fo.map DefO.val := congrArg (fun z : He.AlD => z.2) h
  have hl : (He.obsD fa fn K).2.length = (fn.map He.DefD.val).length := by
    show (fn.map fun d => He.fnW K d.at_).length = _
    rw [List.length_map, List.length_map]
  obtain ⟨e1, e2⟩ := List.append_inj h2 hl
  obtain ⟨a, b⟩ := and2 h1
  obtain ⟨b, d⟩ := and2 b
  have hE : obsE l T.cls T.nr sb fa fn K = He.valD fn := Prod.ext a e1
  obtain ⟨s1, s2, s3, s4⟩ := obsE_says hE
  obtain ⟨dx, d⟩ := and2 d
  refine ⟨s1, s2, s3, s4, b, dx, fun i x hx => ?_⟩
  have e3 : (fo.map fun d => fnWA K (plA K d.at_))[i]? = (fo.map DefO.val)[i]? := by rw [e2]
  rw [List.getElem?_map, List.getElem?_map, hx] at e3
  exact DefO.funD (Option.some.inj e3) (List.all_eq_true.mp d x (List.mem_of_getElem? hx))
theorem obsO_eq {l : List (Str × M.D)} {T : Tb} {sb os : Nat → Nat → Bool} {fa : List He.Fa} {fn : List He.DefD} {fo : List DefO} {g : Addr → Option Obj} {s : Shared} (h : ∀ a, g a = s.heap.get? a) : obsO l T sb os fa fn fo (He.frG g (asO (ocx T) g)) = (hookO l T sb os fa fn fo).obs s := by
  have e : g = s.heap.get? := funext h
  rw [e]
  rfl
section
variable {K : Frag} {x qual : Str} {params : Arguments} {body : List Stmt} {scope : Scope} {f : Addr} {fd : FuncData} {ps : List Str} {dvs : List V} {ds : List M.D}
theorem rels_drop {H : Hp} : ∀ (i : Nat) {ds : List M.D} {vs : List V}, RelDs K H ds vs → RelDs K H (ds.drop i) (vs.drop i)
  | 0, _, _, r => r
  | _ + 1, _, _, .nil => .nil
  | i + 1, _, _, .cons _ r => rels_drop i r
theorem dfl_ne (R : ∀ H, RelDs K H ds dvs) (h : ds ≠ []) : dvs ≠ [] := fun e => by
  subst e
  cases R fun _ => none
  exact h rfl
theorem dfl_len (R : ∀ H, RelDs K H ds dvs) : dvs.length = ds.length := ((R fun _ => none).length).symm
/-- all parameters are written -/
theorem bd_ofD (R : ∀ H, RelDs K H ds dvs) (h0 : ds ≠ []) (F : FunD K x qual params body scope dvs [] f fd)
    (h : ∀ (T : Addr) (kV doc pm : Value) (an : Option Addr) (cdv ct : Value) (us its : List Value), us.length = ps.length → its.length = ds.length → ∃ r, bindArgs (PySem.W.fnOf x qual params body scope (.ref T) kV doc pm an cdv ct) ⟨us, []⟩ = seqItems? (.ref T) >>= r ∧ r (some its.toArray) = pure (ps.zip us)) : Binds K fd ps [] := by
  obtain ⟨us, r, b⟩ := F.binds1 (ps := ps) ps.length dvs.length (dfl_ne R h0) (by omega) fun T kV doc pm an cdv ct us its l1 l2 => by
    obtain ⟨r, e1, e2⟩ := h T kV doc pm an cdv ct us its l1 (l2.trans (dfl_len R))
    refine ⟨r, e1, ?_⟩
    rw [e2, List.drop_of_length_le (by omega), List.append_nil]
  rw [List.drop_of_length_le (Nat.le_refl _)] at r
  cases r
  exact b
/-- the defaults behind the first i fill up -/
theorem bf_ofD (R : ∀ H, RelDs K H ds dvs) (h0 : ds ≠ []) (F : FunD K x qual params body scope dvs [] f fd) (n i : Nat) (hn : n + (ds.length - i) = ps.length)
    (h : ∀ (T : Addr) (kV doc pm : Value) (an : Option Addr) (cdv ct : Value) (us its : List Value), us.length = n → its.length = ds.length → ∃ r, bindArgs (PySem.W.fnOf x qual params body scope (.ref T) kV doc pm an cdv ct) ⟨us, []⟩ = seqItems? (.ref T) >>= r ∧ r (some its.toArray) = pure (ps.zip (us ++ its.drop i))) :
    ∃ dvs us, Vals dvs us ∧ (∀ H, RelDs K H (ds.drop i) dvs) ∧ Binds K fd ps us := by
  obtain ⟨us, r, b⟩ := F.binds1 (ps := ps) n i (dfl_ne R h0) (by rw [dfl_len R]; exact hn) fun T kV doc pm an cdv ct us its l1 l2 => h T kV doc pm an cdv ct us its l1 (l2.trans (dfl_len R))
  exact ⟨_, us, r, fun H => rels_drop i (R H), b⟩
/-- what binds the arguments -/
structure FunB (K : Frag) (x qual : Str) (params : Arguments) (body : List Stmt) (scope : Scope) (dvs : List V) (fd : FuncData) : Prop where
  ex : ∃ cl dV kV doc pm an cdv ct, fd = PySem.W.fnX x qual params body scope cl dV kV doc pm an cdv ct ∧ DflV K dV dvs
theorem _root_.Snd.FunS.b {D : Addr} {file : Str} (F : FunS K x qual params body scope dvs f fd D file) : FunB K x qual params body scope dvs fd := by
  obtain ⟨c1, c2, c3, c4, c5, c6, c7, cda, c9, c10, cc, same, stands, code, hd, _, _, _⟩ := F.ex
  exact ⟨_, _, _, _, _, _, _, _, same, hd⟩
theorem bindsNS (F : FunB K x qual params body scope [] fd)
    (h : ∀ (kV doc pm : Value) (an : Option Addr) (cdv ct : Value) (us : List Value), us.length = ps.length → bindArgs (PySem.W.fnOf x qual params body scope .none kV doc pm an cdv ct) ⟨us, []⟩ = pure (ps.zip us)) : Binds K fd ps [] := by
  obtain ⟨cl, dV, kV, doc, pm, an, cdv, ct, rfl, hD⟩ := F.ex
  rcases hD with ⟨_, rfl⟩ | ⟨e, _⟩
  · exact .all (h kV doc pm an cdv ct)
  · exact absurd rfl e
theorem kb_ofS {m : Nat} {ks : List Str} {perm : List Nat} (F : FunB K x qual params body scope [] fd)
    (h : ∀ (kV doc pm : Value) (an : Option Addr) (cdv ct : Value) (us ws : List Value), us.length = m → ws.length = ks.length → bindArgs (PySem.W.fnOf x qual params body scope .none kV doc pm an cdv ct) ⟨us, ks.zip ws⟩ = pure (ps.zip (perm.filterMap fun i => (us ++ ws)[i]?))) : KB K fd ps m ks perm := by
  obtain ⟨cl, dV, kV, doc, pm, an, cdv, ct, rfl, hD⟩ := F.ex
  rcases hD with ⟨_, rfl⟩ | ⟨e, _⟩
  · exact fun s us ws _ h1 h2 => .of_eq (h kV doc pm an cdv ct us ws h1 h2)
  · exact absurd rfl e
theorem kb_ofDS {m : Nat} {ks : List Str} {perm : List Nat} (hd : dvs ≠ []) (F : FunB K x qual params body scope dvs fd)
    (h : ∀ (T : Addr) (kV doc pm : Value) (an : Option Addr) (cdv ct : Value) (us ws its : List Value), us.length = m → ws.length = ks.length → its.length = dvs.length → ∃ r, bindArgs (PySem.W.fnOf x qual params body scope (.ref T) kV doc pm an cdv ct) ⟨us, ks.zip ws⟩ = seqItems? (.ref T) >>= r ∧ r (some its.toArray) = pure (ps.zip (perm.filterMap fun i => (us ++ ws)[i]?))) : KB K fd ps m ks perm := by
  obtain ⟨cl, dV, kV, doc, pm, an, cdv, ct, rfl, hD⟩ := F.ex
  rcases hD with ⟨e, _⟩ | ⟨_, T, o, its, n, rfl, lT, oT, rT⟩
  · exact absurd e hd
  · intro s us ws X h1 h2
    obtain ⟨r, e1, e2⟩ := h T kV doc pm an cdv ct us ws its h1 h2 rT.length.symm
    refine BindsTo.of_looks fun M => ?_
    show PySem.W.Looks M s.heap (bindArgs (PySem.W.fnOf x qual params body scope (.ref T) kV doc pm an cdv ct) ⟨us, ks.zip ws⟩) _
    rw [e1]
    exact looks_items X lT oT (.of_pure e2)
theorem binds1S (F : FunB K x qual params body scope dvs fd) (n j : Nat) (hd : dvs ≠ []) (hn : n + (dvs.length - j) = ps.length)
    (h : ∀ (T : Addr) (kV doc pm : Value) (an : Option Addr) (cdv ct : Value) (us its : List Value), us.length = n → its.length = dvs.length →
      ∃ k, bindArgs (PySem.W.fnOf x qual params body scope (.ref T) kV doc pm an cdv ct) ⟨us, []⟩ = seqItems? (.ref T) >>= k ∧ k (some its.toArray) = pure (ps.zip (us ++ its.drop j))) : ∃ ds, Vals (dvs.drop j) ds ∧ Binds K fd ps ds := by
  obtain ⟨cl, dV, kV, doc, pm, an, cdv, ct, rfl, hD⟩ := F.ex
  rcases hD with ⟨e, _⟩ | ⟨_, T, o, its, m, rfl, lT, oT, rT⟩
  · exact absurd e hd
  · refine ⟨its.drop j, rT.drop j, fun s us X hlen => ?_⟩
    have l1 : its.length = dvs.length := rT.length.symm
    have l2 : us.length = n := by
      rw [List.length_append, List.length_drop, l1] at hlen
      omega
    obtain ⟨k, e1, e2⟩ := h T kV doc pm an cdv ct us its l2 l1
    refine BindsTo.of_looks fun M => ?_
    show PySem.W.Looks M s.heap (bindArgs (PySem.W.fnOf x qual params body scope (.ref T) kV doc pm an cdv ct) ⟨us, []⟩) _
    rw [e1]
    exact looks_items X lT oT (.of_pure e2)
theorem bd_ofS (R : ∀ H, RelDs K H ds dvs) (h0 : ds ≠ []) (F : FunB K x qual params body scope dvs fd)
    (h : ∀ (T : Addr) (kV doc pm : Value) (an : Option Addr) (cdv ct : Value) (us its : List Value), us.length = ps.length → its.length = ds.length → ∃ r, bindArgs (PySem.W.fnOf x qual params body scope (.ref T) kV doc pm an cdv ct) ⟨us, []⟩ = seqItems? (.ref T) >>= r ∧ r (some its.toArray) = pure (ps.zip us)) : Binds K fd ps [] := by
  obtain ⟨us, r, b⟩ := binds1S F (ps := ps) ps.length dvs.length (dfl_ne R h0) (by omega) fun T kV doc pm an cdv ct us its l1 l2 => by
    obtain ⟨r, e1, e2⟩ := h T kV doc pm an cdv ct us its l1 (l2.trans (dfl_len R))
    refine ⟨r, e1, ?_⟩
    rw [e2, List.drop_of_length_le (by omega), List.append_nil]
  rw [List.drop_of_length_le (Nat.le_refl _)] at r
  cases r
  exact b
theorem bf_ofS (R : ∀ H, RelDs K H ds dvs) (h0 : ds ≠ []) (F : FunB K x qual params body scope dvs fd) (n i : Nat) (hn : n + (ds.length - i) = ps.length)
    (h : ∀ (T : Addr) (kV doc pm : Value) (an : Option Addr) (cdv ct : Value) (us its : List Value), us.length = n → its.length = ds.length → ∃ r, bindArgs (PySem.W.fnOf x qual params body scope (.ref T) kV doc pm an cdv ct) ⟨us, []⟩ = seqItems? (.ref T) >>= r ∧ r (some its.toArray) = pure (ps.zip (us ++ its.drop i))) :
    ∃ dvs us, Vals dvs us ∧ (∀ H, RelDs K H (ds.drop i) dvs) ∧ Binds K fd ps us := by
  obtain ⟨us, r, b⟩ := binds1S F (ps := ps) n i (dfl_ne R h0) (by rw [dfl_len R]; exact hn) fun T kV doc pm an cdv ct us its l1 l2 => h T kV doc pm an cdv ct us its l1 (l2.trans (dfl_len R))
  exact ⟨_, us, r, fun H => rels_drop i (R H), b⟩
/-- a def of one parameter and a star -/
theorem star_of {p1 pv : Str} (F : FunD K x qual params body scope [] [] f fd)
    (h0 : ∀ (kV doc pm : Value) (an : Option Addr) (cdv ct a : Value), bindArgs (PySem.W.fnOf x qual params body scope .none kV doc pm an cdv ct) ⟨[a], []⟩ = (newTuple [] >>= fun t => pure [(p1, a), (pv, t)]))
    (h1 : ∀ (kV doc pm : Value) (an : Option Addr) (cdv ct a r : Value) (rs : List Value), bindArgs (PySem.W.fnOf x qual params body scope .none kV doc pm an cdv ct) ⟨a :: r :: rs, []⟩ = (newTuple (r :: rs) >>= fun t => pure [(p1, a), (pv, t)])) (a : Value) (rest : List Value) :
    bindArgs fd ⟨a :: rest, []⟩ = (newTuple rest >>= fun t => pure [(p1, a), (pv, t)]) := by
  obtain ⟨oc, od, dV, kV, doc, pm, an, cdv, ct, osl, rfl, lk, hcd, hD, hK⟩ := F.ex
  rcases hD with ⟨_, rfl⟩ | ⟨e, _⟩
  · cases rest with
    | nil => exact h0 kV doc pm an cdv ct a
    | cons r rs => exact h1 kV doc pm an cdv ct a r rs
  · exact absurd rfl e
end
end Snd
namespace M
theorem br_t {A B : Prop} : br true A B ↔ A := ⟨fun h => h.1 rfl, fun h => ⟨fun _ => h, fun z => nomatch z⟩⟩
theorem br_f {A B : Prop} : br false A B ↔ B := ⟨fun h => h.2 rfl, fun h => ⟨fun z => (nomatch z), fun _ => h⟩⟩
theorem br_n {A B : Prop} {b : Bool} : br (!b) A B ↔ br b B A := by cases b <;> simp [br]
theorem br_if {A B : Prop} {b : Bool} (h1 : b = true → A) (h2 : b = false → B) : br b A B := ⟨h1, h2⟩
theorem br_d {A B p : Prop} {d : Decidable p} (h1 : p → A) (h2 : ¬p → B) : br (@decide p d) A B := ⟨fun h => h1 (of_decide_eq_true h), fun h => h2 (of_decide_eq_false h)⟩
theorem opt_some {α : Type} {a : α} {P : α → Prop} : opt (some a) P = P a := rfl
theorem onI_int {i : Int} {P : Int → Prop} : onI (.int i) P = P i := rfl
theorem onB_bl {i : Bool} {P : Bool → Prop} : onB (.bl i) P = P i := rfl
theorem onR_ref {i : Nat} {P : Nat → Prop} : onR (.ref i) P = P i := rfl
theorem arg1_one {x : D} {P : D → Prop} : arg1 [x] P = P x := rfl
theorem eq_ii {i j : Int} {S : Sto} {Q : Bool → Prop} : cmpD .eq (.int i) (.int j) S Q ↔ Q (i == j) := by simp [cmpD, fit, eqB]
theorem ne_ii {i j : Int} {S : Sto} {Q : Bool → Prop} : cmpD .ne (.int i) (.int j) S Q ↔ Q (!(i == j)) := by simp [cmpD, fit, eqB]
theorem lt_ii {i j : Int} {S : Sto} {Q : Bool → Prop} : cmpD .lt (.int i) (.int j) S Q = Q (decide (i < j)) := rfl
theorem le_ii {i j : Int} {S : Sto} {Q : Bool → Prop} : cmpD .le (.int i) (.int j) S Q = Q (decide (i ≤ j)) := rfl
theorem gt_ii {i j : Int} {S : Sto} {Q : Bool → Prop} : cmpD .gt (.int i) (.int j) S Q = Q (decide (j < i)) := rfl
theorem ge_ii {i j : Int} {S : Sto} {Q : Bool → Prop} : cmpD .ge (.int i) (.int j) S Q = Q (decide (j ≤ i)) := rfl
theorem is_n {x : D} {S : Sto} {Q : Bool → Prop} : cmpD .is_ x .non S Q = Q (isNon x) := rfl
theorem isn_n {x : D} {S : Sto} {Q : Bool → Prop} : cmpD .isn x .non S Q = Q (!isNon x) := rfl
theorem is_b {a b : Bool} {S : Sto} {Q : Bool → Prop} : cmpD .is_ (.bl a) (.bl b) S Q = Q (a == b) := rfl
theorem isn_b {a b : Bool} {S : Sto} {Q : Bool → Prop} : cmpD .isn (.bl a) (.bl b) S Q = Q (!(a == b)) := rfl
theorem add_ii {i j : Int} {S : Sto} {Q : VK} : binD .add (.int i) (.int j) S Q = Q (.int (i + j)) S := rfl
theorem sub_ii {i j : Int} {S : Sto} {Q : VK} : binD .sub (.int i) (.int j) S Q = Q (.int (i - j)) S := rfl
theorem mul_ii {i j : Int} {S : Sto} {Q : VK} : binD .mul (.int i) (.int j) S Q = (sm i ∧ sm j ∧ Q (.int (i * j)) S) := rfl
theorem mod_ii {i j : Int} {S : Sto} {Q : VK} : binD .mod (.int i) (.int j) S Q = (j ≠ 0 ∧ Q (.int (i.fmod j)) S) := rfl
theorem fdiv_ii {i j : Int} {S : Sto} {Q : VK} : binD .fdiv (.int i) (.int j) S Q = (j ≠ 0 ∧ smd j ∧ Q (.int (i.fdiv j)) S) := rfl
theorem pow_ii {i j : Int} {S : Sto} {Q : VK} : binD .pow (.int i) (.int j) S Q = (sm i ∧ 0 ≤ j ∧ j ≤ 1000 ∧ Q (.int (i ^ j.toNat)) S) := rfl
theorem intD_i {i : Int} {S : Sto} {Q : VK} : intD (.int i) S Q = Q (.int i) S := rfl
theorem intD_b {i : Bool} {S : Sto} {Q : VK} : intD (.bl i) S Q = Q (.int (b2i i)) S := rfl
theorem ix30 : ixN 3 0 = some 0 := rfl
theorem ix31 : ixN 3 1 = some 1 := rfl
theorem ix32 : ixN 3 2 = some 2 := rfl
theorem at20 {α : Type} {a b : α} : atI [a, b] 0 = some a := rfl
theorem at21 {α : Type} {a b : α} : atI [a, b] 1 = some b := rfl
theorem at30 {α : Type} {a b c : α} : atI [a, b, c] 0 = some a := rfl
theorem at31 {α : Type} {a b c : α} : atI [a, b, c] 1 = some b := rfl
theorem at32 {α : Type} {a b c : α} : atI [a, b, c] 2 = some c := rfl
/-! ### the store -/
/-- what stood stands -/
def Ext (S S' : Sto) : Prop := ∀ a o, S a = some o → S' a = some o
/-- what stood stands, but at w -/
def Kp (w : Nat) (S S' : Sto) : Prop := ∀ a o, a ≠ w → S a = some o → S' a = some o
theorem Ext.refl {S : Sto} : Ext S S := fun _ _ h => h
theorem Ext.trans {S S' S2 : Sto} (a : Ext S S') (b : Ext S' S2) : Ext S S2 := fun x o h => b x o (a x o h)
theorem Ext.kp {S S' : Sto} (w : Nat) (a : Ext S S') : Kp w S S' := fun x o _ h => a x o h
theorem Kp.refl {w : Nat} {S : Sto} : Kp w S S := fun _ _ _ h => h
theorem Kp.trans {w : Nat} {S S' S2 : Sto} (a : Kp w S S') (b : Kp w S' S2) : Kp w S S2 := fun x o n h => b x o n (a x o n h)
theorem upd_at {S : Sto} {a : Nat} {o : O} : upd S a o a = some o := if_pos rfl
theorem upd_off {S : Sto} {a b : Nat} {o : O} (h : b ≠ a) : upd S a o b = S b := if_neg h
theorem Ext.new {S : Sto} {p : Nat} {o : O} (h : S p = none) : Ext S (upd S p o) := fun a x e => by
  have : a ≠ p := fun z => by rw [z, h] at e; cases e
  rw [upd_off this]; exact e
theorem Kp.wr {S : Sto} {w : Nat} {o : O} : Kp w S (upd S w o) := fun a x n e => by rw [upd_off n]; exact e
theorem lstAt_eq {S : Sto} {a : Nat} {xs : List D} (h : S a = some (.lst xs)) : lstAt S a = some xs := by unfold lstAt lstO; rw [h]
theorem lsOf_ref {S : Sto} {a : Nat} {xs : List D} (h : S a = some (.lst xs)) : lsOf S (.ref a) = some xs := lstAt_eq h
theorem sqOf_ref {S : Sto} {a : Nat} {xs : List D} (h : S a = some (.lst xs)) : sqOf S (.ref a) = some xs := lstAt_eq h
theorem lstAt_new {S : Sto} {a : Nat} {xs : List D} : lstAt (upd S a (.lst xs)) a = some xs := lstAt_eq upd_at
theorem ixD_ref {S : Sto} {a : Nat} {xs : List D} (h : S a = some (.lst xs)) {i : Int} {Q : VK} : ixD (.ref a) (.int i) S Q = opt (atI xs i) fun d => Q d S := by
  show opt (lstAt S a) _ = _
  rw [lstAt_eq h]
  rfl
theorem ixD_tup {S : Sto} {xs : List D} {i : Int} {Q : VK} : ixD (.tup xs) (.int i) S Q = opt (atI xs i) fun d => Q d S := rfl
theorem ixD_fl {S : Sto} {xs : List D} {i : Int} {Q : VK} : ixD (.fl xs) (.int i) S Q = opt (atI xs i) fun d => Q d S := rfl
theorem lenD_ref {S : Sto} {a : Nat} {xs : List D} (h : S a = some (.lst xs)) {Q : VK} : lenD (.ref a) S Q = Q (.int xs.length) S := by
  show opt (lstAt S a) _ = _
  rw [lstAt_eq h]
  rfl
theorem lenD_tup {S : Sto} {xs : List D} {Q : VK} : lenD (.tup xs) S Q = Q (.int xs.length) S := rfl
theorem lenD_fl {S : Sto} {xs : List D} {Q : VK} : lenD (.fl xs) S Q = Q (.int xs.length) S := rfl
theorem six_ref {S : Sto} {a : Nat} {xs : List D} (h : S a = some (.lst xs)) {i : Int} {d : D} {Q : Sto → Prop} : sixD (.ref a) (.int i) d S Q = opt (ixN xs.length i) fun j => Q (upd S a (.lst (xs.set j d))) := by
  show opt (lstAt S a) _ = _
  rw [lstAt_eq h]
  rfl
theorem lsOf_new {S : Sto} {a : Nat} {xs : List D} : lsOf (upd S a (.lst xs)) (.ref a) = some xs := lstAt_new
theorem seqD_tup {S : Sto} {xs : List D} {R : IK} : seqD (.tup xs) S R = R xs (fun _ => True) S := rfl
theorem seqD_fl {S : Sto} {xs : List D} {R : IK} : seqD (.fl xs) S R = R xs (fun _ => True) S := rfl
theorem seqD_ref {S : Sto} {a : Nat} {xs : List D} (h : S a = some (.lst xs)) {R : IK} : seqD (.ref a) S R = R xs (fun S' => S' a = some (.lst xs)) S := by
  show opt (lstAt S a) _ = _
  rw [lstAt_eq h]
  rfl
theorem slD_tup {S : Sto} {xs : List D} {lo hi : Option Int} {Q : VK} : slD (.tup xs) lo hi S Q = Q (.tup (cut xs lo hi)) S := rfl
theorem atI_all {α : Type} {xs : List α} {i : Int} {P : α → Prop} (h0 : 0 ≤ i) (h1 : i < xs.length) (h : ∀ y ∈ xs, P y) : opt (atI xs i) P := by
  have hl : i.toNat < xs.length := by omega
  have e : atI xs i = some xs[i.toNat] := by
    unfold atI ixN
    rw [if_pos h0, if_pos h1]
    simp [hl]
  rw [e]
  exact h _ (List.getElem_mem hl)
theorem add_ref {S : Sto} {a b : Nat} {xs ys : List D} (ha : S a = some (.lst xs)) (hb : S b = some (.lst ys)) {Q : VK} (k : mkL (xs ++ ys) S Q) : binD .add (.ref a) (.ref b) S Q := by
  show opt (lstAt S a) _
  rw [lstAt_eq ha]
  show opt (lstAt S b) _
  rw [lstAt_eq hb]
  exact k
theorem add_tt {S : Sto} {xs ys : List D} {Q : VK} : binD .add (.tup xs) (.tup ys) S Q = (xs.length + ys.length ≤ lim ∧ Q (.tup (xs ++ ys)) S) := rfl
theorem append_ref {S : Sto} {a : Nat} {xs : List D} (ha : S a = some (.lst xs)) {d : D} {Q : VK} (hl : xs.length < 1000) (k : Q .non (upd S a (.lst (xs ++ [d])))) : mtD .append (.ref a) [d] S Q := by
  show opt (lstAt S a) _
  rw [lstAt_eq ha]
  exact ⟨Nat.lt_of_lt_of_le hl (by decide), k⟩
/-! ### calls -/
theorem call {G : Gm} {n : Nat} {sp : Sp} (h : G.fn n = sp) {ds : List D} {S : Sto} {Q : VK} {X : XK} (q : sp ds S Q X) : cl (G.fn n) ds S Q X := by rw [h]; exact cl_of q
theorem upto_at {n i : Nat} {sp : Nat → Sp} {G : Gm} (hG : G.fn = upto n sp) (h : i < n) : G.fn i = sp i := by rw [hG]; exact if_pos h
/-- the classes of errors: which is which, and that each stands somewhere -/
structure GX (n : Nat) (sub : Nat → Nat → Bool) (G : Gm) : Prop where
  hs : G.sub = sub
  ha : ∀ k, k < n → ∃ C, G.adr k = some C
/-- the classes of objects: their methods, which is below which, and that each stands somewhere -/
structure GO (n : Nat) (mt : Nat → Tx → Option Nat) (os : Nat → Nat → Bool) (G : Gm) : Prop where
  hm : G.mt = mt
  hs : G.os = os
  ob : ∀ k, k < n → ∃ C, G.ob k = some C
/-! ### numbers -/
theorem lt_two {n : Nat} (k : Nat) (h : n < 2 ^ k) {m : Nat} (hk : k ≤ m) : n < 2 ^ m := Nat.lt_of_lt_of_le h (Nat.pow_le_pow_right (by decide) hk)
theorem sm_of {i : Int} (k : Nat) (hk : k ≤ 4000) (h : i.natAbs < 2 ^ k) : sm i := lt_two k h hk
theorem smd_of {i : Int} (k : Nat) (hk : k ≤ 8500) (h : i.natAbs < 2 ^ k) : smd i := lt_two k h hk
theorem smr_of {i : Int} (k : Nat) (hk : k ≤ 1900) (h : i.natAbs < 2 ^ k) : smr i := lt_two k h hk
theorem fmod_pos {i j : Int} (h : 0 < j) : i.fmod j = i % j := Int.fmod_eq_emod_of_nonneg _ (Int.le_of_lt h)
theorem fdiv_pos {i j : Int} (h : 0 < j) : i.fdiv j = i / j := Int.fdiv_eq_ediv_of_nonneg _ (Int.le_of_lt h)
/-! ### what is drawn -/
/-- the well at w after n draws at most -/
def Well (n : Nat) (S : Sto) (w : Nat) : Prop := ∃ a b c : Int, S w = some (.lst [.int a, .int b, .int c]) ∧ 0 ≤ a ∧ 0 ≤ b ∧ b < 10 ^ 42 ∧ 0 ≤ c ∧ c ≤ n
theorem Well.kp {n : Nat} {S S' : Sto} {w v : Nat} (h : Well n S w) (k : Kp v S S') (hv : w ≠ v) : Well n S' w := by
  obtain ⟨a, b, c, e, r⟩ := h
  exact ⟨a, b, c, k w _ hv e, r⟩
theorem Well.ext {n : Nat} {S S' : Sto} {w : Nat} (h : Well n S w) (k : Ext S S') : Well n S' w := by
  obtain ⟨a, b, c, e, r⟩ := h
  exact ⟨a, b, c, k w _ e, r⟩
theorem Well.le {n m : Nat} {S : Sto} {w : Nat} (h : Well n S w) (k : n ≤ m) : Well m S w := by
  obtain ⟨a, b, c, e, r1, r2, r3, r4, r5⟩ := h
  exact ⟨a, b, c, e, r1, r2, r3, r4, by omega⟩
theorem Well.some {n : Nat} {S : Sto} {w : Nat} (h : Well n S w) : ∃ o, S w = some o := by
  obtain ⟨a, b, c, e, _⟩ := h
  exact ⟨_, e⟩
theorem ne_new {S : Sto} {w p : Nat} {o : O} (h : S w = some o) (hp : S p = none) : w ≠ p := fun e => by rw [e, hp] at h; cases h
/-- _law_well(script, at) -/
def spWell : Sp := fun ds S Q _ => ∃ (ns : List Int) (i : Int), ds = [.fl (ns.map .int), .int i] ∧ 0 ≤ i ∧ i < 100 ∧ ∀ p, S p = none → ∀ S', Ext S S' → Well 0 S' p → Q (.ref p) S'
/-- _law_draw(well, most) -/
def spDraw : Sp := fun ds S Q _ => ∃ (w : Nat) (m : Int) (n : Nat), ds = [.ref w, .int m] ∧ 1 ≤ m ∧ m < 2 ^ 3000 ∧ Well n S w ∧ n < 2 ^ 60 ∧ ∀ (d : Int) S', 0 ≤ d → d < m → Well (n + 1) S' w → Kp w S S' → Q (.int d) S'
/-- _law_desk(well, most) -/
def spDesk : Sp := fun ds S Q _ => ∃ (w : Nat) (m : Int) (n : Nat), ds = [.ref w, .int m] ∧ 1 ≤ m ∧ m < 2 ^ 1000 ∧ Well n S w ∧ n + 4 < 2 ^ 59 ∧ ∀ (x y : Int) S', 1 ≤ x → x ≤ m → 1 ≤ y → y ≤ 2 * m + 4 → Well (n + 4) S' w → Kp w S S' → Q (.tup [.int x, .int y]) S'
/-- _law_roll(well, desk, most) -/
def spRoll : Sp := fun ds S Q _ => ∃ (w : Nat) (a b m : Int) (n : Nat), ds = [.ref w, .tup [.int a, .int b], .int m] ∧ 1 ≤ m ∧ m < 2 ^ 1000 ∧ 1 ≤ a ∧ a < 2 ^ 1000 ∧ 1 ≤ b ∧ b < 2 ^ 1000 ∧ Well n S w ∧ n + 8 < 2 ^ 59 ∧
  ∀ (x y p q : Int) S', 0 ≤ x → x ≤ a → 0 ≤ y → y ≤ b → (p ≠ 0 ∨ q ≠ 0) → -m ≤ p → p ≤ m → -m ≤ q → q ≤ m → Well (n + 8) S' w → Kp w S S' → Q (.tup [.int x, .int y, .int p, .int q]) S'
theorem atI_map {ns : List Int} {i : Int} (h0 : 0 ≤ i) (h : i < ns.length) : ∃ n, atI (ns.map D.int) i = Option.some (D.int n) := by
  have hl : i.toNat < ns.length := by omega
  refine ⟨ns[i.toNat], ?_⟩
  unfold atI ixN
  rw [if_pos h0, if_pos (by simpa using h)]
  simp [hl]
end M
namespace M
abbrev kR (Q : VK) (X : XK) : Kt := ⟨fun _ S' => Q .non S', Q, fun _ _ => False, fun k fs _ S' => X k fs S'⟩
theorem len_lim {n : Nat} (h : n ≤ 1000) : n ≤ lim := Nat.le_trans h (by decide)
theorem sqOf_new {S : Sto} {a : Nat} {xs : List D} : sqOf (upd S a (.lst xs)) (.ref a) = some xs := lstAt_new
theorem txt_well {G : Gm} {ds : List D} {S0 : Sto} {Q : VK} {X : XK} {b : Ss} (hb : b = (.cons (.set (.v 2) (.ite (.cmp .lt (.v 1) (.bi .len (.cons (.v 0) .nil))) (.ix (.v 0) (.v 1)) (.k (.int 0)))) (.cons (.ret (.lst (.cons (.bi .max (.cons (.k (.int 0)) (.cons (.bin .sub (.bi .abs (.cons (.v 2) .nil)) (.bin .pow (.k (.int 10)) (.k (.int 18)))) .nil))) (.cons (.bin .add (.bin .add (.bin .mul (.bin .mod (.bi .int (.cons (.v 2) .nil)) (.bin .add (.bin .pow (.k (.int 10)) (.k (.int 37))) (.k (.int 151)))) (.k (.int 103))) (.bin .mul (.k (.int 71)) (.v 1))) (.k (.int 43))) (.cons (.k (.int 0)) .nil))))) .nil))) (h : spWell ds S0 Q X) : ds.length = 2 ∧ wpSs G b (start 3 ds) S0 (kR Q X) := by
  obtain ⟨ns, i, rfl, h0, h1, hq⟩ := h
  subst hb
  refine ⟨rfl, ?_⟩
  have fin : ∀ c : Int, wpE G (.lst (.cons (.bi .max (.cons (.k (.int 0)) (.cons (.bin .sub (.bi .abs (.cons (.v 2) .nil)) (.bin .pow (.k (.int 10)) (.k (.int 18)))) .nil))) (.cons (.bin .add (.bin .add (.bin .mul (.bin .mod (.bi .int (.cons (.v 2) .nil)) (.bin .add (.bin .pow (.k (.int 10)) (.k (.int 37))) (.k (.int 151)))) (.k (.int 103))) (.bin .mul (.k (.int 71)) (.v 1))) (.k (.int 43))) (.cons (.k (.int 0)) .nil)))) [some (.fl (ns.map .int)), some (.int i), some (.int c)] S0 Q X := by
    intro c
    simp only [wpSs, wpS, wpE, wpEs, wpC, wpAnd, wpOr, wpO, wpIt, opt_some, onI_int, onB_bl, onR_ref, arg1_one, look, joinO, start, List.map_cons, List.map_nil, List.length_cons, List.length_nil, List.replicate, List.cons_append, List.nil_append, List.append_nil, List.getElem?_cons_succ, List.getElem?_cons_zero, kcD, Nat.reduceAdd, Nat.reduceSub, br_t, br_f, br_n, asg, setAll, List.set_cons_succ, List.set_cons_zero, tgs, wipe, eq_ii, ne_ii, lt_ii, le_ii, gt_ii, ge_ii, is_n, isn_n, is_b, isn_b, add_ii, sub_ii, mul_ii, mod_ii, fdiv_ii, pow_ii, isNon, biD, intD_i, intD_b, esLen, beq_self_eq_true, ixD_tup, lsOf_new, seqD_tup, seqD_fl, slD_tup, bools, Option.map_some, true_and, ixD_fl, lenD_tup, lenD_fl, ix30, ix31, ix32, at20, at21, at30, at31, at32, List.filterMap_cons, List.filterMap_nil]
    refine ⟨sm_of 8 (by decide) (by decide), by decide, by decide, sm_of 8 (by decide) (by decide), by decide, by decide, by decide, ?_⟩
    have e : (10 ^ Int.toNat 37 + 151 : Int) = 10000000000000000000000000000000000151 := by decide
    rw [e, fmod_pos (by decide)]
    have m1 := Int.emod_nonneg c (b := 10000000000000000000000000000000000151) (by decide)
    have m2 := Int.emod_lt_of_pos c (b := 10000000000000000000000000000000000151) (by decide)
    generalize c % 10000000000000000000000000000000000151 = r at *
    refine ⟨sm_of 130 (by decide) (by omega), sm_of 8 (by decide) (by decide), sm_of 8 (by decide) (by decide), sm_of 8 (by decide) (by omega), ?_⟩
    refine ⟨len_lim (n := 3) (by decide), fun p hp => hq p hp _ (Ext.new hp) ⟨_, _, _, upd_at, ?_, ?_, ?_, by decide, by decide⟩⟩
    · split <;> omega
    · omega
    · omega
  by_cases hlt : i < ns.length
  · obtain ⟨c, hc⟩ := atI_map h0 hlt
    simp only [wpSs, wpS, wpE, wpEs, wpC, wpAnd, wpOr, wpO, wpIt, opt_some, onI_int, onB_bl, onR_ref, arg1_one, look, joinO, start, List.map_cons, List.map_nil, List.length_cons, List.length_nil, List.replicate, List.cons_append, List.nil_append, List.append_nil, List.getElem?_cons_succ, List.getElem?_cons_zero, kcD, Nat.reduceAdd, Nat.reduceSub, br_t, br_f, br_n, asg, setAll, List.set_cons_succ, List.set_cons_zero, tgs, wipe, eq_ii, ne_ii, lt_ii, le_ii, gt_ii, ge_ii, is_n, isn_n, is_b, isn_b, add_ii, sub_ii, mul_ii, mod_ii, fdiv_ii, pow_ii, isNon, biD, intD_i, intD_b, esLen, beq_self_eq_true, ixD_tup, lsOf_new, seqD_tup, seqD_fl, slD_tup, bools, Option.map_some, true_and, ixD_fl, lenD_tup, lenD_fl, ix30, ix31, ix32, at20, at21, at30, at31, at32, List.filterMap_cons, List.filterMap_nil, lenD, sqOf, ixD, List.length_map, hlt, decide_true, hc]
    exact fin c
  · simp only [wpSs, wpS, wpE, wpEs, wpC, wpAnd, wpOr, wpO, wpIt, opt_some, onI_int, onB_bl, onR_ref, arg1_one, look, joinO, start, List.map_cons, List.map_nil, List.length_cons, List.length_nil, List.replicate, List.cons_append, List.nil_append, List.append_nil, List.getElem?_cons_succ, List.getElem?_cons_zero, kcD, Nat.reduceAdd, Nat.reduceSub, br_t, br_f, br_n, asg, setAll, List.set_cons_succ, List.set_cons_zero, tgs, wipe, eq_ii, ne_ii, lt_ii, le_ii, gt_ii, ge_ii, is_n, isn_n, is_b, isn_b, add_ii, sub_ii, mul_ii, mod_ii, fdiv_ii, pow_ii, isNon, biD, intD_i, intD_b, esLen, beq_self_eq_true, ixD_tup, lsOf_new, seqD_tup, seqD_fl, slD_tup, bools, Option.map_some, true_and, ixD_fl, lenD_tup, lenD_fl, ix30, ix31, ix32, at20, at21, at30, at31, at32, List.filterMap_cons, List.filterMap_nil, lenD, sqOf, ixD, List.length_map, hlt, decide_false]
    exact fin 0
/-- _law_draw -/
theorem txt_draw {G : Gm} {ds : List D} {S0 : Sto} {Q : VK} {X : XK} {b : Ss} (hb : b = (.cons (.if_ (.cmp .gt (.ix (.v 0) (.k (.int 0))) (.k (.int 0))) (.cons (.set (.v 3) (.bin .mod (.bi .int (.cons (.ix (.v 0) (.k (.int 0))) .nil)) (.v 1))) (.cons (.six (.v 0) (.k (.int 0)) (.bin .fdiv (.ix (.v 0) (.k (.int 0))) (.v 1))) (.cons (.ret (.v 3)) .nil))) .nil) (.cons (.six (.v 0) (.k (.int 2)) (.bin .add (.ix (.v 0) (.k (.int 2))) (.k (.int 1)))) (.cons (.set (.v 2) (.bin .mod (.bin .pow (.bi .int (.cons (.bin .add (.ix (.v 0) (.k (.int 1))) (.bin .mul (.k (.int 961748941)) (.ix (.v 0) (.k (.int 2))))) .nil)) (.k (.int 3))) (.bin .add (.bin .pow (.k (.int 10)) (.k (.int 41))) (.k (.int 109))))) (.cons (.set (.v 2) (.bin .mod (.bin .pow (.bi .int (.cons (.bin .add (.v 2) (.bin .mul (.k (.int 217645199)) (.ix (.v 0) (.k (.int 2))))) .nil)) (.k (.int 3))) (.bin .add (.bin .pow (.k (.int 10)) (.k (.int 39))) (.k (.int 3))))) (.cons (.ret (.bin .mod (.bi .int (.cons (.bin .fdiv (.v 2) (.k (.int 1048576))) .nil)) (.v 1))) .nil)))))) (h : spDraw ds S0 Q X) : ds.length = 2 ∧ wpSs G b (start 4 ds) S0 (kR Q X) := by
  obtain ⟨w, m, n, rfl, h1, hm, ⟨a, b', c, e, ha, hb0, hb1, hc0, hc1⟩, hn, hq⟩ := h
  subst hb
  refine ⟨rfl, ?_⟩
  have hm0 : 0 < m := by omega
  have hmm : smd m := smd_of 3000 (by decide) (by omega)
  simp only [wpSs, wpS, wpE, wpEs, wpC, wpAnd, wpOr, wpO, wpIt, opt_some, onI_int, onB_bl, onR_ref, arg1_one, look, joinO, start, List.map_cons, List.map_nil, List.length_cons, List.length_nil, List.replicate, List.cons_append, List.nil_append, List.append_nil, List.getElem?_cons_succ, List.getElem?_cons_zero, kcD, Nat.reduceAdd, Nat.reduceSub, br_t, br_f, br_n, asg, setAll, List.set_cons_succ, List.set_cons_zero, tgs, wipe, eq_ii, ne_ii, lt_ii, le_ii, gt_ii, ge_ii, is_n, isn_n, is_b, isn_b, add_ii, sub_ii, mul_ii, mod_ii, fdiv_ii, pow_ii, isNon, biD, intD_i, intD_b, esLen, beq_self_eq_true, ixD_tup, lsOf_new, seqD_tup, seqD_fl, slD_tup, bools, Option.map_some, true_and, ixD_fl, lenD_tup, lenD_fl, ix30, ix31, ix32, at20, at21, at30, at31, at32, List.filterMap_cons, List.filterMap_nil, ixD, sixD, sqOf_ref e, lstAt_eq e, lstAt_new, sqOf_new]
  refine br_d (fun hpos => ?_) (fun hneg => ?_)
  · rw [fmod_pos hm0, fdiv_pos hm0]
    refine ⟨by omega, by omega, hmm, ?_⟩
    have m1 := Int.emod_nonneg a (b := m) (by omega)
    have m2 := Int.emod_lt_of_pos a (b := m) hm0
    exact hq _ _ m1 m2 ⟨_, _, _, upd_at, Int.ediv_nonneg ha (by omega), hb0, hb1, hc0, by omega⟩ Kp.wr
  · have s1 : sm 961748941 := sm_of 64 (by decide) (by decide)
    have s2 : sm (c + 1) := sm_of 64 (by decide) (by omega)
    have s3 : sm (b' + 961748941 * (c + 1)) := sm_of 200 (by decide) (by omega)
    have s4 : sm 10 := sm_of 8 (by decide) (by decide)
    have s5 : sm 217645199 := sm_of 64 (by decide) (by decide)
    have e1 : (10 ^ Int.toNat 41 + 109 : Int) = 100000000000000000000000000000000000000109 := by decide
    have e2 : (10 ^ Int.toNat 39 + 3 : Int) = 1000000000000000000000000000000000000003 := by decide
    rw [e1, e2]
    generalize (b' + 961748941 * (c + 1)) ^ Int.toNat 3 = r1
    rw [fmod_pos (i := r1) (by decide)]
    have m1 := Int.emod_nonneg r1 (b := 100000000000000000000000000000000000000109) (by decide)
    have m2 := Int.emod_lt_of_pos r1 (b := 100000000000000000000000000000000000000109) (by decide)
    generalize r1 % 100000000000000000000000000000000000000109 = r2 at *
    have s6 : sm (r2 + 217645199 * (c + 1)) := sm_of 200 (by decide) (by omega)
    generalize (r2 + 217645199 * (c + 1)) ^ Int.toNat 3 = r3
    rw [fmod_pos (i := r3) (by decide)]
    generalize r3 % 1000000000000000000000000000000000000003 = r4
    rw [fmod_pos hm0]
    have m3 := Int.emod_nonneg (r4.fdiv 1048576) (b := m) (by omega)
    have m4 := Int.emod_lt_of_pos (r4.fdiv 1048576) (b := m) hm0
    exact ⟨s1, s2, s3, by decide, by decide, s4, by decide, by decide, by decide, s5, s2, s6, by decide, by decide, s4, by decide, by decide, by decide, by decide, smd_of 64 (by decide) (by decide), by omega,
      hq _ _ m3 m4 ⟨_, _, _, upd_at, ha, hb0, hb1, by omega, by omega⟩ Kp.wr⟩
end M
namespace M
theorem mkL_ok {xs : List D} {S : Sto} {Q : VK} (h : xs.length ≤ 1000) (k : ∀ p, S p = none → Q (.ref p) (upd S p (.lst xs))) : mkL xs S Q := ⟨len_lim h, k⟩
/-- one of four -/
theorem at4 {α : Type} {a b c d : α} {i : Int} {P : α → Prop} (h0 : 0 ≤ i) (h4 : i < 4) (ka : P a) (kb : P b) (kc : P c) (kd : P d) : opt (atI [a, b, c, d] i) P := by
  have : i = 0 ∨ i = 1 ∨ i = 2 ∨ i = 3 := by omega
  rcases this with e | e | e | e <;> subst e
  · exact ka
  · exact kb
  · exact kc
  · exact kd
theorem at3 {α : Type} {a b c : α} {i : Int} {P : α → Prop} (h0 : 0 ≤ i) (h4 : i < 3) (ka : P a) (kb : P b) (kc : P c) : opt (atI [a, b, c] i) P := by
  have : i = 0 ∨ i = 1 ∨ i = 2 := by omega
  rcases this with e | e | e <;> subst e
  · exact ka
  · exact kb
  · exact kc
theorem fit_i {n : Nat} {S : Sto} {i : Int} : fit (n + 1) S (.int i) = true := rfl
theorem ne_pair {a b c d : Int} {S : Sto} {Q : Bool → Prop} : cmpD .ne (.tup [.int a, .int b]) (.tup [.int c, .int d]) S Q ↔ Q (!(a == c && b == d)) := by
  simp [cmpD, fit, fitL, eqB, eqLB]
/-- one of three numbers -/
theorem pick3 {a b c i lo hi : Int} {P : D → Prop} (h0 : 0 ≤ i) (h3 : i < 3) (ha : lo ≤ a ∧ a ≤ hi) (hb : lo ≤ b ∧ b ≤ hi) (hc : lo ≤ c ∧ c ≤ hi) (h : ∀ y : Int, lo ≤ y → y ≤ hi → P (.int y)) : opt (atI [.int a, .int b, .int c] i) P :=
  at3 h0 h3 (h a ha.1 ha.2) (h b hb.1 hb.2) (h c hc.1 hc.2)
theorem min2 {d : Int} (h : 0 ≤ d) : 0 ≤ (if d < 2 then d else 2) ∧ (if d < 2 then d else 2) < 3 := by split <;> omega
end M
namespace M
/-- its type is known -/
def Kn (S : Sto) : D → Prop
  | .ref a => ∃ o, S a = some o
  | .xn _ _ => False
  | _ => True
def isI : D → Bool
  | .int _ => true
  | _ => false
def isBl : D → Bool
  | .bl _ => true
  | _ => false
def isT : D → Bool
  | .tup _ => true
  | _ => false
def isS : D → Bool
  | .str _ => true
  | _ => false
theorem ty_int {S : Sto} {v : D} (h : Kn S v) : isTy S v .int = some (isI v || isBl v) := by
  cases v with
  | ref a =>
    obtain ⟨o, e⟩ := h
    show tyO (S a) .int = _
    rw [e]
    cases o <;> rfl
  | xn c fs => exact False.elim h
  | _ => rfl
theorem ty_bool {S : Sto} {v : D} (h : Kn S v) : isTy S v .bool = some (isBl v) := by
  cases v with
  | ref a =>
    obtain ⟨o, e⟩ := h
    show tyO (S a) .bool = _
    rw [e]
    cases o <;> rfl
  | xn c fs => exact False.elim h
  | _ => rfl
theorem ty_tuple {S : Sto} {v : D} (h : Kn S v) : isTy S v .tuple = some (isT v) := by
  cases v with
  | ref a =>
    obtain ⟨o, e⟩ := h
    show tyO (S a) .tuple = _
    rw [e]
    cases o <;> rfl
  | xn c fs => exact False.elim h
  | _ => rfl
def oI : Option Int → D
  | none => .non
  | some i => .int i
def intB : D → Option Int → Option Int → Bool
  | .int i, lo, hi => (match lo with | none => true | some l => decide (l ≤ i)) && (match hi with | none => true | some m => decide (i ≤ m))
  | _, _, _ => false
/-- is_integer(value, least, most) -/
def spInt : Sp := fun ds S Q _ => ∃ v lo hi, ds = [v, oI lo, oI hi] ∧ Kn S v ∧ Q (.bl (intB v lo hi)) S
/-- divisor(one, other) -/
def spGcd : Sp := fun ds S Q _ => ∃ a b : Int, ds = [.int a, .int b] ∧ Q (.int (Int.gcd a b : Nat)) S
theorem abs_ite (a : Int) : (if a < 0 then -a else a) = (a.natAbs : Int) := by split <;> omega
end M
namespace M
/-- a value whose types are known, one deep -/
def Vl (S : Sto) (v : D) : Prop := Kn S v ∧ ∀ xs, v = .tup xs → ∀ y ∈ xs, Kn S y
theorem Kn.ext {S S' : Sto} {v : D} (h : Kn S v) (k : Ext S S') : Kn S' v := by
  cases v with
  | ref a => obtain ⟨o, e⟩ := h; exact ⟨o, k _ _ e⟩
  | xn _ _ => exact h
  | _ => trivial
theorem Vl.ext {S S' : Sto} {v : D} (h : Vl S v) (k : Ext S S') : Vl S' v := ⟨h.1.ext k, fun xs e y hy => (h.2 xs e y hy).ext k⟩
theorem isT_of {v : D} (h : isT v = true) : ∃ xs, v = .tup xs := by
  cases v <;> first | exact ⟨_, rfl⟩ | cases h
theorem len2 {α : Type} {xs : List α} (h : (((xs.length : Nat) : Int) == 2) = true) : ∃ x y, xs = [x, y] := by
  have h : ((xs.length : Nat) : Int) = 2 := by simpa using h
  match xs, h with
  | [x, y], _ => exact ⟨x, y, rfl⟩
  | [], h => simp at h
  | [_], h => simp at h
  | _ :: _ :: _ :: _, h => simp at h; omega
theorem len4 {α : Type} {xs : List α} (h : (((xs.length : Nat) : Int) == 4) = true) : ∃ x y z u, xs = [x, y, z, u] := by
  have h : ((xs.length : Nat) : Int) = 4 := by simpa using h
  match xs, h with
  | [x, y, z, u], _ => exact ⟨x, y, z, u, rfl⟩
  | [], h => simp at h
  | [_], h => simp at h
  | [_, _], h => simp at h
  | [_, _, _], h => simp at h
  | _ :: _ :: _ :: _ :: _ :: _, h => simp at h; omega
def tabL : List D → Bool
  | [x, y] => intB x (some 1) none && intB y (some 1) none
  | _ => false
/-- is it a table -/
def tabB : D → Bool
  | .tup xs => tabL xs
  | _ => false
theorem tabL_len {xs : List D} (h : (((xs.length : Nat) : Int) == 2) = false) : tabL xs = false := by
  unfold tabL
  split
  · simp at h
  · rfl
def spTab : Sp := fun ds S Q _ => ∃ v, ds = [v] ∧ Vl S v ∧ ∀ S', Ext S S' → Q (.bl (tabB v)) S'
def int0 : D → Int
  | .int i => i
  | _ => 0
def freeL : List D → Bool
  | [x, y, z, u] => (isI x && isI y && isI z && isI u) && (decide (0 ≤ int0 x) && decide (0 ≤ int0 y) && !(int0 z == 0 && int0 u == 0))
  | _ => false
/-- is it a free shot -/
def freeB : D → Bool
  | .tup xs => freeL xs
  | _ => false
theorem freeL_len {xs : List D} (h : (((xs.length : Nat) : Int) == 4) = false) : freeL xs = false := by
  unfold freeL
  split
  · simp at h
  · rfl
theorem intB_none {v : D} : intB v none none = isI v := by cases v <;> rfl
theorem isI_of {v : D} (h : isI v = true) : ∃ i, v = .int i := by cases v <;> first | exact ⟨_, rfl⟩ | cases h
def spFree : Sp := fun ds S Q _ => ∃ v, ds = [v] ∧ Vl S v ∧ ∀ S', Ext S S' → Q (.bl (freeB v)) S'
/-- is it a shot on a table of the sides X, Y -/
def rollB (a b : Int) (v : D) : Bool := freeB v && (match v with
  | .tup [x, y, _, _] => decide (int0 x ≤ a) && decide (int0 y ≤ b)
  | _ => false)
theorem free_of {v : D} (h : freeB v = true) : ∃ i j m n, v = .tup [.int i, .int j, .int m, .int n] := by
  cases v with
  | tup xs =>
    have h : freeL xs = true := h
    unfold freeL at h
    split at h
    · simp only [Bool.and_eq_true] at h
      obtain ⟨⟨⟨⟨a1, a2⟩, a3⟩, a4⟩, _⟩ := h
      obtain ⟨i, rfl⟩ := isI_of a1
      obtain ⟨j, rfl⟩ := isI_of a2
      obtain ⟨m, rfl⟩ := isI_of a3
      obtain ⟨n, rfl⟩ := isI_of a4
      exact ⟨i, j, m, n, rfl⟩
    · cases h
  | _ => cases h
/-- is_shot_on(table, value) -/
def spOn : Sp := fun ds S Q _ => ∃ a b v, ds = [.tup [.int a, .int b], v] ∧ Vl S v ∧ ∀ S', Ext S S' → Q (.bl (rollB a b v)) S'
def partL : List D → Bool
  | [x, y] => isI x && intB y (some 1) none && (Int.gcd (int0 x) (int0 y) == 1)
  | _ => false
/-- is it a fraction in lowest terms -/
def partB : D → Bool
  | .tup xs => partL xs
  | _ => false
theorem partL_len {xs : List D} (h : (((xs.length : Nat) : Int) == 2) = false) : partL xs = false := by
  unfold partL
  split
  · simp at h
  · rfl
theorem intB_of {v : D} {l : Int} (h : intB v (some l) none = true) : ∃ i, v = .int i ∧ l ≤ i := by
  cases v with
  | int i => exact ⟨i, rfl, by simpa [intB] using h⟩
  | _ => cases h
def spPart : Sp := fun ds S Q _ => ∃ v, ds = [v] ∧ Vl S v ∧ ∀ S', Ext S S' → Q (.bl (partB v)) S'
/-- check_table(table) of a table -/
def spCheck : Sp := fun ds S Q _ => ∃ a b : Int, ds = [.tup [.int a, .int b]] ∧ 1 ≤ a ∧ 1 ≤ b ∧ ∀ S', Ext S S' → Q .non S'
theorem vl_tab {S : Sto} {a b : Int} : Vl S (.tup [.int a, .int b]) := ⟨trivial, fun xs e y hy => by cases e; simp at hy; rcases hy with rfl | rfl <;> trivial⟩
theorem tab_ok {a b : Int} (ha : 1 ≤ a) (hb : 1 ≤ b) : tabB (.tup [.int a, .int b]) = true := by simp [tabB, tabL, intB, ha, hb]
/-- is_shot(table, value) -/
def spShot : Sp := fun ds S Q _ => ∃ a b v, ds = [.tup [.int a, .int b], v] ∧ 1 ≤ a ∧ 1 ≤ b ∧ Vl S v ∧ ∀ S', Ext S S' → Q (.bl (rollB a b v)) S'
end M
namespace M
theorem compW_filter {step : D → Sto → (Option D → Sto → Prop) → Prop} {Q : VK} {f : D → Bool} {S : Sto} : ∀ {xs acc : List D}, (∀ d ∈ xs, ∀ k : Option D → Sto → Prop, k (if f d = true then some d else none) S → step d S k) →
    (∀ p, S p = none → Q (.ref p) (upd S p (.lst (acc ++ xs.filter f)))) → compW (fun _ => True) step Q xs acc S
  | [], acc, _, h => ⟨trivial, fun p hp => by simpa using h p hp⟩
  | x :: xs, acc, hs, h => ⟨trivial, hs x (by simp) _ (compW_filter (fun d hd => hs d (by simp [hd])) fun p hp => by
      have e := h p hp
      by_cases hf : f x = true
      · rw [if_pos hf]
        simpa [List.filter_cons, hf] using e
      · rw [if_neg hf]
        simpa [List.filter_cons, hf] using e)⟩
theorem eq_nil {S : Sto} {p q : Nat} {ys : List D} {Q : Bool → Prop} (hp : S p = some (.lst ys)) (hq : S q = some (.lst [])) (hf : fitL (fit 7 S) ys = true) (k : Q ys.isEmpty) : cmpD .eq (.ref p) (.ref q) S Q := by
  refine ⟨?_, ?_, ?_⟩
  · show optB (lstAt S p) _ = true
    rw [lstAt_eq hp]; exact hf
  · show optB (lstAt S q) _ = true
    rw [lstAt_eq hq]; rfl
  · have e : eqB dep S (.ref p) (.ref q) = ys.isEmpty := by
      show eqO _ (lstAt S p) (lstAt S q) = _
      rw [lstAt_eq hp, lstAt_eq hq]
      cases ys <;> rfl
    rw [e]; exact k
theorem ne_nil {S : Sto} {p q : Nat} {ys : List D} {Q : Bool → Prop} (hp : S p = some (.lst ys)) (hq : S q = some (.lst [])) (hf : fitL (fit 7 S) ys = true) (k : Q (!ys.isEmpty)) : cmpD .ne (.ref p) (.ref q) S Q :=
  let ⟨a, b, c⟩ := eq_nil (Q := fun b => Q (!b)) hp hq hf k
  ⟨a, b, c⟩
/-- a small value in a tuple or a list -/
def Atom (n : Nat) : D → Prop
  | .non => True
  | .bl _ => True
  | .int i => i.natAbs < 2 ^ n
  | .str x => x.length ≤ 4 ∧ ∀ c ∈ x, c < 128
  | .tup xs => xs = []
  | _ => False
theorem Atom.kn {n : Nat} {S : Sto} {v : D} (h : Atom n v) : Kn S v := by
  cases v <;> first | trivial | exact False.elim h
theorem Atom.fit {n k : Nat} {S : Sto} {v : D} (h : Atom n v) : M.fit (k + 1) S v = true := by
  cases v with
  | str x =>
    show x.all _ = true
    rw [List.all_eq_true]
    intro c hc
    have := h.2 c hc
    exact decide_eq_true (by omega)
  | tup xs => cases h; rfl
  | _ => first | rfl | exact False.elim h
theorem Atom.up {n m : Nat} {v : D} (h : Atom n v) (k : n ≤ m) : Atom m v := by
  cases v with
  | int i => exact lt_two _ h k
  | _ => exact h
theorem fitL_of {ok : D → Bool} : ∀ {xs : List D}, (∀ y ∈ xs, ok y = true) → fitL ok xs = true
  | [], _ => rfl
  | x :: xs, h => by
    show (ok x && fitL ok xs) = true
    rw [h x (by simp), fitL_of fun y hy => h y (by simp [hy])]
    rfl
theorem atoms_fit {n : Nat} {S : Sto} {xs ys : List D} (h : ∀ y ∈ xs, Atom n y) (hs : ∀ y ∈ ys, y ∈ xs) : fitL (M.fit 7 S) ys = true := fitL_of fun y hy => (h y (hs y hy)).fit
/-- a value that the law tries: w is the well -/
def Gd (n w : Nat) (S : Sto) : D → Prop
  | .tup xs => xs.length ≤ n ∧ ∀ y ∈ xs, Atom n y
  | .ref a => a ≠ w ∧ ((∃ xs, S a = some (.lst xs) ∧ xs.length ≤ n ∧ ∀ y ∈ xs, Atom n y) ∨ S a = some .dic)
  | .non => True
  | .bl _ => True
  | .int i => i.natAbs < 2 ^ n
  | .str x => x.length ≤ 4 ∧ ∀ c ∈ x, c < 128
  | _ => False
theorem Gd.kp {n w : Nat} {S S' : Sto} {v : D} (h : Gd n w S v) (k : Kp w S S') : Gd n w S' v := by
  cases v with
  | ref a =>
    obtain ⟨hn, h | h⟩ := h
    · obtain ⟨xs, e, r⟩ := h
      exact ⟨hn, .inl ⟨xs, k _ _ hn e, r⟩⟩
    · exact ⟨hn, .inr (k _ _ hn h)⟩
  | _ => exact h
theorem Gd.up {n m w : Nat} {S : Sto} {v : D} (h : Gd n w S v) (k : n ≤ m) : Gd m w S v := by
  cases v with
  | tup xs => exact ⟨Nat.le_trans h.1 k, fun y hy => (h.2 y hy).up k⟩
  | ref a =>
    obtain ⟨hn, h | h⟩ := h
    · obtain ⟨xs, e, r1, r2⟩ := h
      exact ⟨hn, .inl ⟨xs, e, Nat.le_trans r1 k, fun y hy => (r2 y hy).up k⟩⟩
    · exact ⟨hn, .inr h⟩
  | int i => exact lt_two _ h k
  | _ => exact h
theorem Gd.vl {n w : Nat} {S : Sto} {v : D} (h : Gd n w S v) : Vl S v := by
  refine ⟨?_, fun xs e y hy => ?_⟩
  · cases v with
    | ref a =>
      obtain ⟨_, h | h⟩ := h
      · obtain ⟨xs, e, _⟩ := h
        exact ⟨_, e⟩
      · exact ⟨_, h⟩
    | _ => first | trivial | exact False.elim h
  · subst e
    exact (h.2 y hy).kn
/-- _law_whole(thing) -/
def spWhole : Sp := fun ds S Q _ => ∃ v, ds = [v] ∧ Kn S v ∧ Q (.bl (isI v)) S
/-- the values whose law is asked: known, and their parts small -/
def Va (S : Sto) (v : D) : Prop := Kn S v ∧ ∀ xs, v = .tup xs → xs.length ≤ 1000 ∧ ∀ y ∈ xs, Atom 1000 y
theorem Va.vl {S : Sto} {v : D} (h : Va S v) : Vl S v := ⟨h.1, fun xs e y hy => ((h.2 xs e).2 y hy).kn⟩
theorem Va.ext {S S' : Sto} {v : D} (h : Va S v) (k : Ext S S') : Va S' v := ⟨h.1.ext k, h.2⟩
def spDeskV : Sp := fun ds S Q _ => ∃ v, ds = [v] ∧ Va S v ∧ ∀ S', Ext S S' → Q (.bl (tabB v)) S'
theorem filt2 {x y : D} : ([x, y].filter fun d => !isI d || decide (int0 d < 1)).isEmpty = tabL [x, y] := by
  have h : ∀ d : D, (!isI d || decide (int0 d < 1)) = !intB d (some 1) none := by
    intro d
    cases d with
    | int i =>
      show (false || decide (i < 1)) = !(decide (1 ≤ i) && true)
      by_cases h : i < 1
      · have : ¬ 1 ≤ i := by omega
        simp [h, this]
      · have : 1 ≤ i := by omega
        simp [h, this]
    | _ => rfl
  simp only [List.filter_cons, List.filter_nil, h, tabL]
  cases intB x (some 1) none <;> cases intB y (some 1) none <;> rfl
end M
namespace M
theorem filtI_nil {xs : List D} : (xs.filter fun d => !isI d).isEmpty = xs.all isI := by
  induction xs with
  | nil => rfl
  | cons x xs ih =>
    rw [List.filter_cons, List.all_cons]
    cases isI x
    · rfl
    · exact ih
/-- _law_is_roll(desk, thing) -/
def spRollV : Sp := fun ds S Q _ => ∃ a b v, ds = [.tup [.int a, .int b], v] ∧ Va S v ∧ ∀ S', Ext S S' → Q (.bl (rollB a b v)) S'
theorem chain_ii {i j k : Int} {S : Sto} {Q : Bool → Prop} (h : Q (decide (i ≤ j) && decide (j ≤ k))) : br (decide (i ≤ j)) (Q (decide (j ≤ k))) (Q false) := by
  cases h1 : decide (i ≤ j) <;> rw [h1] at h
  · exact br_f.mpr h
  · exact br_t.mpr h
/-- _law_is_part(thing) -/
def spPartV : Sp := fun ds S Q _ => ∃ v, ds = [v] ∧ Va S v ∧ ∀ S', Ext S S' → Q (.bl (partB v)) S'
end M
namespace M
/-- _law_odd(well) -/
def spOdd : Sp := fun ds S Q _ => ∃ w n, ds = [.ref w] ∧ Well n S w ∧ n + 1 < 2 ^ 59 ∧ ∀ v S', Gd 200 w S' v → Well (n + 1) S' w → Kp w S S' → Q v S'
theorem cut_mem {xs : List D} {lo hi : Option Int} {y : D} (h : y ∈ cut xs lo hi) : y ∈ xs := List.mem_of_mem_drop (List.mem_of_mem_take h)
theorem cut_hi {xs : List D} {i : Int} (h : 0 ≤ i) : (cut xs none (some i)).length ≤ i.toNat := by
  have e : sIx xs.length xs.length (some i) = min i.toNat xs.length := if_neg (by omega)
  unfold cut
  rw [e, List.length_take]
  show min (min i.toNat xs.length - 0) _ ≤ _
  omega
theorem cut_lo {xs : List D} {i : Int} (h : 0 ≤ i) : (cut xs (some i) none).length ≤ xs.length - i.toNat := by
  have e : sIx xs.length 0 (some i) = min i.toNat xs.length := if_neg (by omega)
  unfold cut
  rw [e, List.length_take, List.length_drop]
  show min (xs.length - _) _ ≤ _
  omega
theorem at_some {xs : List D} {i : Int} (h0 : 0 ≤ i) (h1 : i < xs.length) : ∃ y, y ∈ xs ∧ atI xs i = some y := by
  have hl : i.toNat < xs.length := by omega
  refine ⟨xs[i.toNat], List.getElem_mem hl, ?_⟩
  unfold atI ixN
  rw [if_pos h0, if_pos h1]
  simp [hl]
/-- _law_bent(well, thing) -/
def spBent : Sp := fun ds S Q _ => ∃ w n m v, ds = [.ref w, v] ∧ Gd m w S v ∧ 200 ≤ m ∧ m ≤ 400 ∧ Well n S w ∧ n + 4 < 2 ^ 58 ∧ ∀ v' S', Gd (m + 1) w S' v' → Well (n + 4) S' w → Kp w S S' → Q v' S'
theorem eq_tnil {xs : List D} {S : Sto} {n : Nat} {Q : Bool → Prop} (h : ∀ y ∈ xs, Atom n y) (k : Q xs.isEmpty) : cmpD .eq (.tup xs) (.tup []) S Q :=
  ⟨atoms_fit h fun y hy => hy, rfl, by
    have e : eqB dep S (.tup xs) (.tup []) = xs.isEmpty := by cases xs <;> rfl
    rw [e]; exact k⟩
end M
namespace M
theorem sumN_le {xs : List D} {f : D → Nat} {c : Nat} (h : ∀ y ∈ xs, f y ≤ c) : sumN (xs.map f) ≤ xs.length * c := by
  induction xs with
  | nil => simp [sumN]
  | cons x xs ih =>
    have h1 := h x (by simp)
    have h2 := ih fun y hy => h y (by simp [hy])
    show f x + sumN (xs.map f) ≤ (xs.length + 1) * c
    rw [Nat.succ_mul]
    omega
theorem atom_rep {m k : Nat} {S : Sto} {y : D} (h : Atom m y) (hm : m ≤ 1900) : fitR (k + 1) S y ∧ szR (k + 1) S y ≤ 1902 := by
  cases y with
  | int i => exact ⟨smr_of m hm h, Nat.le_refl _⟩
  | str x =>
    refine ⟨fun c hc => ?_, ?_⟩
    · have := h.2 c hc
      omega
    · show 10 * x.length + 2 ≤ 1902
      have := h.1
      omega
  | tup xs =>
    cases h
    exact ⟨(fun y hy => by cases hy), (by show sumN [] + 3 ≤ 1902; decide)⟩
  | non => exact ⟨trivial, by show 4 ≤ 1902; decide⟩
  | bl b => exact ⟨trivial, by show 5 ≤ 1902; decide⟩
  | _ => exact False.elim h
theorem toQ_lst {S : Sto} {a : Nat} {xs : List D} (e : S a = some (.lst xs)) : toQ dep S (.ref a) = .lst (xs.map (toQ 7 S)) := by
  show toQ (7 + 1) S (.ref a) = _
  simp only [toQ, e]
theorem toQ_dic {S : Sto} {a : Nat} (e : S a = some .dic) : toQ dep S (.ref a) = .dic := by
  show toQ (7 + 1) S (.ref a) = _
  simp only [toQ, e]
theorem szR_lst {S : Sto} {a : Nat} {xs : List D} (e : S a = some (.lst xs)) : szR dep S (.ref a) = sumN (xs.map fun y => szR 7 S y + 2) + 3 := by
  show szR (7 + 1) S (.ref a) = _
  simp only [szR, e]
theorem szR_dic {S : Sto} {a : Nat} (e : S a = some .dic) : szR dep S (.ref a) = 2 := by
  show szR (7 + 1) S (.ref a) = _
  simp only [szR, e]
theorem gd_rep {m w : Nat} {S : Sto} {v : D} (h : Gd m w S v) (hm : m ≤ 500) : fitD S v ∧ szR dep S v ≤ lim := by
  have big : ∀ xs : List D, xs.length ≤ 500 → (∀ y ∈ xs, Atom m y) → sumN (xs.map fun y => szR 7 S y + 2) + 3 ≤ lim := fun xs hl ha => by
    have h1 := sumN_le (xs := xs) (f := fun y => szR 7 S y + 2) (c := 1904) fun y hy => by have : szR 7 S y ≤ 1902 := (atom_rep (k := 6) (S := S) (ha y hy) (by omega)).2; omega
    have h2 : xs.length * 1904 ≤ 500 * 1904 := Nat.mul_le_mul_right _ hl
    have h3 : 500 * 1904 + 3 ≤ lim := by decide
    omega
  cases v with
  | tup xs => exact ⟨.inr fun y hy => (atom_rep (h.2 y hy) (by omega)).1, big xs (by have := h.1; omega) h.2⟩
  | ref a =>
    obtain ⟨_, h | h⟩ := h
    · obtain ⟨xs, e, hl, ha⟩ := h
      refine ⟨.inr ?_, ?_⟩
      · show opt (lstAt S a) _
        rw [lstAt_eq e]
        exact fun y hy => (atom_rep (ha y hy) (by omega)).1
      · rw [szR_lst e]
        exact big xs (by omega) ha
    · refine ⟨.inl (.inl ?_), ?_⟩
      · show isDic (S a)
        rw [h]; trivial
      · rw [szR_dic h]
        exact len_lim (by decide)
  | int i => exact ⟨.inr (smr_of m (by omega) h), by show 1902 ≤ lim; decide⟩
  | str x =>
    refine ⟨.inr fun c hc => ?_, ?_⟩
    · have := h.2 c hc
      omega
    · show 10 * x.length + 2 ≤ lim
      have := h.1
      exact len_lim (by omega)
  | non => exact ⟨.inr trivial, by show 4 ≤ lim; decide⟩
  | bl b => exact ⟨.inr trivial, by show 5 ≤ lim; decide⟩
  | _ => exact False.elim h
theorem atom_toQ {m k : Nat} {S S' : Sto} {y : D} (h : Atom m y) : toQ (k + 1) S y = toQ (k + 1) S' y := by
  cases y with
  | tup xs => cases h; rfl
  | _ => first | rfl | exact False.elim h
theorem gd_toQ {m w : Nat} {S S' : Sto} {v : D} (h : Gd m w S v) (k : Ext S S') : toQ dep S v = toQ dep S' v := by
  have mp : ∀ xs : List D, (∀ y ∈ xs, Atom m y) → xs.map (toQ 7 S) = xs.map (toQ 7 S') := fun xs ha => List.map_congr_left fun y hy => atom_toQ (ha y hy)
  cases v with
  | tup xs =>
    show P.tup _ = P.tup _
    rw [mp xs h.2]
  | ref a =>
    obtain ⟨_, h | h⟩ := h
    · obtain ⟨xs, e, hl, ha⟩ := h
      rw [toQ_lst e, toQ_lst (k _ _ e), mp xs ha]
    · rw [toQ_dic h, toQ_dic (k _ _ h)]
  | _ => first | rfl | exact False.elim h
theorem gd_va {m w : Nat} {S : Sto} {v : D} (h : Gd m w S v) (hm : m ≤ 500) : Va S v := ⟨h.vl.1, fun xs e => by
  subst e
  exact ⟨by have := h.1; omega, fun y hy => (h.2 y hy).up (by omega)⟩⟩
theorem eqLB_bools {n : Nat} {S : Sto} : ∀ bs : List Bool, eqLB (eqB (n + 1) S) (bs.map .bl) (bs.map .bl) = true
  | [] => rfl
  | b :: bs => by
    show ((b == b) && eqLB (eqB (n + 1) S) (bs.map .bl) (bs.map .bl)) = true
    rw [eqLB_bools bs]; simp
theorem ne_bools {S : Sto} {p q : Nat} {bs : List Bool} {Q : Bool → Prop} (hp : S p = some (.lst (bs.map .bl))) (hq : S q = some (.lst (bs.map .bl))) (k : Q false) : cmpD .ne (.ref p) (.ref q) S Q := by
  have f : ∀ a : Nat, S a = some (.lst (bs.map .bl)) → fit dep S (.ref a) = true := fun a e => by
    show optB (lstAt S a) _ = true
    rw [lstAt_eq e]
    exact fitL_of fun y hy => by obtain ⟨b, _, rfl⟩ := List.mem_map.mp hy; rfl
  refine ⟨f p hp, f q hq, ?_⟩
  have e : eqB dep S (.ref p) (.ref q) = true := by
    show eqO _ (lstAt S p) (lstAt S q) = _
    rw [lstAt_eq hp, lstAt_eq hq]
    exact eqLB_bools bs
  rw [e]; exact k
theorem isTy_bb {S : Sto} {f : Bool} : isTy S (.bl f) .bool = some true := rfl
/-- _law_right(desk, thing) -/
def spRight : Sp := fun ds S Q _ => ∃ a b v w, ds = [.tup [.int a, .int b], v] ∧ 1 ≤ a ∧ 1 ≤ b ∧ Gd 500 w S v ∧ ∀ S', Ext S S' → Q (.bl true) S'
/-- a loop -/
theorem forW_ok {chk : Sto → Prop} {step : D → Env → Sto → (Env → Sto → Prop) → Prop} {nx : Env → Sto → Prop} {I : Nat → Env → Sto → Prop} : ∀ (items : List D) (i : Nat) (ρ : Env) (S : Sto), I i ρ S →
    (∀ j d ρ S nx', j < i + items.length → d ∈ items → I j ρ S → (∀ ρ' S', I (j + 1) ρ' S' → nx' ρ' S') → chk S ∧ step d ρ S nx') → (∀ ρ S, I (i + items.length) ρ S → chk S ∧ nx ρ S) → forW chk step nx items ρ S
  | [], i, ρ, S, h, _, he => he ρ S h
  | d :: ds, i, ρ, S, h, hs, he => hs i d ρ S _ (by simp) (by simp) h fun ρ' S' h' => forW_ok ds (i + 1) ρ' S' h' (fun j d ρ S nx' hj hd => hs j d ρ S nx' (by rw [List.length_cons]; omega) (by simp [hd])) fun ρ S h => he ρ S (by rw [List.length_cons]; rwa [Nat.add_right_comm] at h)
end M
namespace M
/-- a loop, by the places of what is walked -/
theorem forW_ix {chk : Sto → Prop} {step : D → Env → Sto → (Env → Sto → Prop) → Prop} {nx : Env → Sto → Prop} {I : Nat → Env → Sto → Prop} {L : List D} (hs : ∀ j d ρ S nx', L[j]? = some d → I j ρ S → (∀ ρ' S', I (j + 1) ρ' S' → nx' ρ' S') → chk S ∧ step d ρ S nx') (he : ∀ ρ S, I L.length ρ S → chk S ∧ nx ρ S) :
    ∀ (items : List D) (i : Nat) (ρ : Env) (S : Sto), items = L.drop i → i ≤ L.length → I i ρ S → forW chk step nx items ρ S
  | [], i, ρ, S, h, hi, hI => by
    have : i = L.length := by
      have := congrArg List.length h
      simp at this
      omega
    subst this
    exact he ρ S hI
  | d :: ds, i, ρ, S, h, hi, hI => by
    have hl : i < L.length := by
      have := congrArg List.length h
      simp at this
      omega
    have e1 : L.drop i = L[i] :: L.drop (i + 1) := List.drop_eq_getElem_cons hl
    rw [e1] at h
    injection h with h1 h2
    exact hs i d ρ S _ (by rw [h1]; exact List.getElem?_eq_getElem hl) hI fun ρ' S' h' => forW_ix hs he ds (i + 1) ρ' S' h2 (by omega) h'
theorem rng_at {lo : Int} {n j : Nat} {d : D} (h : ((List.range n).map fun i => D.int (lo + (i : Nat)))[j]? = some d) : d = .int (lo + (j : Nat)) ∧ j < n := by
  rw [List.getElem?_map] at h
  by_cases hj : j < n
  · rw [List.getElem?_range hj] at h
    injection h with h
    exact ⟨h.symm, hj⟩
  · rw [List.getElem?_eq_none (by simp; omega)] at h
    cases h
theorem rng_ok {chk : Sto → Prop} {step : D → Env → Sto → (Env → Sto → Prop) → Prop} {nx : Env → Sto → Prop} {lo hi : Int} {ρ : Env} {S : Sto} (I : Nat → Env → Sto → Prop) (h0 : I 0 ρ S) (hs : ∀ (j : Nat) ρ S nx', lo + j < hi → I j ρ S → (∀ ρ' S', I (j + 1) ρ' S' → nx' ρ' S') → chk S ∧ step (.int (lo + (j : Nat))) ρ S nx') (he : ∀ ρ S, I (hi - lo).toNat ρ S → chk S ∧ nx ρ S) : forW chk step nx ((List.range (hi - lo).toNat).map fun i => D.int (lo + (i : Nat))) ρ S :=
  forW_ix (L := (List.range (hi - lo).toNat).map fun i => D.int (lo + (i : Nat))) (fun j d ρ S nx' hd hI hn => by
    obtain ⟨rfl, hj⟩ := rng_at hd
    exact hs j ρ S nx' (by omega) hI hn) (fun ρ S h => he ρ S (by simpa using h)) _ 0 ρ S rfl (by simp) h0
theorem compW_m {α : Type} {chk : Sto → Prop} {step : D → Sto → (Option D → Sto → Prop) → Prop} {Q : VK} {f : α → D} {g : α → Option D} {S0 : Sto} (hc : ∀ S, Ext S0 S → chk S) : ∀ {xs : List α} {acc : List D} {S : Sto}, Ext S0 S → (∀ x ∈ xs, ∀ (S : Sto) (k : Option D → Sto → Prop), Ext S0 S → (∀ S', Ext S S' → k (g x) S') → step (f x) S k) → (∀ S' p, Ext S0 S' → S' p = none → Q (.ref p) (upd S' p (.lst (acc ++ xs.filterMap g)))) → compW chk step Q (xs.map f) acc S
  | [], acc, S, h0, hs, hq => ⟨hc S h0, fun p hp => by have := hq S p h0 hp; rwa [List.filterMap_nil, List.append_nil] at this⟩
  | x :: xs, acc, S, h0, hs, hq => ⟨hc S h0, hs x List.mem_cons_self S _ h0 fun S1 k1 => compW_m hc (h0.trans k1) (fun y hy => hs y (List.mem_cons_of_mem _ hy)) fun S' p h1 hp => by
      have := hq S' p h1 hp
      rw [List.filterMap_cons] at this
      cases hg : g x with
      | none => rw [hg] at this; simpa using this
      | some v => rw [hg] at this; simpa [List.append_assoc] using this⟩
end M
namespace M
def law_B0 : Ss := (.cons (.set (.v 5) (.ix (.v 1) (.v 2))) (.cons (.set (.v 6) (.comp (.cmp .eq (.v 9) (.v 2)) (.v 9) (.rng (.bi .len (.cons (.v 1) .nil))) .none)) (.cons (.if_ (.or (.cmp .ne (.call 2 (.cons (.v 5) .nil)) (.v 6)) (.cons (.not (.isx (.v 5) [23])) .nil)) (.cons (.ret (.k (.bl false))) .nil) .nil) (.cons (.if_ (.not (.isx (.v 5) [24])) (.cons (.ret (.k (.bl false))) .nil) .nil) .nil))))
def law_S0 : St := (.for_ (.v 2) (.rng (.bi .len (.cons (.v 1) .nil))) law_B0)
def law_B1 : Ss := (.cons (.set (.v 7) (.call 0 (.cons (.v 0) (.cons (.v 3) .nil)))) (.cons (.set (.v 8) (.call 1 (.cons (.v 7) (.cons (.bin .pow (.k (.int 10)) (.k (.int 20))) .nil)))) (.cons (.if_ (.cmp .ne (.lst (.cons (.xfld (.xnew 22 [99, 111, 117, 110, 116] false (.v 8)) [99, 111, 117, 110, 116]) (.cons (.xfld (.xnew 22 [99, 111, 117, 110, 116] true (.v 8)) [99, 111, 117, 110, 116]) .nil))) (.lst (.cons (.v 8) (.cons (.v 8) .nil)))) (.cons (.ret (.k (.bl false))) .nil) .nil) (.cons (.if_ (.cmp .ne (.lst (.cons (.xfld (.xnew 1 [116, 105, 109, 101] false (.tup (.cons (.v 8) (.cons (.k (.int 1)) .nil)))) [116, 105, 109, 101]) (.cons (.xfld (.xnew 1 [116, 105, 109, 101] true (.tup (.cons (.v 8) (.cons (.k (.int 1)) .nil)))) [116, 105, 109, 101]) .nil))) (.bin .mul (.lst (.cons (.tup (.cons (.v 8) (.cons (.k (.int 1)) .nil))) .nil)) (.k (.int 2)))) (.cons (.ret (.k (.bl false))) .nil) .nil) .nil))))
def law_S1 : St := (.for_ (.v 3) (.rng (.bi .max (.cons (.k (.int 1)) (.cons (.bi .min (.cons (.k (.int 4)) (.cons (.bi .len (.cons (.v 0) .nil)) .nil))) .nil)))) law_B1)
def law_A1 : Ss := (.cons (.set (.v 4) (.xnew0 23)) (.cons (.ret (.and (.not (.bi .any (.cons (.call 2 (.cons (.v 4) .nil)) .nil))) (.cons (.isx (.v 4) [24]) .nil))) .nil))
def law_A0 : Ss := (.cons law_S1 law_A1)
def law_T : Ss := (.cons (.set (.v 1) (.call 3 .nil)) (.cons law_S0 law_A0))
def ancsK : List (List Nat) := [[0, 23, 24], [1, 23, 24], [2, 23, 24], [3, 23, 24], [4, 23, 24], [5, 23, 24], [6, 23, 24], [7, 23, 24], [8, 23, 24], [9, 23, 24], [10, 23, 24], [11, 23, 24], [12, 23, 24], [13, 23, 24], [14, 23, 24], [15, 23, 24], [16, 23, 24], [17, 23, 24], [18, 23, 24], [19, 23, 24], [20, 23, 24], [21, 23, 24], [22, 23, 24], [23, 24]]
def subK (i j : Nat) : Bool := (ancsK.getD i []).contains j
/-- an error of the class k -/
def ErA (adr : Nat → Option Nat) (k : Nat) (d : D) : Prop := ∃ C fs, d = .xn C fs ∧ adr k = some C
/-! ### the marks of an error -/
def isxs : List Nat → Es
  | [] => .nil
  | j :: r => .cons (.isx (.v 0) [j]) (isxs r)
def mkSeq : List (List Nat) → Ss → Ss
  | [], t => t
  | g :: r, t => .cons (.set (.v 1) (.bin .add (.v 1) (.lst (isxs g)))) (mkSeq r t)
theorem isxs_ok {G : Gm} (hx : GX 24 subK G) {k C : Nat} {fs : List D} (hk : G.adr k = some C) {ρ : Env} {S : Sto} (hρ : look ρ 0 = some (.xn C fs)) {X : XK} : ∀ {js : List Nat} {Q : List D → Sto → Prop}, Q (js.map fun j => .bl (subK k j)) S → wpEs G (isxs js) ρ S Q X
  | [], Q, h => h
  | j :: js, Q, h => by
    show opt (look ρ 0) fun x => onX x fun C => ∃ k, G.adr k = some C ∧ wpEs G (isxs js) ρ S (fun ds S2 => Q (.bl (([j] : List Nat).any (G.sub k)) :: ds) S2) X
    rw [hρ]
    refine ⟨k, hk, ?_⟩
    have e : ([j] : List Nat).any (G.sub k) = subK k j := by rw [hx.hs]; simp
    rw [e]
    exact isxs_ok hx hk hρ h
theorem seq_ok {G : Gm} (hx : GX 24 subK G) {k C : Nat} {fs : List D} (hk : G.adr k = some C) {t : Ss} {K : Kt} : ∀ {gs : List (List Nat)} {xs : List D} {p : Nat} {S : Sto}, S p = some (.lst xs) → xs.length + gs.flatten.length ≤ 900 → (∀ p' S', Ext S S' → S' p' = some (.lst (xs ++ gs.flatten.map fun j => .bl (subK k j))) → wpSs G t [some (.xn C fs), some (.ref p')] S' K) → wpSs G (mkSeq gs t) [some (.xn C fs), some (.ref p)] S K
  | [], xs, p, S, h, hl, hq => hq p S Ext.refl (by rw [List.flatten_nil, List.map_nil, List.append_nil]; exact h)
  | g :: gs, xs, p, S, h, hl, hq => by
    rw [List.flatten_cons, List.length_append] at hl
    simp only [mkSeq, wpSs, wpS, wpE, wpEs, wpC, wpAnd, wpOr, wpO, wpIt, opt_some, onI_int, onB_bl, onR_ref, arg1_one, look, joinO, start, List.map_cons, List.map_nil, List.length_cons, List.length_nil, List.replicate, List.cons_append, List.nil_append, List.append_nil, List.getElem?_cons_succ, List.getElem?_cons_zero, kcD, Nat.reduceAdd, Nat.reduceSub, br_t, br_f, br_n, asg, setAll, List.set_cons_succ, List.set_cons_zero, tgs, wipe, eq_ii, ne_ii, lt_ii, le_ii, gt_ii, ge_ii, is_n, isn_n, is_b, isn_b, add_ii, sub_ii, mul_ii, mod_ii, fdiv_ii, pow_ii, isNon, biD, intD_i, intD_b, esLen, beq_self_eq_true, ixD_tup, lsOf_new, seqD_tup, seqD_fl, slD_tup, bools, Option.map_some, true_and, ixD_fl, lenD_tup, lenD_fl, ix30, ix31, ix32, at20, at21, at30, at31, at32, List.filterMap_cons, List.filterMap_nil]
    refine isxs_ok hx hk rfl ?_
    refine mkL_ok (by rw [List.length_map]; omega) fun q hq1 => ?_
    have x1 := Ext.new (o := .lst (g.map fun j => D.bl (subK k j))) hq1
    refine add_ref (x1 _ _ h) upd_at (mkL_ok (by rw [List.length_append, List.length_map]; omega) fun r hr => ?_)
    have x2 := x1.trans (Ext.new (o := .lst (xs ++ g.map fun j => D.bl (subK k j))) hr)
    refine seq_ok hx hk upd_at (by rw [List.length_append, List.length_map]; omega) fun p' S' x3 e => ?_
    refine hq p' S' (x2.trans x3) ?_
    rw [e, List.flatten_cons, List.map_append, List.append_assoc]
def mksD (k : Nat) : List D := (List.range 23).map fun j => .bl (subK k j)
def spMks (adr : Nat → Option Nat) : Sp := fun ds S Q _ => ∃ k C fs, ds = [.xn C fs] ∧ adr k = some C ∧ ∀ p S', Ext S S' → S' p = some (.lst (mksD k)) → Q (.ref p) S'
def GS : List (List Nat) := [[0, 1], [2, 3], [4, 5], [6, 7], [8, 9], [10, 11], [12, 13], [14, 15], [16, 17], [18, 19], [20, 21], [22]]
theorem txt_mks {G : Gm} {ds : List D} {S0 : Sto} {Q : VK} {X : XK} {b : Ss} (hb : b = (.cons (.set (.v 1) (.lst .nil)) (.cons (.set (.v 1) (.bin .add (.v 1) (.lst (.cons (.isx (.v 0) [0]) (.cons (.isx (.v 0) [1]) .nil))))) (.cons (.set (.v 1) (.bin .add (.v 1) (.lst (.cons (.isx (.v 0) [2]) (.cons (.isx (.v 0) [3]) .nil))))) (.cons (.set (.v 1) (.bin .add (.v 1) (.lst (.cons (.isx (.v 0) [4]) (.cons (.isx (.v 0) [5]) .nil))))) (.cons (.set (.v 1) (.bin .add (.v 1) (.lst (.cons (.isx (.v 0) [6]) (.cons (.isx (.v 0) [7]) .nil))))) (.cons (.set (.v 1) (.bin .add (.v 1) (.lst (.cons (.isx (.v 0) [8]) (.cons (.isx (.v 0) [9]) .nil))))) (.cons (.set (.v 1) (.bin .add (.v 1) (.lst (.cons (.isx (.v 0) [10]) (.cons (.isx (.v 0) [11]) .nil))))) (.cons (.set (.v 1) (.bin .add (.v 1) (.lst (.cons (.isx (.v 0) [12]) (.cons (.isx (.v 0) [13]) .nil))))) (.cons (.set (.v 1) (.bin .add (.v 1) (.lst (.cons (.isx (.v 0) [14]) (.cons (.isx (.v 0) [15]) .nil))))) (.cons (.set (.v 1) (.bin .add (.v 1) (.lst (.cons (.isx (.v 0) [16]) (.cons (.isx (.v 0) [17]) .nil))))) (.cons (.set (.v 1) (.bin .add (.v 1) (.lst (.cons (.isx (.v 0) [18]) (.cons (.isx (.v 0) [19]) .nil))))) (.cons (.set (.v 1) (.bin .add (.v 1) (.lst (.cons (.isx (.v 0) [20]) (.cons (.isx (.v 0) [21]) .nil))))) (.cons (.set (.v 1) (.bin .add (.v 1) (.lst (.cons (.isx (.v 0) [22]) .nil)))) (.cons (.ret (.v 1)) .nil))))))))))))))) (hx : GX 24 subK G) (h : spMks G.adr ds S0 Q X) : ds.length = 1 ∧ wpSs G b (start 2 ds) S0 (kR Q X) := by
  obtain ⟨k, C, fs, rfl, hk, hq⟩ := h
  subst hb
  refine ⟨rfl, ?_⟩
  show wpSs G (.cons (.set (.v 1) (.lst .nil)) (mkSeq GS (.cons (.ret (.v 1)) .nil))) (start 2 [.xn C fs]) S0 (kR Q X)
  simp only [wpSs, wpS, wpE, wpEs, wpC, wpAnd, wpOr, wpO, wpIt, opt_some, onI_int, onB_bl, onR_ref, arg1_one, look, joinO, start, List.map_cons, List.map_nil, List.length_cons, List.length_nil, List.replicate, List.cons_append, List.nil_append, List.append_nil, List.getElem?_cons_succ, List.getElem?_cons_zero, kcD, Nat.reduceAdd, Nat.reduceSub, br_t, br_f, br_n, asg, setAll, List.set_cons_succ, List.set_cons_zero, tgs, wipe, eq_ii, ne_ii, lt_ii, le_ii, gt_ii, ge_ii, is_n, isn_n, is_b, isn_b, add_ii, sub_ii, mul_ii, mod_ii, fdiv_ii, pow_ii, isNon, biD, intD_i, intD_b, esLen, beq_self_eq_true, ixD_tup, lsOf_new, seqD_tup, seqD_fl, slD_tup, bools, Option.map_some, true_and, ixD_fl, lenD_tup, lenD_fl, ix30, ix31, ix32, at20, at21, at30, at31, at32, List.filterMap_cons, List.filterMap_nil]
  refine mkL_ok (by decide) fun p hp => ?_
  refine seq_ok hx hk (xs := []) upd_at (by decide) fun p' S' x e => ?_
  simp only [wpSs, wpS, wpE, wpEs, wpC, wpAnd, wpOr, wpO, wpIt, opt_some, onI_int, onB_bl, onR_ref, arg1_one, look, joinO, start, List.map_cons, List.map_nil, List.length_cons, List.length_nil, List.replicate, List.cons_append, List.nil_append, List.append_nil, List.getElem?_cons_succ, List.getElem?_cons_zero, kcD, Nat.reduceAdd, Nat.reduceSub, br_t, br_f, br_n, asg, setAll, List.set_cons_succ, List.set_cons_zero, tgs, wipe, eq_ii, ne_ii, lt_ii, le_ii, gt_ii, ge_ii, is_n, isn_n, is_b, isn_b, add_ii, sub_ii, mul_ii, mod_ii, fdiv_ii, pow_ii, isNon, biD, intD_i, intD_b, esLen, beq_self_eq_true, ixD_tup, lsOf_new, seqD_tup, seqD_fl, slD_tup, bools, Option.map_some, true_and, ixD_fl, lenD_tup, lenD_fl, ix30, ix31, ix32, at20, at21, at30, at31, at32, List.filterMap_cons, List.filterMap_nil]
  exact hq p' S' ((Ext.new hp).trans x) (by rw [e, List.nil_append]; rfl)
/-! ### one error of each class -/
inductive A2 {α : Type} (R : α → D → Prop) : List α → List D → Prop
  | nil : A2 R [] []
  | cons {d : α} {v : D} {ds : List α} {vs : List D} : R d v → A2 R ds vs → A2 R (d :: ds) (v :: vs)
theorem A2.app {α : Type} {R : α → D → Prop} : ∀ {a b : List α} {u v : List D}, A2 R a u → A2 R b v → A2 R (a ++ b) (u ++ v)
  | _, _, _, _, .nil, h => h
  | _, _, _, _, .cons r t, h => .cons r (t.app h)
theorem A2.len {α : Type} {R : α → D → Prop} : ∀ {ds : List α} {vs : List D}, A2 R ds vs → vs.length = ds.length
  | _, _, .nil => rfl
  | _, _, .cons h t => by rw [List.length_cons, List.length_cons, t.len]
theorem A2.get {α : Type} {R : α → D → Prop} : ∀ {ds : List α} {vs : List D} {i : Nat} {a : α}, A2 R ds vs → ds[i]? = some a → ∃ v, vs[i]? = some v ∧ R a v
  | _, _, _, _, .nil, h => by simp at h
  | _, _, 0, a, .cons r t, h => by simp at h; subst h; exact ⟨_, rfl, r⟩
  | _, _, i + 1, a, .cons r t, h => by simp at h; simpa using t.get h
inductive Mk where
  | a (k : Nat) | b (k : Nat) (n : Tx) (kw : Bool) (e : Ex)
def Mk.k : Mk → Nat
  | .a k => k
  | .b k _ _ _ => k
def mkEs : List Mk → Es
  | [] => .nil
  | .a k :: r => .cons (.xnew0 k) (mkEs r)
  | .b k n kw e :: r => .cons (.xnew k n kw e) (mkEs r)
def MkOk (G : Gm) (ρ : Env) : Mk → Prop
  | .a _ => True
  | .b _ _ _ e => ∃ d, ∀ (S : Sto) (Q : VK) (X : XK), Q d S → wpE G e ρ S Q X
theorem mkEs_ok {G : Gm} {ρ : Env} {S : Sto} {X : XK} : ∀ {ms : List Mk} {Q : List D → Sto → Prop}, (∀ m ∈ ms, MkOk G ρ m) → (∀ ds, A2 (fun (m : Mk) d => ErA G.adr m.k d) ms ds → Q ds S) → wpEs G (mkEs ms) ρ S Q X
  | [], Q, ho, h => h [] .nil
  | .a k :: ms, Q, ho, h => by
    show ∀ C, G.adr k = some C → ∀ a : Nat, wpEs G (mkEs ms) ρ S (fun ds S2 => Q (.xn C [.int a] :: ds) S2) X
    exact fun C hC a => mkEs_ok (fun m hm => ho m (List.mem_cons_of_mem _ hm)) fun ds hd => h _ (.cons ⟨C, _, rfl, hC⟩ hd)
  | .b k n kw e :: ms, Q, ho, h => by
    obtain ⟨d, he⟩ := ho (.b k n kw e) List.mem_cons_self
    show wpE G e ρ S (fun x S1 => ∀ C, G.adr k = some C → ∀ a : Nat, wpEs G (mkEs ms) ρ S1 (fun ds S2 => Q (.xn C [.int a, .str n, x] :: ds) S2) X) X
    exact he _ _ _ fun C hC a => mkEs_ok (fun m hm => ho m (List.mem_cons_of_mem _ hm)) fun ds hd => h _ (.cons ⟨C, _, rfl, hC⟩ hd)
def mdSeq : List (List Mk) → Ss → Ss
  | [], t => t
  | g :: r, t => .cons (.set (.v 0) (.bin .add (.v 0) (.lst (mkEs g)))) (mdSeq r t)
theorem mds_ok {G : Gm} {t : Ss} {K : Kt} : ∀ {gs : List (List Mk)} {ms : List Mk} {xs : List D} {p : Nat} {S : Sto}, (∀ m ∈ gs.flatten, ∀ ρ, MkOk G ρ m) → S p = some (.lst xs) → A2 (fun (m : Mk) d => ErA G.adr m.k d) ms xs → ms.length + gs.flatten.length ≤ 900 → (∀ p' S' ys, Ext S S' → S' p' = some (.lst ys) → A2 (fun (m : Mk) d => ErA G.adr m.k d) (ms ++ gs.flatten) ys → wpSs G t [some (.ref p')] S' K) → wpSs G (mdSeq gs t) [some (.ref p)] S K
  | [], ms, xs, p, S, ho, h, ha, hl, hq => hq p S xs Ext.refl h (by rw [List.flatten_nil, List.append_nil]; exact ha)
  | g :: gs, ms, xs, p, S, ho, h, ha, hl, hq => by
    rw [List.flatten_cons] at ho
    rw [List.flatten_cons, List.length_append] at hl
    simp only [mdSeq, wpSs, wpS, wpE, wpEs, wpC, wpAnd, wpOr, wpO, wpIt, opt_some, onI_int, onB_bl, onR_ref, arg1_one, look, joinO, start, List.map_cons, List.map_nil, List.length_cons, List.length_nil, List.replicate, List.cons_append, List.nil_append, List.append_nil, List.getElem?_cons_succ, List.getElem?_cons_zero, kcD, Nat.reduceAdd, Nat.reduceSub, br_t, br_f, br_n, asg, setAll, List.set_cons_succ, List.set_cons_zero, tgs, wipe, eq_ii, ne_ii, lt_ii, le_ii, gt_ii, ge_ii, is_n, isn_n, is_b, isn_b, add_ii, sub_ii, mul_ii, mod_ii, fdiv_ii, pow_ii, isNon, biD, intD_i, intD_b, esLen, beq_self_eq_true, ixD_tup, lsOf_new, seqD_tup, seqD_fl, slD_tup, bools, Option.map_some, true_and, ixD_fl, lenD_tup, lenD_fl, ix30, ix31, ix32, at20, at21, at30, at31, at32, List.filterMap_cons, List.filterMap_nil]
    refine mkEs_ok (fun m hm => ho m (List.mem_append_left _ hm) _) fun ds hd => ?_
    have l1 := hd.len
    have l2 := ha.len
    refine mkL_ok (by omega) fun q hq1 => ?_
    have x1 := Ext.new (o := .lst ds) hq1
    refine add_ref (x1 _ _ h) upd_at (mkL_ok (by rw [List.length_append]; omega) fun r hr => ?_)
    have x2 := x1.trans (Ext.new (o := .lst (xs ++ ds)) hr)
    refine mds_ok (fun m hm => ho m (List.mem_append_right _ hm)) upd_at (ha.app hd) (by rw [List.length_append]; omega) fun p' S' ys x3 e hy => ?_
    refine hq p' S' ys (x2.trans x3) e ?_
    rw [List.flatten_cons, ← List.append_assoc]
    exact hy
def MS : List (List Mk) := [[.a 0, .b 1 [116, 105, 109, 101] false (.tup (.cons (.k (.int 3)) (.cons (.k (.int 2)) .nil))), .a 2, .a 3], [.a 4, .a 5, .a 6, .a 7], [.a 8, .a 9, .a 10, .a 11], [.a 12, .a 13, .a 14, .a 15], [.a 16, .a 17, .a 18, .a 19], [.a 20, .a 21, .b 22 [99, 111, 117, 110, 116] true (.k (.int 7))]]
def spMd (adr : Nat → Option Nat) : Sp := fun ds S Q _ => ds = [] ∧ ∀ p S' xs, Ext S S' → S' p = some (.lst xs) → xs.length = 23 → (∀ k, k < 23 → ∃ d, xs[k]? = some d ∧ ErA adr k d) → Q (.ref p) S'
theorem ms_at : ∀ k, k < 23 → (MS.flatten[k]?).map Mk.k = some k := by decide
theorem txt_md {G : Gm} {ds : List D} {S0 : Sto} {Q : VK} {X : XK} {b : Ss} (hb : b = (.cons (.set (.v 0) (.lst .nil)) (.cons (.set (.v 0) (.bin .add (.v 0) (.lst (.cons (.xnew0 0) (.cons (.xnew 1 [116, 105, 109, 101] false (.tup (.cons (.k (.int 3)) (.cons (.k (.int 2)) .nil)))) (.cons (.xnew0 2) (.cons (.xnew0 3) .nil))))))) (.cons (.set (.v 0) (.bin .add (.v 0) (.lst (.cons (.xnew0 4) (.cons (.xnew0 5) (.cons (.xnew0 6) (.cons (.xnew0 7) .nil))))))) (.cons (.set (.v 0) (.bin .add (.v 0) (.lst (.cons (.xnew0 8) (.cons (.xnew0 9) (.cons (.xnew0 10) (.cons (.xnew0 11) .nil))))))) (.cons (.set (.v 0) (.bin .add (.v 0) (.lst (.cons (.xnew0 12) (.cons (.xnew0 13) (.cons (.xnew0 14) (.cons (.xnew0 15) .nil))))))) (.cons (.set (.v 0) (.bin .add (.v 0) (.lst (.cons (.xnew0 16) (.cons (.xnew0 17) (.cons (.xnew0 18) (.cons (.xnew0 19) .nil))))))) (.cons (.set (.v 0) (.bin .add (.v 0) (.lst (.cons (.xnew0 20) (.cons (.xnew0 21) (.cons (.xnew 22 [99, 111, 117, 110, 116] true (.k (.int 7))) .nil)))))) (.cons (.ret (.v 0)) .nil))))))))) (h : spMd G.adr ds S0 Q X) : ds.length = 0 ∧ wpSs G b (start 1 ds) S0 (kR Q X) := by
  obtain ⟨rfl, hq⟩ := h
  subst hb
  refine ⟨rfl, ?_⟩
  show wpSs G (.cons (.set (.v 0) (.lst .nil)) (mdSeq MS (.cons (.ret (.v 0)) .nil))) (start 1 []) S0 (kR Q X)
  simp only [wpSs, wpS, wpE, wpEs, wpC, wpAnd, wpOr, wpO, wpIt, opt_some, onI_int, onB_bl, onR_ref, arg1_one, look, joinO, start, List.map_cons, List.map_nil, List.length_cons, List.length_nil, List.replicate, List.cons_append, List.nil_append, List.append_nil, List.getElem?_cons_succ, List.getElem?_cons_zero, kcD, Nat.reduceAdd, Nat.reduceSub, br_t, br_f, br_n, asg, setAll, List.set_cons_succ, List.set_cons_zero, tgs, wipe, eq_ii, ne_ii, lt_ii, le_ii, gt_ii, ge_ii, is_n, isn_n, is_b, isn_b, add_ii, sub_ii, mul_ii, mod_ii, fdiv_ii, pow_ii, isNon, biD, intD_i, intD_b, esLen, beq_self_eq_true, ixD_tup, lsOf_new, seqD_tup, seqD_fl, slD_tup, bools, Option.map_some, true_and, ixD_fl, lenD_tup, lenD_fl, ix30, ix31, ix32, at20, at21, at30, at31, at32, List.filterMap_cons, List.filterMap_nil]
  refine mkL_ok (by decide) fun p hp => ?_
  refine mds_ok (ms := []) (xs := []) (fun m hm ρ => ?_) upd_at .nil (by decide) fun p' S' ys x e hy => ?_
  · simp only [MS, List.flatten_cons, List.flatten_nil, List.append_nil, List.cons_append, List.nil_append, List.mem_cons, List.not_mem_nil, or_false] at hm
    rcases hm with rfl | rfl | rfl | rfl | rfl | rfl | rfl | rfl | rfl | rfl | rfl | rfl | rfl | rfl | rfl | rfl | rfl | rfl | rfl | rfl | rfl | rfl | rfl
    all_goals first
      | exact trivial
      | exact ⟨.tup [.int 3, .int 2], fun S Q X q => ⟨len_lim (by decide), q⟩⟩
      | exact ⟨.int 7, fun S Q X q => q⟩
  · simp only [wpSs, wpS, wpE, wpEs, wpC, wpAnd, wpOr, wpO, wpIt, opt_some, onI_int, onB_bl, onR_ref, arg1_one, look, joinO, start, List.map_cons, List.map_nil, List.length_cons, List.length_nil, List.replicate, List.cons_append, List.nil_append, List.append_nil, List.getElem?_cons_succ, List.getElem?_cons_zero, kcD, Nat.reduceAdd, Nat.reduceSub, br_t, br_f, br_n, asg, setAll, List.set_cons_succ, List.set_cons_zero, tgs, wipe, eq_ii, ne_ii, lt_ii, le_ii, gt_ii, ge_ii, is_n, isn_n, is_b, isn_b, add_ii, sub_ii, mul_ii, mod_ii, fdiv_ii, pow_ii, isNon, biD, intD_i, intD_b, esLen, beq_self_eq_true, ixD_tup, lsOf_new, seqD_tup, seqD_fl, slD_tup, bools, Option.map_some, true_and, ixD_fl, lenD_tup, lenD_fl, ix30, ix31, ix32, at20, at21, at30, at31, at32, List.filterMap_cons, List.filterMap_nil]
    rw [List.nil_append] at hy
    refine hq p' S' ys ((Ext.new hp).trans x) e hy.len fun k hk => ?_
    have z := ms_at k hk
    cases em : MS.flatten[k]? with
    | none => rw [em] at z; cases z
    | some m =>
      rw [em] at z
      obtain ⟨v, e1, e2⟩ := hy.get em
      have : m.k = k := Option.some.inj z
      rw [this] at e2
      exact ⟨v, e1, e2⟩
end M
namespace M
theorem sub_eq : ∀ k, k < 23 → ∀ j, j < 23 → subK k j = decide (j = k) := by decide +kernel
theorem sub_se : ∀ k, k < 24 → subK k 23 = true ∧ subK k 24 = true := by decide +kernel
theorem mks_eq {k : Nat} (h : k < 23) : mksD k = (List.range 23).map fun j => .bl (decide (j = k)) := by
  unfold mksD
  refine List.map_congr_left fun j hj => ?_
  rw [sub_eq k h j (List.mem_range.mp hj)]
theorem fit_bl {n : Nat} {S : Sto} : ∀ bs : List Bool, fitL (fit (n + 1) S) (bs.map .bl) = true
  | [] => rfl
  | b :: bs => by show (true && fitL (fit (n + 1) S) (bs.map .bl)) = true; rw [fit_bl bs]; rfl
theorem eq_bl {n : Nat} {S : Sto} : ∀ bs : List Bool, eqLB (eqB (n + 1) S) (bs.map .bl) (bs.map .bl) = true
  | [] => rfl
  | b :: bs => by
    show ((b == b) && eqLB (eqB (n + 1) S) (bs.map .bl) (bs.map .bl)) = true
    rw [eq_bl bs, beq_self_eq_true]; rfl
theorem ne_same {S : Sto} {p q : Nat} {bs : List Bool} {Q : Bool → Prop} (h1 : S p = some (.lst (bs.map .bl))) (h2 : S q = some (.lst (bs.map .bl))) (h : Q false) : cmpD .ne (.ref p) (.ref q) S Q := by
  have f1 : fit dep S (.ref p) = true := by
    show optB (lstAt S p) (fitL (fit 7 S)) = true
    rw [lstAt_eq h1]; exact fit_bl bs
  have f2 : fit dep S (.ref q) = true := by
    show optB (lstAt S q) (fitL (fit 7 S)) = true
    rw [lstAt_eq h2]; exact fit_bl bs
  have f3 : eqB dep S (.ref p) (.ref q) = true := by
    show eqO (eqLB (eqB 7 S)) (lstAt S p) (lsOf S (.ref q)) = true
    rw [lstAt_eq h1, lsOf_ref h2]; exact eq_bl bs
  refine ⟨f1, f2, ?_⟩
  rw [f3]; exact h
theorem isx_ok {G : Gm} (hx : GX 24 subK G) {k C : Nat} {fs : List D} (hk : G.adr k = some C) {j : Nat} {Q : Bool → Prop} (h : Q (subK k j)) : onX (.xn C fs) fun C => ∃ k, G.adr k = some C ∧ Q (([j] : List Nat).any (G.sub k)) := by
  refine ⟨k, hk, ?_⟩
  have e : ([j] : List Nat).any (G.sub k) = subK k j := by rw [hx.hs]; simp
  rw [e]; exact h
theorem ne_two {S : Sto} {p q : Nat} {d : D} (hf : ∀ n, fit (n + 1) S d = true ∨ n < 3) (he : ∀ n, eqB (n + 1) S d d = true ∨ n < 3) {Q : Bool → Prop} (h1 : S p = some (.lst [d, d])) (h2 : S q = some (.lst [d, d])) (h : Q false) : cmpD .ne (.ref p) (.ref q) S Q := by
  have f7 : fit 7 S d = true := (hf 6).resolve_right (by decide)
  have e7 : eqB 7 S d d = true := (he 6).resolve_right (by decide)
  have f1 : fit dep S (.ref p) = true := by
    show optB (lstAt S p) (fitL (fit 7 S)) = true
    rw [lstAt_eq h1]; show (fit 7 S d && (fit 7 S d && true)) = true; rw [f7]; rfl
  have f2 : fit dep S (.ref q) = true := by
    show optB (lstAt S q) (fitL (fit 7 S)) = true
    rw [lstAt_eq h2]; show (fit 7 S d && (fit 7 S d && true)) = true; rw [f7]; rfl
  have f3 : eqB dep S (.ref p) (.ref q) = true := by
    show eqO (eqLB (eqB 7 S)) (lstAt S p) (lsOf S (.ref q)) = true
    rw [lstAt_eq h1, lsOf_ref h2]; show (eqB 7 S d d && (eqB 7 S d d && true)) = true; rw [e7]; rfl
  refine ⟨f1, f2, ?_⟩
  rw [f3]; exact h
theorem base_marks : bools (mksD 23) = some (List.replicate 23 false) := by decide +kernel
def spLaw : Sp := fun ds S Q _ => ∃ ns : List Int, ds = [.fl (ns.map .int)] ∧ ns.length ≤ 63 ∧ ∀ S', Q (.bl true) S'
theorem law_one {G : Gm} (hx : GX 24 subK G) (h1 : G.fn 2 = spMks G.adr) {ns : List Int} {p i : Nat} {xs : List D} (hi : i < 23) (hl : xs.length = 23) (hxs : ∀ k, k < 23 → ∃ d, xs[k]? = some d ∧ ErA G.adr k d) {S : Sto} (hp : S p = some (.lst xs)) {o3 o4 o5 o6 o7 o8 o9 : Option D} {nx : Env → Sto → Prop} {Q : VK} {B : Env → Sto → Prop} {X : Nat → List D → Env → Sto → Prop}
    (hn : ∀ S' o5 o6 o9, Ext S S' → nx [some (.fl (ns.map .int)), some (.ref p), some (.int i), o3, o4, o5, o6, o7, o8, o9] S') : wpSs G law_B0 [some (.fl (ns.map .int)), some (.ref p), some (.int i), o3, o4, o5, o6, o7, o8, o9] S ⟨nx, Q, B, X⟩ := by
  obtain ⟨d, hd, C, fs, rfl, hC⟩ := hxs i hi
  have ei : atI xs (i : Int) = some (.xn C fs) := by
    unfold atI ixN
    rw [if_pos (by omega), if_pos (by omega), Option.bind_some]
    exact hd
  have hlen : sqOf S (.ref p) = some xs := by show lstAt S p = _; exact lstAt_eq hp
  simp only [law_B0, wpSs, wpS, wpE, wpEs, wpC, wpAnd, wpOr, wpO, wpIt, opt_some, onI_int, onB_bl, onR_ref, arg1_one, look, joinO, start, List.map_cons, List.map_nil, List.length_cons, List.length_nil, List.replicate, List.cons_append, List.nil_append, List.append_nil, List.getElem?_cons_succ, List.getElem?_cons_zero, kcD, Nat.reduceAdd, Nat.reduceSub, br_t, br_f, br_n, asg, setAll, List.set_cons_succ, List.set_cons_zero, tgs, wipe, eq_ii, ne_ii, lt_ii, le_ii, gt_ii, ge_ii, is_n, isn_n, is_b, isn_b, add_ii, sub_ii, mul_ii, mod_ii, fdiv_ii, pow_ii, isNon, biD, intD_i, intD_b, esLen, beq_self_eq_true, ixD_tup, lsOf_new, seqD_tup, seqD_fl, slD_tup, bools, Option.map_some, true_and, ixD_fl, lenD_tup, lenD_fl, ix30, ix31, ix32, at20, at21, at30, at31, at32, List.filterMap_cons, List.filterMap_nil, ixD, lenD, hlen, ei, hl]
  refine ⟨by decide, by decide, by decide, by decide, ?_⟩
  refine ⟨len_lim (by simp), ?_⟩
  refine compW_m (α := Nat) (f := fun j => D.int ((0 : Int) + (j : Nat))) (g := fun j => some (.bl (decide (j = i)))) (S0 := S) (fun _ _ => trivial) Ext.refl (fun j hj S1 k x1 hk => ?_) fun S1 q x1 hq => ?_
  · simp only [wpSs, wpS, wpE, wpEs, wpC, wpAnd, wpOr, wpO, wpIt, opt_some, onI_int, onB_bl, onR_ref, arg1_one, look, joinO, start, List.map_cons, List.map_nil, List.length_cons, List.length_nil, List.replicate, List.cons_append, List.nil_append, List.append_nil, List.getElem?_cons_succ, List.getElem?_cons_zero, kcD, Nat.reduceAdd, Nat.reduceSub, br_t, br_f, br_n, asg, setAll, List.set_cons_succ, List.set_cons_zero, tgs, wipe, eq_ii, ne_ii, lt_ii, le_ii, gt_ii, ge_ii, is_n, isn_n, is_b, isn_b, add_ii, sub_ii, mul_ii, mod_ii, fdiv_ii, pow_ii, isNon, biD, intD_i, intD_b, esLen, beq_self_eq_true, ixD_tup, lsOf_new, seqD_tup, seqD_fl, slD_tup, bools, Option.map_some, true_and, ixD_fl, lenD_tup, lenD_fl, ix30, ix31, ix32, at20, at21, at30, at31, at32, List.filterMap_cons, List.filterMap_nil]
    have e : ((0 : Int) + (j : Nat) == (i : Int)) = decide (j = i) := by
      by_cases z : j = i
      · subst z; simp
      · rw [decide_eq_false z]; simp; omega
    rw [e]
    exact hk S1 Ext.refl
  · simp only [List.nil_append]
    have x2 := x1.trans (Ext.new (o := .lst ((List.range 23).filterMap fun j => some (.bl (decide (j = i))))) hq)
    have eq0 : (upd S1 q (.lst ((List.range 23).filterMap fun j => some (.bl (decide (j = i)))))) q = some (.lst (((List.range 23).map fun j => decide (j = i)).map .bl)) := by
      rw [upd_at, List.map_map, ← List.filterMap_eq_map]; rfl
    have e23 : ((23 : Nat) : Int) - 0 = 23 := by decide
    simp only [show ((((23 : Nat) : Int) - 0).toNat) = 23 from rfl] at *
    generalize upd S1 q (.lst ((List.range 23).filterMap fun j => some (.bl (decide (j = i))))) = S2 at *
    refine call h1 ⟨i, C, fs, rfl, hC, fun p2 S3 x3 e3 => ?_⟩
    rw [mks_eq hi] at e3
    have e3' : S3 p2 = some (.lst (((List.range 23).map fun j => decide (j = i)).map .bl)) := by rw [e3, List.map_map]; rfl
    refine ne_same e3' (x3 _ _ eq0) ?_
    refine br_f.mpr ?_
    refine isx_ok (Q := fun b => br b _ _) hx hC ?_
    rw [(sub_se i (by omega)).1]
    refine br_t.mpr ?_
    refine isx_ok (Q := fun b => br b _ _) hx hC ?_
    rw [(sub_se i (by omega)).2]
    exact br_t.mpr (hn S3 _ _ _ (x2.trans x3))
theorem law_ok {G : Gm} {ds : List D} {S0 : Sto} {Q : VK} {X : XK} {b : Ss} (hb : b = law_T) (hx : GX 24 subK G) (h0 : G.fn 0 = spWell) (h1 : G.fn 1 = spDraw) (h2 : G.fn 2 = spMks G.adr) (h3 : G.fn 3 = spMd G.adr) (h : spLaw ds S0 Q X) : ds.length = 1 ∧ wpSs G b (start 10 ds) S0 (kR Q X) := by
  obtain ⟨ns, rfl, hl, hq⟩ := h
  subst hb
  refine ⟨rfl, ?_⟩
  simp only [law_T, law_S0]
  generalize hA : law_A0 = A0
  generalize hB : law_B0 = bo
  simp only [wpSs, wpS, wpE, wpEs, wpC, wpAnd, wpOr, wpO, wpIt, opt_some, onI_int, onB_bl, onR_ref, arg1_one, look, joinO, start, List.map_cons, List.map_nil, List.length_cons, List.length_nil, List.replicate, List.cons_append, List.nil_append, List.append_nil, List.getElem?_cons_succ, List.getElem?_cons_zero, kcD, Nat.reduceAdd, Nat.reduceSub, br_t, br_f, br_n, asg, setAll, List.set_cons_succ, List.set_cons_zero, tgs, wipe, eq_ii, ne_ii, lt_ii, le_ii, gt_ii, ge_ii, is_n, isn_n, is_b, isn_b, add_ii, sub_ii, mul_ii, mod_ii, fdiv_ii, pow_ii, isNon, biD, intD_i, intD_b, esLen, beq_self_eq_true, ixD_tup, lsOf_new, seqD_tup, seqD_fl, slD_tup, bools, Option.map_some, true_and, ixD_fl, lenD_tup, lenD_fl, ix30, ix31, ix32, at20, at21, at30, at31, at32, List.filterMap_cons, List.filterMap_nil]
  refine call h3 ⟨rfl, fun p S1 xs x1 e1 l1 hxs => ?_⟩
  try simp only [wpSs, wpS, wpE, wpEs, wpC, wpAnd, wpOr, wpO, wpIt, opt_some, onI_int, onB_bl, onR_ref, arg1_one, look, joinO, start, List.map_cons, List.map_nil, List.length_cons, List.length_nil, List.replicate, List.cons_append, List.nil_append, List.append_nil, List.getElem?_cons_succ, List.getElem?_cons_zero, kcD, Nat.reduceAdd, Nat.reduceSub, br_t, br_f, br_n, asg, setAll, List.set_cons_succ, List.set_cons_zero, tgs, wipe, eq_ii, ne_ii, lt_ii, le_ii, gt_ii, ge_ii, is_n, isn_n, is_b, isn_b, add_ii, sub_ii, mul_ii, mod_ii, fdiv_ii, pow_ii, isNon, biD, intD_i, intD_b, esLen, beq_self_eq_true, ixD_tup, lsOf_new, seqD_tup, seqD_fl, slD_tup, bools, Option.map_some, true_and, ixD_fl, lenD_tup, lenD_fl, ix30, ix31, ix32, at20, at21, at30, at31, at32, List.filterMap_cons, List.filterMap_nil]
  have hlen : sqOf S1 (.ref p) = some xs := by show lstAt S1 p = _; exact lstAt_eq e1
  simp only [lenD, hlen, l1, wpSs, wpS, wpE, wpEs, wpC, wpAnd, wpOr, wpO, wpIt, opt_some, onI_int, onB_bl, onR_ref, arg1_one, look, joinO, start, List.map_cons, List.map_nil, List.length_cons, List.length_nil, List.replicate, List.cons_append, List.nil_append, List.append_nil, List.getElem?_cons_succ, List.getElem?_cons_zero, kcD, Nat.reduceAdd, Nat.reduceSub, br_t, br_f, br_n, asg, setAll, List.set_cons_succ, List.set_cons_zero, tgs, wipe, eq_ii, ne_ii, lt_ii, le_ii, gt_ii, ge_ii, is_n, isn_n, is_b, isn_b, add_ii, sub_ii, mul_ii, mod_ii, fdiv_ii, pow_ii, isNon, biD, intD_i, intD_b, esLen, beq_self_eq_true, ixD_tup, lsOf_new, seqD_tup, seqD_fl, slD_tup, bools, Option.map_some, true_and, ixD_fl, lenD_tup, lenD_fl, ix30, ix31, ix32, at20, at21, at30, at31, at32, List.filterMap_cons, List.filterMap_nil]
  refine ⟨by decide, by decide, by decide, by decide, ?_⟩
  refine rng_ok (fun _ ρ S' => ∃ o2 o5 o6 o9, ρ = [some (.fl (ns.map .int)), some (.ref p), o2, none, none, o5, o6, none, none, o9] ∧ Ext S1 S') ⟨_, _, _, _, rfl, Ext.refl⟩ ?_ ?_
  · rintro i ρ S2 nx' hlt ⟨o2, o5, o6, o9, rfl, x2⟩ hnx
    refine ⟨trivial, ?_⟩
    have hi : i < 23 := by omega
    rw [show (0 : Int) + (i : Int) = (i : Int) by omega]
    try simp only [wpSs, wpS, wpE, wpEs, wpC, wpAnd, wpOr, wpO, wpIt, opt_some, onI_int, onB_bl, onR_ref, arg1_one, look, joinO, start, List.map_cons, List.map_nil, List.length_cons, List.length_nil, List.replicate, List.cons_append, List.nil_append, List.append_nil, List.getElem?_cons_succ, List.getElem?_cons_zero, kcD, Nat.reduceAdd, Nat.reduceSub, br_t, br_f, br_n, asg, setAll, List.set_cons_succ, List.set_cons_zero, tgs, wipe, eq_ii, ne_ii, lt_ii, le_ii, gt_ii, ge_ii, is_n, isn_n, is_b, isn_b, add_ii, sub_ii, mul_ii, mod_ii, fdiv_ii, pow_ii, isNon, biD, intD_i, intD_b, esLen, beq_self_eq_true, ixD_tup, lsOf_new, seqD_tup, seqD_fl, slD_tup, bools, Option.map_some, true_and, ixD_fl, lenD_tup, lenD_fl, ix30, ix31, ix32, at20, at21, at30, at31, at32, List.filterMap_cons, List.filterMap_nil]
    subst hB
    exact law_one hx h2 hi l1 hxs (x2 _ _ e1) fun S' o5 o6 o9 x3 => hnx _ _ ⟨_, _, _, _, rfl, x2.trans x3⟩
  · rintro ρ S2 ⟨o2, o5, o6, o9, rfl, x2⟩
    refine ⟨trivial, ?_⟩
    subst hA
    simp only [law_A0, law_S1]
    generalize hA1 : law_A1 = A1
    generalize hB1 : law_B1 = bo1
    simp only [wpSs, wpS, wpE, wpEs, wpC, wpAnd, wpOr, wpO, wpIt, opt_some, onI_int, onB_bl, onR_ref, arg1_one, look, joinO, start, List.map_cons, List.map_nil, List.length_cons, List.length_nil, List.replicate, List.cons_append, List.nil_append, List.append_nil, List.getElem?_cons_succ, List.getElem?_cons_zero, kcD, Nat.reduceAdd, Nat.reduceSub, br_t, br_f, br_n, asg, setAll, List.set_cons_succ, List.set_cons_zero, tgs, wipe, eq_ii, ne_ii, lt_ii, le_ii, gt_ii, ge_ii, is_n, isn_n, is_b, isn_b, add_ii, sub_ii, mul_ii, mod_ii, fdiv_ii, pow_ii, isNon, biD, intD_i, intD_b, esLen, beq_self_eq_true, ixD_tup, lsOf_new, seqD_tup, seqD_fl, slD_tup, bools, Option.map_some, true_and, ixD_fl, lenD_tup, lenD_fl, ix30, ix31, ix32, at20, at21, at30, at31, at32, List.filterMap_cons, List.filterMap_nil, List.length_map]
    have hn : ∀ c : Int, 0 ≤ c → c ≤ 63 → (if (if c < 4 then c else 4) > 1 then (if c < 4 then c else 4) else 1) ≤ 4 ∧ 1 ≤ (if (if c < 4 then c else 4) > 1 then (if c < 4 then c else 4) else 1) := fun c h0 h1 => by split <;> (try split) <;> omega
    obtain ⟨hj, hj0⟩ := hn ns.length (by omega) (by omega)
    generalize (if (if ((ns.length : Nat) : Int) < 4 then ((ns.length : Nat) : Int) else 4) > 1 then (if ((ns.length : Nat) : Int) < 4 then ((ns.length : Nat) : Int) else 4) else 1) = j at *
    refine ⟨by omega, by omega, by omega, by omega, ?_⟩
    refine rng_ok (fun _ ρ S' => ∃ o2 o3 o5 o6 o7 o8 o9, ρ = [some (.fl (ns.map .int)), some (.ref p), o2, o3, none, o5, o6, o7, o8, o9]) ⟨_, _, _, _, _, _, _, rfl⟩ ?_ ?_
    · rintro i ρ S3 nx' hlt ⟨o2, o3, o5, o6, o7, o8, o9, rfl⟩ hnx
      refine ⟨trivial, ?_⟩
      have hi : (0 : Int) + (i : Int) < 4 := by omega
      have hi0 : (0 : Int) ≤ 0 + (i : Int) := by omega
      generalize (0 : Int) + (i : Int) = I at *
      subst hB1
      simp only [law_B1, wpSs, wpS, wpE, wpEs, wpC, wpAnd, wpOr, wpO, wpIt, opt_some, onI_int, onB_bl, onR_ref, arg1_one, look, joinO, start, List.map_cons, List.map_nil, List.length_cons, List.length_nil, List.replicate, List.cons_append, List.nil_append, List.append_nil, List.getElem?_cons_succ, List.getElem?_cons_zero, kcD, Nat.reduceAdd, Nat.reduceSub, br_t, br_f, br_n, asg, setAll, List.set_cons_succ, List.set_cons_zero, tgs, wipe, eq_ii, ne_ii, lt_ii, le_ii, gt_ii, ge_ii, is_n, isn_n, is_b, isn_b, add_ii, sub_ii, mul_ii, mod_ii, fdiv_ii, pow_ii, isNon, biD, intD_i, intD_b, esLen, beq_self_eq_true, ixD_tup, lsOf_new, seqD_tup, seqD_fl, slD_tup, bools, Option.map_some, true_and, ixD_fl, lenD_tup, lenD_fl, ix30, ix31, ix32, at20, at21, at30, at31, at32, List.filterMap_cons, List.filterMap_nil]
      refine call h0 ⟨ns, I, rfl, hi0, by omega, fun w hp S4 x4 hw => ?_⟩
      try simp only [wpSs, wpS, wpE, wpEs, wpC, wpAnd, wpOr, wpO, wpIt, opt_some, onI_int, onB_bl, onR_ref, arg1_one, look, joinO, start, List.map_cons, List.map_nil, List.length_cons, List.length_nil, List.replicate, List.cons_append, List.nil_append, List.append_nil, List.getElem?_cons_succ, List.getElem?_cons_zero, kcD, Nat.reduceAdd, Nat.reduceSub, br_t, br_f, br_n, asg, setAll, List.set_cons_succ, List.set_cons_zero, tgs, wipe, eq_ii, ne_ii, lt_ii, le_ii, gt_ii, ge_ii, is_n, isn_n, is_b, isn_b, add_ii, sub_ii, mul_ii, mod_ii, fdiv_ii, pow_ii, isNon, biD, intD_i, intD_b, esLen, beq_self_eq_true, ixD_tup, lsOf_new, seqD_tup, seqD_fl, slD_tup, bools, Option.map_some, true_and, ixD_fl, lenD_tup, lenD_fl, ix30, ix31, ix32, at20, at21, at30, at31, at32, List.filterMap_cons, List.filterMap_nil]
      refine ⟨sm_of 8 (by decide) (by decide), by decide, by decide, ?_⟩
      refine call h1 ⟨w, _, 0, rfl, by decide, by decide, hw, by decide, fun d S5 d0 d1 w5 k5 => ?_⟩
      try simp only [wpSs, wpS, wpE, wpEs, wpC, wpAnd, wpOr, wpO, wpIt, opt_some, onI_int, onB_bl, onR_ref, arg1_one, look, joinO, start, List.map_cons, List.map_nil, List.length_cons, List.length_nil, List.replicate, List.cons_append, List.nil_append, List.append_nil, List.getElem?_cons_succ, List.getElem?_cons_zero, kcD, Nat.reduceAdd, Nat.reduceSub, br_t, br_f, br_n, asg, setAll, List.set_cons_succ, List.set_cons_zero, tgs, wipe, eq_ii, ne_ii, lt_ii, le_ii, gt_ii, ge_ii, is_n, isn_n, is_b, isn_b, add_ii, sub_ii, mul_ii, mod_ii, fdiv_ii, pow_ii, isNon, biD, intD_i, intD_b, esLen, beq_self_eq_true, ixD_tup, lsOf_new, seqD_tup, seqD_fl, slD_tup, bools, Option.map_some, true_and, ixD_fl, lenD_tup, lenD_fl, ix30, ix31, ix32, at20, at21, at30, at31, at32, List.filterMap_cons, List.filterMap_nil]
      intro C1 hC1 a1
      refine ⟨rfl, ⟨_, hC1⟩, ?_⟩
      intro C2 hC2 a2
      refine ⟨rfl, ⟨_, hC2⟩, ?_⟩
      refine mkL_ok (by simp) fun p1 hp1 => ?_
      refine mkL_ok (by simp) fun p2 hp2 => ?_
      refine ne_two (d := .int d) (fun n => .inl rfl) (fun n => .inl (by show (d == d) = true; exact beq_self_eq_true d)) ((Ext.new hp2) _ _ upd_at) upd_at ?_
      refine br_f.mpr ?_
      refine ⟨len_lim (by simp), ?_⟩
      intro C3 hC3 a3
      refine ⟨rfl, ⟨_, hC3⟩, ?_⟩
      refine ⟨len_lim (by simp), ?_⟩
      intro C4 hC4 a4
      refine ⟨rfl, ⟨_, hC4⟩, ?_⟩
      refine mkL_ok (by simp) fun p3 hp3 => ?_
      refine ⟨len_lim (by simp), ?_⟩
      refine mkL_ok (by simp) fun p4 hp4 => ?_
      show opt (lstAt _ p4) fun xs => 0 ≤ (2 : Int) ∧ (2 : Int) < 1000 ∧ mkL _ _ _
      rw [lstAt_eq upd_at]
      refine ⟨by decide, by decide, mkL_ok (by simp) fun p5 hp5 => ?_⟩
      refine ne_two (d := .tup [.int d, .int 1]) (fun n => ?_) (fun n => ?_) ((Ext.new hp5) _ _ ((Ext.new hp4) _ _ upd_at)) upd_at ?_
      · cases n with
        | zero => exact .inr (by decide)
        | succ n => exact .inl rfl
      · cases n with
        | zero => exact .inr (by decide)
        | succ n =>
          refine .inl ?_
          show ((d == d) && (((1 : Int) == 1) && true)) = true
          rw [beq_self_eq_true]; rfl
      refine br_f.mpr ?_
      exact hnx _ _ ⟨_, _, _, _, _, _, _, rfl⟩
    · rintro ρ S3 ⟨o2, o3, o5, o6, o7, o8, o9, rfl⟩
      refine ⟨trivial, ?_⟩
      subst hA1
      simp only [law_A1, wpSs, wpS, wpE, wpEs, wpC, wpAnd, wpOr, wpO, wpIt, opt_some, onI_int, onB_bl, onR_ref, arg1_one, look, joinO, start, List.map_cons, List.map_nil, List.length_cons, List.length_nil, List.replicate, List.cons_append, List.nil_append, List.append_nil, List.getElem?_cons_succ, List.getElem?_cons_zero, kcD, Nat.reduceAdd, Nat.reduceSub, br_t, br_f, br_n, asg, setAll, List.set_cons_succ, List.set_cons_zero, tgs, wipe, eq_ii, ne_ii, lt_ii, le_ii, gt_ii, ge_ii, is_n, isn_n, is_b, isn_b, add_ii, sub_ii, mul_ii, mod_ii, fdiv_ii, pow_ii, isNon, biD, intD_i, intD_b, esLen, beq_self_eq_true, ixD_tup, lsOf_new, seqD_tup, seqD_fl, slD_tup, bools, Option.map_some, true_and, ixD_fl, lenD_tup, lenD_fl, ix30, ix31, ix32, at20, at21, at30, at31, at32, List.filterMap_cons, List.filterMap_nil]
      intro C hC a
      refine call h2 ⟨23, C, _, rfl, hC, fun p2 S4 x4 e4 => ?_⟩
      dsimp only
      rw [lsOf_ref e4]
      rw [opt_some, base_marks, opt_some]
      refine br_f.mpr ?_
      refine isx_ok (Q := fun b => Q (.bl b) S4) hx hC ?_
      rw [(sub_se 23 (by decide)).2]
      exact hq S4
theorem no_body {G : Gm} {ds : List D} {S0 : Sto} {Q : VK} {X : XK} {b c : Ss} {n m : Nat} (hb' : b = c) (h : False) : ds.length = n ∧ wpSs G b (start m ds) S0 (kR Q X) := h.elim
end M
namespace K43.A
/-- _law_well: script, at, cell -/
def b0 : M.Ss := (.cons (.set (.v 2) (.ite (.cmp .lt (.v 1) (.bi .len (.cons (.v 0) .nil))) (.ix (.v 0) (.v 1)) (.k (.int 0)))) (.cons (.ret (.lst (.cons (.bi .max (.cons (.k (.int 0)) (.cons (.bin .sub (.bi .abs (.cons (.v 2) .nil)) (.bin .pow (.k (.int 10)) (.k (.int 18)))) .nil))) (.cons (.bin .add (.bin .add (.bin .mul (.bin .mod (.bi .int (.cons (.v 2) .nil)) (.bin .add (.bin .pow (.k (.int 10)) (.k (.int 37))) (.k (.int 151)))) (.k (.int 103))) (.bin .mul (.k (.int 71)) (.v 1))) (.k (.int 43))) (.cons (.k (.int 0)) .nil))))) .nil))
/-- _law_draw: well, most, blend, digit -/
def b1 : M.Ss := (.cons (.if_ (.cmp .gt (.ix (.v 0) (.k (.int 0))) (.k (.int 0))) (.cons (.set (.v 3) (.bin .mod (.bi .int (.cons (.ix (.v 0) (.k (.int 0))) .nil)) (.v 1))) (.cons (.six (.v 0) (.k (.int 0)) (.bin .fdiv (.ix (.v 0) (.k (.int 0))) (.v 1))) (.cons (.ret (.v 3)) .nil))) .nil) (.cons (.six (.v 0) (.k (.int 2)) (.bin .add (.ix (.v 0) (.k (.int 2))) (.k (.int 1)))) (.cons (.set (.v 2) (.bin .mod (.bin .pow (.bi .int (.cons (.bin .add (.ix (.v 0) (.k (.int 1))) (.bin .mul (.k (.int 961748941)) (.ix (.v 0) (.k (.int 2))))) .nil)) (.k (.int 3))) (.bin .add (.bin .pow (.k (.int 10)) (.k (.int 41))) (.k (.int 109))))) (.cons (.set (.v 2) (.bin .mod (.bin .pow (.bi .int (.cons (.bin .add (.v 2) (.bin .mul (.k (.int 217645199)) (.ix (.v 0) (.k (.int 2))))) .nil)) (.k (.int 3))) (.bin .add (.bin .pow (.k (.int 10)) (.k (.int 39))) (.k (.int 3))))) (.cons (.ret (.bin .mod (.bi .int (.cons (.bin .fdiv (.v 2) (.k (.int 1048576))) .nil)) (.v 1))) .nil)))))
/-- _law_marks: one, marks -/
def b2 : M.Ss := (.cons (.set (.v 1) (.lst .nil)) (.cons (.set (.v 1) (.bin .add (.v 1) (.lst (.cons (.isx (.v 0) [0]) (.cons (.isx (.v 0) [1]) .nil))))) (.cons (.set (.v 1) (.bin .add (.v 1) (.lst (.cons (.isx (.v 0) [2]) (.cons (.isx (.v 0) [3]) .nil))))) (.cons (.set (.v 1) (.bin .add (.v 1) (.lst (.cons (.isx (.v 0) [4]) (.cons (.isx (.v 0) [5]) .nil))))) (.cons (.set (.v 1) (.bin .add (.v 1) (.lst (.cons (.isx (.v 0) [6]) (.cons (.isx (.v 0) [7]) .nil))))) (.cons (.set (.v 1) (.bin .add (.v 1) (.lst (.cons (.isx (.v 0) [8]) (.cons (.isx (.v 0) [9]) .nil))))) (.cons (.set (.v 1) (.bin .add (.v 1) (.lst (.cons (.isx (.v 0) [10]) (.cons (.isx (.v 0) [11]) .nil))))) (.cons (.set (.v 1) (.bin .add (.v 1) (.lst (.cons (.isx (.v 0) [12]) (.cons (.isx (.v 0) [13]) .nil))))) (.cons (.set (.v 1) (.bin .add (.v 1) (.lst (.cons (.isx (.v 0) [14]) (.cons (.isx (.v 0) [15]) .nil))))) (.cons (.set (.v 1) (.bin .add (.v 1) (.lst (.cons (.isx (.v 0) [16]) (.cons (.isx (.v 0) [17]) .nil))))) (.cons (.set (.v 1) (.bin .add (.v 1) (.lst (.cons (.isx (.v 0) [18]) (.cons (.isx (.v 0) [19]) .nil))))) (.cons (.set (.v 1) (.bin .add (.v 1) (.lst (.cons (.isx (.v 0) [20]) (.cons (.isx (.v 0) [21]) .nil))))) (.cons (.set (.v 1) (.bin .add (.v 1) (.lst (.cons (.isx (.v 0) [22]) .nil)))) (.cons (.ret (.v 1)) .nil))))))))))))))
/-- _law_made: made -/
def b3 : M.Ss := (.cons (.set (.v 0) (.lst .nil)) (.cons (.set (.v 0) (.bin .add (.v 0) (.lst (.cons (.xnew0 0) (.cons (.xnew 1 [116, 105, 109, 101] false (.tup (.cons (.k (.int 3)) (.cons (.k (.int 2)) .nil)))) (.cons (.xnew0 2) (.cons (.xnew0 3) .nil))))))) (.cons (.set (.v 0) (.bin .add (.v 0) (.lst (.cons (.xnew0 4) (.cons (.xnew0 5) (.cons (.xnew0 6) (.cons (.xnew0 7) .nil))))))) (.cons (.set (.v 0) (.bin .add (.v 0) (.lst (.cons (.xnew0 8) (.cons (.xnew0 9) (.cons (.xnew0 10) (.cons (.xnew0 11) .nil))))))) (.cons (.set (.v 0) (.bin .add (.v 0) (.lst (.cons (.xnew0 12) (.cons (.xnew0 13) (.cons (.xnew0 14) (.cons (.xnew0 15) .nil))))))) (.cons (.set (.v 0) (.bin .add (.v 0) (.lst (.cons (.xnew0 16) (.cons (.xnew0 17) (.cons (.xnew0 18) (.cons (.xnew0 19) .nil))))))) (.cons (.set (.v 0) (.bin .add (.v 0) (.lst (.cons (.xnew0 20) (.cons (.xnew0 21) (.cons (.xnew 22 [99, 111, 117, 110, 116] true (.k (.int 7))) .nil)))))) (.cons (.ret (.v 0)) .nil))))))))
/-- law: script, made, k, at, base, one, due, well, size, j -/
def b4 : M.Ss := (.cons (.set (.v 1) (.call 3 .nil)) (.cons (.for_ (.v 2) (.rng (.bi .len (.cons (.v 1) .nil))) (.cons (.set (.v 5) (.ix (.v 1) (.v 2))) (.cons (.set (.v 6) (.comp (.cmp .eq (.v 9) (.v 2)) (.v 9) (.rng (.bi .len (.cons (.v 1) .nil))) .none)) (.cons (.if_ (.or (.cmp .ne (.call 2 (.cons (.v 5) .nil)) (.v 6)) (.cons (.not (.isx (.v 5) [23])) .nil)) (.cons (.ret (.k (.bl false))) .nil) .nil) (.cons (.if_ (.not (.isx (.v 5) [24])) (.cons (.ret (.k (.bl false))) .nil) .nil) .nil))))) (.cons (.for_ (.v 3) (.rng (.bi .max (.cons (.k (.int 1)) (.cons (.bi .min (.cons (.k (.int 4)) (.cons (.bi .len (.cons (.v 0) .nil)) .nil))) .nil)))) (.cons (.set (.v 7) (.call 0 (.cons (.v 0) (.cons (.v 3) .nil)))) (.cons (.set (.v 8) (.call 1 (.cons (.v 7) (.cons (.bin .pow (.k (.int 10)) (.k (.int 20))) .nil)))) (.cons (.if_ (.cmp .ne (.lst (.cons (.xfld (.xnew 22 [99, 111, 117, 110, 116] false (.v 8)) [99, 111, 117, 110, 116]) (.cons (.xfld (.xnew 22 [99, 111, 117, 110, 116] true (.v 8)) [99, 111, 117, 110, 116]) .nil))) (.lst (.cons (.v 8) (.cons (.v 8) .nil)))) (.cons (.ret (.k (.bl false))) .nil) .nil) (.cons (.if_ (.cmp .ne (.lst (.cons (.xfld (.xnew 1 [116, 105, 109, 101] false (.tup (.cons (.v 8) (.cons (.k (.int 1)) .nil)))) [116, 105, 109, 101]) (.cons (.xfld (.xnew 1 [116, 105, 109, 101] true (.tup (.cons (.v 8) (.cons (.k (.int 1)) .nil)))) [116, 105, 109, 101]) .nil))) (.bin .mul (.lst (.cons (.tup (.cons (.v 8) (.cons (.k (.int 1)) .nil))) .nil)) (.k (.int 2)))) (.cons (.ret (.k (.bl false))) .nil) .nil) .nil))))) (.cons (.set (.v 4) (.xnew0 23)) (.cons (.ret (.and (.not (.bi .any (.cons (.call 2 (.cons (.v 4) .nil)) .nil))) (.cons (.isx (.v 4) [24]) .nil))) .nil)))))
def ncls : Nat := 24
def ancs : List (List Nat) := [[0, 23, 24], [1, 23, 24], [2, 23, 24], [3, 23, 24], [4, 23, 24], [5, 23, 24], [6, 23, 24], [7, 23, 24], [8, 23, 24], [9, 23, 24], [10, 23, 24], [11, 23, 24], [12, 23, 24], [13, 23, 24], [14, 23, 24], [15, 23, 24], [16, 23, 24], [17, 23, 24], [18, 23, 24], [19, 23, 24], [20, 23, 24], [21, 23, 24], [22, 23, 24], [23, 24]]
def sub (i j : Nat) : Bool := (ancs.getD i []).contains j
def mtb : List ((Nat × M.Tx) × Nat) := []
def mt (k : Nat) (m : M.Tx) : Option Nat := mtb.lookup (k, m)
def os (i j : Nat) : Bool := i == j
def nob : Nat := 0
def con : Nat → M.D
  | _ => .non
end K43.A
namespace K43.P
open M
def sp (adr : Nat → Option Nat) : Nat → M.Sp
  | 0 => spWell | 1 => spDraw | 2 => spMks adr | 3 => spMd adr | 4 => spLaw
  | _ => fun _ _ _ _ => False
def con := A.con
theorem body0 (G : M.Gm) (hG : G.fn = M.upto 0 (sp G.adr)) (hc : G.con = con) (hx : M.GX A.ncls A.sub G) (ho : M.GO A.nob A.mt A.os G) : ∀ ds S0 Q X, (sp G.adr) 0 ds S0 Q X → ds.length = 2 ∧ M.wpSs G A.b0 (M.start 3 ds) S0 ⟨fun _ S' => Q .non S', Q, fun _ _ => False, fun k fs _ S' => X k fs S'⟩ := fun ds S0 Q X h => txt_well (b := A.b0) rfl  h
theorem body1 (G : M.Gm) (hG : G.fn = M.upto 1 (sp G.adr)) (hc : G.con = con) (hx : M.GX A.ncls A.sub G) (ho : M.GO A.nob A.mt A.os G) : ∀ ds S0 Q X, (sp G.adr) 1 ds S0 Q X → ds.length = 2 ∧ M.wpSs G A.b1 (M.start 4 ds) S0 ⟨fun _ S' => Q .non S', Q, fun _ _ => False, fun k fs _ S' => X k fs S'⟩ := fun ds S0 Q X h => txt_draw (b := A.b1) rfl  h
theorem body2 (G : M.Gm) (hG : G.fn = M.upto 2 (sp G.adr)) (hc : G.con = con) (hx : M.GX A.ncls A.sub G) (ho : M.GO A.nob A.mt A.os G) : ∀ ds S0 Q X, (sp G.adr) 2 ds S0 Q X → ds.length = 1 ∧ M.wpSs G A.b2 (M.start 2 ds) S0 ⟨fun _ S' => Q .non S', Q, fun _ _ => False, fun k fs _ S' => X k fs S'⟩ := fun ds S0 Q X h => txt_mks (b := A.b2) rfl hx h
theorem body3 (G : M.Gm) (hG : G.fn = M.upto 3 (sp G.adr)) (hc : G.con = con) (hx : M.GX A.ncls A.sub G) (ho : M.GO A.nob A.mt A.os G) : ∀ ds S0 Q X, (sp G.adr) 3 ds S0 Q X → ds.length = 0 ∧ M.wpSs G A.b3 (M.start 1 ds) S0 ⟨fun _ S' => Q .non S', Q, fun _ _ => False, fun k fs _ S' => X k fs S'⟩ := fun ds S0 Q X h => txt_md (b := A.b3) rfl  h
theorem body4 (G : M.Gm) (hG : G.fn = M.upto 4 (sp G.adr)) (hc : G.con = con) (hx : M.GX A.ncls A.sub G) (ho : M.GO A.nob A.mt A.os G) : ∀ ds S0 Q X, (sp G.adr) 4 ds S0 Q X → ds.length = 1 ∧ M.wpSs G A.b4 (M.start 10 ds) S0 ⟨fun _ S' => Q .non S', Q, fun _ _ => False, fun k fs _ S' => X k fs S'⟩ := fun ds S0 Q X h => law_ok (b := A.b4) rfl hx ((upto_at hG (by decide)).trans (rfl : (sp G.adr) 0 = _)) ((upto_at hG (by decide)).trans (rfl : (sp G.adr) 1 = _)) ((upto_at hG (by decide)).trans (rfl : (sp G.adr) 2 = _)) ((upto_at hG (by decide)).trans (rfl : (sp G.adr) 3 = _)) h
end K43.P
namespace K43
open PySem PySem.Spec PyProof.Rows L2
abbrev pw : Program := PySem.Challenge.pw_cushionshots_k43_error_classes
def top (i : Nat) : Stmt := pw.main.body.getD i (.Pass ⟨0, 0, 0, 0⟩)
def mth (i j : Nat) : Stmt := match top i with
  | .ClassDef _ _ _ b _ _ _ _ _ _ _ => b.getD j (.Pass ⟨0, 0, 0, 0⟩)
  | s => s
def T : Snd.Tb := { fns := ["_law_well", "_law_draw", "_law_marks", "_law_made", "law"], cons := [], cls := ["AlwaysTogether", "BallsMeet", "InvalidBall", "InvalidBox", "InvalidChange", "InvalidCushion", "InvalidCushions", "InvalidIndex", "InvalidNumber", "InvalidPockets", "InvalidShot", "InvalidShots", "InvalidSide", "InvalidSpot", "InvalidStretch", "InvalidStretches", "InvalidTable", "InvalidText", "InvalidTime", "NotABall", "NothingToUndo", "OtherTable", "TooMany", "ShotError"], bts := ["ValueError", "abs", "any", "int", "isinstance", "len", "max", "min", "range", "super"], kws := [], nr := 24, hots := [], ocs := [], fds := [], prs := [], ats := [], xns := [[99, 111, 117, 110, 116], [116, 105, 109, 101]], xin := [(1, [116, 105, 109, 101]), (22, [99, 111, 117, 110, 116])], mtb := A.mtb, sts := [], dfl := [] }
def n0 : List Str := ["script", "at", "cell"]
theorem ck0 : Snd.chkSs { T with hot := T.hots.contains 0 } n0 A.b0 (defScope (top 26)) (defBody (top 26)) = true := by kernel_rfl
def n1 : List Str := ["well", "most", "blend", "digit"]
theorem ck1 : Snd.chkSs { T with hot := T.hots.contains 1 } n1 A.b1 (defScope (top 27)) (defBody (top 27)) = true := by kernel_rfl
def n2 : List Str := ["one", "marks"]
theorem ck2 : Snd.chkSs { T with hot := T.hots.contains 2 } n2 A.b2 (defScope (top 28)) (defBody (top 28)) = true := by kernel_rfl
def n3 : List Str := ["made"]
theorem ck3 : Snd.chkSs { T with hot := T.hots.contains 3 } n3 A.b3 (defScope (top 29)) (defBody (top 29)) = true := by kernel_rfl
def n4 : List Str := ["script", "made", "k", "at", "base", "one", "due", "well", "size", "j"]
theorem ck4 : Snd.chkSs { T with hot := T.hots.contains 4 } n4 A.b4 (defScope (top 30)) (defBody (top 30)) = true := by kernel_rfl
def dd (x : Str) (i : Nat) : He.DefD := ⟨(x, none), x, x, defArgs (top i), defBody (top i), defScope (top i), [], []⟩
def fnl : List He.DefD := [dd "_law_well" 26, dd "_law_draw" 27, dd "_law_marks" 28, dd "_law_made" 29, dd "law" 30]
def mfile : Str := pw.main.file
def fol : List Snd.DefO := [(⟨.mt "BallsMeet" "__init__", "__init__", "BallsMeet.__init__", defArgs (mth 23 0), defBody (mth 23 0), defScope (mth 23 0), [], true, mfile⟩ : Snd.DefO), (⟨.mt "TooMany" "__init__", "__init__", "TooMany.__init__", defArgs (mth 24 0), defBody (mth 24 0), defScope (mth 24 0), [], true, mfile⟩ : Snd.DefO)]
def fal : List He.Fa := [.glo "_law_well", .glo "_law_draw", .glo "_law_marks", .glo "_law_made", .glo "law", .free "ValueError", .free "abs", .free "any", .free "int", .free "isinstance", .free "len", .free "max", .free "min", .free "range", .free "super"]
def loose0 : List Str := ["ShotError", "InvalidTable", "InvalidShot", "InvalidSide", "InvalidTime", "InvalidNumber", "InvalidIndex", "InvalidCushion", "InvalidSpot", "InvalidBox", "InvalidStretch", "InvalidStretches", "InvalidPockets", "InvalidCushions", "InvalidShots", "InvalidBall", "InvalidText", "InvalidChange", "AlwaysTogether", "NotABall"]
def loose1 : List Str := ["OtherTable", "NothingToUndo", "BallsMeet", "TooMany", "_law_well", "_law_draw", "_law_marks", "_law_made"]
def loose : List Str := loose0 ++ loose1
abbrev rowL : PySem.W.OpenRow := PySem.W.OpenLaw.row PySem.Challenge.rw_cushionshots_k43_error_classes
def cl : List (Str × M.D) := []
abbrev hk : PySem.W.Hook := Snd.hookO cl T A.sub A.os fal fnl fol
def ob (s : PySem.W.SharedT) : He.AlD := Snd.obsO cl T A.sub A.os fal fnl fol (He.frG (HandSHeadRun.getT s) (Snd.asO (Snd.ocx T) (HandSHeadRun.getT s)))
theorem ob_eq (s : PySem.W.SharedT) : ob s = hk.obs s.abs := Snd.obsO_eq (HandSHeadRun.getT_eq s)
theorem run (w : World) : HandSHeadRun.RunEq rowL (PySem.W.view rowL.prog [30]) hk ob 12000 loose w := by
  intro os
  kernel_rfl
theorem sc0 : FnScope n0 ["script", "at"] (defScope (top 26)) := ⟨rfl, rfl, rfl, by decide +kernel, rfl, by decide +kernel, by decide +kernel⟩
theorem sc1 : FnScope n1 ["well", "most"] (defScope (top 27)) := ⟨rfl, rfl, rfl, by decide +kernel, rfl, by decide +kernel, by decide +kernel⟩
theorem sc2 : FnScope n2 ["one"] (defScope (top 28)) := ⟨rfl, rfl, rfl, by decide +kernel, rfl, by decide +kernel, by decide +kernel⟩
theorem sc3 : FnScope n3 [] (defScope (top 29)) := ⟨rfl, rfl, rfl, by decide +kernel, rfl, by decide +kernel, by decide +kernel⟩
theorem sc4 : FnScope n4 ["script"] (defScope (top 30)) := ⟨rfl, rfl, rfl, by decide +kernel, rfl, by decide +kernel, by decide +kernel⟩
section
variable {Pg : Program} {w : World} {K : PySem.W.Frag} {mg : Str → Option Value} {base : Heap}
abbrev Fn (K : PySem.W.Frag) (x : Str) (i : Nat) (fd : FuncData) : Prop := FunD K x x (defArgs (top i)) (defBody (top i)) (defScope (top i)) [] [] (He.ga K x) fd
theorem df0 {fd : FuncData} (F : Fn K "_law_well" 26 fd) (g : mg "_law_well" = some (.ref (He.ga K "_law_well"))) : Snd.Def K mg T 0 "_law_well" (He.ga K "_law_well") fd ["script", "at"] := ⟨fun _ => g, fun q h => (by have z : T.ats.lookup 0 = none := rfl; rw [z] at h; cases h), F.kp, fun _ => F.bindsN fun _ _ _ _ _ _ us hl => match us, hl with | [_, _], _ => rfl, (fun m ks perm h => by cases h), (fun cs h => by cases h), fun h => by
    have z : T.sts.contains 0 = false := rfl
    rw [z] at h
    cases h⟩
theorem df1 {fd : FuncData} (F : Fn K "_law_draw" 27 fd) (g : mg "_law_draw" = some (.ref (He.ga K "_law_draw"))) : Snd.Def K mg T 1 "_law_draw" (He.ga K "_law_draw") fd ["well", "most"] := ⟨fun _ => g, fun q h => (by have z : T.ats.lookup 1 = none := rfl; rw [z] at h; cases h), F.kp, fun _ => F.bindsN fun _ _ _ _ _ _ us hl => match us, hl with | [_, _], _ => rfl, (fun m ks perm h => by cases h), (fun cs h => by cases h), fun h => by
    have z : T.sts.contains 1 = false := rfl
    rw [z] at h
    cases h⟩
theorem df2 {fd : FuncData} (F : Fn K "_law_marks" 28 fd) (g : mg "_law_marks" = some (.ref (He.ga K "_law_marks"))) : Snd.Def K mg T 2 "_law_marks" (He.ga K "_law_marks") fd ["one"] := ⟨fun _ => g, fun q h => (by have z : T.ats.lookup 2 = none := rfl; rw [z] at h; cases h), F.kp, fun _ => F.bindsN fun _ _ _ _ _ _ us hl => match us, hl with | [_], _ => rfl, (fun m ks perm h => by cases h), (fun cs h => by cases h), fun h => by
    have z : T.sts.contains 2 = false := rfl
    rw [z] at h
    cases h⟩
theorem df3 {fd : FuncData} (F : Fn K "_law_made" 29 fd) (g : mg "_law_made" = some (.ref (He.ga K "_law_made"))) : Snd.Def K mg T 3 "_law_made" (He.ga K "_law_made") fd [] := ⟨fun _ => g, fun q h => (by have z : T.ats.lookup 3 = none := rfl; rw [z] at h; cases h), F.kp, fun _ => F.bindsN fun _ _ _ _ _ _ us hl => match us, hl with | [], _ => rfl, (fun m ks perm h => by cases h), (fun cs h => by cases h), fun h => by
    have z : T.sts.contains 3 = false := rfl
    rw [z] at h
    cases h⟩
theorem df4 {fd : FuncData} (F : Fn K "law" 30 fd) (g : mg "law" = some (.ref (He.ga K "law"))) : Snd.Def K mg T 4 "law" (He.ga K "law") fd ["script"] := ⟨fun _ => g, fun q h => (by have z : T.ats.lookup 4 = none := rfl; rw [z] at h; cases h), F.kp, fun _ => F.bindsN fun _ _ _ _ _ _ us hl => match us, hl with | [_], _ => rfl, (fun m ks perm h => by cases h), (fun cs h => by cases h), fun h => by
    have z : T.sts.contains 4 = false := rfl
    rw [z] at h
    cases h⟩
theorem gx {G : M.Gm} {base : Heap} {k : Nat} (L : Snd.Law ⟨K, mg, T, G⟩ Pg w base k) (hs : G.sub = A.sub := by rfl) : M.GX A.ncls A.sub G := ⟨hs, fun j hj => by
  obtain ⟨C, _, e, _⟩ := L.er.at_ j _ (List.getElem?_eq_getElem (Nat.lt_of_lt_of_le (show j < T.nr from hj) (show T.nr ≤ T.cls.length by decide)))
  exact ⟨C, e hj⟩⟩
theorem go {G : M.Gm} {base : Heap} {k : Nat} (L : Snd.Law ⟨K, mg, T, G⟩ Pg w base k) (hm : G.mt = A.mt) (hs : G.os = A.os) : M.GO A.nob A.mt A.os G := ⟨hm, hs, fun k hk => by
  obtain ⟨C, _, e⟩ := L.oc.nm k _ (List.getElem?_eq_getElem (show k < T.ocs.length from hk))
  exact ⟨C, e⟩⟩
theorem xs0 : Snd.SupT ["self", "time"] ["self", "time"] (defArgs (mth 23 0)) (defScope (mth 23 0)) := ⟨rfl, rfl, rfl, by decide +kernel, rfl, by decide +kernel, by decide +kernel, by decide +kernel, ⟨_, rfl, rfl, by decide +kernel⟩, by decide +kernel, by decide +kernel⟩
theorem xb0 : Snd.xiB ["self", "time"] (defScope (mth 23 0)) (Snd.stx [116, 105, 109, 101]) (defBody (mth 23 0)) = true := by kernel_rfl
theorem xs1 : Snd.SupT ["self", "count"] ["self", "count"] (defArgs (mth 24 0)) (defScope (mth 24 0)) := ⟨rfl, rfl, rfl, by decide +kernel, rfl, by decide +kernel, by decide +kernel, by decide +kernel, ⟨_, rfl, rfl, by decide +kernel⟩, by decide +kernel, by decide +kernel⟩
theorem xb1 : Snd.xiB ["self", "count"] (defScope (mth 24 0)) (Snd.stx [99, 111, 117, 110, 116]) (defBody (mth 24 0)) = true := by kernel_rfl
/-- what the head tells -/
theorem all (h : Heap) (X : K.In h) (G : h.Ns mainGlobals mg) (c : He.SaysD fal fnl K) (cc : Snd.consK cl K = true) (sy : Snd.sysB K = true) (ee : Snd.exK T.cls T.nr A.sub K = true) (oo : Snd.objB K T A.os = true) (xx : Snd.xK K T = true) (mp : Snd.MainP Pg mfile) (cm : ∀ (i : Nat) (d : Snd.DefO), fol[i]? = some d → d.Got K) : Snd.Law ⟨K, mg, T, Snd.stage A.sub (Snd.adrs K T.cls T.nr) (Snd.objsOf K T A.os) (P.sp (Snd.adrs K T.cls T.nr)) P.con 4⟩ Pg w base 5 := by
  obtain ⟨fd0, F0⟩ := c.def_ 0 (d := dd "_law_well" 26) rfl
  obtain ⟨fd1, F1⟩ := c.def_ 1 (d := dd "_law_draw" 27) rfl
  obtain ⟨fd2, F2⟩ := c.def_ 2 (d := dd "_law_marks" 28) rfl
  obtain ⟨fd3, F3⟩ := c.def_ 3 (d := dd "_law_made" 29) rfl
  obtain ⟨fd4, F4⟩ := c.def_ 4 (d := dd "law" 30) rfl
  have bts : ∀ x ∈ T.bts, mg x = none := fun x hx => by
    unfold T at hx
    simp only [List.mem_cons, List.not_mem_nil, or_false] at hx
    rcases hx with rfl | rfl | rfl | rfl | rfl | rfl | rfl | rfl | rfl | rfl
    · exact He.free_ok X G (c.fact 5 (f := .free "ValueError") rfl)
    · exact He.free_ok X G (c.fact 6 (f := .free "abs") rfl)
    · exact He.free_ok X G (c.fact 7 (f := .free "any") rfl)
    · exact He.free_ok X G (c.fact 8 (f := .free "int") rfl)
    · exact He.free_ok X G (c.fact 9 (f := .free "isinstance") rfl)
    · exact He.free_ok X G (c.fact 10 (f := .free "len") rfl)
    · exact He.free_ok X G (c.fact 11 (f := .free "max") rfl)
    · exact He.free_ok X G (c.fact 12 (f := .free "min") rfl)
    · exact He.free_ok X G (c.fact 13 (f := .free "range") rfl)
    · exact He.free_ok X G (c.fact 14 (f := .free "super") rfl)
  obtain ⟨fdx0, Dx0, hDx0, Fx0⟩ := (cm 0 (⟨.mt "BallsMeet" "__init__", "__init__", "BallsMeet.__init__", defArgs (mth 23 0), defBody (mth 23 0), defScope (mth 23 0), [], true, mfile⟩ : Snd.DefO) rfl).plainS rfl rfl
  obtain ⟨fdx1, Dx1, hDx1, Fx1⟩ := (cm 1 (⟨.mt "TooMany" "__init__", "__init__", "TooMany.__init__", defArgs (mth 24 0), defBody (mth 24 0), defScope (mth 24 0), [], true, mfile⟩ : Snd.DefO) rfl).plainS rfl rfl
  have xi : ∀ cc n, (cc, n) ∈ T.xin → ∃ C, Snd.adrs K T.cls T.nr cc = some C ∧ Snd.XIn Pg w K mg base 1 C (Snd.stx n) := fun cc n h => by
    have h0 := h
    unfold T at h
    simp only [List.mem_cons, Prod.mk.injEq, List.not_mem_nil, or_false] at h
    rcases h with ⟨rfl, rfl⟩ | ⟨rfl, rfl⟩
    · exact Snd.xin_at (N := ["self", "time"]) (ps := ["self", "time"]) xx h0 rfl (by decide) Fx0 hDx0 xs0 mp rfl (bts _ (by decide +kernel)) xb0 ⟨Snd.bindsNS Fx0.b fun _ _ _ _ _ _ us hl => match us, hl with | [_, _], _ => rfl, Snd.kb_ofS Fx0.b fun _ _ _ _ _ _ us ws h1 h2 => match us, ws, h1, h2 with | [_], [_], _, _ => rfl⟩
    · exact Snd.xin_at (N := ["self", "count"]) (ps := ["self", "count"]) xx h0 rfl (by decide) Fx1 hDx1 xs1 mp rfl (bts _ (by decide +kernel)) xb1 ⟨Snd.bindsNS Fx1.b fun _ _ _ _ _ _ us hl => match us, hl with | [_, _], _ => rfl, Snd.kb_ofS Fx1.b fun _ _ _ _ _ _ us ws h1 h2 => match us, ws, h1, h2 with | [_], [_], _, _ => rfl⟩
  have cns : ∀ n x, T.cons[n]? = some x → ∃ u v, mg x = some u ∧ RelV v u ∧ ∀ H, Snd.RelD K H (P.con n) v := fun n x h => by
    match n, h with
    | k + 0, h => cases h
  refine Snd.chain (fun n => n + 1) (fun _ => 1) (fun m n h => by (try dsimp only); omega) (Snd.sysB_ok sy) (Snd.exK_ok X G rfl ee xx) (Snd.objB_ok (G := Snd.stage A.sub (Snd.adrs K T.cls T.nr) (Snd.objsOf K T A.os) (P.sp (Snd.adrs K T.cls T.nr)) P.con 0) (os := A.os) X G rfl rfl rfl oo) bts xi (fun _ n => by (try dsimp only); omega) cns (fun n x h => ?_) 4
  match n, h with
  | 0, h => obtain rfl : "_law_well" = x := Option.some.inj h; exact ⟨_, fd0, _, (df0 F0 (He.glo_ok X G (c.fact 0 (f := .glo "_law_well") rfl))), fun k L => Snd.fn_ok L F0 sc0 ck0 (P.body0 (Snd.stage A.sub (Snd.adrs K T.cls T.nr) (Snd.objsOf K T A.os) (P.sp (Snd.adrs K T.cls T.nr)) P.con 0) rfl rfl (gx L) (go L rfl rfl))⟩
  | 1, h => obtain rfl : "_law_draw" = x := Option.some.inj h; exact ⟨_, fd1, _, (df1 F1 (He.glo_ok X G (c.fact 1 (f := .glo "_law_draw") rfl))), fun k L => Snd.fn_ok L F1 sc1 ck1 (P.body1 (Snd.stage A.sub (Snd.adrs K T.cls T.nr) (Snd.objsOf K T A.os) (P.sp (Snd.adrs K T.cls T.nr)) P.con 1) rfl rfl (gx L) (go L rfl rfl))⟩
  | 2, h => obtain rfl : "_law_marks" = x := Option.some.inj h; exact ⟨_, fd2, _, (df2 F2 (He.glo_ok X G (c.fact 2 (f := .glo "_law_marks") rfl))), fun k L => Snd.fn_ok L F2 sc2 ck2 (P.body2 (Snd.stage A.sub (Snd.adrs K T.cls T.nr) (Snd.objsOf K T A.os) (P.sp (Snd.adrs K T.cls T.nr)) P.con 2) rfl rfl (gx L) (go L rfl rfl))⟩
  | 3, h => obtain rfl : "_law_made" = x := Option.some.inj h; exact ⟨_, fd3, _, (df3 F3 (He.glo_ok X G (c.fact 3 (f := .glo "_law_made") rfl))), fun k L => Snd.fn_ok L F3 sc3 ck3 (P.body3 (Snd.stage A.sub (Snd.adrs K T.cls T.nr) (Snd.objsOf K T A.os) (P.sp (Snd.adrs K T.cls T.nr)) P.con 3) rfl rfl (gx L) (go L rfl rfl))⟩
  | 4, h => obtain rfl : "law" = x := Option.some.inj h; exact ⟨_, fd4, _, (df4 F4 (He.glo_ok X G (c.fact 4 (f := .glo "law") rfl))), fun k L => Snd.fn_ok L F4 sc4 ck4 (P.body4 (Snd.stage A.sub (Snd.adrs K T.cls T.nr) (Snd.objsOf K T A.os) (P.sp (Snd.adrs K T.cls T.nr)) P.con 4) rfl rfl (gx L) (go L rfl rfl))⟩
  | k + 5, h => cases h
end
/-- the law's def -/
theorem last {Pg : Program} {w : World} {K : PySem.W.Frag} {h : Heap} {mg : Str → Option Value} {f : Addr} (X : K.In h) (G : h.Ns mainGlobals mg) (hf : mg ("law" : Str) = some (.ref f)) (c : He.SaysD fal fnl K) (cc : Snd.consK cl K = true) (sy : Snd.sysB K = true) (ee : Snd.exK T.cls T.nr A.sub K = true) (oo : Snd.objB K T A.os = true) (xx : Snd.xK K T = true) (mp : Snd.MainP Pg mfile) (cm : ∀ (i : Nat) (d : Snd.DefO), fol[i]? = some d → d.Got K) :
    ∃ fd : FuncData, (∀ (s : Shared) (v : Value), BindsTo s fd ⟨[v], []⟩ [("script", v)]) ∧ ∀ base : Heap, Snd.FnG Pg w K mg base false 6 f fd ["script"] (Snd.lift ⟨K, mg, T, Snd.stage A.sub (Snd.adrs K T.cls T.nr) (Snd.objsOf K T A.os) (P.sp (Snd.adrs K T.cls T.nr)) P.con 4⟩ (M.cl (P.sp (Snd.adrs K T.cls T.nr) 4))) := by
  obtain ⟨fd, F⟩ := c.def_ 4 (d := dd "law" 30) rfl
  have e := hf.symm.trans (He.glo_ok X G (c.fact 4 (f := .glo "law") rfl))
  cases e
  have b := FunD.bindsA (ps := ["script"]) F fun _ _ _ _ _ _ us hl => match us, hl with | [_], _ => rfl
  refine ⟨fd, fun s v => b s [v] rfl, fun base => ?_⟩
  exact Snd.fn_ok (hot := false) (all h X G c cc sy ee oo xx mp cm) F sc4 ck4 (P.body4 (Snd.stage A.sub (Snd.adrs K T.cls T.nr) (Snd.objsOf K T A.os) (P.sp (Snd.adrs K T.cls T.nr)) P.con 4) rfl rfl (gx (all (Pg := Pg) (w := w) (base := base) h X G c cc sy ee oo xx mp cm)) (go (all (Pg := Pg) (w := w) (base := base) h X G c cc sy ee oo xx mp cm) rfl rfl))
end K43
open PySem PySem.W PySem.Calls PyProof.Rows
theorem PySem.Challenge.cw_cushionshots_k43_error_classes_holds : PySem.Challenge.rw_cushionshots_k43_error_classes.Holds := by
  w_on; o_law
  refine HandSHeadRun.head_any (r := OpenLaw.row PySem.Challenge.rw_cushionshots_k43_error_classes) (q := view (OpenLaw.row PySem.Challenge.rw_cushionshots_k43_error_classes).prog [30]) (H := K43.hk) (ob := K43.ob) (M := 12000) (loose := K43.loose) (d := HandSHeadRun.topDef (OpenLaw.row PySem.Challenge.rw_cushionshots_k43_error_classes).prog 30) (kwd := []) K43.ob_eq
    (by kernel_rfl) (fun s => by kernel_rfl) K43.run (by kernel_rfl) (by kernel_rfl) (by kernel_rfl) (by rfl) (by first | assumption | decide +kernel) (by decide +kernel) ⟨rfl, rfl, rfl, rfl, rfl, by decide +kernel⟩ ?hw ?hc
  case hw => w_witness2
  case hc =>
    refine Snd.walkG (l := PySem.Challenge.rw_cushionshots_k43_error_classes) (n := 63) (k := 6) (x := "script") (sp := K43.P.sp (fun _ => none) 4) rfl (by decide) (by kernel_rfl) ⟨rfl, by decide, by decide⟩ (fun ns h => ⟨ns, rfl, h, fun _ => rfl⟩) ?F
    intro w mg fa h Y G hmg0
    obtain ⟨K, KX, c⟩ := Y
    obtain ⟨c, cc, sy, ee, oo, xx, cm⟩ := Snd.obsO_says c
    have mp : Snd.MainP (PySem.Challenge.rw_cushionshots_k43_error_classes.prog) K43.mfile := ⟨by kernel_rfl, by kernel_rfl⟩
    have hmg : mg ("law" : PySem.Str) = some (.ref fa) := by
      have e : (HandSHeadRun.topDef (OpenLaw.row PySem.Challenge.rw_cushionshots_k43_error_classes).prog 30).name = ("law" : PySem.Str) := by kernel_rfl
      rw [← e]
      exact hmg0
    obtain ⟨fd, hb, hF⟩ := K43.last (Pg := PySem.Challenge.rw_cushionshots_k43_error_classes.prog) (w := w) KX G hmg c cc sy ee oo xx mp cm
    exact ⟨K, fd, K43.T, _, KX, hb, fun base _ _ => hF base⟩
