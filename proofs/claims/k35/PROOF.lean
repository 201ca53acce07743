import PyProof.Rows.All
import Wide.All
import OpenK.AllK
import Wide.FinOn
import HandS.Base
import HandS.Call
import HandS.List
import HandS.Comp
import HandS.Exc
import HandS.ExcIs
import HandS.ExcOwn
import HandS.Words
import HandS.Iter
import HandS.Zip
import HandS.IsInst
import HandS.Deep
import HandS.TupAny
import HandS.Style
import HandS.Text
import HandS.Wide
import KE.IntTextLaws
import HandS.Codes
import HandS.Conv
import KE.KTupSum
import HandS.Flt
import HandS.SortInts
import KE.KStar
import PyProof.Rows.StrRev
import KE.DatumOrd
import HandS.SortRule
import PyProof.ReprRoads
import PyProof.ReprLen
import PyProof.FitsInt
import HandS.ExcValue
import HandS.HeadHook1
import HandS.Property
import HandS.Star
import KE.GoesMore
import HandS.NoneIn
import HandS.Dict
import HandS.StrMore
import PyProof.Rows.StrSplitCount
import PyProof.StrLawsTight
import HandS.MakeKwOnly
import OpenK.KMeth
import OpenK.KMore
import KE.KOpsOwn
import HandS.Ends
import HandS.HeadEnd
import HandS.Defaults
import HandS.HeadHook2
import HandS.Head0
import HandS.Head1
import HandS.Head2
import PySem.Challenge.RW_cushionshots_k35_errors_of_balls
set_option Elab.async false
set_option linter.all false
set_option maxRecDepth 100000
set_option maxHeartbeats 0
set_option exponentiation.threshold 10000
/-! Mini: a small language of data, with weakest preconditions. -/
namespace M
abbrev Tx := List Nat
/-- data: a tuple by value, a list by its place in the store; fl: a list that is never written -/
inductive D where
  | non | bl (b : Bool) | int (i : Int) | str (x : Tx) | tup (xs : List D) | fl (xs : List D) | ref (a : Nat) | xn (c : Nat) (fs : List D)
inductive O where
  | lst (xs : List D) | dic | dct (kvs : List (Tx × D)) | ins (C : Nat) (fs : List (Tx × D))
abbrev Sto := Nat → Option O
def upd (S : Sto) (a : Nat) (o : O) : Sto := fun b => if b = a then some o else S b
abbrev Env := List (Option D)
abbrev VK := D → Sto → Prop
abbrev XK := Nat → List D → Sto → Prop
abbrev Sp := List D → Sto → VK → XK → Prop
/-- the greatest length -/
def lim : Nat := 16777216
/-- what a number may be that is multiplied -/
def big : Nat := 2 ^ 4000
def bigd : Nat := 2 ^ 8500
def sm (i : Int) : Prop := i.natAbs < big
def smd (i : Int) : Prop := i.natAbs < bigd
def br (b : Bool) (A B : Prop) : Prop := (b = true → A) ∧ (b = false → B)
inductive Bo where | add | sub | mul | fdiv | mod | pow
  deriving DecidableEq
inductive Co where | eq | ne | lt | le | gt | ge | is_ | isn | in_ | nin
  deriving DecidableEq
inductive Bi where | len | abs | int | min | max | all | any | sum | list | tuple | str | sorted | minp | sortp
  deriving DecidableEq
inductive Ty where | int | bool | tuple | list | str
  deriving DecidableEq
inductive Mt where | append | extend | count | index | pop
  deriving DecidableEq
/-- methods of texts with one argument -/
inductive Mo where | split | join | strip
  deriving DecidableEq
inductive Kc where | non | bl (b : Bool) | int (i : Int) | str (x : Tx)
  deriving DecidableEq
inductive Tg where | v (i : Nat) | tup (is : List Nat) | nest (is js : List Nat)
  deriving DecidableEq
mutual
inductive Ex where
  | v (i : Nat)
  | k (c : Kc)
  | g (n : Nat)
  | bin (o : Bo) (a b : Ex)
  | neg (a : Ex)
  | not (a : Ex)
  | cmp (o : Co) (a b : Ex)
  | chain (o p : Co) (a b c : Ex)
  | and (a : Ex) (r : Es)
  | or (a : Ex) (r : Es)
  | ite (c a b : Ex)
  | tup (es : Es)
  | lst (es : Es)
  | ix (a i : Ex)
  | dix (a i : Ex)
  | sl (a : Ex) (lo hi : Oe)
  | rev (a : Ex)
  | call (f : Nat) (es : Es)
  | callk (f : Nat) (es ks : Es) (perm : List Nat)
  | rep (a : Ex)
  | bi (b : Bi) (es : Es)
  | mt (m : Mt) (a : Ex) (es : Es)
  | m2 (o : Mo) (a e : Ex)
  | isi (a : Ex) (t : Ty)
  | isi2 (a : Ex) (t u : Ty)
  | isx (a : Ex) (cs : List Nat)
  | dic
  | dct (ks : List Tx) (es : Es)
  | comp (e : Ex) (t : Tg) (it : It) (c : Oe)
  | new (k : Nat) (es : Es)
  | newk (k : Nat) (es ks : Es) (perm : List Nat)
  | fld (a : Ex) (n : Tx)
  | prp (a : Ex) (n : Tx)
  | ocl (a : Ex) (es : Es)
  | oclk (a : Ex) (ks : Es) (perm : List Nat)
  | mth (m : Tx) (a : Ex) (es : Es)
  | oun (a : Ex)
  | oand (a b : Ex)
  | oeq (a b : Ex)
  | oin (o : Co) (a b : Ex)
  | isc (a : Ex) (k : Nat)
inductive Es where
  | nil | cons (e : Ex) (r : Es) | star (e : Ex) (r : Es)
inductive Oe where
  | none | some (e : Ex)
inductive It where
  | seq (e : Ex) | rng (e : Ex) | rng2 (a b : Ex) | zip (a b : Ex) | zip3 (a b c : Ex) | enum (e : Ex)
end
mutual
inductive St where
  | set (t : Tg) (e : Ex)
  | par (i j : Nat) (a b : Ex)
  | par3 (i j l : Nat) (a b c : Ex)
  | nev
  | six (a i e : Ex)
  | fset (n : Tx) (a e : Ex)
  | psx (a i : Ex) (j : Nat) (e : Ex)
  | ex (e : Ex)
  | ret (e : Ex)
  | retn
  | if_ (c : Ex) (a b : Ss)
  | while_ (c : Ex) (b : Ss)
  | for_ (t : Tg) (it : It) (b : Ss)
  | brk
  | pass
  | raise (c : Nat) (es : Es)
  | try_ (b : Ss) (c i : Nat) (h : Ss)
inductive Ss where
  | nil | cons (s : St) (r : Ss)
end
/-! ### what the pieces do -/
def onB : D → (Bool → Prop) → Prop
  | .bl b, P => P b
  | _, _ => False
def onI : D → (Int → Prop) → Prop
  | .int i, P => P i
  | _, _ => False
def onC1 : Tx → (Nat → Prop) → Prop
  | [c], P => P c
  | _, _ => False
/-- one sign -/
def onC : D → (Nat → Prop) → Prop
  | .str a, P => onC1 a P
  | _, _ => False
def isNon : D → Bool
  | .non => true
  | _ => false
def b2i (b : Bool) : Int := if b then 1 else 0
def opt {α : Type} : Option α → (α → Prop) → Prop
  | some a, P => P a
  | none, _ => False
def optB {α : Type} : Option α → (α → Bool) → Bool
  | some a, P => P a
  | none, _ => false
def joinO {α : Type} : Option (Option α) → Option α
  | some (some a) => some a
  | _ => none
def look (ρ : Env) (i : Nat) : Option D := joinO ρ[i]?
def lstO : Option O → Option (List D)
  | some (.lst xs) => some xs
  | _ => none
/-- the list at a -/
def lstAt (S : Sto) (a : Nat) : Option (List D) := lstO (S a)
def lsOf (S : Sto) : D → Option (List D)
  | .ref a => lstAt S a
  | .fl xs => some xs
  | _ => none
def sqOf (S : Sto) : D → Option (List D)
  | .ref a => lstAt S a
  | .fl xs => some xs
  | .tup xs => some xs
  | _ => none
/-- are all of these data that == tells of -/
def fitL (ok : D → Bool) : List D → Bool
  | [] => true
  | x :: xs => ok x && fitL ok xs
def fit : Nat → Sto → D → Bool
  | 0, _, _ => false
  | n + 1, S, d => (match d with
    | .non => true | .bl _ => true | .int _ => true | .str x => x.all (fun c => decide (c < 1114112))
    | .tup xs => fitL (fit n S) xs
    | .fl xs => fitL (fit n S) xs
    | .ref a => optB (lstAt S a) (fitL (fit n S))
    | .xn _ _ => false)
def eqLB (eq : D → D → Bool) : List D → List D → Bool
  | [], [] => true
  | x :: xs, y :: ys => eq x y && eqLB eq xs ys
  | _, _ => false
def eqO (eq : List D → List D → Bool) : Option (List D) → Option (List D) → Bool
  | some xs, some ys => eq xs ys
  | _, _ => false
def eqB : Nat → Sto → D → D → Bool
  | 0, _, _, _ => false
  | n + 1, S, x, y => (match x, y with
    | .non, .non => true
    | .bl a, .bl b => a == b
    | .bl a, .int j => b2i a == j
    | .int i, .bl b => i == b2i b
    | .int i, .int j => i == j
    | .str a, .str b => a == b
    | .tup xs, .tup ys => eqLB (eqB n S) xs ys
    | .ref a, y => eqO (eqLB (eqB n S)) (lstAt S a) (lsOf S y)
    | .fl xs, y => eqO (eqLB (eqB n S)) (some xs) (lsOf S y)
    | _, _ => false)
/-- the locals at the entry -/
def start (n : Nat) (ds : List D) : Env := ds.map some ++ List.replicate (n - ds.length) none
abbrev dep : Nat := 8
def ixN (n : Nat) (i : Int) : Option Nat := if 0 ≤ i then (if i < n then some i.toNat else none) else if -(n : Int) ≤ i then some (i + n).toNat else none
def atI {α : Type} (xs : List α) (i : Int) : Option α := (ixN xs.length i).bind fun j => xs[j]?
def sIx (n d : Nat) : Option Int → Nat
  | none => d
  | some v => if v < 0 then (v + n).toNat else min v.toNat n
def cut {α : Type} (xs : List α) (lo hi : Option Int) : List α := (xs.drop (sIx xs.length 0 lo)).take (sIx xs.length xs.length hi - sIx xs.length 0 lo)
/-- a new list -/
def mkL (xs : List D) (S : Sto) (Q : VK) : Prop := xs.length ≤ lim ∧ ∀ p, S p = none → Q (.ref p) (upd S p (.lst xs))
def binD : Bo → D → D → Sto → VK → Prop
  | .add, x, y, S, Q => (match x, y with
    | .int i, .int j => Q (.int (i + j)) S
    | .str a, .str b => a.length + b.length ≤ lim ∧ Q (.str (a ++ b)) S
    | .tup a, .tup b => a.length + b.length ≤ lim ∧ Q (.tup (a ++ b)) S
    | .ref a, .ref b => opt (lstAt S a) fun xs => opt (lstAt S b) fun ys => mkL (xs ++ ys) S Q
    | _, _ => False)
  | .sub, x, y, S, Q => onI x fun i => onI y fun j => Q (.int (i - j)) S
  | .mul, x, y, S, Q => (match x, y with
    | .int i, .int j => sm i ∧ sm j ∧ Q (.int (i * j)) S
    | .ref a, .int k => opt (lstAt S a) fun xs => 0 ≤ k ∧ k < 1000 ∧ mkL ((List.replicate k.toNat xs).flatten) S Q
    | _, _ => False)
  | .fdiv, x, y, S, Q => onI x fun i => onI y fun j => j ≠ 0 ∧ smd j ∧ Q (.int (i.fdiv j)) S
  | .mod, x, y, S, Q => onI x fun i => onI y fun j => j ≠ 0 ∧ Q (.int (i.fmod j)) S
  | .pow, x, y, S, Q => onI x fun i => onI y fun j => sm i ∧ 0 ≤ j ∧ j ≤ 1000 ∧ Q (.int (i ^ j.toNat)) S
def inB (S : Sto) (x : D) (ys : List D) : Bool := ys.any fun y => eqB dep S y x
/-- texts in their order -/
def leT (a b : Tx) : Bool := !decide (b < a)
def cmpD : Co → D → D → Sto → (Bool → Prop) → Prop
  | .lt, x, y, _, Q => onI x fun i => onI y fun j => Q (decide (i < j))
  | .le, x, y, _, Q => (match x, y with
    | .str a, .str b => Q (leT a b)
    | x, y => onI x fun i => onI y fun j => Q (decide (i ≤ j)))
  | .gt, x, y, _, Q => onI x fun i => onI y fun j => Q (decide (j < i))
  | .ge, x, y, _, Q => onI x fun i => onI y fun j => Q (decide (j ≤ i))
  | .eq, x, y, S, Q => (match x, y with
    | .str a, .str b => Q (a == b)
    | x, y => fit dep S x = true ∧ fit dep S y = true ∧ Q (eqB dep S x y))
  | .ne, x, y, S, Q => (match x, y with
    | .str a, .str b => Q (!(a == b))
    | x, y => fit dep S x = true ∧ fit dep S y = true ∧ Q (!eqB dep S x y))
  | .is_, x, y, _, Q => (match y with
    | .non => Q (isNon x)
    | .bl b => onB x fun a => Q (a == b)
    | _ => False)
  | .isn, x, y, _, Q => (match y with
    | .non => Q (!isNon x)
    | .bl b => onB x fun a => Q (!(a == b))
    | _ => False)
  | .in_, x, y, S, Q => (match y with
    | .str b => onC x fun c => Q (b.contains c)
    | y => opt (sqOf S y) fun ys => fit dep S x = true ∧ fitL (fit dep S) ys = true ∧ Q (inB S x ys))
  | .nin, x, y, S, Q => (match y with
    | .str b => onC x fun c => Q (!b.contains c)
    | y => opt (sqOf S y) fun ys => fit dep S x = true ∧ fitL (fit dep S) ys = true ∧ Q (!inB S x ys))
def ixD (x i : D) (S : Sto) (Q : VK) : Prop := match i with
  | .int k => (match x with
    | .str a => a.length ≤ lim ∧ opt (atI a k) fun c => Q (.str [c]) S
    | x => opt (sqOf S x) fun xs => opt (atI xs k) fun d => Q d S)
  | _ => False
def slD (x : D) (lo hi : Option Int) (S : Sto) (Q : VK) : Prop := match x with
  | .str a => a.length ≤ lim ∧ Q (.str (cut a lo hi)) S
  | .tup xs => Q (.tup (cut xs lo hi)) S
  | x => opt (lsOf S x) fun xs => ∀ p, S p = none → Q (.ref p) (upd S p (.lst (cut xs lo hi)))
def revD (x : D) (S : Sto) (Q : VK) : Prop := match x with
  | .tup xs => Q (.tup xs.reverse) S
  | .str a => a.length ≤ lim ∧ Q (.str a.reverse) S
  | x => opt (lsOf S x) fun xs => ∀ p, S p = none → Q (.ref p) (upd S p (.lst xs.reverse))
def intsD : List D → Option (List Int)
  | [] => some []
  | .int i :: r => (intsD r).map (i :: ·)
  | _ => none
def bools : List D → Option (List Bool)
  | [] => some []
  | .bl i :: r => (bools r).map (i :: ·)
  | _ => none
def minL : Int → List Int → Int
  | m, [] => m
  | m, i :: r => minL (if i < m then i else m) r
def maxL : Int → List Int → Int
  | m, [] => m
  | m, i :: r => maxL (if m < i then i else m) r
/-- decimal digits -/
def txI (i : Int) : Tx := (toString i).toList.map Char.toNat
def arg1 : List D → (D → Prop) → Prop
  | [x], P => P x
  | _, _ => False
def lenD (x : D) (S : Sto) (Q : VK) : Prop := match x with
  | .str a => a.length ≤ lim ∧ Q (.int a.length) S
  | x => opt (sqOf S x) fun xs => Q (.int xs.length) S
def onCons : List Int → (Int → List Int → Prop) → Prop
  | i :: r, P => P i r
  | [], _ => False
/-- the number that digits write, maybe behind a minus -/
def digB (c : Nat) : Bool := decide (48 ≤ c) && decide (c ≤ 57)
def valT (cs : Tx) : Nat := cs.foldl (fun n c => n * 10 + (c - 48)) 0
def numT : Tx → Option Int
  | [] => none
  | c :: r => if c = 45 then (if !r.isEmpty && r.all digB then some (-((valT r : Nat) : Int)) else none) else (if (c :: r).all digB then some ((valT (c :: r) : Nat) : Int) else none)
def intD (x : D) (S : Sto) (Q : VK) : Prop := match x with
  | .int i => Q (.int i) S
  | .bl b => Q (.int (b2i b)) S
  | .str x => opt (numT x) fun n => x.length ≤ 640 ∧ Q (.int n) S
  | _ => False
/-- pairs of numbers -/
def prV (p : Int × Int) : D := .tup [.int p.1, .int p.2]
def prsD : List D → Option (List (Int × Int))
  | [] => some []
  | .tup [.int i, .int j] :: r => (prsD r).map ((i, j) :: ·)
  | _ => none
def ltP (p q : Int × Int) : Bool := if p.1 = q.1 then decide (p.2 < q.2) else decide (p.1 < q.1)
def minP : Int × Int → List (Int × Int) → Int × Int
  | m, [] => m
  | m, i :: r => minP (if ltP i m then i else m) r
def onConsP : List (Int × Int) → (Int × Int → List (Int × Int) → Prop) → Prop
  | i :: r, P => P i r
  | [], _ => False
def biD : Bi → List D → Sto → VK → Prop
  | .len, ds, S, Q => arg1 ds fun x => lenD x S Q
  | .abs, ds, S, Q => arg1 ds fun x => onI x fun i => Q (.int (if i < 0 then -i else i)) S
  | .int, ds, S, Q => arg1 ds fun x => intD x S Q
  | .min, ds, S, Q => (match ds with
    | [x] => opt (lsOf S x) fun xs => opt (intsD xs) fun is => onCons is fun i r => Q (.int (minL i r)) S
    | [x, y] => onI x fun i => onI y fun j => Q (.int (if j < i then j else i)) S
    | _ => False)
  | .max, ds, S, Q => (match ds with
    | [x] => opt (lsOf S x) fun xs => opt (intsD xs) fun is => onCons is fun i r => Q (.int (maxL i r)) S
    | [x, y] => onI x fun i => onI y fun j => Q (.int (if j > i then j else i)) S
    | [x, y, z] => onI x fun i => onI y fun j => onI z fun k => Q (.int (if k > (if j > i then j else i) then k else (if j > i then j else i))) S
    | _ => False)
  | .all, ds, S, Q => arg1 ds fun x => opt (lsOf S x) fun xs => opt (bools xs) fun bs => Q (.bl (bs.all id)) S
  | .any, ds, S, Q => arg1 ds fun x => opt (lsOf S x) fun xs => opt (bools xs) fun bs => Q (.bl (bs.any id)) S
  | .sum, ds, S, Q => arg1 ds fun x => opt (sqOf S x) fun xs => opt (intsD xs) fun is => Q (.int is.sum) S
  | .list, ds, S, Q => arg1 ds fun x => opt (sqOf S x) fun xs => ∀ p, S p = none → Q (.ref p) (upd S p (.lst xs))
  | .tuple, ds, S, Q => arg1 ds fun x => opt (sqOf S x) fun xs => Q (.tup xs) S
  | .str, ds, S, Q => arg1 ds fun x => onI x fun i => i.natAbs.log2 < 1920 ∧ Q (.str (txI i)) S
  | .minp, ds, S, Q => arg1 ds fun x => opt (lsOf S x) fun xs => opt (prsD xs) fun ps => onConsP ps fun p r => Q (prV (minP p r)) S
  | .sortp, ds, S, Q => arg1 ds fun x => opt (lsOf S x) fun xs => opt (prsD xs) fun ps => ∀ qs : List (Int × Int), qs.Perm ps → qs.Pairwise (fun p q => ltP q p = false) → ∀ p, S p = none → Q (.ref p) (upd S p (.lst (qs.map prV)))
  | .sorted, ds, S, Q => arg1 ds fun x => opt (lsOf S x) fun xs => opt (intsD xs) fun is => ∀ js : List Int, js.Perm is → js.Pairwise (· ≤ ·) → ∀ p, S p = none → Q (.ref p) (upd S p (.lst (js.map .int)))
/-- texts -/
def onS : D → (Tx → Prop) → Prop
  | .str x, P => P x
  | _, _ => False
def strsD : List D → Option (List Tx)
  | [] => some []
  | .str x :: r => (strsD r).map (x :: ·)
  | _ => none
def joinT (s : Tx) : List Tx → Tx
  | [] => []
  | [x] => x
  | x :: r => x ++ s ++ joinT s r
def splitT (c : Nat) : Tx → List Tx
  | [] => [[]]
  | d :: r => if d = c then [] :: splitT c r else (match splitT c r with
    | [] => [[d]]
    | w :: ws => (d :: w) :: ws)
/-- a dict's value at a text -/
def dctO : Option O → Option (List (Tx × D))
  | some (.dct kvs) => some kvs
  | _ => none
def dixD (x y : D) (S : Sto) (Q : VK) : Prop := match x with
  | .ref a => onS y fun k => opt (dctO (S a)) fun kvs => opt (kvs.lookup k) fun d => Q d S
  | _ => False
def m2D : Mo → Tx → D → Sto → VK → Prop
  | .split, a, y, S, Q => onS y fun b => onC1 b fun c => a.length + 2 ≤ lim ∧ ∀ p, S p = none → Q (.ref p) (upd S p (.lst ((splitT c a).map .str)))
  | .strip, a, y, S, Q => onS y fun b => a.length ≤ lim ∧ ∀ r : Tx, r.length ≤ a.length → (r = [] ↔ ∀ c ∈ a, c ∈ b) → Q (.str r) S
  | .join, a, y, S, Q => opt (sqOf S y) fun xs => opt (strsD xs) fun ts => (ts.map (·.length)).sum + ts.length * a.length ≤ lim ∧ Q (.str (joinT a ts)) S
/-- the first place of b -/
def ixB (b : Bool) : List Bool → Option Nat
  | [] => none
  | c :: r => if c = b then some 0 else (ixB b r).map (· + 1)
/-- an error -/
def onP : D → (D → D → Prop) → Prop
  | .tup [x, y], P => P x y
  | _, _ => False
def onX : D → (Nat → Prop) → Prop
  | .xn C _, P => P C
  | _, _ => False
/-- o.m(..) -/
def onR : D → (Nat → Prop) → Prop
  | .ref a, P => P a
  | _, _ => False
def ixT (t : Tx) : List Tx → Option Nat
  | [] => none
  | c :: r => if c = t then some 0 else (ixT t r).map (· + 1)
def mtD : Mt → D → List D → Sto → VK → Prop
  | .append, x, ds, S, Q => onR x fun a => arg1 ds fun d => opt (lstAt S a) fun xs => xs.length < lim ∧ Q .non (upd S a (.lst (xs ++ [d])))
  | .extend, x, ds, S, Q => onR x fun a => arg1 ds fun y => onR y fun b => opt (lstAt S a) fun xs => opt (lstAt S b) fun ys => xs.length + ys.length ≤ lim ∧ Q .non (upd S a (.lst (xs ++ ys)))
  | .pop, x, ds, S, Q => onR x fun a => (match ds with
    | [] => opt (lstAt S a) fun xs => opt xs[xs.length - 1]? fun d => Q d (upd S a (.lst xs.dropLast))
    | [y] => onI y fun i => opt (lstAt S a) fun xs => -(2 ^ 63) ≤ i ∧ i < 2 ^ 63 ∧ opt (ixN xs.length i) fun j => opt xs[j]? fun d => Q d (upd S a (.lst (xs.eraseIdx j)))
    | _ => False)
  | .count, x, ds, S, Q => arg1 ds fun y => (match y with
    | .str t => opt (lsOf S x) fun xs => opt (strsD xs) fun ts => Q (.int ((ts.count t : Nat) : Int)) S
    | y => onB y fun b => opt (lsOf S x) fun xs => opt (bools xs) fun bs => Q (.int ((bs.count b : Nat) : Int)) S)
  | .index, x, ds, S, Q => arg1 ds fun y => (match y with
    | .str t => opt (lsOf S x) fun xs => opt (strsD xs) fun ts => opt (ixT t ts) fun j => Q (.int ((j : Nat) : Int)) S
    | y => onB y fun b => opt (lsOf S x) fun xs => opt (bools xs) fun bs => opt (ixB b bs) fun j => Q (.int ((j : Nat) : Int)) S)
def tyO : Option O → Ty → Option Bool
  | some (.lst _), t => some (decide (t = .list))
  | some .dic, _ => some false
  | some (.dct _), _ => some false
  | some (.ins _ _), _ => some false
  | none, _ => none
def isTy (S : Sto) : D → Ty → Option Bool
  | .non, _ => some false
  | .bl _, t => some (decide (t = .bool) || decide (t = .int))
  | .int _, t => some (decide (t = .int))
  | .str _, t => some (decide (t = .str))
  | .tup _, t => some (decide (t = .tuple))
  | .fl _, t => some (decide (t = .list))
  | .ref a, t => tyO (S a) t
  | .xn _ _, _ => none
def kcD : Kc → D
  | .non => .non | .bl b => .bl b | .int i => .int i | .str x => .str x
def setAll : List Nat → List D → Env → Env
  | i :: is, d :: ds, ρ => setAll is ds (ρ.set i (some d))
  | _, _, ρ => ρ
def asg (t : Tg) (d : D) (S : Sto) (ρ : Env) (Q : Env → Prop) : Prop := match t with
  | .v i => Q (ρ.set i (some d))
  | .tup is => (match d with
    | .tup xs => xs.length = is.length ∧ Q (setAll is xs ρ)
    | d => opt (lsOf S d) fun xs => xs.length = is.length ∧ Q (setAll is xs ρ))
  | .nest is js => (match d with
    | .tup (.tup xs :: ys) => xs.length = is.length ∧ ys.length = js.length ∧ Q (setAll js ys (setAll is xs ρ))
    | _ => False)
def tgs : Tg → List Nat
  | .v i => [i]
  | .tup is => is
  | .nest is js => is ++ js
def wipe (ρ : Env) : List Nat → Env
  | [] => ρ
  | i :: is => (wipe ρ is).set i none
/-- o[i] = d -/
def sixD (x i d : D) (S : Sto) (Q : Sto → Prop) : Prop := onR x fun a => onI i fun k => opt (lstAt S a) fun xs => opt (ixN xs.length k) fun j => Q (upd S a (.lst (xs.set j d)))
/-- what is walked -/
abbrev IK := List D → (Sto → Prop) → Sto → Prop
def seqD (x : D) (S : Sto) (R : IK) : Prop := match x with
  | .ref a => opt (lstAt S a) fun xs => R xs (fun S' => S' a = some (.lst xs)) S
  | .fl xs => R xs (fun _ => True) S
  | .tup xs => R xs (fun _ => True) S
  | .str a => R (a.map fun c => .str [c]) (fun _ => True) S
  | _ => False
def zipP (xs ys : List D) : List D := (xs.zip ys).map fun p => .tup [p.1, p.2]
def zipD (x y : D) (S : Sto) (R : IK) : Prop := match x, y with
  | .tup xs, .tup ys => R (zipP xs ys) (fun _ => True) S
  | .str a, .tup ys => R (zipP (a.map fun c => .str [c]) ys) (fun _ => True) S
  | x, y => opt (lsOf S x) fun xs => opt (lsOf S y) fun ys => R (zipP xs ys) (fun S' => lsOf S' x = some xs ∧ lsOf S' y = some ys) S
def zipP3 (xs ys zs : List D) : List D := (xs.zip (ys.zip zs)).map fun p => .tup [p.1, p.2.1, p.2.2]
def zip3D (x y z : D) (S : Sto) (R : IK) : Prop := match x, y, z with
  | .tup xs, .tup ys, .tup zs => R (zipP3 xs ys zs) (fun _ => True) S
  | _, _, _ => False
def rngD (lo hi : Int) (S : Sto) (R : IK) : Prop := -(2 ^ 62) ≤ lo ∧ lo < 2 ^ 62 ∧ -(2 ^ 62) ≤ hi ∧ hi < 2 ^ 62 ∧ R ((List.range (hi - lo).toNat).map fun i => .int (lo + (i : Nat))) (fun _ => True) S
def enumL : Nat → List D → List D
  | _, [] => []
  | n, d :: ds => .tup [.int n, d] :: enumL (n + 1) ds
def enumD (x : D) (S : Sto) (R : IK) : Prop := opt (lsOf S x) fun xs => R (enumL 0 xs) (fun S' => lsOf S' x = some xs) S
def forW (chk : Sto → Prop) (step : D → Env → Sto → (Env → Sto → Prop) → Prop) (nx : Env → Sto → Prop) : List D → Env → Sto → Prop
  | [], ρ, S => chk S ∧ nx ρ S
  | d :: ds, ρ, S => chk S ∧ step d ρ S (forW chk step nx ds)
def whileN (step : Env → Sto → (Env → Sto → Prop) → Prop) : Nat → Env → Sto → Prop
  | 0, _, _ => False
  | n + 1, ρ, S => step ρ S (whileN step n)
def compW (chk : Sto → Prop) (step : D → Sto → (Option D → Sto → Prop) → Prop) (Q : VK) : List D → List D → Sto → Prop
  | [], acc, S => chk S ∧ ∀ p, S p = none → Q (.ref p) (upd S p (.lst acc))
  | d :: ds, acc, S => chk S ∧ step d S fun r S1 => compW chk step Q ds (acc ++ r.toList) S1
/-- a promise, with more wanted than it says -/
def cl (sp : Sp) : Sp := fun ds S Q X => ∃ (Q0 : VK) (X0 : XK), sp ds S Q0 X0 ∧ (∀ d S, Q0 d S → Q d S) ∧ (∀ c fs S, X0 c fs S → X c fs S)
theorem cl_of {sp : Sp} {ds : List D} {S : Sto} {Q : VK} {X : XK} (h : sp ds S Q X) : cl sp ds S Q X := ⟨Q, X, h, fun _ _ x => x, fun _ _ _ x => x⟩
/-- what a text of a value tells -/
inductive P where
  | non | bl (b : Bool) | int (i : Int) | str (x : Tx) | tup (xs : List P) | lst (xs : List P) | dic | dct (kvs : List (Tx × P))
def toQ : Nat → Sto → D → P
  | 0, _, _ => .non
  | n + 1, S, d => (match d with
    | .non => .non
    | .bl b => .bl b
    | .int i => .int i
    | .str x => .str x
    | .tup xs => .tup (xs.map (toQ n S))
    | .fl xs => .lst (xs.map (toQ n S))
    | .ref a => (match S a with
      | some (.lst xs) => .lst (xs.map (toQ n S))
      | some (.dct kvs) => .dct (kvs.map fun p => (p.1, toQ n S p.2))
      | _ => .dic)
    | .xn _ _ => .non)
def bigr : Nat := 2 ^ 1900
def smr (i : Int) : Prop := i.natAbs < bigr
def fitR : Nat → Sto → D → Prop
  | 0, _, _ => False
  | n + 1, S, d => (match d with
    | .non => True
    | .bl _ => True
    | .int i => smr i
    | .str x => ∀ c ∈ x, c < 1114112
    | .tup xs => ∀ y ∈ xs, fitR n S y
    | .fl xs => ∀ y ∈ xs, fitR n S y
    | .ref a => opt (lstAt S a) fun xs => ∀ y ∈ xs, fitR n S y
    | .xn _ _ => False)
def isDic : Option O → Prop
  | some .dic => True
  | _ => False
def isDicD (S : Sto) : D → Prop
  | .ref a => isDic (S a)
  | _ => False
/-- with dicts within -/
def fitO (f : D → Prop) : Option O → Prop
  | some (.lst xs) => ∀ y ∈ xs, f y
  | some .dic => True
  | some (.dct kvs) => kvs.length < 1000 ∧ ∀ p ∈ kvs, (∀ c ∈ p.1, c < 1114112) ∧ f p.2
  | some (.ins _ _) => False
  | none => False
def fitQ : Nat → Sto → D → Prop
  | 0, _, _ => False
  | n + 1, S, d => (match d with
    | .non => True
    | .bl _ => True
    | .int i => smr i
    | .str x => ∀ c ∈ x, c < 1114112
    | .tup xs => ∀ y ∈ xs, fitQ n S y
    | .fl xs => ∀ y ∈ xs, fitQ n S y
    | .ref a => fitO (fitQ n S) (S a)
    | .xn _ _ => False)
def fitD (S : Sto) (d : D) : Prop := (isDicD S d ∨ fitQ dep S d) ∨ fitR dep S d
def sumN : List Nat → Nat
  | [] => 0
  | a :: r => a + sumN r
/-- no text of the value is longer -/
def szR : Nat → Sto → D → Nat
  | 0, _, _ => 0
  | n + 1, S, d => (match d with
    | .non => 4
    | .bl _ => 5
    | .int _ => 1902
    | .str x => 10 * x.length + 2
    | .tup xs => sumN (xs.map fun y => szR n S y + 2) + 3
    | .fl xs => sumN (xs.map fun y => szR n S y + 2) + 3
    | .ref a => (match S a with
      | some (.lst xs) => sumN (xs.map fun y => szR n S y + 2) + 3
      | some (.dct kvs) => sumN (kvs.map fun p => 10 * p.1.length + 2 + szR n S p.2 + 4) + 3
      | _ => 2)
    | .xn _ _ => 0)
structure Gm where
  fn : Nat → Sp
  con : Nat → D
  sub : Nat → Nat → Bool
  /-- where the class stands -/
  adr : Nat → Option Nat
  rp : P → Tx
  /-- own classes of objects by number: where each stands, its methods, is the one below the other -/
  ob : Nat → Option Nat
  mt : Nat → Tx → Option Nat
  os : Nat → Nat → Bool
def esLen : Es → Nat
  | .nil => 0
  | .cons _ r => esLen r + 1
  | .star _ r => esLen r + 1
/-- the promises of the defs below n -/
def upto (n : Nat) (sp : Nat → Sp) : Nat → Sp := fun i => if i < n then sp i else fun _ _ _ _ => False
def X0 : XK := fun _ _ _ => False
/-! ### objects -/
def insO : Option O → Option (Nat × List (Tx × D))
  | some (.ins C fs) => some (C, fs)
  | _ => none
/-- x is an object -/
def onO (S : Sto) (x : D) (P : Nat → List (Tx × D) → Prop) : Prop := onR x fun a => opt (insO (S a)) fun p => P p.1 p.2
def putK (n : Tx) (d : D) : List (Tx × D) → List (Tx × D)
  | [] => [(n, d)]
  | (m, x) :: r => if m = n then (m, d) :: r else (m, x) :: putK n d r
def fldD (G : Gm) (n : Tx) (x : D) (S : Sto) (Q : VK) : Prop := onO S x fun C fs => (∃ k, G.ob k = some C) ∧ opt (fs.lookup n) fun d => Q d S
/-- o.n = d -/
def fsetD (G : Gm) (n : Tx) (x d : D) (S : Sto) (Q : Sto → Prop) : Prop := onR x fun a => opt (insO (S a)) fun p => (∃ k, G.ob k = some p.1) ∧ p.2.length < 1000 ∧ Q (upd S a (.ins p.1 (putK n d p.2)))
/-- the method m of the object x: the def's promise at x and ds -/
def mcall (G : Gm) (m : Tx) (x : D) (ds : List D) (S : Sto) (Q : VK) (X : XK) : Prop := onO S x fun C fs => fs.lookup m = none ∧ ∃ k, G.ob k = some C ∧ opt (G.mt k m) fun f => cl (G.fn f) (x :: ds) S Q X
def nmInit : Tx := [95, 95, 105, 110, 105, 116, 95, 95]
def nmCall : Tx := [95, 95, 99, 97, 108, 108, 95, 95]
def nmNeg : Tx := [95, 95, 110, 101, 103, 95, 95]
def nmAnd : Tx := [95, 95, 97, 110, 100, 95, 95]
def nmEq : Tx := [95, 95, 101, 113, 95, 95]
def nmIn : Tx := [95, 95, 99, 111, 110, 116, 97, 105, 110, 115, 95, 95]
/-- a new object of the class k, its __init__ at f ds -/
def newD (G : Gm) (k : Nat) (f : D → List D) (S : Sto) (Q : VK) (X : XK) : Prop := ∀ C, G.ob k = some C → opt (G.mt k nmInit) fun n => ∀ p, S p = none → cl (G.fn n) (f (.ref p)) (upd S p (.ins C [])) (fun v S2 => isNon v = true ∧ Q (.ref p) S2) X
def iscO (G : Gm) (k : Nat) (P : Bool → Prop) : Option O → Prop
  | some (.ins C _) => ∃ j, G.ob j = some C ∧ P (G.os j k)
  | some _ => P false
  | none => False
/-- isinstance of an own class -/
def iscD (G : Gm) (k : Nat) (x : D) (S : Sto) (P : Bool → Prop) : Prop := match x with
  | .ref a => iscO G k P (S a)
  | .xn _ _ => False
  | _ => P false
/-- is the type of y a built-in one, known to == and & -/
def plnD (S : Sto) : D → Prop
  | .ref a => (match S a with
    | some (.ins _ _) => False
    | some _ => True
    | none => False)
  | .xn _ _ => False
  | _ => True
/-- the right operand: of a built-in type, or of the object's own class -/
def rgtD (S : Sto) (C : Nat) (y : D) : Prop := plnD S y ∨ onO S y fun D _ => D = C
def ocmD (G : Gm) (x y : D) (S : Sto) (Q : VK) : Prop := onO S x fun C _ => rgtD S C y ∧ mcall G nmEq x [y] S (fun v S1 => onB v fun b => Q (.bl b) S1) X0
def oinD (G : Gm) (o : Co) (x y : D) (S : Sto) (Q : VK) : Prop := mcall G nmIn y [x] S (fun v S1 => onB v fun b => Q (.bl (if o = .nin then !b else b)) S1) X0
mutual
def wpE (G : Gm) : Ex → Env → Sto → VK → XK → Prop
  | .v i, ρ, S, Q, _ => opt (look ρ i) fun d => Q d S
  | .k c, _, S, Q, _ => Q (kcD c) S
  | .g n, _, S, Q, _ => Q (G.con n) S
  | .bin o a b, ρ, S, Q, X => wpE G a ρ S (fun x S1 => wpE G b ρ S1 (fun y S2 => binD o x y S2 Q) X) X
  | .neg a, ρ, S, Q, X => wpE G a ρ S (fun x S1 => onI x fun i => Q (.int (-i)) S1) X
  | .not a, ρ, S, Q, X => wpE G a ρ S (fun x S1 => onB x fun b => Q (.bl (!b)) S1) X
  | .cmp o a b, ρ, S, Q, X => wpE G a ρ S (fun x S1 => wpE G b ρ S1 (fun y S2 => cmpD o x y S2 fun c => Q (.bl c) S2) X) X
  | .chain o p a b c, ρ, S, Q, X => wpE G a ρ S (fun x S1 => wpE G b ρ S1 (fun y S2 => cmpD o x y S2 fun k => br k (wpE G c ρ S2 (fun z S3 => cmpD p y z S3 fun k' => Q (.bl k') S3) X) (Q (.bl false) S2)) X) X
  | .and a r, ρ, S, Q, X => wpE G a ρ S (fun x S1 => onB x fun b => br b (wpAnd G r ρ S1 Q X) (Q (.bl false) S1)) X
  | .or a r, ρ, S, Q, X => wpE G a ρ S (fun x S1 => onB x fun b => br b (Q (.bl true) S1) (wpOr G r ρ S1 Q X)) X
  | .ite c a b, ρ, S, Q, X => wpE G c ρ S (fun x S1 => onB x fun k => br k (wpE G a ρ S1 Q X) (wpE G b ρ S1 Q X)) X
  | .tup es, ρ, S, Q, X => wpEs G es ρ S (fun ds S1 => ds.length ≤ lim ∧ Q (.tup ds) S1) X
  | .lst es, ρ, S, Q, X => wpEs G es ρ S (fun ds S1 => mkL ds S1 Q) X
  | .ix a i, ρ, S, Q, X => wpE G a ρ S (fun x S1 => wpE G i ρ S1 (fun y S2 => ixD x y S2 Q) X) X
  | .dix a i, ρ, S, Q, X => wpE G a ρ S (fun x S1 => wpE G i ρ S1 (fun y S2 => dixD x y S2 Q) X) X
  | .sl a lo hi, ρ, S, Q, X => wpE G a ρ S (fun x S1 => wpO G lo ρ S1 (fun l S2 => wpO G hi ρ S2 (fun h S3 => slD x l h S3 Q) X) X) X
  | .rev a, ρ, S, Q, X => wpE G a ρ S (fun x S1 => revD x S1 Q) X
  | .call f es, ρ, S, Q, X => wpEs G es ρ S (fun ds S1 => cl (G.fn f) ds S1 Q X) X
  | .callk f es ks perm, ρ, S, Q, X => wpEs G es ρ S (fun ds S1 => wpEs G ks ρ S1 (fun ws S2 => ds.length = esLen es ∧ ws.length = esLen ks ∧ cl (G.fn f) (perm.filterMap fun i => (ds ++ ws)[i]?) S2 Q X) X) X
  | .rep a, ρ, S, Q, X => wpE G a ρ S (fun x S1 => fitD S1 x ∧ szR dep S1 x ≤ lim ∧ Q (.str (G.rp (toQ dep S1 x))) S1) X
  | .bi b es, ρ, S, Q, X => wpEs G es ρ S (fun ds S1 => biD b ds S1 Q) X
  | .mt m a es, ρ, S, Q, X => wpE G a ρ S (fun x S1 => opt (lsOf S1 x) fun _ => wpEs G es ρ S1 (fun ds S2 => mtD m x ds S2 Q) X) X
  | .m2 o a e, ρ, S, Q, X => wpE G a ρ S (fun x S1 => onS x fun s => wpE G e ρ S1 (fun y S2 => m2D o s y S2 Q) X) X
  | .isi a t, ρ, S, Q, X => wpE G a ρ S (fun x S1 => opt (isTy S1 x t) fun b => Q (.bl b) S1) X
  | .isi2 a t u, ρ, S, Q, X => wpE G a ρ S (fun x S1 => opt (isTy S1 x t) fun b => opt (isTy S1 x u) fun d => Q (.bl (b || d)) S1) X
  | .isx a cs, ρ, S, Q, X => wpE G a ρ S (fun x S1 => onX x fun C => ∃ k, G.adr k = some C ∧ Q (.bl (cs.any (G.sub k))) S1) X
  | .dic, _, S, Q, _ => ∀ p, S p = none → Q (.ref p) (upd S p .dic)
  | .dct ks es, ρ, S, Q, X => wpEs G es ρ S (fun ds S1 => ds.length = ks.length ∧ ∀ p, S1 p = none → Q (.ref p) (upd S1 p (.dct (ks.zip ds)))) X
  | .comp e t it c, ρ, S, Q, X => wpIt G it ρ S (fun items chk S1 => items.length ≤ lim ∧ compW chk (fun d S2 k => asg t d S2 (wipe ρ (tgs t)) fun ρ2 => wpC G c ρ2 S2 (fun b S3 => br b (wpE G e ρ2 S3 (fun x S4 => k (some x) S4) X0) (k none S3))) Q items [] S1) X
  | .new k es, ρ, S, Q, X => wpEs G es ρ S (fun ds S1 => newD G k (fun p => p :: ds) S1 Q X) X
  | .newk k es ks perm, ρ, S, Q, X => wpEs G es ρ S (fun ds S1 => wpEs G ks ρ S1 (fun ws S2 => ds.length = esLen es ∧ ws.length = esLen ks ∧ newD G k (fun p => perm.filterMap fun i => ((p :: ds) ++ ws)[i]?) S2 Q X) X) X
  | .fld a n, ρ, S, Q, X => wpE G a ρ S (fun x S1 => fldD G n x S1 Q) X
  | .prp a n, ρ, S, Q, X => wpE G a ρ S (fun x S1 => mcall G n x [] S1 Q X0) X
  | .ocl a es, ρ, S, Q, X => wpE G a ρ S (fun x S1 => onR x fun _ => wpEs G es ρ S1 (fun ds S2 => mcall G nmCall x ds S2 Q X) X) X
  | .oclk a ks perm, ρ, S, Q, X => wpE G a ρ S (fun x S1 => onR x fun _ => wpEs G ks ρ S1 (fun ws S3 => ws.length = esLen ks ∧ onO S3 x fun C fs => fs.lookup nmCall = none ∧ ∃ k, G.ob k = some C ∧ opt (G.mt k nmCall) fun f => cl (G.fn f) (perm.filterMap fun i => (x :: ws)[i]?) S3 Q X) X) X
  | .mth m a es, ρ, S, Q, X => wpE G a ρ S (fun x S1 => onO S1 x fun C fs => fs.lookup m = none ∧ ∃ k, G.ob k = some C ∧ opt (G.mt k m) fun f => wpEs G es ρ S1 (fun ds S2 => cl (G.fn f) (x :: ds) S2 Q X) X) X
  | .oun a, ρ, S, Q, X => wpE G a ρ S (fun x S1 => mcall G nmNeg x [] S1 Q X) X
  | .oand a b, ρ, S, Q, X => wpE G a ρ S (fun x S1 => wpE G b ρ S1 (fun y S2 => onO S2 x fun C _ => rgtD S2 C y ∧ mcall G nmAnd x [y] S2 Q X) X) X
  | .oeq a b, ρ, S, Q, X => wpE G a ρ S (fun x S1 => wpE G b ρ S1 (fun y S2 => ocmD G x y S2 Q) X) X
  | .oin o a b, ρ, S, Q, X => wpE G a ρ S (fun x S1 => wpE G b ρ S1 (fun y S2 => oinD G o x y S2 Q) X) X
  | .isc a k, ρ, S, Q, X => wpE G a ρ S (fun x S1 => iscD G k x S1 fun b => Q (.bl b) S1) X
def wpC (G : Gm) : Oe → Env → Sto → (Bool → Sto → Prop) → Prop
  | .none, _, S, Q => Q true S
  | .some e, ρ, S, Q => wpE G e ρ S (fun x S1 => onB x fun b => Q b S1) X0
def wpO (G : Gm) : Oe → Env → Sto → (Option Int → Sto → Prop) → XK → Prop
  | .none, _, S, Q, _ => Q none S
  | .some e, ρ, S, Q, X => wpE G e ρ S (fun x S1 => onI x fun i => Q (some i) S1) X
def wpAnd (G : Gm) : Es → Env → Sto → VK → XK → Prop
  | .cons e r, ρ, S, Q, X => wpE G e ρ S (fun x S1 => match r with
    | .nil => Q x S1
    | _ => (onB x fun b => br b (wpAnd G r ρ S1 Q X) (Q (.bl false) S1))) X
  | _, _, _, _, _ => False
def wpOr (G : Gm) : Es → Env → Sto → VK → XK → Prop
  | .cons e r, ρ, S, Q, X => wpE G e ρ S (fun x S1 => match r with
    | .nil => Q x S1
    | _ => (onB x fun b => br b (Q (.bl true) S1) (wpOr G r ρ S1 Q X))) X
  | _, _, _, _, _ => False
def wpEs (G : Gm) : Es → Env → Sto → (List D → Sto → Prop) → XK → Prop
  | .nil, _, S, Q, _ => Q [] S
  | .cons e r, ρ, S, Q, X => wpE G e ρ S (fun x S1 => wpEs G r ρ S1 (fun ds S2 => Q (x :: ds) S2) X) X
  | .star e r, ρ, S, Q, X => wpE G e ρ S (fun x S1 => opt (sqOf S1 x) fun xs => wpEs G r ρ S1 (fun ds S2 => Q (xs ++ ds) S2) X) X
def wpIt (G : Gm) : It → Env → Sto → IK → XK → Prop
  | .seq e, ρ, S, R, X => wpE G e ρ S (fun x S1 => seqD x S1 R) X
  | .rng e, ρ, S, R, X => wpE G e ρ S (fun x S1 => onI x fun j => rngD 0 j S1 R) X
  | .rng2 a b, ρ, S, R, X => wpE G a ρ S (fun x S1 => wpE G b ρ S1 (fun y S2 => onI x fun i => onI y fun j => rngD i j S2 R) X) X
  | .zip a b, ρ, S, R, X => wpE G a ρ S (fun x S1 => wpE G b ρ S1 (fun y S2 => zipD x y S2 R) X) X
  | .zip3 a b c, ρ, S, R, X => wpE G a ρ S (fun x S1 => wpE G b ρ S1 (fun y S2 => wpE G c ρ S2 (fun z S3 => zip3D x y z S3 R) X) X) X
  | .enum e, ρ, S, R, X => wpE G e ρ S (fun x S1 => enumD x S1 R) X
end
structure Kt where
  nx : Env → Sto → Prop
  rt : VK
  bk : Env → Sto → Prop
  xe : Nat → List D → Env → Sto → Prop
mutual
def wpS (G : Gm) : St → Env → Sto → Kt → Prop
  | .set t e, ρ, S, K => wpE G e ρ S (fun x S1 => asg t x S1 ρ fun ρ1 => K.nx ρ1 S1) (fun c fs S1 => K.xe c fs ρ S1)
  | .par i j a b, ρ, S, K => wpE G a ρ S (fun x S1 => wpE G b ρ S1 (fun y S2 => K.nx ((ρ.set i (some x)).set j (some y)) S2) (fun c fs S2 => K.xe c fs ρ S2)) (fun c fs S1 => K.xe c fs ρ S1)
  | .par3 i j l a b c, ρ, S, K => wpE G a ρ S (fun x S1 => wpE G b ρ S1 (fun y S2 => wpE G c ρ S2 (fun z S3 => K.nx (((ρ.set i (some x)).set j (some y)).set l (some z)) S3) (fun c fs S3 => K.xe c fs ρ S3)) (fun c fs S2 => K.xe c fs ρ S2)) (fun c fs S1 => K.xe c fs ρ S1)
  | .nev, _, _, _ => False
  | .six a i e, ρ, S, K => wpE G e ρ S (fun x S1 => wpE G a ρ S1 (fun o S2 => wpE G i ρ S2 (fun y S3 => sixD o y x S3 fun S4 => K.nx ρ S4) (fun c fs S3 => K.xe c fs ρ S3)) (fun c fs S2 => K.xe c fs ρ S2)) (fun c fs S1 => K.xe c fs ρ S1)
  | .fset n a e, ρ, S, K => wpE G e ρ S (fun d S1 => wpE G a ρ S1 (fun x S2 => fsetD G n x d S2 fun S3 => K.nx ρ S3) (fun c fs S2 => K.xe c fs ρ S2)) (fun c fs S1 => K.xe c fs ρ S1)
  | .psx a i j e, ρ, S, K => wpE G e ρ S (fun v S1 => onP v fun x y => wpE G a ρ S1 (fun o S2 => wpE G i ρ S2 (fun z S3 => sixD o z x S3 fun S4 => K.nx (ρ.set j (some y)) S4) (fun c fs S3 => K.xe c fs ρ S3)) (fun c fs S2 => K.xe c fs ρ S2)) (fun c fs S1 => K.xe c fs ρ S1)
  | .ex e, ρ, S, K => wpE G e ρ S (fun _ S1 => K.nx ρ S1) (fun c fs S1 => K.xe c fs ρ S1)
  | .ret e, ρ, S, K => wpE G e ρ S K.rt (fun c fs S1 => K.xe c fs ρ S1)
  | .retn, _, S, K => K.rt .non S
  | .if_ c a b, ρ, S, K => wpE G c ρ S (fun x S1 => onB x fun k => br k (wpSs G a ρ S1 K) (wpSs G b ρ S1 K)) (fun c fs S1 => K.xe c fs ρ S1)
  | .while_ c b, ρ, S, K => ∃ n, whileN (fun ρ1 S1 nx => wpE G c ρ1 S1 (fun x S2 => onB x fun k => br k (wpSs G b ρ1 S2 { K with nx := nx, bk := K.nx }) (K.nx ρ1 S2)) (fun c fs S2 => K.xe c fs ρ1 S2)) n ρ S
  | .for_ t it b, ρ, S, K => wpIt G it ρ S (fun items chk S1 => forW chk (fun d ρ1 S2 nx => asg t d S2 ρ1 fun ρ2 => wpSs G b ρ2 S2 { K with nx := nx, bk := K.nx }) K.nx items ρ S1) (fun c fs S1 => K.xe c fs ρ S1)
  | .brk, ρ, S, K => K.bk ρ S
  | .pass, ρ, S, K => K.nx ρ S
  | .raise c es, ρ, S, K => wpEs G es ρ S (fun ds S1 => K.xe c ds ρ S1) (fun c fs S1 => K.xe c fs ρ S1)
  | .try_ b c i h, ρ, S, K => wpSs G b ρ S { K with xe := fun k fs ρ1 S1 => br (G.sub k c) (∀ C, G.adr k = some C → wpSs G h (ρ1.set i (some (.xn C []))) S1 { nx := fun ρ2 S2 => K.nx (ρ2.set i none) S2, rt := K.rt, bk := fun ρ2 S2 => K.bk (ρ2.set i none) S2, xe := fun _ _ _ _ => False }) (K.xe k fs ρ1 S1) }
def wpSs (G : Gm) : Ss → Env → Sto → Kt → Prop
  | .nil, ρ, S, K => K.nx ρ S
  | .cons s r, ρ, S, K => wpS G s ρ S { K with nx := fun ρ1 S1 => wpSs G r ρ1 S1 K }
end
end M
namespace Snd
open PySem PySem.Spec PyProof.Rows L2
abbrev Frag := PySem.W.Frag
abbrev Sl := L2.St
def stx (x : M.Tx) : Str := ⟨x.toArray⟩
/-- a list that is never written -/
def SqF (K : Frag) (H : Hp) (a : Addr) (xs : List V) : Prop :=
  (∃ o, H a = some (.frz o (.lst xs))) ∨
    ∃ (o : Obj) (its : Array Value) (n : Nat), K.lookup a = some o ∧ o.cls = .type "list" ∧ o.dict = none ∧ o.data = .seq its n ∧ its.size ≤ sizeLine ∧ Vals xs its.toList
theorem SqF.sq {K : Frag} {H : Hp} {a : Addr} {xs : List V} (h : SqF K H a xs) : SqL K H a xs := by
  rcases h with ⟨o, h⟩ | h
  · exact .inl (.inr ⟨o, h⟩)
  · exact .inr h
/-- an error of the class at C stands at a -/
def XO (C a : Addr) : HO := .ext fun h => ∃ (oe : Obj) (vs : Array Value), h.get? a = some oe ∧ Zc (.ref C) none oe ∧ oe.data = .fields vs
mutual
inductive RelD (K : Frag) (H : Hp) : M.D → V → Prop
  | non : RelD K H .non .non
  | bl (b : Bool) : RelD K H (.bl b) (.bl b)
  | int (i : Int) : RelD K H (.int i) (.int i)
  | str (x : M.Tx) : RelD K H (.str x) (.str (stx x))
  | tup {a : Addr} {ds : List M.D} {vs : List V} : SqT K H a vs → RelDs K H ds vs → RelD K H (.tup ds) (.ref a)
  | fl {a : Addr} {ds : List M.D} {vs : List V} : SqF K H a vs → RelDs K H ds vs → RelD K H (.fl ds) (.ref a)
  | ref (a : Addr) : RelD K H (.ref a) (.ref a)
  | xn {C a : Addr} {fs : List M.D} : H a = some (XO C a) → RelD K H (.xn C fs) (.ref a)
inductive RelDs (K : Frag) (H : Hp) : List M.D → List V → Prop
  | nil : RelDs K H [] []
  | cons {d : M.D} {v : V} {ds : List M.D} {vs : List V} : RelD K H d v → RelDs K H ds vs → RelDs K H (d :: ds) (v :: vs)
end
/-- what isinstance asks of a class of objects -/
structure IsO (K : Frag) (C : Addr) : Prop where
  cl : Cls K C
  ha : PySem.W.findIn K (.ref C) "__class__" = some (some (.builtin "object.__class__"))
  hn : PySem.W.specialIn K (.builtin "object.__class__") "__get__" = some (some (.builtin "getset_descriptor.__get__"))
  ht : PySem.W.takesIn K (.builtin "object.__class__") = some true
  hm : PySem.W.mroIn K C (.type "object") = some true
  isb : ∀ n ∈ ["int", "bool", "tuple", "list", "str"], PySem.W.kitOne K (.ref C) (.type n) = some false
def RelO (K : Frag) (H : Hp) (a : Addr) : M.O → Prop
  | .lst ds => ∃ vs, H a = some (.lst vs) ∧ RelDs K H ds vs
  | .dic => H a = some (.dK [])
  | .dct kvs => ∃ vs, H a = some (.dK ((kvs.map fun p => (Sum.inr (stx p.1) : Key)).zip vs)) ∧ RelDs K H (kvs.map (·.2)) vs
  | .ins C fs => ∃ dx vs, H a = some (.ins C dx ((fs.map fun p => stx p.1).zip vs)) ∧ RelDs K H (fs.map (·.2)) vs ∧ IsO K C
def RelS (K : Frag) (H : Hp) (S : M.Sto) : Prop := ∀ a o, S a = some o → RelO K H a o
/-- what was tracked and not in the store is as it was -/
def Fr (S : M.Sto) (H : Hp) (S' : M.Sto) (H' : Hp) : Prop := ∀ a o, H a = some o → S a = none → H' a = some o ∧ S' a = none
section
variable {K : Frag} {H H' H2 : Hp} {S S' S2 : M.Sto}
theorem Fr.refl : Fr S H S H := fun _ _ h n => ⟨h, n⟩
theorem Fr.trans (a : Fr S H S' H') (b : Fr S' H' S2 H2) : Fr S H S2 H2 := fun c o h n => let ⟨h1, n1⟩ := a c o h n; b c o h1 n1
theorem RelS.none (r : RelS K H S) {a : Addr} (h : H a = none) : S a = none := by
  cases e : S a with
  | none => rfl
  | some o =>
    have q := r a o e
    cases o with
    | lst ds => obtain ⟨vs, q, _⟩ := q; rw [h] at q; cases q
    | dic => have q' : H a = _ := q; rw [h] at q'; cases q'
    | dct kvs => obtain ⟨vs, q, _⟩ := q; rw [h] at q; cases q
    | ins C fs => obtain ⟨dx, vs, q, _⟩ := q; rw [h] at q; cases q
theorem RelS.tup (r : RelS K H S) {a : Addr} {vs : List V} (h : H a = some (.tup vs)) : S a = .none := by
  cases e : S a with
  | none => rfl
  | some o =>
    have q := r a o e
    cases o with
    | lst ds => obtain ⟨vs, q, _⟩ := q; rw [h] at q; cases q
    | dic => have q' : H a = _ := q; rw [h] at q'; cases q'
    | dct kvs => obtain ⟨vs, q, _⟩ := q; rw [h] at q; cases q
    | ins C fs => obtain ⟨dx, vs, q, _⟩ := q; rw [h] at q; cases q
theorem RelS.frz (r : RelS K H S) {a : Addr} {ob : Obj} {u : HO} (h : H a = some (.frz ob u)) : S a = .none := by
  cases e : S a with
  | none => rfl
  | some o =>
    have q := r a o e
    cases o with
    | lst ds => obtain ⟨vs, q, _⟩ := q; rw [h] at q; cases q
    | dic => have q' : H a = _ := q; rw [h] at q'; cases q'
    | dct kvs => obtain ⟨vs, q, _⟩ := q; rw [h] at q; cases q
    | ins C fs => obtain ⟨dx, vs, q, _⟩ := q; rw [h] at q; cases q
theorem RelS.xo (r : RelS K H S) {C a : Addr} (h : H a = some (XO C a)) : S a = .none := by
  cases e : S a with
  | none => rfl
  | some o =>
    have q := r a o e
    cases o with
    | lst ds => obtain ⟨vs, q, _⟩ := q; rw [h] at q; cases q
    | dic => have q' : H a = _ := q; rw [h] at q'; cases q'
    | dct kvs => obtain ⟨vs, q, _⟩ := q; rw [h] at q; cases q
    | ins C fs => obtain ⟨dx, vs, q, _⟩ := q; rw [h] at q; cases q
theorem sqt_mono (r : RelS K H S) (f : Fr S H S' H') {a : Addr} {vs : List V} (h : SqT K H a vs) : SqT K H' a vs := by
  rcases h with (h | ⟨o, h⟩) | h
  · exact .inl (.inl (f _ _ h (r.tup h)).1)
  · exact .inl (.inr ⟨o, (f _ _ h (r.frz h)).1⟩)
  · exact .inr h
theorem sqf_mono (r : RelS K H S) (f : Fr S H S' H') {a : Addr} {vs : List V} (h : SqF K H a vs) : SqF K H' a vs := by
  rcases h with ⟨o, h⟩ | h
  · exact .inl ⟨o, (f _ _ h (r.frz h)).1⟩
  · exact .inr h
mutual
theorem RelD.mono (r : RelS K H S) (f : Fr S H S' H') : ∀ {d : M.D} {v : V}, RelD K H d v → RelD K H' d v
  | _, _, .non => .non
  | _, _, .bl b => .bl b
  | _, _, .int i => .int i
  | _, _, .str x => .str x
  | _, _, .tup h t => .tup (sqt_mono r f h) (RelDs.mono r f t)
  | _, _, .fl h t => .fl (sqf_mono r f h) (RelDs.mono r f t)
  | _, _, .ref a => .ref a
  | _, _, .xn h => .xn (f _ _ h (r.xo h)).1
theorem RelDs.mono (r : RelS K H S) (f : Fr S H S' H') : ∀ {ds : List M.D} {vs : List V}, RelDs K H ds vs → RelDs K H' ds vs
  | _, _, .nil => .nil
  | _, _, .cons h t => .cons (RelD.mono r f h) (RelDs.mono r f t)
end
theorem RelDs.length : ∀ {ds : List M.D} {vs : List V}, RelDs K H ds vs → ds.length = vs.length
  | _, _, .nil => rfl
  | _, _, .cons _ t => by rw [List.length_cons, List.length_cons, RelDs.length t]
theorem RelDs.get : ∀ {ds : List M.D} {vs : List V} {i : Nat} {d : M.D}, RelDs K H ds vs → ds[i]? = some d → ∃ v, vs[i]? = some v ∧ RelD K H d v
  | _, _, _, _, .nil, e => by simp at e
  | _, _, 0, d, .cons h _, e => by simp at e; subst e; exact ⟨_, rfl, h⟩
  | _, _, i + 1, d, .cons _ t, e => by
    obtain ⟨v, h1, h2⟩ := RelDs.get (i := i) t (by simpa using e)
    exact ⟨v, by simpa using h1, h2⟩
theorem RelDs.get' : ∀ {ds : List M.D} {vs : List V} {i : Nat} {v : V}, RelDs K H ds vs → vs[i]? = some v → ∃ d, ds[i]? = some d ∧ RelD K H d v
  | _, _, _, _, .nil, e => by simp at e
  | _, _, 0, d, .cons h _, e => by simp at e; subst e; exact ⟨_, rfl, h⟩
  | _, _, i + 1, d, .cons _ t, e => by
    obtain ⟨v, h1, h2⟩ := RelDs.get' (i := i) t (by simpa using e)
    exact ⟨v, by simpa using h1, h2⟩
theorem RelDs.append : ∀ {ds es : List M.D} {vs us : List V}, RelDs K H ds vs → RelDs K H es us → RelDs K H (ds ++ es) (vs ++ us)
  | _, _, _, _, .nil, s => s
  | _, _, _, _, .cons h t, s => .cons h (RelDs.append t s)
theorem RelDs.take : ∀ {ds : List M.D} {vs : List V} (n : Nat), RelDs K H ds vs → RelDs K H (ds.take n) (vs.take n)
  | _, _, 0, _ => .nil
  | _, _, _ + 1, .nil => .nil
  | _, _, n + 1, .cons h t => .cons h (RelDs.take n t)
theorem RelDs.drop : ∀ {ds : List M.D} {vs : List V} (n : Nat), RelDs K H ds vs → RelDs K H (ds.drop n) (vs.drop n)
  | _, _, 0, h => h
  | _, _, _ + 1, .nil => .nil
  | _, _, n + 1, .cons _ t => RelDs.drop n t
theorem RelDs.set : ∀ {ds : List M.D} {vs : List V} {d : M.D} {v : V} (i : Nat), RelD K H d v → RelDs K H ds vs → RelDs K H (ds.set i d) (vs.set i v)
  | _, _, _, _, _, _, .nil => .nil
  | _, _, _, _, 0, q, .cons _ t => .cons q t
  | _, _, _, _, i + 1, q, .cons h t => .cons h (RelDs.set i q t)
theorem RelDs.reverse {ds : List M.D} {vs : List V} (h : RelDs K H ds vs) : RelDs K H ds.reverse vs.reverse := by
  induction ds generalizing vs with
  | nil => cases h; exact .nil
  | cons d ds ih =>
    cases h with
    | cons a b =>
      rw [List.reverse_cons, List.reverse_cons]
      exact (ih b).append (.cons a .nil)
theorem RelDs.dropLast {ds : List M.D} {vs : List V} (h : RelDs K H ds vs) : RelDs K H ds.dropLast vs.dropLast := by
  rw [List.dropLast_eq_take, List.dropLast_eq_take, h.length]
  exact h.take _
theorem RelDs.rep {ds : List M.D} {vs : List V} (h : RelDs K H ds vs) : ∀ k : Nat, RelDs K H (List.replicate k ds).flatten (List.replicate k vs).flatten
  | 0 => .nil
  | k + 1 => by
    rw [List.replicate_succ, List.replicate_succ, List.flatten_cons, List.flatten_cons]
    exact h.append (RelDs.rep h k)
end
/-! ### slots -/
def RelE (K : Frag) (H : Hp) (ρ : M.Env) (σ : Sl) : Prop := ∀ (i : Nat) (d : M.D), ρ[i]? = some (some d) → ∃ v, σ[i]? = some (some v) ∧ RelD K H d v
section
variable {K : Frag} {H H' : Hp} {S S' : M.Sto} {ρ : M.Env} {σ : Sl}
theorem RelE.mono (h : RelE K H ρ σ) (r : RelS K H S) (f : Fr S H S' H') : RelE K H' ρ σ := fun i d e => let ⟨v, h1, h2⟩ := h i d e; ⟨v, h1, h2.mono r f⟩
theorem RelE.set (h : RelE K H ρ σ) (hl : ρ.length = σ.length) {d : M.D} {v : V} (q : RelD K H d v) (i : Nat) : RelE K H (ρ.set i (some d)) (σ.set i (some v)) := fun j e hj => by
  by_cases hi : i = j
  · subst hi
    by_cases hlt : i < ρ.length
    · rw [List.getElem?_set_self hlt] at hj
      cases hj
      exact ⟨v, List.getElem?_set_self (by omega), q⟩
    · rw [List.getElem?_eq_none (by simpa using hlt)] at hj; cases hj
  · rw [List.getElem?_set_ne hi] at hj
    obtain ⟨w, h1, h2⟩ := h j e hj
    exact ⟨w, by rw [List.getElem?_set_ne hi]; exact h1, h2⟩
theorem RelE.unset (h : RelE K H ρ σ) (i : Nat) : RelE K H (ρ.set i none) (σ.set i none) := fun j e hj => by
  by_cases hi : i = j
  · subst hi
    by_cases hlt : i < ρ.length
    · rw [List.getElem?_set_self hlt] at hj; cases hj
    · rw [List.getElem?_eq_none (by simpa using hlt)] at hj; cases hj
  · rw [List.getElem?_set_ne hi] at hj
    obtain ⟨w, h1, h2⟩ := h j e hj
    exact ⟨w, by rw [List.getElem?_set_ne hi]; exact h1, h2⟩
theorem RelE.wipe (h : RelE K H ρ σ) : ∀ is : List Nat, RelE K H (M.wipe ρ is) (L2.wipe σ is)
  | [] => h
  | i :: is => (RelE.wipe h is).unset i
theorem wipe_len (ρ : M.Env) : ∀ is : List Nat, (M.wipe ρ is).length = ρ.length
  | [] => rfl
  | i :: is => by show ((M.wipe ρ is).set i none).length = _; rw [List.length_set, wipe_len ρ is]
end
/-! ### exceptions -/
/-- where a def stands that no global names: a method, a property's getter -/
inductive Pl where | mt (x m : Str) | pr (x f : Str)
/-- text's tables: defs, constants, classes by number -/
structure Tb where
  fns : List Str
  cons : List Str
  cls : List Str
  /-- free names of the built-ins -/
  bts : List Str
  /-- calls with names: the def, how many positional values, the names, the values' places -/
  kws : List (Nat × Nat × List Str × List Nat)
  /-- the first classes are those that are raised -/
  nr : Nat := 0
  /-- is an error handled here -/
  hot : Bool := false
  /-- defs that are called where an error is handled -/
  hots : List Nat := []
  /-- classes of objects, their fields, properties, the defs that no global names -/
  ocs : List Str := []
  fds : List M.Tx := []
  prs : List M.Tx := []
  ats : List (Nat × Pl) := []
  /-- the methods: of the class with the number, by name -/
  mtb : List ((Nat × M.Tx) × Nat) := []
/-- an exception of the class c with the fields fs -/
def RelX (K : Frag) (mg : Str → Option Value) (T : Tb) (c : Nat) (fs : List M.D) (cls : Value) (d : Option Addr) (H : Hp) : Prop :=
  fs = [] ∧ d = none ∧ c < T.nr ∧ ∃ x C, T.cls[c]? = some x ∧ mg x = some (.ref C) ∧ cls = .ref C
/-! ### the readings -/
structure Cn where
  K : Frag
  mg : Str → Option Value
  T : Tb
  G : M.Gm
/-- where an error is handled -/
abbrev Cn.h (c : Cn) : Cn := { c with T := { c.T with hot := true } }
/-- wished of a value -/
def OkV (K : Frag) (S : M.Sto) (H : Hp) (Qd : M.VK) (Q : VK) : Prop := ∀ d S' v H', Fr S H S' H' → RelS K H' S' → RelD K H' d v → Qd d S' → Q v H'
def OkX (c : Cn) (S : M.Sto) (H : Hp) (Xd : M.XK) (W : Value → Option Addr → Hp → Prop) : Prop := ∀ k fs S' H' cls d, Fr S H S' H' → RelS c.K H' S' → RelX c.K c.mg c.T k fs cls d H' → Xd k fs S' → W cls d H'
def tE (c : Cn) (W : WX) (e : M.Ex) : TE := fun σ H Q => ∃ ρ S Qd Xd, ρ.length = σ.length ∧ RelE c.K H ρ σ ∧ RelS c.K H S ∧ M.wpE c.G e ρ S Qd Xd ∧ OkV c.K S H Qd Q ∧ OkX c S H Xd fun cls d H' => W cls d σ H'
def OkL (K : Frag) (S : M.Sto) (H : Hp) (Qd : List M.D → M.Sto → Prop) (Q : List V → Hp → Prop) : Prop := ∀ ds S' vs H', Fr S H S' H' → RelS K H' S' → RelDs K H' ds vs → Qd ds S' → Q vs H'
def tEs (c : Cn) (W : WX) (es : M.Es) : TA := fun σ H Q => ∃ ρ S Qd Xd, ρ.length = σ.length ∧ RelE c.K H ρ σ ∧ RelS c.K H S ∧ M.wpEs c.G es ρ S Qd Xd ∧ OkL c.K S H Qd Q ∧ OkX c S H Xd fun cls d H' => W cls d σ H'
/-- a def's promise -/
def lift (c : Cn) (sp : M.Sp) : L2.Sp := fun vs H Q E => ∃ ds S Qd Xd, RelDs c.K H ds vs ∧ RelS c.K H S ∧ sp ds S Qd Xd ∧ OkV c.K S H Qd Q ∧ OkX c S H Xd E
section
variable {K : Frag} {S S' : M.Sto} {H H' : Hp}
theorem OkV.after {Qd : M.VK} {Q : VK} (h : OkV K S H Qd Q) (f : Fr S H S' H') : OkV K S' H' Qd Q := fun d S2 v H2 f2 r2 rd q => h d S2 v H2 (f.trans f2) r2 rd q
theorem OkL.after {Qd : List M.D → M.Sto → Prop} {Q : List V → Hp → Prop} (h : OkL K S H Qd Q) (f : Fr S H S' H') : OkL K S' H' Qd Q := fun d S2 v H2 f2 r2 rd q => h d S2 v H2 (f.trans f2) r2 rd q
theorem OkX.after {c : Cn} {Xd : M.XK} {W : Value → Option Addr → Hp → Prop} (h : OkX c S H Xd W) (f : Fr S H S' H') : OkX c S' H' Xd W := fun k fs S2 H2 cls d f2 r2 rx q => h k fs S2 H2 cls d (f.trans f2) r2 rx q
end
theorem PE.imp {X : Cx} {e : Expr} {t t' : TE} (h : PE X e t) (i : ∀ σ H Q, t' σ H Q → t σ H Q) : PE X e t' := ⟨fun pins s σ H Q I q => h.run pins s σ H Q I (i σ H Q q)⟩
theorem PT.imp {X : Cx} {e : Expr} {t t' : TT} (h : PT X e t) (i : ∀ σ H Q, t' σ H Q → t σ H Q) : PT X e t' := ⟨fun pins s σ H Q I q => h.run pins s σ H Q I (i σ H Q q)⟩
theorem PA.imp {X : Cx} {e : List Expr} {t t' : TA} (h : PA X e t) (i : ∀ σ H Q, t' σ H Q → t σ H Q) : PA X e t' := ⟨fun pos pins s σ H Q I q => h.run pos pins s σ H Q I (i σ H Q q)⟩
end Snd
namespace Snd
open PySem PySem.Spec PyProof.Rows L2
/-! ### the heap grows -/
section
variable {K : Frag} {S : M.Sto} {H : Hp} {p : Addr} {o : HO}
theorem Fr.laid (hp : H p = none) : Fr S H S (L2.upd H p o) := fun a ob h n => ⟨by rw [L2.upd_ne (ne_of_none h hp)]; exact h, n⟩
theorem mupd_same {S : M.Sto} {a : Nat} {o : M.O} : M.upd S a o a = some o := by unfold M.upd; rw [if_pos rfl]
theorem mupd_ne {S : M.Sto} {a b : Nat} {o : M.O} (h : b ≠ a) : M.upd S a o b = S b := by unfold M.upd; rw [if_neg h]
theorem Fr.laidS {mo : M.O} (hp : H p = none) : Fr S H (M.upd S p mo) (L2.upd H p o) := fun a ob h n =>
  have ne := ne_of_none h hp
  ⟨by rw [L2.upd_ne ne]; exact h, by rw [mupd_ne ne]; exact n⟩
theorem RelO.mono {S' : M.Sto} {H' : Hp} (r : RelS K H S) (f : Fr S H S' H') {a : Addr} {mo : M.O} (h : RelO K H a mo) (k : ∀ ob, H a = some ob → H' a = some ob) : RelO K H' a mo := by
  cases mo with
  | lst ds => obtain ⟨vs, h1, h2⟩ := h; exact ⟨vs, k _ h1, h2.mono r f⟩
  | dic => exact k _ h
  | dct kvs => obtain ⟨vs, h1, h2⟩ := h; exact ⟨vs, k _ h1, h2.mono r f⟩
  | ins C fs => obtain ⟨dx, vs, h1, h2, h3⟩ := h; exact ⟨dx, vs, k _ h1, h2.mono r f, h3⟩
theorem RelS.there (r : RelS K H S) {a : Addr} {mo : M.O} (h : S a = some mo) : ∃ ob, H a = some ob := by
  have q := r a mo h
  cases mo with
  | lst ds => obtain ⟨vs, h1, _⟩ := q; exact ⟨_, h1⟩
  | dic => exact ⟨_, q⟩
  | dct kvs => obtain ⟨vs, h1, _⟩ := q; exact ⟨_, h1⟩
  | ins C fs => obtain ⟨dx, vs, h1, _⟩ := q; exact ⟨_, h1⟩
theorem RelS.laid (r : RelS K H S) (hp : H p = Option.none) : RelS K (L2.upd H p o) S := fun a mo h => by
  obtain ⟨ob, hb⟩ := r.there h
  exact (r a mo h).mono r (Fr.laid hp) fun ob h1 => by rw [L2.upd_ne (ne_of_none h1 hp)]; exact h1
theorem RelS.lst (r : RelS K H S) (hp : H p = Option.none) {ds : List M.D} {vs : List V} (h : RelDs K H ds vs) : RelS K (L2.upd H p (.lst vs)) (M.upd S p (.lst ds)) := fun a mo e => by
  have f : Fr S H (M.upd S p (.lst ds)) (L2.upd H p (.lst vs)) := Fr.laidS hp
  by_cases ha : a = p
  · subst ha
    rw [mupd_same] at e
    cases e
    exact ⟨vs, L2.upd_same, h.mono r f⟩
  · rw [mupd_ne ha] at e
    exact (r a mo e).mono r f fun ob h1 => by rw [L2.upd_ne ha]; exact h1
theorem RelS.dic (r : RelS K H S) (hp : H p = Option.none) : RelS K (L2.upd H p (.dK [])) (M.upd S p .dic) := fun a mo e => by
  have f : Fr S H (M.upd S p .dic) (L2.upd H p (.dK [])) := Fr.laidS hp
  by_cases ha : a = p
  · subst ha
    rw [mupd_same] at e
    cases e
    exact L2.upd_same
  · rw [mupd_ne ha] at e
    exact (r a mo e).mono r f fun ob h1 => by rw [L2.upd_ne ha]; exact h1
theorem RelS.dct (r : RelS K H S) (hp : H p = Option.none) {ks : List M.Tx} {ds : List M.D} {vs : List V} (hl : ds.length = ks.length) (h : RelDs K H ds vs) : RelS K (L2.upd H p (.dK ((ks.map fun k => (Sum.inr (stx k) : Key)).zip vs))) (M.upd S p (.dct (ks.zip ds))) := fun a mo e => by
  have f : Fr S H (M.upd S p (.dct (ks.zip ds))) (L2.upd H p (.dK ((ks.map fun k => (Sum.inr (stx k) : Key)).zip vs))) := Fr.laidS hp
  by_cases ha : a = p
  · subst ha
    rw [mupd_same] at e
    cases e
    have e1 : ((ks.zip ds).map fun p => (Sum.inr (stx p.1) : Key)) = ks.map fun k => (Sum.inr (stx k) : Key) := by
      have : ((ks.zip ds).map fun p => (Sum.inr (stx p.1) : Key)) = ((ks.zip ds).map (·.1)).map fun k => (Sum.inr (stx k) : Key) := by rw [List.map_map]; rfl
      rw [this, List.map_fst_zip (by omega)]
    have e2 : (ks.zip ds).map (·.2) = ds := List.map_snd_zip (by omega)
    exact ⟨vs, by rw [e1]; exact L2.upd_same, by rw [e2]; exact h.mono r f⟩
  · rw [mupd_ne ha] at e
    exact (r a mo e).mono r f fun ob h1 => by rw [L2.upd_ne ha]; exact h1
/-- a list of the store is written -/
theorem Fr.wr {xs : List M.D} {a : Addr} {mo : M.O} (h : S a = some (.lst xs)) : Fr S H (M.upd S a mo) (L2.upd H a o) := fun b ob hb n => by
  have ne : b ≠ a := fun z => by rw [z, h] at n; cases n
  exact ⟨by rw [L2.upd_ne ne]; exact hb, by rw [mupd_ne ne]; exact n⟩
theorem RelS.wr (r : RelS K H S) {xs ds : List M.D} {vs : List V} {a : Addr} (h : S a = some (.lst xs)) (hd : RelDs K H ds vs) : RelS K (L2.upd H a (.lst vs)) (M.upd S a (.lst ds)) := fun b mo e => by
  have f : Fr S H (M.upd S a (.lst ds)) (L2.upd H a (.lst vs)) := Fr.wr h
  by_cases hb : b = a
  · subst hb
    rw [mupd_same] at e
    cases e
    exact ⟨vs, L2.upd_same, hd.mono r f⟩
  · rw [mupd_ne hb] at e
    exact (r b mo e).mono r f fun ob h1 => by rw [L2.upd_ne hb]; exact h1
end
section
variable {K : Frag} {S : M.Sto} {H : Hp} {Qd : M.VK} {Q : VK}
theorem OkV.same (h : OkV K S H Qd Q) (r : RelS K H S) {d : M.D} {v : V} (rd : RelD K H d v) (q : Qd d S) : Q v H := h d S v H Fr.refl r rd q
/-- a new tuple -/
theorem OkV.newT (h : OkV K S H Qd Q) (r : RelS K H S) {ds : List M.D} {vs : List V} (rd : RelDs K H ds vs) (q : Qd (.tup ds) S) : ∀ p, H p = none → Q (.ref p) (L2.upd H p (.tup vs)) := fun p hp =>
  h _ _ _ _ (Fr.laid hp) (r.laid hp) (.tup (SqT.of L2.upd_same) (rd.mono r (Fr.laid hp))) q
/-- a new list -/
theorem OkV.newL (h : OkV K S H Qd Q) (r : RelS K H S) {ds : List M.D} {vs : List V} (rd : RelDs K H ds vs) (q : ∀ p, S p = none → Qd (.ref p) (M.upd S p (.lst ds))) : ∀ p, H p = none → Q (.ref p) (L2.upd H p (.lst vs)) := fun p hp =>
  h _ _ _ _ (Fr.laidS hp) (r.lst hp rd) (.ref p) (q p (r.none hp))
end
theorem stx_len (x : M.Tx) : (stx x).length = x.length := by
  show x.toArray.size = _
  simp
theorem stx_app (x y : M.Tx) : stx x ++ stx y = stx (x ++ y) := by
  show Str.append _ _ = _
  unfold Str.append stx
  simp
theorem stx_cps (x : M.Tx) : (stx x).cps.toList = x := by unfold stx; simp
theorem stx_inj {x y : M.Tx} : stx x = stx y ↔ x = y := by
  constructor
  · intro h
    have := congrArg (fun z : Str => z.cps.toList) h
    simpa [stx] using this
  · rintro rfl; rfl
theorem lim_eq : M.lim = sizeLine := by rw [sizeLine_eq]; rfl
theorem log_lt {x n : Nat} (h0 : 0 < n) (h : x < 2 ^ n) : x.log2 < n := by
  by_cases h1 : x = 0
  · subst h1
    rw [Nat.log2_zero]
    exact h0
  · exact (Nat.log2_lt h1).mpr h
theorem sm_log {i : Int} (h : M.sm i) : i.natAbs.log2 < 4000 := by
  unfold M.sm M.big at h
  exact log_lt (Nat.succ_pos _) h
theorem smd_log {i : Int} (h : M.smd i) : i.natAbs.log2 < 8500 := by
  unfold M.smd M.bigd at h
  exact log_lt (Nat.succ_pos _) h
theorem opt_of {α : Type} {o : Option α} {P : α → Prop} (h : M.opt o P) : ∃ a, o = some a ∧ P a := by
  cases o with
  | none => exact False.elim h
  | some a => exact ⟨a, rfl, h⟩
theorem onI_of {d : M.D} {P : Int → Prop} (h : M.onI d P) : ∃ i, d = .int i ∧ P i := by
  cases d with
  | int i => exact ⟨i, rfl, h⟩
  | _ => exact False.elim h
theorem onB_of {d : M.D} {P : Bool → Prop} (h : M.onB d P) : ∃ i, d = .bl i ∧ P i := by
  cases d with
  | bl i => exact ⟨i, rfl, h⟩
  | _ => exact False.elim h
theorem onR_of {d : M.D} {P : Nat → Prop} (h : M.onR d P) : ∃ i, d = .ref i ∧ P i := by
  cases d with
  | ref i => exact ⟨i, rfl, h⟩
  | _ => exact False.elim h
theorem lstAt_some {S : M.Sto} {a : Nat} {xs : List M.D} (h : M.lstAt S a = some xs) : S a = some (.lst xs) := by
  unfold M.lstAt at h
  cases e : S a with
  | none => rw [e] at h; cases h
  | some o =>
    rw [e] at h
    cases o with
    | dic => cases h
    | dct kvs => cases h
    | ins C fs => cases h
    | lst ys => cases h; rfl
theorem lstAt_of {S : M.Sto} {a : Nat} {xs : List M.D} (h : S a = some (.lst xs)) : M.lstAt S a = some xs := by
  unfold M.lstAt
  rw [h] <;> rfl
theorem RelS.at {K : Frag} {H : Hp} {S : M.Sto} (r : RelS K H S) {a : Nat} {xs : List M.D} (h : M.lstAt S a = some xs) : ∃ vs, H a = some (.lst vs) ∧ RelDs K H xs vs := r a _ (lstAt_some h)
/-- a list, by value or of the store, to be read -/
theorem lsOf_rel {K : Frag} {H : Hp} {S : M.Sto} (r : RelS K H S) {d : M.D} {v : V} {xs : List M.D} (rd : RelD K H d v) (h : M.lsOf S d = some xs) : ∃ a vs, v = .ref a ∧ SqL K H a vs ∧ RelDs K H xs vs := by
  cases rd with
  | ref a => obtain ⟨vs, h1, h2⟩ := r.at h; exact ⟨a, vs, rfl, SqL.of h1, h2⟩
  | fl h1 h2 => cases h; exact ⟨_, _, rfl, h1.sq, h2⟩
  | _ => cases h
theorem sqOf_rel {K : Frag} {H : Hp} {S : M.Sto} (r : RelS K H S) {d : M.D} {v : V} {xs : List M.D} (rd : RelD K H d v) (h : M.sqOf S d = some xs) : ∃ a vs, v = .ref a ∧ (SqL K H a vs ∨ SqT K H a vs) ∧ RelDs K H xs vs := by
  cases rd with
  | ref a => obtain ⟨vs, h1, h2⟩ := r.at h; exact ⟨a, vs, rfl, .inl (SqL.of h1), h2⟩
  | fl h1 h2 => cases h; exact ⟨_, _, rfl, .inl h1.sq, h2⟩
  | tup h1 h2 => cases h; exact ⟨_, _, rfl, .inr h1, h2⟩
  | _ => cases h
/-! ### two-place operators -/
def rB (K : Frag) (o : M.Bo) : R2 := fun v u H Q => ∃ x y S Qd, RelS K H S ∧ RelD K H x v ∧ RelD K H y u ∧ M.binD o x y S Qd ∧ OkV K S H Qd Q
def boOk : M.Bo → Operator → Bool
  | .add, .Add => true | .sub, .Sub => true | .mul, .Mult => true | .fdiv, .FloorDiv => true | .mod, .Mod => true | .pow, .Pow => true
  | _, _ => false
section
variable {X : Cx}
theorem ob_add : OpR X (binaryOp .Add) (rB X.K .add) := by
  intro pins s σ H v u vv uu Q I rv ru h
  obtain ⟨x, y, S, Qd, r, rx, ry, w, hq⟩ := h
  cases rx with
  | int i =>
    cases ry with
    | int j => exact op_add pins s σ H _ _ vv uu Q I rv ru ⟨i, j, rfl, rfl, hq.same r (.int _) w⟩
    | _ => exact False.elim w
  | str a =>
    cases ry with
    | str b =>
      obtain ⟨hz, w⟩ := w
      exact op_add_str pins s σ H _ _ vv uu Q I rv ru ⟨_, _, rfl, rfl, by rw [stx_len, stx_len, ← lim_eq]; exact hz, by rw [stx_app]; exact hq.same r (.str _) w⟩
    | _ => exact False.elim w
  | tup hs hd =>
    cases ry with
    | tup hs2 hd2 =>
      obtain ⟨hz, w⟩ := w
      refine op_catA pins s σ H _ _ vv uu Q I rv ru ⟨_, _, _, _, rfl, rfl, hs, hs2, by rw [← hd.length, ← hd2.length, ← lim_eq]; exact hz, fun e => ?_, fun _ e => ?_, fun _ _ => hq.newT r (hd.append hd2) w⟩
      · subst e
        cases hd
        exact hq.same r (.tup hs2 hd2) w
      · subst e
        cases hd2
        rw [List.append_nil] at w
        exact hq.same r (.tup hs hd) w
    | _ => exact False.elim w
  | ref a =>
    cases ry with
    | ref b =>
      obtain ⟨xs, e1, w⟩ := opt_of w
      obtain ⟨ys, e2, hz, w⟩ := opt_of w
      obtain ⟨vs, h1, d1⟩ := r.at e1
      obtain ⟨us, h2, d2⟩ := r.at e2
      refine op_cat pins s σ H _ _ vv uu Q I rv ru ⟨a, b, vs, us, rfl, rfl, h1, h2, ?_, hq.newL r (d1.append d2) w⟩
      rw [← d1.length, ← d2.length, ← lim_eq, ← List.length_append]
      exact hz
    | _ => exact False.elim w
  | _ => exact False.elim w
theorem ob_sub : OpR X (binaryOp .Sub) (rB X.K .sub) := by
  intro pins s σ H v u vv uu Q I rv ru h
  obtain ⟨x, y, S, Qd, r, rx, ry, w, hq⟩ := h
  obtain ⟨i, rfl, w⟩ := onI_of w
  obtain ⟨j, rfl, w⟩ := onI_of w
  cases rx
  cases ry
  exact op_sub pins s σ H _ _ vv uu Q I rv ru ⟨i, j, rfl, rfl, hq.same r (.int _) w⟩
theorem ob_mul : OpR X (binaryOp .Mult) (rB X.K .mul) := by
  intro pins s σ H v u vv uu Q I rv ru h
  obtain ⟨x, y, S, Qd, r, rx, ry, w, hq⟩ := h
  cases rx with
  | int i =>
    cases ry with
    | int j =>
      obtain ⟨s1, s2, w⟩ := w
      have l1 := sm_log s1
      have l2 := sm_log s2
      exact op_mulW pins s σ H _ _ vv uu Q I rv ru ⟨i, j, rfl, rfl, by show _ + _ < 1000000; omega, hq.same r (.int _) w⟩
    | _ => exact False.elim w
  | ref a =>
    cases ry with
    | int k =>
      obtain ⟨xs, e1, k0, k1, hz, w⟩ := opt_of w
      obtain ⟨vs, h1, d1⟩ := r.at e1
      refine op_rep pins s σ H _ _ vv uu Q I rv ru ⟨a, k, vs, rfl, rfl, h1, by omega, by omega, ?_, hq.newL r (d1.rep _) w⟩
      rw [List.length_flatten, List.map_replicate, List.sum_replicate_nat] at hz
      rw [← d1.length, ← lim_eq, Nat.mul_comm]
      exact hz
    | _ => exact False.elim w
  | _ => exact False.elim w
theorem ob_fdiv : OpR X (binaryOp .FloorDiv) (rB X.K .fdiv) := by
  intro pins s σ H v u vv uu Q I rv ru h
  obtain ⟨x, y, S, Qd, r, rx, ry, w, hq⟩ := h
  obtain ⟨i, rfl, w⟩ := onI_of w
  obtain ⟨j, rfl, w⟩ := onI_of w
  cases rx
  cases ry
  obtain ⟨s1, s2, w⟩ := w
  obtain ⟨t, rfl⟩ := rv
  obtain ⟨t', rfl⟩ := ru
  have l2 := smd_log s2
  exact floordiv_int s1 ⟨.int (i.fdiv j), H, I.tok _, ⟨_, rfl⟩, hq.same r (.int _) w⟩ (.inl (PyProof.noPylong_of_log2 (by omega)))
theorem ob_mod : OpR X (binaryOp .Mod) (rB X.K .mod) := by
  intro pins s σ H v u vv uu Q I rv ru h
  obtain ⟨x, y, S, Qd, r, rx, ry, w, hq⟩ := h
  obtain ⟨i, rfl, w⟩ := onI_of w
  obtain ⟨j, rfl, w⟩ := onI_of w
  cases rx
  cases ry
  obtain ⟨s1, w⟩ := w
  exact op_modN pins s σ H _ _ vv uu Q I rv ru ⟨i, j, rfl, rfl, s1, hq.same r (.int _) w⟩
theorem ob_pow : OpR X (binaryOp .Pow) (rB X.K .pow) := by
  intro pins s σ H v u vv uu Q I rv ru h
  obtain ⟨x, y, S, Qd, r, rx, ry, w, hq⟩ := h
  obtain ⟨i, rfl, w⟩ := onI_of w
  obtain ⟨j, rfl, w⟩ := onI_of w
  cases rx
  cases ry
  obtain ⟨s1, s2, s3, w⟩ := w
  obtain ⟨t, rfl⟩ := rv
  obtain ⟨t', rfl⟩ := ru
  have l1 := sm_log s1
  have b : (Builtin.Int.intBits i : Int) ≤ 4001 := by
    unfold Builtin.Int.intBits
    split <;> omega
  refine PyProof.Rows.pow_int s2 ?_ ⟨.int (i ^ j.toNat), H, I.tok _, ⟨_, rfl⟩, hq.same r (.int _) w⟩
  have : (Builtin.Int.intBits i : Int) * j ≤ 4001 * 1000 := by
    refine Int.le_trans (Int.mul_le_mul_of_nonneg_right b s2) ?_
    omega
  omega
theorem ob_all : ∀ {o : M.Bo} {p : Operator} (h : boOk o p = true), OpR X (binaryOp p) (rB X.K o)
  | .add, .Add, _ => ob_add
  | .sub, .Sub, _ => ob_sub
  | .mul, .Mult, _ => ob_mul
  | .fdiv, .FloorDiv, _ => ob_fdiv
  | .mod, .Mod, _ => ob_mod
  | .pow, .Pow, _ => ob_pow
end
end Snd
namespace Snd
open PySem PySem.Spec PyProof.Rows L2
/-! ### == of data -/
def toP : Nat → M.Sto → M.D → PyData
  | 0, _, _ => .none
  | n + 1, S, d => (match d with
    | .non => .none
    | .bl b => .bool b
    | .int i => .int i
    | .str x => .str (stx x)
    | .tup xs => .tuple (xs.map (toP n S))
    | .fl xs => .list (xs.map (toP n S))
    | .ref a => .list (((M.lstAt S a).getD []).map (toP n S))
    | .xn _ _ => .none)
theorem optB_of {α : Type} {o : Option α} {P : α → Bool} (h : M.optB o P = true) : ∃ a, o = some a ∧ P a = true := by
  cases o with
  | none => cases h
  | some a => exact ⟨a, rfl, h⟩
theorem depthAll_le {n : Nat} {f : M.D → PyData} (h : ∀ d, (f d).depth ≤ n) : ∀ xs : List M.D, PyData.depthAll (xs.map f) ≤ n
  | [] => Nat.zero_le _
  | x :: xs => by
    rw [List.map_cons]
    unfold PyData.depthAll
    exact Nat.max_le.mpr ⟨h x, depthAll_le h xs⟩
theorem toP_depth : ∀ (n : Nat) (S : M.Sto) (d : M.D), (toP n S d).depth ≤ n
  | 0, _, _ => by simp [toP, PyData.depth]
  | n + 1, S, d => by
    unfold toP
    have ih := toP_depth n S
    cases d with
    | tup xs => simp only [PyData.depth]; have := depthAll_le ih xs; omega
    | fl xs => simp only [PyData.depth]; have := depthAll_le ih xs; omega
    | ref a => simp only [PyData.depth]; have := depthAll_le ih ((M.lstAt S a).getD []); omega
    | _ => simp [PyData.depth]
theorem canAll {f : M.D → PyData} {ok : M.D → Bool} (h : ∀ d, ok d = true → (f d).canLay0 = true) : ∀ {xs : List M.D}, M.fitL ok xs = true → PyData.canLayAll0 (xs.map f) = true
  | [], _ => by simp [PyData.canLayAll0]
  | x :: xs, e => by
    unfold M.fitL at e
    obtain ⟨e1, e2⟩ := Bool.and_eq_true_iff.mp e
    rw [List.map_cons]
    unfold PyData.canLayAll0
    rw [h x e1, canAll h e2]
    rfl
theorem fit_lay : ∀ {n : Nat} {S : M.Sto} {d : M.D}, M.fit n S d = true → (toP n S d).canLay0 = true
  | 0, _, _, h => by simp [M.fit] at h
  | n + 1, S, d, h => by
    unfold M.fit at h
    unfold toP
    have ih : ∀ d, M.fit n S d = true → (toP n S d).canLay0 = true := fun d => fit_lay
    cases d with
    | tup xs => simp only [PyData.canLay0]; exact canAll ih h
    | fl xs => simp only [PyData.canLay0]; exact canAll ih h
    | ref a =>
      obtain ⟨xs, e, h⟩ := optB_of h
      simp only [PyData.canLay0, e, Option.getD_some]; exact canAll ih h
    | str x =>
      simp only [PyData.canLay0, PyData.strOk, stx]
      simpa using h
    | xn c fs => cases h
    | _ => simp [PyData.canLay0]
section
variable {K : Frag} {H : Hp} {S : M.Sto}
theorem dpAll {f : M.D → PyData} {ok : M.D → Bool} (h : ∀ d v, ok d = true → RelD K H d v → Dp K H v (f d)) : ∀ {xs : List M.D} {vs : List V}, M.fitL ok xs = true → RelDs K H xs vs → DpAll K H vs (xs.map f)
  | [], _, _, .nil => .nil
  | x :: xs, _, e, .cons a b => by
    unfold M.fitL at e
    obtain ⟨e1, e2⟩ := Bool.and_eq_true_iff.mp e
    exact .cons (h x _ e1 a) (dpAll h e2 b)
theorem fit_dp (r : RelS K H S) : ∀ {n : Nat} {d : M.D} {v : V}, M.fit n S d = true → RelD K H d v → Dp K H v (toP n S d)
  | 0, _, _, h, _ => by simp [M.fit] at h
  | n + 1, d, v, h, rd => by
    unfold M.fit at h
    unfold toP
    have ih : ∀ d v, M.fit n S d = true → RelD K H d v → Dp K H v (toP n S d) := fun d v => fit_dp r
    cases rd with
    | non => exact .non
    | bl b => exact .bl b
    | int i => exact .int i
    | str x => exact .str _
    | tup hs hd => exact .tup hs (dpAll ih h hd)
    | fl hs hd => exact .lst hs.sq (dpAll ih h hd)
    | ref a =>
      obtain ⟨xs, e, h⟩ := optB_of h
      obtain ⟨vs, h1, h2⟩ := r.at e
      simp only [e, Option.getD_some]
      exact .lst (SqL.of h1) (dpAll ih h h2)
    | xn _ => cases h
theorem eqLB_ok {f : M.D → PyData} {ok : M.D → Bool} {eq : M.D → M.D → Bool} (h : ∀ x y, ok x = true → ok y = true → eq x y = PyData.eqv (f x) (f y)) :
    ∀ xs ys : List M.D, M.fitL ok xs = true → M.fitL ok ys = true → M.eqLB eq xs ys = PyData.eqvAll (xs.map f) (ys.map f)
  | [], [], _, _ => by simp [M.eqLB, PyData.eqvAll]
  | [], _ :: _, _, _ => by simp [M.eqLB, PyData.eqvAll]
  | _ :: _, [], _, _ => by simp [M.eqLB, PyData.eqvAll]
  | x :: xs, y :: ys, h1, h2 => by
    unfold M.fitL at h1 h2
    obtain ⟨a1, a2⟩ := Bool.and_eq_true_iff.mp h1
    obtain ⟨b1, b2⟩ := Bool.and_eq_true_iff.mp h2
    simp only [M.eqLB, List.map_cons, PyData.eqvAll, h x y a1 b1, eqLB_ok h xs ys a2 b2]
theorem stx_beq (x y : M.Tx) : (stx x == stx y) = (x == y) := by
  rw [Bool.eq_iff_iff]
  simp [stx_inj]
/-- a list of the store reads like one by value -/
theorem ref_fl {n : Nat} {a : Nat} {xs : List M.D} (e : M.lstAt S a = some xs) : toP (n + 1) S (.ref a) = toP (n + 1) S (.fl xs) ∧ M.fit (n + 1) S (.ref a) = M.fit (n + 1) S (.fl xs) ∧ (∀ y, M.eqB (n + 1) S (.ref a) y = M.eqB (n + 1) S (.fl xs) y) ∧ ∀ y, M.eqB (n + 1) S y (.ref a) = M.eqB (n + 1) S y (.fl xs) := by
  refine ⟨?_, ?_, fun y => ?_, fun y => ?_⟩
  · show PyData.list (((M.lstAt S a).getD []).map (toP n S)) = PyData.list (xs.map (toP n S))
    rw [e] <;> rfl
  · show M.optB (M.lstAt S a) (M.fitL (M.fit n S)) = M.fitL (M.fit n S) xs
    rw [e] <;> rfl
  · have q : M.eqO (M.eqLB (M.eqB n S)) (M.lstAt S a) (M.lsOf S y) = M.eqO (M.eqLB (M.eqB n S)) (some xs) (M.lsOf S y) := by rw [e]
    cases y <;> exact q
  · cases y <;> first
      | rfl
      | (rename_i b; exact (show M.eqO (M.eqLB (M.eqB n S)) (M.lstAt S b) (M.lstAt S a) = M.eqO (M.eqLB (M.eqB n S)) (M.lstAt S b) (some xs) by rw [e]))
      | (rename_i ys; exact (show M.eqO (M.eqLB (M.eqB n S)) (some ys) (M.lstAt S a) = M.eqO (M.eqLB (M.eqB n S)) (some ys) (some xs) by rw [e]))
theorem fit_ref {n : Nat} {a : Nat} (h : M.fit (n + 1) S (.ref a) = true) : ∃ xs, M.lstAt S a = some xs := let ⟨xs, e, _⟩ := optB_of h; ⟨xs, e⟩
theorem eqv_tl {xs ys : List PyData} : PyData.eqv (.tuple xs) (.list ys) = false ∧ PyData.eqv (.list xs) (.tuple ys) = false := by
  constructor <;> simp [PyData.eqv]
theorem eqB_ok (S : M.Sto) (n : Nat) : ∀ (x y : M.D), M.fit n S x = true → M.fit n S y = true → M.eqB n S x y = PyData.eqv (toP n S x) (toP n S y) := by
  induction n with
  | zero => intro _ _ h _; simp [M.fit] at h
  | succ n ih =>
    have main : ∀ (x y : M.D), (∀ a, x ≠ .ref a) → (∀ a, y ≠ .ref a) → M.fit (n + 1) S x = true → M.fit (n + 1) S y = true → M.eqB (n + 1) S x y = PyData.eqv (toP (n + 1) S x) (toP (n + 1) S y) := by
      intro x y nx ny h1 h2
      cases x <;> cases y <;> first
        | exact absurd rfl (nx _)
        | exact absurd rfl (ny _)
        | exact absurd (show false = true from h1) Bool.false_ne_true
        | exact absurd (show false = true from h2) Bool.false_ne_true
        | (show M.eqLB (M.eqB n S) _ _ = PyData.eqv (.tuple _) (.tuple _); rw [PyData.eqv]; exact eqLB_ok ih _ _ h1 h2)
        | (show M.eqLB (M.eqB n S) _ _ = PyData.eqv (.list _) (.list _); rw [PyData.eqv]; exact eqLB_ok ih _ _ h1 h2)
        | (show (_ == _) = PyData.eqv (.str _) (.str _); rw [PyData.eqv, stx_beq])
        | (show _ = PyData.eqv _ _; unfold toP; simp only [PyData.eqv]; rfl)
    have m2 : ∀ (x y : M.D), (∀ a, x ≠ .ref a) → M.fit (n + 1) S x = true → M.fit (n + 1) S y = true → M.eqB (n + 1) S x y = PyData.eqv (toP (n + 1) S x) (toP (n + 1) S y) := by
      intro x y nx h1 h2
      by_cases hy : ∃ a, y = .ref a
      · obtain ⟨a, rfl⟩ := hy
        obtain ⟨xs, e⟩ := fit_ref h2
        obtain ⟨e1, e2, _, e4⟩ := ref_fl (n := n) e
        rw [e1, e4]
        exact main _ _ nx (fun _ z => nomatch z) h1 (by rw [← e2]; exact h2)
      · exact main _ _ nx (fun a z => hy ⟨a, z⟩) h1 h2
    intro x y h1 h2
    by_cases hx : ∃ a, x = .ref a
    · obtain ⟨a, rfl⟩ := hx
      obtain ⟨xs, e⟩ := fit_ref h1
      obtain ⟨e1, e2, e3, _⟩ := ref_fl (n := n) e
      rw [e1, e3]
      exact m2 _ _ (fun _ z => nomatch z) (by rw [← e2]; exact h1) h2
    · exact m2 _ _ (fun a z => hx ⟨a, z⟩) h1 h2
theorem shaped_of {n : Nat} {d : M.D} (hn : n ≤ 32) (h : M.fit n S d = true) : SeqAt.shaped (toP n S d) = true := by
  unfold SeqAt.shaped
  rw [fit_lay h]
  have := toP_depth n S d
  simp only [Bool.true_and, decide_eq_true_eq]
  omega
end
end Snd
namespace Snd
open PySem PySem.Spec PyProof.Rows L2
/-! ### comparisons -/
def coOk : M.Co → CmpOp → Bool
  | .eq, .Eq => true | .ne, .NotEq => true | .lt, .Lt => true | .le, .LtE => true | .gt, .Gt => true | .ge, .GtE => true
  | .is_, .Is => true | .isn, .IsNot => true | .in_, .In => true | .nin, .NotIn => true
  | _, _ => false
def rCm (K : Frag) (o : M.Co) : R2 := fun v u H Q => ∃ x y S P, RelS K H S ∧ RelD K H x v ∧ RelD K H y u ∧ M.cmpD o x y S P ∧ ∀ b, P b → Q (.bl b) H
section
variable {X : Cx}
theorem oc_lt : OpR X (compareOp .Lt) (rCm X.K .lt) := by
  intro pins s σ H v u vv uu Q I rv ru h
  obtain ⟨x, y, S, P, r, rx, ry, w, hq⟩ := h
  obtain ⟨i, rfl, w⟩ := onI_of w
  obtain ⟨j, rfl, w⟩ := onI_of w
  cases rx
  cases ry
  exact op_lt pins s σ H _ _ vv uu Q I rv ru ⟨i, j, rfl, rfl, hq _ w⟩
theorem oc_le : OpR X (compareOp .LtE) (rCm X.K .le) := by
  intro pins s σ H v u vv uu Q I rv ru h
  obtain ⟨x, y, S, P, r, rx, ry, w, hq⟩ := h
  have cs : (∃ a b, x = .str a ∧ y = .str b ∧ P (M.leT a b)) ∨ M.onI x fun i => M.onI y fun j => P (decide (i ≤ j)) := by
    cases x <;> cases y <;> first | exact .inl ⟨_, _, rfl, rfl, w⟩ | exact .inr w
  rcases cs with ⟨a, b, rfl, rfl, w⟩ | w
  · cases rx
    cases ry
    refine op_le_str pins s σ H _ _ vv uu Q I rv ru ⟨_, _, rfl, rfl, ?_⟩
    rw [stx_cps, stx_cps]
    exact hq _ w
  obtain ⟨i, ei, w2⟩ := onI_of w
  obtain ⟨j, ej, w3⟩ := onI_of w2
  subst ei ej
  cases rx
  cases ry
  exact op_le pins s σ H _ _ vv uu Q I rv ru ⟨i, j, rfl, rfl, hq _ w3⟩
theorem oc_gt : OpR X (compareOp .Gt) (rCm X.K .gt) := by
  intro pins s σ H v u vv uu Q I rv ru h
  obtain ⟨x, y, S, P, r, rx, ry, w, hq⟩ := h
  obtain ⟨i, rfl, w⟩ := onI_of w
  obtain ⟨j, rfl, w⟩ := onI_of w
  cases rx
  cases ry
  exact op_gt pins s σ H _ _ vv uu Q I rv ru ⟨i, j, rfl, rfl, hq _ w⟩
theorem oc_ge : OpR X (compareOp .GtE) (rCm X.K .ge) := by
  intro pins s σ H v u vv uu Q I rv ru h
  obtain ⟨x, y, S, P, r, rx, ry, w, hq⟩ := h
  obtain ⟨i, rfl, w⟩ := onI_of w
  obtain ⟨j, rfl, w⟩ := onI_of w
  cases rx
  cases ry
  exact op_ge pins s σ H _ _ vv uu Q I rv ru ⟨i, j, rfl, rfl, hq _ w⟩
theorem eq_cases {x y : M.D} {S : M.Sto} {P : Bool → Prop} (w : M.cmpD .eq x y S P) : (∃ a b, x = .str a ∧ y = .str b ∧ P (a == b)) ∨ (M.fit M.dep S x = true ∧ M.fit M.dep S y = true ∧ P (M.eqB M.dep S x y)) := by
  cases x <;> cases y <;> first | exact .inl ⟨_, _, rfl, rfl, w⟩ | exact .inr w
theorem ne_cases {x y : M.D} {S : M.Sto} {P : Bool → Prop} (w : M.cmpD .ne x y S P) : (∃ a b, x = .str a ∧ y = .str b ∧ P (!(a == b))) ∨ (M.fit M.dep S x = true ∧ M.fit M.dep S y = true ∧ P (!M.eqB M.dep S x y)) := by
  cases x <;> cases y <;> first | exact .inl ⟨_, _, rfl, rfl, w⟩ | exact .inr w
theorem dec_stx {a b : M.Tx} : decide (V.str (stx a) = V.str (stx b)) = (a == b) := by
  by_cases h : a = b
  · subst h; simp
  · have h2 : ¬ V.str (stx a) = V.str (stx b) := fun e => h (stx_inj.mp (V.str.inj e))
    rw [decide_eq_false h2]
    exact (beq_eq_false_iff_ne.mpr h).symm
theorem oc_eq (hu : X.A.units + 64 < cLine) : OpR X (compareOp .Eq) (rCm X.K .eq) := by
  intro pins s σ H v u vv uu Q I rv ru h
  obtain ⟨x, y, S, P, r, rx, ry, w, hq⟩ := h
  rcases eq_cases w with ⟨a, b, rfl, rfl, w⟩ | ⟨f1, f2, w⟩
  · cases rx
    cases ry
    exact op_eq pins s σ H _ _ vv uu Q I rv ru ⟨rfl, by rw [dec_stx]; exact hq _ w⟩
  · refine op_eqD hu pins s σ H _ _ vv uu Q I rv ru ⟨_, _, fit_dp r f1 rx, fit_dp r f2 ry, shaped_of (by decide) f1, shaped_of (by decide) f2, ?_⟩
    rw [← eqB_ok S _ x y f1 f2]
    exact hq _ w
theorem oc_ne (hu : X.A.units + 64 < cLine) : OpR X (compareOp .NotEq) (rCm X.K .ne) := by
  intro pins s σ H v u vv uu Q I rv ru h
  obtain ⟨x, y, S, P, r, rx, ry, w, hq⟩ := h
  rcases ne_cases w with ⟨a, b, rfl, rfl, w⟩ | ⟨f1, f2, w⟩
  · cases rx
    cases ry
    exact op_ne pins s σ H _ _ vv uu Q I rv ru ⟨rfl, by rw [dec_stx]; exact hq _ w⟩
  · refine op_neD hu pins s σ H _ _ vv uu Q I rv ru ⟨_, _, fit_dp r f1 rx, fit_dp r f2 ry, shaped_of (by decide) f1, shaped_of (by decide) f2, ?_⟩
    rw [← eqB_ok S _ x y f1 f2]
    exact hq _ w
theorem is_non {K : Frag} {H : Hp} {x : M.D} {v : V} (r : RelD K H x v) : decide (v = .non) = M.isNon x := by
  cases r <;> simp [M.isNon]
theorem oc_is : OpR X (compareOp .Is) (rCm X.K .is_) := by
  intro pins s σ H v u vv uu Q I rv ru h
  obtain ⟨x, y, S, P, r, rx, ry, w, hq⟩ := h
  cases ry with
  | non => exact op_isN pins s σ H _ _ vv uu Q I rv ru ⟨rfl, by rw [is_non rx]; exact hq _ w⟩
  | bl b =>
    obtain ⟨a, rfl, w⟩ := onB_of w
    cases rx
    exact op_isBl pins s σ H _ _ vv uu Q I rv ru ⟨a, b, rfl, rfl, by have e : (a == b) = decide (a = b) := (by cases a <;> cases b <;> rfl); first | exact hq _ w | (rw [← e]; exact hq _ w)⟩
  | _ => exact False.elim w
theorem oc_isn : OpR X (compareOp .IsNot) (rCm X.K .isn) := by
  intro pins s σ H v u vv uu Q I rv ru h
  obtain ⟨x, y, S, P, r, rx, ry, w, hq⟩ := h
  cases ry with
  | non => exact op_notN pins s σ H _ _ vv uu Q I rv ru ⟨rfl, by rw [is_non rx]; exact hq _ w⟩
  | bl b =>
    obtain ⟨a, rfl, w⟩ := onB_of w
    cases rx
    exact op_notBl pins s σ H _ _ vv uu Q I rv ru ⟨a, b, rfl, rfl, by have e : (a == b) = decide (a = b) := (by cases a <;> cases b <;> rfl); first | exact hq _ w | (rw [← e]; exact hq _ w)⟩
  | _ => exact False.elim w
theorem any_eqB {S : M.Sto} {n : Nat} {x : M.D} (fx : M.fit n S x = true) : ∀ {ys : List M.D}, M.fitL (M.fit n S) ys = true → (ys.any fun y => M.eqB n S y x) = ((ys.map (toP n S)).any fun z => PyData.eqv z (toP n S x))
  | [], _ => rfl
  | y :: ys, h => by
    unfold M.fitL at h
    obtain ⟨h1, h2⟩ := Bool.and_eq_true_iff.mp h
    rw [List.any_cons, List.map_cons, List.any_cons, any_eqB fx h2, eqB_ok S n y x h1 fx]
theorem room_in {A : Around} {n : Nat} {S : M.Sto} {x : M.D} {ys : List PyData} (hn : n ≤ 32) (hu : A.units + 64 < cLine) : A.units + 1 + min (PyData.depthAll ys) (toP n S x).depth < cLine := by
  have h1 := toP_depth n S x
  have h2 : min (PyData.depthAll ys) (toP n S x).depth ≤ (toP n S x).depth := Nat.min_le_right _ _
  omega
theorem onC_of {d : M.D} {P : Nat → Prop} (h : M.onC d P) : ∃ c, d = .str [c] ∧ P c := by
  cases d with
  | str a =>
    match a, h with
    | [c], h => exact ⟨c, rfl, h⟩
  | _ => exact False.elim h
theorem oc_in (hu : X.A.units + 64 < cLine) : OpR X (compareOp .In) (rCm X.K .in_) := by
  intro pins s σ H v u vv uu Q I rv ru h
  obtain ⟨x, y, S, P, r, rx, ry, w, hq⟩ := h
  have seq : ∀ ys, M.sqOf S y = some ys → M.fit M.dep S x = true → M.fitL (M.fit M.dep S) ys = true → P (M.inB S x ys) → wpAny (model X.prog X.w) X.A (compareOp .In vv uu) (EP X pins σ Q) X.xe s := by
    intro ys e f1 f2 w
    obtain ⟨a, vs, rfl, hs, hd⟩ := sqOf_rel r ry e
    cases ru
    obtain ⟨as, r1⟩ := Dp.reads I _ v vv (fit_dp r f1 rx) rv
    have dps := dpAll (K := X.K) (H := H) (f := toP M.dep S) (fun d v h1 h2 => fit_dp r h1 h2) f2 hd
    have cl : PyData.canLayAll0 (ys.map (toP M.dep S)) = true := canAll (fun d h => fit_lay h) f2
    have w2 : P ((ys.map (toP M.dep S)).any fun z => PyData.eqv z (toP M.dep S x)) := by rw [← any_eqB f1 f2]; exact w
    rcases hs with hs | hs
    · obtain ⟨bs, r2⟩ := Dp.reads I (.list (ys.map (toP M.dep S))) _ _ (Dp.lst hs dps) rfl
      exact SeqAt.in_list_reads r2 r1 cl (fit_lay f1) (room_in (by decide) hu) ⟨.bl _, H, I, rfl, hq _ w2⟩
    · obtain ⟨bs, r2⟩ := Dp.reads I (.tuple (ys.map (toP M.dep S))) _ _ (Dp.tup hs dps) rfl
      exact SeqAt.in_tuple_reads r2 r1 cl (fit_lay f1) (room_in (by decide) hu) ⟨.bl _, H, I, rfl, hq _ w2⟩
  cases ry with
  | str b =>
    obtain ⟨c, rfl, w⟩ := onC_of w
    cases rx
    refine op_in_sign pins s σ H _ _ vv uu Q I rv ru ⟨c, _, rfl, rfl, ?_⟩
    have e : decide (c ∈ (stx b).cps.toList) = b.contains c := by rw [stx_cps]; simp
    rw [e]
    exact hq _ w
  | ref a => obtain ⟨ys, e, f1, f2, w⟩ := opt_of (show M.opt (M.sqOf S (.ref a)) (fun ys => M.fit M.dep S x = true ∧ M.fitL (M.fit M.dep S) ys = true ∧ P (M.inB S x ys)) from w); exact seq ys e f1 f2 w
  | tup h1 h2 => obtain ⟨ys, e, f1, f2, w⟩ := opt_of (show M.opt (M.sqOf S (.tup _)) (fun ys => M.fit M.dep S x = true ∧ M.fitL (M.fit M.dep S) ys = true ∧ P (M.inB S x ys)) from w); exact seq ys e f1 f2 w
  | fl h1 h2 => obtain ⟨ys, e, f1, f2, w⟩ := opt_of (show M.opt (M.sqOf S (.fl _)) (fun ys => M.fit M.dep S x = true ∧ M.fitL (M.fit M.dep S) ys = true ∧ P (M.inB S x ys)) from w); exact seq ys e f1 f2 w
  | _ => exact False.elim w
theorem oc_nin (hu : X.A.units + 64 < cLine) : OpR X (compareOp .NotIn) (rCm X.K .nin) := by
  intro pins s σ H v u vv uu Q I rv ru h
  obtain ⟨x, y, S, P, r, rx, ry, w, hq⟩ := h
  have seq : ∀ ys, M.sqOf S y = some ys → M.fit M.dep S x = true → M.fitL (M.fit M.dep S) ys = true → P (!M.inB S x ys) → wpAny (model X.prog X.w) X.A (compareOp .NotIn vv uu) (EP X pins σ Q) X.xe s := by
    intro ys e f1 f2 w
    obtain ⟨a, vs, rfl, hs, hd⟩ := sqOf_rel r ry e
    cases ru
    obtain ⟨as, r1⟩ := Dp.reads I _ v vv (fit_dp r f1 rx) rv
    have dps := dpAll (K := X.K) (H := H) (f := toP M.dep S) (fun d v h1 h2 => fit_dp r h1 h2) f2 hd
    have cl : PyData.canLayAll0 (ys.map (toP M.dep S)) = true := canAll (fun d h => fit_lay h) f2
    have w2 : P (!(ys.map (toP M.dep S)).any fun z => PyData.eqv z (toP M.dep S x)) := by rw [← any_eqB f1 f2]; exact w
    rcases hs with hs | hs
    · obtain ⟨bs, r2⟩ := Dp.reads I (.list (ys.map (toP M.dep S))) _ _ (Dp.lst hs dps) rfl
      exact SeqAt.notIn_list_reads r2 r1 cl (fit_lay f1) (room_in (by decide) hu) ⟨.bl _, H, I, rfl, hq _ w2⟩
    · obtain ⟨bs, r2⟩ := Dp.reads I (.tuple (ys.map (toP M.dep S))) _ _ (Dp.tup hs dps) rfl
      exact SeqAt.notIn_tuple_reads r2 r1 cl (fit_lay f1) (room_in (by decide) hu) ⟨.bl _, H, I, rfl, hq _ w2⟩
  cases ry with
  | str b =>
    obtain ⟨c, rfl, w⟩ := onC_of w
    cases rx
    refine op_notIn_sign pins s σ H _ _ vv uu Q I rv ru ⟨c, _, rfl, rfl, ?_⟩
    have e : decide (c ∈ (stx b).cps.toList) = b.contains c := by rw [stx_cps]; simp
    rw [e]
    exact hq _ w
  | ref a => obtain ⟨ys, e, f1, f2, w⟩ := opt_of (show M.opt (M.sqOf S (.ref a)) (fun ys => M.fit M.dep S x = true ∧ M.fitL (M.fit M.dep S) ys = true ∧ P (!M.inB S x ys)) from w); exact seq ys e f1 f2 w
  | tup h1 h2 => obtain ⟨ys, e, f1, f2, w⟩ := opt_of (show M.opt (M.sqOf S (.tup _)) (fun ys => M.fit M.dep S x = true ∧ M.fitL (M.fit M.dep S) ys = true ∧ P (!M.inB S x ys)) from w); exact seq ys e f1 f2 w
  | fl h1 h2 => obtain ⟨ys, e, f1, f2, w⟩ := opt_of (show M.opt (M.sqOf S (.fl _)) (fun ys => M.fit M.dep S x = true ∧ M.fitL (M.fit M.dep S) ys = true ∧ P (!M.inB S x ys)) from w); exact seq ys e f1 f2 w
  | _ => exact False.elim w
theorem oc_all (hu : X.A.units + 64 < cLine) : ∀ {o : M.Co} {p : CmpOp} (h : coOk o p = true), OpR X (compareOp p) (rCm X.K o)
  | .eq, .Eq, _ => oc_eq hu
  | .ne, .NotEq, _ => oc_ne hu
  | .lt, .Lt, _ => oc_lt
  | .le, .LtE, _ => oc_le
  | .gt, .Gt, _ => oc_gt
  | .ge, .GtE, _ => oc_ge
  | .is_, .Is, _ => oc_is
  | .isn, .IsNot, _ => oc_isn
  | .in_, .In, _ => oc_in hu
  | .nin, .NotIn, _ => oc_nin hu
end
end Snd
namespace Snd
open PySem PySem.Spec PyProof.Rows L2
section
variable {prog : Program} {w : World} {A : Around} {E : Value → Shared → Prop} {s : Shared} {l : Addr} {its : List Value} {ns : List Int} {Q : Value → Shared → Prop}
theorem sumT_raw (hh : A.handled = none) (hl : s.heap.IsTuple l its.toArray) (hi : IntsAre its ns)
    (h : ∀ h' tk t', (∀ b o, s.heap.get? b = some o → h'.get? b = some o) → Q (.int ns.sum t') { s with heap := h', toks := tk }) : wpAny (model prog w) A (call (.builtin "sum") [.ref l]) Q E s := by
  obtain ⟨xs, e⟩ := hi.allInts.items
  have hn : numsOf (intItems xs).toList = ns := by rw [← e]; exact hi.numsOf
  rw [nums_intItems] at hn
  rw [e] at hl
  refine PySem.W.ktm_sumG hh hl fun h' tk t' hk => ?_
  have := h h' tk t' hk
  rw [preSum_eq, List.take_of_length_le (by simp), hn]; exact this
end
section
variable {X : Cx}
def rSumT (K : Frag) : List V → Hp → VK → Prop := fun vs H Q => ∃ (a : Addr) (ns : List Int), vs = [V.ref a] ∧ SqT K H a (ns.map V.int) ∧ Q (.int ns.sum) H
theorem cr_sumT (hc : X.calm = true) : CallR X (.builtin "sum") (rSumT X.K) := by
  intro pins s σ H vs us Q I r h
  obtain ⟨a, ns, rfl, hs, q⟩ := h
  obtain ⟨its, rv, hl, _⟩ := I.tuple hs
  rw [Vals.ref1 r]
  exact sumT_raw (I.ok.hd hc) hl rv.ints fun h' tk t' hk => ⟨.int _, H, I.kept hk, ⟨_, rfl⟩, q⟩
end
/-! ### subscripts -/
def rIxM (K : Frag) : R2 := fun v u H Q => ∃ x i S Qd, RelS K H S ∧ RelD K H x v ∧ RelD K H i u ∧ M.ixD x i S Qd ∧ OkV K S H Qd Q
theorem atI_rel {K : Frag} {H : Hp} {ds : List M.D} {vs : List V} {k : Int} {d : M.D} (h : RelDs K H ds vs) (e : M.atI ds k = some d) : ∃ v, L2.atI vs k = some v ∧ RelD K H d v := by
  unfold M.atI at e
  obtain ⟨j, e1, e2⟩ := Option.bind_eq_some_iff.mp e
  obtain ⟨v, h1, h2⟩ := h.get e2
  refine ⟨v, ?_, h2⟩
  unfold L2.atI
  rw [← h.length]
  exact Option.bind_eq_some_iff.mpr ⟨j, e1, h1⟩
section
variable {X : Cx}
theorem ix_all : IxR X (rIxM X.K) := by
  intro value slice pins s σ H v u vv uu Q I rv ru h hsl
  obtain ⟨x, i, S, Qd, r, rx, ri, w, hq⟩ := h
  have seq : ∀ k xs, u = .int k → M.sqOf S x = some xs → M.opt (M.atI xs k) (fun d => Qd d S) → wpAny (model X.prog X.w) X.A (subscriptTail value slice vv uu) (EP X pins σ Q) X.xe s := by
    intro k xs eu e w
    subst eu
    obtain ⟨d, ea, w⟩ := opt_of w
    obtain ⟨a, vs, rfl, hs, hd⟩ := sqOf_rel r rx e
    obtain ⟨z, hz, rz⟩ := atI_rel hd ea
    rcases hs with hs | hs
    · exact ix_list value slice pins s σ H _ _ vv uu Q I rv ru ⟨a, vs, k, z, rfl, rfl, hs, hz, hq.same r rz w⟩ hsl
    · exact ix_tup value slice pins s σ H _ _ vv uu Q I rv ru ⟨a, vs, k, z, rfl, rfl, hs, hz, hq.same r rz w⟩ hsl
  cases ri with
  | int k =>
    cases rx with
    | str a =>
      obtain ⟨hl, w⟩ := w
      obtain ⟨c, ea, w⟩ := opt_of w
      refine ix_str value slice pins s σ H _ _ vv uu Q I rv ru ⟨_, k, c, rfl, rfl, by rw [stx_len, ← lim_eq]; exact hl, ?_, hq.same r (.str [c]) w⟩ hsl
      rw [stx_cps]
      exact ea
    | tup h1 h2 => exact seq k _ rfl rfl w
    | fl h1 h2 => exact seq k _ rfl rfl w
    | ref a =>
      obtain ⟨xs, e, w⟩ := opt_of (show M.opt (M.sqOf S (.ref a)) (fun xs => M.opt (M.atI xs k) fun d => Qd d S) from w)
      exact seq k xs rfl e w
    | non => exact False.elim w
    | bl b => exact False.elim w
    | int j => exact False.elim w
    | xn _ => exact False.elim w
  | _ => exact False.elim w
end
/-! ### slices -/
def rSlM (K : Frag) : V → Option Int → Option Int → Hp → VK → Prop := fun v lo hi H Q => ∃ x S Qd, RelS K H S ∧ RelD K H x v ∧ M.slD x lo hi S Qd ∧ OkV K S H Qd Q
theorem cut_rel {K : Frag} {H : Hp} {ds : List M.D} {vs : List V} (h : RelDs K H ds vs) (lo hi : Option Int) : RelDs K H (M.cut ds lo hi) (cutV vs lo hi) := by
  have e : M.cut ds lo hi = (ds.drop (HT.sIx vs.length 0 lo)).take (HT.sIx vs.length vs.length hi - HT.sIx vs.length 0 lo) := by
    rw [← h.length]
    rfl
  rw [e]
  exact (h.drop _).take _
theorem stx_cut (x : M.Tx) (lo hi : Option Int) : cutS (stx x) lo hi = stx (M.cut x lo hi) := by
  unfold cutS M.cut
  rw [stx_cps, stx_len]
  rfl
section
variable {X : Cx}
theorem sl_allM : SlR X (rSlM X.K) := by
  intro pins s σ H v vv vl vu lo hi sl Q I rv hs pl pu h
  obtain ⟨x, S, Qd, r, rx, w, hq⟩ := h
  cases rx with
  | str a =>
    obtain ⟨hl, w⟩ := w
    exact sl_str pins s σ H _ vv vl vu lo hi sl Q I rv hs pl pu ⟨_, rfl, by rw [stx_len, ← lim_eq]; exact hl, by rw [stx_cut]; exact hq.same r (.str _) w⟩
  | @tup a ds vs h1 h2 =>
    refine sl_tupA pins s σ H _ vv vl vu lo hi sl Q I rv hs pl pu ⟨a, vs, rfl, h1, fun e => ?_, fun _ => hq.newT r (cut_rel h2 lo hi) w⟩
    have e3 : M.cut ds lo hi = ds := by
      unfold M.cut
      have e1 : M.sIx ds.length 0 lo = 0 := by rw [h2.length]; exact e.1
      have e2 : M.sIx ds.length ds.length hi = ds.length := by rw [h2.length]; exact e.2
      rw [e1, e2]
      simp
    have w' : Qd (.tup (M.cut ds lo hi)) S := w
    rw [e3] at w'
    exact hq.same r (.tup h1 h2) w'
  | fl h1 h2 =>
    exact sl_list pins s σ H _ vv vl vu lo hi sl Q I rv hs pl pu ⟨_, _, rfl, h1.sq, hq.newL r (cut_rel h2 lo hi) w⟩
  | ref a =>
    obtain ⟨xs, e, w⟩ := opt_of (show M.opt (M.lsOf S (.ref a)) (fun xs => ∀ p, S p = none → Qd (.ref p) (M.upd S p (.lst (M.cut xs lo hi)))) from w)
    obtain ⟨vs, h1, h2⟩ := r.at e
    exact sl_list pins s σ H _ vv vl vu lo hi sl Q I rv hs pl pu ⟨_, _, rfl, SqL.of h1, hq.newL r (cut_rel h2 lo hi) w⟩
  | non => exact False.elim w
  | bl b => exact False.elim w
  | int i => exact False.elim w
  | xn _ => exact False.elim w
end
/-! ### built-ins -/
def rBi (K : Frag) (b : M.Bi) : List V → Hp → VK → Prop := fun vs H Q => ∃ ds S Qd, RelS K H S ∧ RelDs K H ds vs ∧ M.biD b ds S Qd ∧ OkV K S H Qd Q
theorem ints_rel {K : Frag} {H : Hp} : ∀ {ds : List M.D} {vs : List V} {is : List Int}, RelDs K H ds vs → M.intsD ds = some is → vs = is.map V.int
  | [], _, is, .nil, e => by cases e; rfl
  | _ :: ds, _ :: vs, is, .cons a b, e => by
    cases a with
    | int i =>
      obtain ⟨js, e1, e2⟩ := Option.map_eq_some_iff.mp (show (M.intsD ds).map (i :: ·) = some is from e)
      subst e2
      rw [List.map_cons, ints_rel b e1]
    | _ => cases e
theorem bools_rel {K : Frag} {H : Hp} : ∀ {ds : List M.D} {vs : List V} {is : List Bool}, RelDs K H ds vs → M.bools ds = some is → vs = is.map V.bl
  | [], _, is, .nil, e => by cases e; rfl
  | _ :: ds, _ :: vs, is, .cons a b, e => by
    cases a with
    | bl i =>
      obtain ⟨js, e1, e2⟩ := Option.map_eq_some_iff.mp (show (M.bools ds).map (i :: ·) = some is from e)
      subst e2
      rw [List.map_cons, bools_rel b e1]
    | _ => cases e
theorem minL_ok : ∀ (r : List Int) (m : Int), (M.minL m r = m ∨ M.minL m r ∈ r) ∧ M.minL m r ≤ m ∧ ∀ y ∈ r, M.minL m r ≤ y
  | [], m => ⟨.inl rfl, Int.le_refl _, fun _ h => nomatch h⟩
  | i :: r, m => by
    show (M.minL (if i < m then i else m) r = m ∨ M.minL (if i < m then i else m) r ∈ i :: r) ∧ M.minL (if i < m then i else m) r ≤ m ∧ ∀ y ∈ i :: r, M.minL (if i < m then i else m) r ≤ y
    by_cases h : i < m
    · rw [if_pos h]
      obtain ⟨h1, h2, h3⟩ := minL_ok r i
      refine ⟨.inr ?_, by omega, fun y hy => ?_⟩
      · rcases h1 with h1 | h1
        · rw [h1]; exact List.mem_cons_self
        · exact List.mem_cons_of_mem _ h1
      · rcases List.mem_cons.mp hy with e | e
        · subst e; exact h2
        · exact h3 y e
    · rw [if_neg h]
      obtain ⟨h1, h2, h3⟩ := minL_ok r m
      refine ⟨?_, h2, fun y hy => ?_⟩
      · rcases h1 with h1 | h1
        · exact .inl h1
        · exact .inr (List.mem_cons_of_mem _ h1)
      · rcases List.mem_cons.mp hy with e | e
        · subst e; omega
        · exact h3 y e
theorem maxL_ok : ∀ (r : List Int) (m : Int), (M.maxL m r = m ∨ M.maxL m r ∈ r) ∧ m ≤ M.maxL m r ∧ ∀ y ∈ r, y ≤ M.maxL m r
  | [], m => ⟨.inl rfl, Int.le_refl _, fun _ h => nomatch h⟩
  | i :: r, m => by
    show (M.maxL (if m < i then i else m) r = m ∨ M.maxL (if m < i then i else m) r ∈ i :: r) ∧ m ≤ M.maxL (if m < i then i else m) r ∧ ∀ y ∈ i :: r, y ≤ M.maxL (if m < i then i else m) r
    by_cases h : m < i
    · rw [if_pos h]
      obtain ⟨h1, h2, h3⟩ := maxL_ok r i
      refine ⟨.inr ?_, by omega, fun y hy => ?_⟩
      · rcases h1 with h1 | h1
        · rw [h1]; exact List.mem_cons_self
        · exact List.mem_cons_of_mem _ h1
      · rcases List.mem_cons.mp hy with e | e
        · subst e; exact h2
        · exact h3 y e
    · rw [if_neg h]
      obtain ⟨h1, h2, h3⟩ := maxL_ok r m
      refine ⟨?_, h2, fun y hy => ?_⟩
      · rcases h1 with h1 | h1
        · exact .inl h1
        · exact .inr (List.mem_cons_of_mem _ h1)
      · rcases List.mem_cons.mp hy with e | e
        · subst e; omega
        · exact h3 y e
theorem stx_txI (i : Int) : Str.ofString (toString i) = stx (M.txI i) := by
  rw [Str.ofString_eq_toList]
  rfl
section
variable {X : Cx}
theorem arg1_of {ds : List M.D} {P : M.D → Prop} (h : M.arg1 ds P) : ∃ d, ds = [d] ∧ P d := by
  match ds, h with
  | [d], h => exact ⟨d, rfl, h⟩
theorem onCons_of {l : List Int} {P : Int → List Int → Prop} (h : M.onCons l P) : ∃ i r, l = i :: r ∧ P i r := by
  cases l with
  | cons i r => exact ⟨i, r, rfl, h⟩
  | nil => exact False.elim h
theorem rel1 {K : Frag} {H : Hp} {d : M.D} {vs : List V} (h : RelDs K H [d] vs) : ∃ v, vs = [v] ∧ RelD K H d v := by
  cases h with
  | cons a b => cases b; exact ⟨_, rfl, a⟩
theorem bi_len : CallR X (.builtin "len") (rBi X.K .len) := by
  intro pins s σ H vs us Q I rv h
  obtain ⟨ds, S, Qd, r, rd, w, hq⟩ := h
  obtain ⟨d, rfl, w⟩ := arg1_of w
  obtain ⟨v, rfl, rx⟩ := rel1 rd
  have seq : M.opt (M.sqOf S d) (fun xs => Qd (.int xs.length) S) → wpAny (model X.prog X.w) X.A (call (.builtin "len") us) (EP X pins σ Q) X.xe s := fun w => by
    obtain ⟨xs, e, w⟩ := opt_of w
    obtain ⟨a, ws, rfl, hs, hd⟩ := sqOf_rel r rx e
    exact call_len_seq pins s σ H _ us Q I rv ⟨a, ws, rfl, hs, by rw [← hd.length]; exact hq.same r (.int _) w⟩
  cases rx with
  | str a =>
    obtain ⟨hl, w⟩ := w
    exact call_len_str pins s σ H _ us Q I rv ⟨_, rfl, by rw [stx_len, ← lim_eq]; exact hl, by rw [stx_len]; exact hq.same r (.int _) w⟩
  | tup h1 h2 => exact seq w
  | fl h1 h2 => exact seq w
  | ref a => exact seq w
  | non => exact seq w
  | bl b => exact seq w
  | int i => exact seq w
  | xn _ => exact seq w
theorem bi_abs : CallR X (.builtin "abs") (rBi X.K .abs) := by
  intro pins s σ H vs us Q I rv h
  obtain ⟨ds, S, Qd, r, rd, w, hq⟩ := h
  obtain ⟨d, rfl, w⟩ := arg1_of w
  obtain ⟨v, rfl, rx⟩ := rel1 rd
  obtain ⟨i, rfl, w⟩ := onI_of w
  cases rx
  exact call_abs pins s σ H _ us Q I rv ⟨i, rfl, hq.same r (.int _) w⟩
/-- int(text) -/
theorem int_text {x : M.Tx} {n : Int} (h : M.numT x = some n) (hl : x.length ≤ 640) : PySem.intText? (stx x) = some n := by
  have ec : (stx x).cps.toList = x := stx_cps x
  have dig : ∀ {r : M.Tx}, r.all M.digB = true → PySem.NumText.AllDigits r := fun h c hc => by
    obtain ⟨h1, h2⟩ := Bool.and_eq_true_iff.mp (List.all_eq_true.mp h c hc)
    exact ⟨of_decide_eq_true h1, of_decide_eq_true h2⟩
  cases x with
  | nil => cases h
  | cons c r =>
    have h2 : (if c = 45 then (if !r.isEmpty && r.all M.digB then some (-((M.valT r : Nat) : Int)) else none) else (if (c :: r).all M.digB then some ((M.valT (c :: r) : Nat) : Int) else none)) = some n := h
    clear h
    split at h2
    · rename_i hc
      subst hc
      split at h2
      · rename_i h5
        cases h2
        obtain ⟨h3, h4⟩ := Bool.and_eq_true_iff.mp h5
        exact intText_neg (cs := r) (by rw [ec]) (dig h4) (by intro z; subst z; cases h3) (by rw [stx_len]; omega)
      · cases h2
    · split at h2
      · rename_i h5
        cases h2
        have := intText_digits (x := stx (c :: r)) (by rw [ec]; exact dig h5) (by rw [ec]; intro z; cases z) (by rw [stx_len]; omega)
        rw [ec] at this
        exact this
      · cases h2
theorem bi_int : CallR X (.type "int") (rBi X.K .int) := by
  intro pins s σ H vs us Q I rv h
  obtain ⟨ds, S, Qd, r, rd, w, hq⟩ := h
  obtain ⟨d, rfl, w⟩ := arg1_of w
  obtain ⟨v, rfl, rx⟩ := rel1 rd
  cases rx with
  | int i => exact call_int1 pins s σ H _ us Q I rv (.inl ⟨i, rfl, hq.same r (.int _) w⟩)
  | bl b => exact call_int1 pins s σ H _ us Q I rv (.inr ⟨b, rfl, hq.same r (.int _) w⟩)
  | str x =>
    obtain ⟨n, e, w1, w2⟩ := opt_of (show M.opt (M.numT x) (fun n => x.length ≤ 640 ∧ Qd (.int n) S) from w)
    exact call_int_str pins s σ H _ us Q I rv ⟨_, n, rfl, int_text e w1, by rw [stx_len]; exact w1, hq.same r (.int _) w2⟩
  | _ => exact False.elim w
theorem bi_min (hc : X.calm = true) : CallR X (.builtin "min") (rBi X.K .min) := by
  intro pins s σ H vs us Q I rv h
  obtain ⟨ds, S, Qd, r, rd, w, hq⟩ := h
  match ds, rd, w with
  | [], _, w => exact False.elim w
  | _ :: _ :: _ :: _, _, w => exact False.elim w
  | [d, e], .cons rx (.cons ry .nil), w =>
    obtain ⟨i, rfl, w⟩ := onI_of w
    obtain ⟨j, rfl, w⟩ := onI_of w
    cases rx
    cases ry
    exact call_min2 hc pins s σ H _ us Q I rv ⟨i, j, rfl, hq.same r (.int _) w⟩
  | [d], .cons rx .nil, w =>
    obtain ⟨xs, e, w⟩ := opt_of w
    obtain ⟨is, e2, w⟩ := opt_of w
    obtain ⟨i, js, rfl, w⟩ := onCons_of w
    obtain ⟨a, ws, rfl, hs, hd⟩ := lsOf_rel r rx e
    have e3 := ints_rel hd e2
    subst e3
    refine cr_min hc pins s σ H _ us Q I rv ⟨a, i :: js, rfl, hs, Nat.succ_pos _, fun m hm hle => ?_⟩
    obtain ⟨h1, h2, h3⟩ := minL_ok js i
    have em : m = M.minL i js := by
      refine Int.le_antisymm ?_ ?_
      · rcases h1 with h1 | h1
        · rw [h1]; exact hle i List.mem_cons_self
        · exact hle _ (List.mem_cons_of_mem _ h1)
      · rcases List.mem_cons.mp hm with e | e
        · rw [e]; exact h2
        · exact h3 m e
    rw [em]
    exact hq.same r (.int _) w
theorem bi_max (hc : X.calm = true) : CallR X (.builtin "max") (rBi X.K .max) := by
  intro pins s σ H vs us Q I rv h
  obtain ⟨ds, S, Qd, r, rd, w, hq⟩ := h
  match ds, rd, w with
  | [], _, w => exact False.elim w
  | _ :: _ :: _ :: _ :: _, _, w => exact False.elim w
  | [d, e, f], .cons rx (.cons ry (.cons rz .nil)), w =>
    obtain ⟨i, rfl, w⟩ := onI_of w
    obtain ⟨j, rfl, w⟩ := onI_of w
    obtain ⟨k, rfl, w⟩ := onI_of w
    cases rx
    cases ry
    cases rz
    refine call_max3Nu hc pins s σ H _ us Q I rv ⟨.int i, .int j, .int k, .int (if k > (if j > i then j else i) then k else (if j > i then j else i)), rfl, ?_, hq.same r (.int _) w⟩
    show (nuMax2 (.int i) (.int j)).bind (fun m => nuMax2 m (.int k)) = _
    have e1 : nuMax2 (.int i) (.int j) = some (.int (if j > i then j else i)) := by
      show (some (decide (i < j))).map (fun c => if c = true then V.int j else V.int i) = _
      by_cases c : i < j
      · simp [c]
      · simp [c]
    rw [e1]
    show nuMax2 (.int (if j > i then j else i)) (.int k) = _
    generalize (if j > i then j else i) = m
    show (some (decide (m < k))).map (fun c => if c = true then V.int k else V.int m) = _
    by_cases c : m < k
    · simp [c]
    · simp [c]
  | [d, e], .cons rx (.cons ry .nil), w =>
    obtain ⟨i, rfl, w⟩ := onI_of w
    obtain ⟨j, rfl, w⟩ := onI_of w
    cases rx
    cases ry
    exact call_max2 hc pins s σ H _ us Q I rv ⟨i, j, rfl, hq.same r (.int _) w⟩
  | [d], .cons rx .nil, w =>
    obtain ⟨xs, e, w⟩ := opt_of w
    obtain ⟨is, e2, w⟩ := opt_of w
    obtain ⟨i, js, rfl, w⟩ := onCons_of w
    obtain ⟨a, ws, rfl, hs, hd⟩ := lsOf_rel r rx e
    have e3 := ints_rel hd e2
    subst e3
    refine cr_max hc pins s σ H _ us Q I rv ⟨a, i :: js, rfl, hs, Nat.succ_pos _, fun m hm hle => ?_⟩
    obtain ⟨h1, h2, h3⟩ := maxL_ok js i
    have em : m = M.maxL i js := by
      refine Int.le_antisymm ?_ ?_
      · rcases List.mem_cons.mp hm with e | e
        · rw [e]; exact h2
        · exact h3 m e
      · rcases h1 with h1 | h1
        · rw [h1]; exact hle i List.mem_cons_self
        · exact hle _ (List.mem_cons_of_mem _ h1)
    rw [em]
    exact hq.same r (.int _) w
theorem bi_all (hc : X.calm = true) : CallR X (.builtin "all") (rBi X.K .all) := by
  intro pins s σ H vs us Q I rv h
  obtain ⟨ds, S, Qd, r, rd, w, hq⟩ := h
  obtain ⟨d, rfl, w⟩ := arg1_of w
  obtain ⟨v, rfl, rx⟩ := rel1 rd
  obtain ⟨xs, e, w⟩ := opt_of w
  obtain ⟨is, e2, w⟩ := opt_of w
  obtain ⟨a, ws, rfl, hs, hd⟩ := lsOf_rel r rx e
  have e3 := bools_rel hd e2
  subst e3
  exact cr_all hc pins s σ H _ us Q I rv ⟨a, is, rfl, hs, hq.same r (.bl _) w⟩
theorem bi_any (hc : X.calm = true) : CallR X (.builtin "any") (rBi X.K .any) := by
  intro pins s σ H vs us Q I rv h
  obtain ⟨ds, S, Qd, r, rd, w, hq⟩ := h
  obtain ⟨d, rfl, w⟩ := arg1_of w
  obtain ⟨v, rfl, rx⟩ := rel1 rd
  obtain ⟨xs, e, w⟩ := opt_of w
  obtain ⟨is, e2, w⟩ := opt_of w
  obtain ⟨a, ws, rfl, hs, hd⟩ := lsOf_rel r rx e
  have e3 := bools_rel hd e2
  subst e3
  exact cr_any hc pins s σ H _ us Q I rv ⟨a, is, rfl, hs, hq.same r (.bl _) w⟩
theorem bi_sum (hc : X.calm = true) : CallR X (.builtin "sum") (rBi X.K .sum) := by
  intro pins s σ H vs us Q I rv h
  obtain ⟨ds, S, Qd, r, rd, w, hq⟩ := h
  obtain ⟨d, rfl, w⟩ := arg1_of w
  obtain ⟨v, rfl, rx⟩ := rel1 rd
  obtain ⟨xs, e, w⟩ := opt_of w
  obtain ⟨is, e2, w⟩ := opt_of w
  obtain ⟨a, ws, rfl, hs, hd⟩ := sqOf_rel r rx e
  have e3 := ints_rel hd e2
  subst e3
  rcases hs with hs | hs
  · exact cr_sum hc pins s σ H _ us Q I rv ⟨a, is, rfl, hs, hq.same r (.int _) w⟩
  · exact cr_sumT hc pins s σ H _ us Q I rv ⟨a, is, rfl, hs, hq.same r (.int _) w⟩
theorem ints_backD {K : Frag} {H : Hp} : ∀ (is : List Int), RelDs K H (is.map M.D.int) (is.map V.int)
  | [] => .nil
  | i :: is => .cons (.int i) (ints_backD is)
theorem bi_sorted : CallR X (.builtin "sorted") (rBi X.K .sorted) := by
  intro pins s σ H vs us Q I rv h
  obtain ⟨ds, S, Qd, r, rd, w, hq⟩ := h
  obtain ⟨d, rfl, w⟩ := arg1_of w
  obtain ⟨v, rfl, rx⟩ := rel1 rd
  obtain ⟨xs, e, w⟩ := opt_of w
  obtain ⟨is, e2, w⟩ := opt_of w
  obtain ⟨a, ws, rfl, hs, hd⟩ := lsOf_rel r rx e
  have e3 := ints_rel hd e2
  subst e3
  exact cr_sortedI pins s σ H _ us Q I rv ⟨a, is, rfl, hs, fun js p h1 h2 hp => hq.newL r (ints_backD js) (w js h1 h2) p hp⟩
theorem bi_list : CallR X (.type "list") (rBi X.K .list) := by
  intro pins s σ H vs us Q I rv h
  obtain ⟨ds, S, Qd, r, rd, w, hq⟩ := h
  obtain ⟨d, rfl, w⟩ := arg1_of w
  obtain ⟨v, rfl, rx⟩ := rel1 rd
  obtain ⟨xs, e, w⟩ := opt_of w
  obtain ⟨a, ws, rfl, hs, hd⟩ := sqOf_rel r rx e
  exact call_list_of pins s σ H _ us Q I rv ⟨a, ws, rfl, hs, hq.newL r hd w⟩
theorem bi_tuple : CallR X (.type "tuple") (rBi X.K .tuple) := by
  intro pins s σ H vs us Q I rv h
  obtain ⟨ds, S, Qd, r, rd, w, hq⟩ := h
  obtain ⟨d, rfl, w⟩ := arg1_of w
  obtain ⟨v, rfl, rx⟩ := rel1 rd
  obtain ⟨xs, e, w⟩ := opt_of w
  obtain ⟨a, ws, rfl, hs, hd⟩ := sqOf_rel r rx e
  rcases hs with hs | hs
  · exact call_tuple_of pins s σ H _ us Q I rv ⟨a, ws, rfl, .inl ⟨hs, hq.newT r hd w⟩⟩
  · exact call_tuple_of pins s σ H _ us Q I rv ⟨a, ws, rfl, .inr ⟨hs, hq.same r (.tup hs hd) w⟩⟩
theorem bi_str : CallR X (.type "str") (rBi X.K .str) := by
  intro pins s σ H vs us Q I rv h
  obtain ⟨ds, S, Qd, r, rd, w, hq⟩ := h
  obtain ⟨d, rfl, w⟩ := arg1_of w
  obtain ⟨v, rfl, rx⟩ := rel1 rd
  obtain ⟨i, rfl, w⟩ := onI_of w
  cases rx
  refine call_str_int pins s σ H _ us Q I rv ⟨i, rfl, w.1, ?_⟩
  have e : Str.ofString (toString i) = stx (M.txI i) := stx_txI i
  show Q (.str (Str.ofString (toString i))) H
  rw [e]
  exact hq.same r (.str _) w.2
/-! ### methods -/
def rMt (K : Frag) (m : M.Mt) : V → List V → Hp → VK → Prop := fun v vs H Q => ∃ x ds S Qd, RelS K H S ∧ RelD K H x v ∧ RelDs K H ds vs ∧ M.mtD m x ds S Qd ∧ OkV K S H Qd Q
/-- a list of the store was written: what is wanted -/
theorem OkV.wrote {K : Frag} {S : M.Sto} {H : Hp} {Qd : M.VK} {Q : VK} (h : OkV K S H Qd Q) (r : RelS K H S) {a : Nat} {xs ds : List M.D} {vs : List V} (e : M.lstAt S a = some xs) (rd : RelDs K H ds vs) {d : M.D} {v : V} (rx : RelD K H d v)
    (q : Qd d (M.upd S a (.lst ds))) : Q v (L2.upd H a (.lst vs)) :=
  have f : Fr S H (M.upd S a (.lst ds)) (L2.upd H a (.lst vs)) := Fr.wr (lstAt_some e)
  h _ _ _ _ f (r.wr (lstAt_some e) rd) (rx.mono r f) q
theorem mt_appendM : MtM X "list.append" (rMt X.K .append) := by
  intro pins s σ H v vs vv us Q I rv rvs h
  obtain ⟨x, ds, S, Qd, r, rx, rd, w, hq⟩ := h
  obtain ⟨a, rfl, w⟩ := onR_of w
  obtain ⟨d, rfl, w⟩ := arg1_of w
  obtain ⟨y, rfl, ry⟩ := rel1 rd
  obtain ⟨xs, e, hl, w⟩ := opt_of w
  obtain ⟨ws, h1, h2⟩ := r.at e
  cases rx
  exact mt_append pins s σ H _ _ vv us Q I rv rvs ⟨a, ws, y, rfl, rfl, h1, by rw [← h2.length, ← lim_eq]; exact hl, hq.wrote r e (h2.append (.cons ry .nil)) .non w⟩
theorem mt_extendM : MtM X "list.extend" (rMt X.K .extend) := by
  intro pins s σ H v vs vv us Q I rv rvs h
  obtain ⟨x, ds, S, Qd, r, rx, rd, w, hq⟩ := h
  obtain ⟨a, rfl, w⟩ := onR_of w
  obtain ⟨d, rfl, w⟩ := arg1_of w
  obtain ⟨y, rfl, ry⟩ := rel1 rd
  obtain ⟨b, rfl, w⟩ := onR_of w
  obtain ⟨xs, e, w⟩ := opt_of w
  obtain ⟨ys, e2, hl, w⟩ := opt_of w
  obtain ⟨ws, h1, h2⟩ := r.at e
  obtain ⟨zs, h3, h4⟩ := r.at e2
  cases rx
  cases ry
  exact mt_extend pins s σ H _ _ vv us Q I rv rvs ⟨a, b, ws, zs, rfl, rfl, h1, h3, by rw [← h2.length, ← h4.length, ← lim_eq]; exact hl, hq.wrote r e (h2.append h4) .non w⟩
theorem seqIx_of {n : Nat} {i : Int} {j : Nat} (h : M.ixN n i = some j) : seqIndex? i n = some j := by
  unfold M.ixN at h
  unfold seqIndex?
  by_cases h0 : 0 ≤ i
  · rw [if_pos h0] at h
    by_cases h1 : i < n
    · rw [if_pos h1] at h
      cases h
      have e : ¬ i < 0 := by omega
      simp only [e, if_false]
      rw [if_pos (by simp [h0, h1])]
    · rw [if_neg h1] at h; cases h
  · rw [if_neg h0] at h
    by_cases h1 : -(n : Int) ≤ i
    · rw [if_pos h1] at h
      cases h
      have e : i < 0 := by omega
      simp only [e, if_true]
      rw [if_pos (by simp; omega)]
    · rw [if_neg h1] at h; cases h
theorem RelDs.eraseIdx {K : Frag} {H : Hp} : ∀ {ds : List M.D} {vs : List V} (n : Nat), RelDs K H ds vs → RelDs K H (ds.eraseIdx n) (vs.eraseIdx n)
  | _, _, _, .nil => .nil
  | _, _, 0, .cons _ b => b
  | _, _, n + 1, .cons a b => .cons a (RelDs.eraseIdx n b)
theorem mt_popM : MtM X "list.pop" (rMt X.K .pop) := by
  intro pins s σ H v vs vv us Q I rv rvs h
  obtain ⟨x, ds, S, Qd, r, rx, rd, w, hq⟩ := h
  obtain ⟨a, rfl, w⟩ := onR_of w
  match ds, rd, w with
  | [], .nil, w =>
    obtain ⟨xs, e, w⟩ := opt_of w
    obtain ⟨d, e2, w⟩ := opt_of w
    obtain ⟨ws, h1, h2⟩ := r.at e
    obtain ⟨y, h3, h4⟩ := h2.get e2
    cases rx
    exact mt_pop pins s σ H _ _ vv us Q I rv rvs ⟨a, ws, y, rfl, rfl, h1, by rw [← h2.length]; exact h3, hq.wrote r e h2.dropLast h4 w⟩
  | [y], rd, w =>
    obtain ⟨i, rfl, w⟩ := onI_of w
    obtain ⟨xs, e, h1', h2', w⟩ := opt_of w
    obtain ⟨j, e3, w⟩ := opt_of w
    obtain ⟨d, e2, w⟩ := opt_of w
    obtain ⟨ws, h1, h2⟩ := r.at e
    obtain ⟨y, h3, h4⟩ := h2.get e2
    obtain ⟨v', rfl, rv'⟩ := rel1 rd
    cases rx
    cases rv'
    exact mt_popAt pins s σ H _ _ vv us Q I rv rvs ⟨a, ws, i, j, y, rfl, rfl, h1, h1', h2', seqIx_of (by rw [← h2.length]; exact e3), h3, hq.wrote r e (h2.eraseIdx j) h4 w⟩
  | _ :: _ :: _, _, w => exact False.elim w
theorem strs_rel5 {K : Frag} {H : Hp} : ∀ {ds : List M.D} {vs : List V} {ts : List M.Tx}, RelDs K H ds vs → M.strsD ds = some ts → vs = (ts.map stx).map V.str
  | [], _, ts, .nil, e => by cases e; rfl
  | _ :: ds, _ :: vs, ts, .cons a b, e => by
    cases a with
    | str x =>
      obtain ⟨js, e1, e2⟩ := Option.map_eq_some_iff.mp (show (M.strsD ds).map (x :: ·) = some ts from e)
      subst e2
      rw [List.map_cons, List.map_cons, strs_rel5 b e1]
    | _ => cases e
def strU (k : Str) : Value → Bool
  | .str b _ => b == k
  | _ => false
theorem strU_at {k : M.Tx} {u : Tok} : ∀ {bs : List M.Tx} {us : List Value}, Vals ((bs.map stx).map V.str) us → (∀ y ∈ us, ∀ (A : Around) (s : Shared), SeqAt.EqAt A s y (.str (stx k) u) (strU (stx k) y)) ∧ us.countP (strU (stx k)) = bs.count k
  | [], _, .nil => ⟨(fun y hy => nomatch hy), rfl⟩
  | b :: bs, _, .cons r t => by
    obtain ⟨tk, rfl⟩ := r
    obtain ⟨h1, h2⟩ := strU_at (k := k) (u := u) t
    refine ⟨fun y hy A s => ?_, ?_⟩
    · rcases List.mem_cons.mp hy with e | e
      · rw [e]; exact SeqAt.EqAt.str_str (stx b) tk (stx k) u
      · exact h1 y e A s
    · rw [List.countP_cons, List.count_cons, h2]
      show _ + (if (stx b == stx k) = true then 1 else 0) = _
      rw [stx_beq]
def boolU (k : Bool) : Value → Bool
  | .bool b => b == k
  | _ => false
theorem boolU_at {k : Bool} : ∀ {bs : List Bool} {us : List Value}, Vals (bs.map V.bl) us → (∀ y ∈ us, ∀ (A : Around) (s : Shared), SeqAt.EqAt A s y (.bool k) (boolU k y)) ∧ us.countP (boolU k) = bs.count k
  | [], _, .nil => ⟨(fun y hy => nomatch hy), rfl⟩
  | b :: bs, _, .cons r t => by
    cases r
    obtain ⟨h1, h2⟩ := boolU_at (k := k) t
    refine ⟨fun y hy A s => ?_, ?_⟩
    · rcases List.mem_cons.mp hy with e | e
      · rw [e]; exact SeqAt.EqAt.bool_bool b k
      · exact h1 y e A s
    · rw [List.countP_cons, List.count_cons, h2] <;> rfl
theorem mt_countM : MtR X "list.count" (rMt X.K .count) := by
  intro pins s σ H v vs vv us Q I rv rvs h
  obtain ⟨x, ds, S, Qd, r, rx, rd, w, hq⟩ := h
  obtain ⟨d, rfl, w⟩ := arg1_of w
  obtain ⟨y, rfl, ry⟩ := rel1 rd
  by_cases hT : ∃ t, d = .str t
  · obtain ⟨t, rfl⟩ := hT
    obtain ⟨xs, e, w⟩ := opt_of w
    obtain ⟨ts, e2, w⟩ := opt_of w
    obtain ⟨a, ws, rfl, hs, hd⟩ := lsOf_rel r rx e
    have e3 := strs_rel5 hd e2
    subst e3
    cases ry
    cases rv
    obtain ⟨u, rfl, ru⟩ := rvs.one
    obtain ⟨tk, rfl⟩ := ru
    obtain ⟨its, rv, ⟨⟨cls, dd, data, sl⟩, n, ho, hc, hdn, hdt⟩, hlen⟩ := I.list hs
    simp only at hc hdt
    subst hc hdt
    obtain ⟨g1, g2⟩ := strU_at (k := t) (u := tk) rv
    refine call_meets PySem.F.slot_list_count ⟨_, ho, rfl⟩ PySem.F.entry_list_count (PySem.F.args_list_count_2 _ _)
      (SeqAt.list_countAt a its.toArray n dd sl (.str (stx t) tk) (strU (stx t))) ⟨ho, fun y hy => g1 y (by simpa using hy) _ _, ?_⟩
    have ec : its.toArray.toList.countP (strU (stx t)) = ts.count t := g2
    refine ⟨.int (ts.count t : Nat), H, I.tok _, ⟨s.toks, ?_⟩, hq.same r (.int _) w⟩
    show Value.int ((its.toArray.toList.countP (strU (stx t)) : Nat) : Int) s.toks = Value.int ((ts.count t : Nat) : Int) s.toks
    rw [ec]
  have w : M.onB d fun b => M.opt (M.lsOf S x) fun xs => M.opt (M.bools xs) fun bs => Qd (.int ((bs.count b : Nat) : Int)) S := by
    cases d <;> first | exact w | exact absurd ⟨_, rfl⟩ hT
  obtain ⟨b, rfl, w⟩ := onB_of w
  obtain ⟨xs, e, w⟩ := opt_of w
  obtain ⟨bs, e2, w⟩ := opt_of w
  obtain ⟨a, ws, rfl, hs, hd⟩ := lsOf_rel r rx e
  have e3 := bools_rel hd e2
  subst e3
  cases ry
  cases rv
  obtain ⟨u, rfl, ru⟩ := rvs.one
  cases ru
  obtain ⟨its, rv, ⟨⟨cls, dd, data, sl⟩, n, ho, hc, hdn, hdt⟩, hlen⟩ := I.list hs
  simp only at hc hdt
  subst hc hdt
  obtain ⟨g1, g2⟩ := boolU_at (k := b) rv
  refine call_meets PySem.F.slot_list_count ⟨_, ho, rfl⟩ PySem.F.entry_list_count (PySem.F.args_list_count_2 _ _)
    (SeqAt.list_countAt a its.toArray n dd sl (.bool b) (boolU b)) ⟨ho, fun y hy => g1 y (by simpa using hy) _ _, ?_⟩
  have ec : its.toArray.toList.countP (boolU b) = bs.count b := g2
  refine ⟨.int (bs.count b : Nat), H, I.tok _, ⟨s.toks, ?_⟩, hq.same r (.int _) w⟩
  show Value.int ((its.toArray.toList.countP (boolU b) : Nat) : Int) s.toks = Value.int ((bs.count b : Nat) : Int) s.toks
  rw [ec]
theorem ixB_ok {b : Bool} : ∀ {bs : List Bool} {j : Nat}, M.ixB b bs = some j → bs[j]? = some b ∧ ∀ m, m < j → ∀ c, bs[m]? = some c → c ≠ b
  | [], _, h => nomatch h
  | c :: bs, j, h => by
    unfold M.ixB at h
    split at h
    · rename_i hc
      cases h
      exact ⟨by rw [hc]; rfl, fun m hm => absurd hm (Nat.not_lt_zero _)⟩
    · rename_i hc
      obtain ⟨k, hk, rfl⟩ := Option.map_eq_some_iff.mp h
      obtain ⟨h1, h2⟩ := ixB_ok hk
      refine ⟨by simpa using h1, fun m hm c' hc' => ?_⟩
      cases m with
      | zero => simp at hc'; rw [← hc']; exact hc
      | succ m => exact h2 m (by omega) c' (by simpa using hc')
theorem ixT_ok {b : M.Tx} : ∀ {bs : List M.Tx} {j : Nat}, M.ixT b bs = some j → bs[j]? = some b ∧ ∀ m, m < j → ∀ c, bs[m]? = some c → c ≠ b
  | [], _, h => nomatch h
  | c :: bs, j, h => by
    unfold M.ixT at h
    split at h
    · rename_i hc
      cases h
      exact ⟨by rw [hc]; rfl, fun m hm => absurd hm (Nat.not_lt_zero _)⟩
    · rename_i hc
      obtain ⟨k, hk, rfl⟩ := Option.map_eq_some_iff.mp h
      obtain ⟨h1, h2⟩ := ixT_ok hk
      refine ⟨by simpa using h1, fun m hm c' hc' => ?_⟩
      cases m with
      | zero => simp at hc'; rw [← hc']; exact hc
      | succ m => exact h2 m (by omega) c' (by simpa using hc')
theorem mt_indexM : MtR X "list.index" (rMt X.K .index) := by
  intro pins s σ H v vs vv us Q I rv rvs h
  obtain ⟨x, ds, S, Qd, r, rx, rd, w, hq⟩ := h
  obtain ⟨d, rfl, w⟩ := arg1_of w
  obtain ⟨y, rfl, ry⟩ := rel1 rd
  by_cases hT : ∃ t, d = .str t
  · obtain ⟨t, rfl⟩ := hT
    obtain ⟨xs, e, w⟩ := opt_of w
    obtain ⟨ts, e2, w⟩ := opt_of w
    obtain ⟨j, e4, w⟩ := opt_of w
    obtain ⟨a, ws, rfl, hs, hd⟩ := lsOf_rel r rx e
    have e3 := strs_rel5 hd e2
    subst e3
    cases ry
    obtain ⟨h1, h2⟩ := ixT_ok e4
    refine mt_index pins s σ H _ _ vv us Q I rv rvs ⟨a, (ts.map stx).map V.str, .str (stx t), j, .str (stx t), rfl, rfl, hs, rfl, ?_, by rw [List.getElem?_map, List.getElem?_map, h1]; rfl, (show (stx t == stx t) = true from beq_self_eq_true _), fun m z hm hz => ?_, hq.same r (.int _) w⟩
    · rw [List.all_map, List.all_map]
      exact List.all_eq_true.mpr fun _ _ => rfl
    · rw [List.getElem?_map, List.getElem?_map] at hz
      obtain ⟨c, hc, rfl⟩ := Option.map_eq_some_iff.mp hz
      obtain ⟨c', hc', rfl⟩ := Option.map_eq_some_iff.mp hc
      exact beq_eq_false_iff_ne.mpr fun e => h2 m hm c' hc' (stx_inj.mp e)
  have w : M.onB d fun b => M.opt (M.lsOf S x) fun xs => M.opt (M.bools xs) fun bs => M.opt (M.ixB b bs) fun j => Qd (.int ((j : Nat) : Int)) S := by
    cases d <;> first | exact w | exact absurd ⟨_, rfl⟩ hT
  obtain ⟨b, rfl, w⟩ := onB_of w
  obtain ⟨xs, e, w⟩ := opt_of w
  obtain ⟨bs, e2, w⟩ := opt_of w
  obtain ⟨j, e4, w⟩ := opt_of w
  obtain ⟨a, ws, rfl, hs, hd⟩ := lsOf_rel r rx e
  have e3 := bools_rel hd e2
  subst e3
  cases ry
  obtain ⟨h1, h2⟩ := ixB_ok e4
  refine mt_index pins s σ H _ _ vv us Q I rv rvs ⟨a, bs.map V.bl, .bl b, j, .bl b, rfl, rfl, hs, rfl, ?_, by rw [List.getElem?_map, h1]; rfl, (show (b == b) = true from beq_self_eq_true b), fun m z hm hz => ?_, hq.same r (.int _) w⟩
  · rw [List.all_map]
    exact List.all_eq_true.mpr fun _ _ => rfl
  · rw [List.getElem?_map] at hz
    obtain ⟨c, hc, rfl⟩ := Option.map_eq_some_iff.mp hz
    exact beq_eq_false_iff_ne.mpr (h2 m hm c hc)
/-! ### o[i] = v -/
def tSx (K : Frag) : V → V → V → Hp → (Hp → Prop) → Prop := fun o i v H Q => ∃ x y z S Qs, RelS K H S ∧ RelD K H x o ∧ RelD K H y i ∧ RelD K H z v ∧ M.sixD x y z S Qs ∧ ∀ S' H', Fr S H S' H' → RelS K H' S' → Qs S' → Q H'
theorem set_listM : PSet X (tSx X.K) := by
  intro pins s σ H o i v ov iv u Q I ro ri rv h
  obtain ⟨x, y, z, S, Qs, r, rx, ry, rz, w, hq⟩ := h
  obtain ⟨a, rfl, w⟩ := onR_of w
  obtain ⟨k, rfl, w⟩ := onI_of w
  obtain ⟨xs, e, w⟩ := opt_of w
  obtain ⟨j, e2, w⟩ := opt_of w
  obtain ⟨ws, h1, h2⟩ := r.at e
  cases rx
  cases ry
  refine set_list pins s σ H _ _ _ ov iv u Q I ro ri rv ⟨a, ws, k, j, rfl, rfl, h1, by rw [← h2.length]; exact e2, ?_⟩
  exact hq _ _ (Fr.wr (lstAt_some e)) (r.wr (lstAt_some e) (h2.set j rz)) w
end
end Snd
namespace Snd
open PySem PySem.Spec PyProof.Rows L2
/-! ### isinstance -/
def tyN : M.Ty → String
  | .int => "int" | .bool => "bool" | .tuple => "tuple" | .list => "list" | .str => "str"
def tyS : M.Ty → Str
  | .int => "int" | .bool => "bool" | .tuple => "tuple" | .list => "list" | .str => "str"
theorem tyB (t : M.Ty) : bootBuiltins (tyS t) = some (.type (tyN t)) := by cases t <;> decide +kernel
theorem ky_none (t : M.Ty) : kitB "NoneType" (tyN t) = some false := by cases t <;> decide +kernel
theorem ky_bool (t : M.Ty) : kitB "bool" (tyN t) = some (decide (t = .bool) || decide (t = .int)) := by cases t <;> decide +kernel
theorem ky_int (t : M.Ty) : kitB "int" (tyN t) = some (decide (t = .int)) := by cases t <;> decide +kernel
theorem ky_str (t : M.Ty) : kitB "str" (tyN t) = some (decide (t = .str)) := by cases t <;> decide +kernel
theorem ky_tup (t : M.Ty) : kitB "tuple" (tyN t) = some (decide (t = .tuple)) := by cases t <;> decide +kernel
theorem ky_lst (t : M.Ty) : kitB "list" (tyN t) = some (decide (t = .list)) := by cases t <;> decide +kernel
theorem ky_dic (t : M.Ty) : kitB "dict" (tyN t) = some false := by cases t <;> decide +kernel
theorem isTy_all {K : Frag} {H : Hp} {S : M.Sto} (r : RelS K H S) {d : M.D} {v : V} (rd : RelD K H d v) {t0 : M.Ty} {b0 : Bool} (e0 : M.isTy S d t0 = some b0) :
    ∃ n, TyX K H v n ∧ ∀ t b, M.isTy S d t = some b → PySem.W.kitOne K n (.type (tyN t)) = some b := by
  cases rd with
  | non => exact ⟨_, .base .non, fun t b e => by cases e; exact kit_ty (ky_none t)⟩
  | bl x => exact ⟨_, .base (.bl x), fun t b e => by cases e; exact kit_ty (ky_bool t)⟩
  | int x => exact ⟨_, .base (.int x), fun t b e => by cases e; exact kit_ty (ky_int t)⟩
  | str x => exact ⟨_, .base (.str _), fun t b e => by cases e; exact kit_ty (ky_str t)⟩
  | tup h1 h2 =>
    refine ⟨.type "tuple", ?_, fun t b e => by cases e; exact kit_ty (ky_tup t)⟩
    rcases h1 with (h | ⟨o, h⟩) | ⟨o, its, n, hk, hc, _⟩
    · exact .base (.tup h)
    · exact .fTuple h
    · exact .kTuple hk hc
  | fl h1 h2 =>
    refine ⟨.type "list", ?_, fun t b e => by cases e; exact kit_ty (ky_lst t)⟩
    rcases h1 with ⟨o, h⟩ | ⟨o, its, n, hk, hc, _⟩
    · exact .base (.frz h)
    · exact .kList hk hc
  | xn _ => cases e0
  | ref a =>
    have e' : M.tyO (S a) t0 = some b0 := e0
    cases q : S a with
    | none => rw [q] at e'; cases e'
    | some o =>
      cases o with
      | lst ds =>
        obtain ⟨vs, h1, _⟩ := r a _ q
        refine ⟨_, .base (.lst h1), fun t b e => ?_⟩
        have e : M.tyO (S a) t = some b := e
        rw [q] at e
        cases e
        exact kit_ty (ky_lst t)
      | dic =>
        refine ⟨_, .base (.dK (r a _ q)), fun t b e => ?_⟩
        have e : M.tyO (S a) t = some b := e
        rw [q] at e
        cases e
        exact kit_ty (ky_dic t)
      | dct kvs =>
        obtain ⟨vs, h1, _⟩ := r a _ q
        refine ⟨_, .base (.dK h1), fun t b e => ?_⟩
        have e : M.tyO (S a) t = some b := e
        rw [q] at e
        cases e
        exact kit_ty (ky_dic t)
      | ins C fs =>
        obtain ⟨dx, vs, h1, _, h3⟩ := r a _ q
        refine ⟨.ref C, .base (.ins h1 h3.cl h3.ha h3.hn h3.ht h3.hm), fun t b e => ?_⟩
        have e : M.tyO (S a) t = some b := e
        rw [q] at e
        cases e
        exact h3.isb _ (by cases t <;> simp [tyN])
theorem isTy_rel {K : Frag} {H : Hp} {S : M.Sto} (r : RelS K H S) {d : M.D} {v : V} (rd : RelD K H d v) {t : M.Ty} {b : Bool} (e : M.isTy S d t = some b) :
    ∃ n, TyX K H v n ∧ PySem.W.kitOne K n (.type (tyN t)) = some b := by
  obtain ⟨n, h1, h2⟩ := isTy_all r rd e
  exact ⟨n, h1, h2 t b e⟩
/-! ### [::-1] -/
section
variable {X : Cx}
theorem places_rev (n : Nat) : Builtin.Slice.slicePlaces ((n : Int) - 1) (-1) (-1) = n := by
  unfold Builtin.Slice.slicePlaces
  have h1 : ¬ ((-1 : Int) > 0) := by decide
  simp only [h1, if_false]
  have e : (-(-1 : Int)) = 1 := by decide
  rw [e, Int.ediv_one]
  split <;> omega
theorem sliceApplied_rev {prog : Program} {w : World} {A : Around} {E : Value → Shared → Prop} {s : Shared} {sl : Addr} {vl vu vs : Value} {n : Nat} {Q : Int × Int × Nat → Shared → Prop} (hs : s.heap.IsSliceOf sl vl vu vs) (pl : IsPart vl none) (pu : IsPart vu none) (ps : IsPart vs (some (-1)))
    (h : Q ((n : Int) - 1, -1, n) s) : wpAny (model prog w) A (Builtin.Slice.sliceApplied (.ref sl) (pure (n : Int))) Q E s := by
  obtain ⟨os, hos, hcs, hds⟩ := id hs
  unfold Builtin.Slice.sliceApplied Builtin.Slice.sliceFields
  refine wpAny_bind (wpAny_bind (wpAny_field hos hds (x := vl) rfl (wpAny_bind (wpAny_field hos hds (x := vu) rfl (wpAny_bind (wpAny_field hos hds (x := vs) rfl (wpAny_pure ?_)))))))
  refine wpAny_bind (HT.slicePart_ ps ?_)
  show wpAny _ _ (if ((-1 : Int) == 0) = true then _ else _) _ _ s
  rw [if_neg (by decide)]
  refine wpAny_bind (HT.slicePart_ pl (wpAny_bind (HT.slicePart_ pu (wpAny_bind (wpAny_pure ?_)))))
  show wpAny _ _ (pure ((n : Int) - 1, (-1 : Int), Builtin.Slice.slicePlaces ((n : Int) - 1) (-1) (-1))) _ _ s
  rw [places_rev]
  exact wpAny_pure h
theorem fm_congr {α β : Type} {f g : α → Option β} : ∀ {l : List α}, (∀ x ∈ l, f x = g x) → l.filterMap f = l.filterMap g
  | [], _ => rfl
  | x :: l, h => by
    rw [List.filterMap_cons, List.filterMap_cons, h x List.mem_cons_self, fm_congr fun y hy => h y (List.mem_cons_of_mem _ hy)]
theorem pick_rev (its : List Value) : ((List.range its.length).filterMap fun (k : Nat) => its.toArray[(((its.length : Int) - 1) + (k : Int) * -1).toNat]?).toArray = its.reverse.toArray := by
  have e : (List.range its.length).filterMap (fun (k : Nat) => its.toArray[(((its.length : Int) - 1) + (k : Int) * -1).toNat]?) = ((List.range its.length).map fun k => its.length - 1 - k).filterMap (fun j => its.toArray[j]?) := by
    rw [List.filterMap_map]
    refine fm_congr fun k hk => ?_
    have := List.mem_range.mp hk
    have e : (((its.length : Int) - 1) + (k : Int) * -1).toNat = its.length - 1 - k := by omega
    show its.toArray[(((its.length : Int) - 1) + (k : Int) * -1).toNat]? = its.toArray[its.length - 1 - k]?
    rw [e]
  have a := PySem.W.krv_all its.toArray
  rw [e, PySem.W.krv_range, List.filterMap_reverse]
  simp only [List.size_toArray] at a
  rw [a]
theorem getItem_tuple_rev {prog : Program} {w : World} {A : Around} {E : Value → Shared → Prop} {s : Shared} {t sl : Addr} {its : List Value} {vl vu vs : Value} {Q : Value → Shared → Prop} (ht : IsTup s.heap t its.toArray) (hs : s.heap.IsSliceOf sl vl vu vs) (pl : IsPart vl none) (pu : IsPart vu none) (ps : IsPart vs (some (-1)))
    (hz : its.length ≤ sizeLine) (h : Q (.ref s.heap.objs.size) { s with heap := s.heap.push { cls := .type "tuple", data := .seq its.reverse.toArray } }) :
    wpAny (model prog w) A (getItem (.ref t) (.ref sl)) Q E s := by
  obtain ⟨os, hos, hcs, hds⟩ := id hs
  have hTs : s.TypeIs (.ref sl) "slice" := ⟨os, hos, hcs⟩
  unfold getItem
  try with_reducible refine wpAny_holding ?_
  first | refine wpAny_bind (wpAny_pure ?_) | skip
  refine wpAny_bind (wpAny_sequenceKey ht.typeIs (by decide) ?_)
  refine wpAny_bind (wpAny_callSpecial?_slot (name := Str.ofString "__getitem__") ht.typeIs PyProof.Rows.slot_tuple_getitem
    (wpAny_call_entry PyProof.Rows.slot_tuple_getitem ht.typeIs entry_tuple_getitem ?_ (args_tuple_getitem _ _)))
  show wpAny _ _ (Builtin.Tuple.tupleItemsOf (.ref t) >>= _) _ _ s
  refine wpAny_bind (tupleItemsOf_ ht ?_)
  refine wpAny_bind (wpAny_typeOf hTs ?_)
  rw [if_pos (by decide)]
  refine wpAny_bind (sliceApplied_rev hs pl pu ps ?_)
  have hno : ¬ ((((its.toArray.size : Int) - 1) == 0 && (-1 : Int) == 1 && its.toArray.size == its.toArray.size) = true) := by
    rw [show ((-1 : Int) == 1) = false by decide]
    simp
  show wpAny _ _ (if (((its.toArray.size : Int) - 1) == 0 && (-1 : Int) == 1 && its.toArray.size == its.toArray.size) = true then _ else _) _ _ s
  rw [if_neg hno]
  have e := pick_rev its
  have e2 : its.toArray.size = its.length := List.size_toArray
  rw [e2, e]
  have hsz : sizeOk (.seq its.reverse.toArray) := by
    show its.reverse.toArray.size ≤ sizeLine
    rw [List.size_toArray, List.length_reverse]
    exact hz
  first
    | exact wpAny_bind (m := Builtin.Tuple.tupleExact _) (wpAny_newObj_type (wpAny_pure ⟨_, rfl, wpAny_pure h⟩) hsz)
    | exact wpAny_bind (m := Builtin.Tuple.tupleExact _) (wpAny_newObj_type (wpAny_bind (wpAny_pure (wpAny_pure ⟨_, rfl, wpAny_pure h⟩))) hsz)
    | exact wpAny_bind (wpAny_bind (m := Builtin.Tuple.tupleExact _) (wpAny_newObj_type (wpAny_pure (wpAny_pure ⟨_, rfl, wpAny_pure h⟩)) hsz))
    | exact wpAny_bind (wpAny_bind (m := Builtin.Tuple.tupleExact _) (wpAny_newObj_type (wpAny_pure ⟨_, rfl, wpAny_pure h⟩) hsz))
def rRv (K : Frag) : V → Hp → VK → Prop := fun v H Q => ∃ x S Qd, RelS K H S ∧ RelD K H x v ∧ M.revD x S Qd ∧ OkV K S H Qd Q
theorem pe_revM {e : Expr} {te : TE} {k : Nat} {p1 p2 p3 pos : Pos} (he : PE X e te) : PE X (.Subscript e (.Slice none none (some (.UnaryOp .USub (.Constant (.int 1) k p1) p2)) p3) pos) (fun σ H Q => te σ H fun v H1 => rRv X.K v H1 Q) := by
  refine ⟨fun pins s σ H Q I h => ?_⟩
  refine Subscript_ (thn (he.run pins s σ H _ I h) fun v s1 ⟨x, H1, I1, r1, q1⟩ => ?_)
  obtain ⟨d, S, Qd, r, rd, w, hq⟩ := q1
  have hst : PO X (some (.UnaryOp .USub (.Constant (.int 1) k p1) p2)) (tPart (tUn (rU fun i => .int (-i)) (tC (.int 1)))) := po_some (pe_un un_neg pe_int)
  refine wpAny_Slice (thn (po_none.run pins s1 σ H1 (fun o H2 => o = none ∧ H2 = H1) I1 ⟨rfl, rfl⟩) fun vl s2 ⟨l, H2, I2, pl, el, e2⟩ => ?_)
  subst el e2
  refine thn (po_none.run pins s2 σ H2 (fun o H3 => o = none ∧ H3 = H2) I2 ⟨rfl, rfl⟩) fun vu s3 ⟨u, H3, I3, pu, eu, e3⟩ => ?_
  subst eu e3
  refine thn (hst.run pins s3 σ H3 (fun o H4 => o = some (-1) ∧ H4 = H3) I3 ⟨1, rfl, -1, rfl, rfl, rfl⟩) fun vs s4 ⟨o, H4, I4, ps, eo, e4⟩ => ?_
  subst eo e4
  have I5 : Inv X pins σ H4 { s4 with heap := s4.heap.push { cls := .type "slice", data := .fields #[vl, vu, vs] } } := I4.kept (t' := s4.toks) fun b ob q => Heap.get?_push_of_some _ q
  have lst : ∀ a ws xs, x = .ref a → SqL X.K H4 a ws → RelDs X.K H4 xs ws → (∀ p, S p = none → Qd (.ref p) (M.upd S p (.lst xs.reverse))) → wpAny (model X.prog X.w) X.A (subscriptTail e (.Slice none none (some (.UnaryOp .USub (.Constant (.int 1) k p1) p2)) p3) v (.ref s4.heap.objs.size)) (EP X pins σ Q) X.xe { s4 with heap := s4.heap.push { cls := .type "slice", data := .fields #[vl, vu, vs] } } := by
    intro a ws xs ex hx hd w
    subst ex
    cases r1
    obtain ⟨its, rr, ht, hz⟩ := I5.list hx
    have hlen := rr.length
    refine tail_any (ops := [.ref a, .ref s4.heap.objs.size]) ht.isList.typeIs (PySem.slot_list_getitem.lookup) ?_ (by with_unfolding_all rfl)
    refine wpAny_getItem_list_slice ht.isList (Heap.IsSliceOf.new _ vl vu vs) pl pu ps (by decide) ?_ (by rw [List.size_toArray]; omega)
    rw [PySem.W.krv_pick]
    refine ⟨.ref _, _, I5.laid (t' := s4.toks) (o := .lst ws.reverse) (fun b ob q => Heap.get?_push_of_some _ q) (Nat.le_refl _) ?_, rfl, hq.newL r hd.reverse w _ (I5.hok.fresh (Nat.le_refl _))⟩
    exact ⟨by rw [List.length_reverse]; exact hz, _, 0, rr.reverse, Heap.get?_push_size _ rfl⟩
  show wpAny (model X.prog X.w) X.A (subscriptTail e (.Slice none none (some (.UnaryOp .USub (.Constant (.int 1) k p1) p2)) p3) v (.ref s4.heap.objs.size)) (EP X pins σ Q) X.xe { s4 with heap := s4.heap.push { cls := .type "slice", data := .fields #[vl, vu, vs] } }
  cases rd with
  | @tup a ds ws h1 h2 =>
    cases r1
    obtain ⟨its, rr, ht, hz⟩ := I5.tuple h1
    have hlen := rr.length
    refine tail_any (ops := [.ref a, .ref s4.heap.objs.size]) ht.typeIs (PyProof.Rows.slot_tuple_getitem.lookup) ?_ (by with_unfolding_all rfl)
    refine getItem_tuple_rev ht (Heap.IsSliceOf.new _ vl vu vs) pl pu ps (by omega) ?_
    refine ⟨.ref _, _, I5.laid (t' := s4.toks) (o := .tup ws.reverse) (fun b ob q => Heap.get?_push_of_some _ q) (Nat.le_refl _) ?_, rfl, hq.newT r h2.reverse w _ (I5.hok.fresh (Nat.le_refl _))⟩
    exact ⟨by rw [List.length_reverse]; exact hz, _, rr.reverse, IsTup.new _ _⟩
  | fl h1 h2 => exact lst _ _ _ rfl h1.sq h2 w
  | ref a =>
    obtain ⟨xs, e, w⟩ := opt_of (show M.opt (M.lsOf S (.ref a)) (fun xs => ∀ p, S p = none → Qd (.ref p) (M.upd S p (.lst xs.reverse))) from w)
    obtain ⟨ws, h1, h2⟩ := r.at e
    exact lst a ws xs rfl (SqL.of h1) h2 w
  | non => exact False.elim w
  | bl b => exact False.elim w
  | int i => exact False.elim w
  | str x =>
    obtain ⟨hx, w⟩ : x.length ≤ M.lim ∧ Qd (.str x.reverse) S := w
    obtain ⟨t, rfl⟩ := r1
    refine tail_any (ops := [.str (stx x) t, .ref s4.heap.objs.size]) (typeIs_str _ _ _) PySem.F.slot_str_getitem.lookup ?_ (by with_unfolding_all rfl)
    obtain ⟨l, rfl, el⟩ := IsPart.raw pl
    obtain ⟨u, rfl, eu⟩ := IsPart.raw pu
    obtain ⟨st, rfl, es⟩ := IsPart.raw ps
    have e0 : (st.map (·.1)).getD 1 = -1 := by rw [es]; rfl
    refine wpAny_getItem_str_slice (l := l) (u := u) (st := st) ⟨_, Heap.get?_push_size _ rfl, rfl, rfl⟩ (by rw [e0]; rfl) ?_
    have str_rev : (((List.range (stx x).length).map fun k => (stx x).length - 1 - k).filterMap ((stx x).cps[·]?)).toArray = x.reverse.toArray := by
      congr 1
      rw [stx_len]
      show ((List.range x.length).map fun k => x.length - 1 - k).filterMap (x.toArray[·]?) = x.reverse
      rw [List.filterMap_map]
      refine List.ext_getElem? fun i => ?_
      have : (List.range x.length).filterMap ((fun k => x.toArray[k]?) ∘ fun k => x.length - 1 - k) = x.reverse := by
        have h1 : (List.range x.length).filterMap ((fun k => x.toArray[k]?) ∘ fun k => x.length - 1 - k) = (List.range x.length).map fun k => x.getD (x.length - 1 - k) 0 := by
          rw [← List.filterMap_eq_map]
          refine fm_congr fun k hk => ?_
          have := List.mem_range.mp hk
          show x.toArray[x.length - 1 - k]? = some (x.getD (x.length - 1 - k) 0)
          have hlt : x.length - 1 - k < x.length := by omega
          simp [hlt]
        rw [h1]
        refine List.ext_getElem (by simp) fun n h1 h2 => ?_
        simp only [List.length_map, List.length_range] at h1
        rw [List.getElem_map, List.getElem_range, List.getElem_reverse]
        have hlt : x.length - 1 - n < x.length := by omega
        simp [hlt]
      rw [this]
    have hm : Builtin.Str.strSliceIndices (l.map (·.1)) (u.map (·.1)) ((st.map (·.1)).getD 1) (stx x).length = (List.range (stx x).length).map fun k => (stx x).length - 1 - k := by
      rw [el, eu, e0]; exact PyProof.Rows.picked_rev _
    show Made.post (if (((st.map (·.1)).getD 1) == 1 && (Builtin.Str.strSliceIndices (l.map (·.1)) (u.map (·.1)) ((st.map (·.1)).getD 1) (stx x).length).length == (stx x).length) = true then Made.val (.str (stx x) t)
      else Made.str ⟨((Builtin.Str.strSliceIndices (l.map (·.1)) (u.map (·.1)) ((st.map (·.1)).getD 1) (stx x).length).filterMap ((stx x).cps[·]?)).toArray⟩) (EP X pins σ Q) _
    have hno : ∀ b : Bool, ¬ ((((-1 : Int) == 1) && b) = true) := by decide
    rw [hm, if_neg (by rw [e0]; exact hno _), str_rev]
    refine ⟨?_, .str (stx x.reverse), H4, I5.tok _, ⟨_, rfl⟩, hq.same r (.str _) w⟩
    show x.reverse.toArray.size ≤ sizeLine
    rw [List.size_toArray, List.length_reverse, ← lim_eq]; exact hx
  | xn _ => exact False.elim w
/-! ### a starred item of a display -/
theorem star_sq {pins : List (Addr × Obj)} {s : Shared} {σ : Sl} {H : Hp} {a : Addr} {vs : List V} {Q : List Value → Shared → Prop} (I : Inv X pins σ H s) (h : SqL X.K H a vs ∨ SqT X.K H a vs) (hq : ∀ us s', Inv X pins σ H s' → Vals vs us → Q us s') :
    PySem.W.StarOf (model X.prog X.w) X.A X.xe (.ref a) Q s := by
  have go : ∀ {T : String} {o : Obj} {its : List Value} {n : Nat}, (T = "list" ∨ T = "tuple") → s.heap.get? a = some o → o.cls = .type T → o.data = .seq its.toArray n → its.length ≤ sizeLine → Vals vs its → PySem.W.StarOf (model X.prog X.w) X.A X.xe (.ref a) Q s := by
    intro T o its n hT ho hc hd hz rv
    have hT' : s.TypeIs (.ref a) T := ⟨o, ho, hc⟩
    have z : wpAny (model X.prog X.w) X.A (collect (.ref a)) Q X.xe s :=
      wpAny_collect_seq a hT ho hc hd (fun h' hk => hq _ _ (I.kept (t' := s.toks) hk) (by simpa using rv)) (by simpa using hz)
    unfold PySem.W.StarOf notIterableAtAll
    rcases hT with rfl | rfl
    · exact wpAny_bind (wpAny_specialOf hT' PySem.F.slot_list_iter.lookup (wpAny_pure ⟨rfl, z⟩))
    · exact wpAny_bind (wpAny_specialOf hT' PySem.F.slot_tuple_iter.lookup (wpAny_pure ⟨rfl, z⟩))
  rcases h with h | h
  · obtain ⟨its, rv, ⟨o, n, ho, hc, _, hd⟩, hz⟩ := I.list h
    exact go (.inl rfl) ho hc hd (by rw [← rv.length]; exact hz) rv
  · obtain ⟨its, rv, ⟨o, ho, hc, n, hd⟩, hz⟩ := I.tuple h
    exact go (.inr rfl) ho hc hd (by rw [← rv.length]; exact hz) rv
theorem pa_star {e : Expr} {es : List Expr} {te : TE} {t : TA} {p : Pos} {r : V → Hp → (List V → Hp → Prop) → Prop}
    (hr : ∀ v H Q, r v H Q → ∃ a vs, v = .ref a ∧ (SqL X.K H a vs ∨ SqT X.K H a vs) ∧ Q vs H) (ha : PE X e te) (ht : PA X es t) :
    PA X (.Starred e p :: es) (fun σ H Q => te σ H fun v H1 => r v H1 fun xs H2 => t σ H2 fun ys H3 => Q (xs ++ ys) H3) := by
  refine ⟨fun pos pins s σ H Q I h => ?_⟩
  refine PySem.W.items_star (thn (ha.run pins s σ H _ I h) fun v s1 ⟨x, H1, I1, r1, q1⟩ => ?_)
  obtain ⟨a, vs, rfl, hs, q⟩ := hr _ _ _ q1
  cases r1
  refine star_sq I1 hs fun us s2 I2 rv => ?_
  exact thn (ht.run pos pins s2 σ H1 _ I2 q) fun ws s3 ⟨ys, H3, I3, rw', q3⟩ => ⟨_, H3, I3, rv.append rw', q3⟩
end
end Snd
namespace Snd
open PySem PySem.Spec PyProof.Rows L2
theorem prs_map : ∀ {ds : List M.D} {ps : List (Int × Int)}, M.prsD ds = some ps → ds = ps.map M.prV
  | [], ps, h => by cases h; rfl
  | d :: ds, ps, h => by
    match d, h with
    | .tup [.int i, .int j], h =>
      obtain ⟨qs, e1, e2⟩ := Option.map_eq_some_iff.mp (show (M.prsD ds).map ((i, j) :: ·) = some ps from h)
      subst e2
      rw [prs_map e1]; rfl
section
variable {X : Cx} {pins : List (Addr × Obj)} {σ : L2.St} {H : Hp} {s : Shared}
theorem pr_rel (I : Inv X pins σ H s) {p : Int × Int} {v : V} {u : Value} (h : RelD X.K H (M.prV p) v) (hv : RelV v u) : ∃ a t1 t2, v = .ref a ∧ u = .ref a ∧ s.heap.IsTuple a #[.int p.1 t1, .int p.2 t2] := by
  cases h with
  | @tup a ds vs h1 h2 =>
    cases h2 with
    | cons r1 r2 =>
      cases r2 with
      | cons r3 r4 =>
        cases r4
        cases r1
        cases r3
        obtain ⟨its, rv, hl, _⟩ := I.tuple h1
        obtain ⟨u1, u2, rfl, ri, rj⟩ := vals2 rv
        obtain ⟨t1, rfl⟩ := ri
        obtain ⟨t2, rfl⟩ := rj
        obtain rfl : u = Value.ref a := hv
        exact ⟨a, t1, t2, rfl, rfl, hl⟩
theorem prs_hold (I : Inv X pins σ H s) : ∀ {ps : List (Int × Int)} {vs : List V} {its : List Value}, RelDs X.K H (ps.map M.prV) vs → Vals vs its → PySem.W.HoldAll s.heap its ps
  | [], _, _, .nil, .nil => PySem.W.HoldAll.nil
  | p :: ps, _, _, .cons r rs, .cons v vs => by
    obtain ⟨a, t1, t2, rfl, rfl, hl⟩ := pr_rel I r v
    exact PySem.W.HoldAll.cons (PySem.W.holds_pair hl (PySem.W.holds_int _ _) (PySem.W.holds_int _ _)) (prs_hold I rs vs)
theorem minP_eq : ∀ (r : List (Int × Int)) (p : Int × Int), PySem.W.minOf p r = M.minP p r
  | [], p => rfl
  | i :: r, p => by
    show PySem.W.minOf (if PySem.W.DatumOrd.lt i p = true then i else p) r = M.minP (if M.ltP i p then i else p) r
    rw [minP_eq r]
    rfl
theorem onConsP_of {l : List (Int × Int)} {P : Int × Int → List (Int × Int) → Prop} (h : M.onConsP l P) : ∃ i r, l = i :: r ∧ P i r := by
  cases l with
  | cons i r => exact ⟨i, r, rfl, h⟩
  | nil => exact False.elim h
theorem RelDs.at {K : Frag} {H : Hp} : ∀ {ds : List M.D} {vs : List V} {i : Nat} {d : M.D}, RelDs K H ds vs → ds[i]? = some d → ∃ v, vs[i]? = some v ∧ RelD K H d v := fun r e => r.get e
end
section
variable {X : Cx}
theorem bi_minp (hc : X.calm = true) (hu : X.A.units + 64 < cLine) : CallR X (.builtin "min") (rBi X.K .minp) := by
  intro pins s σ H vs us Q I rv h
  obtain ⟨ds, S, Qd, r, rd, w, hq⟩ := h
  obtain ⟨d, rfl, w⟩ := arg1_of w
  obtain ⟨v, rfl, rx⟩ := rel1 rd
  obtain ⟨xs, e, w⟩ := opt_of w
  obtain ⟨ps, e2, w⟩ := opt_of w
  obtain ⟨p, ps, rfl, wq⟩ := onConsP_of w
  obtain ⟨a, ws, rfl, hs, hd⟩ := lsOf_rel r rx e
  have e3 := prs_map e2
  subst e3
  obtain ⟨its, rw', hl, _⟩ := I.list hs
  rw [Vals.ref1 rv]
  have hold := prs_hold I hd rw'
  have hdep : PySem.W.Datum.depth (Int × Int) ≤ 10 := by decide
  refine PySem.W.min_list_datum (x := p) (xs := ps) (I.ok.hd hc) hl.isList (by simpa using hold) (by omega) fun i v h' tk hi hh hk => ?_
  have hi' : its[i]? = some v := by simpa using hi
  obtain ⟨x, hx, hv⟩ := hold.at hi'
  obtain ⟨as1, r1⟩ := hv
  obtain ⟨as2, r2⟩ := hh
  obtain ⟨ed, _⟩ := reads_det (fun b o eb _ => hk b o eb) r1 r2
  have ex : PySem.W.minOf p ps = x := by
    have : PyData.tuple [.int (PySem.W.minOf p ps).1, .int (PySem.W.minOf p ps).2] = PyData.tuple [.int x.1, .int x.2] := ed
    injection this with this
    injection this with q1 this
    injection this with q2 _
    injection q1 with q1
    injection q2 with q2
    exact Prod.ext q1 q2
  obtain ⟨vv, hvv, rvv⟩ := hd.get (show ((p :: ps).map M.prV)[i]? = some (M.prV x) by rw [List.getElem?_map, hx]; rfl)
  obtain ⟨v', hv', rel⟩ := rw'.get hvv
  rw [hi'] at hv'
  injection hv' with hv'
  subst hv'
  rw [← minP_eq, ex] at wq
  exact ⟨vv, H, I.kept hk, rel, hq.same r rvv wq⟩
end
section
variable {X : Cx} {pins : List (Addr × Obj)} {σ : L2.St} {H : Hp} {s : Shared}
theorem pair_uniq {h : Heap} {v : Value} {x y x' y' : Int} (p : Srt.IsPair h v x y) (q : Srt.IsPair h v x' y') : x = x' ∧ y = y' := by
  obtain ⟨a, o, t, u, n, rfl, ho, hc, hd⟩ := p
  obtain ⟨a', o', t', u', n', e, ho', hc', hd'⟩ := q
  injection e with e
  subst e
  rw [ho] at ho'
  injection ho' with ho'
  subst ho'
  rw [hd] at hd'
  injection hd' with e1 _
  have e2 := congrArg Array.toList e1
  injection e2 with e3 e4
  injection e4 with e5 _
  injection e3 with e3 _
  injection e5 with e5 _
  exact ⟨e3, e5⟩
open Classical in
noncomputable def kOf (h : Heap) (v : Value) : Int × Int := if e : ∃ p : Int × Int, Srt.IsPair h v p.1 p.2 then e.choose else (0, 0)
theorem kOf_is {h : Heap} {v : Value} {p : Int × Int} (hp : Srt.IsPair h v p.1 p.2) : kOf h v = p := by
  have e : ∃ p : Int × Int, Srt.IsPair h v p.1 p.2 := ⟨p, hp⟩
  unfold kOf
  rw [dif_pos e]
  obtain ⟨h1, h2⟩ := pair_uniq e.choose_spec hp
  exact Prod.ext h1 h2
theorem prs_k (I : Inv X pins σ H s) : ∀ {ps : List (Int × Int)} {vs : List V} {its : List Value}, RelDs X.K H (ps.map M.prV) vs → Vals vs its → its.map (kOf s.heap) = ps ∧ ∀ v ∈ its, Srt.IsPair s.heap v (kOf s.heap v).1 (kOf s.heap v).2 ∧ (∃ a, v = Value.ref a) ∧ RelD X.K H (M.prV (kOf s.heap v)) (backV v)
  | [], _, _, .nil, .nil => ⟨rfl, fun v hv => by cases hv⟩
  | p :: ps, _, _, .cons r rs, .cons q qs => by
    obtain ⟨h1, h2⟩ := prs_k I rs qs
    obtain ⟨a, t1, t2, rfl, rfl, o, ho, hc, n, hd⟩ := pr_rel I r q
    have ip : Srt.IsPair s.heap (.ref a) p.1 p.2 := ⟨a, o, t1, t2, n, rfl, ho, hc, hd⟩
    have kp := kOf_is ip
    refine ⟨by rw [List.map_cons, kp, h1], fun v hv => ?_⟩
    rcases List.mem_cons.mp hv with rfl | hv
    · rw [kp]
      exact ⟨ip, ⟨a, rfl⟩, r⟩
    · exact h2 v hv
theorem rel_map {K : Frag} {H : Hp} {f : Value → M.D} {g : Value → V} : ∀ {l : List Value}, (∀ v ∈ l, RelD K H (f v) (g v)) → RelDs K H (l.map f) (l.map g)
  | [], _ => .nil
  | v :: l, h => .cons (h v List.mem_cons_self) (rel_map fun u hu => h u (List.mem_cons_of_mem _ hu))
end
section
variable {X : Cx}
theorem bi_sortp : CallR X (.builtin "sorted") (rBi X.K .sortp) := by
  intro pins s σ H vs us Q I rv h
  obtain ⟨ds, S, Qd, r, rd, w, hq⟩ := h
  obtain ⟨d, rfl, w⟩ := arg1_of w
  obtain ⟨v, rfl, rx⟩ := rel1 rd
  obtain ⟨xs, e, w⟩ := opt_of w
  obtain ⟨ps, e2, wq⟩ := opt_of w
  obtain ⟨a, ws, rfl, hs, hd⟩ := lsOf_rel r rx e
  have e3 := prs_map e2
  subst e3
  obtain ⟨its, rw', hl, hz⟩ := I.list hs
  rw [Vals.ref1 rv]
  obtain ⟨k1, k2⟩ := prs_k I hd rw'
  refine SrtO.sorted_pairsO (k := kOf s.heap) hl.isList (by rw [← rw'.length]; exact hz) (fun v hv => (k2 v hv).1) fun h' d out h1 h2 kp hd' hn => ?_
  have h3 : ∀ u ∈ out, ∃ a, u = Value.ref a := fun u hu => (k2 u (h2.perm.mem_iff.mp hu)).2.1
  obtain ⟨n, hn⟩ := hn
  have rel : RelDs X.K H ((out.map (kOf s.heap)).map M.prV) (out.map backV) := by
    rw [List.map_map]
    exact rel_map fun v hv => (k2 v (h2.perm.mem_iff.mp hv)).2.2
  have perm : (out.map (kOf s.heap)).Perm ps := by
    have := h2.perm.map (kOf s.heap)
    rwa [k1] at this
  have pw : (out.map (kOf s.heap)).Pairwise (fun p q => M.ltP q p = false) := List.pairwise_map.mpr h1
  refine ⟨.ref d, upd H d (.lst (out.map backV)), I.laid (t' := s.toks) kp hd' ⟨?_, out, n, vals_back h3, hn⟩, rfl, hq.newL r rel (wq _ perm pw) d (I.hok.fresh hd')⟩
  rw [List.length_map, h2.perm.length_eq, ← rw'.length]
  exact hz
end
end Snd
namespace Snd
open PySem PySem.Spec PyProof.Rows L2
/-! ### repr -/
mutual
def pyOf : M.P → PyData
  | .non => .none
  | .bl b => .bool b
  | .int i => .int i
  | .str x => .str (stx x)
  | .tup xs => .tuple (pyOfL xs)
  | .lst xs => .list (pyOfL xs)
  | .dic => .dict []
  | .dct kvs => .dict (pyOfK kvs)
def pyOfL : List M.P → List PyData
  | [] => []
  | x :: r => pyOf x :: pyOfL r
def pyOfK : List (M.Tx × M.P) → List (PyData × PyData)
  | [] => []
  | (k, x) :: r => (.str (stx k), pyOf x) :: pyOfK r
end
def rpF (p : M.P) : M.Tx := (pyOf p).shown.cps.toList
theorem stx_rpF (p : M.P) : stx (rpF p) = (pyOf p).shown := by
  unfold stx rpF
  rw [Array.toArray_toList]
section
variable {X : Cx} {pins : List (Addr × Obj)} {σ : Sl} {H : Hp} {s : Shared} {S : M.Sto}
theorem reads_all {f : M.D → M.P} {ok : M.D → Prop} (h : ∀ d v u, ok d → RelD X.K H d v → RelV v u → ∃ as, Reads s.heap u (pyOf (f d)) as) : ∀ {xs : List M.D} {vs : List V} {us : List Value}, (∀ y ∈ xs, ok y) → RelDs X.K H xs vs → Vals vs us → ∃ as, ReadsAll s.heap us (pyOfL (xs.map f)) as
  | [], _, _, _, .nil, .nil => ⟨_, .nil⟩
  | x :: xs, _, _, o, .cons a b, .cons c d => by
    obtain ⟨as, q1⟩ := h x _ _ (o x List.mem_cons_self) a c
    obtain ⟨bs, q2⟩ := reads_all h (fun y hy => o y (List.mem_cons_of_mem _ hy)) b d
    exact ⟨_, .cons q1 q2⟩
theorem reads_fit (I : Inv X pins σ H s) (r : RelS X.K H S) : ∀ (n : Nat) (d : M.D) (v : V) (u : Value), M.fitR n S d → RelD X.K H d v → RelV v u → ∃ as, Reads s.heap u (pyOf (M.toQ n S d)) as
  | 0, _, _, _, h, _, _ => False.elim h
  | n + 1, d, v, u, h, rd, rv => by
    have ih := reads_fit I r n
    unfold M.fitR at h
    unfold M.toQ
    cases rd with
    | non => cases rv; exact ⟨_, .none⟩
    | bl b => cases rv; exact ⟨_, .bool b⟩
    | int i => obtain ⟨t, rfl⟩ := rv; exact ⟨_, .int i t⟩
    | str x => obtain ⟨t, rfl⟩ := rv; exact ⟨_, .str _ t⟩
    | tup hs hd =>
      cases rv
      obtain ⟨its, rr, ⟨o, ho, hc, m, hdat⟩, _⟩ := I.tuple hs
      obtain ⟨as, q⟩ := reads_all ih h hd rr
      exact ⟨_, .tuple ho hc hdat q⟩
    | fl hs hd =>
      cases rv
      obtain ⟨its, rr, ⟨o, m, ho, hc, _, hdat⟩, _⟩ := I.list hs.sq
      obtain ⟨as, q⟩ := reads_all ih h hd rr
      exact ⟨_, .list ho hc hdat q⟩
    | ref a =>
      cases rv
      obtain ⟨xs, e, h⟩ := opt_of h
      obtain ⟨vs, h1, h2⟩ := r.at e
      obtain ⟨its, rr, ⟨o, m, ho, hc, _, hdat⟩, _⟩ := I.list (SqL.of h1)
      obtain ⟨as, q⟩ := reads_all ih h h2 rr
      simp only [lstAt_some e]
      exact ⟨_, .list ho hc hdat q⟩
    | xn _ => exact False.elim h
/-! ### with dicts within -/
theorem readsQ_all {f : M.D → M.P} {ok : M.D → Prop} (h : ∀ d v u, ok d → RelD X.K H d v → RelV v u → ∃ as, Reads s.heap u (pyOf (f d)) as ∧ sysModules ∉ as) : ∀ {xs : List M.D} {vs : List V} {us : List Value}, (∀ y ∈ xs, ok y) → RelDs X.K H xs vs → Vals vs us → ∃ as, ReadsAll s.heap us (pyOfL (xs.map f)) as ∧ sysModules ∉ as
  | [], _, _, _, .nil, .nil => ⟨_, .nil, fun z => nomatch z⟩
  | x :: xs, _, _, o, .cons a b, .cons c d => by
    obtain ⟨as, q1, n1⟩ := h x _ _ (o x List.mem_cons_self) a c
    obtain ⟨bs, q2, n2⟩ := readsQ_all h (fun y hy => o y (List.mem_cons_of_mem _ hy)) b d
    exact ⟨_, .cons q1 q2, fun z => (List.mem_append.mp z).elim n1 n2⟩
theorem kv_entries : ∀ {es : List (Key × Value)} {kvs : List (M.Tx × M.D)} {vs : List V}, KV ((kvs.map fun p => (Sum.inr (stx p.1) : Key)).zip vs) es → RelDs X.K H (kvs.map (·.2)) vs → Vals vs (es.map (·.2)) ∧ es.map (·.1) = kvs.map fun p => (Sum.inr (stx p.1) : Key)
  | es, [], vs, h, r => by
    cases r
    cases h
    exact ⟨.nil, rfl⟩
  | es, (k, d) :: kvs, vs, h, r => by
    cases r with
    | cons a b =>
      cases h with
      | cons c e =>
        obtain ⟨h1, h2⟩ := kv_entries e b
        exact ⟨.cons c.2 h1, by rw [List.map_cons, List.map_cons, h2, ← c.1]⟩
theorem keys_read : ∀ {us : List Value} {ks : List M.Tx}, Paired (fun (k : M.Tx) (u : Value) => ∃ t, u = Value.str (stx k) t) ks us → ReadsAll s.heap us (ks.map fun k => PyData.str (stx k)) []
  | _, [], .nil => .nil
  | _, k :: ks, .cons a b => by
    obtain ⟨t, rfl⟩ := a
    exact .cons (as := []) (bs := []) (.str _ t) (keys_read b)
theorem pyOfK_fst : ∀ kvs : List (M.Tx × M.P), (pyOfK kvs).map (·.1) = (kvs.map (·.1)).map fun k => PyData.str (stx k)
  | [] => rfl
  | (k, x) :: r => by simp only [pyOfK, List.map_cons, pyOfK_fst r]
theorem pyOfK_snd : ∀ kvs : List (M.Tx × M.P), (pyOfK kvs).map (·.2) = pyOfL (kvs.map (·.2))
  | [] => rfl
  | (k, x) :: r => by simp only [pyOfK, pyOfL, List.map_cons, pyOfK_snd r]
theorem ent_keys {P : Program} {w : World} : ∀ {es : List DictEntry} {vs : List (Key × Value)} {ks : List M.Tx}, Pairs (mixKind P w) es vs → vs.map (·.1) = ks.map (fun k => (Sum.inr (stx k) : Key)) → Paired (fun (k : M.Tx) (u : Value) => ∃ t, u = Value.str (stx k) t) ks (es.map (·.key)) ∧ es.map (·.val) = vs.map (·.2)
  | _, _, [], .nil, _ => ⟨.nil, rfl⟩
  | _, _, _ :: _, .nil, h => nomatch h
  | _, _, [], .cons _ _ _, h => nomatch h
  | _, _, k :: ks, .cons (e := e) (kv := v) a1 a2 b, h => by
    rw [List.map_cons, List.map_cons] at h
    injection h with h1 h2
    obtain ⟨g1, g2⟩ := ent_keys b h2
    have a1 : keyIs v.1 e.key = true := a1
    rw [h1] at a1
    refine ⟨.cons ?_ g1, by rw [List.map_cons, List.map_cons, g2, a2]⟩
    obtain ⟨t, e2⟩ := Value.isStrOf_shape (x := stx k) (v := e.key) a1
    exact ⟨t, e2⟩
/-- the place of the modules' table is no list -/
def SysK (K : Frag) : Prop := ∃ o, K.lookup sysModules = some o ∧ o.cls = .type "dict"
theorem SysK.ne (h : SysK X.K) (I : Inv X pins σ H s) {a : Addr} {o : Obj} (ho : s.heap.get? a = some o) (hc : o.cls = .type "list") : a ≠ sysModules := fun z => by
  obtain ⟨o', h1, h2⟩ := h
  have q := I.kIn _ _ h1
  rw [z, q] at ho
  cases ho
  rw [h2] at hc
  exact absurd hc (by decide)
theorem reads_fitQ (I : Inv X pins σ H s) (sy : SysK X.K) (r : RelS X.K H S) : ∀ (n : Nat) (d : M.D) (v : V) (u : Value), M.fitQ n S d → RelD X.K H d v → RelV v u → ∃ as, Reads s.heap u (pyOf (M.toQ n S d)) as ∧ sysModules ∉ as
  | 0, _, _, _, h, _, _ => False.elim h
  | n + 1, d, v, u, h, rd, rv => by
    have ih := reads_fitQ I sy r n
    unfold M.fitQ at h
    unfold M.toQ
    cases rd with
    | non => cases rv; exact ⟨_, .none, fun z => nomatch z⟩
    | bl b => cases rv; exact ⟨_, .bool b, fun z => nomatch z⟩
    | int i => obtain ⟨t, rfl⟩ := rv; exact ⟨_, .int i t, fun z => nomatch z⟩
    | str x => obtain ⟨t, rfl⟩ := rv; exact ⟨_, .str _ t, fun z => nomatch z⟩
    | tup hs hd =>
      cases rv
      obtain ⟨its, rr, ⟨o, ho, hc, m, hdat⟩, _⟩ := I.tuple hs
      obtain ⟨as, q, nq⟩ := readsQ_all ih h hd rr
      exact ⟨_, .tuple ho hc hdat q, nq⟩
    | fl hs hd =>
      cases rv
      obtain ⟨its, rr, ⟨o, m, ho, hc, _, hdat⟩, _⟩ := I.list hs.sq
      obtain ⟨as, q, nq⟩ := readsQ_all ih h hd rr
      exact ⟨_, .list ho hc hdat q, fun z => (List.mem_cons.mp z).elim (fun z => sy.ne I ho hc z.symm) nq⟩
    | ref a =>
      cases rv
      have h : M.fitO (M.fitQ n S) (S a) := h
      cases e : S a with
      | none => rw [e] at h; exact False.elim h
      | some o =>
        rw [e] at h
        cases o with
        | lst xs =>
          obtain ⟨vs, h1, h2⟩ := r a _ e
          obtain ⟨its, rr, ⟨o, m, ho, hc, _, hdat⟩, _⟩ := I.list (SqL.of h1)
          obtain ⟨as, q, nq⟩ := readsQ_all ih h h2 rr
          simp only [e]
          exact ⟨_, .list ho hc hdat q, fun z => (List.mem_cons.mp z).elim (fun z => sy.ne I ho hc z.symm) nq⟩
        | dic =>
          have hH : H a = some (.dK []) := r a _ e
          obtain ⟨z, hS, vs, kv, o, es, ep, ho, hc, hdat, hk, hp, hn⟩ := dk_of I.hok hH
          have hne : a ≠ sysModules := by simpa using hS
          cases kv
          have hes : es.toList = [] := List.eq_nil_of_length_eq_zero (hp.length)
          simp only [e]
          refine ⟨a :: [] ++ [], .dict (kvs := []) (as := []) (bs := []) ho hc.1 hdat (by rw [hes]; exact .nil) (by rw [hes]; exact .nil), ?_⟩
          simp [Ne.symm hne]
        | dct kvs =>
          obtain ⟨ws, hH, h2⟩ := r a _ e
          obtain ⟨z, hS, vs, kv, o, es, ep, ho, hc, hdat, hk, hp, hn⟩ := dk_of I.hok hH
          have hne : a ≠ sysModules := by simpa using hS
          obtain ⟨g1, g2⟩ := kv_entries kv h2
          have g2' : vs.map (·.1) = (kvs.map (·.1)).map fun k => (Sum.inr (stx k) : Key) := by rw [g2, List.map_map]; rfl
          obtain ⟨k1, k2⟩ := ent_keys hp g2'
          simp only [e]
          obtain ⟨bs, q, nq⟩ := readsQ_all (f := M.toQ n S) (ok := M.fitQ n S) ih (fun y hy => by
            obtain ⟨p, hp', rfl⟩ := List.mem_map.mp hy
            exact (h.2 p hp').2) h2 g1
          refine ⟨a :: [] ++ bs, .dict (kvs := pyOfK (kvs.map fun p : M.Tx × M.D => (p.1, M.toQ n S p.2))) (as := []) (bs := bs) ho hc.1 hdat ?_ ?_, ?_⟩
          · have e2 : (kvs.map fun p : M.Tx × M.D => (p.1, M.toQ n S p.2)).map (·.1) = kvs.map (·.1) := by rw [List.map_map]; rfl
            rw [pyOfK_fst, e2]
            exact keys_read k1
          · rw [pyOfK_snd, List.map_map, k2]
            rw [List.map_map] at q
            exact q
          · intro z
            rcases List.mem_append.mp z with z | z
            · rcases List.mem_cons.mp z with z | z
              · exact hne z.symm
              · cases z
            · exact nq z
        | ins C fs => exact False.elim h
    | xn _ => exact False.elim h
end
/-- what is needed of a readable value -/
structure Shw (p : M.P) (n z : Nat) : Prop where
  nd : (pyOf p).hasDict = false
  sh : (pyOf p).showable = true
  dp : (pyOf p).depth ≤ n
  ln : (pyOf p).shown.length ≤ z
theorem shw_all {f : M.D → M.P} {g : M.D → Nat} {n : Nat} {ok : M.D → Prop} (h : ∀ d, ok d → Shw (f d) n (g d)) : ∀ {xs : List M.D}, (∀ y ∈ xs, ok y) →
    PyData.hasDictAll (pyOfL (xs.map f)) = false ∧ PyData.showableAll (pyOfL (xs.map f)) = true ∧ PyData.depthAll (pyOfL (xs.map f)) ≤ n ∧ ((PyData.shownAll (pyOfL (xs.map f))).map (·.length)).sum + 2 * (PyData.shownAll (pyOfL (xs.map f))).length ≤ M.sumN (xs.map fun y => g y + 2)
  | [], _ => by simp [pyOfL, PyData.hasDictAll, PyData.showableAll, PyData.depthAll, PyData.shownAll, M.sumN]
  | x :: xs, o => by
    obtain ⟨a1, a2, a3, a4⟩ := shw_all h (xs := xs) fun y hy => o y (List.mem_cons_of_mem _ hy)
    obtain ⟨b1, b2, b3, b4⟩ := h x (o x List.mem_cons_self)
    simp only [List.map_cons, pyOfL, PyData.hasDictAll, PyData.showableAll, PyData.depthAll, PyData.shownAll, M.sumN, a1, a2, b1, b2, List.sum_cons, List.length_cons]
    refine ⟨rfl, rfl, Nat.max_le.mpr ⟨b3, a3⟩, by omega⟩
theorem shw_fit : ∀ (n : Nat) (S : M.Sto) (d : M.D), M.fitR n S d → Shw (M.toQ n S d) n (M.szR n S d)
  | 0, _, _, h => False.elim h
  | n + 1, S, d, h => by
    have ih := fun d => shw_fit n S d
    unfold M.fitR at h
    unfold M.toQ M.szR
    cases d with
    | non => exact ⟨by simp [pyOf, PyData.hasDict], by simp [pyOf, PyData.showable], by simp [pyOf, PyData.depth], by simp only [pyOf]; exact (show (PyData.shown .none).length ≤ 4 by decide +kernel)⟩
    | bl b => exact ⟨by simp [pyOf, PyData.hasDict], by simp [pyOf, PyData.showable], by simp [pyOf, PyData.depth], by simp only [pyOf]; cases b <;> decide +kernel⟩
    | int i =>
      have hl : i.natAbs.log2 < 1900 := log_lt (by decide) h
      refine ⟨by simp [pyOf, PyData.hasDict], by simp only [pyOf, PyData.showable]; exact decide_eq_true (by omega), by simp [pyOf, PyData.depth], ?_⟩
      simp only [pyOf, PyData.shown]
      have e := int_text_length_le (a := i) (k := 1900) (by decide) hl
      have e2 : (Str.ofString (toString i)).length ≤ 1901 := by
        rw [Str.ofString_eq_toList]
        show (List.toArray _).size ≤ _
        rw [List.size_toArray, List.length_map, String.length_toList]; exact e
      exact Nat.le_trans e2 (by decide)
    | str x =>
      refine ⟨by simp [pyOf, PyData.hasDict], by simp [pyOf, PyData.showable], by simp [pyOf, PyData.depth], ?_⟩
      simp only [pyOf, PyData.shown]
      have e := StrLaws.reprText_len (stx x) (fun c hc => by
        rw [stx_cps] at hc
        have := h c hc
        have e16 : (16 : Nat) ^ 8 = 4294967296 := by decide
        omega)
      rw [stx_len] at e
      exact e
    | tup xs =>
      obtain ⟨a1, a2, a3, a4⟩ := shw_all ih h
      refine ⟨by simp only [pyOf, PyData.hasDict]; exact a1, by simp only [pyOf, PyData.showable]; exact a2, by simp only [pyOf, PyData.depth]; omega, ?_⟩
      simp only [pyOf, PyData.shown]
      have := tupleText_len_le (PyData.shownAll (pyOfL (xs.map (M.toQ n S))))
      omega
    | fl xs =>
      obtain ⟨a1, a2, a3, a4⟩ := shw_all ih h
      refine ⟨by simp only [pyOf, PyData.hasDict]; exact a1, by simp only [pyOf, PyData.showable]; exact a2, by simp only [pyOf, PyData.depth]; omega, ?_⟩
      simp only [pyOf, PyData.shown]
      have := listText_len_le (PyData.shownAll (pyOfL (xs.map (M.toQ n S))))
      omega
    | ref a =>
      obtain ⟨xs, e, h⟩ := opt_of h
      obtain ⟨a1, a2, a3, a4⟩ := shw_all ih h
      simp only [lstAt_some e]
      refine ⟨by simp only [pyOf, PyData.hasDict]; exact a1, by simp only [pyOf, PyData.showable]; exact a2, by simp only [pyOf, PyData.depth]; omega, ?_⟩
      simp only [pyOf, PyData.shown]
      have := listText_len_le (PyData.shownAll (pyOfL (xs.map (M.toQ n S))))
      omega
    | xn c fs => exact False.elim h
structure Shq (p : M.P) (n z : Nat) : Prop where
  sh : (pyOf p).showable = true
  dp : (pyOf p).depth ≤ n
  ln : (pyOf p).shown.length ≤ z
theorem shq_all {f : M.D → M.P} {g : M.D → Nat} {n : Nat} {ok : M.D → Prop} (h : ∀ d, ok d → Shq (f d) n (g d)) : ∀ {xs : List M.D}, (∀ y ∈ xs, ok y) →
    PyData.showableAll (pyOfL (xs.map f)) = true ∧ PyData.depthAll (pyOfL (xs.map f)) ≤ n ∧ ((PyData.shownAll (pyOfL (xs.map f))).map (·.length)).sum + 2 * (PyData.shownAll (pyOfL (xs.map f))).length ≤ M.sumN (xs.map fun y => g y + 2)
  | [], _ => by simp [pyOfL, PyData.showableAll, PyData.depthAll, PyData.shownAll, M.sumN]
  | x :: xs, o => by
    obtain ⟨a2, a3, a4⟩ := shq_all h (xs := xs) fun y hy => o y (List.mem_cons_of_mem _ hy)
    obtain ⟨b2, b3, b4⟩ := h x (o x List.mem_cons_self)
    simp only [List.map_cons, pyOfL, PyData.showableAll, PyData.depthAll, PyData.shownAll, M.sumN, a2, b2, List.sum_cons, List.length_cons]
    refine ⟨rfl, Nat.max_le.mpr ⟨b3, a3⟩, by omega⟩
theorem shw_str (x : M.Tx) (h : ∀ c ∈ x, c < 1114112) : (PyData.str (stx x)).shown.length ≤ 10 * x.length + 2 := by
  simp only [PyData.shown]
  have e := StrLaws.reprText_len (stx x) (fun c hc => by
    rw [stx_cps] at hc
    have := h c hc
    have e16 : (16 : Nat) ^ 8 = 4294967296 := by decide
    omega)
  rw [stx_len] at e
  exact e
theorem shq_kv {f : M.D → M.P} {g : M.D → Nat} {n : Nat} {ok : M.D → Prop} (h : ∀ d, ok d → Shq (f d) n (g d)) : ∀ {xs : List (M.Tx × M.D)}, (∀ p ∈ xs, (∀ c ∈ p.1, c < 1114112) ∧ ok p.2) →
    PyData.showableKv (pyOfK (xs.map fun p => (p.1, f p.2))) = true ∧ PyData.depthKv (pyOfK (xs.map fun p => (p.1, f p.2))) ≤ max n 1 ∧ ((PyData.shownKv (pyOfK (xs.map fun p => (p.1, f p.2)))).map (·.length)).sum + 2 * (PyData.shownKv (pyOfK (xs.map fun p => (p.1, f p.2)))).length ≤ M.sumN (xs.map fun p => 10 * p.1.length + 2 + g p.2 + 4)
  | [], _ => by simp [pyOfK, PyData.showableKv, PyData.depthKv, PyData.shownKv, M.sumN]
  | x :: xs, o => by
    obtain ⟨a2, a3, a4⟩ := shq_kv h (xs := xs) fun y hy => o y (List.mem_cons_of_mem _ hy)
    obtain ⟨o1, o2⟩ := o x List.mem_cons_self
    obtain ⟨b2, b3, b4⟩ := h x.2 o2
    have b1 := shw_str x.1 o1
    simp only [List.map_cons, pyOfK, PyData.showableKv, PyData.depthKv, PyData.shownKv, M.sumN, a2, b2, List.sum_cons, List.length_cons]
    refine ⟨by simp [PyData.showable], Nat.max_le.mpr ⟨Nat.max_le.mpr ⟨by simp [PyData.depth], by omega⟩, a3⟩, ?_⟩
    rw [strLen_append, strLen_append]
    have : ((": " : Str)).length = 2 := rfl
    omega
theorem shq_fit : ∀ (n : Nat) (S : M.Sto) (d : M.D), M.fitQ n S d → Shq (M.toQ n S d) (n + 1) (M.szR n S d)
  | 0, _, _, h => False.elim h
  | n + 1, S, d, h => by
    have ih := fun d => shq_fit n S d
    unfold M.fitQ at h
    unfold M.toQ M.szR
    cases d with
    | non => exact ⟨by simp [pyOf, PyData.showable], by simp [pyOf, PyData.depth], by simp only [pyOf]; exact (show (PyData.shown .none).length ≤ 4 by decide +kernel)⟩
    | bl b => exact ⟨by simp [pyOf, PyData.showable], by simp [pyOf, PyData.depth], by simp only [pyOf]; cases b <;> decide +kernel⟩
    | int i =>
      have q := shw_fit 1 S (.int i) h
      exact ⟨q.sh, Nat.le_trans q.dp (by omega), q.ln⟩
    | str x => exact ⟨by simp [pyOf, PyData.showable], by simp [pyOf, PyData.depth], by simp only [pyOf]; exact shw_str x h⟩
    | tup xs =>
      obtain ⟨a2, a3, a4⟩ := shq_all ih h
      refine ⟨by simp only [pyOf, PyData.showable]; exact a2, by simp only [pyOf, PyData.depth]; omega, ?_⟩
      simp only [pyOf, PyData.shown]
      have := tupleText_len_le (PyData.shownAll (pyOfL (xs.map (M.toQ n S))))
      omega
    | fl xs =>
      obtain ⟨a2, a3, a4⟩ := shq_all ih h
      refine ⟨by simp only [pyOf, PyData.showable]; exact a2, by simp only [pyOf, PyData.depth]; omega, ?_⟩
      simp only [pyOf, PyData.shown]
      have := listText_len_le (PyData.shownAll (pyOfL (xs.map (M.toQ n S))))
      omega
    | ref a =>
      have h : M.fitO (M.fitQ n S) (S a) := h
      cases e : S a with
      | none => rw [e] at h; exact False.elim h
      | some o =>
        rw [e] at h
        cases o with
        | lst xs =>
          obtain ⟨a2, a3, a4⟩ := shq_all ih h
          simp only [e]
          refine ⟨by simp only [pyOf, PyData.showable]; exact a2, by simp only [pyOf, PyData.depth]; omega, ?_⟩
          simp only [pyOf, PyData.shown]
          have := listText_len_le (PyData.shownAll (pyOfL (xs.map (M.toQ n S))))
          omega
        | dic =>
          simp only [e]
          exact ⟨by simp [pyOf, PyData.showable, PyData.showableKv], by simp [pyOf, PyData.depth, PyData.depthKv], by simp only [pyOf]; decide +kernel⟩
        | dct kvs =>
          obtain ⟨a2, a3, a4⟩ := shq_kv ih h.2
          simp only [e]
          refine ⟨by simp only [pyOf, PyData.showable]; exact a2, by simp only [pyOf, PyData.depth]; omega, ?_⟩
          simp only [pyOf, PyData.shown]
          have := dictText_len_le (PyData.shownKv (pyOfK (kvs.map fun p : M.Tx × M.D => (p.1, M.toQ n S p.2))))
          omega
        | ins C fs => exact False.elim h
    | xn c fs => exact False.elim h
def rRep (K : Frag) : List V → Hp → VK → Prop := fun vs H Q => ∃ x v S Qd, vs = [v] ∧ RelS K H S ∧ RelD K H x v ∧ M.fitD S x ∧ M.szR M.dep S x ≤ M.lim ∧ Qd (.str (rpF (M.toQ M.dep S x))) S ∧ OkV K S H Qd Q
theorem bi_rep {X : Cx} (hg : X.A.guards = some []) (hu : X.A.units + 64 < cLine) (sy : SysK X.K) : CallR X (.builtin "repr") (rRep X.K) := by
  intro pins s σ H vs us Q I rv h
  obtain ⟨x, v, S, Qd, rfl, r, rd, ft, hz, w, hq⟩ := h
  obtain ⟨u, rfl, r1⟩ := vals1 rv
  have fin : ∀ {h' : Heap} {t : Tok} {tk : Nat}, (∀ b o, s.heap.get? b = some o → h'.get? b = some o) → EP X pins σ Q (.str (pyOf (M.toQ M.dep S x)).shown t) { s with heap := h', toks := tk } := fun {h' t tk} hk =>
    ⟨.str (stx (rpF (M.toQ M.dep S x))), H, I.kept (t' := tk) hk, ⟨t, by rw [stx_rpF]⟩, hq.same r (.str _) w⟩
  have hL : M.lim = sizeLine := lim_eq
  have hdep : M.dep = 8 := rfl
  have go : ∀ {as}, Reads s.heap u (pyOf (M.toQ M.dep S x)) as → ((pyOf (M.toQ M.dep S x)).hasDict = true → sysModules ∉ as) → (pyOf (M.toQ M.dep S x)).showable = true → (pyOf (M.toQ M.dep S x)).depth ≤ 9 → (pyOf (M.toQ M.dep S x)).shown.length ≤ M.szR M.dep S x → wpAny (model X.prog X.w) X.A (call (.builtin "repr") [u]) (EP X pins σ Q) X.xe s := by
    intro as hr hs a2 a3 a4
    have hz2 : (pyOf (M.toQ M.dep S x)).shown.length ≤ sizeLine := by omega
    generalize hp : pyOf (M.toQ M.dep S x) = p at *
    cases hr with
    | none => exact PySem.P.repr_of_none (fin (fun b o e => e))
    | bool b => exact PySem.P.repr_of_bool (fin (fun b o e => e))
    | int i t => exact PySem.P.repr_of_int (by simpa [PyData.showable] using a2) (fin (fun b o e => e))
    | str x t => exact PySem.P.repr_of_str (fin (fun b o e => e)) hz2
    | list h1 h2 h3 h4 => exact repr_of_reads' (.list h1 h2 h3 h4) a2 hs hg (by omega) (fun b o e => e) (fun h' u tk hk => fin hk) hz2
    | tuple h1 h2 h3 h4 => exact repr_of_reads' (.tuple h1 h2 h3 h4) a2 hs hg (by omega) (fun b o e => e) (fun h' u tk hk => fin hk) hz2
    | dict h1 h2 h3 h4 h5 => exact repr_of_reads' (.dict h1 h2 h3 h4 h5) a2 hs hg (by omega) (fun b o e => e) (fun h' u tk hk => fin hk) hz2
  rcases ft with ft | ft
  · have ft : M.fitQ M.dep S x := by
      rcases ft with ft | ft
      · cases x with
        | ref a =>
          have ft' : M.isDic (S a) := ft
          show M.fitO (M.fitQ 7 S) (S a)
          cases e : S a with
          | none => rw [e] at ft'; exact False.elim ft'
          | some o => cases o with
            | lst xs => rw [e] at ft'; exact False.elim ft'
            | dic => exact True.intro
            | dct kvs => rw [e] at ft'; exact False.elim ft'
            | ins C fs => rw [e] at ft'; exact False.elim ft'
        | _ => exact False.elim ft
      · exact ft
    obtain ⟨a2, a3, a4⟩ := shq_fit M.dep S x ft
    obtain ⟨as, hr, hn⟩ := reads_fitQ I sy r M.dep x v u ft rd r1
    exact go hr (fun _ => hn) a2 (by omega) a4
  · obtain ⟨a1, a2, a3, a4⟩ := shw_fit M.dep S x ft
    obtain ⟨as, hr⟩ := reads_fit I r M.dep x v u ft rd r1
    exact go hr (PyData.noDict_hsm a1) a2 (by omega) a4
end Snd
namespace Snd
open PySem PySem.Spec PyProof.Rows L2
/-! ### an error that is caught is tracked -/
section
variable {X : Cx} {pins : List (Addr × Obj)} {σ : Sl} {H : Hp} {s : Shared}
theorem xo_ok {P : Program} {w : World} {H : Hp} {h : Heap} {C a : Addr} {oe : Obj} {vs : Array Value} (e : h.get? a = some oe) (z : Zc (.ref C) none oe) (d : oe.data = .fields vs) : ObjOk P w H h a (XO C a) :=
  ⟨⟨oe, vs, e, z, d⟩, ⟨oe, e⟩, fun _ _ ⟨o, v, q, r⟩ k => ⟨o, v, k o q, r⟩⟩
/-- what stands there and isn't tracked, tracked from now on -/
theorem track {a : Addr} {o : HO} {oe : Obj} {vs : Array Value} (I : Inv X pins σ H s) (hex : X.ex = []) (n0 : X.s_0.heap.get? a = none) (ha : s.heap.get? a = some oe) (hd : oe.data = .fields vs) (na : H a = none) (nL : a ≠ X.env.locals)
    (np : ∀ p ∈ X.pn ++ pins, p.1 ≠ a) (new : ObjOk X.prog X.w (L2.upd H a o) s.heap a o) : Inv X pins σ (L2.upd H a o) s where
  ok := I.ok
  os := I.os
  bare := I.bare
  base := {
    keep := I.base.keep
    slot := I.base.slot
    free := fun b ob e n hb => by
      have hne : b ≠ a := fun z => by rw [z, n0] at e; cases e
      rw [L2.upd_ne hne]
      exact I.base.free b ob e n hb
    there := I.base.there
    tups := fun b xs e => by
      have q := I.base.tups b xs e
      have hne : b ≠ a := fun z => by rw [z, na] at q; cases q
      rw [L2.upd_ne hne]; exact q
    frzs := fun b ob u e => by
      have q := I.base.frzs b ob u e
      have hne : b ≠ a := fun z => by rw [z, na] at q; cases q
      rw [L2.upd_ne hne]; exact q
    tbls := fun b ps e => by
      obtain ⟨m, q⟩ := I.base.tbls b ps e
      have hne : b ≠ a := fun z => by rw [z, na] at q; cases q
      exact ⟨m, by rw [L2.upd_ne hne]; exact q⟩ }
  loc := I.loc
  cell := I.cell
  free := by rw [L2.upd_ne (Ne.symm nL)]; exact I.free
  freeC := fun x c e => by
    have hne : c ≠ a := fun z => by
      obtain ⟨v, ob, h1, h2⟩ := I.cell x c e
      rw [z, ha] at h1
      cases h1
      rw [hd] at h2; cases h2
    rw [L2.upd_ne hne]; exact I.freeC x c e
  pin := fun p hp => by
    obtain ⟨q1, q2, q3⟩ := I.pin p hp
    exact ⟨q1, by rw [L2.upd_ne (np p hp)]; exact q2, q3⟩
  hok := I.hok.laidN (fun _ _ e => e) na new
  len := I.len
theorem Inv.suiteT (I : Inv X pins σ H s) (a : Addr) : Inv (X.suite a (X.pn ++ pins)) [] σ H s :=
  ⟨I.ok.suite _ _, I.os, I.bare, I.base, I.loc, I.cell, I.free, I.freeC, fun p hp => I.pin p (by rw [List.append_nil] at hp; exact hp), I.hok, I.len⟩
theorem Inv.unsuiteT {a : Addr} {pn' : List (Addr × Obj)} (I : Inv (X.suite a (X.pn ++ pins)) pn' σ H s) (ok : X.Ok) : Inv X pins σ H s :=
  ⟨ok, I.os, I.bare, I.base, I.loc, I.cell, I.free, I.freeC, fun p hp => I.pin p (List.mem_append_left _ hp), I.hok, I.len⟩
end
/-- the wish of a try: caught, the error stands at a new place -/
def wAsT (K : Frag) (c : Value) (i : Nat) (ts : Addr → TS) (Wout : WX) (D : Ends) : WX := fun cls d σ H => ∃ b, PySem.W.exmOne K cls c = some b ∧
  (b = true → d = none ∧ ∃ C, cls = .ref C ∧ ∀ a, H a = none → ts a { nx := fun σ' H' => D.nx (σ'.set i none) H', rt := D.rt, bk := fun σ' H' => D.bk (σ'.set i none) H', ct := fun σ' H' => D.ct (σ'.set i none) H' } (σ.set i (some (.ref a))) (L2.upd H a (XO C a))) ∧ (b = false → Wout cls d σ H)
section
variable {X : Cx} {x n : Str} {c : Value} {i : Nat} {body suite : List Stmt} {b₀ : Stmt} {np pos pos' : Pos} {tb : WX → TS} {ts : Addr → TS} {Wout : WX}
theorem ps_try_asT (hs : X.stack = X.env :: X.outer) (hf : X.env.frame = some X.env.locals) (hex : X.ex = []) (hN : X.N.Nodup) (hi : X.N[i]? = some n) (hln : X.env.kindOf n = some .local) (hc : Names X x c) (tk : Takes X Wout)
    (hb : ∀ (W : WX) (pn : List (Addr × Obj)) (xe : Value → Shared → Prop), Takes (X.tr pn xe) W → PassesOwn (model X.prog X.w) X.A X.env xe → PSs (X.tr pn xe) body (tb W))
    (hsu : ∀ (a : Addr) (pn : List (Addr × Obj)), PSs (X.suite a pn) (b₀ :: suite) (ts a)) :
    PS X (.Try body [.ExceptHandler (some (.Name x np)) (some n) (b₀ :: suite) pos'] [] [] pos) (fun D σ H => tb (wAsT X.K c i ts Wout D) D σ H) := by
  refine ⟨fun pins s σ H D I h => ?_⟩
  have ok := I.ok
  have hfr : X.A.frames = some (X.env :: X.outer) := by rw [ok.frames, hs]
  have hloc : Loc X.env.scope n := .inl hln
  refine wpAny_Try_except ?_
  refine wpAny_mono ((hb (wAsT X.K c i ts Wout D) (X.pn ++ pins) (fun e s₁ => wpAny (model X.prog X.w) X.A (noteFrame e X.env) (fun _ s₂ => wpAny (model X.prog X.w) X.A (setFlight e none) (fun _ s₃ =>
    wpAny (model X.prog X.w) X.A (handleBy e X.env [.ExceptHandler (some (.Name x np)) (some n) (b₀ :: suite) pos']) (SP X pins D) X.xe s₃) X.xe s₂) X.xe s₁) (fun u s' xx => ?_) PassesOwn.looking).run [] s σ H D (I.toTry _) h) (fun f s1 hsp => ?_) (fun e s1 he => he)
  · -- the catch
    obtain ⟨a, B, sI, pins', σ', H', cls, d, rfl, J', nb, up, sky, na, os, ag, b, hb1, hyes, hno⟩ := xx
    have J : Inv X pins σ' H' sI := J'.ofTry ok
    have sky' : Sky B (X.env :: X.outer) a (Zc cls d) X.env.locals s'.heap := by rw [← hs]; exact sky
    show wpAny (model X.prog X.w) X.A (noteFrame (.ref a) X.env) _ _ _
    refine Sky.land Zc.steady hfr hf sky' fun h3 fl3 up3 => ?_
    have J3 : Inv X pins σ' H' { s' with heap := h3 } := J.landed nb fl3.1 (up.trans up3) os ag
    obtain ⟨oe3, vs3, he3, hz3, hd3⟩ := fl3.there
    have notFr : ∀ {h : Heap} {o : Obj} {vs : Array Value}, h.FunFrames B (X.env :: X.outer) → h.get? a = some o → o.data = .fields vs → a ∉ frs (X.env :: X.outer) := fun {h o vs} ff e dd hm => by
      obtain ⟨_, o', e', hnf⟩ := ff.mem hm
      rw [e] at e'; cases e'
      exact hnf _ dd
    have nfr := notFr fl3.2.2.1 he3 hd3
    have nL : a ≠ X.env.locals := fun z => nfr (List.mem_filterMap.mpr ⟨X.env, List.mem_cons_self, by rw [hf, z]⟩)
    have nF : a ∉ X.fs := fun hm => by
      obtain ⟨e, he, q⟩ := List.mem_filterMap.mp hm
      exact nfr (List.mem_filterMap.mpr ⟨e, List.mem_cons_of_mem _ he, q⟩)
    have nI : sI.heap.get? a = none := by
      cases q : sI.heap.get? a with
      | none => rfl
      | some o =>
        have z := nb a o q (by rw [hs]; exact nfr)
        rw [fl3.2.1] at z; cases z
    have n0 : X.s_0.heap.get? a = none := by
      cases q : X.s_0.heap.get? a with
      | none => rfl
      | some o =>
        obtain ⟨o', z⟩ := J.base.there a o q (by rw [hex]; exact fun z => nomatch z)
        rw [nI] at z; cases z
    have npn : ∀ p ∈ X.pn ++ pins, p.1 ≠ a := fun p hp z => by
      have q := (J.pin p hp).1
      rw [z, nI] at q; cases q
    have S3 := J3.suite he3 hd3 na nL nF
    refine wpAny_handleBy_cons (codeAny_handlers_test ?_) (by intro q; cases q)
    have LT : PySem.W.Looks (model X.prog X.w) h3 (typeOf (.ref a)) cls := fun A Q E s k q => wpAny_typeOf_ref (k _ _ he3) (by rw [hz3.1]; exact q)
    have LM := PySem.W.exm_one (M := model X.prog X.w) (J3.kIn) LT hb1
    have test : ∀ {Q : Value → Shared → Prop} {E : Value → Shared → Prop}, Q c { s' with heap := h3 } → wpAny (model X.prog X.w) (X.A.mark (some (.ref a))) (eval (.Name x np) X.env) Q E { s' with heap := h3 } := fun {Q E} q => by
      obtain ⟨hg, hdbg, hm | ⟨hm, hv, hnn⟩⟩ := hc
      · exact ld_glob (X := X.suite a ((a, oe3) :: (X.pn ++ pins))) S3 hg hm q hdbg
      · exact ld_blt (X := X.suite a ((a, oe3) :: (X.pn ++ pins))) S3 hg hm hv q hnn hdbg
    refine test (LM.here ?_)
    cases b with
    | true =>
      obtain ⟨ed, C, ec, hyes2⟩ := hyes rfl
      subst ed ec
      refine codeAny_handlers_suite_as ?_
      refine HandSPX.lands_againZ fl3 fun h4 fl4 up4 => ?_
      have J4 : Inv X pins σ' H' { s' with heap := h4 } := J.landed nb fl4.1 ((up.trans up3).trans up4) os ag
      obtain ⟨oe4, vs4, he4, hz4, hd4⟩ := fl4.there
      have J5 : Inv X pins σ' (L2.upd H' a (XO C a)) { s' with heap := h4 } := track J4 hex n0 he4 hd4 na nL npn (xo_ok he4 hz4 hd4)
      have S4 := Inv.suiteT J5 a
      refine store_ok (X := X.suite a (X.pn ++ pins)) (v := .ref a) S4 hN hi hloc rfl (fun s5 S5 => ?_) (.inr hln)
      refine wpAny_mono ((hsu a (X.pn ++ pins)).run [] s5 _ _ _ S5 (hyes2 a na)) (fun f s6 hsp => ?_) (fun _ _ z => False.elim z)
      have end_ : ∀ {σ6 : Sl} {H6 : Hp} {Q : Shared → Prop}, Inv (X.suite a (X.pn ++ pins)) [] σ6 H6 s6 → (∀ s7, Inv X pins (σ6.set i none) H6 s7 → Q s7) →
          wpAny (model X.prog X.w) X.A (do bindName X.env n .none; unbindBehindTheSuite X.env n pos') (fun _ s7 => Q s7) X.xe s6 := fun {σ6 H6 Q} S6 hq => gone_ok (Inv.unsuiteT S6 ok) hN hi hln hq
      cases f with
      | next =>
        obtain ⟨σ6, H6, S6, q6⟩ := hsp
        exact end_ S6 fun s7 J7 => ⟨_, _, J7, q6⟩
      | brk =>
        obtain ⟨σ6, H6, S6, q6⟩ := hsp
        exact end_ S6 fun s7 J7 => ⟨_, _, J7, q6⟩
      | cont =>
        obtain ⟨σ6, H6, S6, q6⟩ := hsp
        exact end_ S6 fun s7 J7 => ⟨_, _, J7, q6⟩
      | ret u =>
        obtain ⟨v6, σ6, H6, S6, r6, q6⟩ := hsp
        exact end_ S6 fun s7 J7 => ⟨_, _, _, J7, r6, q6⟩
    | false =>
      show wpAny _ X.A (handleBy (.ref a) X.env []) _ _ _
      refine wpAny_handleBy_nil ?_
      obtain ⟨k1, k2, k3, oe, vs, T, oT, ts', he, hz, hd, h1, hr⟩ := id fl3
      unfold PySem.passOn
      refine wpAny_bind (wpAny_field he hd h1 ?_)
      rw [if_neg (show ¬ ((Value.ref T == Value.none) = true) from by simp)]
      have fin : wpAny (model X.prog X.w) X.A (setFlight (.ref a) X.env.frame) (fun _ s4 => wpAny (model X.prog X.w) X.A (throw (.ref a) : Sem Flow) (SP X pins D) X.xe s4) X.xe { s' with heap := h3 } := by
        rw [hf]
        refine HandSPX.setFlight_upZ fl3 fun h4 hh4 up4 => wpAny_throw (tk _ _ ?_)
        exact ⟨a, B, sI, pins, σ', H', cls, d, rfl, J, nb, (up.trans up3).trans up4, .inr (.inr (by rw [hs]; exact hh4)), na, os, ag, hno rfl⟩
      first
        | exact wpAny_bind (wpAny_pure (wpAny_bind fin))
        | exact wpAny_bind fin
  · cases f with
    | next =>
      obtain ⟨σ', H', J', q⟩ := hsp
      exact wpAny_execs_nil ⟨σ', H', J'.ofTry ok, q⟩
    | brk =>
      obtain ⟨σ', H', J', q⟩ := hsp
      exact ⟨σ', H', J'.ofTry ok, q⟩
    | cont =>
      obtain ⟨σ', H', J', q⟩ := hsp
      exact ⟨σ', H', J'.ofTry ok, q⟩
    | ret u =>
      obtain ⟨v, σ', H', J', r, q⟩ := hsp
      exact ⟨v, σ', H', J'.ofTry ok, r, q⟩
end
/-! ### isinstance of a tracked error -/
section
variable {X : Cx}
theorem inst_of {pins : List (Addr × Obj)} {σ : Sl} {H : Hp} {s : Shared} {C a : Addr} (I : Inv X pins σ H s) (h : H a = some (XO C a)) : ∃ oe, PySem.W.InstAt s.heap a oe C none := by
  obtain ⟨⟨oe, vs, h1, h2, h3⟩, _, _⟩ := I.hok a _ h
  refine ⟨oe, ?_⟩
  obtain ⟨oc, od, oda, osl⟩ := oe
  obtain ⟨z1, z2⟩ := h2
  dsimp only at z1 z2 h3
  subst z1 z2 h3
  exact ⟨h1, rfl, rfl, trivial⟩
/-- isinstance(e, c), e a tracked error of the class D -/
def rIsX (K : Frag) (D : Addr) : List V → Hp → VK → Prop := fun xs H Q => ∃ (a : Addr) (c : V) (cv : Value) (b : Bool), xs = [.ref a, c] ∧ H a = some (XO D a) ∧ (∀ u, RelV c u → u = cv) ∧ PySem.W.kitOne K (.ref D) cv = some b ∧ Q (.bl b) H
theorem call_isX {D : Addr} (C : ExcC X.K D) : CallR X (.builtin "isinstance") (rIsX X.K D) := by
  intro pins s σ H xs us Q I r h
  obtain ⟨a, c, cv, b, rfl, ha, hcv, e, q⟩ := h
  cases r with
  | cons rx rr =>
    cases rr with
    | cons rt rr =>
      cases rr
      cases rx
      have ec := hcv _ rt
      subst ec
      obtain ⟨oe, J⟩ := inst_of I ha
      exact PySem.W.kia_one (PySem.W.handS_kitx_exc C.hg C.hk C.hs C.hd C.ha C.hn C.ht C.hm) I.kIn J e (fun z => nomatch z) fun tk => ⟨.bl b, H, I.kept (t' := tk) fun _ _ z => z, rfl, q⟩
/-- isinstance(e, (c, ..)) -/
def rIsXT (K : Frag) (D : Addr) : List V → Hp → VK → Prop := fun xs H Q => ∃ (a tp : Addr) (cs : List V) (ws : List Value) (b : Bool), xs = [.ref a, .ref tp] ∧ H a = some (XO D a) ∧ H tp = some (.tup cs) ∧ (∀ us, Vals cs us → us = ws) ∧ PySem.W.kitAny K (.ref D) ws = some b ∧ Q (.bl b) H
theorem call_isXT {D : Addr} (C : ExcC X.K D) : CallR X (.builtin "isinstance") (rIsXT X.K D) := by
  intro pins s σ H xs us Q I r h
  obtain ⟨a, tp, cs, ws, b, rfl, ha, hT, hcv, e, q⟩ := h
  cases r with
  | cons rx rr =>
    cases rr with
    | cons rt rr =>
      cases rr
      cases rx
      cases rt
      obtain ⟨oe, J⟩ := inst_of I ha
      obtain ⟨_, its, rv, o, h1, h2, n, h3⟩ := (show ObjOk X.prog X.w H s.heap tp (.tup cs) from I.hok tp _ hT)
      have e3 := hcv _ rv
      subst e3
      obtain ⟨oc, od, dt, sl⟩ := o
      simp only at h2 h3
      subst h2 h3
      exact PySem.W.kia_tup (PySem.W.handS_kitx_exc C.hg C.hk C.hs C.hd C.ha C.hn C.ht C.hm) I.kIn J h1 e (fun z => nomatch z) fun tk => ⟨.bl b, H, I.kept (t' := tk) fun _ _ z => z, rfl, q⟩
/-! ### raise C() -/
theorem pmk_own0 {C : Addr} {bmB : List Value} {B newId initId : String} {x : Str} {p pos : Pos} (F : ExcBaseFacts B newId initId bmB) (q : PySem.W.excIn X.K C bmB newId = true) (gC : X.mg x = some (.ref C)) (kC : PySem.W.keepIn X.K (.ref C) = true) (r : Raises X (.ref C)) (hg : Gl X x)
    (hdb : (x == ("__debug__" : Str)) = false) : PMk X (.Call (.Name x p) [] [] pos) (fun _ H Q => Q (.ref C) none H) := by
  intro pins s σ H Q I h
  refine wpAny_Call_Name_kw (ld_glob I hg gC ?_ hdb)
  refine PySem.W.callWith_K0 I.kIn kC ?_
  show wpAny _ _ (call (.ref C) []) _ _ _
  obtain ⟨bm, N, nm, qn, bs, hdct, sn, sub, ab, col, dd, k0, k1, k2, k3, k5, mN, hC, hN, hni, T⟩ := exc_obj I.kIn q
  refine wpAny_call_exc_subT F T hC hN hni (fun h' e hm => ?_) (by show 0 ≤ sizeLine; rw [sizeLine_eq]; omega)
  exact mk_of I hm r h (I.hok.gone hm.new)
end
end Snd
namespace Snd
open PySem PySem.Spec PyProof.Rows L2
/-! ### defs, where no repr is under way -/
/-- room, whether an error is handled or not -/
structure RoomB (hot : Bool) (k : Nat) (A : Around) : Prop where
  hd : hot = false → A.handled = none
  dp : A.depth + 3 * k + 5 < recursionLimit
  un : A.units + 16 * k + 200 < cLine
section
variable {hot : Bool} {j k : Nat} {A : Around}
theorem RoomB.room (r : RoomB false k A) : Room k A := ⟨r.hd rfl, r.dp, r.un⟩
theorem roomB (r : Room k A) (hot : Bool) : RoomB hot k A := ⟨fun _ => r.hd, r.dp, r.un⟩
theorem RoomB.mono (r : RoomB hot k A) (h : j ≤ k) : RoomB hot j A := ⟨r.hd, by have := r.dp; omega, by have := r.un; omega⟩
theorem RoomB.deeper (r : RoomB hot (k + 1) A) (env : Env) : RoomB hot k (A.deeper env) :=
  ⟨r.hd, by have := r.dp; show A.depth + 1 + 3 * k + 5 < _; omega, by have := r.un; show A.units + 3 + 16 * k + 200 < _; omega⟩
/-- room, and some more for what is called from within -/
structure RoomX (hot : Bool) (k : Nat) (A : Around) : Prop where
  hd : hot = false → A.handled = none
  dp : A.depth + 3 * k + 7 < recursionLimit
  un : A.units + 16 * k + 213 < cLine
theorem RoomX.b (r : RoomX hot k A) : RoomB hot k A := ⟨r.hd, by have := r.dp; omega, by have := r.un; omega⟩
theorem RoomB.deeperX (r : RoomB hot (k + 1) A) (env : Env) : RoomX hot k (A.deeper env) :=
  ⟨r.hd, by have := r.dp; show A.depth + 1 + 3 * k + 7 < _; omega, by have := r.un; show A.units + 3 + 16 * k + 213 < _; omega⟩
theorem RoomX.in1 (r : RoomX hot k A) : RoomB hot k A.in1 := ⟨r.hd, by have := r.dp; show A.depth + 3 * k + 5 < _; omega, by have := r.un; show A.units + 1 + 16 * k + 200 < _; omega⟩
theorem RoomX.make (r : RoomX hot k A) (C : Addr) (us : List Value) (kw : List (Str × Value)) : RoomB hot k (A.under (.builtin "type.__call__" ⟨.ref C :: us, kw⟩)) :=
  ⟨r.hd, by have := r.dp; rw [make_depth]; omega, by have := r.un; rw [make_units]; omega⟩
theorem RoomB.depth (r : RoomB hot k A) : A.depth < recursionLimit := by have := r.dp; omega
theorem RoomB.units (r : RoomB hot k A) : A.units + 64 < cLine := by have := r.un; omega
end
structure FnG (P : Program) (w : World) (K : Frag) (mg : Str → Option Value) (base : Heap) (hot : Bool) (k : Nat) (f : Addr) (fd : FuncData) (ps : List Str) (sp : L2.Sp) : Prop where
  len : ∀ vs H Q E, sp vs H Q E → vs.length = ps.length
  run : ∀ (A : Around) (outer : List Env) (s : Shared) (H : Hp) (args : Args) (us : List Value) (vs : List V) (Q : VK) (E : XK), RoomB hot k A → A.guards = some [] → Env0 P w K mg base A outer s H → BindsTo s fd args (ps.zip us) → Vals vs us → sp vs H Q E →
    codeAny (model P w) A (.call (.ref f) args) (CR (L2.CX P w) outer P w H s Q E) s
theorem FnG.mono {P : Program} {w : World} {K : Frag} {mg : Str → Option Value} {base : Heap} {hot : Bool} {j k : Nat} {f : Addr} {fd : FuncData} {ps : List Str} {sp : L2.Sp} (F : FnG P w K mg base hot j f fd ps sp) (h : j ≤ k) :
    FnG P w K mg base hot k f fd ps sp := ⟨F.len, fun A outer s H args us vs Q E hr => F.run A outer s H args us vs Q E (hr.mono h)⟩
theorem FnG.never {P : Program} {w : World} {K : Frag} {mg : Str → Option Value} {base : Heap} {hot : Bool} {k : Nat} {f : Addr} {fd : FuncData} {ps : List Str} {sp : L2.Sp} (h : ∀ vs H Q E, ¬ sp vs H Q E) :
    FnG P w K mg base hot k f fd ps sp := ⟨fun vs H Q E q => (h _ _ _ _ q).elim, fun A outer s H args us vs Q E _ _ _ _ _ q => (h _ _ _ _ q).elim⟩
/-- how the positional and the named values bind -/
def KB (K : Frag) (fd : FuncData) (ps : List Str) (m : Nat) (ks : List Str) (perm : List Nat) : Prop :=
  ∀ (s : Shared) (us ws : List Value), K.In s.heap → us.length = m → ws.length = ks.length → BindsTo s fd ⟨us, ks.zip ws⟩ (ps.zip (perm.filterMap fun i => (us ++ ws)[i]?))
/-- the getter of a property -/
def prA (K : Frag) (C : Addr) (f : Str) : Addr := match PySem.W.findIn K (.ref C) f with
  | some (some (.ref p)) => (match PySem.W.recIn K p "property" with
    | some (.ref g :: _) => g
    | _ => 0)
  | _ => 0
def plA (K : Frag) : Pl → Addr
  | .mt x m => He.ma K (He.ga K x) m
  | .pr x f => prA K (He.ga K x) f
/-- how a def of the text stands -/
structure Def (K : Frag) (mg : Str → Option Value) (T : Tb) (n : Nat) (x : Str) (f : Addr) (fd : FuncData) (ps : List Str) : Prop where
  mg : T.ats.lookup n = none → mg x = some (.ref f)
  at_ : ∀ q, T.ats.lookup n = some q → f = plA K q
  kp : PySem.W.keepIn K (.ref f) = true
  bd : Binds K fd ps []
  kb : ∀ m ks perm, (n, m, ks, perm) ∈ T.kws → KB K fd ps m ks perm
/-- the mro of an own error below its own classes -/
def bmVE : List Value := [.type "ValueError", .type "Exception", .type "BaseException", .type "object"]
/-- what is known of an own class of errors -/
structure ErrC (K : Frag) (C : Addr) : Prop where
  ex : PySem.W.excIn K C bmVE "ValueError.__new__" = true
  kp : PySem.W.keepIn K (.ref C) = true
  sb : PySem.W.subIn K (.ref C) (.type "BaseException") = some true
  ty : PySem.W.typeIn K (.ref C) = some (.type "type")
  ec : ExcC K C
/-- what is known of the text's own errors; the number behind them: ValueError -/
structure Errs (K : Frag) (mg : Str → Option Value) (T : Tb) (G : M.Gm) : Prop where
  at_ : ∀ j x, T.cls[j]? = some x → ∃ D, mg x = some (.ref D) ∧ (j < T.nr → G.adr j = some D) ∧ ∀ k C, G.adr k = some C → PySem.W.kitOne K (.ref C) (.ref D) = some (G.sub k j) ∧ PySem.W.exmOne K (.ref C) (.ref D) = some (G.sub k j)
  ok : ∀ k C, G.adr k = some C → ErrC K C
  ve : ∀ k C, G.adr k = some C → PySem.W.kitOne K (.ref C) (.type "ValueError") = some (G.sub k T.cls.length)
/-- the built-in types of data -/
def tyNs : List String := ["NoneType", "bool", "int", "str", "tuple", "list", "dict"]
/-- what is known of an own class of objects -/
structure OC (K : Frag) (T : Tb) (G : M.Gm) (k : Nat) (C : Addr) : Prop where
  cl : Cls K C
  mks : PySem.W.makesIn K C = true
  kp : PySem.W.keepIn K (.ref C) = true
  sf : PySem.W.selfFirst K C = true
  mt : ∀ m n, m ∉ T.prs → G.mt k m = some n → ∃ q, T.ats.lookup n = some q ∧ Meth K C (stx m) (plA K q) ∧ PySem.W.fnIn K (plA K q) = true
  pr : ∀ m n, m ∈ T.prs → G.mt k m = some n → ∃ q p, T.ats.lookup n = some q ∧ PropOf K C (stx m) p (plA K q)
  fd : ∀ f ∈ T.fds, NoAttr K C (stx f)
  ha : PySem.W.findIn K (.ref C) "__class__" = some (some (.builtin "object.__class__"))
  hn : PySem.W.specialIn K (.builtin "object.__class__") "__get__" = some (some (.builtin "getset_descriptor.__get__"))
  ht : PySem.W.takesIn K (.builtin "object.__class__") = some true
  hm : PySem.W.mroIn K C (.type "object") = some true
  sub : ∀ n ∈ tyNs, PySem.W.subIn K (.type n) (.ref C) = some false ∧ PySem.W.kitOne K (.type n) (.ref C) = some false
  andl : ∀ n ∈ tyNs, (∃ fo, PySem.W.findIn K (.type n) "__and__" = some fo) ∧ ∃ ro, PySem.W.findIn K (.type n) "__rand__" = some ro
  andr : PySem.W.findIn K (.ref C) "__rand__" = some none
  isb : ∀ n ∈ ["int", "bool", "tuple", "list", "str"], PySem.W.kitOne K (.ref C) (.type n) = some false
  isc : ∀ j D, G.ob j = some D → PySem.W.kitOne K (.ref C) (.ref D) = some (G.os k j)
theorem OC.iso {K : Frag} {T : Tb} {G : M.Gm} {k : Nat} {C : Addr} (o : OC K T G k C) : IsO K C := ⟨o.cl, o.ha, o.hn, o.ht, o.hm, o.isb⟩
structure Obs (K : Frag) (mg : Str → Option Value) (T : Tb) (G : M.Gm) : Prop where
  gm : ∀ k m n, G.mt k m = some n → ((k, m), n) ∈ T.mtb ∧ T.hots.contains n = false ∧ ∃ x, T.fns[n]? = some x
  nm : ∀ k x, T.ocs[k]? = some x → ∃ C, mg x = some (.ref C) ∧ G.ob k = some C
  ok : ∀ k C, G.ob k = some C → OC K T G k C
structure Ok (c : Cn) (k : Nat) (N : List Str) (sc : Scope) (X : Cx) (W : WX) : Prop where
  eN : X.N = N
  es : X.env.scope = sc
  eK : X.K = c.K
  em : X.mg = c.mg
  nd : N.Nodup
  calm : c.T.hot = false → X.calm = true
  room : RoomB c.T.hot k X.A
  roomX : RoomX c.T.hot k X.A
  gd : X.A.guards = some []
  rp : c.G.rp = rpF
  bt : ∀ x ∈ c.T.bts, c.mg x = none
  con : ∀ n x, c.T.cons[n]? = some x → ∃ u v, c.mg x = some u ∧ RelV v u ∧ ∀ H, RelD c.K H (c.G.con n) v
  fns : ∀ n x, c.T.fns[n]? = some x → ∃ f fd ps, Def c.K c.mg c.T n x f fd ps ∧ FnG X.prog X.w c.K c.mg X.base (c.T.hots.contains n) k f fd ps (lift c (M.cl (c.G.fn n)))
  tk : Takes X W
  sys : SysK c.K
  er : Errs c.K c.mg c.T c.G
  oc : Obs c.K c.mg c.T c.G
/-! ### the checks -/
def kOk : M.Kc → Const → Bool
  | .non, .none => true
  | .bl b, .bool d => b == d
  | .int i, .int j => decide (i = j)
  | .str x, .str y => decide (stx x = y)
  | _, _ => false
def visB (sc : Scope) (x : Str) : Bool := match sc.names.lookup x with
  | some .local => true | some .cell => true | some .free => true | _ => false
def glB (sc : Scope) (x : Str) : Bool := match sc.names.lookup x with
  | some .globalImplicit => true | _ => false
def locB (sc : Scope) (x : Str) : Bool := match sc.names.lookup x with
  | some .local => true | _ => false
def locCB (sc : Scope) (x : Str) : Bool := match sc.names.lookup x with
  | some .local => true | some .cell => true | _ => false
def dbgB (x : Str) : Bool := (x == ("__debug__" : Str)) || (x == ("__classdict__" : Str))
def plB : Expr → Bool
  | .Starred .. => false | .Slice .. => false | _ => true
def bareB : Expr → Bool
  | .Call .. => false | .Starred .. => false | .Slice .. => false | _ => true
def biN : M.Bi → Str
  | .len => "len" | .abs => "abs" | .int => "int" | .min => "min" | .max => "max" | .all => "all" | .any => "any" | .sum => "sum" | .list => "list" | .tuple => "tuple" | .str => "str" | .sorted => "sorted" | .minp => "min" | .sortp => "sorted"
def mtN : M.Mt → Str
  | .append => "append" | .extend => "extend" | .pop => "pop" | .count => "count" | .index => "index"
def mtOk : M.Mt → Bool
  | .append => true | .extend => true | .pop => true | .count => true | .index => true
def moN : M.Mo → Str
  | .split => "split" | .join => "join" | .strip => "strip"
def ownOf (N : List Str) (is : List Nat) : List (Str × Nat) := is.filterMap fun i => N[i]?.map fun x => (x, i)
def nameAt (N : List Str) (ok : Str → Bool) (i : Nat) : Expr → Bool
  | .Name x _ => decide (N[i]? = some x) && ok x && !dbgB x
  | _ => false
def namesAt (N : List Str) (ok : Str → Bool) : List Nat → List Expr → Bool
  | [], [] => true
  | i :: is, e :: es => nameAt N ok i e && namesAt N ok is es
  | _, _ => false
def chkTg (N : List Str) (ok : Str → Bool) : M.Tg → Expr → Bool
  | .v i, e => nameAt N ok i e
  | .tup is, .Tuple es _ _ => namesAt N ok is es
  | .nest is js, .Tuple (.Tuple es _ _ :: es2) _ _ => namesAt N ok is es && namesAt N ok js es2
  | _, _ => false
def noSet : Expr → Bool
  | .Set .. => false | .Starred .. => false | .Slice .. => false | _ => true
def isTupB : Expr → Bool
  | .Tuple .. => true | _ => false
/-- a call of a free built-in name with such arguments -/
def biCall (T : Tb) (sc : Scope) (nm : Str) (ok : List Expr → Bool) : Expr → Bool
  | .Call (.Name x _) es ks _ => decide (x = nm) && decide (nm ∈ T.bts) && glB sc x && !dbgB x && ks.isEmpty && ok es
  | _ => false
def kwsB : List Keyword → Option (List Str)
  | [] => some []
  | ⟨some x, _, _⟩ :: r => (kwsB r).map (x :: ·)
  | _ => none
def one (p : Expr → Bool) : List Expr → Bool
  | [e] => plB e && p e
  | _ => false
def two (p q : Expr → Bool) : List Expr → Bool
  | [e, d] => plB e && plB d && p e && q d
  | _ => false
def three (p q r : Expr → Bool) : List Expr → Bool
  | [e, d, f] => plB e && plB d && plB f && p e && q d && r f
  | _ => false
/-- a block's own name: a local, or a cell that a block within takes -/
def cellB (scope : Scope) (x : Str) : Bool := scope.names.lookup x == some .cell
def tgB (scope sc : Scope) (x : Str) : Bool := locB (relS scope sc) x || cellB scope x
/-- the name of a built-in type -/
def clsB (T : Tb) (sc : Scope) (t : M.Ty) (z : Str) : Bool := decide (z = tyS t) && decide (z ∈ T.bts) && glB sc z && !dbgB z
/-- a class of errors by its name -/
def clsX (T : Tb) (sc : Scope) (c : Nat) (z : Str) : Bool := glB sc z && !dbgB z && (decide (T.cls[c]? = some z) || (decide (c = T.cls.length) && decide (z = "ValueError") && decide (z ∈ T.bts)))
def clsXs (T : Tb) (sc : Scope) : List Nat → List Expr → Bool
  | [], [] => true
  | c :: cs, .Name z _ :: es => clsX T sc c z && clsXs T sc cs es
  | _, _ => false
def clsM (T : Tb) (sc : Scope) (cs : List Nat) : Expr → Bool
  | .Name z _ => decide (cs.length = 1) && clsX T sc (cs.headD 0) z
  | .Tuple zs _ _ => decide (zs.length ≤ 20) && clsXs T sc cs zs
  | _ => false
/-- an object that is called: a name, or -e -/
def objE : Expr → Bool
  | .Name .. => true | .UnaryOp .. => true | _ => false
def keysB : List M.Tx → List (Option Expr) → Bool
  | [], [] => true
  | k :: ks, some (.Constant (.str y) _ _) :: es => decide (stx k = y) && keysB ks es
  | _, _ => false
mutual
def chkE (T : Tb) (N : List Str) : M.Ex → Scope → Expr → Bool
  | .v i => fun sc ex => nameAt N (visB sc) i ex
  | .k c => fun sc ex => (match ex with | .Constant d _ _ => kOk c d | _ => false)
  | .g n => fun sc ex => (match ex with | .Name x _ => decide (T.cons[n]? = some x) && glB sc x && !dbgB x | _ => false)
  | .bin o a b => fun sc ex => (match ex with | .BinOp a' p b' _ => boOk o p && chkE T N a sc a' && chkE T N b sc b' | _ => false)
  | .neg a => fun sc ex => (match ex with | .UnaryOp .USub a' _ => chkE T N a sc a' | _ => false)
  | .not a => fun sc ex => (match ex with | .UnaryOp .Not a' _ => chkE T N a sc a' | _ => false)
  | .cmp o a b => fun sc ex => (match ex with | .Compare a' [p] [b'] _ => coOk o p && chkE T N a sc a' && chkE T N b sc b' && !behindInMarks p b' | _ => false)
  | .chain o p a b c => fun sc ex => (match ex with | .Compare a' [o', p'] [b', c'] _ => coOk o o' && coOk p p' && chkE T N a sc a' && chkE T N b sc b' && chkE T N c sc c' && !lastMarks [o', p'] [b', c'] | _ => false)
  | .and a r => fun sc ex => (match ex with | .BoolOp .And (a' :: b' :: r') _ => chkE T N a sc a' && chkR T N r sc (b' :: r') | _ => false)
  | .or a r => fun sc ex => (match ex with | .BoolOp .Or (a' :: b' :: r') _ => chkE T N a sc a' && chkR T N r sc (b' :: r') | _ => false)
  | .ite c a b => fun sc ex => (match ex with | .IfExp c' a' b' _ => chkE T N c sc c' && chkE T N a sc a' && chkE T N b sc b' | _ => false)
  | .tup es => fun sc ex => (match ex with | .Tuple es' _ _ => chkEs T N es sc es' | _ => false)
  | .lst es => fun sc ex => (match ex with | .List es' _ => chkEs T N es sc es' | _ => false)
  | .ix a i => fun sc ex => (match ex with | .Subscript a' i' _ => plB i' && chkE T N a sc a' && chkE T N i sc i' | _ => false)
  | .sl a lo hi => fun sc ex => (match ex with | .Subscript a' (.Slice lo' hi' none _) _ => chkE T N a sc a' && chkO T N lo sc lo' && chkO T N hi sc hi' | _ => false)
  | .rev a => fun sc ex => (match ex with | .Subscript a' (.Slice none none (some (.UnaryOp .USub (.Constant (.int i) _ _) _)) _) _ => decide (i = 1) && chkE T N a sc a' | _ => false)
  | .call f es => fun sc ex => (match ex with | .Call (.Name x _) es' [] _ => decide (T.fns[f]? = some x) && (T.ats.lookup f).isNone && (T.hots.contains f == T.hot) && glB sc x && !dbgB x && es'.all plB && chkEs T N es sc es' | _ => false)
  | .callk f es ks perm => fun sc ex => (match ex with
    | .Call (.Name x _) es' kw _ => decide (T.fns[f]? = some x) && (T.ats.lookup f).isNone && (T.hots.contains f == T.hot) && glB sc x && !dbgB x && es'.all plB && chkEs T N es sc es' && (match kwsB kw with
      | some nms => decide ((f, M.esLen es, nms, perm) ∈ T.kws) && decide (nms.length = M.esLen ks) && (kw.map (·.value)).all plB && chkEs T N ks sc (kw.map (·.value))
      | none => false)
    | _ => false)
  | .rep a => fun sc ex => biCall T sc "repr" (one (chkE T N a sc)) ex
  | .bi b es => fun sc ex => !T.hot && biCall T sc (biN b) (fun es' => !es'.isEmpty && es'.all plB && chkEs T N es sc es') ex
  | .mt m a es => fun sc ex => (match ex with | .Call (.Attribute a' nm apos) es' [] cpos => decide (nm = mtN m) && mtOk m && (apos.endLine == cpos.line) && bareB a' && chkE T N a sc a' && es'.all plB && decide (es'.length < 29) && chkEs T N es sc es' | _ => false)
  | .dix a i => fun sc ex => (match ex with | .Subscript a' i' _ => plB i' && chkE T N a sc a' && chkE T N i sc i' | _ => false)
  | .m2 m a e => fun sc ex => (match ex with | .Call (.Attribute a' nm apos) [e'] [] cpos => decide (nm = moN m) && (apos.endLine == cpos.line) && bareB a' && plB e' && chkE T N a sc a' && chkE T N e sc e' | _ => false)
  | .isi a t => fun sc ex => biCall T sc "isinstance" (two (chkE T N a sc) (fun y => match y with | .Name z _ => decide (z = tyS t) && decide (z ∈ T.bts) && glB sc z && !dbgB z | _ => false)) ex
  | .isi2 a t u => fun sc ex => biCall T sc "isinstance" (two (chkE T N a sc) (fun y => match y with | .Tuple [.Name z _, .Name z2 _] _ _ => clsB T sc t z && clsB T sc u z2 | _ => false)) ex
  | .isx a cs => fun sc ex => biCall T sc "isinstance" (two (chkE T N a sc) (clsM T sc cs)) ex
  | .dic => fun sc ex => (match ex with | .Dict [] [] _ => true | _ => false)
  | .dct ks es => fun sc ex => (match ex with | .Dict kes vs _ => decide (ks ≠ []) && decide (ks.Nodup) && decide (ks.length ≤ 15) && keysB ks kes && decide (vs.length = ks.length) && vs.all plB && chkEs T N es sc vs | _ => false)
  | .comp e t it c => fun sc ex => (match ex with
    | .ListComp e' [⟨tg, it', ifs, k⟩] scope _ => !T.hot && decide (k = 0) && blkC N sc scope (ownOf N (M.tgs t)) && decide ((ownOf N (M.tgs t)).map (·.2) = M.tgs t) && decide (M.tgs t).Nodup && noSet it' && chkIt T N it sc it' (isTupB tg) && chkTg N (tgB scope sc) t tg
        && (match ifs with | [] => chkO T N c (relS scope sc) none | [d] => chkO T N c (relS scope sc) (some d) | _ => false) && chkE T N e (relS scope sc) e'
    | _ => false)
  | .new k es => fun sc ex => (match ex with | .Call (.Name x _) es' [] _ => !T.hot && decide (T.ocs[k]? = some x) && glB sc x && !dbgB x && es'.all plB && decide (M.nmInit ∉ T.prs) && chkEs T N es sc es' | _ => false)
  | .newk k es ks perm => fun sc ex => (match ex with
    | .Call (.Name x _) es' kw _ => !T.hot && decide (T.ocs[k]? = some x) && glB sc x && !dbgB x && es'.all plB && decide (M.nmInit ∉ T.prs) && chkEs T N es sc es' && (match kwsB kw with
      | some nms => T.mtb.all (fun e => decide (e.1 = (k, M.nmInit) → (e.2, M.esLen es + 1, nms, perm) ∈ T.kws)) && decide (nms.length = M.esLen ks) && (kw.map (·.value)).all plB && chkEs T N ks sc (kw.map (·.value))
      | none => false)
    | _ => false)
  | .fld a n => fun sc ex => (match ex with | .Attribute a' nm _ => decide (nm = stx n) && decide (n ∈ T.fds) && bareB a' && chkE T N a sc a' | _ => false)
  | .prp a n => fun sc ex => (match ex with | .Attribute a' nm _ => !T.hot && decide (nm = stx n) && decide (n ∈ T.prs) && bareB a' && chkE T N a sc a' | _ => false)
  | .ocl a es => fun sc ex => (match ex with | .Call a' es' [] _ => !T.hot && objE a' && !es'.isEmpty && es'.all plB && decide (M.nmCall ∉ T.prs) && chkE T N a sc a' && chkEs T N es sc es' | _ => false)
  | .oclk a ks perm => fun sc ex => (match ex with
    | .Call (.Name z p) [] kw _ => !T.hot && decide (M.nmCall ∉ T.prs) && chkE T N a sc (.Name z p) && (match kwsB kw with
      | some nms => T.mtb.all (fun e => decide (e.1.2 = M.nmCall → (e.2, 1, nms, perm) ∈ T.kws)) && decide (nms.length = M.esLen ks) && (kw.map (·.value)).all plB && chkEs T N ks sc (kw.map (·.value))
      | none => false)
    | _ => false)
  | .mth m a es => fun sc ex => false
  | .oun a => fun sc ex => (match ex with | .UnaryOp .USub a' _ => !T.hot && decide (M.nmNeg ∉ T.prs) && chkE T N a sc a' | _ => false)
  | .oand a b => fun sc ex => (match ex with | .BinOp a' .BitAnd b' _ => !T.hot && decide (M.nmAnd ∉ T.prs) && chkE T N a sc a' && chkE T N b sc b' | _ => false)
  | .oeq a b => fun sc ex => (match ex with | .Compare a' [.Eq] [b'] _ => !T.hot && decide (M.nmEq ∉ T.prs) && chkE T N a sc a' && chkE T N b sc b' && !behindInMarks .Eq b' | _ => false)
  | .oin o a b => fun sc ex => (match ex with | .Compare a' [p] [b'] _ => !T.hot && coOk o p && (decide (o = .in_) || decide (o = .nin)) && decide (M.nmIn ∉ T.prs) && chkE T N a sc a' && chkE T N b sc b' && !behindInMarks p b' | _ => false)
  | .isc a k => fun sc ex => biCall T sc "isinstance" (two (chkE T N a sc) (fun y => match y with | .Name z _ => decide (T.ocs[k]? = some z) && glB sc z && !dbgB z | _ => false)) ex
def chkEs (T : Tb) (N : List Str) : M.Es → Scope → List Expr → Bool
  | .nil => fun sc es' => es'.isEmpty
  | .cons e r => fun sc es' => (match es' with | e' :: r' => plB e' && chkE T N e sc e' && chkEs T N r sc r' | [] => false)
  | .star e r => fun sc es' => (match es' with | .Starred e' _ :: r' => chkE T N e sc e' && chkEs T N r sc r' | _ => false)
/-- what stands behind the first of and, or -/
def chkR (T : Tb) (N : List Str) : M.Es → Scope → List Expr → Bool
  | .nil => fun sc es' => es'.isEmpty
  | .cons e r => fun sc es' => (match es' with | e' :: r' => chkE T N e sc e' && chkR T N r sc r' | [] => false)
  | .star e r => fun sc es' => false
def chkO (T : Tb) (N : List Str) : M.Oe → Scope → Option Expr → Bool
  | .none => fun sc o => o.isNone
  | .some e => fun sc o => (match o with | some e' => chkE T N e sc e' | none => false)
def chkIt (T : Tb) (N : List Str) : M.It → Scope → Expr → Bool → Bool
  | .seq e => fun sc ex tp => chkE T N e sc ex
  | .rng e => fun sc ex tp => biCall T sc "range" (one (chkE T N e sc)) ex
  | .rng2 a b => fun sc ex tp => biCall T sc "range" (two (chkE T N a sc) (chkE T N b sc)) ex
  | .zip3 a b d => fun sc ex tp => tp && biCall T sc "zip" (three (chkE T N a sc) (chkE T N b sc) (chkE T N d sc)) ex
  | .zip a b => fun sc ex tp => tp && biCall T sc "zip" (two (chkE T N a sc) (chkE T N b sc)) ex
  | .enum e => fun sc ex tp => tp && biCall T sc "enumerate" (one (chkE T N e sc)) ex
end
end Snd
namespace Snd
open PySem PySem.Spec PyProof.Rows L2
/-! ### zip over sources of any kind -/
inductive Sc where | lst (a : Addr) | tup (a : Addr) | txt (x : Str)
def chrs (x : Str) : List V := x.cps.toList.map fun c => .str ⟨#[c]⟩
def Sc.has (K : Frag) (H : Hp) : Sc → List V → Prop
  | .lst a, xs => SqL K H a xs
  | .tup a, xs => SqT K H a xs
  | .txt x, xs => xs = chrs x
def Sc.st : Sc → Addr → Nat → Heap → Prop
  | .lst a, it, i, h => h.IsListIter it a i
  | .tup a, it, i, h => h.IsTupleIter it a i
  | .txt x, it, i, h => ∃ t, h.IsStrIter it (strIterType x) x t i
def Sc.adr : Sc → List Addr
  | .lst a => [a]
  | .tup a => [a]
  | .txt _ => []
theorem Sc.obj {p : Sc} {it : Addr} {i : Nat} {h : Heap} (s : p.st it i h) : ∃ o, h.get? it = some o ∧ ∀ v, o.data ≠ .cell v := by
  cases p with
  | lst a => obtain ⟨o, e, _, d⟩ := s; exact ⟨o, e, fun v q => by rw [d] at q; cases q⟩
  | tup a => obtain ⟨o, e, _, d⟩ := s; exact ⟨o, e, fun v q => by rw [d] at q; cases q⟩
  | txt x => obtain ⟨t, o, e, _, d⟩ := s; exact ⟨o, e, fun v q => by rw [d] at q; cases q⟩
theorem Sc.keep {p : Sc} {it : Addr} {i : Nat} {h h' : Heap} (s : p.st it i h) (k : ∀ o, h.get? it = some o → h'.get? it = some o) : p.st it i h' := by
  cases p with
  | lst a => exact Heap.IsListIter.at s k
  | tup a => exact Heap.IsTupleIter.at s k
  | txt x => obtain ⟨t, o, e, r⟩ := s; exact ⟨t, o, k o e, r⟩
theorem Sc.inj {X : Cx} {pins : List (Addr × Obj)} {σ : L2.St} {H : Hp} {s : Shared} (I : Inv X pins σ H s) {p : Sc} {xs ys : List V} (h1 : p.has X.K H xs) (h2 : p.has X.K H ys) : xs = ys := by
  cases p with
  | lst a => exact I.list_inj h1 h2
  | tup a => exact I.tuple_inj h1 h2
  | txt x => exact h1.trans h2.symm
/-- its iterator draws the values -/
theorem Sc.draws {X : Cx} {pins : List (Addr × Obj)} {σ : L2.St} {H : Hp} {s : Shared} (I : Inv X pins σ H s) (hc : X.calm = true) {p : Sc} {xs : List V} (h : p.has X.K H xs) {it : Addr} {i : Nat} (hs : p.st it i s.heap) (ha : it ∉ p.adr) :
    ∃ (P : Nat → Value → Prop) (St : Nat → Heap → Prop), Draws X.prog X.w X.A.in1 it (it :: p.adr) xs.length P St ∧ St i s.heap ∧ (∀ j h', St j h' → p.st it j h') ∧ ∀ j v x, P j v → xs[j]? = some x → RelV x v := by
  have hh : X.A.in1.handled = none := I.ok.hd hc
  cases p with
  | lst a =>
    obtain ⟨its, rv, q, _⟩ := I.list h
    have e : its.toArray.size = xs.length := by rw [List.size_toArray, rv.length]
    have D := Draws.list (prog := X.prog) (w := X.w) hh it a (fun z => ha (by simp [Sc.adr, z])) its.toArray
    rw [e] at D
    refine ⟨_, _, D, ⟨hs, q.isList⟩, fun j h' z => z.1, fun j v x hp hx => ?_⟩
    obtain ⟨u, hu, ru⟩ := rv.get hx
    have hp : its[j]? = some v := by simpa using hp
    rw [hu] at hp
    cases hp
    exact ru
  | tup a =>
    obtain ⟨its, rv, q, _⟩ := I.tuple h
    have e : its.toArray.size = xs.length := by rw [List.size_toArray, rv.length]
    have D := Draws.tuple (prog := X.prog) (w := X.w) hh it a (fun z => ha (by simp [Sc.adr, z])) its.toArray
    rw [e] at D
    refine ⟨_, _, D, ⟨hs, q⟩, fun j h' z => z.1, fun j v x hp hx => ?_⟩
    obtain ⟨u, hu, ru⟩ := rv.get hx
    have hp : its[j]? = some v := by simpa using hp
    rw [hu] at hp
    cases hp
    exact ru
  | txt x =>
    have h : xs = chrs x := h
    subst h
    obtain ⟨t, hs⟩ := hs
    have D := Draws.text (prog := X.prog) (w := X.w) hh it x t
    have e : x.cps.size = (chrs x).length := by unfold chrs; simp
    rw [e] at D
    refine ⟨_, _, D, hs, fun j h' z => ⟨t, z⟩, fun j v y hp hx => ?_⟩
    obtain ⟨c, u, hc', rfl⟩ := hp
    have hx : (x.cps[j]?).map (fun c => V.str ⟨#[c]⟩) = some y := by
      unfold chrs at hx
      simpa using hx
    rw [hc'] at hx
    cases hx
    exact ⟨u, rfl⟩
def ItzM (K : Frag) (p q : Sc) : It :=
  ⟨fun i H => ∃ (xs ys : List V) (x y : V), p.has K H xs ∧ q.has K H ys ∧ xs[i]? = some x ∧ ys[i]? = some y,
    fun i H v H' => ∃ T x y, v = .ref T ∧ H T = none ∧ H' = upd H T (.tup [x, y]) ∧ (∀ xs, p.has K H xs → xs[i]? = some x) ∧ ∀ ys, q.has K H ys → ys[i]? = some y,
    fun i H => ∃ xs ys : List V, p.has K H xs ∧ q.has K H ys ∧ i = min xs.length ys.length⟩
/-- the cells lie apart -/
structure Apt (z TI TO i1 i2 : Addr) (ds : List Addr) : Prop where
  nd : [z, TI, TO, i1, i2].Nodup
  ds : ∀ c ∈ [z, TI, TO, i1, i2], c ∉ ds
theorem Apt.sep {z TI TO i1 i2 : Addr} {d1 d2 : List Addr} (D : Apt z TI TO i1 i2 (d1 ++ d2)) : ZipSep2 z TI TO i1 i2 (i1 :: d1) (i2 :: d2) := by
  have nd := D.nd
  simp at nd
  have a : ∀ c ∈ [z, TI, TO, i1, i2], c ∉ d1 ∧ c ∉ d2 := fun c hc => ⟨fun z => D.ds c hc (List.mem_append_left _ z), fun z => D.ds c hc (List.mem_append_right _ z)⟩
  have az := a z (by simp)
  have aT := a TO (by simp)
  have a1 := a i1 (by simp)
  have a2 := a i2 (by simp)
  obtain ⟨⟨n1, n2, n3, n4⟩, ⟨n5, n6, n7⟩, ⟨n8, n9⟩, n10⟩ := nd
  exact ⟨Ne.symm n1, Ne.symm n2, n5, n6, by simp, by simp [n3, az.1], by simp [n8, aT.1], n7, by simp, by simp [n4, az.2], by simp [n9, aT.2], by simp [n10, a1.2], by simp [Ne.symm n10, a2.1]⟩
theorem turn_zipM {P : Program} {w : World} {K : Frag} {elts : List Expr} {kk : Nat} {tpos : Pos} {p q : Sc} {z TI TO i1 i2 : Addr} (D : Apt z TI TO i1 i2 (p.adr ++ q.adr)) :
    Turn P w K (.Tuple elts kk tpos) (ItzM K p q) [z, TI, TO, i1, i2] z (fun i h => IsZip h z TI TO .none ∧ IsTupOf2 h TI (.ref i1) (.ref i2) ∧ (∃ x y, IsTupOf2 h TO x y) ∧ p.st i1 i h ∧ q.st i2 i h) where
  mem := by simp
  obj := fun i h st c hc => by
    obtain ⟨hz, hTI, ⟨x, y, hTO⟩, h1, h2⟩ := st
    simp only [List.mem_cons, List.not_mem_nil, or_false] at hc
    rcases hc with rfl | rfl | rfl | rfl | rfl
    · exact ⟨_, hz, fun v q => nomatch q⟩
    · exact ⟨_, hTI, fun v q => nomatch q⟩
    · exact ⟨_, hTO, fun v q => nomatch q⟩
    · exact Sc.obj (p := p) h1
    · exact Sc.obj (p := q) h2
  keep := fun i h h' st k => by
    obtain ⟨hz, hTI, ⟨x, y, hTO⟩, h1, h2⟩ := st
    exact ⟨k z (by simp) _ hz, k TI (by simp) _ hTI, ⟨x, y, k TO (by simp) _ hTO⟩, Sc.keep (p := p) h1 fun o e => k i1 (by simp) o e, Sc.keep (p := q) h2 fun o e => k i2 (by simp) o e⟩
  item := by
    intro X hP hw hK hc i pins s σ H E I hf st hg
    subst hP hw hK
    obtain ⟨hz, hTI, ⟨x0, y0, hTO⟩, h1, h2⟩ := st
    obtain ⟨xs, ys, x, y, hp, hq, hx, hy⟩ := hg
    have S := D.sep
    have n1 : i1 ∉ p.adr := fun z => D.ds i1 (by simp) (List.mem_append_left _ z)
    have n2 : i2 ∉ q.adr := fun z => D.ds i2 (by simp) (List.mem_append_right _ z)
    obtain ⟨P1, St1, D1, s1, b1, v1⟩ := Sc.draws I hc hp h1 n1
    obtain ⟨P2, St2, D2, s2, b2, v2⟩ := Sc.draws I hc hq h2 n2
    have l1 := (List.getElem?_eq_some_iff.mp hx).1
    have l2 := (List.getElem?_eq_some_iff.mp hy).1
    have hzl : z < s.heap.objs.size := Heap.lt_size hz
    refine wpAny_pyNext_zipD2_item S D1 D2 hz hTI hTO s1 s2 l1 l2 fun u1 u2 h' tk pu1 pu2 z' TO' t1 t2 hT hsz hk => ?_
    refine ⟨_, rfl, wpAny_letOwnedTupleGo_zip (s := { s with heap := h', toks := tk }) z' fun h'' z'' sb => ?_⟩
    have hT2 : h''.get? s.heap.objs.size = some { cls := .type "tuple", data := .seq #[u1, u2] } := (sb.2 _ (Nat.ne_of_gt hzl)).trans hT
    have new : ObjOk X.prog X.w (upd H s.heap.objs.size (.tup [x, y])) h'' s.heap.objs.size (.tup [x, y]) :=
      ⟨by show 2 ≤ sizeLine; decide, [u1, u2], .cons (v1 i u1 x pu1 hx) (.cons (v2 i u2 y pu2 hy) .nil), ⟨_, hT2, rfl, _, rfl⟩⟩
    have I1 : Inv X pins σ (upd H s.heap.objs.size (.tup [x, y])) { s with heap := h'', toks := tk } :=
      I.turnedNew (t' := tk) (ch := [z, TI, TO, i1, i2]) (fun c o hb e => (sb.2 c (fun q' => hb (by simp [q']))).trans (hk c o (fun q' => hb (by simp [q'])) (fun q' => hb (by simp [q'])) (fun q' => hb (by simp [q'])) (fun q' => hb (by simp [q'])) e)) hf (Nat.le_refl _) new
    refine ⟨.ref s.heap.objs.size, _, I1, rfl, ⟨_, x, y, rfl, I.hok.fresh (Nat.le_refl _), rfl, fun l hl => by rw [Sc.inj I hl hp]; exact hx, fun l hl => by rw [Sc.inj I hl hq]; exact hy⟩, ⟨z'', ?_, ⟨u1, u2, ?_⟩, ?_, ?_⟩, fun c hcm => ?_⟩
    · exact (sb.2 _ S.TIz).trans (hk _ _ S.TIz S.TITO S.TIi1 S.TIi2 hTI)
    · exact (sb.2 _ S.TOz).trans TO'
    · exact Sc.keep (p := p) (b1 _ _ t1) fun o e => (sb.2 _ (Ne.symm S.zi1)).trans e
    · exact Sc.keep (p := q) (b2 _ _ t2) fun o e => (sb.2 _ (Ne.symm S.zi2)).trans e
    · have hlt : c < s.heap.objs.size := by
        simp only [List.mem_cons, List.not_mem_nil, or_false] at hcm
        rcases hcm with rfl | rfl | rfl | rfl | rfl
        · exact hzl
        · exact Heap.lt_size hTI
        · exact Heap.lt_size hTO
        · obtain ⟨o, e, _⟩ := Sc.obj (p := p) h1; exact Heap.lt_size e
        · obtain ⟨o, e, _⟩ := Sc.obj (p := q) h2; exact Heap.lt_size e
      rw [upd_ne (Nat.ne_of_lt hlt)]
      exact (hf c hcm).1
  done := by
    intro X hP hw hK hc i pins s σ H E I hf st hg
    subst hP hw hK
    obtain ⟨hz, hTI, ⟨x0, y0, hTO⟩, h1, h2⟩ := st
    obtain ⟨xs, ys, hp, hq, hend⟩ := hg
    have S := D.sep
    have n1 : i1 ∉ p.adr := fun z => D.ds i1 (by simp) (List.mem_append_left _ z)
    have n2 : i2 ∉ q.adr := fun z => D.ds i2 (by simp) (List.mem_append_right _ z)
    obtain ⟨P1, St1, D1, s1, b1, v1⟩ := Sc.draws I hc hp h1 n1
    obtain ⟨P2, St2, D2, s2, b2, v2⟩ := Sc.draws I hc hq h2 n2
    refine wpAny_pyNext_zipD2_end S D1 D2 hz hTI hTO s1 s2 (by omega) (by omega) (by omega) fun h' tk hk => ⟨rfl, I.turnedL (t' := tk) (ch := [z, TI, TO, i1, i2]) (fun c o hb e =>
      hk c o (fun q' => hb (by simp [q'])) (fun q' => hb (by simp [q'])) (fun q' => hb (by simp [q'])) (fun q' => hb (by simp [q'])) e) hf⟩
  self := fun A i s Q E st h => wpAny_pyIter_zip st.1 h
def Sc.is (v : V) : Sc → Prop
  | .lst a => v = .ref a
  | .tup a => v = .ref a
  | .txt x => v = .str x
/-- how it begins -/
theorem Sc.begins {X : Cx} {pins : List (Addr × Obj)} {σ : L2.St} {H : Hp} {s : Shared} (I : Inv X pins σ H s) {p : Sc} {xs : List V} (h : p.has X.K H xs) {v : V} {u : Value} (hv : RelV v u) (hp : Sc.is v p) :
    ∃ (o : Obj) (HH : Heap → Prop), Begins u o HH ∧ HH s.heap ∧ (∀ (it : Addr) (h' : Heap), h'.get? it = some o → p.st it 0 h') ∧ ∀ b ∈ p.adr, b < s.heap.objs.size := by
  cases p with
  | lst a =>
    have hp : v = .ref a := hp
    subst hp
    cases hv
    obtain ⟨its, rv, q, _⟩ := I.list h
    exact ⟨_, _, begins_list a its.toArray, q.isList, fun it h' e => ⟨_, e, rfl, rfl⟩, fun b hb => by
      have : b = a := by simpa [Sc.adr] using hb
      rw [this]; exact q.lt⟩
  | tup a =>
    have hp : v = .ref a := hp
    subst hp
    cases hv
    obtain ⟨its, rv, q, _⟩ := I.tuple h
    exact ⟨_, _, begins_tuple a its.toArray, q, fun it h' e => ⟨_, e, rfl, rfl⟩, fun b hb => by
      have : b = a := by simpa [Sc.adr] using hb
      obtain ⟨o, e, _⟩ := q
      rw [this]; exact Heap.lt_size e⟩
  | txt x =>
    have hp : v = .str x := hp
    subst hp
    obtain ⟨t, rfl⟩ := hv
    exact ⟨_, _, begins_text x t, trivial, fun it h' e => ⟨t, _, e, rfl, rfl⟩, fun b hb => by simp [Sc.adr] at hb⟩
def iZipM (K : Frag) (ta : TA) : TI := fun σ H R => ta σ H fun vs H1 => ∃ v w p q xs ys, vs = [v, w] ∧ Sc.is v p ∧ Sc.is w q ∧ p.has K H1 xs ∧ q.has K H1 ys ∧ R (ItzM K p q) H1
theorem pi_zipM {X : Cx} {e e2 : Expr} {ta : TA} {p pos tpos : Pos} {elts : List Expr} {kk : Nat} (hg : Gl X "zip") (hm : X.mg "zip" = none) (ha : PA X [e, e2] ta)
    (hs : starEach [e, e2] X.env = (false, eval e X.env) :: starEach [e2] X.env := by rfl) (hpl : (backTo pos (starEach [e2] X.env)).any (·.1) = false := by rfl) :
    PI X (.Tuple elts kk tpos) (.Call (.Name "zip" p) [e, e2] [] pos) (iZipM X.K ta) := by
  refine ⟨fun pins s σ H R I h => ?_⟩
  refine Call_ (ld_blt I hg hm PyProof.Rows.boot_zip (PyProof.Rows.callWith_type1 (thn (ha.run pos pins s σ H _ I h) fun us s1 ⟨vs, H1, I1, r1, q1⟩ => ?_) hs hpl))
  obtain ⟨v, w', a, b, xs, ys, ex, hv, hw, h1, h2, q1⟩ := q1
  subst ex
  cases r1 with
  | cons r rr =>
    cases rr with
    | cons r' rr =>
      cases rr
      obtain ⟨o1, H1', B1, g1, t1, ad1⟩ := Sc.begins I1 h1 r hv
      obtain ⟨o2, H2', B2, g2, t2, ad2⟩ := Sc.begins I1 h2 r' hw
      refine zip_begins2 B1 B2 g1 g2 fun h' hz hTI hTO k1 k2 hsz hk => wpAny_pyIter_zip hz ?_
      have I2 : Inv X pins σ H1 { s1 with heap := h' } := I1.kept (t' := s1.toks) hk
      have new : ∀ c ∈ [s1.heap.objs.size + 4, s1.heap.objs.size + 2, s1.heap.objs.size + 3, s1.heap.objs.size, s1.heap.objs.size + 1], s1.heap.objs.size ≤ c := fun c hc => by
        simp only [List.mem_cons, List.not_mem_nil, or_false] at hc
        rcases hc with rfl | rfl | rfl | rfl | rfl
        · exact Nat.le_add_right _ _
        · exact Nat.le_add_right _ _
        · exact Nat.le_add_right _ _
        · exact Nat.le_refl _
        · exact Nat.le_add_right _ _
      have D : Apt (s1.heap.objs.size + 4) (s1.heap.objs.size + 2) (s1.heap.objs.size + 3) s1.heap.objs.size (s1.heap.objs.size + 1) (a.adr ++ b.adr) := by
        refine ⟨?_, fun c hc hd => ?_⟩
        · generalize s1.heap.objs.size = n
          simp
        · have hn := new c hc
          rcases List.mem_append.mp hd with z | z
          · exact absurd (ad1 c z) (Nat.not_lt.mpr hn)
          · exact absurd (ad2 c z) (Nat.not_lt.mpr hn)
      exact ⟨s1.heap.objs.size + 4, [s1.heap.objs.size + 4, s1.heap.objs.size + 2, s1.heap.objs.size + 3, s1.heap.objs.size, s1.heap.objs.size + 1], _, _, H1, rfl, I2, turn_zipM D, ⟨hz, hTI, ⟨_, _, hTO⟩, t1 _ _ k1, t2 _ _ k2⟩, fun c hc => I1.fpOk (new c hc) (I1.hok.fresh (new c hc)), q1⟩
end Snd
namespace Snd
open PySem PySem.Spec PyProof.Rows L2
/-! ### zip over three sources of any kind -/
def Itz3 (K : Frag) (p q r : Sc) : It :=
  ⟨fun i H => ∃ (xs ys zs : List V) (x y z : V), p.has K H xs ∧ q.has K H ys ∧ r.has K H zs ∧ xs[i]? = some x ∧ ys[i]? = some y ∧ zs[i]? = some z,
    fun i H v H' => ∃ T x y z, v = .ref T ∧ H T = none ∧ H' = upd H T (.tup [x, y, z]) ∧ (∀ xs, p.has K H xs → xs[i]? = some x) ∧ (∀ ys, q.has K H ys → ys[i]? = some y) ∧ ∀ zs, r.has K H zs → zs[i]? = some z,
    fun i H => ∃ xs ys zs : List V, p.has K H xs ∧ q.has K H ys ∧ r.has K H zs ∧ i = min (min xs.length ys.length) zs.length⟩
structure Apt3 (z TI TO i1 i2 i3 : Addr) (ds : List Addr) : Prop where
  nd : [z, TI, TO, i1, i2, i3].Nodup
  ds : ∀ c ∈ [z, TI, TO, i1, i2, i3], c ∉ ds
theorem Apt3.sep {z TI TO i1 i2 i3 : Addr} {d1 d2 d3 : List Addr} (D : Apt3 z TI TO i1 i2 i3 (d1 ++ (d2 ++ d3))) : ZipSep3 z TI TO i1 i2 i3 (i1 :: d1) (i2 :: d2) (i3 :: d3) := by
  have nd := D.nd
  simp at nd
  have a : ∀ c ∈ [z, TI, TO, i1, i2, i3], c ∉ d1 ∧ c ∉ d2 ∧ c ∉ d3 := fun c hc => ⟨fun z => D.ds c hc (List.mem_append_left _ z), fun z => D.ds c hc (List.mem_append_right _ (List.mem_append_left _ z)), fun z => D.ds c hc (List.mem_append_right _ (List.mem_append_right _ z))⟩
  have az := a z (by simp)
  have aT := a TO (by simp)
  have a1 := a i1 (by simp)
  have a2 := a i2 (by simp)
  have a3 := a i3 (by simp)
  obtain ⟨⟨n1, n2, n3, n4, n5⟩, ⟨n6, n7, n8, n9⟩, ⟨n10, n11, n12⟩, ⟨n13, n14⟩, n15⟩ := nd
  exact { TIz := Ne.symm n1, TOz := Ne.symm n2, TITO := n6, TIi1 := n7, mem1 := by simp, zf1 := by simp [n3, az.1], Tf1 := by simp [n10, aT.1], TIi2 := n8, mem2 := by simp, zf2 := by simp [n4, az.2.1], Tf2 := by simp [n11, aT.2.1], TIi3 := n9, mem3 := by simp, zf3 := by simp [n5, az.2.2], Tf3 := by simp [n12, aT.2.2], sep1_2 := by simp [n13, a1.2.1], sep1_3 := by simp [n14, a1.2.2], sep2_1 := by simp [Ne.symm n13, a2.1], sep2_3 := by simp [n15, a2.2.2], sep3_1 := by simp [Ne.symm n14, a3.1], sep3_2 := by simp [Ne.symm n15, a3.2.1] }
theorem turn_zip3 {P : Program} {w : World} {K : Frag} {elts : List Expr} {kk : Nat} {tpos : Pos} {p q r : Sc} {z TI TO i1 i2 i3 : Addr} (D : Apt3 z TI TO i1 i2 i3 (p.adr ++ (q.adr ++ r.adr))) :
    Turn P w K (.Tuple elts kk tpos) (Itz3 K p q r) [z, TI, TO, i1, i2, i3] z (fun i h => IsZip h z TI TO .none ∧ IsTupOf3 h TI (.ref i1) (.ref i2) (.ref i3) ∧ (∃ x y w, IsTupOf3 h TO x y w) ∧ p.st i1 i h ∧ q.st i2 i h ∧ r.st i3 i h) where
  mem := by simp
  obj := fun i h st c hc => by
    obtain ⟨hz, hTI, ⟨x, y, u, hTO⟩, h1, h2, h3⟩ := st
    simp only [List.mem_cons, List.not_mem_nil, or_false] at hc
    rcases hc with rfl | rfl | rfl | rfl | rfl | rfl
    · exact ⟨_, hz, fun v q => nomatch q⟩
    · exact ⟨_, hTI, fun v q => nomatch q⟩
    · exact ⟨_, hTO, fun v q => nomatch q⟩
    · exact Sc.obj (p := p) h1
    · exact Sc.obj (p := q) h2
    · exact Sc.obj (p := r) h3
  keep := fun i h h' st k => by
    obtain ⟨hz, hTI, ⟨x, y, u, hTO⟩, h1, h2, h3⟩ := st
    exact ⟨k z (by simp) _ hz, k TI (by simp) _ hTI, ⟨x, y, u, k TO (by simp) _ hTO⟩, Sc.keep (p := p) h1 fun o e => k i1 (by simp) o e, Sc.keep (p := q) h2 fun o e => k i2 (by simp) o e, Sc.keep (p := r) h3 fun o e => k i3 (by simp) o e⟩
  item := by
    intro X hP hw hK hc i pins s σ H E I hf st hg
    subst hP hw hK
    obtain ⟨hz, hTI, ⟨x0, y0, u0, hTO⟩, h1, h2, h3⟩ := st
    obtain ⟨xs, ys, zs, x, y, u, hp, hq, hr, hx, hy, hu⟩ := hg
    have S := D.sep
    have n1 : i1 ∉ p.adr := fun z => D.ds i1 (by simp) (List.mem_append_left _ z)
    have n2 : i2 ∉ q.adr := fun z => D.ds i2 (by simp) (List.mem_append_right _ (List.mem_append_left _ z))
    have n3 : i3 ∉ r.adr := fun z => D.ds i3 (by simp) (List.mem_append_right _ (List.mem_append_right _ z))
    obtain ⟨P1, St1, D1, s1, b1, v1⟩ := Sc.draws I hc hp h1 n1
    obtain ⟨P2, St2, D2, s2, b2, v2⟩ := Sc.draws I hc hq h2 n2
    obtain ⟨P3, St3, D3, s3, b3, v3⟩ := Sc.draws I hc hr h3 n3
    have l1 := (List.getElem?_eq_some_iff.mp hx).1
    have l2 := (List.getElem?_eq_some_iff.mp hy).1
    have l3 := (List.getElem?_eq_some_iff.mp hu).1
    have hzl : z < s.heap.objs.size := Heap.lt_size hz
    have zi3 : z ≠ i3 := fun e => S.zf3 (by rw [e]; exact S.mem3)
    have zi2 : z ≠ i2 := fun e => S.zf2 (by rw [e]; exact S.mem2)
    refine wpAny_pyNext_zipD3_item S D1 D2 D3 hz hTI hTO s1 s2 s3 l1 l2 l3 fun u1 u2 u3 h' tk pu1 pu2 pu3 z' TO' t1 t2 t3 hT hsz hk => ?_
    refine ⟨_, rfl, wpAny_letOwnedTupleGo_zip (s := { s with heap := h', toks := tk }) z' fun h'' z'' sb => ?_⟩
    have hT2 : h''.get? s.heap.objs.size = some { cls := .type "tuple", data := .seq #[u1, u2, u3] } := (sb.2 _ (Nat.ne_of_gt hzl)).trans hT
    have new : ObjOk X.prog X.w (upd H s.heap.objs.size (.tup [x, y, u])) h'' s.heap.objs.size (.tup [x, y, u]) :=
      ⟨by show 3 ≤ sizeLine; decide, [u1, u2, u3], .cons (v1 i u1 x pu1 hx) (.cons (v2 i u2 y pu2 hy) (.cons (v3 i u3 u pu3 hu) .nil)), ⟨_, hT2, rfl, _, rfl⟩⟩
    have I1 : Inv X pins σ (upd H s.heap.objs.size (.tup [x, y, u])) { s with heap := h'', toks := tk } :=
      I.turnedNew (t' := tk) (ch := [z, TI, TO, i1, i2, i3]) (fun c o hb e => (sb.2 c (fun q' => hb (by simp [q']))).trans (hk c o (fun q' => hb (by simp [q'])) (fun q' => hb (by simp [q'])) (fun q' => hb (by simp [q'])) (fun q' => hb (by simp [q'])) (fun q' => hb (by simp [q'])) e)) hf (Nat.le_refl _) new
    refine ⟨.ref s.heap.objs.size, _, I1, rfl, ⟨_, x, y, u, rfl, I.hok.fresh (Nat.le_refl _), rfl, fun l hl => by rw [Sc.inj I hl hp]; exact hx, fun l hl => by rw [Sc.inj I hl hq]; exact hy, fun l hl => by rw [Sc.inj I hl hr]; exact hu⟩, ⟨z'', ?_, ⟨u1, u2, u3, ?_⟩, ?_, ?_, ?_⟩, fun c hcm => ?_⟩
    · exact (sb.2 _ S.TIz).trans (hk _ _ S.TIz S.TITO S.TIi1 S.TIi2 S.TIi3 hTI)
    · exact (sb.2 _ S.TOz).trans TO'
    · exact Sc.keep (p := p) (b1 _ _ t1) fun o e => (sb.2 _ (Ne.symm S.zi1)).trans e
    · exact Sc.keep (p := q) (b2 _ _ t2) fun o e => (sb.2 _ (Ne.symm zi2)).trans e
    · exact Sc.keep (p := r) (b3 _ _ t3) fun o e => (sb.2 _ (Ne.symm zi3)).trans e
    · have hlt : c < s.heap.objs.size := by
        simp only [List.mem_cons, List.not_mem_nil, or_false] at hcm
        rcases hcm with rfl | rfl | rfl | rfl | rfl | rfl
        · exact hzl
        · exact Heap.lt_size hTI
        · exact Heap.lt_size hTO
        · obtain ⟨o, e, _⟩ := Sc.obj (p := p) h1; exact Heap.lt_size e
        · obtain ⟨o, e, _⟩ := Sc.obj (p := q) h2; exact Heap.lt_size e
        · obtain ⟨o, e, _⟩ := Sc.obj (p := r) h3; exact Heap.lt_size e
      rw [upd_ne (Nat.ne_of_lt hlt)]
      exact (hf c hcm).1
  done := by
    intro X hP hw hK hc i pins s σ H E I hf st hg
    subst hP hw hK
    obtain ⟨hz, hTI, ⟨x0, y0, u0, hTO⟩, h1, h2, h3⟩ := st
    obtain ⟨xs, ys, zs, hp, hq, hr, hend⟩ := hg
    have S := D.sep
    have n1 : i1 ∉ p.adr := fun z => D.ds i1 (by simp) (List.mem_append_left _ z)
    have n2 : i2 ∉ q.adr := fun z => D.ds i2 (by simp) (List.mem_append_right _ (List.mem_append_left _ z))
    have n3 : i3 ∉ r.adr := fun z => D.ds i3 (by simp) (List.mem_append_right _ (List.mem_append_right _ z))
    obtain ⟨P1, St1, D1, s1, b1, v1⟩ := Sc.draws I hc hp h1 n1
    obtain ⟨P2, St2, D2, s2, b2, v2⟩ := Sc.draws I hc hq h2 n2
    obtain ⟨P3, St3, D3, s3, b3, v3⟩ := Sc.draws I hc hr h3 n3
    refine wpAny_pyNext_zipD3_end S D1 D2 D3 hz hTI hTO s1 s2 s3 (by omega) (by omega) (by omega) (by omega) fun h' tk hk => ⟨rfl, I.turnedL (t' := tk) (ch := [z, TI, TO, i1, i2, i3]) (fun c o hb e =>
      hk c o (fun q' => hb (by simp [q'])) (fun q' => hb (by simp [q'])) (fun q' => hb (by simp [q'])) (fun q' => hb (by simp [q'])) (fun q' => hb (by simp [q'])) e) hf⟩
  self := fun A i s Q E st h => wpAny_pyIter_zip st.1 h
def iZip3 (K : Frag) (ta : TA) : TI := fun σ H R => ta σ H fun vs H1 => ∃ v w u p q r xs ys zs, vs = [v, w, u] ∧ Sc.is v p ∧ Sc.is w q ∧ Sc.is u r ∧ p.has K H1 xs ∧ q.has K H1 ys ∧ r.has K H1 zs ∧ R (Itz3 K p q r) H1
theorem pi_zip3 {X : Cx} {e e2 e3 : Expr} {ta : TA} {p pos tpos : Pos} {elts : List Expr} {kk : Nat} (hg : Gl X "zip") (hm : X.mg "zip" = none) (ha : PA X [e, e2, e3] ta)
    (hs : starEach [e, e2, e3] X.env = (false, eval e X.env) :: starEach [e2, e3] X.env := by rfl) (hpl : (backTo pos (starEach [e2, e3] X.env)).any (·.1) = false := by rfl) :
    PI X (.Tuple elts kk tpos) (.Call (.Name "zip" p) [e, e2, e3] [] pos) (iZip3 X.K ta) := by
  refine ⟨fun pins s σ H R I h => ?_⟩
  refine Call_ (ld_blt I hg hm PyProof.Rows.boot_zip (PyProof.Rows.callWith_type1 (thn (ha.run pos pins s σ H _ I h) fun us s1 ⟨vs, H1, I1, r1, q1⟩ => ?_) hs hpl))
  obtain ⟨v, w', u', a, b, d, xs, ys, zs, ex, hv, hw, hu, h1, h2, h3, q1⟩ := q1
  subst ex
  cases r1 with
  | cons r rr =>
    cases rr with
    | cons r' rr =>
      cases rr with
      | cons r'' rr =>
        cases rr
        obtain ⟨o1, H1', B1, g1, t1, ad1⟩ := Sc.begins I1 h1 r hv
        obtain ⟨o2, H2', B2, g2, t2, ad2⟩ := Sc.begins I1 h2 r' hw
        obtain ⟨o3, H3', B3, g3, t3, ad3⟩ := Sc.begins I1 h3 r'' hu
        refine zip_begins3 B1 B2 B3 g1 g2 g3 fun h' hz hTI hTO k1 k2 k3 hsz hk => wpAny_pyIter_zip hz ?_
        have I2 : Inv X pins σ H1 { s1 with heap := h' } := I1.kept (t' := s1.toks) hk
        have new : ∀ c ∈ [s1.heap.objs.size + 5, s1.heap.objs.size + 3, s1.heap.objs.size + 4, s1.heap.objs.size, s1.heap.objs.size + 1, s1.heap.objs.size + 2], s1.heap.objs.size ≤ c := fun c hc => by
          simp only [List.mem_cons, List.not_mem_nil, or_false] at hc
          rcases hc with rfl | rfl | rfl | rfl | rfl | rfl
          · exact Nat.le_add_right _ _
          · exact Nat.le_add_right _ _
          · exact Nat.le_add_right _ _
          · exact Nat.le_refl _
          · exact Nat.le_add_right _ _
          · exact Nat.le_add_right _ _
        have D : Apt3 (s1.heap.objs.size + 5) (s1.heap.objs.size + 3) (s1.heap.objs.size + 4) s1.heap.objs.size (s1.heap.objs.size + 1) (s1.heap.objs.size + 2) (a.adr ++ (b.adr ++ d.adr)) := by
          refine ⟨?_, fun c hc hd => ?_⟩
          · generalize s1.heap.objs.size = n
            simp
          · have hn := new c hc
            rcases List.mem_append.mp hd with z | z
            · exact absurd (ad1 c z) (Nat.not_lt.mpr hn)
            · rcases List.mem_append.mp z with z | z
              · exact absurd (ad2 c z) (Nat.not_lt.mpr hn)
              · exact absurd (ad3 c z) (Nat.not_lt.mpr hn)
        exact ⟨s1.heap.objs.size + 5, [s1.heap.objs.size + 5, s1.heap.objs.size + 3, s1.heap.objs.size + 4, s1.heap.objs.size, s1.heap.objs.size + 1, s1.heap.objs.size + 2], _, _, H1, rfl, I2, turn_zip3 D, ⟨hz, hTI, ⟨_, _, _, hTO⟩, t1 _ _ k1, t2 _ _ k2, t3 _ _ k3⟩, fun c hc => I1.fpOk (new c hc) (I1.hok.fresh (new c hc)), q1⟩
end Snd
namespace Snd
open PySem PySem.Spec PyProof.Rows L2 RZ
/-! ### what is walked -/
/-- the turns of J yield these items as long as the store is as chk says -/
def Mat (K : Frag) (S : M.Sto) (H : Hp) (J : It) (items : List M.D) (chk : M.Sto → Prop) : Prop :=
  ∀ i S2 H2, Fr S H S2 H2 → RelS K H2 S2 → chk S2 → (∀ d, items[i]? = some d → J.go i H2 ∧ ∀ x H3, J.yld i H2 x H3 → Fr S2 H2 S2 H3 ∧ RelS K H3 S2 ∧ RelD K H3 d x) ∧ (i = items.length → J.stop i H2)
def OkI (K : Frag) (S : M.Sto) (H : Hp) (Rd : M.IK) (R : It → Hp → Prop) : Prop := ∀ items chk S' H' J, Fr S H S' H' → RelS K H' S' → Mat K S' H' J items chk → Rd items chk S' → R J H'
theorem OkI.after {K : Frag} {S S' : M.Sto} {H H' : Hp} {Rd : M.IK} {R : It → Hp → Prop} (h : OkI K S H Rd R) (f : Fr S H S' H') : OkI K S' H' Rd R := fun items chk S2 H2 J f2 r2 m q => h items chk S2 H2 J (f.trans f2) r2 m q
theorem OkI.here {K : Frag} {S : M.Sto} {H : Hp} {Rd : M.IK} {R : It → Hp → Prop} (h : OkI K S H Rd R) (r : RelS K H S) {J : It} {items : List M.D} {chk : M.Sto → Prop} (m : Mat K S H J items chk) (q : Rd items chk S) : R J H := h _ _ _ _ _ Fr.refl r m q
def tIt (c : Cn) (W : WX) (it : M.It) : TI := fun σ H R => ∃ ρ S Rd Xd, ρ.length = σ.length ∧ RelE c.K H ρ σ ∧ RelS c.K H S ∧ M.wpIt c.G it ρ S Rd Xd ∧ OkI c.K S H Rd R ∧ OkX c S H Xd fun cls d H' => W cls d σ H'
theorem get_lt {α : Type} {xs : List α} {i : Nat} {d : α} (h : xs[i]? = some d) : i < xs.length := (List.getElem?_eq_some_iff.mp h).1
/-- what lsOf tells stays told -/
theorem ls_at {K : Frag} {H H2 : Hp} {S S2 : M.Sto} (r : RelS K H S) (f : Fr S H S2 H2) (r2 : RelS K H2 S2) {d : M.D} {a : Addr} {xs : List M.D} (rd : RelD K H d (.ref a)) (e : M.lsOf S2 d = some xs) : ∃ vs, SqL K H2 a vs ∧ RelDs K H2 xs vs := by
  obtain ⟨b, vs, eb, h1, h2⟩ := lsOf_rel r2 (rd.mono r f) e
  cases eb
  exact ⟨vs, h1, h2⟩
theorem mat_list {K : Frag} {H : Hp} {S : M.Sto} (r : RelS K H S) {d : M.D} {a : Addr} {xs : List M.D} (rd : RelD K H d (.ref a)) : Mat K S H (Itl K a) xs fun S' => M.lsOf S' d = some xs := by
  intro i S2 H2 f r2 ch
  obtain ⟨vs, h1, h2⟩ := ls_at r f r2 rd ch
  refine ⟨fun y hy => ?_, fun hl0 => have hl := Nat.le_of_eq hl0.symm; ⟨vs, h1, by rw [← h2.length]; exact hl⟩⟩
  obtain ⟨v, e, rv⟩ := h2.get hy
  refine ⟨⟨vs, v, h1, e⟩, fun x H3 q => ?_⟩
  obtain ⟨e3, q⟩ := q
  subst e3
  have e4 := q vs h1
  rw [e] at e4
  cases e4
  exact ⟨Fr.refl, r2, rv⟩
theorem mat_tup {K : Frag} {H : Hp} {S : M.Sto} (r : RelS K H S) {a : Addr} {xs : List M.D} {vs : List V} (h1 : SqT K H a vs) (h2 : RelDs K H xs vs) : Mat K S H (Itt K a) xs fun _ => True := by
  intro i S2 H2 f r2 ch
  have h1 := sqt_mono r f h1
  have h2 := h2.mono r f
  refine ⟨fun y hy => ?_, fun hl0 => have hl := Nat.le_of_eq hl0.symm; ⟨vs, h1, by rw [← h2.length]; exact hl⟩⟩
  obtain ⟨v, e, rv⟩ := h2.get hy
  refine ⟨⟨vs, v, h1, e⟩, fun x H3 q => ?_⟩
  obtain ⟨e3, q⟩ := q
  subst e3
  have e4 := q vs h1
  rw [e] at e4
  cases e4
  exact ⟨Fr.refl, r2, rv⟩
theorem mat_str {K : Frag} {H : Hp} {S : M.Sto} {a : M.Tx} : Mat K S H (Its (stx a)) (a.map fun c => .str [c]) fun _ => True := by
  intro i S2 H2 f r2 ch
  have hs : (stx a).cps.size = a.length := by unfold stx; simp
  refine ⟨fun y hy => ?_, fun hl0 => have hl := Nat.le_of_eq hl0.symm; ?_⟩
  · rw [List.getElem?_map] at hy
    obtain ⟨c, e, ey⟩ := Option.map_eq_some_iff.mp hy
    subst ey
    refine ⟨by show i < (stx a).cps.size; rw [hs]; exact get_lt e, fun x H3 q => ?_⟩
    obtain ⟨e3, c', e4, ex⟩ := q
    subst e3 ex
    have e5 : (stx a).cps[i]? = a[i]? := by unfold stx; simp
    rw [e5, e] at e4
    cases e4
    exact ⟨Fr.refl, r2, .str [c]⟩
  · show (stx a).cps.size ≤ i
    rw [hs]
    simpa using hl
theorem mat_rng {K : Frag} {H : Hp} {S : M.Sto} {lo : Int} {n : Nat} : Mat K S H (Itr lo n) ((List.range n).map fun i => .int (lo + (i : Nat))) fun _ => True := by
  intro i S2 H2 f r2 ch
  refine ⟨fun y hy => ?_, fun hl0 => have hl := Nat.le_of_eq hl0.symm; by show n ≤ i; simpa using hl⟩
  have hl := get_lt hy
  rw [List.length_map, List.length_range] at hl
  rw [List.getElem?_map, List.getElem?_range hl] at hy
  cases hy
  refine ⟨hl, fun x H3 q => ?_⟩
  obtain ⟨e3, ex⟩ := q
  subst e3 ex
  exact ⟨Fr.refl, r2, .int _⟩
theorem enumL_get : ∀ {xs : List M.D} {n i : Nat} {y : M.D}, (M.enumL n xs)[i]? = some y → ∃ d, xs[i]? = some d ∧ y = .tup [.int ((n + i : Nat) : Int), d]
  | [], _, _, _, h => by simp [M.enumL] at h
  | d :: ds, n, 0, y, h => by simp [M.enumL] at h; exact ⟨d, rfl, by simpa using h.symm⟩
  | d :: ds, n, i + 1, y, h => by
    obtain ⟨d', e1, e2⟩ := enumL_get (xs := ds) (n := n + 1) (i := i) (y := y) (by simpa [M.enumL] using h)
    exact ⟨d', by simpa using e1, by rw [e2]; congr 3; omega⟩
theorem enumL_len : ∀ (xs : List M.D) (n : Nat), (M.enumL n xs).length = xs.length
  | [], _ => rfl
  | _ :: ds, n => by simp [M.enumL, enumL_len ds (n + 1)]
theorem pair_new {K : Frag} {H : Hp} {S : M.Sto} {T : Addr} {x y : V} {d e : M.D} (r : RelS K H S) (hT : H T = none) (rx : RelD K H d x) (ry : RelD K H e y) :
    Fr S H S (L2.upd H T (.tup [x, y])) ∧ RelS K (L2.upd H T (.tup [x, y])) S ∧ RelD K (L2.upd H T (.tup [x, y])) (.tup [d, e]) (.ref T) := by
  have f : Fr S H S (L2.upd H T (.tup [x, y])) := Fr.laid hT
  exact ⟨f, r.laid hT, .tup (SqT.of upd_same) (.cons (rx.mono r f) (.cons (ry.mono r f) .nil))⟩
theorem mat_enum {K : Frag} {H : Hp} {S : M.Sto} (r : RelS K H S) {d : M.D} {a : Addr} {xs : List M.D} (rd : RelD K H d (.ref a)) : Mat K S H (Ite K a) (M.enumL 0 xs) fun S' => M.lsOf S' d = some xs := by
  intro i S2 H2 f r2 ch
  obtain ⟨vs, h1, h2⟩ := ls_at r f r2 rd ch
  refine ⟨fun y hy => ?_, fun hl0 => have hl := Nat.le_of_eq hl0.symm; ⟨vs, h1, by rw [← h2.length]; rwa [enumL_len] at hl⟩⟩
  obtain ⟨d', e1, ey⟩ := enumL_get hy
  subst ey
  obtain ⟨v, e, rv⟩ := h2.get e1
  refine ⟨⟨vs, v, h1, e⟩, fun x H3 q => ?_⟩
  obtain ⟨T, z, ex, hT, e3, q⟩ := q
  subst ex e3
  have e4 := q vs h1
  rw [e] at e4
  cases e4
  rw [Nat.zero_add]
  exact pair_new r2 hT (.int _) rv
theorem zipP_get {xs ys : List M.D} {i : Nat} {y : M.D} (h : (M.zipP xs ys)[i]? = some y) : ∃ d e, xs[i]? = some d ∧ ys[i]? = some e ∧ y = .tup [d, e] := by
  unfold M.zipP at h
  rw [List.getElem?_map] at h
  obtain ⟨⟨d, e⟩, hz, hy⟩ := Option.map_eq_some_iff.mp h
  obtain ⟨h1, h2⟩ := List.getElem?_zip_eq_some.mp hz
  exact ⟨d, e, h1, h2, hy.symm⟩
theorem zipP_len (xs ys : List M.D) : (M.zipP xs ys).length = min xs.length ys.length := by unfold M.zipP; simp
theorem mat_zipM {K : Frag} {H : Hp} {S : M.Sto} {p q : Sc} {xs ys : List M.D} {chk : M.Sto → Prop} (hp : ∀ S2 H2, Fr S H S2 H2 → RelS K H2 S2 → chk S2 → ∃ vs, p.has K H2 vs ∧ RelDs K H2 xs vs) (hq : ∀ S2 H2, Fr S H S2 H2 → RelS K H2 S2 → chk S2 → ∃ vs, q.has K H2 vs ∧ RelDs K H2 ys vs) :
    Mat K S H (ItzM K p q) (M.zipP xs ys) chk := by
  intro i S2 H2 f r2 ch
  obtain ⟨vs, h1, h2⟩ := hp S2 H2 f r2 ch
  obtain ⟨us, g1, g2⟩ := hq S2 H2 f r2 ch
  refine ⟨fun y hy => ?_, fun hl => ⟨vs, us, h1, g1, by rw [zipP_len, h2.length, g2.length] at hl; exact hl⟩⟩
  obtain ⟨d', e', e1, e2, ey⟩ := zipP_get hy
  subst ey
  obtain ⟨v, ev, rv⟩ := h2.get e1
  obtain ⟨u, eu, ru⟩ := g2.get e2
  refine ⟨⟨vs, us, v, u, h1, g1, ev, eu⟩, fun x H3 q' => ?_⟩
  obtain ⟨T, z, z', ex, hT, e3, w1, w2⟩ := q'
  subst ex e3
  have e4 := w1 vs h1
  rw [ev] at e4
  cases e4
  have e4 := w2 us g1
  rw [eu] at e4
  cases e4
  exact pair_new r2 hT rv ru
theorem zipP3_get {xs ys zs : List M.D} {i : Nat} {y : M.D} (h : (M.zipP3 xs ys zs)[i]? = some y) : ∃ d e f, xs[i]? = some d ∧ ys[i]? = some e ∧ zs[i]? = some f ∧ y = .tup [d, e, f] := by
  unfold M.zipP3 at h
  rw [List.getElem?_map] at h
  cases hz : (xs.zip (ys.zip zs))[i]? with
  | none => rw [hz] at h; cases h
  | some q =>
    rw [hz] at h
    injection h with h
    obtain ⟨h1, h2⟩ := List.getElem?_zip_eq_some.mp hz
    obtain ⟨h3, h4⟩ := List.getElem?_zip_eq_some.mp h2
    exact ⟨_, _, _, h1, h3, h4, h.symm⟩
theorem zipP3_len (xs ys zs : List M.D) : (M.zipP3 xs ys zs).length = min (min xs.length ys.length) zs.length := by unfold M.zipP3; simp [Nat.min_assoc]
theorem triple_new {K : Frag} {H : Hp} {S : M.Sto} {T : Addr} {x y z : V} {d e f : M.D} (r : RelS K H S) (hT : H T = none) (rx : RelD K H d x) (ry : RelD K H e y) (rz : RelD K H f z) :
    Fr S H S (L2.upd H T (.tup [x, y, z])) ∧ RelS K (L2.upd H T (.tup [x, y, z])) S ∧ RelD K (L2.upd H T (.tup [x, y, z])) (.tup [d, e, f]) (.ref T) := by
  have g : Fr S H S (L2.upd H T (.tup [x, y, z])) := Fr.laid hT
  exact ⟨g, r.laid hT, .tup (SqT.of upd_same) (.cons (rx.mono r g) (.cons (ry.mono r g) (.cons (rz.mono r g) .nil)))⟩
theorem mat_zip3 {K : Frag} {H : Hp} {S : M.Sto} {p q t : Sc} {xs ys zs : List M.D} {chk : M.Sto → Prop} (hp : ∀ S2 H2, Fr S H S2 H2 → RelS K H2 S2 → chk S2 → ∃ vs, p.has K H2 vs ∧ RelDs K H2 xs vs) (hq : ∀ S2 H2, Fr S H S2 H2 → RelS K H2 S2 → chk S2 → ∃ vs, q.has K H2 vs ∧ RelDs K H2 ys vs) (ht : ∀ S2 H2, Fr S H S2 H2 → RelS K H2 S2 → chk S2 → ∃ vs, t.has K H2 vs ∧ RelDs K H2 zs vs) :
    Mat K S H (Itz3 K p q t) (M.zipP3 xs ys zs) chk := by
  intro i S2 H2 f r2 ch
  obtain ⟨vs, h1, h2⟩ := hp S2 H2 f r2 ch
  obtain ⟨us, g1, g2⟩ := hq S2 H2 f r2 ch
  obtain ⟨ws, k1, k2⟩ := ht S2 H2 f r2 ch
  refine ⟨fun y hy => ?_, fun hl => ⟨vs, us, ws, h1, g1, k1, by rw [zipP3_len, h2.length, g2.length, k2.length] at hl; exact hl⟩⟩
  obtain ⟨d', e', f', e1, e2, e3, ey⟩ := zipP3_get hy
  subst ey
  obtain ⟨v, ev, rv⟩ := h2.get e1
  obtain ⟨u, eu, ru⟩ := g2.get e2
  obtain ⟨w, ew, rw'⟩ := k2.get e3
  refine ⟨⟨vs, us, ws, v, u, w, h1, g1, k1, ev, eu, ew⟩, fun x H3 q' => ?_⟩
  obtain ⟨T, z, z', z'', ex, hT, e3, w1, w2, w3⟩ := q'
  subst ex e3
  have e4 := w1 vs h1
  rw [ev] at e4
  cases e4
  have e4 := w2 us g1
  rw [eu] at e4
  cases e4
  have e4 := w3 ws k1
  rw [ew] at e4
  cases e4
  exact triple_new r2 hT rv ru rw'
theorem chrs_rel {K : Frag} {H : Hp} : ∀ a : M.Tx, RelDs K H (a.map fun c => .str [c]) (chrs (stx a))
  | [] => .nil
  | c :: r => .cons (.str [c]) (chrs_rel r)
/-! ### over a list, a tuple, a text -/
theorem PI.imp {X : Cx} {tg e : Expr} {t t' : TI} (h : PI X tg e t) (i : ∀ σ H R, t' σ H R → t σ H R) : PI X tg e t' := ⟨fun pins s σ H R I q => h.run pins s σ H R I (i σ H R q)⟩
def iSeq (K : Frag) (te : TE) : TI := fun σ H R => te σ H fun v H1 => (∃ a xs, v = .ref a ∧ SqL K H1 a xs ∧ R (Itl K a) H1) ∨ (∃ a xs, v = .ref a ∧ SqT K H1 a xs ∧ R (Itt K a) H1) ∨ ∃ x, v = .str x ∧ R (Its x) H1
theorem pi_seqM {X : Cx} {tg e : Expr} {te : TE} (he : PE X e te) : PI X tg e (iSeq X.K te) := by
  refine ⟨fun pins s σ H R I h => ?_⟩
  refine thn (he.run pins s σ H _ I h) fun v s1 ⟨y, H1, I1, r1, q⟩ => ?_
  rcases q with ⟨a, xs, ey, hq, q⟩ | ⟨a, xs, ey, hq, q⟩ | ⟨x, ey, q⟩
  · subst ey
    cases r1
    obtain ⟨its, rv, p, hz⟩ := I1.list hq
    exact wpAny_pyIter_list p.isList (pi_one (tk := s1.toks) I1 _ (turn_list a _) ⟨_, Heap.get?_push_size _ rfl, rfl, rfl⟩ q)
  · subst ey
    cases r1
    obtain ⟨its, rv, p, hz⟩ := I1.tuple hq
    exact wpAny_pyIter_tuple (show s1.heap.IsTuple a its.toArray from p) (pi_one (tk := s1.toks) I1 _ (turn_tuple a _) ⟨_, Heap.get?_push_size _ rfl, rfl, rfl⟩ q)
  · subst ey
    obtain ⟨t, rfl⟩ := r1
    cases ha : x.cps.all (· < 128)
    · exact wpAny_pyIter_wide ha (pi_one (tk := s1.toks) I1 _ (turn_str _ x t "str_iterator" (.inr rfl)) ⟨_, Heap.get?_push_size _ rfl, rfl, rfl⟩ q)
    · exact wpAny_pyIter_ascii ha (pi_one (tk := s1.toks) I1 _ (turn_str _ x t "str_ascii_iterator" (.inl rfl)) ⟨_, Heap.get?_push_size _ rfl, rfl, rfl⟩ q)
/-- the reading of what is walked, by value -/
theorem seq_rel {K : Frag} {H : Hp} {S : M.Sto} {d : M.D} {v : V} {Rd : M.IK} {R : It → Hp → Prop} (r : RelS K H S) (rd : RelD K H d v) (w : M.seqD d S Rd) (q : OkI K S H Rd R) :
    (∃ a xs, v = .ref a ∧ SqL K H a xs ∧ R (Itl K a) H) ∨ (∃ a xs, v = .ref a ∧ SqT K H a xs ∧ R (Itt K a) H) ∨ ∃ x, v = .str x ∧ R (Its x) H := by
  cases rd with
  | ref a =>
    obtain ⟨xs, e, w⟩ := opt_of (show M.opt (M.lstAt S a) (fun xs => Rd xs (fun S' => S' a = some (.lst xs)) S) from w)
    obtain ⟨vs, h1, h2⟩ := r.at e
    refine .inl ⟨a, vs, rfl, SqL.of h1, q.here r ?_ w⟩
    intro i S2 H2 f r2 ch
    exact mat_list r (.ref a) i S2 H2 f r2 (show M.lsOf S2 (.ref a) = some xs from lstAt_of ch)
  | fl h1 h2 => exact .inl ⟨_, _, rfl, h1.sq, q.here r (fun i S2 H2 f r2 _ => mat_list r (.fl h1 h2) i S2 H2 f r2 rfl) w⟩
  | tup h1 h2 => exact .inr (.inl ⟨_, _, rfl, h1, q.here r (mat_tup r h1 h2) w⟩)
  | str x => exact .inr (.inr ⟨_, rfl, q.here r mat_str w⟩)
  | non => exact False.elim w
  | bl b => exact False.elim w
  | int i => exact False.elim w
  | xn _ => exact False.elim w
end Snd
namespace Snd
open PySem PySem.Spec PyProof.Rows L2
/-! ### from the checks -/
theorem and2 {a b : Bool} (h : (a && b) = true) : a = true ∧ b = true := Bool.and_eq_true_iff.mp h
theorem not1 {a : Bool} (h : (!a) = true) : a = false := by cases a <;> first | rfl | cases h
theorem vis_of {sc : Scope} {x : Str} (h : visB sc x = true) : Vis sc x := by
  unfold visB at h
  split at h <;> first | exact .inl (by assumption) | exact .inr (.inl (by assumption)) | exact .inr (.inr (by assumption)) | cases h
theorem gl_of {X : Cx} {sc : Scope} {x : Str} (hs : X.env.scope = sc) (h : glB sc x = true) : Gl X x := by
  unfold glB at h
  subst hs
  split at h <;> first | assumption | cases h
theorem loc_of {sc : Scope} {x : Str} (h : locB sc x = true) : sc.names.lookup x = some .local := by
  unfold locB at h
  split at h <;> first | assumption | cases h
theorem tgB_of {scope sc : Scope} {x : Str} (h : tgB scope sc x = true) : Loc (relS scope sc) x ∧ ((scope.names.lookup x == some NameKind.cell) = true ∨ (relS scope sc).names.lookup x = some .local) := by
  rcases Bool.or_eq_true_iff.mp h with h | h
  · exact ⟨.inl (loc_of h), .inr (loc_of h)⟩
  · have e : scope.names.lookup x = some .cell := eq_of_beq h
    exact ⟨.inr (lookup_relS_keep (by decide) e), .inl h⟩
theorem locC_of {sc : Scope} {x : Str} (h : locCB sc x = true) : Loc sc x := by
  unfold locCB at h
  split at h <;> first | exact .inl (by assumption) | exact .inr (by assumption) | cases h
theorem dbg_of {x : Str} (h : (!dbgB x) = true) : (x == ("__debug__" : Str)) = false ∧ (x == ("__classdict__" : Str)) = false := by
  have h := not1 h
  unfold dbgB at h
  exact Bool.or_eq_false_iff.mp h
theorem plB_star {e : Expr} {es : List Expr} {env : Env} (h : plB e = true) : starEach (e :: es) env = (false, eval e env) :: starEach es env := by
  cases e <;> first | rfl | cases h
theorem plB_all {pos : Pos} {env : Env} : ∀ {es : List Expr}, es.all plB = true → (backTo pos (starEach es env)).any (·.1) = false
  | [], _ => rfl
  | e :: es, h => by
    have h := and2 (show (plB e && es.all plB) = true from h)
    rw [plB_star h.1]
    show (false || (backTo pos (starEach es env)).any (·.1)) = false
    rw [plB_all h.2]
    rfl
theorem plB_few {pos : Pos} {env : Env} : ∀ {es : List Expr}, es.all plB = true → (backTo pos (starEach es env)).all (fun x => !x.1) = true
  | [], _ => rfl
  | e :: es, h => by
    have h := and2 (show (plB e && es.all plB) = true from h)
    rw [plB_star h.1]
    show (true && (backTo pos (starEach es env)).all (fun x => !x.1)) = true
    rw [plB_few h.2]
    rfl
theorem plB_ix {e : Expr} (h : plB e = true) : PlainIx e := by
  cases e <;> first | (intro _ _; rfl) | cases h
theorem bare_of {e : Expr} {nm : Str} {env : Env} (h : bareB e = true) : attributeBase e nm env (eval e env) = eval e env := by
  cases e <;> first | rfl | cases h
theorem folded_of {e : Expr} {env : Env} (h : noSet e = true) : ∀ x, foldedSetIterable e env x = pure x := by
  cases e <;> first | (intro _; rfl) | cases h
theorem name_of {N : List Str} {ok : Str → Bool} {i : Nat} {e : Expr} (h : nameAt N ok i e = true) : ∃ x p, e = .Name x p ∧ N[i]? = some x ∧ ok x = true ∧ (x == ("__debug__" : Str)) = false ∧ (x == ("__classdict__" : Str)) = false := by
  unfold nameAt at h
  split at h
  · rename_i x p
    obtain ⟨h, h3⟩ := and2 h
    obtain ⟨h1, h2⟩ := and2 h
    exact ⟨x, p, rfl, of_decide_eq_true h1, h2, dbg_of h3⟩
  · cases h
theorem biCall_of {T : Tb} {sc : Scope} {nm : Str} {ok : List Expr → Bool} {e : Expr} (h : biCall T sc nm ok e = true) :
    ∃ p es pos, e = .Call (.Name nm p) es [] pos ∧ nm ∈ T.bts ∧ glB sc nm = true ∧ (nm == ("__debug__" : Str)) = false ∧ ok es = true := by
  unfold biCall at h
  split at h
  · rename_i x p es ks pos
    obtain ⟨h, h6⟩ := and2 h
    obtain ⟨h, h5⟩ := and2 h
    obtain ⟨h, h4⟩ := and2 h
    obtain ⟨h, h3⟩ := and2 h
    obtain ⟨h1, h2⟩ := and2 h
    have e1 : x = nm := of_decide_eq_true h1
    subst e1
    have e5 : ks = [] := by cases ks with | nil => rfl | cons => cases h5
    subst e5
    exact ⟨p, es, pos, rfl, of_decide_eq_true h2, h3, (dbg_of h4).1, h6⟩
  · cases h
theorem one_of {p : Expr → Bool} {es : List Expr} (h : one p es = true) : ∃ e, es = [e] ∧ plB e = true ∧ p e = true := by
  unfold one at h
  split at h
  · exact ⟨_, rfl, and2 h⟩
  · cases h
theorem two_of {p q : Expr → Bool} {es : List Expr} (h : two p q es = true) : ∃ e d, es = [e, d] ∧ plB e = true ∧ plB d = true ∧ p e = true ∧ q d = true := by
  unfold two at h
  split at h
  · obtain ⟨h, h4⟩ := and2 h
    obtain ⟨h, h3⟩ := and2 h
    obtain ⟨h1, h2⟩ := and2 h
    exact ⟨_, _, rfl, h1, h2, h3, h4⟩
  · cases h
theorem three_of {p q r : Expr → Bool} {es : List Expr} (h : three p q r es = true) : ∃ e d f, es = [e, d, f] ∧ plB e = true ∧ plB d = true ∧ plB f = true ∧ p e = true ∧ q d = true ∧ r f = true := by
  unfold three at h
  split at h
  · obtain ⟨h, h6⟩ := and2 h
    obtain ⟨h, h5⟩ := and2 h
    obtain ⟨h, h4⟩ := and2 h
    obtain ⟨h, h3⟩ := and2 h
    obtain ⟨h1, h2⟩ := and2 h
    exact ⟨_, _, _, rfl, h1, h2, h3, h4, h5, h6⟩
  · cases h
/-! ### readings -/
section
variable {c : Cn} {W : WX} {σ : Sl} {H : Hp} {Q : VK}
/-- two values in a row -/
theorem two_rel {a b : M.Ex} {ρ : M.Env} {S : M.Sto} {Xd : M.XK} {f : M.D → M.D → M.Sto → Prop} {R : V → V → Hp → Prop} (hl : ρ.length = σ.length) (re : RelE c.K H ρ σ) (r : RelS c.K H S)
    (w : M.wpE c.G a ρ S (fun x S1 => M.wpE c.G b ρ S1 (fun y S2 => f x y S2) Xd) Xd) (hx : OkX c S H Xd fun cls d H' => W cls d σ H')
    (k : ∀ x y S2 v u H2, Fr S H S2 H2 → RelS c.K H2 S2 → RelD c.K H2 x v → RelD c.K H2 y u → f x y S2 → R v u H2) : tE c W a σ H fun v H1 => tE c W b σ H1 fun u H2 => R v u H2 :=
  ⟨ρ, S, _, Xd, hl, re, r, w, fun x S1 v H1 f1 r1 rx q1 => ⟨ρ, S1, _, Xd, hl, re.mono r f1, r1, q1, fun y S2 u H2 f2 r2 ry q2 => k x y S2 v u H2 (f1.trans f2) r2 (rx.mono r1 f2) ry q2, hx.after f1⟩, hx⟩
theorem three_rel {a b d : M.Ex} {ρ : M.Env} {S : M.Sto} {Xd : M.XK} {f : M.D → M.D → M.D → M.Sto → Prop} {R : V → V → V → Hp → Prop} (hl : ρ.length = σ.length) (re : RelE c.K H ρ σ) (r : RelS c.K H S)
    (w : M.wpE c.G a ρ S (fun x S1 => M.wpE c.G b ρ S1 (fun y S2 => M.wpE c.G d ρ S2 (fun z S3 => f x y z S3) Xd) Xd) Xd) (hx : OkX c S H Xd fun cls d H' => W cls d σ H')
    (k : ∀ x y z S2 v u t H2, Fr S H S2 H2 → RelS c.K H2 S2 → RelD c.K H2 x v → RelD c.K H2 y u → RelD c.K H2 z t → f x y z S2 → R v u t H2) : tE c W a σ H fun v H1 => tE c W b σ H1 fun u H2 => tE c W d σ H2 fun t H3 => R v u t H3 :=
  ⟨ρ, S, _, Xd, hl, re, r, w, fun x S1 v H1 f1 r1 rx q1 => ⟨ρ, S1, _, Xd, hl, re.mono r f1, r1, q1, fun y S2 u H2 f2 r2 ry q2 => ⟨ρ, S2, _, Xd, hl, re.mono r (f1.trans f2), r2, q2, fun z S3 t H3 f3 r3 rz q3 => k x y z S3 v u t H3 ((f1.trans f2).trans f3) r3 (rx.mono r1 (f2.trans f3)) (ry.mono r2 f3) rz q3, (hx.after f1).after f2⟩, hx.after f1⟩, hx⟩
theorem one_rel {a : M.Ex} {ρ : M.Env} {S : M.Sto} {Xd : M.XK} {f : M.D → M.Sto → Prop} {R : V → Hp → Prop} (hl : ρ.length = σ.length) (re : RelE c.K H ρ σ) (r : RelS c.K H S)
    (w : M.wpE c.G a ρ S f Xd) (hx : OkX c S H Xd fun cls d H' => W cls d σ H')
    (k : ∀ x S2 v H2, Fr S H S2 H2 → RelS c.K H2 S2 → RelD c.K H2 x v → f x S2 → R v H2) : tE c W a σ H R :=
  ⟨ρ, S, _, Xd, hl, re, r, w, fun x S1 v H1 f1 r1 rx q1 => k x S1 v H1 f1 r1 rx q1, hx⟩
theorem ones_rel {a : M.Es} {ρ : M.Env} {S : M.Sto} {Xd : M.XK} {f : List M.D → M.Sto → Prop} {R : List V → Hp → Prop} (hl : ρ.length = σ.length) (re : RelE c.K H ρ σ) (r : RelS c.K H S)
    (w : M.wpEs c.G a ρ S f Xd) (hx : OkX c S H Xd fun cls d H' => W cls d σ H')
    (k : ∀ x S2 v H2, Fr S H S2 H2 → RelS c.K H2 S2 → RelDs c.K H2 x v → f x S2 → R v H2) : tEs c W a σ H R :=
  ⟨ρ, S, _, Xd, hl, re, r, w, fun x S1 v H1 f1 r1 rx q1 => k x S1 v H1 f1 r1 rx q1, hx⟩
end
/-- a value's reading as a test -/
abbrev tB1 (t : TE) : TT := tB t
/-- the reading of what stands behind and, or -/
def tR (c : Cn) (W : WX) (f : M.Gm → M.Es → M.Env → M.Sto → M.VK → M.XK → Prop) (es : M.Es) : TE := fun σ H Q => ∃ ρ S Qd Xd, ρ.length = σ.length ∧ RelE c.K H ρ σ ∧ RelS c.K H S ∧ f c.G es ρ S Qd Xd ∧ OkV c.K S H Qd Q ∧ OkX c S H Xd fun cls d H' => W cls d σ H'
def tO (c : Cn) (W : WX) (o : M.Oe) : TO := fun σ H Q => ∃ ρ S Qd Xd, ρ.length = σ.length ∧ RelE c.K H ρ σ ∧ RelS c.K H S ∧ M.wpO c.G o ρ S Qd Xd ∧ (∀ i S' H', Fr S H S' H' → RelS c.K H' S' → Qd i S' → Q i H') ∧ OkX c S H Xd fun cls d H' => W cls d σ H'
/-- a clause's test in a block: nothing may leave it -/
def tCn (c : Cn) (o : M.Oe) : TT := fun σ H Q => ∃ ρ S Qd, ρ.length = σ.length ∧ RelE c.K H ρ σ ∧ RelS c.K H S ∧ M.wpC c.G o ρ S Qd ∧ ∀ b S' H', Fr S H S' H' → RelS c.K H' S' → Qd b S' → Q b H'
def W0 : WX := fun _ _ _ _ => False
theorem okX0 {c : Cn} {S : M.Sto} {H : Hp} {W : Value → Option Addr → Hp → Prop} : OkX c S H M.X0 W := fun _ _ _ _ _ _ _ _ _ q => False.elim q
/-! ### the callee runs -/
theorem run_fnG {X : Cx} {hot : Bool} {k : Nat} {f : Addr} {fd : FuncData} {ps : List Str} {sp : L2.Sp} {E : Sl → XK} {pins : List (Addr × Obj)} {σ : Sl} {H : Hp} {s : Shared} {Q : VK} {args : Args} {us : List Value} {vs : List V} (F : FnG X.prog X.w X.K X.mg X.base hot k f fd ps sp) (hr : RoomB hot k X.A) (hg : X.A.guards = some [])
    (hb : BindsTo s fd args (ps.zip us)) (hx : PassesAt (L2.CX X.prog X.w) X σ (E σ)) (I : Inv X pins σ H s) (r : Vals vs us) (h : sp vs H Q (E σ)) : wpAny (model X.prog X.w) X.A (call (.ref f) args.pos args.kw) (EP X pins σ Q) X.xe s := by
  refine wpAny_call (codeAny_mono (F.run X.A X.stack s H args us vs Q (E σ) hr hg I.env0 hb r h) fun r s' hq => ?_)
  cases r with
  | error e => exact hx pins H s e s' I hq
  | ok fl =>
    cases fl with
    | ret u => exact I.after hq
    | next => exact False.elim hq
    | brk => exact False.elim hq
    | cont => exact False.elim hq
end Snd
namespace Snd
open PySem PySem.Spec PyProof.Rows L2
/-! ### targets -/
def gNames : List Nat → TGs
  | [] => gNil
  | i :: is => gCons (gName i) (gNames is)
def tgG (K : Frag) : M.Tg → TG
  | .v i => gName i
  | .tup is => fun v σ H Q => gTup K is.length (gNames is) v σ H Q ∨ gUnl K is.length (gNames is) v σ H Q
  | .nest is js => gTup K (js.length + 1) (gCons (gTup K is.length (gNames is)) (gNames js))
section
variable {X : Cx}
theorem pgsOk {ok : Str → Bool} (hN : X.N.Nodup) (hok : ∀ x, ok x = true → Loc X.env.scope x ∧ (X.fn x = true ∨ X.env.scope.names.lookup x = some .local)) : ∀ {is : List Nat} {es : List Expr}, namesAt X.N ok is es = true →
    PGs X es (gNames is) ∧ (assignEach es X.env).length = is.length ∧ (assignEach es X.env).findIdx? (·.1) = none
  | [], [], _ => ⟨pgs_nil, rfl, rfl⟩
  | [], _ :: _, h => nomatch h
  | _ :: _, [], h => nomatch h
  | i :: is, e :: es, h => by
    obtain ⟨h1, h2⟩ := and2 (show (nameAt X.N ok i e && namesAt X.N ok is es) = true from h)
    obtain ⟨x, p, rfl, a1, a2, _⟩ := name_of h1
    obtain ⟨b1, b2, b3⟩ := pgsOk hN hok h2
    obtain ⟨l1, l2⟩ := hok x a2
    refine ⟨pgs_cons (pg_name hN a1 l1 l2) b1, ?_, ?_⟩
    · show (assignEach es X.env).length + 1 = is.length + 1
      rw [b2]
    · show List.findIdx? (·.1) ((false, _) :: assignEach es X.env) = none
      rw [List.findIdx?_cons, b3]
      rfl
theorem pgOk {ok : Str → Bool} {t : M.Tg} (hc : (∀ i, t ≠ .v i) → X.calm = true) (hN : X.N.Nodup) (hok : ∀ x, ok x = true → Loc X.env.scope x ∧ (X.fn x = true ∨ X.env.scope.names.lookup x = some .local)) {e : Expr} (h : chkTg X.N ok t e = true) : PG X e (tgG X.K t) := by
  cases t with
  | v i =>
    obtain ⟨x, p, rfl, a1, a2, _⟩ := name_of (show nameAt X.N ok i e = true from h)
    obtain ⟨l1, l2⟩ := hok x a2
    exact pg_name hN a1 l1 l2
  | tup is =>
    have hc := hc (fun i => nofun)
    unfold chkTg at h
    split at h
    · rename_i heq
      cases heq
    · rename_i heq
      cases heq
      obtain ⟨b1, b2, b3⟩ := pgsOk hN hok h
      exact ⟨fun pins s σ H v u Q I r h => h.elim (fun h => (pg_tup hc b1 b2 b3).run pins s σ H v u Q I r h) fun h => (pg_unl hc b1 b2 b3).run pins s σ H v u Q I r h⟩
    · rename_i heq
      cases heq
    · cases h
  | nest is js =>
    have hc := hc (fun i => nofun)
    unfold chkTg at h
    split at h
    · rename_i heq
      cases heq
    · rename_i heq
      cases heq
    · rename_i heq
      cases heq
      obtain ⟨g1, g2⟩ := and2 h
      obtain ⟨b1, b2, b3⟩ := pgsOk hN hok g1
      obtain ⟨c1, c2, c3⟩ := pgsOk hN hok g2
      refine pg_tup hc (pgs_cons (pg_tup hc b1 b2 b3) c1) ?_ ?_
      · show (assignEach _ X.env).length + 1 = js.length + 1
        rw [c2]
      · show List.findIdx? (·.1) ((false, _) :: assignEach _ X.env) = none
        rw [List.findIdx?_cons, c3]
        rfl
    · cases h
end
theorem setAll_rel {K : Frag} {H : Hp} : ∀ {is : List Nat} {ds : List M.D} {vs : List V} {ρ : M.Env} {σ : Sl} {R : Sl → Hp → Prop}, ds.length = is.length → RelDs K H ds vs → ρ.length = σ.length → RelE K H ρ σ →
    (∀ σ', σ'.length = σ.length → RelE K H (M.setAll is ds ρ) σ' → (∀ i, i ∉ is → σ'[i]? = σ[i]?) → R σ' H) → gNames is vs σ H R
  | [], [], _, ρ, σ, R, _, .nil, hl, re, k => ⟨rfl, k σ rfl re fun _ _ => rfl⟩
  | [], _ :: _, _, _, _, _, h, _, _, _, _ => nomatch h
  | _ :: _, [], _, _, _, _, h, _, _, _, _ => nomatch h
  | i :: is, d :: ds, _, ρ, σ, R, h, .cons (v := v) a b, hl, re, k => by
    refine ⟨v, _, rfl, ?_⟩
    refine setAll_rel (ρ := ρ.set i (some d)) (Nat.succ.inj h) b (by rw [List.length_set, List.length_set, hl]) (re.set hl a i) fun σ' l r q => k σ' (by rw [l, List.length_set]) r fun j hj => ?_
    rw [q j fun z => hj (List.mem_cons_of_mem _ z), List.getElem?_set_ne (fun z => hj (by rw [z]; exact List.mem_cons_self))]
theorem asg_rel {K : Frag} {H : Hp} {S : M.Sto} (rS : RelS K H S) {t : M.Tg} {d : M.D} {v : V} {ρ : M.Env} {σ : Sl} {Qe : M.Env → Prop} {R : Sl → Hp → Prop} (hl : ρ.length = σ.length) (re : RelE K H ρ σ) (rd : RelD K H d v) (w : M.asg t d S ρ Qe)
    (k : ∀ ρ' σ', ρ'.length = σ'.length → σ'.length = σ.length → RelE K H ρ' σ' → (∀ i, i ∉ M.tgs t → σ'[i]? = σ[i]?) → Qe ρ' → R σ' H) : tgG K t v σ H R := by
  cases t with
  | v i =>
    refine k _ _ (by rw [List.length_set, List.length_set, hl]) (by rw [List.length_set]) (re.set hl rd i) (fun j hj => ?_) w
    rw [List.getElem?_set_ne fun z => hj (by rw [z]; exact List.mem_cons_self)]
  | tup is =>
    have hs : ∀ (is : List Nat) (ds : List M.D) (ρ : M.Env), (M.setAll is ds ρ).length = ρ.length := by
      intro is
      induction is with
      | nil => intro ds ρ; cases ds <;> rfl
      | cons i is ih => intro ds ρ; cases ds with
        | nil => rfl
        | cons d ds => show (M.setAll is ds (ρ.set i (some d))).length = _; rw [ih, List.length_set]
    have list : ∀ xs, M.lsOf S d = some xs → xs.length = is.length ∧ Qe (M.setAll is xs ρ) → gUnl K is.length (gNames is) v σ H R := by
      rintro xs e ⟨w1, w2⟩
      obtain ⟨a, vs, rfl, h1, h2⟩ := lsOf_rel rS rd e
      exact ⟨a, vs, rfl, h1, by rw [← h2.length]; exact w1, setAll_rel w1 h2 hl re fun σ' l r q => k _ σ' (by rw [hs, l, hl]) l r q w2⟩
    cases rd with
    | tup h1 h2 =>
      obtain ⟨w1, w2⟩ := w
      exact .inl ⟨_, _, rfl, h1, by rw [← h2.length]; exact w1, setAll_rel w1 h2 hl re fun σ' l r q => k _ σ' (by rw [hs, l, hl]) l r q w2⟩
    | fl h1 h2 => exact .inr (list _ rfl w)
    | ref a =>
      obtain ⟨xs, e, w⟩ := opt_of (show M.opt (M.lsOf S (.ref a)) (fun xs => xs.length = is.length ∧ Qe (M.setAll is xs ρ)) from w)
      exact .inr (list _ e w)
    | _ => exact False.elim w
  | nest is js =>
    have hs : ∀ (is : List Nat) (ds : List M.D) (ρ : M.Env), (M.setAll is ds ρ).length = ρ.length := by
      intro is
      induction is with
      | nil => intro ds ρ; cases ds <;> rfl
      | cons i is ih => intro ds ρ; cases ds with
        | nil => rfl
        | cons d ds => show (M.setAll is ds (ρ.set i (some d))).length = _; rw [ih, List.length_set]
    cases rd with
    | @tup a ds vs h1 h2 =>
      cases h2 with
      | nil => exact False.elim w
      | @cons d v ds vs r1 r2 =>
        cases r1 with
        | @tup b xs us h3 h4 =>
          obtain ⟨w1, w2, w3⟩ := w
          refine ⟨_, _, rfl, h1, by rw [List.length_cons, ← r2.length, w2], ?_⟩
          refine ⟨_, _, rfl, b, us, rfl, h3, by rw [← h4.length]; exact w1, ?_⟩
          refine setAll_rel w1 h4 hl re fun σ' l r q => ?_
          refine setAll_rel w2 r2 (by rw [hs, l, hl]) r fun σ2 l2 r2 q2 => ?_
          exact k _ σ2 (by rw [hs, hs, l2, l, hl]) (by rw [l2, l]) r2 (fun i hi => by
            rw [q2 i fun z => hi (List.mem_append_right _ z), q i fun z => hi (List.mem_append_left _ z)]) w3
        | _ => exact False.elim w
    | _ => exact False.elim w
/-! ### comprehensions -/
theorem wipe_same {σ σ' : Sl} {vs : List Nat} (hl : σ'.length = σ.length) (h : ∀ i, i ∉ vs → σ'[i]? = σ[i]?) : L2.wipe σ' vs = L2.wipe σ vs := by
  refine List.ext_getElem? fun i => ?_
  by_cases hi : i ∈ vs
  · have hlen : (L2.wipe σ' vs).length = (L2.wipe σ vs).length := by rw [wipe_length, wipe_length, hl]
    cases e1 : (L2.wipe σ' vs)[i]? with
    | none =>
      rw [List.getElem?_eq_none_iff] at e1
      exact (List.getElem?_eq_none_iff.mpr (by omega)).symm
    | some o1 =>
      have hlt := get_lt e1
      cases e2 : (L2.wipe σ vs)[i]? with
      | none => rw [List.getElem?_eq_none_iff] at e2; omega
      | some o2 =>
        cases o1 with
        | some x => exact absurd hi (wipe_some e1).2
        | none => cases o2 with
          | some x => exact absurd hi (wipe_some e2).2
          | none => rfl
  · rw [wipe_out hi, wipe_out hi, h i hi]
/-- a list that is tracked may stand in the store -/
theorem RelS.put {K : Frag} {H : Hp} {S : M.Sto} (r : RelS K H S) {D : Addr} {acc : List V} {ds : List M.D} (h : H D = some (.lst acc)) (hd : RelDs K H ds acc) : RelS K H (M.upd S D (.lst ds)) := fun a o e => by
  by_cases ha : a = D
  · subst ha
    rw [mupd_same] at e
    cases e
    exact ⟨acc, h, hd⟩
  · rw [mupd_ne ha] at e
    exact r a o e
theorem comp_rel {c : Cn} {J : It} {items : List M.D} {chk : M.Sto → Prop} {S1 : M.Sto} {H1 : Hp} {ρ : M.Env} {σ : Sl} {t : M.Tg} {e : M.Ex} {oc : M.Oe} {Qd : M.VK} {Q : VK} (hl : ρ.length = σ.length) (re : RelE c.K H1 ρ σ) (r1 : RelS c.K H1 S1)
    (m : Mat c.K S1 H1 J items chk) (hz : items.length ≤ M.lim) (hq : OkV c.K S1 H1 Qd Q)
    (w : M.compW chk (fun d S2 k => M.asg t d S2 (M.wipe ρ (M.tgs t)) fun ρ2 => M.wpC c.G oc ρ2 S2 (fun b S3 => M.br b (M.wpE c.G e ρ2 S3 (fun x S4 => k (some x) S4) M.X0) (k none S3))) Qd items [] S1) :
    ∀ D, H1 D = none → ∃ Wi : Nat → Nat → Hp → Prop, (∃ m, Wi 0 m (L2.upd H1 D (.lst []))) ∧ ∀ i m H, Wi i m H →
      (J.stop i H ∧ Q (.ref D) H) ∨ (J.go i H ∧ ∃ Nx : Hp → Prop, (∀ H', Nx H' → ∃ m', m' < m ∧ Wi (i + 1) m' H') ∧ ∀ x H', J.yld i H x H' → tgG c.K t x (L2.wipe σ (M.tgs t)) H' fun σ2 H2 => L2.wipe σ2 (M.tgs t) = L2.wipe σ (M.tgs t) ∧ tCn c oc σ2 H2 fun b H3 =>
        if b = true then tE c W0 e σ2 H3 fun y H4 => ∃ acc, H4 D = some (.lst acc) ∧ acc.length < sizeLine ∧ Nx (L2.upd H4 D (.lst (acc ++ [y]))) else Nx H3) := by
  intro D hD
  have hL : M.lim = sizeLine := lim_eq
  generalize hst : (fun (d : M.D) (S2 : M.Sto) (k : Option M.D → M.Sto → Prop) => M.asg t d S2 (M.wipe ρ (M.tgs t)) fun ρ2 => M.wpC c.G oc ρ2 S2 (fun b S3 => M.br b (M.wpE c.G e ρ2 S3 (fun x S4 => k (some x) S4) M.X0) (k none S3))) = step at w
  let Wi : Nat → Nat → Hp → Prop := fun i m H => m = items.length - i ∧ i ≤ items.length ∧ ∃ S ds acc, Fr S1 H1 S H ∧ RelS c.K H S ∧ S D = none ∧ H D = some (.lst acc) ∧ RelDs c.K H ds acc ∧ acc.length ≤ i ∧ M.compW chk step Qd (items.drop i) ds S
  have hS1D : S1 D = none := r1.none hD
  refine ⟨Wi, ⟨_, rfl, Nat.zero_le _, S1, [], [], Fr.laid hD, r1.laid hD, hS1D, upd_same, .nil, Nat.le_refl _, by simpa using w⟩, ?_⟩
  rintro i m' H ⟨rfl, hi, S, ds, acc, f, r, hSD, hHD, rds, hacc, w⟩
  have putFr : ∀ {S' : M.Sto} {H' : Hp} {ds' : List M.D}, Fr S1 H1 S' H' → Fr S1 H1 (M.upd S' D (.lst ds')) H' := fun {S' H' ds'} f' a o h n => by
    obtain ⟨h1, h2⟩ := f' a o h n
    refine ⟨h1, ?_⟩
    have : a ≠ D := fun z => by rw [z, hD] at h; cases h
    rw [mupd_ne this]; exact h2
  by_cases hlt : i < items.length
  · obtain ⟨d, hd⟩ : ∃ d, items[i]? = some d := ⟨items[i], by simp [hlt]⟩
    have ed : items.drop i = d :: items.drop (i + 1) := by
      rw [List.drop_eq_getElem_cons hlt]
      have : items[i] = d := by simpa [hlt] using hd
      rw [this]
    rw [ed] at w
    obtain ⟨hch, w⟩ := (show chk S ∧ step d S (fun r S' => M.compW chk step Qd (items.drop (i + 1)) (ds ++ r.toList) S') from w)
    obtain ⟨hgo, hy⟩ := (m i S H f r hch).1 d hd
    refine .inr ⟨hgo, Wi (i + 1) (items.length - (i + 1)), fun H' q => ⟨items.length - (i + 1), by omega, q⟩, fun x H' y => ?_⟩
    obtain ⟨f2, r2, rx⟩ := hy x H' y
    subst hst
    have f' := f.trans f2
    refine asg_rel r2 (by rw [wipe_len, wipe_length, hl]) ((re.mono r1 f').wipe (M.tgs t)) rx w fun ρ' σ' l1 l2 re' same w => ⟨?_, ?_⟩
    · have h1 : ∀ j, j ∉ M.tgs t → σ'[j]? = σ[j]? := fun j hj => by rw [same j hj, wipe_out hj]
      exact wipe_same (by rw [l2, wipe_length]) h1
    · refine ⟨ρ', S, _, l1, re', r2, w, fun b S3 H3 f3 r3 q => ?_⟩
      have f3' := f'.trans f3
      have hD3 : H3 D = some (.lst acc) ∧ S3 D = none := by
        obtain ⟨a1, a2⟩ := f2 D _ hHD hSD
        exact f3 D _ a1 a2
      have rds3 : RelDs c.K H3 ds acc := (rds.mono r f2).mono r2 f3
      obtain ⟨q1, q2⟩ := q
      cases b with
      | false =>
        show if false = true then _ else _
        rw [if_neg Bool.false_ne_true]
        exact ⟨rfl, hlt, S3, ds, acc, f3', r3, hD3.2, hD3.1, rds3, by omega, by simpa using q2 rfl⟩
      | true =>
        show if true = true then _ else _
        rw [if_pos rfl]
        refine ⟨ρ', S3, _, M.X0, l1, re'.mono r2 f3, r3, q1 rfl, fun dv S4 v H4 f4 r4 rv q => ?_, okX0⟩
        have f4' := f3'.trans f4
        obtain ⟨e4, n4⟩ := f4 D _ hD3.1 hD3.2
        have rds4 := rds3.mono r3 f4
        refine ⟨acc, e4, by omega, rfl, hlt, S4, ds ++ [dv], acc ++ [v], ?_, ?_, n4, upd_same, ?_, by rw [List.length_append]; simp only [List.length_cons, List.length_nil]; omega, by simpa using q⟩
        · intro a o h n
          obtain ⟨h1, h2⟩ := f4' a o h n
          have : a ≠ D := fun z => by rw [z, hD] at h; cases h
          exact ⟨by rw [upd_ne this]; exact h1, h2⟩
        · have rp := r4.put e4 rds4
          have fw : Fr (M.upd S4 D (.lst ds)) H4 (M.upd (M.upd S4 D (.lst ds)) D (.lst (ds ++ [dv]))) (L2.upd H4 D (.lst (acc ++ [v]))) := Fr.wr mupd_same
          intro a o h
          have : a ≠ D := fun z => by rw [z, n4] at h; cases h
          exact (rp.wr mupd_same (rds4.append (.cons rv .nil))) a o (by rw [mupd_ne this, mupd_ne this]; exact h)
        · have rp := r4.put e4 rds4
          have fw : Fr (M.upd S4 D (.lst ds)) H4 (M.upd (M.upd S4 D (.lst ds)) D (.lst (ds ++ [dv]))) (L2.upd H4 D (.lst (acc ++ [v]))) := Fr.wr mupd_same
          exact (rds4.append (.cons rv .nil)).mono rp fw
  · have e : i = items.length := by omega
    subst e
    rw [List.drop_length] at w
    obtain ⟨hch, w⟩ := (show chk S ∧ ∀ p, S p = none → Qd (.ref p) (M.upd S p (.lst ds)) from w)
    exact .inl ⟨(m _ S H f r hch).2 rfl, hq _ _ _ _ (putFr f) (r.put hHD rds) (.ref D) (w D hSD)⟩
end Snd
namespace Snd
open PySem PySem.Spec PyProof.Rows L2
/-! ### pieces over a context -/
section
variable {c : Cn} {k : Nat} {N : List Str} {sc : Scope} {X : Cx} {W : WX}
theorem Ok.op (o : Ok c k N sc X W) {b : M.Bo} {p : Operator} (h : boOk b p = true) : OpR X (binaryOp p) (rB c.K b) := by rw [← o.eK]; exact ob_all h
theorem Ok.co (o : Ok c k N sc X W) {b : M.Co} {p : CmpOp} (h : coOk b p = true) : OpR X (compareOp p) (rCm c.K b) := by rw [← o.eK]; exact oc_all o.room.units h
theorem Ok.ix (o : Ok c k N sc X W) : IxR X (rIxM c.K) := by rw [← o.eK]; exact ix_all
theorem Ok.sl (o : Ok c k N sc X W) : SlR X (rSlM c.K) := by rw [← o.eK]; exact sl_allM
theorem Ok.rep (o : Ok c k N sc X W) : CallR X (.builtin "repr") (rRep c.K) := by rw [← o.eK]; exact bi_rep o.gd o.room.units (by rw [o.eK]; exact o.sys)
theorem Ok.free (o : Ok c k N sc X W) {x : Str} (h : x ∈ c.T.bts) : X.mg x = none := by rw [o.em]; exact o.bt x h
theorem Ok.gl (o : Ok c k N sc X W) {x : Str} (h : glB sc x = true) : Gl X x := gl_of o.es h
theorem Ok.var (o : Ok c k N sc X W) {x : Str} {i : Nat} (h : N[i]? = some x) : X.N[i]? = some x := by rw [o.eN]; exact h
theorem fin {ex : Expr} {t : TE} (h : PE X ex t) (he : ∀ whole, isTrue ex X.env whole = (do let v ← whole; standAt ex.pos; holding [v] (truthy v)) := by intro _; rfl) : PE X ex t ∧ PT X ex (tB t) := ⟨h, pt_val h he⟩
theorem Ok.calm' (o : Ok c k N sc X W) (h : (!c.T.hot) = true) : X.calm = true := o.calm (not1 h)
theorem Ok.blk (o : Ok c k N sc X W) (s : Shared) (H : Hp) (scope : Scope) (C : Addr) (cl : List (Str × Addr)) (fp : List Addr) : Ok c k N (relS scope sc) (X.blk s H scope (compEnvC scope cl C X.env) fp) W0 where
  eN := o.eN
  es := by rw [← o.es]; rfl
  eK := o.eK
  em := o.em
  nd := o.nd
  calm := o.calm
  room := o.room
  roomX := o.roomX
  gd := o.gd
  rp := o.rp
  bt := o.bt
  con := o.con
  fns := o.fns
  tk := fun u s' ⟨a, B, sI, pins, σ, H, cls, d, e, I, nb, up, sky, na, os, ag, w⟩ => False.elim w
  sys := o.sys
  er := o.er
  oc := o.oc
theorem pt_ite {c0 a b : Expr} {pos : Pos} {tA tB' tC' : TT} (hc : PT X c0 tA) (ha : PT X a tB') (hb : PT X b tC') : PT X (.IfExp c0 a b pos) (fun σ H Q => tA σ H fun k H1 => if k = true then tB' σ H1 Q else tC' σ H1 Q) := by
  refine ⟨fun pins s σ H Q I h => ?_⟩
  refine isTrue_IfExp (thn (hc.run pins s σ H _ I h) fun d s1 ⟨H1, I1, q1⟩ => ?_)
  cases d with
  | true => exact ha.run pins s1 σ H1 Q I1 q1
  | false => exact hb.run pins s1 σ H1 Q I1 q1
theorem bi_ty {b : M.Bi} : (b = .int ∨ b = .list ∨ b = .tuple ∨ b = .str) ∨ ¬(b = .int ∨ b = .list ∨ b = .tuple ∨ b = .str) := Classical.em _
/-- a built-in's call -/
theorem pe_biM (o : Ok c k N sc X W) (hh : (!c.T.hot) = true) {b : M.Bi} {e : Expr} {es : List Expr} {p pos : Pos} {t : TA} (hm : biN b ∈ c.T.bts) (hg : glB sc (biN b) = true) (ha : PA X (e :: es) t) (hp : (e :: es).all plB = true) :
    PE X (.Call (.Name (biN b) p) (e :: es) [] pos) (tCB (rBi c.K b) t) := by
  have hp' := and2 (show (plB e && es.all plB) = true from hp)
  have gl := o.gl hg
  have mn := o.free hm
  have st := plB_star (es := es) (env := X.env) hp'.1
  have an := plB_all (pos := pos) (env := X.env) hp'.2
  rw [← o.eK]
  cases b with
  | len => exact pe_callB bi_len gl mn (by decide +kernel) ha (by decide +kernel) (by decide +kernel) st an
  | abs => exact pe_callB bi_abs gl mn (by decide +kernel) ha (by decide +kernel) (by decide +kernel) st an
  | int => exact pe_callTy bi_int gl mn (by decide +kernel) ha (by decide +kernel) (by decide +kernel) st an
  | min => exact pe_callB (bi_min (o.calm' hh)) gl mn (by decide +kernel) ha (by decide +kernel) (by decide +kernel) st an
  | max => exact pe_callB (bi_max (o.calm' hh)) gl mn (by decide +kernel) ha (by decide +kernel) (by decide +kernel) st an
  | all => exact pe_callB (bi_all (o.calm' hh)) gl mn (by decide +kernel) ha (by decide +kernel) (by decide +kernel) st an
  | any => exact pe_callB (bi_any (o.calm' hh)) gl mn (by decide +kernel) ha (by decide +kernel) (by decide +kernel) st an
  | sum => exact pe_callB (bi_sum (o.calm' hh)) gl mn (by decide +kernel) ha (by decide +kernel) (by decide +kernel) st an
  | list => exact pe_callTy bi_list gl mn (by decide +kernel) ha (by decide +kernel) (by decide +kernel) st an
  | tuple => exact pe_callTy bi_tuple gl mn (by decide +kernel) ha (by decide +kernel) (by decide +kernel) st an
  | str => exact pe_callTy bi_str gl mn (by decide +kernel) ha (by decide +kernel) (by decide +kernel) st an
  | sorted => exact pe_callB bi_sorted gl mn (by decide +kernel) ha (by decide +kernel) (by decide +kernel) st an
  | minp => exact pe_callB (bi_minp (o.calm' hh) o.room.units) gl mn (by decide +kernel) ha (by decide +kernel) (by decide +kernel) st an
  | sortp => exact pe_callB bi_sortp gl mn (by decide +kernel) ha (by decide +kernel) (by decide +kernel) st an
theorem few_of {es : List Expr} {cpos : Pos} {env : Env} (h : es.all plB = true) (h2 : es.length < 29) : ((backTo cpos (starEach es env)).all (fun x => !x.1) && (backToKw cpos (keywordEach [] env)).all (fun x => x.1.isSome)
      && decide (es.length + ([] : List Keyword).length + (if ([] : List Keyword).isEmpty then 0 else 1) < 30)) = true := by
  rw [plB_few h]
  show (true && true && decide _) = true
  have : decide (es.length + ([] : List Keyword).length + (if ([] : List Keyword).isEmpty then 0 else 1) < 30) = true := by
    refine decide_eq_true ?_
    show es.length + 0 + 0 < 30
    omega
  rw [this]
  rfl
theorem pe_mt0 (o : Ok c k N sc X W) {m : M.Mt} {a : Expr} {apos cpos : Pos} {ta : TE} (hm : mtOk m = true) (hl : (apos.endLine == cpos.line) = true) (hb : bareB a = true) (ho : PE X a ta) :
    PE X (.Call (.Attribute a (mtN m) apos) [] [] cpos) (tBM0 c.K "list" (rMt c.K m) ta) := by
  rw [← o.eK]
  cases m with
  | append => exact pe_bm0 PySem.F.plainAttrs_list PySem.F.slot_list_append PySem.F.type_list_append mt_appendM ho (bare_of hb) hl
  | extend => exact pe_bm0 PySem.F.plainAttrs_list PySem.F.slot_list_extend PySem.F.type_list_extend mt_extendM ho (bare_of hb) hl
  | pop => exact pe_bm0 PySem.F.plainAttrs_list PySem.F.slot_list_pop PySem.F.type_list_pop mt_popM ho (bare_of hb) hl
  | count => exact pe_bm0 PySem.F.plainAttrs_list PySem.F.slot_list_count PySem.F.type_list_count mt_countM ho (bare_of hb) hl
  | index => exact pe_bm0 PySem.F.plainAttrs_list PySem.F.slot_list_index PySem.F.type_list_index mt_indexM ho (bare_of hb) hl
theorem pe_mtM (o : Ok c k N sc X W) {m : M.Mt} {a e : Expr} {es : List Expr} {apos cpos : Pos} {ta : TE} {t : TA} (hm : mtOk m = true) (hl : (apos.endLine == cpos.line) = true) (hb : bareB a = true) (ho : PE X a ta) (ha : PA X (e :: es) t) (hp : (e :: es).all plB = true) (hn : (e :: es).length < 29) :
    PE X (.Call (.Attribute a (mtN m) apos) (e :: es) [] cpos) (tBM c.K "list" (rMt c.K m) ta t) := by
  rw [← o.eK]
  have hp' := and2 (show (plB e && es.all plB) = true from hp)
  have st := plB_star (es := es) (env := X.env) hp'.1
  have an := plB_all (pos := cpos) (env := X.env) hp'.2
  have fw := few_of (cpos := cpos) (env := X.env) hp hn
  cases m with
  | append => exact pe_bm PySem.F.plainAttrs_list PySem.F.slot_list_append PySem.F.type_list_append mt_appendM ho ha (bare_of hb) fw hl st an
  | extend => exact pe_bm PySem.F.plainAttrs_list PySem.F.slot_list_extend PySem.F.type_list_extend mt_extendM ho ha (bare_of hb) fw hl st an
  | pop => exact pe_bm PySem.F.plainAttrs_list PySem.F.slot_list_pop PySem.F.type_list_pop mt_popM ho ha (bare_of hb) fw hl st an
  | count => exact pe_bm PySem.F.plainAttrs_list PySem.F.slot_list_count PySem.F.type_list_count mt_countM ho ha (bare_of hb) fw hl st an
  | index => exact pe_bm PySem.F.plainAttrs_list PySem.F.slot_list_index PySem.F.type_list_index mt_indexM ho ha (bare_of hb) fw hl st an
/-! ### calls of the text's defs -/
theorem pass_ok (o : Ok c k N sc X W) (σ : Sl) : PassesAt (L2.CX X.prog X.w) X σ (WE W σ) := passAt o.tk σ
theorem pe_callM (o : Ok c k N sc X W) {n : Nat} {x : Str} {es : List Expr} {p pos : Pos} {t : TA} (hx : c.T.fns[n]? = some x) (hat : (c.T.ats.lookup n).isNone = true) (hh : (c.T.hots.contains n == c.T.hot) = true) (hg : glB sc x = true) (hd : (x == ("__debug__" : Str)) = false) (ha : PA X es t) (hp : es.all plB = true) (h0 : es = [] → ∀ σ H Q, t σ H Q → Q [] H) :
    PE X (.Call (.Name x p) es [] pos) (fun σ H Q => t σ H fun vs H1 => lift c (M.cl (c.G.fn n)) vs H1 Q (WE W σ)) := by
  obtain ⟨f, fd, ps, D, F⟩ := o.fns n x hx
  rw [eq_of_beq hh] at F
  rw [← o.eK, ← o.em] at D F
  have go : ∀ {pins : List (Addr × Obj)} {s : Shared} {σ : Sl} {H : Hp} {Q : VK} {us : List Value} {vs : List V}, Inv X pins σ H s → Vals vs us → lift c (M.cl (c.G.fn n)) vs H Q (WE W σ) → wpAny (model X.prog X.w) X.A (call (.ref f) us) (EP X pins σ Q) X.xe s := by
    intro pins s σ H Q us vs I r q
    have hl : us.length = ps.length := by rw [← r.length]; exact F.len _ _ _ _ q
    have b := D.bd s us I.kIn (by rw [List.append_nil]; exact hl)
    rw [List.append_nil] at b
    exact run_fnG (args := ⟨us, []⟩) (E := WE W) F o.room o.gd b (pass_ok o σ) I r q
  refine ⟨fun pins s σ H Q I h => ?_⟩
  refine wpAny_Call_Name_kw (ld_glob I (o.gl hg) (D.mg (Option.isNone_iff_eq_none.mp hat)) ?_ hd)
  cases es with
  | nil =>
    refine PySem.W.callWith_K0 I.kIn D.kp ?_
    exact go I .nil (h0 rfl _ _ _ h)
  | cons e es =>
    have hp' := and2 (show (plB e && es.all plB) = true from hp)
    exact PySem.W.callWith_K (h₀ := X.base) I.ok.mod.kin D.kp (thn (ha.run pos pins s σ H _ I h) fun us s1 ⟨vs, H1, I1, r, q⟩ => ⟨I1.kIn, go I1 r q⟩) (plB_star hp'.1) (plB_all hp'.2)
/-- f(e, .., k = v, ..) -/
theorem kws_len : ∀ {kws : List Keyword} {nms : List Str}, kwsB kws = some nms → ∀ (pos : Pos) (env : Env), (backToKw pos (keywordEach kws env)).all (·.1.isSome) = true ∧ (backToKw pos (keywordEach kws env)).filterMap (·.1) = nms ∧ (backToKw pos (keywordEach kws env)).any (·.1.isNone) = false ∧ nms.length = kws.length
  | [], nms, h, _, _ => by
    cases h
    exact ⟨rfl, rfl, rfl, rfl⟩
  | ⟨none, _, _⟩ :: _, _, h, _, _ => nomatch h
  | ⟨some x, v, p⟩ :: r, nms, h, pos, env => by
    obtain ⟨l, e, rfl⟩ := Option.map_eq_some_iff.mp (show (kwsB r).map (x :: ·) = some nms from h)
    obtain ⟨a1, a2, a3, a4⟩ := kws_len e pos env
    refine ⟨?_, ?_, ?_, ?_⟩
    · show (true && (backToKw pos (keywordEach r env)).all (·.1.isSome)) = true
      rw [a1]; rfl
    · show x :: (backToKw pos (keywordEach r env)).filterMap (·.1) = x :: l
      rw [a2]
    · show (false || (backToKw pos (keywordEach r env)).any (·.1.isNone)) = false
      rw [a3]; rfl
    · rw [List.length_cons, List.length_cons, a4]
theorem vals_fm {us : List Value} {vs : List V} (r : Vals vs us) : ∀ perm : List Nat, Vals (perm.filterMap fun i => vs[i]?) (perm.filterMap fun i => us[i]?)
  | [] => .nil
  | i :: perm => by
    cases e : vs[i]? with
    | none =>
      rw [List.filterMap_cons_none e, List.filterMap_cons_none (r.none_of e)]
      exact vals_fm r perm
    | some v =>
      obtain ⟨u, e2, ru⟩ := r.get e
      rw [List.filterMap_cons_some e, List.filterMap_cons_some e2]
      exact .cons ru (vals_fm r perm)
theorem rels_fm {K : Frag} {H : Hp} {ds : List M.D} {vs : List V} (r : RelDs K H ds vs) : ∀ perm : List Nat, RelDs K H (perm.filterMap fun i => ds[i]?) (perm.filterMap fun i => vs[i]?)
  | [] => .nil
  | i :: perm => by
    cases e : ds[i]? with
    | none =>
      have e2 : vs[i]? = none := by rw [List.getElem?_eq_none_iff] at e ⊢; rw [← r.length]; exact e
      rw [List.filterMap_cons_none e, List.filterMap_cons_none e2]
      exact rels_fm r perm
    | some v =>
      obtain ⟨u, e2, ru⟩ := r.get e
      rw [List.filterMap_cons_some e, List.filterMap_cons_some e2]
      exact .cons ru (rels_fm r perm)
theorem pe_callkM (o : Ok c k N sc X W) {n m : Nat} {perm : List Nat} {nms : List Str} {x : Str} {es : List Expr} {kws : List Keyword} {p pos : Pos} {t tk : TA} (hx : c.T.fns[n]? = some x) (hat : (c.T.ats.lookup n).isNone = true) (hh : (c.T.hots.contains n == c.T.hot) = true) (hg : glB sc x = true) (hd : (x == ("__debug__" : Str)) = false) (ha : PA X es t) (hp : es.all plB = true) (h0 : es = [] → ∀ σ H Q, t σ H Q → Q [] H)
    (hk : PK X kws tk) (hn : kwsB kws = some nms) (hm : (n, m, nms, perm) ∈ c.T.kws) :
    PE X (.Call (.Name x p) es kws pos) (fun σ H Q => t σ H fun vs H1 => tk σ H1 fun zs H2 => vs.length = m ∧ zs.length = nms.length ∧ lift c (M.cl (c.G.fn n)) (perm.filterMap fun i => (vs ++ zs)[i]?) H2 Q (WE W σ)) := by
  obtain ⟨f, fd, ps, D, F⟩ := o.fns n x hx
  rw [eq_of_beq hh] at F
  rw [← o.eK, ← o.em] at D F
  obtain ⟨k1, k2, k3, k4⟩ := kws_len hn pos X.env
  have go : ∀ {pins : List (Addr × Obj)} {s : Shared} {σ : Sl} {H : Hp} {Q : VK} {us ws : List Value} {vs zs : List V}, Inv X pins σ H s → Vals vs us → Vals zs ws → vs.length = m → zs.length = nms.length → lift c (M.cl (c.G.fn n)) (perm.filterMap fun i => (vs ++ zs)[i]?) H Q (WE W σ) →
      wpAny (model X.prog X.w) X.A (call (.ref f) us (nms.zip ws)) (EP X pins σ Q) X.xe s := by
    intro pins s σ H Q us ws vs zs I r rz l1 l2 q
    exact run_fnG (args := ⟨us, nms.zip ws⟩) (E := WE W) F o.room o.gd (D.kb m nms perm hm s us ws I.kIn (by rw [← r.length]; exact l1) (by rw [← rz.length]; exact l2)) (pass_ok o σ) I (vals_fm (r.append rz) perm) q
  refine ⟨fun pins s σ H Q I h => ?_⟩
  refine wpAny_Call_Name_kw (ld_glob I (o.gl hg) (D.mg (Option.isNone_iff_eq_none.mp hat)) ?_ hd)
  cases es with
  | nil =>
    refine PySem.W.callWith_KW0 (h₀ := X.base) I.ok.mod.kin D.kp k1 (thn (hk.run pos pins s σ H _ I (h0 rfl _ _ _ h)) fun ws s2 ⟨zs, H2, I2, rz, q2⟩ => ⟨I2.kIn, ?_⟩) (by show (false || _) = false; rw [k3]; rfl)
    rw [k2]
    exact go I2 .nil rz q2.1 q2.2.1 q2.2.2
  | cons e es =>
    have hp' := and2 (show (plB e && es.all plB) = true from hp)
    refine PySem.W.callWith_KW (h₀ := X.base) I.ok.mod.kin D.kp k1 (thn (ha.run pos pins s σ H _ I h) fun us s1 ⟨vs, H1, I1, r, q⟩ => ?_) (by rw [plB_all hp, k3]; rfl) (plB_star hp'.1)
    refine thn (hk.run pos pins s1 σ H1 _ I1 q) fun ws s2 ⟨zs, H2, I2, rz, q2⟩ => ⟨I2.kIn, ?_⟩
    rw [k2]
    exact go I2 r rz q2.1 q2.2.1 q2.2.2
/-- a built-in type by its name -/
theorem cls_name (o : Ok c k N sc X W) {t : M.Ty} {z : Str} (h : clsB c.T sc t z = true) : z = tyS t ∧ ∀ p, PE X (.Name z p) (tC (.ty (tyN t))) := by
  unfold clsB at h
  obtain ⟨h, h4⟩ := and2 h
  obtain ⟨h, h3⟩ := and2 h
  obtain ⟨h1, h2⟩ := and2 h
  have e := of_decide_eq_true h1
  subst e
  exact ⟨rfl, fun p => pe_bltn (o.gl h3) (o.free (of_decide_eq_true h2)) (tyB t) rfl (by cases t <;> decide +kernel) (dbg_of h4).1⟩
end
end Snd
namespace Snd
open PySem PySem.Spec PyProof.Rows L2
/-! ### classes of errors by their names -/
section
variable {c : Cn} {k : Nat} {N : List Str} {sc : Scope} {X : Cx} {W : WX}
theorem cls_one (o : Ok c k N sc X W) {j : Nat} {z : Str} (h : clsX c.T sc j z = true) : ∃ v wv, (∀ p, PE X (.Name z p) (tC v)) ∧ (∀ u, RelV v u → u = wv) ∧ ∀ i D, c.G.adr i = some D → PySem.W.kitOne c.K (.ref D) wv = some (c.G.sub i j) := by
  obtain ⟨h, h3⟩ := and2 h
  obtain ⟨h1, h2⟩ := and2 h
  rcases Bool.or_eq_true_iff.mp h3 with h3 | h3
  · obtain ⟨C, m, _, a⟩ := o.er.at_ j z (of_decide_eq_true h3)
    exact ⟨.ref C, .ref C, fun p => pe_glob (o.gl h1) (by rw [o.em]; exact m) rfl (dbg_of h2).1, fun u r => r, fun i D e => (a i D e).1⟩
  · obtain ⟨h3, h5⟩ := and2 h3
    obtain ⟨h3, h4⟩ := and2 h3
    have e1 := of_decide_eq_true h3
    have e2 := of_decide_eq_true h4
    subst e1 e2
    exact ⟨.ty "ValueError", .type "ValueError", fun p => pe_bltn (o.gl h1) (o.free (of_decide_eq_true h5)) (by decide +kernel) rfl (by decide +kernel) (dbg_of h2).1, fun u r => r, fun i D e => o.er.ve i D e⟩
theorem cls_all (o : Ok c k N sc X W) : ∀ {cs : List Nat} {zs : List Expr}, clsXs c.T sc cs zs = true → ∃ (vs : List V) (wvs : List Value) (t : TA), PA X zs t ∧ (∀ σ H Q, Q vs H → t σ H Q) ∧ vs.length = zs.length ∧ (∀ us, Vals vs us → us = wvs) ∧ ∀ i D, c.G.adr i = some D → PySem.W.kitAny c.K (.ref D) wvs = some (cs.any (c.G.sub i))
  | [], [], _ => ⟨[], [], _, pa_nil, fun _ _ _ q => q, rfl, fun us r => by cases r; rfl, fun _ _ _ => rfl⟩
  | j :: cs, .Name z p :: zs, h => by
    obtain ⟨h1, h2⟩ := and2 (show (clsX c.T sc j z && clsXs c.T sc cs zs) = true from h)
    obtain ⟨v, wv, e1, e2, e3⟩ := cls_one o h1
    obtain ⟨vs, wvs, t, g1, g2, g3, g4, g5⟩ := cls_all o h2
    refine ⟨v :: vs, wv :: wvs, _, pa_cons (e1 p) g1, fun σ H Q q => ?_, by rw [List.length_cons, List.length_cons, g3], fun us r => ?_, fun i D e => ?_⟩
    · exact g2 σ H _ q
    · cases r with
      | cons a b => rw [e2 _ a, g4 _ b]
    · exact kitAny_cons (e3 i D e) (fun hb => by rw [List.any_cons, hb, Bool.false_or]; exact g5 i D e) fun hb => by rw [List.any_cons, hb, Bool.true_or]
  | [], _ :: _, h => by cases h
  | _ :: _, [], h => by cases h
  | _ :: _, .BoolOp .. :: _, h => by cases h
  | _ :: _, .NamedExpr .. :: _, h => by cases h
  | _ :: _, .BinOp .. :: _, h => by cases h
  | _ :: _, .UnaryOp .. :: _, h => by cases h
  | _ :: _, .Lambda .. :: _, h => by cases h
  | _ :: _, .IfExp .. :: _, h => by cases h
  | _ :: _, .Dict .. :: _, h => by cases h
  | _ :: _, .Set .. :: _, h => by cases h
  | _ :: _, .ListComp .. :: _, h => by cases h
  | _ :: _, .SetComp .. :: _, h => by cases h
  | _ :: _, .DictComp .. :: _, h => by cases h
  | _ :: _, .GeneratorExp .. :: _, h => by cases h
  | _ :: _, .Yield .. :: _, h => by cases h
  | _ :: _, .YieldFrom .. :: _, h => by cases h
  | _ :: _, .Compare .. :: _, h => by cases h
  | _ :: _, .Call .. :: _, h => by cases h
  | _ :: _, .JoinedStr .. :: _, h => by cases h
  | _ :: _, .FormattedValue .. :: _, h => by cases h
  | _ :: _, .Constant .. :: _, h => by cases h
  | _ :: _, .Attribute .. :: _, h => by cases h
  | _ :: _, .Subscript .. :: _, h => by cases h
  | _ :: _, .Starred .. :: _, h => by cases h
  | _ :: _, .List .. :: _, h => by cases h
  | _ :: _, .Tuple .. :: _, h => by cases h
  | _ :: _, .Slice .. :: _, h => by cases h
theorem clsXs_pl {T : Tb} {sc : Scope} : ∀ {cs : List Nat} {zs : List Expr}, clsXs T sc cs zs = true → zs.all plB = true
  | [], [], _ => rfl
  | _ :: _, .Name _ _ :: zs, h => by
    obtain ⟨_, h2⟩ := and2 h
    show (true && zs.all plB) = true
    rw [clsXs_pl h2]; rfl
  | [], _ :: _, h => by cases h
  | _ :: _, [], h => by cases h
  | _ :: _, .BoolOp .. :: _, h => by cases h
  | _ :: _, .NamedExpr .. :: _, h => by cases h
  | _ :: _, .BinOp .. :: _, h => by cases h
  | _ :: _, .UnaryOp .. :: _, h => by cases h
  | _ :: _, .Lambda .. :: _, h => by cases h
  | _ :: _, .IfExp .. :: _, h => by cases h
  | _ :: _, .Dict .. :: _, h => by cases h
  | _ :: _, .Set .. :: _, h => by cases h
  | _ :: _, .ListComp .. :: _, h => by cases h
  | _ :: _, .SetComp .. :: _, h => by cases h
  | _ :: _, .DictComp .. :: _, h => by cases h
  | _ :: _, .GeneratorExp .. :: _, h => by cases h
  | _ :: _, .Yield .. :: _, h => by cases h
  | _ :: _, .YieldFrom .. :: _, h => by cases h
  | _ :: _, .Compare .. :: _, h => by cases h
  | _ :: _, .Call .. :: _, h => by cases h
  | _ :: _, .JoinedStr .. :: _, h => by cases h
  | _ :: _, .FormattedValue .. :: _, h => by cases h
  | _ :: _, .Constant .. :: _, h => by cases h
  | _ :: _, .Attribute .. :: _, h => by cases h
  | _ :: _, .Subscript .. :: _, h => by cases h
  | _ :: _, .Starred .. :: _, h => by cases h
  | _ :: _, .List .. :: _, h => by cases h
  | _ :: _, .Tuple .. :: _, h => by cases h
  | _ :: _, .Slice .. :: _, h => by cases h
theorem call_isXA {X : Cx} : CallR X (.builtin "isinstance") (fun xs H Q => ∃ D, ExcC X.K D ∧ rIsX X.K D xs H Q) := fun pins s σ H xs us Q I r ⟨D, C, h⟩ => call_isX C pins s σ H xs us Q I r h
theorem call_isXTA {X : Cx} : CallR X (.builtin "isinstance") (fun xs H Q => ∃ D, ExcC X.K D ∧ rIsXT X.K D xs H Q) := fun pins s σ H xs us Q I r ⟨D, C, h⟩ => call_isXT C pins s σ H xs us Q I r h
theorem onX_of {d : M.D} {P : Nat → Prop} (h : M.onX d P) : ∃ C fs, d = .xn C fs ∧ P C := by
  cases d with
  | xn C fs => exact ⟨C, fs, rfl, h⟩
  | _ => exact False.elim h
end
/-! ### displays of dicts -/
def trsOf (c : Cn) (W : WX) : List M.Tx → M.Es → List (TE × TE)
  | k :: ks, .cons e r => (tC (.str (stx k)), tE c W e) :: trsOf c W ks r
  | _, _ => []
def noStar : M.Es → Bool
  | .nil => true
  | .cons _ r => noStar r
  | .star _ _ => false
theorem pairs_rel {c : Cn} {W : WX} {σ : Sl} : ∀ (es : M.Es) {ks : List M.Tx} {ρ : M.Env} {S : M.Sto} {H : Hp} {Xd : M.XK} {f : List M.D → M.Sto → Prop} {R : List (V × V) → Hp → Prop}, ρ.length = σ.length → RelE c.K H ρ σ → RelS c.K H S → M.wpEs c.G es ρ S f Xd → (OkX c S H Xd fun cls d H' => W cls d σ H') → ks.length = M.esLen es → noStar es = true →
    (∀ ds S2 vs H2, Fr S H S2 H2 → RelS c.K H2 S2 → RelDs c.K H2 ds vs → f ds S2 → R ((ks.map fun k => V.str (stx k)).zip vs) H2) → tPairs (trsOf c W ks es) σ H R
  | .nil, ks, ρ, S, H, Xd, f, R, hl, re, r, w, hx, hk, hs, q => by
    cases ks with
    | nil => exact q [] S [] H Fr.refl r .nil w
    | cons _ _ => cases hk
  | .star _ _, ks, ρ, S, H, Xd, f, R, hl, re, r, w, hx, hk, hs, q => by cases hs
  | .cons e es, ks, ρ, S, H, Xd, f, R, hl, re, r, w, hx, hk, hs, q => by
    cases ks with
    | nil => cases hk
    | cons k ks =>
      show tE c W e σ H fun y H2 => tPairs (trsOf c W ks es) σ H2 fun ps H3 => R ((V.str (stx k), y) :: ps) H3
      exact one_rel hl re r w hx fun x S2 v H2 f2 r2 rx q2 => pairs_rel es hl (re.mono r f2) r2 q2 (hx.after f2) (Nat.succ.inj hk) hs fun ds S3 vs H3 f3 r3 rds q3 => q (x :: ds) S3 (v :: vs) H3 (f2.trans f3) r3 (.cons (rx.mono r2 f3) rds) q3
theorem merge_nd : ∀ {more kvs : List (Key × V)}, ((kvs ++ more).map (·.1)).Nodup → mergeK kvs more = kvs ++ more
  | [], kvs, _ => by rw [List.append_nil]; rfl
  | p :: more, kvs, h => by
    have hn : valV kvs p.1 = none := by
      cases e : valV kvs p.1 with
      | none => rfl
      | some v =>
        have h2 := valV_any p.1 kvs
        rw [e] at h2
        obtain ⟨q, hq, he⟩ := List.any_eq_true.mp h2
        have he := of_decide_eq_true he
        rw [List.map_append, List.nodup_append] at h
        exact absurd he (h.2.2 q.1 (List.mem_map.mpr ⟨q, hq, rfl⟩) p.1 (by simp))
    show mergeK (putK kvs p.1 p.2) more = _
    rw [putK_new p.2 hn, merge_nd (by simpa using h)]
    simp
theorem inr_nd {ks : List M.Tx} (h : ks.Nodup) : (ks.map fun k => (Sum.inr (stx k) : Key)).Nodup :=
  List.Pairwise.map _ (fun a b hab e => hab (stx_inj.mp (Sum.inr.inj e))) h
theorem disp_rel {c : Cn} {W : WX} {σ : Sl} {H : Hp} {Q : VK} {es : M.Es} {ks : List M.Tx} (h0 : ks.length ≤ 15) (hn : ks.Nodup) (hk : ks.length = M.esLen es) (hs : noStar es = true) (h : tE c W (.dct ks es) σ H Q) : tDisp (trsOf c W ks es) σ H Q := by
  obtain ⟨ρ, S, Qd, Xd, hl, re, r, w, hq, hx⟩ := h
  intro p hp
  have f0 : Fr S H S (L2.upd H p (.dK [])) := Fr.laid hp
  refine pairs_rel es hl (re.mono r f0) (r.laid hp) w (hx.after f0) hk hs fun ds S2 vs H2 f2 r2 rds q => ?_
  obtain ⟨e2, n2⟩ := f2 p _ L2.upd_same (r.none hp)
  obtain ⟨q1, q2⟩ := q
  have hlen : vs.length = ks.length := by rw [← rds.length]; exact q1
  refine ⟨e2, (ks.map fun k => (Sum.inr (stx k) : Key)).zip vs, ?_, by rw [List.length_zip, List.length_map]; omega, ?_⟩
  · rw [List.zip_map_left, List.zip_map_left, List.map_map]
    rfl
  · rw [merge_nd (kvs := []) (by
      rw [List.nil_append, List.map_fst_zip (by rw [List.length_map]; omega)]
      exact inr_nd hn), List.nil_append]
    refine hq _ _ _ _ ?_ ?_ (.ref p) (q2 p n2)
    · intro a o ha hb
      have hne : a ≠ p := fun z => by rw [z, hp] at ha; cases ha
      obtain ⟨g1, g2⟩ := (f0.trans f2) a o ha hb
      exact ⟨by rw [L2.upd_ne hne]; exact g1, by rw [mupd_ne hne]; exact g2⟩
    · intro a mo e
      have r3 : RelS c.K H2 (M.upd S2 p .dic) := fun a mo e => by
        by_cases ha : a = p
        · subst ha
          rw [mupd_same] at e
          cases e
          exact e2
        · rw [mupd_ne ha] at e
          exact r2 a mo e
      have f3 : Fr (M.upd S2 p .dic) H2 (M.upd (M.upd S2 p .dic) p (.dct (ks.zip ds))) (L2.upd H2 p (.dK ((ks.map fun k => (Sum.inr (stx k) : Key)).zip vs))) := fun b ob hb n => by
        have ne : b ≠ p := fun z => by rw [z, mupd_same] at n; cases n
        exact ⟨by rw [L2.upd_ne ne]; exact hb, by rw [mupd_ne ne]; exact n⟩
      by_cases ha : a = p
      · subst ha
        rw [mupd_same] at e
        cases e
        have e1 : ((ks.zip ds).map fun p => (Sum.inr (stx p.1) : Key)) = ks.map fun k => (Sum.inr (stx k) : Key) := by
          have : ((ks.zip ds).map fun p => (Sum.inr (stx p.1) : Key)) = ((ks.zip ds).map (·.1)).map fun k => (Sum.inr (stx k) : Key) := by rw [List.map_map]; rfl
          rw [this, List.map_fst_zip (by omega)]
        have e3 : (ks.zip ds).map (·.2) = ds := List.map_snd_zip (by omega)
        exact ⟨vs, by rw [e1]; exact L2.upd_same, by rw [e3]; exact rds.mono r3 f3⟩
      · rw [mupd_ne ha] at e
        exact (r2 a mo e).mono r3 f3 fun ob h1 => by rw [L2.upd_ne ha]; exact h1
theorem keysB_some : ∀ {ks : List M.Tx} {kes : List (Option Expr)}, keysB ks kes = true → kes.all (·.isSome) = true ∧ kes.length = ks.length
  | [], [], _ => ⟨rfl, rfl⟩
  | k :: ks, some (.Constant (.str y) _ _) :: kes, h => by
    obtain ⟨_, h2⟩ := and2 (show (decide (stx k = y) && keysB ks kes) = true from h)
    obtain ⟨a, b⟩ := keysB_some h2
    exact ⟨by show (true && kes.all (·.isSome)) = true; rw [a]; rfl, by rw [List.length_cons, List.length_cons, b]⟩
  | [], _ :: _, h => by cases h
  | _ :: _, [], h => by cases h
  | _ :: _, none :: _, h => by cases h
  | _ :: _, some e :: _, h => by
    unfold keysB at h
    split at h
    · cases ‹_ = []›
    · rename_i k ks y a b es heq1 heq2
      injection heq1 with _ z1
      injection heq2 with z2 z3
      subst z1 z3
      injection z2 with z2
      subst z2
      obtain ⟨_, h2⟩ := and2 h
      obtain ⟨a, b⟩ := keysB_some h2
      exact ⟨by show (true && _) = true; rw [a]; rfl, by rw [List.length_cons, List.length_cons, b]⟩
    · cases h
end Snd
namespace Snd
open PySem PySem.Spec PyProof.Rows L2
/-! ### methods of texts: split, join, strip -/
theorem stx_of (y : Str) : stx y.cps.toList = y := by
  apply Str.ext'
  show y.cps.toList.toArray = y.cps
  simp
theorem join_stx (s : M.Tx) : ∀ ts : List M.Tx, Str.join (stx s) (ts.map stx) = stx (M.joinT s ts)
  | [] => rfl
  | [x] => rfl
  | x :: y :: r => by
    have ih := join_stx s (y :: r)
    show stx x ++ stx s ++ Str.join (stx s) ((y :: r).map stx) = stx (x ++ s ++ M.joinT s (y :: r))
    rw [ih, stx_app, stx_app]
theorem joinT_stx (s : M.Tx) (ts : List M.Tx) : Txt.join (stx s) (ts.map stx) = stx (M.joinT s ts) := by
  show Builtin.Str.glued _ _ = _
  rw [StrLaws.glued_eq_join, join_stx]
theorem splitT_free {c : Nat} : ∀ {w : M.Tx}, c ∉ w → M.splitT c w = [w]
  | [], _ => rfl
  | d :: r, h => by
    have h1 : d ≠ c := fun e => h (by rw [e]; simp)
    have h2 : c ∉ r := fun e => h (by simp [e])
    unfold M.splitT
    rw [if_neg h1, splitT_free h2]
theorem splitT_cons (c d : Nat) (r : M.Tx) : M.splitT c (d :: r) = if d = c then [] :: M.splitT c r else (match M.splitT c r with | [] => [[d]] | w :: ws => (d :: w) :: ws) := rfl
theorem splitT_app {c : Nat} {rest : M.Tx} : ∀ {w : M.Tx}, c ∉ w → M.splitT c (w ++ [c] ++ rest) = w :: M.splitT c rest
  | [], _ => by
    show M.splitT c (c :: rest) = _
    rw [splitT_cons, if_pos rfl]
  | d :: r, h => by
    have h1 : d ≠ c := fun e => h (by rw [e]; simp)
    have h2 : c ∉ r := fun e => h (by simp [e])
    show M.splitT c (d :: (r ++ [c] ++ rest)) = _
    rw [splitT_cons, if_neg h1, splitT_app h2]
theorem split_join {c : Nat} : ∀ {ts : List M.Tx}, ts ≠ [] → (∀ t ∈ ts, c ∉ t) → M.splitT c (M.joinT [c] ts) = ts
  | [], h, _ => absurd rfl h
  | [x], _, h => splitT_free (h x (by simp))
  | x :: y :: r, _, h => by
    show M.splitT c (x ++ [c] ++ M.joinT [c] (y :: r)) = _
    rw [splitT_app (h x (by simp)), split_join (by simp) fun t ht => h t (by simp [ht])]
theorem split_stx (c : Nat) (t : M.Tx) : Txt.split (stx t) (stx [c]) = (M.splitT c t).map stx := by
  obtain ⟨ps, hps⟩ : ∃ ps, ps = Txt.split (stx t) (stx [c]) := ⟨_, rfl⟩
  have hj := StrLaws.join_split (stx t) (stx [c])
  have hf := StrLaws.split_free (stx t) c
  have hl := split_pos (stx t) (stx [c])
  rw [← hps]
  rw [← hps] at hj hl
  have hf : ∀ p ∈ ps, c ∉ p.cps.toList := by rw [hps]; exact hf
  have e : ps = (ps.map fun p => p.cps.toList).map stx := by
    rw [List.map_map]
    conv => lhs; rw [← List.map_id ps]
    exact List.map_congr_left fun p _ => (stx_of p).symm
  have h2 : M.splitT c (M.joinT [c] (ps.map fun p => p.cps.toList)) = ps.map fun p => p.cps.toList := split_join (by
    intro z
    have : ps = [] := List.map_eq_nil_iff.mp z
    rw [this] at hl; simp at hl) fun t ht => by
    obtain ⟨p, hp, rfl⟩ := List.mem_map.mp ht
    exact hf p hp
  rw [e, join_stx] at hj
  have e3 := stx_inj.mp hj
  rw [e3] at h2
  rw [h2]; exact e
theorem strs_rel {K : Frag} {H : Hp} : ∀ {ds : List M.D} {vs : List V} {ts : List M.Tx}, RelDs K H ds vs → M.strsD ds = some ts → vs = (ts.map stx).map V.str
  | [], _, _, .nil, e => by cases e; rfl
  | d :: ds, _, ts, .cons h t, e => by
    cases d with
    | str x =>
      cases hs : M.strsD ds with
      | none => rw [show M.strsD (.str x :: ds) = (M.strsD ds).map (x :: ·) from rfl, hs] at e; cases e
      | some us =>
        rw [show M.strsD (.str x :: ds) = (M.strsD ds).map (x :: ·) from rfl, hs] at e
        cases e
        cases h
        rw [strs_rel t hs]; rfl
    | _ => cases e
theorem strs_back {K : Frag} {H : Hp} : ∀ ts : List M.Tx, RelDs K H (ts.map M.D.str) ((ts.map stx).map V.str)
  | [] => .nil
  | t :: ts => .cons (.str t) (strs_back ts)
theorem onS_of {d : M.D} {P : M.Tx → Prop} (h : M.onS d P) : ∃ x, d = .str x ∧ P x := by
  cases d with
  | str x => exact ⟨x, rfl, h⟩
  | _ => exact False.elim h
theorem sum_len (ts : List M.Tx) : ((ts.map stx).map (·.length)).sum = (ts.map (·.length)).sum := by
  induction ts with
  | nil => rfl
  | cons t ts ih => simp only [List.map_cons, List.sum_cons, ih, stx_len]
theorem dw_nil {b : Nat → Bool} : ∀ {l : M.Tx}, l.dropWhile b = [] ↔ ∀ c ∈ l, b c = true
  | [] => ⟨(fun _ c h => nomatch h), (fun _ => rfl)⟩
  | d :: r => by
    rw [List.dropWhile_cons]
    by_cases h : b d = true
    · rw [if_pos h, dw_nil (l := r)]
      constructor
      · intro g c hc
        rcases List.mem_cons.mp hc with rfl | hc
        · exact h
        · exact g c hc
      · exact fun g c hc => g c (by simp [hc])
    · rw [if_neg h]
      constructor
      · intro g; cases g
      · exact fun g => absurd (g d (by simp)) h
theorem strip_ok (a b : M.Tx) : ∃ r : M.Tx, Txt.stripChars (stx a) (stx b) = stx r ∧ r.length ≤ a.length ∧ (r = [] ↔ ∀ c ∈ a, c ∈ b) := by
  have e : Txt.stripChars (stx a) (stx b) = Builtin.Str.strSub (stx a) (stripLo (stx b).cps.contains true (stx a)) (stripHi (stx b).cps.contains true (stx a) (stripLo (stx b).cps.contains true (stx a))) := PyProof.Rows.stripBy_eq _ _ _ _
  have hb : (stx b).cps.contains = fun c => decide (c ∈ b) := by
    funext c
    show b.toArray.contains c = decide (c ∈ b)
    rw [Bool.eq_iff_iff]; simp
  rw [hb] at e
  generalize hg : (fun c => decide (c ∈ b)) = g at e
  have hgt : ∀ c, g c = true ↔ c ∈ b := fun c => by rw [← hg]; simp
  have ec : (stx a).cps.toList = a := stx_cps a
  have elo : stripLo g true (stx a) = (a.takeWhile g).length := by
    show (((stx a).cps.toList).takeWhile g).length = _
    rw [ec]
  have edr : a.drop (a.takeWhile g).length = a.dropWhile g := by
    have h := List.takeWhile_append_dropWhile (p := g) (l := a)
    conv => lhs; rw [← h]
    rw [List.drop_append_of_le_length (by rw [h]; exact Nat.le_refl _)]
    rw [h]; simp
  have ehi : stripHi g true (stx a) (stripLo g true (stx a)) = a.length - ((a.dropWhile g).reverse.takeWhile g).length := by
    show (stx a).length - (((stx a).cps.toList.drop (stripLo g true (stx a))).reverse.takeWhile g).length = _
    rw [ec, elo, edr, stx_len]
  rw [e]
  refine ⟨(Builtin.Str.strSub (stx a) (stripLo g true (stx a)) (stripHi g true (stx a) (stripLo g true (stx a)))).cps.toList, (stx_of _).symm, ?_, ?_⟩
  · rw [StrLaws.strSub_toList, ec]
    simp only [List.length_take, List.length_drop]
    omega
  · rw [StrLaws.strSub_toList, ec, elo, edr]
    rw [elo] at ehi
    rw [ehi]
    have hlen : (a.takeWhile g).length + (a.dropWhile g).length = a.length := by
      have := congrArg List.length (List.takeWhile_append_dropWhile (p := g) (l := a))
      rw [List.length_append] at this
      exact this
    have hdw := dw_nil (b := g) (l := a)
    rw [show (∀ c ∈ a, c ∈ b) ↔ (∀ c ∈ a, g c = true) from ⟨fun h c hc => (hgt c).mpr (h c hc), fun h c hc => (hgt c).mp (h c hc)⟩, ← hdw]
    refine ⟨fun h => ?_, fun h => by rw [h]; simp⟩
    cases hd : a.dropWhile g with
    | nil => rfl
    | cons d r =>
      exfalso
      rw [hd] at h hlen
      have hnd : g d = false := by
        have := List.head?_dropWhile_not g a
        rw [hd] at this
        simpa using this
      have htw : (((d :: r).reverse).takeWhile g).length < (d :: r).length := by
        have h1 : ((d :: r).reverse).takeWhile g = r.reverse.takeWhile g := by
          rw [List.reverse_cons, List.takeWhile_append]
          split
          · rw [List.takeWhile_cons_of_neg (by rw [hnd]; exact Bool.false_ne_true), List.append_nil]
            rename_i h9
            exact ((List.takeWhile_prefix (p := g) (l := r.reverse)).eq_of_length h9).symm
          · rfl
        rw [h1]
        have := (List.takeWhile_prefix (p := g) (l := r.reverse)).length_le
        rw [List.length_reverse] at this
        simp only [List.length_cons]
        omega
      have := congrArg List.length h
      rw [List.length_take, List.length_nil] at this
      simp only [List.length_cons] at this hlen htw
      omega
/-! ### a dict's value at a text -/
theorem dct_look {K : Frag} {H : Hp} : ∀ {kvs : List (M.Tx × M.D)} {vs : List V} {k : M.Tx} {d : M.D}, RelDs K H (kvs.map (·.2)) vs → kvs.lookup k = some d → ∃ v, valV ((kvs.map fun p => (Sum.inr (stx p.1) : Key)).zip vs) (Sum.inr (stx k)) = some v ∧ RelD K H d v
  | [], _, _, _, _, e => by cases e
  | (k0, d0) :: kvs, _, k, d, .cons (v := v) h t, e => by
    rw [List.lookup_cons] at e
    by_cases hk : k = k0
    · subst hk
      rw [beq_self_eq_true] at e
      cases e
      refine ⟨v, ?_, h⟩
      show (List.find? (fun kv => decide (kv.1 = (Sum.inr (stx k) : Key))) (((Sum.inr (stx k) : Key), v) :: _)).map (·.2) = some v
      rw [List.find?_cons_of_pos (by simp)]
      rfl
    · rw [beq_false_of_ne hk] at e
      obtain ⟨u, e1, e2⟩ := dct_look t e
      refine ⟨u, ?_, e2⟩
      show (List.find? (fun kv => decide (kv.1 = (Sum.inr (stx k) : Key))) (((Sum.inr (stx k0) : Key), v) :: _)).map (·.2) = some u
      rw [List.find?_cons_of_neg (by
        simp only [decide_eq_true_eq]
        intro z
        injection z with z
        exact hk (stx_inj.mp z).symm)]
      exact e1
theorem dix_rel {K : Frag} {H : Hp} {S : M.Sto} {x y : M.D} {v u : V} {Qd : M.VK} {Q : VK} (r : RelS K H S) (rx : RelD K H x v) (ry : RelD K H y u) (w : M.dixD x y S Qd) (hq : OkV K S H Qd Q) : ∃ a z, v = .ref a ∧ DGet H a u (some z) ∧ Q z H := by
  cases rx with
  | ref a =>
    obtain ⟨k, rfl, w⟩ := onS_of (show M.onS y _ from w)
    obtain ⟨kvs, e1, w⟩ := opt_of w
    obtain ⟨d, e2, w⟩ := opt_of w
    cases ry
    have es : S a = some (.dct kvs) := by
      cases h : S a with
      | none => rw [h] at e1; cases e1
      | some o =>
        rw [h] at e1
        cases o with
        | dct kvs' => cases e1; rfl
        | _ => cases e1
    obtain ⟨vs, h1, h2⟩ := r a _ es
    obtain ⟨z, g1, g2⟩ := dct_look h2 e2
    refine ⟨a, z, rfl, ?_, hq.same r g2 w⟩
    have := DGet.k (k := (Sum.inr (stx k) : Key)) h1
    rw [g1] at this
    exact this
  | _ => exact False.elim w
theorem nosl_of {i : Expr} (h : (match i with | .Starred .. => false | .Slice .. => false | _ => true) = true) : NoSl i := by
  cases i <;> first | (intro _ _; rfl) | cases h
end Snd
namespace Snd
open PySem PySem.Spec PyProof.Rows L2
/-! ### objects of the store -/
theorem insO_some {o : Option M.O} {p : Nat × List (M.Tx × M.D)} (h : M.insO o = some p) : o = some (.ins p.1 p.2) := by
  cases o with
  | none => cases h
  | some o => cases o <;> first | (cases h; rfl) | cases h
theorem onO_of {S : M.Sto} {x : M.D} {P : Nat → List (M.Tx × M.D) → Prop} (h : M.onO S x P) : ∃ a C fs, x = .ref a ∧ S a = some (.ins C fs) ∧ P C fs := by
  obtain ⟨a, rfl, h⟩ := onR_of h
  obtain ⟨p, e, h⟩ := opt_of h
  exact ⟨a, p.1, p.2, rfl, insO_some e, h⟩
def zipF (fs : List (M.Tx × M.D)) (vs : List V) : List (Str × V) := (fs.map fun p => stx p.1).zip vs
section
variable {K : Frag} {H : Hp} {S : M.Sto}
theorem fs_some : ∀ {fs : List (M.Tx × M.D)} {vs : List V} {n : M.Tx} {d : M.D}, RelDs K H (fs.map (·.2)) vs → fs.lookup n = some d → ∃ v, (zipF fs vs).lookup (stx n) = some v ∧ RelD K H d v
  | [], _, _, _, _, e => by cases e
  | (m, d0) :: fs, _, n, d, .cons (v := v) h t, e => by
    rw [List.lookup_cons] at e
    show ∃ v', List.lookup (stx n) ((stx m, v) :: zipF fs _) = some v' ∧ _
    rw [List.lookup_cons]
    by_cases hk : n = m
    · subst hk
      rw [beq_self_eq_true] at e ⊢
      cases e
      exact ⟨v, rfl, h⟩
    · rw [beq_false_of_ne hk] at e
      rw [beq_false_of_ne fun z => hk (stx_inj.mp z)]
      exact fs_some t e
theorem fs_none : ∀ {fs : List (M.Tx × M.D)} {vs : List V} {n : M.Tx}, RelDs K H (fs.map (·.2)) vs → fs.lookup n = none → (zipF fs vs).lookup (stx n) = none
  | [], _, _, _, _ => rfl
  | (m, d0) :: fs, _, n, .cons (v := v) h t, e => by
    rw [List.lookup_cons] at e
    show List.lookup (stx n) ((stx m, v) :: zipF fs _) = none
    rw [List.lookup_cons]
    by_cases hk : n = m
    · subst hk
      rw [beq_self_eq_true] at e
      cases e
    · rw [beq_false_of_ne hk] at e
      rw [beq_false_of_ne fun z => hk (stx_inj.mp z)]
      exact fs_none t e
theorem fs_put : ∀ {fs : List (M.Tx × M.D)} {vs : List V} (n : M.Tx) {d : M.D} {v : V}, RelDs K H (fs.map (·.2)) vs → RelD K H d v → ∃ ws, putF (stx n) v (zipF fs vs) = zipF (M.putK n d fs) ws ∧ RelDs K H ((M.putK n d fs).map (·.2)) ws
  | [], _, n, d, v, .nil, r => ⟨[v], rfl, .cons r .nil⟩
  | (m, d0) :: fs, _, n, d, v, .cons (v := v0) (vs := vs) h t, r => by
    by_cases hk : m = n
    · subst hk
      refine ⟨v :: vs, ?_, ?_⟩
      · show putF (stx m) v ((stx m, v0) :: zipF fs vs) = zipF (M.putK m d ((m, d0) :: fs)) (v :: vs)
        rw [show putF (stx m) v ((stx m, v0) :: zipF fs vs) = if stx m = stx m then (stx m, v) :: zipF fs vs else (stx m, v0) :: putF (stx m) v (zipF fs vs) from rfl, if_pos rfl]
        rw [show M.putK m d ((m, d0) :: fs) = if m = m then (m, d) :: fs else (m, d0) :: M.putK m d fs from rfl, if_pos rfl]
        rfl
      · rw [show M.putK m d ((m, d0) :: fs) = if m = m then (m, d) :: fs else (m, d0) :: M.putK m d fs from rfl, if_pos rfl]
        exact .cons r t
    · obtain ⟨ws, e1, e2⟩ := fs_put n t r
      have hs : ¬ stx m = stx n := fun z => hk (stx_inj.mp z)
      refine ⟨v0 :: ws, ?_, ?_⟩
      · show putF (stx n) v ((stx m, v0) :: zipF fs vs) = zipF (M.putK n d ((m, d0) :: fs)) (v0 :: ws)
        rw [show putF (stx n) v ((stx m, v0) :: zipF fs vs) = if stx m = stx n then (stx m, v) :: zipF fs vs else (stx m, v0) :: putF (stx n) v (zipF fs vs) from rfl, if_neg hs]
        rw [show M.putK n d ((m, d0) :: fs) = if m = n then (m, d) :: fs else (m, d0) :: M.putK n d fs from rfl, if_neg hk, e1]
        rfl
      · rw [show M.putK n d ((m, d0) :: fs) = if m = n then (m, d) :: fs else (m, d0) :: M.putK n d fs from rfl, if_neg hk]
        exact .cons h e2
/-- a new object -/
theorem ins_new {x dx C : Addr} (hI : IsO K C) (r : RelS K H S) (hx : H x = none) (hd : H dx = none) (ne : dx ≠ x) :
    Fr S H (M.upd S x (.ins C [])) (L2.upd (L2.upd H dx (.own x)) x (.ins C dx [])) ∧ RelS K (L2.upd (L2.upd H dx (.own x)) x (.ins C dx [])) (M.upd S x (.ins C [])) := by
  have hx2 : L2.upd H dx (.own x) x = none := by rw [L2.upd_ne (Ne.symm ne)]; exact hx
  have f1 : Fr S H S (L2.upd H dx (.own x)) := Fr.laid hd
  have r1 := r.laid (o := .own x) hd
  have f2 : Fr S (L2.upd H dx (.own x)) (M.upd S x (.ins C [])) (L2.upd (L2.upd H dx (.own x)) x (.ins C dx [])) := Fr.laidS hx2
  refine ⟨f1.trans f2, fun a mo e => ?_⟩
  by_cases ha : a = x
  · subst ha
    rw [mupd_same] at e
    cases e
    exact ⟨dx, [], L2.upd_same, .nil, hI⟩
  · rw [mupd_ne ha] at e
    exact (r1 a mo e).mono r1 f2 fun ob h1 => by rw [L2.upd_ne ha]; exact h1
/-- an object is written -/
theorem ins_wr {a C dx : Addr} {fs fs' : List (M.Tx × M.D)} {vs ws : List V} (r : RelS K H S) (e : S a = some (.ins C fs)) (hd : RelDs K H (fs'.map (·.2)) ws) :
    Fr S H (M.upd S a (.ins C fs')) (L2.upd H a (.ins C dx (zipF fs' ws))) ∧ RelS K (L2.upd H a (.ins C dx (zipF fs' ws))) (M.upd S a (.ins C fs')) := by
  have f : Fr S H (M.upd S a (.ins C fs')) (L2.upd H a (.ins C dx (zipF fs' ws))) := fun b ob hb n => by
    have ne : b ≠ a := fun z => by rw [z, e] at n; cases n
    exact ⟨by rw [L2.upd_ne ne]; exact hb, by rw [mupd_ne ne]; exact n⟩
  refine ⟨f, fun b mo e2 => ?_⟩
  by_cases hb : b = a
  · subst hb
    rw [mupd_same] at e2
    cases e2
    obtain ⟨_, _, _, _, h3⟩ := r _ _ e
    exact ⟨dx, ws, L2.upd_same, hd.mono r f, h3⟩
  · rw [mupd_ne hb] at e2
    exact (r b mo e2).mono r f fun ob h1 => by rw [L2.upd_ne hb]; exact h1
end
theorem attr_bare {e : Expr} {f : Str} {env : Env} {w : Sem Value} (h : bareB e = true) : attributeBase e f env w = w := by
  cases e <;> first | rfl | cases h
section
variable {c : Cn} {k : Nat} {N : List Str} {sc : Scope} {X : Cx} {W : WX}
/-- e.n -/
theorem fld_rel (o : Ok c k N sc X W) {H : Hp} {S : M.Sto} {x : M.D} {v : V} {n : M.Tx} {Qd : M.VK} {Q : VK} (hn : n ∈ c.T.fds) (r : RelS c.K H S) (rx : RelD c.K H x v) (w : M.fldD c.G n x S Qd) (hq : OkV c.K S H Qd Q) :
    ∃ a C dx fs u, v = .ref a ∧ H a = some (.ins C dx fs) ∧ Cls X.K C ∧ NoAttr X.K C (stx n) ∧ fs.lookup (stx n) = some u ∧ Q u H := by
  obtain ⟨a, C, fs, rfl, e, ⟨kk, ek⟩, w⟩ := onO_of w
  obtain ⟨d, el, q⟩ := opt_of w
  cases rx
  obtain ⟨dx, vs, h1, h2, h3⟩ := r a _ e
  obtain ⟨u, g1, g2⟩ := fs_some h2 el
  have oc := o.oc.ok kk C ek
  rw [o.eK]
  exact ⟨a, C, dx, _, u, rfl, h1, oc.cl, oc.fd n hn, g1, hq.same r g2 q⟩
/-- e.n = d -/
theorem fset_rel (o : Ok c k N sc X W) {H : Hp} {S : M.Sto} {x d : M.D} {v u : V} {n : M.Tx} {P : M.Sto → Prop} (hn : n ∈ c.T.fds) (r : RelS c.K H S) (rx : RelD c.K H x v) (ru : RelD c.K H d u) (w : M.fsetD c.G n x d S P) :
    ∃ a C dx fs, v = .ref a ∧ H a = some (.ins C dx fs) ∧ Cls X.K C ∧ NoAttr X.K C (stx n) ∧ fs.length < 1000 ∧ ∃ S', Fr S H S' (L2.upd H a (.ins C dx (putF (stx n) u fs))) ∧ RelS c.K (L2.upd H a (.ins C dx (putF (stx n) u fs))) S' ∧ P S' := by
  obtain ⟨a, rfl, w⟩ := onR_of w
  obtain ⟨p, e, ⟨kk, ek⟩, hl, q⟩ := opt_of w
  have e := insO_some e
  obtain ⟨C, fs⟩ := p
  cases rx
  obtain ⟨dx, vs, h1, h2, h3⟩ := r a _ e
  obtain ⟨ws, g1, g2⟩ := fs_put n h2 ru
  have oc := o.oc.ok kk C ek
  rw [o.eK]
  have lz : (zipF fs vs).length < 1000 := by
    unfold zipF
    rw [List.length_zip, List.length_map]
    exact Nat.lt_of_le_of_lt (Nat.min_le_left _ _) hl
  obtain ⟨f, r'⟩ := ins_wr (dx := dx) (vs := vs) r e g2
  refine ⟨a, C, dx, zipF fs vs, rfl, h1, oc.cl, oc.fd n hn, lz, _, ?_, ?_, q⟩
  · rw [g1]; exact f
  · rw [g1]; exact r'
/-- a method, or a property's getter, by the class's number -/
theorem Ok.meth (o : Ok c k N sc X W) {kk : Nat} {m : M.Tx} {n : Nat} (em : c.G.mt kk m = some n) :
    ∃ x f fd ps, ((kk, m), n) ∈ c.T.mtb ∧ Def X.K X.mg c.T n x f fd ps ∧ FnG X.prog X.w X.K X.mg X.base false k f fd ps (lift c (M.cl (c.G.fn n))) := by
  obtain ⟨g1, g2, x, hx⟩ := o.oc.gm kk m n em
  obtain ⟨f, fd, ps, D, F⟩ := o.fns n x hx
  rw [g2] at F
  rw [← o.eK, ← o.em] at D F
  exact ⟨x, f, fd, ps, g1, D, F⟩
/-- what a call of a method tells -/
def RO (c : Cn) (m : M.Tx) (v : V) (vs : List V) (H : Hp) (Q : VK) (E : XK) : Prop := ∃ x ds S Qd Xd, RelS c.K H S ∧ RelD c.K H x v ∧ RelDs c.K H ds vs ∧ M.mcall c.G m x ds S Qd Xd ∧ OkV c.K S H Qd Q ∧ OkX c S H Xd E
theorem ro_at (o : Ok c k N sc X W) {m : M.Tx} {v : V} {vs : List V} {H : Hp} {Q : VK} {E : XK} (h : RO c m v vs H Q E) :
    ∃ a C dx fs kk n, v = .ref a ∧ H a = some (.ins C dx fs) ∧ fs.lookup (stx m) = none ∧ c.G.ob kk = some C ∧ OC c.K c.T c.G kk C ∧ c.G.mt kk m = some n ∧ lift c (M.cl (c.G.fn n)) (v :: vs) H Q E := by
  obtain ⟨x, ds, S, Qd, Xd, r, rx, rds, w, hq, hx⟩ := h
  obtain ⟨a, C, fs, rfl, e, hn, kk, ek, w⟩ := onO_of w
  obtain ⟨n, en, w⟩ := opt_of w
  cases rx
  obtain ⟨dx, ws, h1, h2, h3⟩ := r a _ e
  exact ⟨a, C, dx, _, kk, n, rfl, h1, fs_none h2 hn, ek, o.oc.ok kk C ek, en, _, S, Qd, Xd, .cons (.ref a) rds, r, w, hq, hx⟩
/-- the method's code at the object: the call that a dunder's lookup makes -/
theorem ro_run (o : Ok c k N sc X W) (hh : (!c.T.hot) = true) {m : M.Tx} (hp : m ∉ c.T.prs) {v : V} {vs : List V} {u : Value} {us : List Value} {pins : List (Addr × Obj)} {σ : Sl} {H : Hp} {s : Shared} {Q : VK} (I : Inv X pins σ H s) (rv : RelV v u) (r : Vals vs us) (h : RO c m v vs H Q (WE W σ)) :
    ∃ a C dx fs f kk, v = .ref a ∧ u = .ref a ∧ H a = some (.ins C dx fs) ∧ fs.lookup (stx m) = none ∧ c.G.ob kk = some C ∧ OC X.K c.T c.G kk C ∧ Meth X.K C (stx m) f ∧ PySem.W.fnIn X.K f = true ∧ wpAny (model X.prog X.w) X.A (call (.ref f) (u :: us)) (EP X pins σ Q) X.xe s := by
  obtain ⟨a, C, dx, fs, kk, n, rfl, ha, hl, ek, oc, en, w⟩ := ro_at o h
  obtain ⟨x, f, fd, ps, _, D, F⟩ := o.meth en
  rw [← o.eK] at oc
  obtain ⟨q, eq, hm, hf⟩ := oc.mt m n hp en
  have ef := D.at_ q eq
  subst ef
  obtain rfl : u = Value.ref a := rv
  have r2 : Vals (V.ref a :: vs) (Value.ref a :: us) := .cons rfl r
  have hlen : (Value.ref a :: us).length = ps.length := by rw [← r2.length]; exact F.len _ _ _ _ w
  have b := D.bd s (Value.ref a :: us) I.kIn (by rw [List.append_nil]; exact hlen)
  rw [List.append_nil] at b
  have hc : c.T.hot = false := not1 hh
  have rm : RoomB false k X.A := by have := o.room; rw [hc] at this; exact this
  exact ⟨a, C, dx, fs, _, kk, rfl, rfl, ha, hl, ek, oc, hm, hf, run_fnG (args := ⟨Value.ref a :: us, []⟩) (E := WE W) F rm o.gd b (pass_ok o σ) I r2 w⟩
theorem inst_at {pins : List (Addr × Obj)} {σ : Sl} {H : Hp} {s : Shared} {a C dx : Addr} {fs : List (Str × V)} (I : Inv X pins σ H s) (h : H a = some (.ins C dx fs)) : ∃ od, PySem.W.InstAt s.heap a (PySem.W.instObj C dx) C (some od) := by
  obtain ⟨mA, O, _⟩ := ins_get I.hok h
  obtain ⟨od, J, _⟩ := O.look
  exact ⟨od, J⟩
end
end Snd
namespace PySem.W
open Lean Elab Tactic Meta PySem PySem.Calls PyProof.Rows
section
variable {prog : Program} {w : World} {A : Around} {E : Value → Shared → Prop} {s : Shared} {K : Frag} {x C L f : Addr} {h₀ : Heap} {m : Str → Option Value} {ox : Obj} {od : Option Obj} {T : String}
/-- a & b by the left one's own method, b of a built-in type wherever it stands -/
theorem sno_binT {op : Operator} {b : Value} {fo ro rc : Option Value} {Q : Value → Shared → Prop} (F : Fr h₀ L s.heap m) (X₀ : K.In h₀) (I : InstAt s.heap x ox C od) (hb : Looks (model prog w) s.heap (typeOf b) (.type T)) (hc : selfFirst K C = true)
    (hs : findIn K (.ref C) (PySem.dunder op.info.2) = some (some (.ref f))) (hf : isFn K (.ref f) = true) (hr : findIn K (.ref C) (dunderR op.info.2) = some rc) (hp : rc = none ∨ ∃ g : Addr, rc = some (.ref g))
    (h1 : findIn K (.type T) (PySem.dunder op.info.2) = some fo) (h2 : findIn K (.type T) (dunderR op.info.2) = some ro) (hsub : subIn K (.type T) (.ref C) = some false)
    (h : wpAny (model prog w) A (call (.ref f) [.ref x, b]) (CmpBack Q) E s) : wpAny (model prog w) A (binaryOp op (.ref x) b) Q E s := by
  have X := X₀.keeps F.keep
  obtain ⟨cd, rest, hcd, hm⟩ := ksp_first hc
  rcases hi : op.info with ⟨sym, nm'⟩
  rw [hi] at hs hr h1 h2
  dsimp only at hs hr h1 h2
  have one := ksp_try X I hs hf h
  obtain ⟨hh, g, d, tt, os⟩ := s
  have L1 : Looks (model prog w) hh (typeOf (.ref x)) (.ref C) := I.type
  have L2 : Looks (model prog w) hh (typeOf b) (.type T) := hb
  have L3 : Looks (model prog w) hh (fillsNumberSlot (.ref C) nm') true := fills_K X hcd hm hs
  have L4 : Looks (model prog w) hh (fillsNumberSlot (.type T) nm') ((fo.isSome && !isSeqSlot fo) || (ro.isSome && !isSeqSlot ro)) := ksp_fillsT X h1 h2
  have L5 : Looks (model prog w) hh (isSubtype (.type T) (.ref C)) false := looks_subIn X hsub
  have L6 : Looks (model prog w) hh (numberSlotInPython (.ref C) nm') true := ksp_inPy X hs hr hp
  have L7 : Looks (model prog w) hh (numberSlotInPython (.type T) nm') false := Looks.of_pure rfl
  have L8 : Looks (model prog w) hh (typeLookup (.type T) (dunderR nm')) ro := looks_findIn X h2
  generalize ((fo.isSome && !isSeqSlot fo) || (ro.isSome && !isSeqSlot ro)) = right at L4
  have hne : (Value.ref C == Value.type T) = false := Bool.eq_false_iff.mpr fun q => by cases beq_iff_eq.mp q
  simp only [binaryOp, hi]
  refine wpAny_holding (wpAny_bind ?_)
  unfold binaryOp1
  refine wpAny_bind (L1.at (wpAny_bind (L2.at (wpAny_bind (L3.at ?_)))))
  simp only [hne, Bool.false_eq_true, if_false]
  cases right with
  | false =>
    ksp_lk
    refine wpAny_mono one (fun r s' hr' => ?_) fun _ _ e => e
    obtain ⟨v, rfl, hq⟩ := hr'
    ksp_lk
    exact hq
  | true =>
    ksp_lk
    refine wpAny_mono one (fun r s' hr' => ?_) fun _ _ e => e
    obtain ⟨v, rfl, hq⟩ := hr'
    ksp_lk
    exact hq
/-- .. b of the object's own class -/
theorem sno_binS {op : Operator} {b : Value} {Q : Value → Shared → Prop} (F : Fr h₀ L s.heap m) (X₀ : K.In h₀) (I : InstAt s.heap x ox C od) (hb : Looks (model prog w) s.heap (typeOf b) (.ref C)) (hc : selfFirst K C = true)
    (hs : findIn K (.ref C) (PySem.dunder op.info.2) = some (some (.ref f))) (hf : isFn K (.ref f) = true)
    (h : wpAny (model prog w) A (call (.ref f) [.ref x, b]) (CmpBack Q) E s) : wpAny (model prog w) A (binaryOp op (.ref x) b) Q E s := by
  have X := X₀.keeps F.keep
  obtain ⟨cd, rest, hcd, hm⟩ := ksp_first hc
  rcases hi : op.info with ⟨sym, nm'⟩
  rw [hi] at hs
  dsimp only at hs
  have one := ksp_try X I hs hf h
  obtain ⟨hh, g, d, tt, os⟩ := s
  have L1 : Looks (model prog w) hh (typeOf (.ref x)) (.ref C) := I.type
  have L2 : Looks (model prog w) hh (typeOf b) (.ref C) := hb
  have L3 : Looks (model prog w) hh (fillsNumberSlot (.ref C) nm') true := fills_K X hcd hm hs
  have he : (Value.ref C == Value.ref C) = true := beq_iff_eq.mpr rfl
  simp only [binaryOp, hi]
  refine wpAny_holding (wpAny_bind ?_)
  unfold binaryOp1
  refine wpAny_bind (L1.at (wpAny_bind (L2.at (wpAny_bind (L3.at ?_)))))
  simp only [he, if_true]
  ksp_lk
  refine wpAny_mono one (fun r s' hr' => ?_) fun _ _ e => e
  obtain ⟨v, rfl, hq⟩ := hr'
  ksp_lk
  exact hq
end
end PySem.W
namespace Snd
open PySem PySem.Spec PyProof.Rows L2
section
variable {c : Cn} {k : Nat} {N : List Str} {sc : Scope} {X : Cx} {W : WX}
theorem no_cx {P : Program} {w : World} {outer : List Env} {H : Hp} {s s' : Shared} {u : Value} (h : L2.CX P w outer H s (fun _ _ _ => False) u s') : False := by
  obtain ⟨_, _, _, _, _, _, _, _, _, _, _, _, z⟩ := h
  exact z
/-- o.p, a property -/
theorem pe_prpM (o : Ok c k N sc X W) (hh : (!c.T.hot) = true) {e : Expr} {n : M.Tx} {pos : Pos} {ta : TE} (hn : n ∈ c.T.prs) (hb : bareB e = true) (he : PE X e ta) :
    PE X (.Attribute e (stx n) pos) (fun σ H Q => ta σ H fun v H1 => RO c n v [] H1 Q (fun _ _ _ => False)) := by
  refine ⟨fun pins s σ H Q I h => ?_⟩
  refine attr_of (attr_bare hb) (thn (he.run pins s σ H _ I h) fun u s1 ⟨v, H1, I1, rv, q⟩ => ?_)
  obtain ⟨a, C, dx, fs, kk, m, rfl, ha, hl, ek, oc, en, w⟩ := ro_at o q
  obtain ⟨x, f, fd, ps, _, D, F⟩ := o.meth en
  rw [← o.eK] at oc
  obtain ⟨q', p, eq, hp⟩ := oc.pr n m hn en
  have ef := D.at_ q' eq
  subst ef
  obtain rfl : u = Value.ref a := rv
  obtain ⟨od, J⟩ := inst_at I1 ha
  obtain ⟨rest, hrec⟩ := hp.rec_
  have I2 := I1.tok (s1.toks + 1)
  have r2 : Vals [V.ref a] [Value.ref a] := .cons rfl .nil
  have hlen : [Value.ref a].length = ps.length := by rw [← r2.length]; exact F.len _ _ _ _ w
  have b := D.bd { s1 with toks := s1.toks + 1 } [Value.ref a] I2.kIn (by rw [List.append_nil]; exact hlen)
  rw [List.append_nil] at b
  have hc : c.T.hot = false := not1 hh
  have rm : RoomB false k X.A.in1 := by have := o.roomX.in1; rw [hc] at this; exact this
  have hcl : (PySem.W.clsIn X.K C).isSome = true := by
    obtain ⟨cd, hc, _⟩ := PySem.W.any_some oc.cl.hd
    rw [hc]
    rfl
  refine PySem.W.get_bind I1.kIn J (PySem.W.plainGet_of (oc.cl.get (stx n))).1 (PySem.W.findObj_data hcl hp.at_ hp.get hp.tak) (PySem.W.plainGet_of (oc.cl.get (stx n))).2 (wpAny_call (PySem.W.prop_get (s := { s1 with toks := s1.toks + 1 }) I1.kIn hrec ?_))
  refine codeAny_mono (F.run X.A.in1 X.stack { s1 with toks := s1.toks + 1 } H1 ⟨[.ref a], []⟩ [.ref a] [.ref a] Q _ rm o.gd I2.env0.in1 b r2 w) fun r s' hq => ?_
  cases r with
  | error er => exact False.elim (no_cx hq)
  | ok fl =>
    cases fl with
    | ret u =>
      obtain ⟨v, H', I3, rv, q3⟩ := I2.after hq
      show wpAny _ _ (handedOut u) _ _ _
      rw [PySem.W.handedOut_of (handed_of rv)]
      exact wpAny_pure ⟨v, H', I3, rv, q3⟩
    | next => exact False.elim hq
    | brk => exact False.elim hq
    | cont => exact False.elim hq
/-! ### new objects -/
def RN (c : Cn) (kk : Nat) (gV : V → List V) (H : Hp) (Q : VK) (E : XK) : Prop := ∃ (gD : M.D → List M.D) (S : M.Sto) (Qd : M.VK) (Xd : M.XK), RelS c.K H S ∧ (∀ p S' H', Fr S H S' H' → RelDs c.K H' (gD (.ref p)) (gV (.ref p))) ∧ M.newD c.G kk gD S Qd Xd ∧ OkV c.K S H Qd Q ∧ OkX c S H Xd E
theorem run_new (o : Ok c k N sc X W) (hh : (!c.T.hot) = true) {kk : Nat} {C : Addr} {gV : V → List V} {gU : Value → List Value} {us : List Value} {kw : List (Str × Value)} (hp : M.nmInit ∉ c.T.prs) (ek : c.G.ob kk = some C) (hr : ∀ p : Addr, Vals (gV (.ref p)) (gU (.ref p)))
    (hb : ∀ n y f fd ps, ((kk, M.nmInit), n) ∈ c.T.mtb → Def X.K X.mg c.T n y f fd ps → ∀ (p : Addr) (s : Shared), X.K.In s.heap → (gU (.ref p)).length = ps.length → BindsTo s fd ⟨.ref p :: us, kw⟩ (ps.zip (gU (.ref p))))
    {pins : List (Addr × Obj)} {σ : Sl} {H : Hp} {s : Shared} {Q : VK} (I : Inv X pins σ H s) (h : RN c kk gV H Q (WE W σ)) : wpAny (model X.prog X.w) X.A (call (.ref C) us kw) (EP X pins σ Q) X.xe s := by
  obtain ⟨gD, S, Qd, Xd, r, rg, w, hq, hx⟩ := h
  obtain ⟨n, en, w⟩ := opt_of (w C ek)
  obtain ⟨x, f, fd, ps, hm, D, F⟩ := o.meth en
  have oc := o.oc.ok kk C ek
  rw [← o.eK] at oc
  obtain ⟨q', eq, mt, hfn⟩ := oc.mt M.nmInit n hp en
  have ef := D.at_ q' eq
  subst ef
  have hn : H (s.heap.objs.size + 1) = none := I.hok.fresh (Nat.le_succ _)
  have hd : H s.heap.objs.size = none := I.hok.fresh (Nat.le_refl _)
  have ne : s.heap.objs.size ≠ s.heap.objs.size + 1 := Nat.ne_of_lt (Nat.lt_succ_self _)
  obtain ⟨f0, r0⟩ := ins_new (C := C) (o.oc.ok kk C ek).iso r hn hd ne
  have want : lift c (M.cl (c.G.fn n)) (gV (.ref (s.heap.objs.size + 1))) (L2.upd (L2.upd H s.heap.objs.size (.own (s.heap.objs.size + 1))) (s.heap.objs.size + 1) (.ins C s.heap.objs.size [])) (fun v H2 => v = .non ∧ Q (.ref (s.heap.objs.size + 1)) H2) (WE W σ) := by
    refine ⟨_, _, _, Xd, rg _ _ _ f0, r0, w (s.heap.objs.size + 1) (r.none hn), fun d S' v H' f' r' rd ⟨hi, q⟩ => ?_, hx.after f0⟩
    cases rd with
    | non => exact ⟨rfl, hq _ S' _ H' (f0.trans f') r' (.ref _) q⟩
    | _ => cases hi
  have I2 := Inv.made (C := C) I
  have r2 := hr (s.heap.objs.size + 1)
  have hlen : (gU (.ref (s.heap.objs.size + 1))).length = ps.length := by rw [← r2.length]; exact F.len _ _ _ _ want
  have hc : c.T.hot = false := not1 hh
  have rm : RoomB false k (X.A.under (.builtin "type.__call__" ⟨.ref C :: us, kw⟩)) := by have := o.roomX.make C us kw; rw [hc] at this; exact this
  have gd : (X.A.under (.builtin "type.__call__" ⟨.ref C :: us, kw⟩)).guards = some [] := by
    have := o.gd
    first | exact this | (simp [Around.under, Code.isCreation, Code.isGuard, guardIds, this])
  have hI : PySem.W.findIn X.K (.ref C) "__init__" = some (some (.ref (plA X.K q'))) := mt.at_
  refine wpAny_call (make_map (f := plA X.K q') I.kIn oc.mks hI (beq_iff_eq.mp mt.fn) (codeAny_mono (F.run _ X.stack _ _ ⟨Value.ref (s.heap.objs.size + 1) :: us, kw⟩ (gU (.ref (s.heap.objs.size + 1))) (gV (.ref (s.heap.objs.size + 1))) _ (WE W σ) rm gd
    (I2.env0.make C us kw) (hb n x _ fd ps hm D _ _ I2.kIn hlen) r2 want) fun r s' hq' => ?_))
  cases r with
  | error e => exact pass_ok o σ pins _ _ e s' I2 hq'
  | ok fl =>
    cases fl with
    | ret u =>
      obtain ⟨v, H', I3, rv, ev, q3⟩ := I2.after hq'
      subst ev
      exact ⟨rv, ⟨V.ref (s.heap.objs.size + 1), H', I3, rfl, q3⟩⟩
    | next => exact False.elim hq'
    | brk => exact False.elim hq'
    | cont => exact False.elim hq'
theorem cls_at (o : Ok c k N sc X W) {kk : Nat} {x : Str} (hx : c.T.ocs[kk]? = some x) : ∃ C, X.mg x = some (.ref C) ∧ c.G.ob kk = some C ∧ PySem.W.keepIn X.K (.ref C) = true := by
  obtain ⟨C, h1, h2⟩ := o.oc.nm kk x hx
  rw [o.em, o.eK]
  exact ⟨C, h1, h2, (o.oc.ok kk C h2).kp⟩
theorem pe_newM (o : Ok c k N sc X W) (hh : (!c.T.hot) = true) {kk : Nat} {x : Str} {es : List Expr} {p pos : Pos} {t : TA} (hx : c.T.ocs[kk]? = some x) (hp' : M.nmInit ∉ c.T.prs) (hg : glB sc x = true) (hd : (x == ("__debug__" : Str)) = false) (ha : PA X es t) (hp : es.all plB = true) (h0 : es = [] → ∀ σ H Q, t σ H Q → Q [] H) :
    PE X (.Call (.Name x p) es [] pos) (fun σ H Q => t σ H fun vs H1 => RN c kk (fun p => p :: vs) H1 Q (WE W σ)) := by
  obtain ⟨C, m1, ek, kp⟩ := cls_at o hx
  have go : ∀ {pins : List (Addr × Obj)} {s : Shared} {σ : Sl} {H : Hp} {Q : VK} {us : List Value} {vs : List V}, Inv X pins σ H s → Vals vs us → RN c kk (fun p => p :: vs) H Q (WE W σ) → wpAny (model X.prog X.w) X.A (call (.ref C) us) (EP X pins σ Q) X.xe s := by
    intro pins s σ H Q us vs I r q
    refine run_new o hh (gU := fun p => p :: us) hp' ek (fun p => Paired.cons (show RelV (V.ref p) (Value.ref p) from rfl) r) (fun n y f fd ps _ D p s hK hl => ?_) I q
    have b := D.bd s (Value.ref p :: us) hK (by rw [List.append_nil]; exact hl)
    rw [List.append_nil] at b
    exact b
  refine ⟨fun pins s σ H Q I h => ?_⟩
  refine wpAny_Call_Name_kw (ld_glob I (o.gl hg) m1 ?_ hd)
  cases es with
  | nil =>
    refine PySem.W.callWith_K0 I.kIn kp ?_
    exact go I .nil (h0 rfl _ _ _ h)
  | cons e es =>
    have hp' := and2 (show (plB e && es.all plB) = true from hp)
    exact PySem.W.callWith_K (h₀ := X.base) I.ok.mod.kin kp (thn (ha.run pos pins s σ H _ I h) fun us s1 ⟨vs, H1, I1, r, q⟩ => ⟨I1.kIn, go I1 r q⟩) (plB_star hp'.1) (plB_all hp'.2)
theorem pe_newkM (o : Ok c k N sc X W) (hh : (!c.T.hot) = true) {kk m : Nat} {perm : List Nat} {nms : List Str} {x : Str} {es : List Expr} {kws : List Keyword} {p pos : Pos} {t tk : TA} (hx : c.T.ocs[kk]? = some x) (hp' : M.nmInit ∉ c.T.prs) (hg : glB sc x = true) (hd : (x == ("__debug__" : Str)) = false) (ha : PA X es t) (hp : es.all plB = true) (h0 : es = [] → ∀ σ H Q, t σ H Q → Q [] H)
    (hk : PK X kws tk) (hn : kwsB kws = some nms) (hm : ∀ e ∈ c.T.mtb, e.1 = (kk, M.nmInit) → (e.2, m + 1, nms, perm) ∈ c.T.kws) :
    PE X (.Call (.Name x p) es kws pos) (fun σ H Q => t σ H fun vs H1 => tk σ H1 fun zs H2 => vs.length = m ∧ zs.length = nms.length ∧ RN c kk (fun p => perm.filterMap fun i => ((p :: vs) ++ zs)[i]?) H2 Q (WE W σ)) := by
  obtain ⟨C, m1, ek, kp⟩ := cls_at o hx
  obtain ⟨k1, k2, k3, k4⟩ := kws_len hn pos X.env
  have go : ∀ {pins : List (Addr × Obj)} {s : Shared} {σ : Sl} {H : Hp} {Q : VK} {us ws : List Value} {vs zs : List V}, Inv X pins σ H s → Vals vs us → Vals zs ws → vs.length = m → zs.length = nms.length → RN c kk (fun p => perm.filterMap fun i => ((p :: vs) ++ zs)[i]?) H Q (WE W σ) →
      wpAny (model X.prog X.w) X.A (call (.ref C) us (nms.zip ws)) (EP X pins σ Q) X.xe s := by
    intro pins s σ H Q us ws vs zs I r rz l1 l2 q
    refine run_new o hh (gU := fun p => perm.filterMap fun i => ((p :: us) ++ ws)[i]?) hp' ek (fun p => vals_fm (Vals.append (Paired.cons (show RelV (V.ref p) (Value.ref p) from rfl) r) rz) perm) (fun n y f fd ps he D p s hK hl => ?_) I q
    exact D.kb (m + 1) nms perm (hm _ he rfl) s (Value.ref p :: us) ws hK (by rw [List.length_cons, ← r.length, l1]) (by rw [← rz.length]; exact l2)
  refine ⟨fun pins s σ H Q I h => ?_⟩
  refine wpAny_Call_Name_kw (ld_glob I (o.gl hg) m1 ?_ hd)
  cases es with
  | nil =>
    refine PySem.W.callWith_KW0 (h₀ := X.base) I.ok.mod.kin kp k1 (thn (hk.run pos pins s σ H _ I (h0 rfl _ _ _ h)) fun ws s2 ⟨zs, H2, I2, rz, q2⟩ => ⟨I2.kIn, ?_⟩) (by show (false || _) = false; rw [k3]; rfl)
    rw [k2]
    exact go I2 .nil rz q2.1 q2.2.1 q2.2.2
  | cons e es =>
    have hp' := and2 (show (plB e && es.all plB) = true from hp)
    refine PySem.W.callWith_KW (h₀ := X.base) I.ok.mod.kin kp k1 (thn (ha.run pos pins s σ H _ I h) fun us s1 ⟨vs, H1, I1, r, q⟩ => ?_) (by rw [plB_all hp, k3]; rfl) (plB_star hp'.1)
    refine thn (hk.run pos pins s1 σ H1 _ I1 q) fun ws s2 ⟨zs, H2, I2, rz, q2⟩ => ⟨I2.kIn, ?_⟩
    rw [k2]
    exact go I2 r rz q2.1 q2.2.1 q2.2.2
end
end Snd
namespace Snd
open PySem PySem.Spec PyProof.Rows L2
section
variable {c : Cn} {k : Nat} {N : List Str} {sc : Scope} {X : Cx} {W : WX}
/-! ### an object is called -/
theorem callO_kw {M : Model} {A : Around} {E : Value → Shared → Prop} {s : Shared} {a : Addr} {pos : Pos} {Q : Value → Shared → Prop} {args : List (Bool × Sem Value)} {kws : List (Option Str × Sem Value)} (hplain : (args.any (·.1) || kws.any (·.1.isNone)) = false)
    (h : wpAny M A (evalArgs (.ref a) true args kws) (fun z s₁ => (∃ C ox od, PySem.W.InstAt s₁.heap a ox C od ∧ ox.data = .plain) ∧ wpAny M A (call (.ref a) ([] ++ z.pos) z.kw) Q E s₁) E s) : wpAny M A (callWith pos (.ref a) [] args kws) Q E s := by
  unfold callWith
  refine wpAny_bind (wpAny_holding (wpAny_mono h (fun z s₁ h₁ => wpAny_bind (wpAny_standAt ?_)) fun _ _ y => y))
  obtain ⟨⟨C, ox, od, J, hd⟩, h₁⟩ := h₁
  have L := PySem.W.kco_keeper (M := M) J hd
  simp only [hplain]
  refine wpAny_bind (L.here ?_)
  have tail : ∀ {t : Sem Value}, wpAny M A t Q E s₁ → wpAny M A (t >>= fun r => holding [r] point >>= fun _ => pure r) Q E s₁ :=
    fun ht => wpAny_bind (wpAny_mono ht (fun r s₂ hr => wpAny_bind (wpAny_holding (wpAny_point (wpAny_pure hr)))) fun _ _ y => y)
  exact tail (wpAny_operateT h₁)
theorem stx_call : stx M.nmCall = ("__call__" : Str) := by decide +kernel
theorem stx_neg : stx M.nmNeg = ("__neg__" : Str) := by decide +kernel
theorem stx_and : stx M.nmAnd = ("__and__" : Str) := by decide +kernel
theorem stx_eq : stx M.nmEq = ("__eq__" : Str) := by decide +kernel
theorem stx_in : stx M.nmIn = ("__contains__" : Str) := by decide +kernel
/-- what a call of an object tells, the values in the parameters' order -/
def RK (c : Cn) (a : Addr) (vs : List V) (H : Hp) (Q : VK) (E : XK) : Prop := ∃ C dx fs kk n, H a = some (.ins C dx fs) ∧ c.G.ob kk = some C ∧ c.G.mt kk M.nmCall = some n ∧ lift c (M.cl (c.G.fn n)) vs H Q E
theorem run_ocl (o : Ok c k N sc X W) (hh : (!c.T.hot) = true) (hp : M.nmCall ∉ c.T.prs) {a : Addr} {vs : List V} {ps0 us : List Value} {kw : List (Str × Value)} {pins : List (Addr × Obj)} {σ : Sl} {H : Hp} {s : Shared} {Q : VK} (I : Inv X pins σ H s) (r : Vals vs us)
    (hb : ∀ kk n y f fd ps, ((kk, M.nmCall), n) ∈ c.T.mtb → Def X.K X.mg c.T n y f fd ps → us.length = ps.length → BindsTo s fd ⟨.ref a :: ps0, kw⟩ (ps.zip us)) (h : RK c a vs H Q (WE W σ)) :
    (∃ C ox od, PySem.W.InstAt s.heap a ox C od ∧ ox.data = .plain) ∧ wpAny (model X.prog X.w) X.A (call (.ref a) ps0 kw) (EP X pins σ Q) X.xe s := by
  obtain ⟨C, dx, fs, kk, n, ha, ek, en, w⟩ := h
  obtain ⟨x, f, fd, ps, hm, D, F⟩ := o.meth en
  have oc := o.oc.ok kk C ek
  rw [← o.eK] at oc
  obtain ⟨q', eq, mt, hfn⟩ := oc.mt M.nmCall n hp en
  have ef := D.at_ q' eq
  subst ef
  obtain ⟨od, J⟩ := inst_at I ha
  have hlen : us.length = ps.length := by rw [← r.length]; exact F.len _ _ _ _ w
  have hc : c.T.hot = false := not1 hh
  have rm : RoomB false k X.A := by have := o.room; rw [hc] at this; exact this
  have hat := mt.at_
  rw [stx_call] at hat
  refine ⟨⟨C, _, _, J, rfl⟩, wpAny_call (PySem.W.kco_code I.kIn J rfl hat mt.fn hfn (codeAny_mono (F.run X.A X.stack s H ⟨.ref a :: ps0, kw⟩ us vs Q (WE W σ) rm o.gd I.env0 (hb kk n x _ fd ps hm D hlen) r w) fun r s' hq => ?_))⟩
  cases r with
  | error e => exact pass_ok o σ pins H s e s' I hq
  | ok fl =>
    cases fl with
    | ret u => exact I.after hq
    | next => exact False.elim hq
    | brk => exact False.elim hq
    | cont => exact False.elim hq
theorem pe_oclM (o : Ok c k N sc X W) (hh : (!c.T.hot) = true) (hp : M.nmCall ∉ c.T.prs) {fe e : Expr} {es : List Expr} {pos : Pos} {tf : TE} {t : TA} (hf : PE X fe tf) (ha : PA X (e :: es) t) (hpl : (e :: es).all plB = true)
    (ht : eval (.Call fe (e :: es) [] pos) X.env = (do callWith pos (← eval fe X.env) [] (backTo pos (starEach (e :: es) X.env)) (backToKw pos (keywordEach [] X.env)))) :
    PE X (.Call fe (e :: es) [] pos) (fun σ H Q => tf σ H fun y H1 => ∃ a, y = .ref a ∧ t σ H1 fun vs H2 => RK c a (.ref a :: vs) H2 Q (WE W σ)) := by
  refine ⟨fun pins s σ H Q I h => ?_⟩
  refine Call_ (thn (hf.run pins s σ H _ I h) fun u s1 ⟨y, H1, I1, ry, a, ey, q⟩ => ?_) ht
  subst ey
  obtain rfl : u = Value.ref a := ry
  have hp' := and2 (show (plB e && es.all plB) = true from hpl)
  refine StX.callO_with (thn (ha.run pos pins s1 σ H1 _ I1 q) fun us s2 ⟨vs, H2, I2, r, q2⟩ => ?_) (plB_star hp'.1) (plB_all hp'.2)
  refine run_ocl o hh hp I2 (.cons (show RelV (V.ref a) (Value.ref a) from rfl) r) (fun kk n y f fd ps _ D hl => ?_) q2
  have b := D.bd s2 (Value.ref a :: us) I2.kIn (by rw [List.append_nil]; exact hl)
  rw [List.append_nil] at b
  exact b
theorem call_eval {fe : Expr} {es : List Expr} {pos : Pos} {env : Env} (h : objE fe = true) : eval (.Call fe es [] pos) env = (do callWith pos (← eval fe env) [] (backTo pos (starEach es env)) (backToKw pos (keywordEach [] env))) := by
  cases fe <;> first | rfl | exact arm_eval_Call_Name' .. | cases h
theorem pe_oclkM (o : Ok c k N sc X W) (hh : (!c.T.hot) = true) (hp : M.nmCall ∉ c.T.prs) {perm : List Nat} {nms : List Str} {x : Str} {p : Pos} {kws : List Keyword} {pos : Pos} {tf : TE} {tk : TA} (hf : PE X (.Name x p) tf)
    (hk : PK X kws tk) (hn : kwsB kws = some nms) (hm : ∀ e ∈ c.T.mtb, e.1.2 = M.nmCall → (e.2, 1, nms, perm) ∈ c.T.kws) :
    PE X (.Call (.Name x p) [] kws pos) (fun σ H Q => tf σ H fun y H1 => ∃ a, y = .ref a ∧ tk σ H1 fun zs H2 => zs.length = nms.length ∧ RK c a (perm.filterMap fun i => (V.ref a :: zs)[i]?) H2 Q (WE W σ)) := by
  obtain ⟨k1, k2, k3, k4⟩ := kws_len hn pos X.env
  refine ⟨fun pins s σ H Q I h => ?_⟩
  refine wpAny_Call_Name_kw (thn (hf.run pins s σ H _ I h) fun u s1 ⟨y, H1, I1, ry, a, ey, q⟩ => ?_)
  subst ey
  obtain rfl : u = Value.ref a := ry
  refine callO_kw (by show (false || _) = false; rw [k3]; rfl) (evalArgs_kw_nil k1 (thn (hk.run pos pins s1 σ H1 _ I1 q) fun ws s2 ⟨zs, H2, I2, rz, hl, q2⟩ => ?_))
  rw [k2]
  refine run_ocl o hh hp I2 (us := perm.filterMap fun i => (Value.ref a :: ws)[i]?) (vals_fm (Paired.cons (show RelV (V.ref a) (Value.ref a) from rfl) rz) perm) (fun kk n y f fd ps he D _ => ?_) q2
  exact D.kb 1 nms perm (hm _ he rfl) s2 [Value.ref a] ws I2.kIn rfl (by rw [← rz.length]; exact hl)
/-! ### own operators -/
theorem cmpBack {pins : List (Addr × Obj)} {σ : Sl} {Q : VK} {u : Value} {s' : Shared} (h : EP X pins σ Q u s') : PySem.W.CmpBack (EP X pins σ Q) u s' := by
  obtain ⟨v, H', I', rv, q⟩ := h
  have ne : u ≠ .notImplemented := by
    intro z
    subst z
    cases v with
    | int _ => obtain ⟨_, z⟩ := rv; cases z
    | str _ => obtain ⟨_, z⟩ := rv; cases z
    | byt _ => obtain ⟨_, z⟩ := rv; cases z
    | flt _ => obtain ⟨_, z⟩ := rv; cases z
    | _ => cases rv
  cases u <;> first | exact absurd rfl ne | exact ⟨v, H', I', rv, q⟩
theorem pe_ounM (o : Ok c k N sc X W) (hh : (!c.T.hot) = true) (hp : M.nmNeg ∉ c.T.prs) {e : Expr} {pos : Pos} {te : TE} (he : PE X e te) : PE X (.UnaryOp .USub e pos) (fun σ H Q => te σ H fun v H1 => RO c M.nmNeg v [] H1 Q (WE W σ)) := by
  refine ⟨fun pins s σ H Q I h => ?_⟩
  refine UnaryOp_ (thn (he.run pins s σ H _ I h) fun u s1 ⟨v, H1, I1, rv, q⟩ => ?_)
  obtain ⟨a, C, dx, fs, f, kk, rfl, rfl, ha, hl, ek, oc, mt, hfn, run⟩ := ro_run o hh hp I1 rv .nil q
  obtain ⟨od, J⟩ := inst_at I1 ha
  obtain ⟨m, fr⟩ := I1.fr
  have hat := mt.at_
  rw [stx_neg] at hat
  exact PySem.W.ksp_neg fr I1.ok.mod.kin J hat mt.fn run
/-- the type of the right operand -/
theorem rgt_ty {H : Hp} {S : M.Sto} {C : Addr} {y : M.D} {v : V} {u : Value} {pins : List (Addr × Obj)} {σ : Sl} {s : Shared} (I : Inv X pins σ H s) (r : RelS X.K H S) (ry : RelD X.K H y v) (rv : RelV v u) (h : M.rgtD S C y) :
    (∃ n ∈ tyNs, PySem.W.Looks (model X.prog X.w) s.heap (typeOf u) (.type n)) ∨ PySem.W.Looks (model X.prog X.w) s.heap (typeOf u) (.ref C) := by
  have at_ : ∀ {a : Addr} {T : String} {o : Obj}, s.heap.get? a = some o → o.cls = .type T → PySem.W.Looks (model X.prog X.w) s.heap (typeOf (.ref a)) (.type T) := fun {a T o} e hc => by
    have e2 := e
    rw [show o = { o with cls := .type T } by cases o; cases hc; rfl] at e2
    exact (PySem.W.Looks.ld (part := some headPart) e2).andThen .now
  rcases h with h | h
  · left
    cases ry with
    | non => cases rv; exact ⟨"NoneType", by simp [tyNs], PySem.W.Looks.of_pure rfl⟩
    | bl b => cases rv; exact ⟨"bool", by simp [tyNs], PySem.W.Looks.of_pure rfl⟩
    | int i => obtain ⟨t, rfl⟩ := rv; exact ⟨"int", by simp [tyNs], PySem.W.Looks.of_pure rfl⟩
    | str x => obtain ⟨t, rfl⟩ := rv; exact ⟨"str", by simp [tyNs], PySem.W.Looks.of_pure rfl⟩
    | tup h1 h2 =>
      cases rv
      obtain ⟨its, rr, ⟨o, ho, hc, _⟩, _⟩ := I.tuple h1
      exact ⟨"tuple", by simp [tyNs], at_ ho hc⟩
    | fl h1 h2 =>
      cases rv
      obtain ⟨its, rr, ⟨o, m, ho, hc, _⟩, _⟩ := I.list h1.sq
      exact ⟨"list", by simp [tyNs], at_ ho hc⟩
    | xn _ => exact False.elim h
    | ref a =>
      cases rv
      have h : (match S a with
        | some (.ins _ _) => False
        | some _ => True
        | none => False) := h
      cases e : S a with
      | none => rw [e] at h; exact False.elim h
      | some o =>
        rw [e] at h
        cases o with
        | lst xs =>
          obtain ⟨vs, h1, h2⟩ := r a _ e
          obtain ⟨its, rr, ⟨o, m, ho, hc, _⟩, _⟩ := I.list (SqL.of h1)
          exact ⟨"list", by simp [tyNs], at_ ho hc⟩
        | dic =>
          have hH : H a = some (.dK []) := r a _ e
          obtain ⟨z, hS, vs, kv, o, es, ep, ho, hc, _⟩ := dk_of I.hok hH
          exact ⟨"dict", by simp [tyNs], at_ ho hc.1⟩
        | dct kvs =>
          obtain ⟨ws, hH, h2⟩ := r a _ e
          obtain ⟨z, hS, vs, kv, o, es, ep, ho, hc, _⟩ := dk_of I.hok hH
          exact ⟨"dict", by simp [tyNs], at_ ho hc.1⟩
        | ins _ _ => exact False.elim h
  · right
    obtain ⟨a, D, fs, rfl, e, rfl⟩ := onO_of h
    cases ry
    cases rv
    obtain ⟨dx, ws, h1, h2, h3⟩ := r a _ e
    obtain ⟨od, J⟩ := inst_at I h1
    exact J.type
def ROr (c : Cn) (m : M.Tx) (v w : V) (H : Hp) (Q : VK) (E : XK) : Prop := ∃ x y S Qd Xd, RelS c.K H S ∧ RelD c.K H x v ∧ RelD c.K H y w ∧ (M.onO S x fun C _ => M.rgtD S C y ∧ M.mcall c.G m x [y] S Qd Xd) ∧ OkV c.K S H Qd Q ∧ OkX c S H Xd E
theorem ror_at {m : M.Tx} {v w : V} {H : Hp} {Q : VK} {E : XK} (h : ROr c m v w H Q E) : RO c m v [w] H Q E ∧ ∃ a C fs y S, v = .ref a ∧ S a = some (.ins C fs) ∧ RelS c.K H S ∧ RelD c.K H y w ∧ M.rgtD S C y := by
  obtain ⟨x, y, S, Qd, Xd, r, rx, ry, w, hq, hx⟩ := h
  obtain ⟨a, C, fs, rfl, e, h1, h2⟩ := onO_of w
  refine ⟨⟨_, [y], S, Qd, Xd, r, rx, .cons ry .nil, h2, hq, hx⟩, ?_⟩
  cases rx
  exact ⟨a, C, fs, y, S, rfl, e, r, ry, h1⟩
theorem same_cls {K : Frag} {H : Hp} {S : M.Sto} {a C D dx : Addr} {fs : List (M.Tx × M.D)} {gs : List (Str × V)} (r : RelS K H S) (e : S a = some (.ins C fs)) (h : H a = some (.ins D dx gs)) : C = D := by
  obtain ⟨dx', ws, h1, _⟩ := r a _ e
  rw [h1] at h
  cases h
  rfl
theorem pe_oandM (o : Ok c k N sc X W) (hh : (!c.T.hot) = true) (hp : M.nmAnd ∉ c.T.prs) {e e2 : Expr} {pos : Pos} {te tf : TE} (he : PE X e te) (hf : PE X e2 tf) :
    PE X (.BinOp e .BitAnd e2 pos) (fun σ H Q => tOp (fun v w H Q => ROr c M.nmAnd v w H Q (WE W σ)) te tf σ H Q) := by
  refine ⟨fun pins s σ H Q I h => ?_⟩
  refine wpAny_BinOp (binT he hf I h fun u1 u2 s2 v w H2 I2 rv rw' q => ?_)
  obtain ⟨q, a', C', fs', y, S, ev, es, r, ry, hr⟩ := ror_at q
  obtain ⟨a, C, dx, fs, f, kk, rfl, rfl, ha, hl, ek, oc, mt, hfn, run⟩ := ro_run o hh hp I2 rv (.cons rw' .nil) q
  cases ev
  have eC := same_cls r es ha
  subst eC
  obtain ⟨od, J⟩ := inst_at I2 ha
  obtain ⟨m, fr⟩ := I2.fr
  have hat := mt.at_
  rw [stx_and] at hat
  rw [← o.eK] at r ry
  have back := wpAny_mono run (fun _ _ z => cmpBack z) fun _ _ z => z
  rcases rgt_ty I2 r ry rw' hr with ⟨n, hn, L⟩ | L
  · obtain ⟨⟨fo, h1⟩, ro, h2⟩ := oc.andl n hn
    exact PySem.W.sno_binT (op := .BitAnd) fr I2.ok.mod.kin J L oc.sf hat mt.fn oc.andr (.inl rfl) h1 h2 (oc.sub n hn).1 back
  · exact PySem.W.sno_binS (op := .BitAnd) fr I2.ok.mod.kin J L oc.sf hat mt.fn back
/-- == by an own __eq__ -/
def rOeq (c : Cn) : R2 := fun v w H Q => ROr c M.nmEq v w H (fun z H2 => ∃ b, z = .bl b ∧ Q (.bl b) H2) (fun _ _ _ => False)
theorem op_oeq (o : Ok c k N sc X W) (hh : (!c.T.hot) = true) (hp : M.nmEq ∉ c.T.prs) : OpR X (compareOp .Eq) (rOeq c) := by
  intro pins s σ H v w u1 u2 Q I rv rw' q
  obtain ⟨q, a', C', fs', y, S, ev, es, r, ry, hr⟩ := ror_at q
  have q2 : RO c M.nmEq v [w] H (fun z H2 => ∃ b, z = .bl b ∧ Q (.bl b) H2) (WE W σ) := by
    obtain ⟨x, ds, S, Qd, Xd, r, rx, rds, w, hq, hx⟩ := q
    exact ⟨x, ds, S, Qd, Xd, r, rx, rds, w, hq, fun k fs S' H' cls d f r rx q => False.elim (hx k fs S' H' cls d f r rx q)⟩
  obtain ⟨a, C, dx, fs, f, kk, rfl, rfl, ha, hl, ek, oc, mt, hfn, run⟩ := ro_run o hh hp I rv (.cons rw' .nil) q2
  cases ev
  have eC := same_cls r es ha
  subst eC
  obtain ⟨od, J⟩ := inst_at I ha
  obtain ⟨m, fr⟩ := I.fr
  have hat := mt.at_
  rw [stx_eq] at hat
  rw [← o.eK] at r ry
  have hu : X.A.units < cLine := by have := o.room.units; omega
  have back : wpAny (model X.prog X.w) X.A (call (.ref f) [.ref a', u2]) (PySem.W.CmpBack (EP X pins σ Q)) X.xe s := wpAny_mono run (fun u' s' ⟨z, H', I', rz, b, ez, qz⟩ => by
    subst ez
    cases rz
    exact cmpBack ⟨.bl b, H', I', rfl, qz⟩) fun _ _ z => z
  show wpAny (model X.prog X.w) X.A (richCompare .Eq (.ref a') u2) (EP X pins σ Q) X.xe s
  rcases rgt_ty I r ry rw' hr with ⟨n, hn, L⟩ | L
  · exact PySem.W.cmp_K (op := .Eq) hu fr I.ok.mod.kin J L (by unfold PySem.W.notFirst; rw [(oc.sub n hn).1]; simp) hat mt.fn back
  · exact PySem.W.cmp_K (op := .Eq) hu fr I.ok.mod.kin J L (by unfold PySem.W.notFirst; simp) hat mt.fn back
/-- in by an own __contains__ -/
def rOin (c : Cn) (n : Bool) : R2 := fun w v H Q => RO c M.nmIn v [w] H (fun z H2 => ∃ b, z = .bl b ∧ Q (.bl (if n = true then !b else b)) H2) (fun _ _ _ => False)
theorem op_oin (o : Ok c k N sc X W) (hh : (!c.T.hot) = true) (hp : M.nmIn ∉ c.T.prs) : OpR X (compareOp .In) (rOin c false) ∧ OpR X (compareOp .NotIn) (rOin c true) := by
  have go : ∀ (n : Bool) (pins : List (Addr × Obj)) (s : Shared) (σ : Sl) (H : Hp) (w v : V) (u2 u1 : Value) (Q : VK), Inv X pins σ H s → RelV w u2 → RelV v u1 → rOin c n w v H Q →
      ∃ a C dx f od m, u1 = .ref a ∧ PySem.W.InstAt s.heap a (PySem.W.instObj C dx) C (some od) ∧ PyProof.Rows.Fr X.base X.env.locals s.heap m ∧ PySem.W.findIn X.K (.ref C) "__contains__" = some (some (.ref f)) ∧ PySem.W.isFn X.K (.ref f) = true ∧
        wpAny (model X.prog X.w) X.A (call (.ref f) [.ref a, u2]) (fun u' s' => ∃ b, u' = .bool b ∧ EP X pins σ Q (.bool (if n = true then !b else b)) s') X.xe s := by
    intro n pins s σ H w v u2 u1 Q I rw' rv q
    have q2 : RO c M.nmIn v [w] H (fun z H2 => ∃ b, z = .bl b ∧ Q (.bl (if n = true then !b else b)) H2) (WE W σ) := by
      obtain ⟨x, ds, S, Qd, Xd, r, rx, rds, w, hq, hx⟩ := q
      exact ⟨x, ds, S, Qd, Xd, r, rx, rds, w, hq, fun k fs S' H' cls d f r rx q => False.elim (hx k fs S' H' cls d f r rx q)⟩
    obtain ⟨a, C, dx, fs, f, kk, rfl, rfl, ha, hl, ek, oc, mt, hfn, run⟩ := ro_run o hh hp I rv (.cons rw' .nil) q2
    obtain ⟨od, J⟩ := inst_at I ha
    obtain ⟨m, fr⟩ := I.fr
    have hat := mt.at_
    rw [stx_in] at hat
    exact ⟨a, C, dx, f, od, m, rfl, J, fr, hat, mt.fn, wpAny_mono run (fun u' s' ⟨z, H', I', rz, b, ez, qz⟩ => by
      subst ez
      cases rz
      exact ⟨b, rfl, .bl _, H', I', rfl, qz⟩) fun _ _ z => z⟩
  constructor
  · intro pins s σ H w v u2 u1 Q I rw' rv q
    obtain ⟨a, C, dx, f, od, m, rfl, J, fr, hat, hf, run⟩ := go false pins s σ H w v u2 u1 Q I rw' rv q
    exact PySem.W.in_K fr I.ok.mod.kin J hat hf (wpAny_mono run (fun u' s' ⟨b, eb, z⟩ => by subst eb; exact wpAny_truthy_bool z) fun _ _ z => z)
  · intro pins s σ H w v u2 u1 Q I rw' rv q
    obtain ⟨a, C, dx, f, od, m, rfl, J, fr, hat, hf, run⟩ := go true pins s σ H w v u2 u1 Q I rw' rv q
    exact PySem.W.notIn_K fr I.ok.mod.kin J hat hf (wpAny_mono run (fun u' s' ⟨b, eb, z⟩ => by subst eb; exact wpAny_truthy_bool z) fun _ _ z => z)
end
end Snd
namespace Snd
open PySem PySem.Spec PyProof.Rows L2
section
variable {c : Cn} {k : Nat} {N : List Str} {sc : Scope} {X : Cx} {W : WX}
theorem isc_rel (o : Ok c k N sc X W) {kk : Nat} {D : Addr} (ek : c.G.ob kk = some D) {H : Hp} {S : M.Sto} {x : M.D} {v : V} {P : Bool → Prop} {Q : VK} (r : RelS c.K H S) (rx : RelD c.K H x v) (w : M.iscD c.G kk x S P) (hq : ∀ b, P b → Q (.bl b) H) : rIsi X.K [v, .ref D] H Q := by
  have oc := o.oc.ok kk D ek
  rw [o.eK]
  have fin : ∀ {n : String}, n ∈ tyNs → TyX c.K H v (.type n) → P false → rIsi c.K [v, .ref D] H Q := fun {n} hn t p => ⟨v, .ref D, .type n, .ref D, false, rfl, .own D, t, (oc.sub n hn).2, hq _ p⟩
  cases rx with
  | non => exact fin (n := "NoneType") (by simp [tyNs]) (.base .non) w
  | bl b => exact fin (n := "bool") (by simp [tyNs]) (.base (.bl b)) w
  | int i => exact fin (n := "int") (by simp [tyNs]) (.base (.int i)) w
  | str y => exact fin (n := "str") (by simp [tyNs]) (.base (.str _)) w
  | tup h1 h2 =>
    refine fin (n := "tuple") (by simp [tyNs]) ?_ w
    rcases h1 with (h | ⟨o, h⟩) | ⟨o, its, n, hk, hc, _⟩
    · exact .base (.tup h)
    · exact .fTuple h
    · exact .kTuple hk hc
  | fl h1 h2 =>
    refine fin (n := "list") (by simp [tyNs]) ?_ w
    rcases h1 with ⟨o, h⟩ | ⟨o, its, n, hk, hc, _⟩
    · exact .base (.frz h)
    · exact .kList hk hc
  | xn _ => exact False.elim w
  | ref a =>
    have w : M.iscO c.G kk P (S a) := w
    cases e : S a with
    | none => rw [e] at w; exact False.elim w
    | some ob =>
      rw [e] at w
      cases ob with
      | lst xs => obtain ⟨vs, h1, _⟩ := r a _ e; exact fin (n := "list") (by simp [tyNs]) (.base (.lst h1)) w
      | dic => exact fin (n := "dict") (by simp [tyNs]) (.base (.dK (r a _ e))) w
      | dct kvs => obtain ⟨vs, h1, _⟩ := r a _ e; exact fin (n := "dict") (by simp [tyNs]) (.base (.dK h1)) w
      | ins C fs =>
        obtain ⟨dx, vs, h1, _⟩ := r a _ e
        obtain ⟨j, ej, p⟩ := w
        have od := o.oc.ok j C ej
        exact ⟨.ref a, .ref D, .ref C, .ref D, c.G.os j kk, rfl, .own D, .base (.ins h1 od.cl od.ha od.hn od.ht od.hm), od.isc kk D ek, hq _ p⟩
theorem isc_name (o : Ok c k N sc X W) {kk : Nat} {z : Str} (hx : c.T.ocs[kk]? = some z) (hg : glB sc z = true) (hd : (!dbgB z) = true) : ∃ D, c.G.ob kk = some D ∧ ∀ p, PE X (.Name z p) (tC (.ref D)) := by
  obtain ⟨D, m1, ek, _⟩ := cls_at o hx
  exact ⟨D, ek, fun p => pe_glob (o.gl hg) m1 rfl (dbg_of hd).1⟩
end
end Snd
namespace Snd
open PySem PySem.Spec PyProof.Rows L2
section
variable {c : Cn} {k : Nat} {N : List Str} {sc : Scope} {X : Cx} {W : WX}
theorem rk_of (o : Ok c k N sc X W) {a : Addr} {vs : List V} {H : Hp} {Q : VK} {E : XK} (h : RO c M.nmCall (.ref a) vs H Q E) : RK c a (.ref a :: vs) H Q E := by
  obtain ⟨a', C, dx, fs, kk, n, ev, ha, hl, ek, oc, en, w⟩ := ro_at o h
  cases ev
  exact ⟨C, dx, fs, kk, n, ha, ek, en, w⟩
theorem rk_ofk {a : Addr} {ds : List M.D} {vs : List V} {perm : List Nat} {S : M.Sto} {H : Hp} {Qd : M.VK} {Xd : M.XK} {Q : VK} {E : XK} (r : RelS c.K H S) (rz : RelDs c.K H ds vs)
    (w : M.onO S (.ref a) fun C fs => fs.lookup M.nmCall = none ∧ ∃ k, c.G.ob k = some C ∧ M.opt (c.G.mt k M.nmCall) fun f => M.cl (c.G.fn f) (perm.filterMap fun i => (M.D.ref a :: ds)[i]?) S Qd Xd) (hq : OkV c.K S H Qd Q) (hx : OkX c S H Xd E) :
    RK c a (perm.filterMap fun i => (V.ref a :: vs)[i]?) H Q E := by
  obtain ⟨a', C, fs, ea, e, hn, kk, ek, w⟩ := onO_of w
  obtain ⟨n, en, w⟩ := opt_of w
  cases ea
  obtain ⟨dx, ws, h1, h2, h3⟩ := r a _ e
  exact ⟨C, dx, _, kk, n, h1, ek, en, _, S, Qd, Xd, rels_fm (.cons (.ref a) rz) perm, r, w, hq, hx⟩
theorem eq_back {S : M.Sto} {H : Hp} {Qd : M.VK} {Q : VK} {g : Bool → Bool} {K : Frag} (hq : OkV K S H Qd Q) : OkV K S H (fun v S1 => M.onB v fun b => Qd (.bl (g b)) S1) (fun z H2 => ∃ b, z = .bl b ∧ Q (.bl (g b)) H2) := fun d S' v H' f' r' rd q => by
  obtain ⟨b, rfl, q⟩ := onB_of q
  cases rd
  exact ⟨b, rfl, hq _ S' _ H' f' r' (.bl _) q⟩
end
end Snd
namespace Snd
open PySem PySem.Spec PyProof.Rows L2
section
variable {c : Cn} {k : Nat} {N : List Str}
theorem zip_cases {x y : M.D} {S : M.Sto} {R : M.IK} (w : M.zipD x y S R) : (∃ xs ys, x = .tup xs ∧ y = .tup ys ∧ R (M.zipP xs ys) (fun _ => True) S) ∨
    (∃ a ys, x = .str a ∧ y = .tup ys ∧ R (M.zipP (a.map fun c => .str [c]) ys) (fun _ => True) S) ∨
    M.opt (M.lsOf S x) fun xs => M.opt (M.lsOf S y) fun ys => R (M.zipP xs ys) (fun S' => M.lsOf S' x = some xs ∧ M.lsOf S' y = some ys) S := by
  cases x <;> cases y <;> first | exact .inl ⟨_, _, rfl, rfl, w⟩ | exact .inr (.inl ⟨_, _, rfl, rfl, w⟩) | exact .inr (.inr w)
theorem tupB_of {tg : Expr} (h : isTupB tg = true) : ∃ es k p, tg = .Tuple es k p := by
  cases tg <;> first | exact ⟨_, _, _, rfl⟩ | cases h
theorem oin_cases {b : M.Co} {p : CmpOp} (h2 : coOk b p = true) (h3 : (decide (b = .in_) || decide (b = .nin)) = true) : (b = .in_ ∧ p = .In) ∨ (b = .nin ∧ p = .NotIn) := by
  rcases Bool.or_eq_true_iff.mp h3 with e | e
  · have e := of_decide_eq_true e
    subst e
    cases p <;> first | exact .inl ⟨rfl, rfl⟩ | cases h2
  · have e := of_decide_eq_true e
    subst e
    cases p <;> first | exact .inr ⟨rfl, rfl⟩ | cases h2
theorem own_map {N : List Str} {is : List Nat} : ((ownOf N is).map (·.2)) = is → (ownOf N is).map (·.2) = is := id
mutual
theorem peOk : ∀ (e : M.Ex) {sc : Scope} {ex : Expr} {X : Cx} {W : WX}, chkE c.T N e sc ex = true → Ok c k N sc X W → PE X ex (tE c W e) ∧ PT X ex (tB (tE c W e))
  | .v i, sc, ex, X, W, h, o => by
    obtain ⟨x, p, rfl, hi, hv, hd, hcd⟩ := name_of (show nameAt N (visB sc) i ex = true from h)
    refine fin (PE.imp (pe_var (o.var hi) (by rw [o.es]; exact vis_of hv) hd hcd) fun σ H Q ⟨ρ, S, Qd, Xd, hl, re, r, w, hq, hx⟩ => ?_)
    obtain ⟨d, e, w⟩ := opt_of (show M.opt (M.look ρ i) (fun d => Qd d S) from w)
    have e2 : ρ[i]? = some (some d) := by
      unfold M.look M.joinO at e
      split at e
      · rename_i a heq; cases e; exact heq
      · cases e
    obtain ⟨v, e3, rd⟩ := re i d e2
    exact ⟨v, e3, hq.same r rd w⟩
  | .k kc, sc, ex, X, W, h, o => by
    have h : (match (generalizing := false) ex with | .Constant d _ _ => kOk kc d | _ => false) = true := h
    split at h
    · rename_i d j p hh
      cases kc with
      | non => cases d with
        | none => exact fin (PE.imp pe_non fun σ H Q ⟨ρ, S, Qd, Xd, hl, re, r, w, hq, hx⟩ => hq.same r .non w)
        | _ => cases h
      | bl b => cases d with
        | bool b' =>
          have e : b = b' := by simpa [kOk] using h
          subst e
          exact fin (PE.imp pe_bl fun σ H Q ⟨ρ, S, Qd, Xd, hl, re, r, w, hq, hx⟩ => hq.same r (.bl b) w)
        | _ => cases h
      | int i => cases d with
        | int i' =>
          have e : i = i' := of_decide_eq_true h
          subst e
          exact fin (PE.imp pe_int fun σ H Q ⟨ρ, S, Qd, Xd, hl, re, r, w, hq, hx⟩ => hq.same r (.int i) w)
        | _ => cases h
      | str y => cases d with
        | str y' =>
          have e : stx y = y' := of_decide_eq_true h
          subst e
          exact fin (PE.imp pe_str fun σ H Q ⟨ρ, S, Qd, Xd, hl, re, r, w, hq, hx⟩ => hq.same r (.str y) w)
        | _ => cases h
    · cases h
  | .g n, sc, ex, X, W, h, o => by
    have h : (match (generalizing := false) ex with | .Name x _ => decide (c.T.cons[n]? = some x) && glB sc x && !dbgB x | _ => false) = true := h
    split at h
    · rename_i x p hh
      obtain ⟨h, h3⟩ := and2 h
      obtain ⟨h1, h2⟩ := and2 h
      obtain ⟨u, v, e1, e2, e3⟩ := o.con n x (of_decide_eq_true h1)
      exact fin (PE.imp (pe_glob (o.gl h2) (by rw [o.em]; exact e1) e2 (dbg_of h3).1) fun σ H Q ⟨ρ, S, Qd, Xd, hl, re, r, w, hq, hx⟩ => hq.same r (e3 H) w)
    · cases h
  | .bin b x y, sc, ex, X, W, h, o => by
    have h : (match (generalizing := false) ex with | .BinOp a' p b' _ => boOk b p && chkE c.T N x sc a' && chkE c.T N y sc b' | _ => false) = true := h
    split at h
    · obtain ⟨h, h3⟩ := and2 h
      obtain ⟨h1, h2⟩ := and2 h
      exact fin (PE.imp (pe_op (o.op h1) (peOk x h2 o).1 (peOk y h3 o).1) fun σ H Q ⟨ρ, S, Qd, Xd, hl, re, r, w, hq, hx⟩ =>
        two_rel hl re r w hx fun x y S2 v u H2 f r2 rx ry q => ⟨x, y, S2, Qd, r2, rx, ry, q, hq.after f⟩)
    · cases h
  | .neg a, sc, ex, X, W, h, o => by
    have h : (match (generalizing := false) ex with | .UnaryOp .USub a' _ => chkE c.T N a sc a' | _ => false) = true := h
    split at h
    · exact fin (PE.imp (pe_un un_neg (peOk a h o).1) fun σ H Q ⟨ρ, S, Qd, Xd, hl, re, r, w, hq, hx⟩ =>
        one_rel hl re r w hx fun x S2 v H2 f r2 rx q => by
          obtain ⟨i, rfl, q⟩ := onI_of q
          cases rx
          exact ⟨i, rfl, (hq.after f).same r2 (.int _) q⟩)
    · cases h
  | .not a, sc, ex, X, W, h, o => by
    have h : (match (generalizing := false) ex with | .UnaryOp .Not a' _ => chkE c.T N a sc a' | _ => false) = true := h
    split at h
    · obtain ⟨p1, p2⟩ := peOk a h o
      have rd : ∀ {σ : Sl} {H : Hp} {Q : VK}, tE c W (.not a) σ H Q → tE c W a σ H fun v H1 => ∃ b, v = .bl b ∧ Q (.bl (!b)) H1 := fun {σ H Q} ⟨ρ, S, Qd, Xd, hl, re, r, w, hq, hx⟩ =>
        one_rel hl re r w hx fun x S2 v H2 f r2 rx q => by
          obtain ⟨i, rfl, q⟩ := onB_of q
          cases rx
          exact ⟨i, rfl, (hq.after f).same r2 (.bl _) q⟩
      refine ⟨PE.imp (pe_not p1) fun σ H Q h => rd h, PT.imp (pt_not p2) fun σ H Q h => ?_⟩
      have q := rd h
      obtain ⟨ρ, S, Qd, Xd, hl, re, r, w, hq, hx⟩ := q
      refine ⟨ρ, S, Qd, Xd, hl, re, r, w, fun d S' v H' f r' rd' q => ?_, hx⟩
      obtain ⟨b, e, b', e', q⟩ := hq d S' v H' f r' rd' q
      cases e'
      exact ⟨b, e, q⟩
    · cases h
  | .cmp b x y, sc, ex, X, W, h, o => by
    have h : (match (generalizing := false) ex with | .Compare a' [p] [b'] _ => coOk b p && chkE c.T N x sc a' && chkE c.T N y sc b' && !behindInMarks p b' | _ => false) = true := h
    split at h
    · obtain ⟨h, h4⟩ := and2 h
      obtain ⟨h, h3⟩ := and2 h
      obtain ⟨h1, h2⟩ := and2 h
      have rd : ∀ {σ : Sl} {H : Hp} {Q : VK}, tE c W (.cmp b x y) σ H Q → tOp (rCm c.K b) (tE c W x) (tE c W y) σ H Q := fun {σ H Q} ⟨ρ, S, Qd, Xd, hl, re, r, w, hq, hx⟩ =>
        two_rel hl re r w hx fun x y S2 v u H2 f r2 rx ry q => ⟨x, y, S2, _, r2, rx, ry, q, fun k q => (hq.after f).same r2 (.bl k) q⟩
      exact ⟨PE.imp (pe_cmpR (o.co h1) (peOk x h2 o).1 (peOk y h3 o).1 (not1 h4)) fun σ H Q h => rd h, PT.imp (pt_cmpR (o.co h1) (peOk x h2 o).1 (peOk y h3 o).1 (not1 h4)) fun σ H Q h => rd h⟩
    · cases h
  | .chain b d x y z, sc, ex, X, W, h, o => by
    have h : (match (generalizing := false) ex with | .Compare a' [o', p'] [b', c'] _ => coOk b o' && coOk d p' && chkE c.T N x sc a' && chkE c.T N y sc b' && chkE c.T N z sc c' && !lastMarks [o', p'] [b', c'] | _ => false) = true := h
    split at h
    · obtain ⟨h, h6⟩ := and2 h
      obtain ⟨h, h5⟩ := and2 h
      obtain ⟨h, h4⟩ := and2 h
      obtain ⟨h, h3⟩ := and2 h
      obtain ⟨h1, h2⟩ := and2 h
      have rd : ∀ {σ : Sl} {H : Hp} {Q : VK}, tE c W (.chain b d x y z) σ H Q → tChain (rCm c.K b) (rCm c.K d) (tE c W x) (tE c W y) (tE c W z) σ H Q := fun {σ H Q} ⟨ρ, S, Qd, Xd, hl, re, r, w, hq, hx⟩ => by
        refine ⟨ρ, S, _, Xd, hl, re, r, w, fun dx S1 v H1 f1 r1 rx q1 => ⟨ρ, S1, _, Xd, hl, re.mono r f1, r1, q1, fun dy S2 u H2 f2 r2 ry q2 => ?_, hx.after f1⟩, hx⟩
        refine ⟨dx, dy, S2, _, r2, rx.mono r1 f2, ry, q2, fun kb q3 => ⟨kb, rfl, ?_⟩⟩
        obtain ⟨qt, qf⟩ := q3
        cases kb with
        | true =>
          show if true = true then _ else _
          rw [if_pos rfl]
          refine ⟨ρ, S2, _, Xd, hl, re.mono r (f1.trans f2), r2, qt rfl, fun dz S3 w' H3 f3 r3 rz q3 => ?_, hx.after (f1.trans f2)⟩
          exact ⟨dy, dz, S3, _, r3, ry.mono r2 f3, rz, q3, fun kb q4 => (hq.after ((f1.trans f2).trans f3)).same r3 (.bl kb) q4⟩
        | false =>
          show if false = true then _ else _
          rw [if_neg Bool.false_ne_true]
          exact (hq.after (f1.trans f2)).same r2 (.bl false) (qf rfl)
      exact ⟨PE.imp (pe_chain (o.co h1) (o.co h2) (peOk x h3 o).1 (peOk y h4 o).1 (peOk z h5 o).1 (not1 h6)) fun σ H Q h => rd h, PT.imp (pt_chain (o.co h1) (o.co h2) (peOk x h3 o).1 (peOk y h4 o).1 (peOk z h5 o).1 (not1 h6)) fun σ H Q h => rd h⟩
    · cases h
  | .and a r, sc, ex, X, W, h, o => by
    have h : (match (generalizing := false) ex with | .BoolOp .And (a' :: b' :: r') _ => chkE c.T N a sc a' && chkR c.T N r sc (b' :: r') | _ => false) = true := h
    split at h
    · obtain ⟨h1, h2⟩ := and2 h
      have rd : ∀ {σ : Sl} {H : Hp} {Q : VK}, tE c W (.and a r) σ H Q → tE c W a σ H fun v H1 => ∃ b, v = .bl b ∧ if b = true then tR c W M.wpAnd r σ H1 Q else Q (.bl false) H1 := fun {σ H Q} ⟨ρ, S, Qd, Xd, hl, re, rr, w, hq, hx⟩ =>
        one_rel hl re rr w hx fun x S2 v H2 f r2 rx q => by
          obtain ⟨b, rfl, qt, qf⟩ := onB_of q
          cases rx
          refine ⟨b, rfl, ?_⟩
          cases b with
          | true => rw [if_pos rfl]; exact ⟨ρ, S2, Qd, Xd, hl, re.mono rr f, r2, qt rfl, hq.after f, hx.after f⟩
          | false => rw [if_neg Bool.false_ne_true]; exact (hq.after f).same r2 (.bl false) (qf rfl)
      obtain ⟨⟨g1, g2⟩, _⟩ := prOk r h2 (by simp) o _
      refine ⟨PE.imp (pe_and (peOk a h1 o).1 g1) fun σ H Q h => rd h, PT.imp (pw_and (peOk a h1 o).2 g2).pt fun σ H Q h => ?_⟩
      obtain ⟨ρ, S, Qd, Xd, hl, re, rr, w, hq, hx⟩ := rd h
      refine ⟨ρ, S, Qd, Xd, hl, re, rr, w, fun d S' v H' f r' rd' q => ?_, hx⟩
      obtain ⟨b, e, q⟩ := hq d S' v H' f r' rd' q
      refine ⟨b, e, ?_⟩
      cases b with
      | true => exact q
      | false =>
        obtain ⟨b', e', q⟩ := q
        cases e'
        exact q
    · cases h
  | .or a r, sc, ex, X, W, h, o => by
    have h : (match (generalizing := false) ex with | .BoolOp .Or (a' :: b' :: r') _ => chkE c.T N a sc a' && chkR c.T N r sc (b' :: r') | _ => false) = true := h
    split at h
    · obtain ⟨h1, h2⟩ := and2 h
      have rd : ∀ {σ : Sl} {H : Hp} {Q : VK}, tE c W (.or a r) σ H Q → tE c W a σ H fun v H1 => ∃ b, v = .bl b ∧ if b = true then Q (.bl true) H1 else tR c W M.wpOr r σ H1 Q := fun {σ H Q} ⟨ρ, S, Qd, Xd, hl, re, rr, w, hq, hx⟩ =>
        one_rel hl re rr w hx fun x S2 v H2 f r2 rx q => by
          obtain ⟨b, rfl, qt, qf⟩ := onB_of q
          cases rx
          refine ⟨b, rfl, ?_⟩
          cases b with
          | false => rw [if_neg Bool.false_ne_true]; exact ⟨ρ, S2, Qd, Xd, hl, re.mono rr f, r2, qf rfl, hq.after f, hx.after f⟩
          | true => rw [if_pos rfl]; exact (hq.after f).same r2 (.bl true) (qt rfl)
      obtain ⟨_, g1, g2⟩ := prOk r h2 (by simp) o _
      refine ⟨PE.imp (pe_or (peOk a h1 o).1 g1) fun σ H Q h => rd h, PT.imp (pw_or (peOk a h1 o).2 g2).pt fun σ H Q h => ?_⟩
      obtain ⟨ρ, S, Qd, Xd, hl, re, rr, w, hq, hx⟩ := rd h
      refine ⟨ρ, S, Qd, Xd, hl, re, rr, w, fun d S' v H' f r' rd' q => ?_, hx⟩
      obtain ⟨b, e, q⟩ := hq d S' v H' f r' rd' q
      refine ⟨b, e, ?_⟩
      cases b with
      | false => exact q
      | true =>
        obtain ⟨b', e', q⟩ := q
        cases e'
        exact q
    · cases h
  | .ite g a b, sc, ex, X, W, h, o => by
    have h : (match (generalizing := false) ex with | .IfExp c' a' b' _ => chkE c.T N g sc c' && chkE c.T N a sc a' && chkE c.T N b sc b' | _ => false) = true := h
    split at h
    · obtain ⟨h, h3⟩ := and2 h
      obtain ⟨h1, h2⟩ := and2 h
      have rd : ∀ {σ : Sl} {H : Hp} {Q : VK}, tE c W (.ite g a b) σ H Q → tB (tE c W g) σ H fun k H1 => if k = true then tE c W a σ H1 Q else tE c W b σ H1 Q := fun {σ H Q} ⟨ρ, S, Qd, Xd, hl, re, rr, w, hq, hx⟩ =>
        one_rel hl re rr w hx fun x S2 v H2 f r2 rx q => by
          obtain ⟨b, rfl, qt, qf⟩ := onB_of q
          cases rx
          refine ⟨b, rfl, ?_⟩
          cases b with
          | false => rw [if_neg Bool.false_ne_true]; exact ⟨ρ, S2, Qd, Xd, hl, re.mono rr f, r2, qf rfl, hq.after f, hx.after f⟩
          | true => rw [if_pos rfl]; exact ⟨ρ, S2, Qd, Xd, hl, re.mono rr f, r2, qt rfl, hq.after f, hx.after f⟩
      exact ⟨PE.imp (pe_ifExp (peOk g h1 o).2 (peOk a h2 o).1 (peOk b h3 o).1) fun σ H Q h => rd h, PT.imp (pt_ite (peOk g h1 o).2 (peOk a h2 o).2 (peOk b h3 o).2) fun σ H Q h => rd h⟩
    · cases h
  | .tup es, sc, ex, X, W, h, o => by
    have h : (match (generalizing := false) ex with | .Tuple es' _ _ => chkEs c.T N es sc es' | _ => false) = true := h
    split at h
    · exact fin (PE.imp (pe_tup (paOk es h o)) fun σ H Q ⟨ρ, S, Qd, Xd, hl, re, r, w, hq, hx⟩ =>
        ones_rel hl re r w hx fun x S2 v H2 f r2 rx q => ⟨by rw [← rx.length, ← lim_eq]; exact q.1, (hq.after f).newT r2 rx q.2⟩)
    · cases h
  | .lst es, sc, ex, X, W, h, o => by
    have h : (match (generalizing := false) ex with | .List es' _ => chkEs c.T N es sc es' | _ => false) = true := h
    split at h
    · exact fin (PE.imp (pe_lst (paOk es h o)) fun σ H Q ⟨ρ, S, Qd, Xd, hl, re, r, w, hq, hx⟩ =>
        ones_rel hl re r w hx fun x S2 v H2 f r2 rx q => ⟨by rw [← rx.length, ← lim_eq]; exact q.1, (hq.after f).newL r2 rx q.2⟩)
    · cases h
  | .ix a i, sc, ex, X, W, h, o => by
    have h : (match (generalizing := false) ex with | .Subscript a' i' _ => plB i' && chkE c.T N a sc a' && chkE c.T N i sc i' | _ => false) = true := h
    split at h
    · obtain ⟨h, h3⟩ := and2 h
      obtain ⟨h1, h2⟩ := and2 h
      exact fin (PE.imp (pe_ix o.ix (peOk a h2 o).1 (peOk i h3 o).1 (plB_ix h1)) fun σ H Q ⟨ρ, S, Qd, Xd, hl, re, r, w, hq, hx⟩ =>
        two_rel hl re r w hx fun x y S2 v u H2 f r2 rx ry q => ⟨x, y, S2, Qd, r2, rx, ry, q, hq.after f⟩)
    · cases h
  | .sl a lo hi, sc, ex, X, W, h, o => by
    have h : (match (generalizing := false) ex with | .Subscript a' (.Slice lo' hi' none _) _ => chkE c.T N a sc a' && chkO c.T N lo sc lo' && chkO c.T N hi sc hi' | _ => false) = true := h
    split at h
    · obtain ⟨h, h3⟩ := and2 h
      obtain ⟨h1, h2⟩ := and2 h
      exact fin (PE.imp (pe_slice o.sl (peOk a h1 o).1 (poOk lo h2 o).1 (poOk hi h3 o).1) fun σ H Q ⟨ρ, S, Qd, Xd, hl, re, r, w, hq, hx⟩ =>
        one_rel hl re r w hx fun x S2 v H2 f r2 rx q => ⟨ρ, S2, _, Xd, hl, re.mono r f, r2, q, fun l S3 H3 f3 r3 q3 => ⟨ρ, S3, _, Xd, hl, re.mono r (f.trans f3), r3, q3, fun u S4 H4 f4 r4 q4 =>
          ⟨x, S4, Qd, r4, (rx.mono r2 f3).mono r3 f4, q4, hq.after ((f.trans f3).trans f4)⟩, hx.after (f.trans f3)⟩, hx.after f⟩)
    · cases h
  | .rev a, sc, ex, X, W, h, o => by
    have h : (match (generalizing := false) ex with | .Subscript a' (.Slice none none (some (.UnaryOp .USub (.Constant (.int i) _ _) _)) _) _ => decide (i = 1) && chkE c.T N a sc a' | _ => false) = true := h
    split at h
    · obtain ⟨h1, h2⟩ := and2 h
      have e := of_decide_eq_true h1
      subst e
      have eK := o.eK
      exact fin (PE.imp (pe_revM (peOk a h2 o).1) fun σ H Q ⟨ρ, S, Qd, Xd, hl, re, r, w, hq, hx⟩ =>
        one_rel hl re r w hx fun x S2 v H2 f r2 rx q => by rw [eK]; exact ⟨x, S2, Qd, r2, rx, q, hq.after f⟩)
    · cases h
  | .call n es, sc, ex, X, W, h, o => by
    have h : (match (generalizing := false) ex with | .Call (.Name x _) es' [] _ => decide (c.T.fns[n]? = some x) && (c.T.ats.lookup n).isNone && (c.T.hots.contains n == c.T.hot) && glB sc x && !dbgB x && es'.all plB && chkEs c.T N es sc es' | _ => false) = true := h
    split at h
    · obtain ⟨h, h5⟩ := and2 h
      obtain ⟨h, h4⟩ := and2 h
      obtain ⟨h, h3⟩ := and2 h
      obtain ⟨h, h2⟩ := and2 h
      obtain ⟨h, hh⟩ := and2 h
      obtain ⟨h1, hat⟩ := and2 h
      exact fin (PE.imp (pe_callM o (of_decide_eq_true h1) hat hh h2 (dbg_of h3).1 (paOk es h5 o) h4 (fun e => pnOk es h5 e)) fun σ H Q ⟨ρ, S, Qd, Xd, hl, re, r, w, hq, hx⟩ =>
        ones_rel hl re r w hx fun x S2 v H2 f r2 rx q => ⟨x, S2, Qd, Xd, rx, r2, q, hq.after f, hx.after f⟩)
    · cases h
  | .callk n es ks perm, sc, ex, X, W, h, o => by
    have h : (match (generalizing := false) ex with
      | .Call (.Name x _) es' kw _ => decide (c.T.fns[n]? = some x) && (c.T.ats.lookup n).isNone && (c.T.hots.contains n == c.T.hot) && glB sc x && !dbgB x && es'.all plB && chkEs c.T N es sc es' && (match kwsB kw with
        | some nms => decide ((n, M.esLen es, nms, perm) ∈ c.T.kws) && decide (nms.length = M.esLen ks) && (kw.map (·.value)).all plB && chkEs c.T N ks sc (kw.map (·.value))
        | none => false)
      | _ => false) = true := h
    split at h
    · rename_i x p es' kw pos hh
      obtain ⟨h, h6⟩ := and2 h
      obtain ⟨h, h5⟩ := and2 h
      obtain ⟨h, h4⟩ := and2 h
      obtain ⟨h, h3⟩ := and2 h
      obtain ⟨h, h2⟩ := and2 h
      obtain ⟨h, hhot⟩ := and2 h
      obtain ⟨h1, hat⟩ := and2 h
      split at h6
      · rename_i nms hn
        obtain ⟨h6, h9⟩ := and2 h6
        obtain ⟨h6, h8⟩ := and2 h6
        obtain ⟨h6, h7⟩ := and2 h6
        have e7 : nms.length = M.esLen ks := of_decide_eq_true h7
        exact fin (PE.imp (pe_callkM o (of_decide_eq_true h1) hat hhot h2 (dbg_of h3).1 (paOk es h5 o) h4 (fun e => pnOk es h5 e) (pkOk ks h9 h8 o) hn (of_decide_eq_true h6)) fun σ H Q ⟨ρ, S, Qd, Xd, hl, re, r, w, hq, hx⟩ =>
          ones_rel hl re r w hx fun x S2 v H2 f r2 rx q => ⟨ρ, S2, _, Xd, hl, re.mono r f, r2, q, fun y S3 z H3 f3 r3 rz q => by
            obtain ⟨q1, q2, q3⟩ := q
            have rx3 := rx.mono r2 f3
            exact ⟨by rw [← rx3.length]; exact q1, by rw [← rz.length, e7]; exact q2, _, S3, Qd, Xd, rels_fm (rx3.append rz) perm, r3, q3, hq.after (f.trans f3), hx.after (f.trans f3)⟩, hx.after f⟩)
      · cases h6
    · cases h
  | .rep a, sc, ex, X, W, h, o => by
    obtain ⟨p, es', pos, rfl, hm, hg, hd, ho⟩ := biCall_of (show biCall c.T sc "repr" (one (chkE c.T N a sc)) ex = true from h)
    obtain ⟨e', rfl, hp, ho⟩ := one_of ho
    refine fin (PE.imp (pe_callB o.rep (o.gl hg) (o.free hm) (by decide +kernel) (pa_cons (peOk a ho o).1 pa_nil (plB_star hp)) (by decide +kernel) hd (plB_star hp) rfl) fun σ H Q ⟨ρ, S, Qd, Xd, hl, re, r, w, hq, hx⟩ => ?_)
    exact one_rel hl re r w hx fun x S2 v H2 f r2 rx q => ⟨x, v, S2, Qd, rfl, r2, rx, q.1, q.2.1, by rw [← o.rp]; exact q.2.2, hq.after f⟩
  | .bi b es, sc, ex, X, W, h, o => by
    obtain ⟨hh, h⟩ := and2 (show (!c.T.hot && biCall c.T sc (biN b) (fun es' => !es'.isEmpty && es'.all plB && chkEs c.T N es sc es') ex) = true from h)
    obtain ⟨p, es', pos, rfl, hm, hg, hd, ho⟩ := biCall_of (show biCall c.T sc (biN b) (fun es' => !es'.isEmpty && es'.all plB && chkEs c.T N es sc es') ex = true from h)
    obtain ⟨ho, h3⟩ := and2 ho
    obtain ⟨h1, h2⟩ := and2 ho
    cases es' with
    | nil => cases h1
    | cons e' es' =>
      exact fin (PE.imp (pe_biM o hh hm hg (paOk es h3 o) h2) fun σ H Q ⟨ρ, S, Qd, Xd, hl, re, r, w, hq, hx⟩ =>
        ones_rel hl re r w hx fun x S2 v H2 f r2 rx q => ⟨x, S2, Qd, r2, rx, q, hq.after f⟩)
  | .mt m a es, sc, ex, X, W, h, o => by
    have h : (match (generalizing := false) ex with | .Call (.Attribute a' nm apos) es' [] cpos => decide (nm = mtN m) && mtOk m && (apos.endLine == cpos.line) && bareB a' && chkE c.T N a sc a' && es'.all plB && decide (es'.length < 29) && chkEs c.T N es sc es' | _ => false) = true := h
    split at h
    · rename_i a' nm apos es' cpos hh
      obtain ⟨h, h8⟩ := and2 h
      obtain ⟨h, h7⟩ := and2 h
      obtain ⟨h, h6⟩ := and2 h
      obtain ⟨h, h5⟩ := and2 h
      obtain ⟨h, h4⟩ := and2 h
      obtain ⟨h, h3⟩ := and2 h
      obtain ⟨h1, h2⟩ := and2 h
      have e := of_decide_eq_true h1
      subst e
      have ty : ∀ {H : Hp} {S : M.Sto} {x : M.D} {v : V} {xs : List M.D}, RelS c.K H S → RelD c.K H x v → M.lsOf S x = some xs → tyV c.K "list" v H := fun r rd e => by
        obtain ⟨p, vs, rfl, hs, _⟩ := lsOf_rel r rd e
        exact .inl ⟨rfl, vs, hs⟩
      cases es' with
      | nil =>
        have e0 : ∀ σ H Q, tEs c W es σ H Q → Q [] H := fun σ H Q q => pnOk es h8 rfl σ H Q q
        refine fin (PE.imp (pe_mt0 o h2 h3 h4 (peOk a h5 o).1) fun σ H Q ⟨ρ, S, Qd, Xd, hl, re, r, w, hq, hx⟩ =>
          one_rel hl re r w hx fun x S2 v H2 f r2 rx q => ?_)
        obtain ⟨xs, e, q⟩ := opt_of q
        have q2 := e0 σ H2 (fun vs H3 => rMt c.K m v vs H3 Q) ⟨ρ, S2, _, Xd, hl, re.mono r f, r2, q, fun y S3 z H3 f3 r3 rz q => ⟨x, y, S3, Qd, r3, rx.mono r2 f3, rz, q, hq.after (f.trans f3)⟩, hx.after f⟩
        exact ⟨ty r2 rx e, q2⟩
      | cons e' es' =>
        refine fin (PE.imp (pe_mtM o h2 h3 h4 (peOk a h5 o).1 (paOk es h8 o) h6 (of_decide_eq_true h7)) fun σ H Q ⟨ρ, S, Qd, Xd, hl, re, r, w, hq, hx⟩ =>
          one_rel hl re r w hx fun x S2 v H2 f r2 rx q => ?_)
        obtain ⟨xs, e, q⟩ := opt_of q
        exact ⟨ty r2 rx e, ρ, S2, _, Xd, hl, re.mono r f, r2, q, fun y S3 z H3 f3 r3 rz q => ⟨x, y, S3, Qd, r3, rx.mono r2 f3, rz, q, hq.after (f.trans f3)⟩, hx.after f⟩
    · cases h
  | .dix a i, sc, ex, X, W, h, o => by
    have h : (match (generalizing := false) ex with | .Subscript a' i' _ => plB i' && chkE c.T N a sc a' && chkE c.T N i sc i' | _ => false) = true := h
    split at h
    · obtain ⟨h, h3⟩ := and2 h
      obtain ⟨h1, h2⟩ := and2 h
      exact fin (PE.imp (pe_dget (by have := o.room.units; omega) (peOk a h2 o).1 (peOk i h3 o).1 (nosl_of h1)) fun σ H Q ⟨ρ, S, Qd, Xd, hl, re, r, w, hq, hx⟩ =>
        two_rel hl re r w hx fun x y S2 v u H2 f r2 rx ry q => dix_rel r2 rx ry q (hq.after f))
    · cases h
  | .new kk es, sc, ex, X, W, h, o => by
    have h : (match (generalizing := false) ex with | .Call (.Name x _) es' [] _ => !c.T.hot && decide (c.T.ocs[kk]? = some x) && glB sc x && !dbgB x && es'.all plB && decide (M.nmInit ∉ c.T.prs) && chkEs c.T N es sc es' | _ => false) = true := h
    split at h
    · obtain ⟨h, h7⟩ := and2 h
      obtain ⟨h, h6⟩ := and2 h
      obtain ⟨h, h5⟩ := and2 h
      obtain ⟨h, h4⟩ := and2 h
      obtain ⟨h, h3⟩ := and2 h
      obtain ⟨h1, h2⟩ := and2 h
      exact fin (PE.imp (pe_newM o h1 (of_decide_eq_true h2) (of_decide_eq_true h6) h3 (dbg_of h4).1 (paOk es h7 o) h5 (fun e => pnOk es h7 e)) fun σ H Q ⟨ρ, S, Qd, Xd, hl, re, r, w, hq, hx⟩ =>
        ones_rel hl re r w hx fun x S2 v H2 f r2 rx q => ⟨fun p => p :: x, S2, Qd, Xd, r2, fun p S' H' f' => .cons (.ref _) (rx.mono r2 f'), q, hq.after f, hx.after f⟩)
    · cases h
  | .newk kk es ks perm, sc, ex, X, W, h, o => by
    have h : (match (generalizing := false) ex with
      | .Call (.Name x _) es' kw _ => !c.T.hot && decide (c.T.ocs[kk]? = some x) && glB sc x && !dbgB x && es'.all plB && decide (M.nmInit ∉ c.T.prs) && chkEs c.T N es sc es' && (match kwsB kw with
        | some nms => c.T.mtb.all (fun e => decide (e.1 = (kk, M.nmInit) → (e.2, M.esLen es + 1, nms, perm) ∈ c.T.kws)) && decide (nms.length = M.esLen ks) && (kw.map (·.value)).all plB && chkEs c.T N ks sc (kw.map (·.value))
        | none => false)
      | _ => false) = true := h
    split at h
    · rename_i x p es' kw pos hh
      obtain ⟨h, h8⟩ := and2 h
      obtain ⟨h, h7⟩ := and2 h
      obtain ⟨h, h6⟩ := and2 h
      obtain ⟨h, h5⟩ := and2 h
      obtain ⟨h, h4⟩ := and2 h
      obtain ⟨h, h3⟩ := and2 h
      obtain ⟨h1, h2⟩ := and2 h
      split at h8
      · rename_i nms hn
        obtain ⟨h8, h12⟩ := and2 h8
        obtain ⟨h8, h11⟩ := and2 h8
        obtain ⟨h9, h10⟩ := and2 h8
        have e10 : nms.length = M.esLen ks := of_decide_eq_true h10
        exact fin (PE.imp (pe_newkM o h1 (of_decide_eq_true h2) (of_decide_eq_true h6) h3 (dbg_of h4).1 (paOk es h7 o) h5 (fun e => pnOk es h7 e) (pkOk ks h12 h11 o) hn (fun e he e1 => of_decide_eq_true (List.all_eq_true.mp h9 e he) e1)) fun σ H Q ⟨ρ, S, Qd, Xd, hl, re, r, w, hq, hx⟩ =>
          ones_rel hl re r w hx fun x S2 v H2 f r2 rx q => ⟨ρ, S2, _, Xd, hl, re.mono r f, r2, q, fun y S3 z H3 f3 r3 rz q => by
            obtain ⟨q1, q2, q3⟩ := q
            have rx3 := rx.mono r2 f3
            exact ⟨by rw [← rx3.length]; exact q1, by rw [← rz.length, e10]; exact q2, fun p => perm.filterMap fun i => ((p :: x) ++ y)[i]?, S3, Qd, Xd, r3, fun p S' H' f' => rels_fm ((RelDs.cons (.ref _) (rx3.mono r3 f')).append (rz.mono r3 f')) perm, q3, hq.after (f.trans f3), hx.after (f.trans f3)⟩, hx.after f⟩)
      · cases h8
    · cases h
  | .fld a n, sc, ex, X, W, h, o => by
    have h : (match (generalizing := false) ex with | .Attribute a' nm _ => decide (nm = stx n) && decide (n ∈ c.T.fds) && bareB a' && chkE c.T N a sc a' | _ => false) = true := h
    split at h
    · obtain ⟨h, h4⟩ := and2 h
      obtain ⟨h, h3⟩ := and2 h
      obtain ⟨h1, h2⟩ := and2 h
      have e := of_decide_eq_true h1
      subst e
      exact fin (PE.imp (pe_fld (peOk a h4 o).1 (attr_bare h3)) fun σ H Q ⟨ρ, S, Qd, Xd, hl, re, r, w, hq, hx⟩ =>
        one_rel hl re r w hx fun x S2 v H2 f r2 rx q => fld_rel o (of_decide_eq_true h2) r2 rx q (hq.after f))
    · cases h
  | .prp a n, sc, ex, X, W, h, o => by
    have h : (match (generalizing := false) ex with | .Attribute a' nm _ => !c.T.hot && decide (nm = stx n) && decide (n ∈ c.T.prs) && bareB a' && chkE c.T N a sc a' | _ => false) = true := h
    split at h
    · obtain ⟨h, h5⟩ := and2 h
      obtain ⟨h, h4⟩ := and2 h
      obtain ⟨h, h3⟩ := and2 h
      obtain ⟨h1, h2⟩ := and2 h
      have e := of_decide_eq_true h2
      subst e
      exact fin (PE.imp (pe_prpM o h1 (of_decide_eq_true h3) h4 (peOk a h5 o).1) fun σ H Q ⟨ρ, S, Qd, Xd, hl, re, r, w, hq, hx⟩ =>
        one_rel hl re r w hx fun x S2 v H2 f r2 rx q => ⟨x, [], S2, Qd, M.X0, r2, rx, .nil, q, hq.after f, okX0⟩)
    · cases h
  | .ocl a es, sc, ex, X, W, h, o => by
    have h : (match (generalizing := false) ex with | .Call a' es' [] _ => !c.T.hot && objE a' && !es'.isEmpty && es'.all plB && decide (M.nmCall ∉ c.T.prs) && chkE c.T N a sc a' && chkEs c.T N es sc es' | _ => false) = true := h
    split at h
    · rename_i a' es' pos hh
      obtain ⟨h, h7⟩ := and2 h
      obtain ⟨h, h6⟩ := and2 h
      obtain ⟨h, h5⟩ := and2 h
      obtain ⟨h, h4⟩ := and2 h
      obtain ⟨h, h3⟩ := and2 h
      obtain ⟨h1, h2⟩ := and2 h
      cases es' with
      | nil => cases h3
      | cons e' es' =>
        exact fin (PE.imp (pe_oclM o h1 (of_decide_eq_true h5) (peOk a h6 o).1 (paOk es h7 o) h4 (call_eval h2)) fun σ H Q ⟨ρ, S, Qd, Xd, hl, re, r, w, hq, hx⟩ =>
          one_rel hl re r w hx fun x S2 v H2 f r2 rx q => by
            obtain ⟨a0, rfl, q⟩ := onR_of q
            cases rx
            exact ⟨a0, rfl, ρ, S2, _, Xd, hl, re.mono r f, r2, q, fun y S3 z H3 f3 r3 rz q => rk_of o ⟨_, y, S3, Qd, Xd, r3, .ref a0, rz, q, hq.after (f.trans f3), hx.after (f.trans f3)⟩, hx.after f⟩)
    · cases h
  | .oclk a ks perm, sc, ex, X, W, h, o => by
    have h : (match (generalizing := false) ex with
      | .Call (.Name z p) [] kw _ => !c.T.hot && decide (M.nmCall ∉ c.T.prs) && chkE c.T N a sc (.Name z p) && (match kwsB kw with
        | some nms => c.T.mtb.all (fun e => decide (e.1.2 = M.nmCall → (e.2, 1, nms, perm) ∈ c.T.kws)) && decide (nms.length = M.esLen ks) && (kw.map (·.value)).all plB && chkEs c.T N ks sc (kw.map (·.value))
        | none => false)
      | _ => false) = true := h
    split at h
    · rename_i z p kw pos hh
      obtain ⟨h, h8⟩ := and2 h
      obtain ⟨h, h7⟩ := and2 h
      obtain ⟨h1, h2⟩ := and2 h
      split at h8
      · rename_i nms hn
        obtain ⟨h8, h12⟩ := and2 h8
        obtain ⟨h8, h11⟩ := and2 h8
        obtain ⟨h9, h10⟩ := and2 h8
        have e10 : nms.length = M.esLen ks := of_decide_eq_true h10
        exact fin (PE.imp (pe_oclkM o h1 (of_decide_eq_true h2) (peOk a h7 o).1 (pkOk ks h12 h11 o) hn (fun e he e1 => of_decide_eq_true (List.all_eq_true.mp h9 e he) e1)) fun σ H Q ⟨ρ, S, Qd, Xd, hl, re, r, w, hq, hx⟩ =>
          one_rel hl re r w hx fun x S2 v H2 f r2 rx q => by
            obtain ⟨a0, rfl, q⟩ := onR_of q
            cases rx
            exact ⟨a0, rfl, ρ, S2, _, Xd, hl, re.mono r f, r2, q, fun y S3 z H3 f3 r3 rz q => ⟨by rw [← rz.length, e10]; exact q.1, rk_ofk r3 rz q.2 (hq.after (f.trans f3)) (hx.after (f.trans f3))⟩, hx.after f⟩)
      · cases h8
    · cases h
  | .mth m a es, sc, ex, X, W, h, o => by cases (show false = true from h)
  | .oun a, sc, ex, X, W, h, o => by
    have h : (match (generalizing := false) ex with | .UnaryOp .USub a' _ => !c.T.hot && decide (M.nmNeg ∉ c.T.prs) && chkE c.T N a sc a' | _ => false) = true := h
    split at h
    · obtain ⟨h, h3⟩ := and2 h
      obtain ⟨h1, h2⟩ := and2 h
      exact fin (PE.imp (pe_ounM o h1 (of_decide_eq_true h2) (peOk a h3 o).1) fun σ H Q ⟨ρ, S, Qd, Xd, hl, re, r, w, hq, hx⟩ =>
        one_rel hl re r w hx fun x S2 v H2 f r2 rx q => ⟨x, [], S2, Qd, Xd, r2, rx, .nil, q, hq.after f, hx.after f⟩)
    · cases h
  | .oand a b, sc, ex, X, W, h, o => by
    have h : (match (generalizing := false) ex with | .BinOp a' .BitAnd b' _ => !c.T.hot && decide (M.nmAnd ∉ c.T.prs) && chkE c.T N a sc a' && chkE c.T N b sc b' | _ => false) = true := h
    split at h
    · obtain ⟨h, h4⟩ := and2 h
      obtain ⟨h, h3⟩ := and2 h
      obtain ⟨h1, h2⟩ := and2 h
      exact fin (PE.imp (pe_oandM o h1 (of_decide_eq_true h2) (peOk a h3 o).1 (peOk b h4 o).1) fun σ H Q ⟨ρ, S, Qd, Xd, hl, re, r, w, hq, hx⟩ =>
        two_rel hl re r w hx fun x y S2 v u H2 f r2 rx ry q => ⟨x, y, S2, Qd, Xd, r2, rx, ry, q, hq.after f, hx.after f⟩)
    · cases h
  | .oeq a b, sc, ex, X, W, h, o => by
    have h : (match (generalizing := false) ex with | .Compare a' [.Eq] [b'] _ => !c.T.hot && decide (M.nmEq ∉ c.T.prs) && chkE c.T N a sc a' && chkE c.T N b sc b' && !behindInMarks .Eq b' | _ => false) = true := h
    split at h
    · obtain ⟨h, h5⟩ := and2 h
      obtain ⟨h, h4⟩ := and2 h
      obtain ⟨h, h3⟩ := and2 h
      obtain ⟨h1, h2⟩ := and2 h
      have rd : ∀ {σ : Sl} {H : Hp} {Q : VK}, tE c W (.oeq a b) σ H Q → tOp (rOeq c) (tE c W a) (tE c W b) σ H Q := fun {σ H Q} ⟨ρ, S, Qd, Xd, hl, re, r, w, hq, hx⟩ =>
        two_rel hl re r w hx fun x y S2 v u H2 f r2 rx ry q => ⟨x, y, S2, _, M.X0, r2, rx, ry, q, eq_back (g := fun b => b) (hq.after f), okX0⟩
      exact ⟨PE.imp (pe_cmpR (op_oeq o h1 (of_decide_eq_true h2)) (peOk a h3 o).1 (peOk b h4 o).1 (not1 h5)) fun σ H Q h => rd h, PT.imp (pt_cmpR (op_oeq o h1 (of_decide_eq_true h2)) (peOk a h3 o).1 (peOk b h4 o).1 (not1 h5)) fun σ H Q h => rd h⟩
    · cases h
  | .oin b x y, sc, ex, X, W, h, o => by
    have h : (match (generalizing := false) ex with | .Compare a' [p] [b'] _ => !c.T.hot && coOk b p && (decide (b = .in_) || decide (b = .nin)) && decide (M.nmIn ∉ c.T.prs) && chkE c.T N x sc a' && chkE c.T N y sc b' && !behindInMarks p b' | _ => false) = true := h
    split at h
    · rename_i a' p b' pos hh
      obtain ⟨h, h7⟩ := and2 h
      obtain ⟨h, h6⟩ := and2 h
      obtain ⟨h, h5⟩ := and2 h
      obtain ⟨h, h4⟩ := and2 h
      obtain ⟨h, h3⟩ := and2 h
      obtain ⟨h1, h2⟩ := and2 h
      have hb := oin_cases h2 h3
      obtain ⟨g1, g2⟩ := op_oin o h1 (of_decide_eq_true h4)
      rcases hb with ⟨rfl, rfl⟩ | ⟨rfl, rfl⟩
      · have rd : ∀ {σ : Sl} {H : Hp} {Q : VK}, tE c W (.oin .in_ x y) σ H Q → tOp (rOin c false) (tE c W x) (tE c W y) σ H Q := fun {σ H Q} ⟨ρ, S, Qd, Xd, hl, re, r, w, hq, hx⟩ =>
          two_rel hl re r w hx fun x y S2 v u H2 f r2 rx ry q => ⟨y, [x], S2, _, M.X0, r2, ry, .cons rx .nil, q, eq_back (g := fun b => b) (hq.after f), okX0⟩
        exact ⟨PE.imp (pe_cmpR g1 (peOk x h5 o).1 (peOk y h6 o).1 (not1 h7)) fun σ H Q h => rd h, PT.imp (pt_cmpR g1 (peOk x h5 o).1 (peOk y h6 o).1 (not1 h7)) fun σ H Q h => rd h⟩
      · have rd : ∀ {σ : Sl} {H : Hp} {Q : VK}, tE c W (.oin .nin x y) σ H Q → tOp (rOin c true) (tE c W x) (tE c W y) σ H Q := fun {σ H Q} ⟨ρ, S, Qd, Xd, hl, re, r, w, hq, hx⟩ =>
          two_rel hl re r w hx fun x y S2 v u H2 f r2 rx ry q => ⟨y, [x], S2, _, M.X0, r2, ry, .cons rx .nil, q, eq_back (g := fun b => !b) (hq.after f), okX0⟩
        exact ⟨PE.imp (pe_cmpR g2 (peOk x h5 o).1 (peOk y h6 o).1 (not1 h7)) fun σ H Q h => rd h, PT.imp (pt_cmpR g2 (peOk x h5 o).1 (peOk y h6 o).1 (not1 h7)) fun σ H Q h => rd h⟩
    · cases h
  | .isc a kk, sc, ex, X, W, h, o => by
    obtain ⟨p, es', pos, rfl, hm, hg, hd, ho⟩ := biCall_of (show biCall c.T sc "isinstance" (two (chkE c.T N a sc) (fun y => match y with | .Name z _ => decide (c.T.ocs[kk]? = some z) && glB sc z && !dbgB z | _ => false)) ex = true from h)
    obtain ⟨e', y, rfl, hp, hp2, h1, h2⟩ := two_of ho
    split at h2
    · rename_i z pz
      obtain ⟨h2, h5⟩ := and2 h2
      obtain ⟨h3, h4⟩ := and2 h2
      obtain ⟨D, ek, pty⟩ := isc_name o (of_decide_eq_true h3) h4 h5
      refine fin (PE.imp (pe_callB call_isi (o.gl hg) (o.free hm) (by decide +kernel) (pa_cons (peOk a h1 o).1 (pa_cons (pty pz) pa_nil (plB_star hp2)) (plB_star hp)) (by decide +kernel) hd (plB_star hp) (plB_all (es := [_]) (by show (plB _ && true) = true; rw [hp2]; rfl))) fun σ H Q ⟨ρ, S, Qd, Xd, hl, re, r, w, hq, hx⟩ =>
        one_rel hl re r w hx fun x S2 v H2 f r2 rx q => isc_rel o ek r2 rx q fun b q => (hq.after f).same r2 (.bl b) q)
    · cases h2
  | .m2 m a e, sc, ex, X, W, h, o => by
    have h : (match (generalizing := false) ex with | .Call (.Attribute a' nm apos) [e'] [] cpos => decide (nm = moN m) && (apos.endLine == cpos.line) && bareB a' && plB e' && chkE c.T N a sc a' && chkE c.T N e sc e' | _ => false) = true := h
    split at h
    · rename_i a' nm apos e' cpos hh
      obtain ⟨h, h6⟩ := and2 h
      obtain ⟨h, h5⟩ := and2 h
      obtain ⟨h, h4⟩ := and2 h
      obtain ⟨h, h3⟩ := and2 h
      obtain ⟨h1, h2⟩ := and2 h
      have e1 := of_decide_eq_true h1
      subst e1
      have eK := o.eK
      cases m with
      | split =>
        refine fin (PE.imp (pe_split (peOk a h5 o).1 (peOk e h6 o).1 (plB_star h4) (bare_of h3) h2) fun σ H Q ⟨ρ, S, Qd, Xd, hl, re, r, w, hq, hx⟩ =>
          one_rel hl re r w hx fun x S2 v H2 f r2 rx q => ?_)
        obtain ⟨t, rfl, q⟩ := onS_of q
        cases rx
        refine ⟨⟨_, rfl⟩, ρ, S2, _, Xd, hl, re.mono r f, r2, q, fun y S3 u H3 f3 r3 ry q => ?_, hx.after f⟩
        obtain ⟨b, rfl, q⟩ := onS_of q
        cases ry
        match b, q with
        | [c'], q =>
          obtain ⟨q1, q2⟩ := q
          refine ⟨_, _, rfl, rfl, rfl, by rw [stx_len, ← lim_eq]; exact q1, ?_⟩
          rw [split_stx]
          exact (hq.after (f.trans f3)).newL r3 (strs_back _) q2
      | strip =>
        refine fin (PE.imp (pe_m1 PySem.F.slot_str_strip PySem.F.type_str_strip mt_stripChars (peOk a h5 o).1 (peOk e h6 o).1 (plB_star h4) (bare_of h3) h2) fun σ H Q ⟨ρ, S, Qd, Xd, hl, re, r, w, hq, hx⟩ =>
          one_rel hl re r w hx fun x S2 v H2 f r2 rx q => ?_)
        obtain ⟨t, rfl, q⟩ := onS_of q
        cases rx
        refine ⟨⟨_, rfl⟩, ρ, S2, _, Xd, hl, re.mono r f, r2, q, fun y S3 u H3 f3 r3 ry q => ?_, hx.after f⟩
        obtain ⟨b, rfl, q1, q2⟩ := onS_of q
        cases ry
        obtain ⟨r', e1, e2, e3⟩ := strip_ok t b
        refine ⟨_, _, rfl, rfl, by rw [stx_len, ← lim_eq]; exact q1, ?_⟩
        rw [e1]
        exact (hq.after (f.trans f3)).same r3 (.str _) (q2 r' e2 e3)
      | join =>
        refine fin (PE.imp (pe_join (peOk a h5 o).1 (peOk e h6 o).1 (plB_star h4) (bare_of h3) h2) fun σ H Q ⟨ρ, S, Qd, Xd, hl, re, r, w, hq, hx⟩ =>
          one_rel hl re r w hx fun x S2 v H2 f r2 rx q => ?_)
        obtain ⟨t, rfl, q⟩ := onS_of q
        cases rx
        refine ⟨⟨_, rfl⟩, ρ, S2, _, Xd, hl, re.mono r f, r2, q, fun y S3 u H3 f3 r3 ry q => ?_, hx.after f⟩
        obtain ⟨xs, e2, q⟩ := opt_of q
        obtain ⟨ts, e3, q1, q2⟩ := opt_of q
        obtain ⟨p, vs, rfl, hs, rs⟩ := sqOf_rel r3 ry e2
        have e4 := strs_rel rs e3
        subst e4
        refine ⟨_, p, ts.map stx, rfl, rfl, by rw [eK]; exact hs, by rw [sum_len, List.length_map, stx_len]; exact q1, ?_⟩
        rw [joinT_stx]
        exact (hq.after (f.trans f3)).same r3 (.str _) q2
    · cases h
  | .isi a t, sc, ex, X, W, h, o => by
    obtain ⟨p, es', pos, rfl, hm, hg, hd, ho⟩ := biCall_of (show biCall c.T sc "isinstance" (two (chkE c.T N a sc) (fun y => match y with | .Name z _ => decide (z = tyS t) && decide (z ∈ c.T.bts) && glB sc z && !dbgB z | _ => false)) ex = true from h)
    obtain ⟨e', y, rfl, hp, hp2, h1, h2⟩ := two_of ho
    split at h2
    · rename_i z pz
      obtain ⟨h2, h6⟩ := and2 h2
      obtain ⟨h2, h5⟩ := and2 h2
      obtain ⟨h3, h4⟩ := and2 h2
      have e := of_decide_eq_true h3
      subst e
      have pty : PE X (.Name (tyS t) pz) (tC (.ty (tyN t))) := pe_bltn (o.gl h5) (o.free (of_decide_eq_true h4)) (tyB t) rfl (by cases t <;> decide +kernel) (dbg_of h6).1
      have eK := o.eK
      refine fin (PE.imp (pe_callB call_isi (o.gl hg) (o.free hm) (by decide +kernel) (pa_cons (peOk a h1 o).1 (pa_cons pty pa_nil (plB_star hp2)) (plB_star hp)) (by decide +kernel) hd (plB_star hp) (plB_all (es := [_]) (by show (plB _ && true) = true; rw [hp2]; rfl))) fun σ H Q ⟨ρ, S, Qd, Xd, hl, re, r, w, hq, hx⟩ =>
        one_rel hl re r w hx fun x S2 v H2 f r2 rx q => ?_)
      obtain ⟨b, e, q⟩ := opt_of q
      obtain ⟨n, g1, g2⟩ := isTy_rel r2 rx e
      refine ⟨v, .ty (tyN t), n, .type (tyN t), b, rfl, .ty _, ?_, by rw [eK]; exact g2, (hq.after f).same r2 (.bl b) q⟩
      rw [eK]; exact g1
    · cases h2
  | .isi2 a t u, sc, ex, X, W, h, o => by
    obtain ⟨p, es', pos, rfl, hm, hg, hd, ho⟩ := biCall_of (show biCall c.T sc "isinstance" (two (chkE c.T N a sc) (fun y => match y with | .Tuple [.Name z _, .Name z2 _] _ _ => clsB c.T sc t z && clsB c.T sc u z2 | _ => false)) ex = true from h)
    obtain ⟨e', y, rfl, hp, hp2, h1, h2⟩ := two_of ho
    split at h2
    · rename_i z pz z2 pz2 kt ptt
      obtain ⟨g1, g2⟩ := and2 h2
      obtain ⟨f1, p1⟩ := cls_name o g1
      obtain ⟨f2, p2⟩ := cls_name o g2
      have eK := o.eK
      have pt := pe_tup (x1 := kt) (pos := ptt) (pa_cons (p1 pz) (pa_cons (p2 pz2) pa_nil))
      refine fin (PE.imp (pe_callB call_isiT (o.gl hg) (o.free hm) (by decide +kernel) (pa_cons (peOk a h1 o).1 (pa_cons pt pa_nil (plB_star rfl)) (plB_star hp)) (by decide +kernel) hd (plB_star hp) (plB_all (es := [_]) rfl)) fun σ H Q ⟨ρ, S, Qd, Xd, hl, re, r, w, hq, hx⟩ =>
        one_rel hl re r w hx fun x S2 v H2 f r2 rx q => ?_)
      obtain ⟨b, e, q⟩ := opt_of q
      obtain ⟨d, e2, q⟩ := opt_of q
      refine ⟨by show 2 ≤ sizeLine; rw [sizeLine_eq]; omega, fun tp htp => ?_⟩
      have f3 : Fr S2 H2 S2 (L2.upd H2 tp (.tup [.ty (tyN t), .ty (tyN u)])) := Fr.laid htp
      have r3 := r2.laid (o := .tup [.ty (tyN t), .ty (tyN u)]) htp
      have rx3 := rx.mono r2 f3
      obtain ⟨n', k1, kk⟩ := isTy_all r3 rx3 e
      have k2 := kk t b e
      have k4 := kk u d e2
      refine ⟨v, tp, [.ty (tyN t), .ty (tyN u)], n', [.type (tyN t), .type (tyN u)], b || d, rfl, upd_same, .cons (.ty _) (.cons (.ty _) .nil), ?_, ?_, (hq.after (f.trans f3)).same r3 (.bl _) q⟩
      · rw [eK]; exact k1
      · rw [eK]
        refine kitAny_cons k2 (fun hb => kitAny_cons k4 (fun hd => ?_) fun hd => ?_) fun hb => ?_
        · subst hb hd; exact kitAny_nil
        · subst hd; rw [Bool.or_true]
        · subst hb; rfl
    · cases h2
  | .isx a cs, sc, ex, X, W, h, o => by
    obtain ⟨p, es', pos, rfl, hm, hg, hd, ho⟩ := biCall_of (show biCall c.T sc "isinstance" (two (chkE c.T N a sc) (clsM c.T sc cs)) ex = true from h)
    obtain ⟨e', y, rfl, hp, hp2, h1, h2⟩ := two_of ho
    have eK := o.eK
    unfold clsM at h2
    split at h2
    · rename_i z pz
      obtain ⟨hlen, h2⟩ := and2 h2
      match cs, of_decide_eq_true hlen, h2 with
      | [c'], _, h2 =>
        have h2 : clsX c.T sc c' z = true := h2
        obtain ⟨v, wv, pty, hv, hk⟩ := cls_one o h2
        refine fin (PE.imp (pe_callB call_isXA (o.gl hg) (o.free hm) (by decide +kernel) (pa_cons (peOk a h1 o).1 (pa_cons (pty pz) pa_nil (plB_star hp2)) (plB_star hp)) (by decide +kernel) hd (plB_star hp) (plB_all (es := [_]) (by show (plB _ && true) = true; rw [hp2]; rfl))) fun σ H Q ⟨ρ, S, Qd, Xd, hl, re, r, w, hq, hx⟩ =>
          one_rel hl re r w hx fun x S2 u H2 f r2 rx q => ?_)
        obtain ⟨C, fs, rfl, i, hi, q⟩ := onX_of q
        cases rx with
        | xn ha =>
          refine ⟨C, by rw [eK]; exact (o.er.ok i C hi).ec, _, v, wv, _, rfl, ha, hv, by rw [eK]; exact hk i C hi, ?_⟩
          have e1 : ([c'] : List Nat).any (c.G.sub i) = c.G.sub i c' := by simp
          rw [e1] at q
          exact (hq.after f).same r2 (.bl _) q
    · rename_i zs kt ptt
      obtain ⟨h3, h4⟩ := and2 h2
      obtain ⟨vs, wvs, t, g1, g2, g3, g4, g5⟩ := cls_all o h4
      have pt := pe_tup (x1 := kt) (pos := ptt) g1
      refine fin (PE.imp (pe_callB call_isXTA (o.gl hg) (o.free hm) (by decide +kernel) (pa_cons (peOk a h1 o).1 (pa_cons pt pa_nil (plB_star rfl)) (plB_star hp)) (by decide +kernel) hd (plB_star hp) (plB_all (es := [_]) rfl)) fun σ H Q ⟨ρ, S, Qd, Xd, hl, re, r, w, hq, hx⟩ =>
        one_rel hl re r w hx fun x S2 u H2 f r2 rx q => ?_)
      obtain ⟨C, fs, rfl, i, hi, q⟩ := onX_of q
      refine g2 _ _ _ ⟨?_, fun tp htp => ?_⟩
      · have := of_decide_eq_true h3
        rw [g3, sizeLine_eq]; omega
      · cases rx with
        | xn ha =>
          have f3 : Fr S2 H2 S2 (L2.upd H2 tp (.tup vs)) := Fr.laid htp
          have r3 := r2.laid (o := .tup vs) htp
          have ha3 := (f3 _ _ ha (r2.xo ha)).1
          exact ⟨C, by rw [eK]; exact (o.er.ok i C hi).ec, _, tp, vs, wvs, _, rfl, ha3, L2.upd_same, g4, by rw [eK]; exact g5 i C hi, (hq.after (f.trans f3)).same r3 (.bl _) q⟩
    · cases h2
  | .dic, sc, ex, X, W, h, o => by
    have h : (match (generalizing := false) ex with | .Dict [] [] _ => true | _ => false) = true := h
    split at h
    · exact fin (PE.imp pe_dnewK fun σ H Q ⟨ρ, S, Qd, Xd, hl, re, r, w, hq, hx⟩ => fun p hp => hq _ _ _ _ (Fr.laidS hp) (r.dic hp) (.ref p) (w p (r.none hp)))
    · cases h
  | .dct ks es, sc, ex, X, W, h, o => by
    have h : (match (generalizing := false) ex with | .Dict kes vs _ => decide (ks ≠ []) && decide (ks.Nodup) && decide (ks.length ≤ 15) && keysB ks kes && decide (vs.length = ks.length) && vs.all plB && chkEs c.T N es sc vs | _ => false) = true := h
    split at h
    · rename_i kes vs pos hheq
      obtain ⟨h, h7⟩ := and2 h
      obtain ⟨h, h6⟩ := and2 h
      obtain ⟨h, h5⟩ := and2 h
      obtain ⟨h, h4⟩ := and2 h
      obtain ⟨h, h3⟩ := and2 h
      obtain ⟨h1, h2⟩ := and2 h
      obtain ⟨k1, k2⟩ := keysB_some h4
      have h5 := of_decide_eq_true h5
      have h3 := of_decide_eq_true h3
      obtain ⟨p1, p2, p3⟩ := ppOk es (pos := pos) h4 h7 h6 h5 o
      refine fin (PE.imp (pe_disp p1 k1 (by omega) (fun z => of_decide_eq_true h1 (by rw [z] at k2; exact List.eq_nil_of_length_eq_zero k2.symm)) (by omega)) fun σ H Q q => disp_rel h3 (of_decide_eq_true h2) p2 p3 q)
    · cases h
  | .comp e t it oc, sc, ex, X, W, h, o => by
    have h : (match (generalizing := false) ex with
      | .ListComp e' [⟨tg, it', ifs, k⟩] scope _ => !c.T.hot && decide (k = 0) && blkC N sc scope (ownOf N (M.tgs t)) && decide ((ownOf N (M.tgs t)).map (·.2) = M.tgs t) && decide (M.tgs t).Nodup && noSet it' && chkIt c.T N it sc it' (isTupB tg) && chkTg N (tgB scope sc) t tg
          && (match ifs with | [] => chkO c.T N oc (relS scope sc) none | [d] => chkO c.T N oc (relS scope sc) (some d) | _ => false) && chkE c.T N e (relS scope sc) e'
      | _ => false) = true := h
    split at h
    · rename_i e' tg it' ifs k0 scope pos hh
      obtain ⟨h, h9⟩ := and2 h
      obtain ⟨h, h8⟩ := and2 h
      obtain ⟨h, h7⟩ := and2 h
      obtain ⟨h, h6⟩ := and2 h
      obtain ⟨h, h5⟩ := and2 h
      obtain ⟨h, h4⟩ := and2 h
      obtain ⟨h, h3⟩ := and2 h
      obtain ⟨h, h2⟩ := and2 h
      obtain ⟨hcal, h1⟩ := and2 h
      have e0 := of_decide_eq_true h1
      subst e0
      have eo : (ownOf N (M.tgs t)).map (·.2) = M.tgs t := of_decide_eq_true h3
      refine fin ?_
      have hpe : PE X (.ListComp e' [⟨tg, it', ifs, 0⟩] scope pos) (tLc (tIt c W it) (tgG c.K t) (tCn c oc) (tE c W0 e) ((ownOf N (M.tgs t)).map (·.2))) := by
        refine pe_lc (o.calm' hcal) (by rw [o.eN]; exact o.nd) (piOk it h6 o) (by rw [o.eN, o.es]; exact blkOk_by h2) (fun s H C cl fp => ?_) (fun s H C cl fp => ?_) (fun s H C cl fp => ?_) (folded_of h5)
        · have ob := o.blk s H scope C cl fp
          have q := pgOk (X := X.blk s H scope (compEnvC scope cl C X.env) fp) (t := t) (e := tg) (ok := tgB scope sc) (fun _ => ob.calm' hcal) (by rw [ob.eN]; exact ob.nd) (fun x hx => by rw [ob.es]; exact tgB_of hx) (by rw [ob.eN]; exact h7)
          rw [ob.eK] at q
          exact q
        · have ob := o.blk s H scope C cl fp
          split at h8
          · exact (poOk oc h8 ob).2
          · exact (poOk oc h8 ob).2
          · cases h8
        · exact (peOk e h9 (o.blk s H scope C cl fp)).1
      refine PE.imp hpe fun σ H Q ⟨ρ, S, Qd, Xd, hl, re, r, w, hq, hx⟩ => ?_
      refine ⟨ρ, S, _, Xd, hl, re, r, w, fun items chk S1 H1 J f1 r1 m q => ?_, hx⟩
      rw [eo]
      exact comp_rel hl (re.mono r f1) r1 m q.1 (hq.after f1) q.2
    · cases h
theorem ppOk : ∀ (es : M.Es) {ks : List M.Tx} {kes : List (Option Expr)} {vs : List Expr} {sc : Scope} {pos : Pos} {X : Cx} {W : WX}, keysB ks kes = true → chkEs c.T N es sc vs = true → vs.all plB = true → vs.length = ks.length → Ok c k N sc X W → PPs X pos kes vs (trsOf c W ks es) ∧ ks.length = M.esLen es ∧ noStar es = true
  | .nil, ks, kes, vs, sc, pos, X, W, hk, h, hp, hlen, o => by
    cases vs with
    | cons _ _ => cases h
    | nil =>
      cases ks with
      | cons _ _ => cases hlen
      | nil =>
        have := (keysB_some hk).2
        cases kes with
        | cons _ _ => cases this
        | nil => exact ⟨pps_nil, rfl, rfl⟩
  | .cons e r, ks, kes, vs, sc, pos, X, W, hk, h, hp, hlen, o => by
    cases vs with
    | nil => cases h
    | cons v vs =>
      obtain ⟨h, h3⟩ := and2 (show (plB v && chkE c.T N e sc v && chkEs c.T N r sc vs) = true from h)
      obtain ⟨h1, h2⟩ := and2 h
      obtain ⟨_, hp2⟩ := and2 (show (plB v && vs.all plB) = true from hp)
      cases ks with
      | nil => cases hlen
      | cons kk ks =>
        unfold keysB at hk
        split at hk
        · cases ‹_ = []›
        · rename_i hole es' k' ks' y a b heq1
          injection heq1 with z1 z2
          subst z1 z2
          obtain ⟨g1, g2⟩ := and2 hk
          have g1 := of_decide_eq_true g1
          subst g1
          obtain ⟨p1, p2, p3⟩ := ppOk r (pos := pos) g2 h3 hp2 (Nat.succ.inj hlen) o
          exact ⟨pps_cons pe_str (peOk e h2 o).1 p1, by rw [List.length_cons, p2]; rfl, p3⟩
        · cases hk
  | .star e r, ks, kes, vs, sc, pos, X, W, hk, h, hp, hlen, o => by
    have h : (match (generalizing := false) vs with | .Starred e' _ :: r' => chkE c.T N e sc e' && chkEs c.T N r sc r' | _ => false) = true := h
    split at h
    · cases hp
    · cases h
theorem paOk : ∀ (es : M.Es) {sc : Scope} {ex : List Expr} {X : Cx} {W : WX}, chkEs c.T N es sc ex = true → Ok c k N sc X W → PA X ex (tEs c W es)
  | .nil, sc, ex, X, W, h, o => by
    cases ex with
    | nil => exact PA.imp pa_nil fun σ H Q ⟨ρ, S, Qd, Xd, hl, re, r, w, hq, hx⟩ => hq [] S [] H Fr.refl r .nil w
    | cons _ _ => cases h
  | .cons e r, sc, ex, X, W, h, o => by
    cases ex with
    | nil => cases h
    | cons e' r' =>
      obtain ⟨h, h3⟩ := and2 (show (plB e' && chkE c.T N e sc e' && chkEs c.T N r sc r') = true from h)
      obtain ⟨h1, h2⟩ := and2 h
      exact PA.imp (pa_cons (peOk e h2 o).1 (paOk r h3 o) (plB_star h1)) fun σ H Q ⟨ρ, S, Qd, Xd, hl, re, rr, w, hq, hx⟩ =>
        one_rel hl re rr w hx fun x S2 v H2 f r2 rx q => ⟨ρ, S2, _, Xd, hl, re.mono rr f, r2, q, fun ds S3 vs H3 f3 r3 rds q => hq _ _ _ _ (f.trans f3) r3 (.cons (rx.mono r2 f3) rds) q, hx.after f⟩
  | .star e r, sc, ex, X, W, h, o => by
    have h : (match (generalizing := false) ex with | .Starred e' _ :: r' => chkE c.T N e sc e' && chkEs c.T N r sc r' | _ => false) = true := h
    split at h
    · rename_i e' p r'
      obtain ⟨h1, h2⟩ := and2 h
      have eK := o.eK
      refine PA.imp (pa_star (r := fun v H Q => ∃ a vs, v = .ref a ∧ (SqL X.K H a vs ∨ SqT X.K H a vs) ∧ Q vs H) (fun v H Q q => q) (peOk e h1 o).1 (paOk r h2 o)) fun σ H Q ⟨ρ, S, Qd, Xd, hl, re, rr, w, hq, hx⟩ =>
        one_rel hl re rr w hx fun x S2 v H2 f r2 rx q => ?_
      obtain ⟨xs, e2, q⟩ := opt_of q
      obtain ⟨a, vs, ea, hs, rd⟩ := sqOf_rel r2 rx e2
      exact ⟨a, vs, ea, by rw [eK]; exact hs, ρ, S2, _, Xd, hl, re.mono rr f, r2, q, fun ds S3 us H3 f3 r3 rds q => hq _ _ _ _ (f.trans f3) r3 ((rd.mono r2 f3).append rds) q, hx.after f⟩
    · cases h
theorem pkOk : ∀ (es : M.Es) {sc : Scope} {kw : List Keyword} {X : Cx} {W : WX}, chkEs c.T N es sc (kw.map (·.value)) = true → (kw.map (·.value)).all plB = true → Ok c k N sc X W → PK X kw (tEs c W es)
  | .nil, sc, kw, X, W, h, hp, o => by
    cases kw with
    | nil => exact ⟨fun pos pins s σ H Q I ⟨ρ, S, Qd, Xd, hl, re, r, w, hq, hx⟩ => pk_nil.run pos pins s σ H Q I (hq [] S [] H Fr.refl r .nil w)⟩
    | cons _ _ => cases h
  | .cons e r, sc, kw, X, W, h, hp, o => by
    cases kw with
    | nil => cases h
    | cons kw r' =>
      obtain ⟨nm, e', kp⟩ := kw
      obtain ⟨h, h3⟩ := and2 (show (plB e' && chkE c.T N e sc e' && chkEs c.T N r sc (r'.map (·.value))) = true from h)
      obtain ⟨h1, h2⟩ := and2 h
      obtain ⟨_, hp2⟩ := and2 (show (plB e' && (r'.map (·.value)).all plB) = true from hp)
      exact ⟨fun pos pins s σ H Q I ⟨ρ, S, Qd, Xd, hl, re, rr, w, hq, hx⟩ => (pk_cons (peOk e h2 o).1 (pkOk r h3 hp2 o)).run pos pins s σ H Q I
        (one_rel hl re rr w hx fun x S2 v H2 f r2 rx q => ⟨ρ, S2, _, Xd, hl, re.mono rr f, r2, q, fun ds S3 vs H3 f3 r3 rds q => hq _ _ _ _ (f.trans f3) r3 (.cons (rx.mono r2 f3) rds) q, hx.after f⟩)⟩
  | .star e r, sc, kw, X, W, h, hp, o => by
    have h : (match (generalizing := false) kw.map (·.value) with | .Starred e' _ :: r' => chkE c.T N e sc e' && chkEs c.T N r sc r' | _ => false) = true := h
    split at h
    · rename_i heq
      rw [heq] at hp
      cases hp
    · cases h
theorem pnOk : ∀ (es : M.Es) {sc : Scope} {ex : List Expr} {T : Tb}, chkEs T N es sc ex = true → ex = [] → ∀ {c : Cn} {W : WX} σ H Q, tEs c W es σ H Q → Q [] H
  | .nil, sc, ex, T, h, e, c, W, σ, H, Q, ⟨ρ, S, Qd, Xd, hl, re, r, w, hq, hx⟩ => hq [] S [] H Fr.refl r .nil w
  | .cons _ _, sc, ex, T, h, e, c, W, σ, H, Q, _ => by subst e; cases h
  | .star _ _, sc, ex, T, h, e, c, W, σ, H, Q, _ => by subst e; cases h
theorem prOk : ∀ (es : M.Es) {sc : Scope} {ex : List Expr} {X : Cx} {W : WX}, chkR c.T N es sc ex = true → ex ≠ [] → Ok c k N sc X W → ∀ pos : Pos,
    (PE X (.BoolOp .And ex pos) (tR c W M.wpAnd es) ∧ PW X (.BoolOp .And ex pos) (tB (tR c W M.wpAnd es))) ∧ PE X (.BoolOp .Or ex pos) (tR c W M.wpOr es) ∧ PW X (.BoolOp .Or ex pos) (tB (tR c W M.wpOr es))
  | .nil, sc, ex, X, W, h, hne, o, pos => by
    cases ex with
    | nil => exact absurd rfl hne
    | cons _ _ => cases h
  | .star _ _, sc, ex, X, W, h, _, o, pos => nomatch h
  | .cons e r, sc, ex, X, W, h, hne, o, pos => by
    cases ex with
    | nil => exact absurd rfl hne
    | cons e' r' =>
      obtain ⟨h1, h2⟩ := and2 (show (chkE c.T N e sc e' && chkR c.T N r sc r') = true from h)
      obtain ⟨p1, p2⟩ := peOk e h1 o
      cases r' with
      | nil =>
        cases r with
        | nil =>
          have i1 : ∀ σ H Q, tR c W M.wpAnd (.cons e .nil) σ H Q → tE c W e σ H Q := fun σ H Q ⟨ρ, S, Qd, Xd, hl, re, rr, w, hq, hx⟩ => ⟨ρ, S, Qd, Xd, hl, re, rr, w, hq, hx⟩
          have i2 : ∀ σ H Q, tR c W M.wpOr (.cons e .nil) σ H Q → tE c W e σ H Q := fun σ H Q ⟨ρ, S, Qd, Xd, hl, re, rr, w, hq, hx⟩ => ⟨ρ, S, Qd, Xd, hl, re, rr, w, hq, hx⟩
          exact ⟨⟨PE.imp (pe_one p1) i1, ⟨fun wh pins s σ H Q I h => (pw_and1 p2).run wh pins s σ H Q I (i1 _ _ _ h)⟩⟩, PE.imp (pe_one p1) i2, ⟨fun wh pins s σ H Q I h => (pw_or1 p2).run wh pins s σ H Q I (i2 _ _ _ h)⟩⟩
        | cons _ _ => cases h2
        | star _ _ => cases h2
      | cons e2 r2 =>
        obtain ⟨⟨g1, g2⟩, g3, g4⟩ := prOk r h2 (by simp) o pos
        cases r with
        | nil => cases h2
        | star _ _ => cases h2
        | cons f r =>
          have rdA : ∀ {σ : Sl} {H : Hp} {Q : VK}, tR c W M.wpAnd (.cons e (.cons f r)) σ H Q → tE c W e σ H fun v H1 => ∃ b, v = .bl b ∧ if b = true then tR c W M.wpAnd (.cons f r) σ H1 Q else Q (.bl false) H1 := fun {σ H Q} ⟨ρ, S, Qd, Xd, hl, re, rr, w, hq, hx⟩ =>
            one_rel hl re rr w hx fun x S2 v H2 f r2 rx q => by
              obtain ⟨b, rfl, qt, qf⟩ := onB_of q
              cases rx
              refine ⟨b, rfl, ?_⟩
              cases b with
              | true => rw [if_pos rfl]; exact ⟨ρ, S2, Qd, Xd, hl, re.mono rr f, r2, qt rfl, hq.after f, hx.after f⟩
              | false => rw [if_neg Bool.false_ne_true]; exact (hq.after f).same r2 (.bl false) (qf rfl)
          have rdO : ∀ {σ : Sl} {H : Hp} {Q : VK}, tR c W M.wpOr (.cons e (.cons f r)) σ H Q → tE c W e σ H fun v H1 => ∃ b, v = .bl b ∧ if b = true then Q (.bl true) H1 else tR c W M.wpOr (.cons f r) σ H1 Q := fun {σ H Q} ⟨ρ, S, Qd, Xd, hl, re, rr, w, hq, hx⟩ =>
            one_rel hl re rr w hx fun x S2 v H2 f r2 rx q => by
              obtain ⟨b, rfl, qt, qf⟩ := onB_of q
              cases rx
              refine ⟨b, rfl, ?_⟩
              cases b with
              | false => rw [if_neg Bool.false_ne_true]; exact ⟨ρ, S2, Qd, Xd, hl, re.mono rr f, r2, qf rfl, hq.after f, hx.after f⟩
              | true => rw [if_pos rfl]; exact (hq.after f).same r2 (.bl true) (qt rfl)
          refine ⟨⟨PE.imp (pe_and p1 g1) fun σ H Q h => rdA h, ⟨fun wh pins s σ H Q I h => (pw_and p2 g2).run wh pins s σ H Q I ?_⟩⟩, PE.imp (pe_or p1 g3) fun σ H Q h => rdO h, ⟨fun wh pins s σ H Q I h => (pw_or p2 g4).run wh pins s σ H Q I ?_⟩⟩
          · obtain ⟨ρ, S, Qd, Xd, hl, re, rr, w, hq, hx⟩ := rdA h
            refine ⟨ρ, S, Qd, Xd, hl, re, rr, w, fun d S' v H' f r' rd' q => ?_, hx⟩
            obtain ⟨b, e, q⟩ := hq d S' v H' f r' rd' q
            refine ⟨b, e, ?_⟩
            cases b with
            | true => exact q
            | false =>
              obtain ⟨b', e', q⟩ := q
              cases e'
              exact q
          · obtain ⟨ρ, S, Qd, Xd, hl, re, rr, w, hq, hx⟩ := rdO h
            refine ⟨ρ, S, Qd, Xd, hl, re, rr, w, fun d S' v H' f r' rd' q => ?_, hx⟩
            obtain ⟨b, e, q⟩ := hq d S' v H' f r' rd' q
            refine ⟨b, e, ?_⟩
            cases b with
            | false => exact q
            | true =>
              obtain ⟨b', e', q⟩ := q
              cases e'
              exact q
theorem poOk : ∀ (oe : M.Oe) {sc : Scope} {ex : Option Expr} {X : Cx} {W : WX}, chkO c.T N oe sc ex = true → Ok c k N sc X W → PO X ex (tO c W oe) ∧ PTs X ex.toList (tCn c oe)
  | .none, sc, ex, X, W, h, o => by
    cases ex with
    | none => exact ⟨⟨fun pins s σ H Q I ⟨ρ, S, Qd, Xd, hl, re, r, w, hq, hx⟩ => po_none.run pins s σ H Q I (hq none S H Fr.refl r w)⟩, ⟨fun pins s σ H Q I ⟨ρ, S, Qd, hl, re, r, w, hq⟩ => pts_nil.run pins s σ H Q I (hq true S H Fr.refl r w)⟩⟩
    | some _ => cases h
  | .some e, sc, ex, X, W, h, o => by
    cases ex with
    | none => cases h
    | some e' =>
      obtain ⟨p1, p2⟩ := peOk e (show chkE c.T N e sc e' = true from h) o
      refine ⟨⟨fun pins s σ H Q I ⟨ρ, S, Qd, Xd, hl, re, r, w, hq, hx⟩ => (po_some p1).run pins s σ H Q I ?_⟩, ⟨fun pins s σ H Q I ⟨ρ, S, Qd, hl, re, r, w, hq⟩ => (pts_one p2).run pins s σ H Q I ?_⟩⟩
      · exact one_rel hl re r w hx fun x S2 v H2 f r2 rx q => by
          obtain ⟨i, rfl, q⟩ := onI_of q
          cases rx
          exact ⟨i, rfl, hq _ _ _ f r2 q⟩
      · refine ⟨ρ, S, _, M.X0, hl, re, r, w, fun x S2 v H2 f r2 rx q => ?_, okX0⟩
        obtain ⟨b, rfl, q⟩ := onB_of q
        cases rx
        exact ⟨b, rfl, hq _ _ _ f r2 q⟩
theorem piOk : ∀ (it : M.It) {sc : Scope} {ex tg : Expr} {X : Cx} {W : WX}, chkIt c.T N it sc ex (isTupB tg) = true → Ok c k N sc X W → PI X tg ex (tIt c W it)
  | .seq e, sc, ex, tg, X, W, h, o => by
    have eK := o.eK
    exact PI.imp (pi_seqM (peOk e (show chkE c.T N e sc ex = true from h) o).1) fun σ H R ⟨ρ, S, Rd, Xd, hl, re, r, w, hq, hx⟩ => one_rel hl re r w hx fun x S2 v H2 f r2 rx q => by rw [eK]; exact seq_rel r2 rx q (hq.after f)
  | .rng e, sc, ex, tg, X, W, h, o => by
    obtain ⟨p, es', pos, rfl, hm, hg, hd, ho⟩ := biCall_of (show biCall c.T sc "range" (one (chkE c.T N e sc)) ex = true from h)
    obtain ⟨e', rfl, hp, ho⟩ := one_of ho
    refine PI.imp (pi_range1 (o.gl hg) (o.free hm) (pa_cons (peOk e ho o).1 pa_nil (plB_star hp)) (plB_star hp)) fun σ H R ⟨ρ, S, Rd, Xd, hl, re, r, w, hq, hx⟩ => one_rel hl re r w hx fun x S2 v H2 f r2 rx q => ?_
    obtain ⟨j, rfl, q⟩ := onI_of q
    cases rx
    obtain ⟨_, _, q1, q2, q3⟩ := q
    refine ⟨j, rfl, q1, q2, (hq.after f).here r2 ?_ q3⟩
    have e0 : j.toNat = (j - 0).toNat := by rw [Int.sub_zero]
    rw [e0]
    exact mat_rng
  | .rng2 a b, sc, ex, tg, X, W, h, o => by
    obtain ⟨p, es', pos, rfl, hm, hg, hd, ho⟩ := biCall_of (show biCall c.T sc "range" (two (chkE c.T N a sc) (chkE c.T N b sc)) ex = true from h)
    obtain ⟨e1, e2, rfl, hp, hp2, h1, h2⟩ := two_of ho
    refine PI.imp (pi_range2 (o.gl hg) (o.free hm) (pa_cons (peOk a h1 o).1 (pa_cons (peOk b h2 o).1 pa_nil (plB_star hp2)) (plB_star hp)) (by rw [plB_star hp, plB_star hp2]; rfl) (plB_star hp2)) fun σ H R ⟨ρ, S, Rd, Xd, hl, re, r, w, hq, hx⟩ => two_rel hl re r w hx fun x y S2 v u H2 f r2 rx ry q => ?_
    obtain ⟨i, ei, q'⟩ := onI_of q
    obtain ⟨j, ej, q''⟩ := onI_of q'
    subst ei ej
    cases rx
    cases ry
    obtain ⟨q1, q2, q3, q4, q5⟩ := q''
    exact ⟨i, j, rfl, ⟨q1, q2, q3, q4⟩, (hq.after f).here r2 mat_rng q5⟩
  | .zip a b, sc, ex, tg, X, W, h, o => by
    obtain ⟨ht, h⟩ := and2 (show (isTupB tg && biCall c.T sc "zip" (two (chkE c.T N a sc) (chkE c.T N b sc)) ex) = true from h)
    obtain ⟨ts, tk, tp, rfl⟩ := tupB_of ht
    obtain ⟨p, es', pos, rfl, hm, hg, hd, ho⟩ := biCall_of h
    obtain ⟨e1, e2, rfl, hp, hp2, h1, h2⟩ := two_of ho
    have eK := o.eK
    refine PI.imp (pi_zipM (o.gl hg) (o.free hm) (pa_cons (peOk a h1 o).1 (pa_cons (peOk b h2 o).1 pa_nil (plB_star hp2)) (plB_star hp)) (plB_star hp) (plB_all (es := [_]) (by show (plB _ && true) = true; rw [hp2]; rfl))) fun σ H R ⟨ρ, S, Rd, Xd, hl, re, r, w, hq, hx⟩ => two_rel hl re r w hx fun x y S2 v u H2 f r2 rx ry q => ?_
    rw [eK]
    rcases zip_cases q with ⟨xs, ys, rfl, rfl, q⟩ | ⟨a, ys, rfl, rfl, q⟩ | q
    · cases rx with
      | tup a1 a2 => cases ry with
        | tup b1 b2 => exact ⟨_, _, .tup _, .tup _, _, _, rfl, rfl, rfl, a1, b1, (hq.after f).here r2 (mat_zipM (fun _ _ f' _ _ => ⟨_, sqt_mono r2 f' a1, a2.mono r2 f'⟩) fun _ _ f' _ _ => ⟨_, sqt_mono r2 f' b1, b2.mono r2 f'⟩) q⟩
    · cases rx with
      | str a => cases ry with
        | tup b1 b2 => exact ⟨_, _, .txt _, .tup _, _, _, rfl, rfl, rfl, rfl, b1, (hq.after f).here r2 (mat_zipM (fun _ _ _ _ _ => ⟨_, rfl, chrs_rel a⟩) fun _ _ f' _ _ => ⟨_, sqt_mono r2 f' b1, b2.mono r2 f'⟩) q⟩
    · obtain ⟨xs, ex, q⟩ := opt_of q
      obtain ⟨ys, ey, q⟩ := opt_of q
      obtain ⟨p1, vs, rfl, hs, _⟩ := lsOf_rel r2 rx ex
      obtain ⟨p2, us, rfl, hs2, _⟩ := lsOf_rel r2 ry ey
      exact ⟨_, _, .lst p1, .lst p2, vs, us, rfl, rfl, rfl, hs, hs2, (hq.after f).here r2 (mat_zipM (fun _ _ f' r' ch => ls_at r2 f' r' rx ch.1) fun _ _ f' r' ch => ls_at r2 f' r' ry ch.2) q⟩
  | .zip3 a b d, sc, ex, tg, X, W, h, o => by
    obtain ⟨ht, h⟩ := and2 (show (isTupB tg && biCall c.T sc "zip" (three (chkE c.T N a sc) (chkE c.T N b sc) (chkE c.T N d sc)) ex) = true from h)
    obtain ⟨ts, tk, tp, rfl⟩ := tupB_of ht
    obtain ⟨p, es', pos, rfl, hm, hg, hd, ho⟩ := biCall_of h
    obtain ⟨e1, e2, e3, rfl, hp, hp2, hp3, h1, h2, h3⟩ := three_of ho
    have eK := o.eK
    refine PI.imp (pi_zip3 (o.gl hg) (o.free hm) (pa_cons (peOk a h1 o).1 (pa_cons (peOk b h2 o).1 (pa_cons (peOk d h3 o).1 pa_nil (plB_star hp3)) (plB_star hp2)) (plB_star hp)) (plB_star hp) (plB_all (es := [_, _]) (by show (plB _ && (plB _ && true)) = true; rw [hp2, hp3]; rfl))) fun σ H R ⟨ρ, S, Rd, Xd, hl, re, r, w, hq, hx⟩ => three_rel hl re r w hx fun x y z S2 v u t H2 f r2 rx ry rz q => ?_
    rw [eK]
    have q : M.zip3D x y z S2 Rd := q
    unfold M.zip3D at q
    split at q
    · cases rx with
      | tup a1 a2 => cases ry with
        | tup b1 b2 => cases rz with
          | tup c1 c2 => exact ⟨_, _, _, .tup _, .tup _, .tup _, _, _, _, rfl, rfl, rfl, rfl, a1, b1, c1, (hq.after f).here r2 (mat_zip3 (fun _ _ f' _ _ => ⟨_, sqt_mono r2 f' a1, a2.mono r2 f'⟩) (fun _ _ f' _ _ => ⟨_, sqt_mono r2 f' b1, b2.mono r2 f'⟩) fun _ _ f' _ _ => ⟨_, sqt_mono r2 f' c1, c2.mono r2 f'⟩) q⟩
    · exact False.elim q
  | .enum e, sc, ex, tg, X, W, h, o => by
    obtain ⟨ht, h⟩ := and2 (show (isTupB tg && biCall c.T sc "enumerate" (one (chkE c.T N e sc)) ex) = true from h)
    obtain ⟨ts, tk, tp, rfl⟩ := tupB_of ht
    obtain ⟨p, es', pos, rfl, hm, hg, hd, ho⟩ := biCall_of h
    obtain ⟨e', rfl, hp, ho⟩ := one_of ho
    have eK := o.eK
    refine PI.imp (pi_enum (o.gl hg) (o.free hm) (pa_cons (peOk e ho o).1 pa_nil (plB_star hp)) (plB_star hp)) fun σ H R ⟨ρ, S, Rd, Xd, hl, re, r, w, hq, hx⟩ => one_rel hl re r w hx fun x S2 v H2 f r2 rx q => ?_
    obtain ⟨xs, ex, q⟩ := opt_of q
    obtain ⟨p1, vs, rfl, hs, _⟩ := lsOf_rel r2 rx ex
    rw [eK]
    exact ⟨p1, vs, rfl, hs, (hq.after f).here r2 (mat_enum r2 rx) q⟩
end
end
end Snd
namespace Snd
open PySem PySem.Spec PyProof.Rows L2
def isStar : Expr → Bool
  | .Starred .. => true | _ => false
def swName (sc : Scope) (line : Nat) : Expr → Option Str
  | .Name id pos => if sc.names.lookup id == some .local && pos.line == line then some id else none
  | _ => none
def swTup (sc : Scope) (ts vs : List Expr) : Option (Option (List Str)) :=
    if (!(ts.length == 2 || ts.length == 3) || vs.length != ts.length) = true then some none
    else if vs.any isStar = true then some none
    else if ((ts.filterMap (swName sc ((ts.head?.map (·.pos.line)).getD 0))).length != ts.length || (ts.filterMap (swName sc ((ts.head?.map (·.pos.line)).getD 0))).eraseDups.length != (ts.filterMap (swName sc ((ts.head?.map (·.pos.line)).getD 0))).length) = true then some none
      else if vs.all (foldedForSure 8) = true then some none
      else if vs.all (constantsAlone 8) = true then none
      else some (some (ts.filterMap (swName sc ((ts.head?.map (·.pos.line)).getD 0))))
theorem sw_ok {env : Env} {ts vs : List Expr} {k k2 : Nat} {p p2 : Pos} {r : Option (List Str)} (hk : env.scope.kind = .function) (h : swTup env.scope ts vs = some r) : swappedStores [.Tuple ts k p] (.Tuple vs k2 p2) env = pure r := by
  have hb : env.blockKind = .function := by unfold Env.blockKind; rw [hk]; rfl
  have e1 : ∀ F : Expr → Bool, (∀ x, F x = isStar x) → vs.any F = vs.any isStar := fun F h => by rw [funext h]
  have e2 : ∀ (line : Nat) (F : Expr → Option Str), (∀ x, F x = swName env.scope line x) → ts.filterMap F = ts.filterMap (swName env.scope line) := fun line F h => by rw [funext h]
  unfold swappedStores
  unfold swTup at h
  simp only [hb, bne_self_eq_false, Bool.or_false]
  split at h
  · rename_i h1
    cases h
    rw [if_pos h1]
  · rename_i h1
    rw [if_neg h1]
    split at h
    · rename_i h2
      cases h
      rw [if_pos ((e1 _ (by intro x; cases x <;> rfl)).trans h2)]
    · rename_i h2
      rw [if_neg (fun z => h2 ((e1 _ (by intro x; cases x <;> rfl)).symm.trans z))]
      rw [e2 ((ts.head?.map (·.pos.line)).getD 0) _ (by intro x; cases x <;> rfl)]
      split at h
      · rename_i h3
        cases h
        exact if_pos h3
      · rename_i h3
        rw [if_neg h3]
        split at h
        · rename_i h4
          cases h
          exact if_pos h4
        · rename_i h4
          rw [if_neg h4]
          split at h
          · cases h
          · rename_i h5
            cases h
            rw [if_neg h5]
def notComp : Expr → Bool
  | .ListComp .. => false | .SetComp .. => false | .DictComp .. => false | _ => true
def notTup : Expr → Bool
  | .Tuple .. => false | _ => true
/-- a comprehension on the name's own line, the name a local: the stores are exchanged -/
def swC (sc : Scope) (e tg : Expr) : Bool := match e, tg with
  | .ListComp _ _ scope pos, .Name t p => locB sc t && (p.line == pos.line) && !(scope.names.any fun (n, k) => n == t && (k == .local || k == .cell))
  | _, _ => false
theorem swapsWith_not {e : Expr} {tg : Option Expr} {l : Nat} {env : Env} (h : notComp e = true) : swapsWith e tg l env = pure false := by
  cases e <;> first | rfl | cases h
theorem swapsSole_not {e tg : Expr} {l : Nat} {env : Env} (h : notComp e = true) : swapsWithSole [tg] e l env = pure false := swapsWith_not h
/-- what a set's value and target may be: no exchange of stores -/
def setB (sc : Scope) (e tg : Expr) : Bool := match tg with
  | .Name t p => (match e with
    | .ListComp _ _ scope pos => !(locB sc t && (p.line == pos.line) && !(scope.names.any fun (n, k) => n == t && (k == .local || k == .cell)))
    | e => notComp e)
  | .Tuple ts _ _ => (match e with
    | .Tuple vs _ _ => decide (swTup sc ts vs = some none)
    | .ListComp .. => true
    | e => notComp e)
  | _ => false
theorem set_sw {env : Env} {e tg : Expr} {l : Nat} (hk : env.scope.kind = .function) (h : setB env.scope e tg = true) : swapsWithSole [tg] e l env = pure false ∧ swappedStores [tg] e env = pure none := by
  have hb : env.blockKind = .function := by unfold Env.blockKind; rw [hk]; rfl
  cases tg with
  | Name t p =>
    refine ⟨?_, by cases e <;> rfl⟩
    cases e with
    | ListComp elt gs scope pos =>
      have h := not1 (show (!(locB env.scope t && (p.line == pos.line) && !(scope.names.any fun (n, k) => n == t && (k == .local || k == .cell)))) = true from h)
      have e1 : locB env.scope t = (env.kindOf t == some .local) := by
        unfold locB Env.kindOf
        cases e2 : env.scope.names.lookup t with
        | none => rfl
        | some q => cases q <;> rfl
      rw [e1] at h
      show swapsWith (.ListComp elt gs scope pos) (some (.Name t p)) l env = pure false
      unfold swapsWith
      simp only [hb, Expr.pos]
      have hf : ((ScopeKind.function == ScopeKind.function) && (env.kindOf t == some .local) && (p.line == pos.line) && !(scope.names.any fun (n, k) => n == t && (k == .local || k == .cell))) = false := by
        rw [show (ScopeKind.function == ScopeKind.function) = true from rfl, Bool.true_and]; exact h
      first
        | (show pure _ = pure false; exact congrArg pure hf)
        | (rw [hf])
        | (simp only [hf])
    | _ => first | exact swapsSole_not h | cases h
  | Tuple ts k p =>
    cases e with
    | Tuple vs k2 p2 => exact ⟨swapsSole_not rfl, sw_ok hk (of_decide_eq_true h)⟩
    | ListComp elt gs scope pos => exact ⟨rfl, rfl⟩
    | _ => first | exact ⟨swapsSole_not h, rfl⟩ | cases h
  | _ => cases h
end Snd
namespace Snd
open PySem PySem.Spec PyProof.Rows L2
def lineB (e tg : Expr) : Bool := match e, tg with
  | .ListComp _ _ _ pos, .Name _ p => p.line == pos.line
  | _, _ => false
/-- names side by side, all plain locals, on one line: stored from the right -/
def parB (N : List Str) (sc : Scope) (is : List Nat) (ts vs : List Expr) : Bool :=
  namesAt N (locB sc) is ts && decide is.Nodup && vs.all plB && decide (swTup sc ts vs = some (some (is.filterMap fun i => N[i]?)))
def compV : M.Tg → Expr → Bool
  | .v _, .ListComp _ [_] _ _ => true
  | _, _ => false
theorem compV_of {t : M.Tg} {e : Expr} (h : compV t e = true) : ∃ i elt g0 scope p0, t = .v i ∧ e = .ListComp elt [g0] scope p0 := by
  unfold compV at h
  split at h
  · exact ⟨_, _, _, _, _, rfl, rfl⟩
  · cases h
theorem sub_asg {o i : Expr} {pos : Pos} {env : Env} (h : plB i = true) : ∀ v, assign (.Subscript o i pos) env v = (do
      let ov ← holding [v] (eval o env)
      let iv ← holding [v, ov] (eval i env)
      standAt pos
      holding [v, ov, iv] (setItem ov iv v)
      release [v, ov, iv] []) := by
  cases i <;> first | (intro _; rfl) | cases h
def isNilEs : M.Es → Bool
  | .nil => true
  | _ => false
def isVT : M.Tg → Bool
  | .v _ => true
  | _ => false
mutual
def chkS (T : Tb) (N : List Str) : M.St → Scope → Stmt → Bool
  | .set t e => fun sc st => (match st with
    | .Assign [tg] e' _ => (!T.hot || isVT t) && chkTg N (locCB sc) t tg && chkE T N e sc e' && (setB sc e' tg || (compV t e' && swC sc e' tg))
    | _ => false)
  | .par i j a b => fun sc st => (match st with
    | .Assign [.Tuple [x, y] _ _] (.Tuple [a', b'] _ _) _ => !T.hot && parB N sc [i, j] [x, y] [a', b'] && chkE T N a sc a' && chkE T N b sc b'
    | _ => false)
  | .par3 i j l a b d => fun sc st => (match st with
    | .Assign [.Tuple [x, y, z] _ _] (.Tuple [a', b', d'] _ _) _ => !T.hot && parB N sc [i, j, l] [x, y, z] [a', b', d'] && chkE T N a sc a' && chkE T N b sc b' && chkE T N d sc d'
    | _ => false)
  | .nev => fun _ _ => true
  | .six a i e => fun sc st => (match st with
    | .Assign [.Subscript a' i' _] e' _ => plB i' && notComp e' && chkE T N a sc a' && chkE T N i sc i' && chkE T N e sc e'
    | _ => false)
  | .fset n a e => fun sc st => (match st with
    | .Assign [.Attribute a' nm _] e' _ => decide (nm = stx n) && decide (n ∈ T.fds) && notComp e' && chkE T N a sc a' && chkE T N e sc e'
    | _ => false)
  | .psx a i j e => fun sc st => (match st with
    | .Assign [.Tuple [.Subscript a' i' ps, y] _ _] (.Tuple vs k2 p2) _ => !T.hot && plB i' && nameAt N (locCB sc) j y && decide (swTup sc [.Subscript a' i' ps, y] vs = some none) && chkE T N a sc a' && chkE T N i sc i' && chkE T N e sc (.Tuple vs k2 p2)
    | _ => false)
  | .ex e => fun sc st => (match st with | .Expr e' _ => notComp e' && chkE T N e sc e' | _ => false)
  | .ret e => fun sc st => (match st with | .Return (some e') _ => chkE T N e sc e' | _ => false)
  | .retn => fun sc st => (match st with | .Return none _ => true | _ => false)
  | .if_ g a b => fun sc st => (match st with | .If g' a' b' _ => chkE T N g sc g' && chkSs T N a sc a' && chkSs T N b sc b' | _ => false)
  | .while_ g b => fun sc st => (match st with | .While g' b' [] _ => !T.hot && chkE T N g sc g' && chkSs T N b sc b' | _ => false)
  | .for_ t it b => fun sc st => (match st with | .For tg it' b' [] _ => !T.hot && chkTg N (locCB sc) t tg && noSet it' && chkIt T N it sc it' (isTupB tg) && chkSs T N b sc b' | _ => false)
  | .brk => fun sc st => (match st with | .Break _ => true | _ => false)
  | .pass => fun sc st => (match st with | .Pass _ => true | _ => false)
  | .raise c es => fun sc st => (match st with
    | .Raise (some (.Call (.Name x _) [] [] _)) none _ => !T.hot && isNilEs es && decide (c < T.nr) && decide (T.cls[c]? = some x) && glB sc x && !dbgB x
    | _ => false)
  | .try_ b c i h => fun sc st => (match st with
    | .Try body [.ExceptHandler (some (.Name x _)) (some n) (s0 :: suite) _] [] [] _ => !T.hot && decide (N[i]? = some n) && locB sc n && decide (T.cls[c]? = some x) && glB sc x && !dbgB x && chkSs T N b sc body && chkSs { T with hot := true } N h sc (s0 :: suite)
    | _ => false)
def chkSs (T : Tb) (N : List Str) : M.Ss → Scope → List Stmt → Bool
  | .nil => fun sc st => st.isEmpty
  | .cons s r => fun sc st => (match st with | s' :: r' => chkS T N s sc s' && chkSs T N r sc r' | [] => false)
end
/-- what is wanted of a statement -/
structure OkK (c : Cn) (W : WX) (S : M.Sto) (H : Hp) (Kd : M.Kt) (D : Ends) : Prop where
  nx : ∀ ρ' S' σ' H', Fr S H S' H' → RelS c.K H' S' → RelE c.K H' ρ' σ' → ρ'.length = σ'.length → Kd.nx ρ' S' → D.nx σ' H'
  rt : OkV c.K S H Kd.rt D.rt
  bk : ∀ ρ' S' σ' H', Fr S H S' H' → RelS c.K H' S' → RelE c.K H' ρ' σ' → ρ'.length = σ'.length → Kd.bk ρ' S' → D.bk σ' H'
  xe : ∀ k fs ρ' S' σ' H' cls d, Fr S H S' H' → RelS c.K H' S' → RelE c.K H' ρ' σ' → ρ'.length = σ'.length → RelX c.K c.mg c.T k fs cls d H' → Kd.xe k fs ρ' S' → W cls d σ' H'
theorem OkK.after {c : Cn} {W : WX} {S S' : M.Sto} {H H' : Hp} {Kd : M.Kt} {D : Ends} (h : OkK c W S H Kd D) (f : Fr S H S' H') : OkK c W S' H' Kd D :=
  ⟨fun _ _ _ _ f2 => h.nx _ _ _ _ (f.trans f2), h.rt.after f, fun _ _ _ _ f2 => h.bk _ _ _ _ (f.trans f2), fun _ _ _ _ _ _ _ _ f2 => h.xe _ _ _ _ _ _ _ _ (f.trans f2)⟩
theorem OkK.ox {c : Cn} {W : WX} {S : M.Sto} {H : Hp} {Kd : M.Kt} {D : Ends} (h : OkK c W S H Kd D) {ρ : M.Env} {σ : Sl} (re : RelE c.K H ρ σ) (hl : ρ.length = σ.length) (r : RelS c.K H S) :
    OkX c S H (fun k fs S1 => Kd.xe k fs ρ S1) fun cls d H' => W cls d σ H' := fun k fs S' H' cls d f r' rx q => h.xe k fs ρ S' σ H' cls d f r' (re.mono r f) hl rx q
def tS (c : Cn) (W : WX) (st : M.St) : TS := fun D σ H => ∃ ρ S Kd, ρ.length = σ.length ∧ RelE c.K H ρ σ ∧ RelS c.K H S ∧ M.wpS c.G st ρ S Kd ∧ OkK c W S H Kd D
def tSs (c : Cn) (W : WX) (st : M.Ss) : TS := fun D σ H => ∃ ρ S Kd, ρ.length = σ.length ∧ RelE c.K H ρ σ ∧ RelS c.K H S ∧ M.wpSs c.G st ρ S Kd ∧ OkK c W S H Kd D
theorem PS.imp {X : Cx} {e : Stmt} {t t' : TS} (h : PS X e t) (i : ∀ D σ H, t' D σ H → t D σ H) : PS X e t' := ⟨fun pins s σ H D I q => h.run pins s σ H D I (i D σ H q)⟩
theorem PSs.imp {X : Cx} {e : List Stmt} {t t' : TS} (h : PSs X e t) (i : ∀ D σ H, t' D σ H → t D σ H) : PSs X e t' := ⟨fun pins s σ H D I q => h.run pins s σ H D I (i D σ H q)⟩
/-- a def's body's context -/
structure OkS (c : Cn) (k : Nat) (N : List Str) (sc : Scope) (X : Cx) (W : WX) : Prop where
  ok : Ok c k N sc X W
  kind : sc.kind = .function
  fn : ∀ x, X.fn x = true
  po : c.T.hot = false → PassesOwn (model X.prog X.w) X.A X.env X.xe
  stk : X.stack = X.env :: X.outer
  frm : X.env.frame = some X.env.locals
  exn : X.ex = []
section
variable {k : Nat} {N : List Str}
theorem tgt_of {c : Cn} {sc : Scope} {X : Cx} {W : WX} (o : OkS c k N sc X W) {t : M.Tg} {tg : Expr} (hv : (!c.T.hot || isVT t) = true) (h : chkTg N (locCB sc) t tg = true) : PG X tg (tgG c.K t) := by
  have q := pgOk (X := X) (t := t) (e := tg) (ok := locCB sc) (fun hn => o.ok.calm' (by
    rcases Bool.or_eq_true_iff.mp hv with z | z
    · exact z
    · cases t with
      | v i => exact absurd rfl (hn i)
      | tup _ => cases z
      | nest _ _ => cases z)) (by rw [o.ok.eN]; exact o.ok.nd) (fun x hx => by rw [o.ok.es]; exact ⟨locC_of hx, .inl (o.fn x)⟩) (by rw [o.ok.eN]; exact h)
  rw [o.ok.eK] at q
  exact q
theorem asg_ok {c : Cn} {W : WX} {e : M.Ex} {t : M.Tg} {D : Ends} {σ : Sl} {H : Hp} (h : tS c W (.set t e) D σ H) : tAsg (tE c W e) (tgG c.K t) D σ H := by
  obtain ⟨ρ, S, Kd, hl, re, r, w, ok⟩ := h
  refine one_rel hl re r w (ok.ox re hl r) fun x S2 v H2 f r2 rx q => ?_
  exact asg_rel r2 hl (re.mono r f) rx q fun ρ' σ' l1 l2 re' _ q => ok.nx _ _ _ _ f r2 re' l1 q
theorem name3 {N : List Str} {ok : Str → Bool} {i : Nat} {e : Expr} (h : nameAt N ok i e = true) : ∃ x p, e = .Name x p ∧ N[i]? = some x ∧ ok x = true := by
  obtain ⟨x, p, a, b, d, _⟩ := name_of h
  exact ⟨x, p, a, b, d⟩
mutual
theorem psOk : ∀ (st : M.St) {c : Cn} {sc : Scope} {ex : Stmt} {X : Cx} {W : WX}, chkS c.T N st sc ex = true → OkS c k N sc X W → PS X ex (tS c W st)
  | .set t e, c, sc, ex, X, W, h, o => by
    have h : (match (generalizing := false) ex with
      | .Assign [tg] e' _ => (!c.T.hot || isVT t) && chkTg N (locCB sc) t tg && chkE c.T N e sc e' && (setB sc e' tg || (compV t e' && swC sc e' tg))
      | _ => false) = true := h
    split at h
    · rename_i tg e' pos hh
      obtain ⟨h, h3⟩ := and2 h
      obtain ⟨h, h2⟩ := and2 h
      obtain ⟨hvt, h1⟩ := and2 h
      rcases Bool.or_eq_true_iff.mp h3 with h3 | h3
      · obtain ⟨w1, w2⟩ := set_sw (env := X.env) (l := pos.line) (by rw [o.ok.es]; exact o.kind) (by rw [o.ok.es]; exact h3)
        exact PS.imp (ps_asg (peOk e h2 o.ok).1 (tgt_of o hvt h1) w1 w2 (by cases tg <;> first | rfl | cases h1 | (cases t <;> cases h1))) fun D σ H h => asg_ok h
      · obtain ⟨hv, h3⟩ := and2 h3
        · obtain ⟨i, elt, g0, scope, p0, rfl, rfl⟩ := compV_of hv
          cases e with
          | comp e0 t0 it oc =>
            have h2 : (match (generalizing := false) Expr.ListComp elt [g0] scope p0 with
              | .ListComp e' [⟨tg, it', ifs, k⟩] scope _ => !c.T.hot && decide (k = 0) && blkC N sc scope (ownOf N (M.tgs t0)) && decide ((ownOf N (M.tgs t0)).map (·.2) = M.tgs t0) && decide (M.tgs t0).Nodup && noSet it' && chkIt c.T N it sc it' (isTupB tg) && chkTg N (tgB scope sc) t0 tg
                  && (match ifs with | [] => chkO c.T N oc (relS scope sc) none | [d] => chkO c.T N oc (relS scope sc) (some d) | _ => false) && chkE c.T N e0 (relS scope sc) e'
              | _ => false) = true := h2
            obtain ⟨tg0, it', ifs, k0⟩ := g0
            obtain ⟨h, g9⟩ := and2 h2
            obtain ⟨h, g8⟩ := and2 h
            obtain ⟨h, g7⟩ := and2 h
            obtain ⟨h, g6⟩ := and2 h
            obtain ⟨h, g5⟩ := and2 h
            obtain ⟨h, g4⟩ := and2 h
            obtain ⟨h, g3⟩ := and2 h
            obtain ⟨h, g2⟩ := and2 h
            obtain ⟨hcal, g1⟩ := and2 h
            have e0' := of_decide_eq_true g1
            subst e0'
            have eo : (ownOf N (M.tgs t0)).map (·.2) = M.tgs t0 := of_decide_eq_true g3
            obtain ⟨y, py, rfl, a1, a2⟩ := name3 (show nameAt N (locCB sc) i tg = true from h1)
            obtain ⟨b, b3⟩ := and2 (show (locB sc y && (py.line == p0.line) && !(scope.names.any fun (n, k) => n == y && (k == .local || k == .cell))) = true from h3)
            obtain ⟨b1, b2⟩ := and2 b
            have hy : X.env.scope.names.lookup y = some .local := by rw [o.ok.es]; exact loc_of b1
            have hpe : PS X (.Assign [.Name y py] (.ListComp elt [⟨tg0, it', ifs, 0⟩] scope p0) pos) (tAsg (tLc (tIt c W it) (tgG c.K t0) (tCn c oc) (tE c W0 e0) ((ownOf N (M.tgs t0)).map (·.2))) (gName i)) := by
              refine ps_setLc (o.ok.calm' hcal) (by rw [o.ok.eN]; exact o.ok.nd) (o.ok.var a1) hy (sw_true (by rw [o.ok.es]; exact o.kind) hy b2 (not1 b3)) (piOk it g6 o.ok) (by rw [o.ok.eN, o.ok.es]; exact blkOk_by g2) (fun s H C cl fp => ?_) (fun s H C cl fp => ?_) (fun s H C cl fp => ?_) (folded_of g5)
              · have ob := o.ok.blk s H scope C cl fp
                have q := pgOk (X := X.blk s H scope (compEnvC scope cl C X.env) fp) (t := t0) (e := tg0) (ok := tgB scope sc) (fun _ => ob.calm' hcal) (by rw [ob.eN]; exact ob.nd) (fun x hx => by rw [ob.es]; exact tgB_of hx) (by rw [ob.eN]; exact g7)
                rw [ob.eK] at q
                exact q
              · have ob := o.ok.blk s H scope C cl fp
                split at g8
                · exact (poOk oc g8 ob).2
                · exact (poOk oc g8 ob).2
                · cases g8
              · exact (peOk e0 g9 (o.ok.blk s H scope C cl fp)).1
            refine PS.imp hpe fun D σ H h => ?_
            obtain ⟨ρ, S, Kd, hl, re, r, w, ok⟩ := h
            refine ⟨ρ, S, _, _, hl, re, r, w, fun items chk S1 H1 J f1 r1 m q => ?_, ok.ox re hl r⟩
            rw [eo]
            refine comp_rel (Q := fun x H1 => gName i x σ H1 D.nx) hl (re.mono r f1) r1 m q.1 (fun d S2 v H2 f2 r2 rx q => ?_) q.2
            exact asg_rel r2 (t := .v i) hl ((re.mono r f1).mono r1 f2) rx q fun ρ' σ' l1 l2 re' _ q => ok.nx _ _ _ _ (f1.trans f2) r2 re' l1 q
          | _ => first | cases h2 | exact absurd h2 (by simp [chkE, nameAt, biCall])
    · cases h
  | .par i j a b, c, sc, ex, X, W, h, o => by
    have h : (match (generalizing := false) ex with
      | .Assign [.Tuple [x, y] _ _] (.Tuple [a', b'] _ _) _ => !c.T.hot && parB N sc [i, j] [x, y] [a', b'] && chkE c.T N a sc a' && chkE c.T N b sc b'
      | _ => false) = true := h
    split at h
    · rename_i x y kt pt a' b' k2 pt2 pos hh
      obtain ⟨h, h3⟩ := and2 h
      obtain ⟨h, h2⟩ := and2 h
      obtain ⟨hcal, h1⟩ := and2 h
      obtain ⟨g, g4⟩ := and2 h1
      obtain ⟨g, g3⟩ := and2 g
      obtain ⟨g1, g2⟩ := and2 g
      obtain ⟨n1, n2⟩ := and2 (show (nameAt N (locB sc) i x && namesAt N (locB sc) [j] [y]) = true from g1)
      obtain ⟨n2, _⟩ := and2 (show (nameAt N (locB sc) j y && namesAt N (locB sc) [] []) = true from n2)
      obtain ⟨x, px, rfl, ix, lx⟩ := name3 n1
      obtain ⟨y, py, rfl, iy, ly⟩ := name3 n2
      obtain ⟨p1, p2⟩ := and2 (show (plB a' && [b'].all plB) = true from g3)
      obtain ⟨p2, _⟩ := and2 (show (plB b' && [].all plB) = true from p2)
      have hne : i ≠ j := fun e => by
        have nd : [i, j].Nodup := of_decide_eq_true g2
        subst e
        simp at nd
      have hw := sw_ok (env := X.env) (k := kt) (p := pt) (k2 := k2) (p2 := pt2) (by rw [o.ok.es]; exact o.kind) (by rw [o.ok.es]; exact of_decide_eq_true g4)
      have en : ([i, j].filterMap fun i => N[i]?) = [x, y] := by
        rw [List.filterMap_cons_some ix, List.filterMap_cons_some iy]; rfl
      rw [en] at hw
      refine PS.imp (ps_par (o.ok.calm' hcal) (by rw [o.ok.eN]; exact o.ok.nd) (o.ok.var ix) (o.ok.var iy) hne (by rw [o.ok.es]; exact loc_of lx) (by rw [o.ok.es]; exact loc_of ly) (pa_cons (peOk a h2 o.ok).1 (pa_cons (peOk b h3 o.ok).1 pa_nil (plB_star p2)) (plB_star p1)) hw (swapsSole_not rfl)) fun D σ H h => ?_
      obtain ⟨ρ, S, Kd, hl, re, r, w, ok⟩ := h
      refine two_rel hl re r w (ok.ox re hl r) fun x y S2 v u H2 f r2 rx ry q => ⟨v, u, rfl, ok.nx _ _ _ _ f r2 ?_ (by simp [hl]) q⟩
      have re2 := re.mono r f
      exact (re2.set hl rx i).set (by simp [hl]) ry j
    · cases h
  | .par3 i j l a b d, c, sc, ex, X, W, h, o => by
    have h : (match (generalizing := false) ex with
      | .Assign [.Tuple [x, y, z] _ _] (.Tuple [a', b', d'] _ _) _ => !c.T.hot && parB N sc [i, j, l] [x, y, z] [a', b', d'] && chkE c.T N a sc a' && chkE c.T N b sc b' && chkE c.T N d sc d'
      | _ => false) = true := h
    split at h
    · rename_i x y z kt pt a' b' d' k2 pt2 pos hh
      obtain ⟨h, h4⟩ := and2 h
      obtain ⟨h, h3⟩ := and2 h
      obtain ⟨h, h2⟩ := and2 h
      obtain ⟨hcal, h1⟩ := and2 h
      obtain ⟨g, g4⟩ := and2 h1
      obtain ⟨g, g3⟩ := and2 g
      obtain ⟨g1, g2⟩ := and2 g
      obtain ⟨n1, n2⟩ := and2 (show (nameAt N (locB sc) i x && namesAt N (locB sc) [j, l] [y, z]) = true from g1)
      obtain ⟨n2, n3⟩ := and2 (show (nameAt N (locB sc) j y && namesAt N (locB sc) [l] [z]) = true from n2)
      obtain ⟨n3, _⟩ := and2 (show (nameAt N (locB sc) l z && namesAt N (locB sc) [] []) = true from n3)
      obtain ⟨x, px, rfl, ix, lx⟩ := name3 n1
      obtain ⟨y, py, rfl, iy, ly⟩ := name3 n2
      obtain ⟨z, pz, rfl, iz, lz⟩ := name3 n3
      obtain ⟨p1, p2⟩ := and2 (show (plB a' && [b', d'].all plB) = true from g3)
      obtain ⟨p2, p3⟩ := and2 (show (plB b' && [d'].all plB) = true from p2)
      obtain ⟨p3, _⟩ := and2 (show (plB d' && [].all plB) = true from p3)
      have nd : [i, j, l].Nodup := of_decide_eq_true g2
      have hw := sw_ok (env := X.env) (k := kt) (p := pt) (k2 := k2) (p2 := pt2) (by rw [o.ok.es]; exact o.kind) (by rw [o.ok.es]; exact of_decide_eq_true g4)
      have en : ([i, j, l].filterMap fun i => N[i]?) = [x, y, z] := by
        rw [List.filterMap_cons_some ix, List.filterMap_cons_some iy, List.filterMap_cons_some iz]; rfl
      rw [en] at hw
      refine PS.imp (ps_par3 (o.ok.calm' hcal) (by rw [o.ok.eN]; exact o.ok.nd) (o.ok.var ix) (o.ok.var iy) (o.ok.var iz) (fun e => by subst e; simp at nd) (fun e => by subst e; simp at nd) (fun e => by subst e; simp at nd) (by rw [o.ok.es]; exact loc_of lx) (by rw [o.ok.es]; exact loc_of ly) (by rw [o.ok.es]; exact loc_of lz)
        (pa_cons (peOk a h2 o.ok).1 (pa_cons (peOk b h3 o.ok).1 (pa_cons (peOk d h4 o.ok).1 pa_nil (plB_star p3)) (plB_star p2)) (plB_star p1)) hw (swapsSole_not rfl)) fun D σ H h => ?_
      obtain ⟨ρ, S, Kd, hl, re, r, w, ok⟩ := h
      refine ⟨ρ, S, _, _, hl, re, r, w, fun x S1 v H1 f1 r1 rx q1 => ⟨ρ, S1, _, _, hl, re.mono r f1, r1, q1, fun y S2 u H2 f2 r2 ry q2 => ⟨ρ, S2, _, _, hl, re.mono r (f1.trans f2), r2, q2, fun z S3 w' H3 f3 r3 rz q3 => ?_, (ok.after (f1.trans f2)).ox (re.mono r (f1.trans f2)) hl r2⟩, (ok.after f1).ox (re.mono r f1) hl r1⟩, ok.ox re hl r⟩
      have ff := (f1.trans f2).trans f3
      refine ⟨v, u, w', rfl, ok.nx _ _ _ _ ff r3 ?_ (by simp [hl]) q3⟩
      exact (((re.mono r ff).set hl ((rx.mono r1 f2).mono r2 f3) i).set (by simp [hl]) (ry.mono r2 f3) j).set (by simp [hl]) rz l
    · cases h
  | .nev, c, sc, ex, X, W, h, o => PS.imp ps_never fun D σ H ⟨ρ, S, Kd, hl, re, r, w, ok⟩ => w
  | .six a i e, c, sc, ex, X, W, h, o => by
    have h : (match (generalizing := false) ex with
      | .Assign [.Subscript a' i' _] e' _ => plB i' && notComp e' && chkE c.T N a sc a' && chkE c.T N i sc i' && chkE c.T N e sc e'
      | _ => false) = true := h
    split at h
    · obtain ⟨h, h5⟩ := and2 h
      obtain ⟨h, h4⟩ := and2 h
      obtain ⟨h, h3⟩ := and2 h
      obtain ⟨h1, h2⟩ := and2 h
      have eK := o.ok.eK
      have hset : PSet X (tSx c.K) := by rw [← eK]; exact set_listM
      refine PS.imp (ps_asg (peOk e h5 o.ok).1 (pg_sub (peOk a h3 o.ok).1 (peOk i h4 o.ok).1 hset (sub_asg h1)) (swapsSole_not h2)) fun D σ H h => ?_
      obtain ⟨ρ, S, Kd, hl, re, r, w, ok⟩ := h
      refine ⟨ρ, S, _, _, hl, re, r, w, fun z S1 v H1 f1 r1 rz q1 => ⟨ρ, S1, _, _, hl, re.mono r f1, r1, q1, fun x S2 u H2 f2 r2 rx q2 => ⟨ρ, S2, _, _, hl, re.mono r (f1.trans f2), r2, q2, fun y S3 w' H3 f3 r3 ry q3 => ?_, (ok.after (f1.trans f2)).ox (re.mono r (f1.trans f2)) hl r2⟩, (ok.after f1).ox (re.mono r f1) hl r1⟩, ok.ox re hl r⟩
      refine ⟨x, y, z, S3, _, r3, rx.mono r2 f3, ry, (rz.mono r1 f2).mono r2 f3, q3, fun S4 H4 f4 r4 q4 => ?_⟩
      have ff := ((f1.trans f2).trans f3).trans f4
      exact ok.nx _ _ _ _ ff r4 (re.mono r ff) hl q4
    · cases h
  | .fset n a e, c, sc, ex, X, W, h, o => by
    have h : (match (generalizing := false) ex with
      | .Assign [.Attribute a' nm _] e' _ => decide (nm = stx n) && decide (n ∈ c.T.fds) && notComp e' && chkE c.T N a sc a' && chkE c.T N e sc e'
      | _ => false) = true := h
    split at h
    · obtain ⟨h, h5⟩ := and2 h
      obtain ⟨h, h4⟩ := and2 h
      obtain ⟨h, h3⟩ := and2 h
      obtain ⟨h1, h2⟩ := and2 h
      have e1 := of_decide_eq_true h1
      subst e1
      refine PS.imp (ps_fld (peOk a h4 o.ok).1 (peOk e h5 o.ok).1 (swapsWith_not h3)) fun D σ H h => ?_
      obtain ⟨ρ, S, Kd, hl, re, r, w, ok⟩ := h
      refine ⟨ρ, S, _, _, hl, re, r, w, fun d S1 u H1 f1 r1 rd q1 => ⟨ρ, S1, _, _, hl, re.mono r f1, r1, q1, fun x S2 v H2 f2 r2 rx q2 => ?_, (ok.after f1).ox (re.mono r f1) hl r1⟩, ok.ox re hl r⟩
      obtain ⟨a0, C, dx, fs, ev, ha, hc, hn, hlt, S3, f3, r3, q3⟩ := fset_rel o.ok (of_decide_eq_true h2) r2 rx (rd.mono r1 f2) q2
      have ff := (f1.trans f2).trans f3
      exact ⟨a0, C, dx, fs, ev, ha, hc, hn, hlt, ok.nx _ _ _ _ ff r3 (re.mono r ff) hl q3⟩
    · cases h
  | .psx a i j e, c, sc, ex, X, W, h, o => by
    have h : (match (generalizing := false) ex with
      | .Assign [.Tuple [.Subscript a' i' ps, y] _ _] (.Tuple vs k2 p2) _ => !c.T.hot && plB i' && nameAt N (locCB sc) j y && decide (swTup sc [.Subscript a' i' ps, y] vs = some none) && chkE c.T N a sc a' && chkE c.T N i sc i' && chkE c.T N e sc (.Tuple vs k2 p2)
      | _ => false) = true := h
    split at h
    · rename_i a' i' ps y kt pt vs k2 p2 pos hh
      obtain ⟨h, h7⟩ := and2 h
      obtain ⟨h, h6⟩ := and2 h
      obtain ⟨h, h5⟩ := and2 h
      obtain ⟨h, h4⟩ := and2 h
      obtain ⟨h, h3⟩ := and2 h
      obtain ⟨hcal, h1⟩ := and2 h
      obtain ⟨y, py, rfl, iy, ly⟩ := name3 h3
      have eK := o.ok.eK
      have hset : PSet X (tSx c.K) := by rw [← eK]; exact set_listM
      have hw := sw_ok (env := X.env) (k := kt) (p := pt) (k2 := k2) (p2 := p2) (ts := [.Subscript a' i' ps, .Name y py]) (vs := vs) (r := none) (by rw [o.ok.es]; exact o.kind) (by rw [o.ok.es]; exact of_decide_eq_true h4)
      have cal := o.ok.calm' hcal
      have nn : PG X (.Name y py) (gName j) := pg_name (by rw [o.ok.eN]; exact o.ok.nd) (o.ok.var iy) (by rw [o.ok.es]; exact locC_of ly) (.inl (o.fn y))
      refine PS.imp (ps_asg (peOk e h7 o.ok).1 (pg_tup cal (pgs_cons (pg_sub (peOk a h5 o.ok).1 (peOk i h6 o.ok).1 hset (sub_asg h1)) (pgs_cons nn pgs_nil))) (swapsSole_not rfl) hw) fun D σ H h => ?_
      obtain ⟨ρ, S, Kd, hl, re, r, w, ok⟩ := h
      refine one_rel hl re r w (ok.ox re hl r) fun dv S1 v H1 f1 r1 rv q => ?_
      obtain ⟨x, y, rfl, q⟩ : ∃ x y, dv = .tup [x, y] ∧ M.wpE c.G a ρ S1 (fun o S2 => M.wpE c.G i ρ S2 (fun z S3 => M.sixD o z x S3 fun S4 => Kd.nx (ρ.set j (some y)) S4) (fun c fs S3 => Kd.xe c fs ρ S3)) (fun c fs S2 => Kd.xe c fs ρ S2) := by
        unfold M.onP at q
        split at q
        · exact ⟨_, _, rfl, q⟩
        · exact False.elim q
      cases rv with
      | tup g1 g2 =>
        cases g2 with
        | cons gx g2 =>
          cases g2 with
          | cons gy g2 =>
            cases g2
            refine ⟨_, _, rfl, by rw [eK]; exact g1, rfl, _, _, rfl, ?_⟩
            have re1 := re.mono r f1
            refine ⟨ρ, S1, _, _, hl, re1, r1, q, fun o' S2 u H2 f2 r2 rx q2 => ⟨ρ, S2, _, _, hl, re1.mono r1 f2, r2, q2, fun z' S3 w' H3 f3 r3 ry q3 => ?_, (ok.after (f1.trans f2)).ox (re.mono r (f1.trans f2)) hl r2⟩, (ok.after f1).ox re1 hl r1⟩
            refine ⟨o', z', x, S3, _, r3, rx.mono r2 f3, ry, (gx.mono r1 f2).mono r2 f3, q3, fun S4 H4 f4 r4 q4 => ?_⟩
            have ff := ((f1.trans f2).trans f3).trans f4
            exact ⟨_, _, rfl, rfl, ok.nx _ _ _ _ ff r4 ((re.mono r ff).set hl (((gy.mono r1 f2).mono r2 f3).mono r3 f4) j) (by simp [hl]) q4⟩
    · cases h
  | .ex e, c, sc, ex, X, W, h, o => by
    have h : (match (generalizing := false) ex with | .Expr e' _ => notComp e' && chkE c.T N e sc e' | _ => false) = true := h
    split at h
    · obtain ⟨h1, h2⟩ := and2 h
      refine PS.imp (ps_expr (peOk e h2 o.ok).1 (swapsWith_not h1)) fun D σ H ⟨ρ, S, Kd, hl, re, r, w, ok⟩ => ?_
      exact one_rel hl re r w (ok.ox re hl r) fun x S2 v H2 f r2 rx q => ok.nx _ _ _ _ f r2 (re.mono r f) hl q
    · cases h
  | .ret e, c, sc, ex, X, W, h, o => by
    have h : (match (generalizing := false) ex with | .Return (some e') _ => chkE c.T N e sc e' | _ => false) = true := h
    split at h
    · exact PS.imp (ps_ret (peOk e h o.ok).1) fun D σ H ⟨ρ, S, Kd, hl, re, r, w, ok⟩ => ⟨ρ, S, _, _, hl, re, r, w, ok.rt, ok.ox re hl r⟩
    · cases h
  | .retn, c, sc, ex, X, W, h, o => by
    have h : (match (generalizing := false) ex with | .Return none _ => true | _ => false) = true := h
    split at h
    · exact PS.imp ps_retN fun D σ H ⟨ρ, S, Kd, hl, re, r, w, ok⟩ => ok.rt.same r .non w
    · cases h
  | .if_ g a b, c, sc, ex, X, W, h, o => by
    have h : (match (generalizing := false) ex with | .If g' a' b' _ => chkE c.T N g sc g' && chkSs c.T N a sc a' && chkSs c.T N b sc b' | _ => false) = true := h
    split at h
    · obtain ⟨h, h3⟩ := and2 h
      obtain ⟨h1, h2⟩ := and2 h
      refine PS.imp (ps_if (peOk g h1 o.ok).2 (pssOk a h2 o) (pssOk b h3 o)) fun D σ H ⟨ρ, S, Kd, hl, re, r, w, ok⟩ => ?_
      exact one_rel hl re r w (ok.ox re hl r) fun x S2 v H2 f r2 rx q => by
        obtain ⟨kb, rfl, qt, qf⟩ := onB_of q
        cases rx
        refine ⟨kb, rfl, ?_⟩
        cases kb with
        | true => show if true = true then _ else _; rw [if_pos rfl]; exact ⟨ρ, S2, Kd, hl, re.mono r f, r2, qt rfl, ok.after f⟩
        | false => show if false = true then _ else _; rw [if_neg Bool.false_ne_true]; exact ⟨ρ, S2, Kd, hl, re.mono r f, r2, qf rfl, ok.after f⟩
    · cases h
  | .while_ g b, c, sc, ex, X, W, h, o => by
    have h : (match (generalizing := false) ex with | .While g' b' [] _ => !c.T.hot && chkE c.T N g sc g' && chkSs c.T N b sc b' | _ => false) = true := h
    split at h
    · obtain ⟨h, h2⟩ := and2 h
      obtain ⟨hcal, h1⟩ := and2 h
      refine PS.imp (ps_while (o.po (not1 hcal)) (peOk g h1 o.ok).2 (pssOk b h2 o)) fun D σ H ⟨ρ, S, Kd, hl, re, r, w, ok⟩ => ?_
      obtain ⟨n, w⟩ := (show ∃ n, M.whileN (fun ρ1 S1 nx => M.wpE c.G g ρ1 S1 (fun x S2 => M.onB x fun k => M.br k (M.wpSs c.G b ρ1 S2 { Kd with nx := nx, bk := Kd.nx }) (Kd.nx ρ1 S2)) (fun c fs S2 => Kd.xe c fs ρ1 S2)) n ρ S from w)
      refine ⟨fun m σ' H' => ∃ ρ' S', ρ'.length = σ'.length ∧ RelE c.K H' ρ' σ' ∧ RelS c.K H' S' ∧ Fr S H S' H' ∧ M.whileN (fun ρ1 S1 nx => M.wpE c.G g ρ1 S1 (fun x S2 => M.onB x fun k => M.br k (M.wpSs c.G b ρ1 S2 { Kd with nx := nx, bk := Kd.nx }) (Kd.nx ρ1 S2)) (fun c fs S2 => Kd.xe c fs ρ1 S2)) m ρ' S', ⟨n, ρ, S, hl, re, r, Fr.refl, w⟩, ?_⟩
      rintro m σ1 H1 ⟨ρ1, S1, hl1, re1, r1, f1, w1⟩
      cases m with
      | zero => exact False.elim w1
      | succ m =>
        refine one_rel hl1 re1 r1 w1 ((ok.after f1).ox re1 hl1 r1) fun x S2 v H2 f r2 rx q => ?_
        obtain ⟨kb, rfl, qt, qf⟩ := onB_of q
        cases rx
        refine ⟨kb, rfl, ?_⟩
        have f12 := f1.trans f
        have ok2 := ok.after f12
        cases kb with
        | true =>
          show if true = true then _ else _
          rw [if_pos rfl]
          refine ⟨_, fun σ' H' q => ⟨m, Nat.lt_succ_self m, q⟩, ρ1, S2, _, hl1, re1.mono r1 f, r2, qt rfl, ?_⟩
          exact ⟨fun ρ' S' σ' H' f' r' re' l' q => ⟨ρ', S', l', re', r', f12.trans f', q⟩, ok2.rt, fun ρ' S' σ' H' f' r' re' l' q => ok2.nx ρ' S' σ' H' f' r' re' l' q, ok2.xe⟩
        | false =>
          show if false = true then _ else _
          rw [if_neg Bool.false_ne_true]
          exact ok2.nx _ _ _ _ Fr.refl r2 (re1.mono r1 f) hl1 (qf rfl)
    · cases h
  | .for_ t it b, c, sc, ex, X, W, h, o => by
    have h : (match (generalizing := false) ex with | .For tg it' b' [] _ => !c.T.hot && chkTg N (locCB sc) t tg && noSet it' && chkIt c.T N it sc it' (isTupB tg) && chkSs c.T N b sc b' | _ => false) = true := h
    split at h
    · obtain ⟨h, h4⟩ := and2 h
      obtain ⟨h, h3⟩ := and2 h
      obtain ⟨h, h2⟩ := and2 h
      obtain ⟨hcal, h1⟩ := and2 h
      refine PS.imp (ps_for (o.po (not1 hcal)) (o.ok.calm' hcal) (piOk it h3 o.ok) (tgt_of o (by rw [hcal]; rfl) h1) (pssOk b h4 o) (folded_of h2)) fun D σ H ⟨ρ, S, Kd, hl, re, r, w, ok⟩ => ?_
      refine ⟨ρ, S, _, _, hl, re, r, w, fun items chk S1 H1 J f1 r1 m w => ?_, ok.ox re hl r⟩
      let stp := fun (d : M.D) (ρ1 : M.Env) (S2 : M.Sto) (nx : M.Env → M.Sto → Prop) => M.asg t d S2 ρ1 fun ρ2 => M.wpSs c.G b ρ2 S2 { Kd with nx := nx, bk := Kd.nx }
      refine ⟨fun i m σ' H' => m = items.length - i ∧ i ≤ items.length ∧ ∃ ρ' S', ρ'.length = σ'.length ∧ RelE c.K H' ρ' σ' ∧ RelS c.K H' S' ∧ Fr S1 H1 S' H' ∧ M.forW chk stp Kd.nx (items.drop i) ρ' S', ⟨_, rfl, Nat.zero_le _, ρ, S1, hl, re.mono r f1, r1, Fr.refl, w⟩, ?_⟩
      rintro i m' σ2 H2 ⟨rfl, hi, ρ2, S2, hl2, re2, r2, f2, w2⟩
      by_cases hlt : i < items.length
      · obtain ⟨d, hd⟩ : ∃ d, items[i]? = some d := ⟨items[i], by simp [hlt]⟩
        have ed : items.drop i = d :: items.drop (i + 1) := by
          rw [List.drop_eq_getElem_cons hlt]
          have : items[i] = d := by simpa [hlt] using hd
          rw [this]
        rw [ed] at w2
        obtain ⟨hch, w2⟩ := (show chk S2 ∧ stp d ρ2 S2 (M.forW chk stp Kd.nx (items.drop (i + 1))) from w2)
        obtain ⟨hgo, hy⟩ := (m i S2 H2 f2 r2 hch).1 d hd
        refine .inr ⟨hgo, _, fun σ' H' q => ⟨items.length - (i + 1), by omega, q⟩, fun x H3 y => ?_⟩
        obtain ⟨f3, r3, rx⟩ := hy x H3 y
        have f23 := f2.trans f3
        refine asg_rel r3 hl2 (re2.mono r2 f3) rx w2 fun ρ' σ' l1 l2 re' _ w3 => ⟨ρ', S2, _, l1, re', r3, w3, ?_⟩
        have ok3 := ok.after (f1.trans f23)
        exact ⟨fun ρ4 S4 σ4 H4 f4 r4 re4 l4 q => ⟨rfl, hlt, ρ4, S4, l4, re4, r4, f23.trans f4, q⟩, ok3.rt, fun ρ' S' σ' H' f' r' re' l' q => ok3.nx ρ' S' σ' H' f' r' re' l' q, ok3.xe⟩
      · have e : i = items.length := by omega
        subst e
        rw [List.drop_length] at w2
        obtain ⟨hch, w2⟩ := (show chk S2 ∧ Kd.nx ρ2 S2 from w2)
        exact .inl ⟨(m _ S2 H2 f2 r2 hch).2 rfl, ok.nx _ _ _ _ (f1.trans f2) r2 re2 hl2 w2⟩
    · cases h
  | .brk, c, sc, ex, X, W, h, o => by
    have h : (match (generalizing := false) ex with | .Break _ => true | _ => false) = true := h
    split at h
    · exact PS.imp ps_break fun D σ H ⟨ρ, S, Kd, hl, re, r, w, ok⟩ => ok.bk _ _ _ _ Fr.refl r re hl w
    · cases h
  | .pass, c, sc, ex, X, W, h, o => by
    have h : (match (generalizing := false) ex with | .Pass _ => true | _ => false) = true := h
    split at h
    · exact PS.imp ps_pass fun D σ H ⟨ρ, S, Kd, hl, re, r, w, ok⟩ => ok.nx _ _ _ _ Fr.refl r re hl w
    · cases h
  | .raise cc es, c, sc, ex, X, W, h, o => by
    have h : (match (generalizing := false) ex with
      | .Raise (some (.Call (.Name x _) [] [] _)) none _ => !c.T.hot && isNilEs es && decide (cc < c.T.nr) && decide (c.T.cls[cc]? = some x) && glB sc x && !dbgB x
      | _ => false) = true := h
    split at h
    · rename_i x p q r hh
      obtain ⟨h, h5⟩ := and2 h
      obtain ⟨h, h4⟩ := and2 h
      obtain ⟨h, h3⟩ := and2 h
      obtain ⟨h, hnr⟩ := and2 h
      obtain ⟨h1, h2⟩ := and2 h
      have h3 := of_decide_eq_true h3
      have hnr := of_decide_eq_true hnr
      obtain ⟨C, m, a, _⟩ := o.ok.er.at_ cc x h3
      have a := a hnr
      have E := o.ok.er.ok cc C a
      have hr : Raises X (.ref C) := raises_own (by rw [o.ok.eK]; exact E.sb) (by rw [o.ok.eK]; exact E.ty)
      have mk := pmk_own0 (X := X) (p := p) (pos := q) PySem.F.excBase_ValueError (by rw [o.ok.eK]; exact E.ex) (by rw [o.ok.em]; exact m) (by rw [o.ok.eK]; exact E.kp) hr (o.ok.gl h4) (dbg_of h5).1
      refine PS.imp (ps_raise (o.ok.calm' h1) o.ok.tk mk) fun D σ H ⟨ρ, S, Kd, hl, re, r, w, ok⟩ => ?_
      cases es with
      | nil => exact ok.xe cc [] ρ S σ H (.ref C) none Fr.refl r re hl ⟨rfl, rfl, hnr, x, C, h3, m, rfl⟩ w
      | _ => cases h2
    · cases h
  | .try_ b cc i hd, c, sc, ex, X, W, h, o => by
    have h : (match (generalizing := false) ex with
      | .Try body [.ExceptHandler (some (.Name x _)) (some n) (s0 :: suite) _] [] [] _ => !c.T.hot && decide (N[i]? = some n) && locB sc n && decide (c.T.cls[cc]? = some x) && glB sc x && !dbgB x && chkSs c.T N b sc body && chkSs c.h.T N hd sc (s0 :: suite)
      | _ => false) = true := h
    split at h
    · rename_i body x np n s0 suite pos' pos hh
      obtain ⟨h, h8⟩ := and2 h
      obtain ⟨h, h7⟩ := and2 h
      obtain ⟨h, h6⟩ := and2 h
      obtain ⟨h, h5⟩ := and2 h
      obtain ⟨h, h4⟩ := and2 h
      obtain ⟨h, h3⟩ := and2 h
      obtain ⟨h1, h2⟩ := and2 h
      have h2 := of_decide_eq_true h2
      have h4 := of_decide_eq_true h4
      have h1 := not1 h1
      obtain ⟨Cc, mc, _, ac⟩ := o.ok.er.at_ cc x h4
      have ok0 := o.ok
      have htr : ∀ (W' : WX) (pn : List (Addr × Obj)) (xe : Value → Shared → Prop), Takes (X.tr pn xe) W' → PassesOwn (model X.prog X.w) X.A X.env xe → OkS c k N sc (X.tr pn xe) W' := fun W' pn xe tk po =>
        ⟨⟨ok0.eN, ok0.es, ok0.eK, ok0.em, ok0.nd, ok0.calm, ok0.room, ok0.roomX, ok0.gd, ok0.rp, ok0.bt, ok0.con, ok0.fns, tk, ok0.sys, ok0.er, ok0.oc⟩, o.kind, o.fn, fun _ => po, o.stk, o.frm, o.exn⟩
      have hsu : ∀ (a : Addr) (pn : List (Addr × Obj)), OkS c.h k N sc (X.suite a pn) W0 := fun a pn =>
        ⟨⟨ok0.eN, ok0.es, ok0.eK, ok0.em, ok0.nd, fun z => absurd (show true = false from z) (by decide), ⟨fun z => absurd (show true = false from z) (by decide), ok0.room.dp, ok0.room.un⟩, ⟨fun z => absurd (show true = false from z) (by decide), ok0.roomX.dp, ok0.roomX.un⟩, ok0.gd, ok0.rp, ok0.bt, ok0.con, (fun n x hx => let ⟨f, fd, ps, D, F⟩ := ok0.fns n x hx; ⟨f, fd, ps, ⟨D.mg, D.at_, D.kp, D.bd, D.kb⟩, F⟩), fun u s' ⟨a, B, sI, pins, σ, H, cls, d, e, I, nb, up, sky, na, os, ag, w⟩ => False.elim w, ok0.sys, ⟨ok0.er.at_, ok0.er.ok, ok0.er.ve⟩, ⟨ok0.oc.gm, ok0.oc.nm, fun k C e => { ok0.oc.ok k C e with }⟩⟩, o.kind, o.fn, fun z => absurd (show true = false from z) (by decide), o.stk, o.frm, o.exn⟩
      refine PS.imp (ps_try_asT (X := X) (c := .ref Cc) (i := i) (Wout := W) (tb := fun W' => tSs c W' b) (ts := fun _ => tSs c.h W0 hd) o.stk o.frm o.exn (by rw [ok0.eN]; exact ok0.nd) (ok0.var h2) (by
        show X.env.scope.names.lookup n = some .local
        rw [ok0.es]; exact loc_of h3) ⟨ok0.gl h5, (dbg_of h6).1, .inl (by rw [ok0.em]; exact mc)⟩ ok0.tk (fun W' pn xe tk po => pssOk b h7 (htr W' pn xe tk po)) (fun a pn => pssOk hd h8 (hsu a pn))) fun D σ H ⟨ρ, S, Kd, hl, re, r, w, ok⟩ => ?_
      refine ⟨ρ, S, _, hl, re, r, w, ok.nx, ok.rt, ok.bk, fun kk fs ρ' S' σ' H' cls d f r' re' l' rx q => ?_⟩
      obtain ⟨rfl, rfl, hkk, y, C, ey, my, rfl⟩ := rx
      obtain ⟨C0, m0, a0, _⟩ := ok0.er.at_ kk y ey
      have a0 := a0 hkk
      have eC : C0 = C := by rw [my] at m0; injection m0 with m0; injection m0 with m0; exact m0.symm
      subst eC
      obtain ⟨qt, qf⟩ := q
      refine ⟨c.G.sub kk cc, by rw [ok0.eK]; exact (ac kk C0 a0).2, fun hb => ⟨rfl, C0, rfl, fun a ha => ?_⟩, fun hb => ok.xe kk [] ρ' S' σ' H' _ none f r' re' l' ⟨rfl, rfl, hkk, y, C0, ey, my, rfl⟩ (qf hb)⟩
      have fl : Fr S' H' S' (L2.upd H' a (XO C0 a)) := Fr.laid ha
      refine ⟨ρ'.set i (some (.xn C0 [])), S', _, by rw [List.length_set, List.length_set, l'], (re'.mono r' fl).set l' (.xn L2.upd_same) i, r'.laid ha, qt hb C0 a0, ?_⟩
      have ok2 := ok.after (f.trans fl)
      refine ⟨fun ρ2 S2 σ2 H2 f2 r2 re2 l2 q => ok2.nx _ _ _ _ f2 r2 (re2.unset i) (by rw [List.length_set, List.length_set, l2]) q, ok2.rt, fun ρ2 S2 σ2 H2 f2 r2 re2 l2 q => ok2.bk _ _ _ _ f2 r2 (re2.unset i) (by rw [List.length_set, List.length_set, l2]) q, fun _ _ _ _ _ _ _ _ _ _ _ _ _ q => False.elim q⟩
    · cases h
theorem pssOk : ∀ (st : M.Ss) {c : Cn} {sc : Scope} {ex : List Stmt} {X : Cx} {W : WX}, chkSs c.T N st sc ex = true → OkS c k N sc X W → PSs X ex (tSs c W st)
  | .nil, c, sc, ex, X, W, h, o => by
    cases ex with
    | nil => exact PSs.imp pss_nil fun D σ H ⟨ρ, S, Kd, hl, re, r, w, ok⟩ => ok.nx _ _ _ _ Fr.refl r re hl w
    | cons _ _ => cases h
  | .cons s q, c, sc, ex, X, W, h, o => by
    cases ex with
    | nil => cases h
    | cons s' q' =>
      obtain ⟨h1, h2⟩ := and2 (show (chkS c.T N s sc s' && chkSs c.T N q sc q') = true from h)
      refine PSs.imp (pss_cons (psOk s h1 o) (pssOk q h2 o)) fun D σ H ⟨ρ, S, Kd, hl, re, r, w, ok⟩ => ?_
      exact ⟨ρ, S, _, hl, re, r, w, fun ρ1 S1 σ1 H1 f1 r1 re1 l1 q => ⟨ρ1, S1, Kd, l1, re1, r1, q, ok.after f1⟩, ok.rt, ok.bk, ok.xe⟩
end
end
end Snd
namespace Snd
open PySem PySem.Spec PyProof.Rows L2
/-- the context of a def's body, called where an error may be handled -/
abbrev cxB (hot : Bool) (CX : CXT) (P : Program) (w : World) (K : Frag) (mg : Str → Option Value) (base : Heap) (N : List Str) (qual : Str) (scope : Scope) (f : Addr) (cd : Value) (A : Around) (outer : List Env) (s : Shared) (H : Hp) (E : XK) : Cx :=
  { cxOf CX P w K mg base N qual scope f cd A outer s H E with calm := !hot }
/-! ### a def of the text -/
section
variable {P : Program} {w : World} {K : Frag} {mg : Str → Option Value} {base : Heap} {k : Nat} {name qual : Str} {params : Arguments} {body : List Stmt} {scope : Scope} {f : Addr} {fd : FuncData} {N ps : List Str}
/-- the entry's base lies in the heap: the module's objects, no limit set -/
theorem base_in {A : Around} {outer : List Env} {s : Shared} {H : Hp} (e0 : Env0 P w K mg base A outer s H) : K.In s.heap ∧ s.heap.NoLimit := by
  have up : ∀ b o, base.get? b = some o → s.heap.get? b = some o := fun b o h => (e0.bs b o h).1
  exact ⟨e0.mod.kin.keeps up, e0.mod.nolimit.keeps up⟩
/-- each parameter is a local, or its cell is made -/
theorem par_kind (S : FnScope N ps scope) {us : List Value} {n : Nat} : ∀ z ∈ ps.zip us, scope.names.lookup z.1 = some .local ∨ (scope.names.lookup z.1 = some .cell ∧ ((cellsFrom n scope.names []).lookup z.1).isSome = true) := by
  rintro ⟨x, u⟩ hz
  cases S.par x (List.of_mem_zip hz).1 with
  | inl l => exact Or.inl l
  | inr c => exact Or.inr ⟨c, PySem.W.cellsFrom_some _ _ _ (Or.inl c)⟩
/-- how a body ends, told as a call's end -/
theorem end_of {hot : Bool} {cdv : Value} {A : Around} {outer : List Env} {s s2 : Shared} {H : Hp} {Q : VK} {E : XK} {fl : Flow}
    (h : SP (cxB hot (L2.CX P w) P w K mg base N qual scope f cdv A outer s H E) [] { nx := fun _ H' => Q .non H', rt := Q } fl s2) (nb : fl ≠ .brk ∧ fl ≠ .cont) :
    CE outer P w H s Q (match fl with | .ret u => u | _ => .none) s2 := by
  match fl, h, nb with
  | .ret u, ⟨v, _, H2, I2, rel, q⟩, _ => exact ⟨v, H2, I2.os, I2.bare, I2.base, I2.hok, rel, q⟩
  | .next, ⟨_, H2, I2, q⟩, _ => exact ⟨.non, H2, I2.os, I2.bare, I2.base, I2.hok, rfl, q⟩
  | .brk, _, nb => exact absurd rfl nb.1
  | .cont, _, nb => exact absurd rfl nb.2
theorem inv_startB {hot : Bool} {CX : CXT} {P : Program} {w : World} {K : Frag} {mg : Str → Option Value} {base : Heap} {N ps : List Str} {qual : Str} {scope : Scope} {f : Addr} {cd : Value} {A : Around} {outer : List Env} {s s1 : Shared} {H : Hp} {E : XK} {us : List Value} {vs : List V}
    (S : FnScope N ps scope) (hd : hot = false → A.handled = none) (e0 : Env0 P w K mg base A outer s H) (hl : vs.length = ps.length) (r : Vals vs us)
    (x : InCallC s s.heap.objs.size (bindL (envOfC qual scope s.heap.objs.size f cd).kindOf (ps.zip us) fun _ => none) (cellsFrom (s.heap.objs.size + 1) scope.names []) (bindC (envOfC qual scope s.heap.objs.size f cd).kindOf (ps.zip us) fun _ => none) s1) :
    Inv (cxB hot CX P w K mg base N qual scope f cd A outer s H E) [] (L2.start N vs) H s1 := by
  have hpl : ps.length ≤ N.length := by have := congrArg List.length S.pre; rw [List.length_take] at this; omega
  obtain ⟨h1, tk, rfl, hk⟩ := x.done
  have noA : ∀ b : Addr, b ∉ (cxB hot CX P w K mg base N qual scope f cd A outer s H E).ex := fun b z => absurd (show b ∈ ([] : List Addr) from z) (by simp)
  refine ⟨⟨e0.mod, S.kind, rfl, rfl, Nat.le_refl _, fun y z c h1 h2 => ?_, fun y hy => ?_, fun y c _ h => ?_, (fun z => hd (by cases hot with | false => rfl | true => cases z)), Around.frames_deeper e0.frames, .inr ⟨rfl, rfl⟩, fun b z => absurd z (noA b), e0.bs, e0.bsz, fun b _ _ => noA b, fun b z => absurd z (noA b), e0.funs, e0.frf⟩,
    rfl, e0.bare, Un.kept hk, ⟨_, x.toInCall.ns, fun i y v h1 h2 h3 => ?_⟩, fun y c h => ⟨_, x.cell y c h⟩, e0.hok.fresh (Nat.le_refl _), fun y c h => ?_, fun q hq => ?_, e0.hok.kept hk, ?_⟩
  · exact name_of_addr x.apart (PySem.mem_of_lookup h1) (PySem.mem_of_lookup h2)
  · have hy : scope.names.lookup y = some .cell ∨ scope.names.lookup y = some .free := hy
    rcases hy with hy | hy
    · exact cell_has hy
    · exact absurd rfl (S.nofree _ (PySem.mem_of_lookup hy))
  · exact Nat.le_of_lt (x.above y c (PySem.mem_of_lookup h))
  · have hi : i < vs.length := by
      unfold L2.start at h2
      by_cases hi : i < vs.length
      · exact hi
      · rw [List.getElem?_append_right (by simpa using hi)] at h2
        rw [List.getElem?_replicate] at h2
        split at h2 <;> cases h2
    have ha : vs[i]? = some v := by
      unfold L2.start at h2
      rw [List.getElem?_append_left (by simpa using hi), List.getElem?_map] at h2
      cases e : vs[i]? with
      | none => rw [e] at h2; cases h2
      | some a => rw [e] at h2; cases h2; rfl
    obtain ⟨u, hu, rv⟩ := r.get ha
    have hp : ps[i]? = some y := by
      rw [← S.pre, List.getElem?_take_of_lt (by omega)]; exact h1
    have ndP : ps.Nodup := by rw [← S.pre]; exact S.nd.sublist (List.take_sublist _ _)
    refine ⟨u, rv, ?_⟩
    rcases S.par y (List.mem_of_getElem? hp) with k | k
    · exact .inl ⟨k, bindL_get ndP hp hu k⟩
    · obtain ⟨c, e⟩ := cell_has (n := s.heap.objs.size + 1) k
      refine .inr ⟨.inl k, c, e, ?_⟩
      have q := x.cell y c e
      rw [bindC_get ndP hp hu (by show scope.names.lookup y ≠ _; rw [k]; decide)] at q
      exact q
  · exact e0.hok.fresh (Nat.le_of_lt (x.above y c (PySem.mem_of_lookup h)))
  · exact absurd (show q ∈ ([] : List (Addr × Obj)) from hq) (by simp)
  · unfold L2.start
    show _ = N.length
    rw [List.length_append, List.length_map, List.length_replicate]
    omega
/-- a def by its body, where no repr is under way -/
theorem fnG_of {hot : Bool} {sp : L2.Sp} (F : FunD K name qual params body scope [] [] f fd) (S : FnScope N ps scope) (len : ∀ xs Hx Qx Ex, sp xs Hx Qx Ex → xs.length = ps.length)
    (run : ∀ (cdv : Value) (A : Around) (outer : List Env) (s : Shared) (H : Hp) (xs : List V) (Q : VK) (E : XK), RoomX hot k (A.deeper (envOfC qual scope s.heap.objs.size f cdv)) → A.guards = some [] → sp xs H Q E →
      ∃ t, PSs (cxB hot (L2.CX P w) P w K mg base N qual scope f cdv A outer s H E) body t ∧ t { nx := fun _ H' => Q .non H', rt := Q } (L2.start N xs) H) : FnG P w K mg base hot (k + 1) f fd ps sp where
  len := len
  run := by
    intro A outer s H args us xs Q E room quiet env bound rel want
    obtain ⟨c1, c2, c3, c4, c5, c6, c7, cdv, c9, c10, same, stands, code, -, -⟩ := F.ex
    subst same
    obtain ⟨inK, free⟩ := base_in env
    refine codeAny_call_function room.depth (inK _ _ stands) rfl S.co S.gen rfl (PySem.W.codeRec_of inK code) (bound _ _ _ _ ?_)
    refine wpAny_newFunctionEnv_cells S.kind (par_kind S) fun env' made s1 entry => ?_
    subst made
    refine ⟨free.keeps entry.toInCall.keep, codeAny_func ?_⟩
    obtain ⟨t, ok, start⟩ := run cdv A outer s H xs Q E (room.deeperX _) quiet want
    have I0 := inv_startB (hot := hot) (CX := L2.CX P w) (qual := qual) (f := f) (cd := cdv) (E := E) S room.hd env (len _ _ _ _ want) rel entry
    refine wpAny_mono (ok.run [] s1 _ H _ I0 start) (fun fl s2 done => ?_) fun _ _ out => out
    match fl, done with
    | .ret u, done => exact end_of done ⟨nofun, nofun⟩
    | .next, done => exact end_of done ⟨nofun, nofun⟩
    | .brk, ⟨_, _, _, no⟩ => exact False.elim no
    | .cont, ⟨_, _, _, no⟩ => exact False.elim no
/-- what a law's text stands on -/
structure Law (c : Cn) (P : Program) (w : World) (base : Heap) (k : Nat) : Prop where
  rp : c.G.rp = rpF
  bt : ∀ x ∈ c.T.bts, c.mg x = none
  con : ∀ n x, c.T.cons[n]? = some x → ∃ u v, c.mg x = some u ∧ RelV v u ∧ ∀ H, RelD c.K H (c.G.con n) v
  fns : ∀ n x, c.T.fns[n]? = some x → ∃ f fd ps, Def c.K c.mg c.T n x f fd ps ∧ FnG P w c.K c.mg base (c.T.hots.contains n) k f fd ps (lift c (M.cl (c.G.fn n)))
  sys : SysK c.K
  er : Errs c.K c.mg c.T c.G
  oc : Obs c.K c.mg c.T c.G
theorem start_rel {K : Frag} {H : Hp} {ds : List M.D} {vs : List V} (r : RelDs K H ds vs) : RelE K H (M.start N.length ds) (L2.start N vs) := by
  have e : ∀ {ds : List M.D} {vs : List V} {n m : Nat}, RelDs K H ds vs → ∀ (i : Nat) (d : M.D), (ds.map some ++ List.replicate n none)[i]? = some (some d) → ∃ v, (vs.map some ++ List.replicate m (none : Option V))[i]? = some (some v) ∧ RelD K H d v := by
    intro ds vs n m r i d h
    by_cases hi : i < ds.length
    · rw [List.getElem?_append_left (by simpa using hi), List.getElem?_map] at h
      obtain ⟨d', h1, h2⟩ := Option.map_eq_some_iff.mp h
      cases h2
      obtain ⟨v, g1, g2⟩ := r.get h1
      refine ⟨v, ?_, g2⟩
      rw [List.getElem?_append_left (by rw [List.length_map, ← r.length]; exact hi), List.getElem?_map, g1]
      rfl
    · rw [List.getElem?_append_right (by simpa using hi), List.getElem?_replicate] at h
      split at h <;> cases h
  exact e r
theorem fn_ok {c : Cn} (L : Law c P w base k) {hot : Bool} {ast : M.Ss} {sp : M.Sp} (F : FunD c.K name qual params body scope [] [] f fd) (S : FnScope N ps scope) (ck : chkSs { c.T with hot := hot } N ast scope body = true)
    (spec : ∀ ds S0 Q X, sp ds S0 Q X → ds.length = ps.length ∧ M.wpSs c.G ast (M.start N.length ds) S0 ⟨fun _ S' => Q .non S', Q, fun _ _ => False, fun k fs _ S' => X k fs S'⟩) :
    FnG P w c.K c.mg base hot (k + 1) f fd ps (lift c (M.cl sp)) := by
  have pl : ps.length ≤ N.length := by have := congrArg List.length S.pre; rw [List.length_take] at this; omega
  let c' : Cn := { c with T := { c.T with hot := hot } }
  refine fnG_of F S (fun vs H Q E ⟨ds, S0, Qd, Xd, rd, r, ⟨Q0, X0, q, _⟩, _⟩ => by rw [← rd.length]; exact (spec _ _ _ _ q).1) fun cdv A outer s H vs Q E hr hg ⟨ds, S0, Qd, Xd, rd, r, ⟨Q0, X0, q, hQ, hX⟩, hq, hx⟩ => ?_
  obtain ⟨hlen, hw⟩ := spec _ _ _ _ q
  have ok : OkS c' k N scope (cxB hot (L2.CX P w) P w c.K c.mg base N qual scope f cdv A outer s H E) (fun cls d _ H => E cls d H) := {
    ok := {
      eN := rfl
      es := rfl
      eK := rfl
      em := rfl
      nd := S.nd
      calm := fun h => by
        have h : hot = false := h
        show (!hot) = true
        rw [h]; rfl
      room := hr.b
      roomX := hr
      gd := hg
      rp := L.rp
      bt := L.bt
      con := L.con
      fns := fun n x hx => let ⟨f, fd, ps, D, F⟩ := L.fns n x hx; ⟨f, fd, ps, ⟨D.mg, D.at_, D.kp, D.bd, D.kb⟩, F⟩
      tk := takes_of rfl rfl rfl rfl
      sys := L.sys
      er := ⟨L.er.at_, L.er.ok, L.er.ve⟩
      oc := ⟨L.oc.gm, L.oc.nm, fun k C e => { L.oc.ok k C e with }⟩ }
    kind := S.kind
    fn := fun _ => rfl
    po := fun _ => passes_of (X := cxB hot (L2.CX P w) P w c.K c.mg base N qual scope f cdv A outer s H E) rfl
    stk := rfl
    frm := rfl
    exn := rfl }
  refine ⟨_, pssOk ast ck ok, M.start N.length ds, S0, _, ?_, start_rel rd, r, hw, ?_⟩
  · unfold M.start L2.start
    rw [List.length_append, List.length_append, List.length_map, List.length_map, List.length_replicate, List.length_replicate, rd.length]
  · exact ⟨fun ρ' S' σ' H' f' r' re' l' q => hq .non S' .non H' f' r' .non (hQ _ _ q), fun d S' v H' f' r' rd' q => hq d S' v H' f' r' rd' (hQ _ _ q), fun _ _ _ _ _ _ _ _ q => False.elim q, fun kx fs ρ' S' σ' H' cls d f' r' re' l' rx q => hx kx fs S' H' cls d f' r' rx (hX _ _ _ q)⟩
end
/-! ### the law's end -/
/-- where the script lies at a: nothing else is tracked -/
def onlyAt (H : Hp) (a : Addr) : Prop := ∀ b, H b ≠ none → b = a
/-- the heap without the script is a base for the law's def -/
theorem env_script {P : Program} {w : World} {K : Frag} {mg mb : Str → Option Value} {a : Addr} {s : Shared} {vs : List Value} {H : Hp} (inK : K.In s.heap) (hg : s.heap.Ns mainGlobals mg) (hb : s.heap.Ns builtinsNs mb) (hbb : ∀ x : Str, x ≠ "__name__" → mb x = bootBuiltins x) (free : s.heap.NoLimit) (quiet : s.gens = #[])
    (obj : s.heap.get? a = some { cls := .type "list", data := .seq vs.toArray }) (one : onlyAt H a) (apart : H a ≠ none → K.lookup a = none) (ok : HOk P w H s.heap) :
    Env0 P w K mg (hidT s.heap H) callerA [] s H ∧ K.In (hidT s.heap H) ∧ (hidT s.heap H).Ns mainGlobals mg := by
  -- a record that is not the script's stands in the base
  have stay : ∀ {b : Addr} {o : Obj}, s.heap.get? b = some o → (b = a → H b = none) → (hidT s.heap H).get? b = some o := fun {b o} e n => hidT_get e (Classical.byContradiction fun t => t (n (one b t)))
  have names : ∀ {b : Addr} {m : Str → Option Value}, s.heap.Ns b m → (hidT s.heap H).Ns b m := by
    rintro b m ⟨o, es, ep, at_, dat, rest⟩
    refine ⟨o, es, ep, stay at_ fun e => ?_, dat, rest⟩
    rw [e, obj] at at_
    rw [← Option.some.inj at_] at dat
    exact nomatch (show Data.seq vs.toArray _ = Data.dict es ep from dat)
  have kin : K.In (hidT s.heap H) := fun b o e => stay (inK b o e) fun hba => by
    subst hba
    exact Classical.byContradiction fun t => by have z := apart t; rw [e] at z; cases z
  obtain ⟨mc, lim1, lim2⟩ := free
  refine ⟨{ frames := rfl, mod := ⟨kin, names hg, ⟨mb, names hb, hbb⟩, ⟨mc, names lim1, lim2⟩⟩, bs := fun _ _ e => of_hidT e, bsz := Nat.le_of_eq (hidT_size _ _), funs := trivial, frf := ?_, hok := ok, bare := AllBare.of_eq quiet }, kin, names hg⟩
  intro b z
  cases z
/-- what stood stands behind the law's call -/
theorem old_script {P : Program} {w : World} {H H2 : Hp} {h h2 : Heap} (only : Only H) (un : Un (frs []) [] H H2 h h2) (ok : HOk P w H h) (ok2 : HOk P w H2 h2) : OldK h h2 := by
  refine OldK.of_keep fun b o e => ?_
  rcases only b with z | ⟨ob, xs, z⟩
  · exact un.keep b o e z nofun nofun
  · have u1 := (ok b _ z).1
    have u2 := (ok2 b _ (un.frzs b ob _ z)).1
    rw [u1] at e
    rw [← e]
    exact u2
/-- the law's promise: of the script as a list that is never written, True comes -/
theorem law_callG {P : Program} {w : World} {K : Frag} {mg mb : Str → Option Value} {k : Nat} {fa a : Addr} {fd : FuncData} {x : Str} {sp : L2.Sp} {s : Shared} {vs : List Value} {ns : List Int}
    (inK : K.In s.heap) (hg : s.heap.Ns mainGlobals mg) (hb : s.heap.Ns builtinsNs mb) (hbb : ∀ y : Str, y ≠ "__name__" → mb y = bootBuiltins y) (free : s.heap.NoLimit) (quiet : s.gens = #[])
    (obj : s.heap.get? a = some { cls := .type "list", data := .seq vs.toArray }) (hints : IntsAre vs ns) (small : ns.length ≤ sizeLine) (room : Room k callerA)
    (F : ∀ base : Heap, K.In base → base.Ns mainGlobals mg → FnG P w K mg base false k fa fd [x] sp) (bind : ∀ (t : Shared) (u : Value), BindsTo t fd ⟨[u], []⟩ [(x, u)])
    (want : ∀ H : Hp, Only H → SqF K H a (ns.map V.int) → sp [.ref a] H (fun v _ => v = .bl true) fun _ _ _ => False) :
    codeAny (model P w) callerA (.call (.ref fa) ⟨[.ref a], []⟩) (fun r t => r = .ok (.ret (.bool true)) ∧ OldK s.heap t.heap ∧ t.os = s.os ∧ AllBare t.gens) s := by
  have vals := vals_ints hints
  have go : ∀ H : Hp, Only H → SqF K H a (ns.map V.int) → HOk P w H s.heap → onlyAt H a → (H a ≠ none → K.lookup a = none) →
      codeAny (model P w) callerA (.call (.ref fa) ⟨[.ref a], []⟩) (fun r t => r = .ok (.ret (.bool true)) ∧ OldK s.heap t.heap ∧ t.os = s.os ∧ AllBare t.gens) s := fun H only sq ok one apart => by
    obtain ⟨env, kin, nsg⟩ := env_script (P := P) (w := w) inK hg hb hbb free quiet obj one apart ok
    have call := (F _ kin nsg).run callerA [] s H ⟨[.ref a], []⟩ [.ref a] [.ref a] _ _ (roomB room false) rfl env (bind s (.ref a)) (Paired.cons rfl Paired.nil) (want H only sq)
    refine codeAny_mono call fun r t out => ?_
    match r, out with
    | .error e, out => obtain ⟨_, _, _, _, _, _, _, _, _, _, _, _, no⟩ := (show L2.CX P w [] H s (fun _ _ _ => False) e t from out); exact no.elim
    | .ok .next, out => exact False.elim out
    | .ok .brk, out => exact False.elim out
    | .ok .cont, out => exact False.elim out
    | .ok (.ret u), ⟨v, H2, os, bare, un, ok2, rel, q⟩ =>
      have ev : v = .bl true := q
      subst ev
      have eu : u = Value.bool true := rel
      subst eu
      exact ⟨rfl, old_script only un ok ok2, os, bare⟩
  by_cases hk : K.lookup a = none
  · -- the script is tracked as a list that is never written
    let Hs : Hp := fun b => if b = a then some (.frz { cls := .type "list", data := .seq vs.toArray } (.lst (ns.map V.int))) else none
    have at_ : Hs a = some (.frz { cls := .type "list", data := .seq vs.toArray } (.lst (ns.map V.int))) := if_pos rfl
    have off : ∀ b, b ≠ a → Hs b = none := fun b hb => if_neg hb
    refine go Hs (fun b => ?_) (Or.inl ⟨_, at_⟩) (fun b u e => ?_) (fun b t => Classical.byContradiction fun hb => t (off b hb)) fun _ => hk
    · exact if hb : b = a then Or.inr ⟨_, _, hb ▸ at_⟩ else Or.inl (off b hb)
    · by_cases hb : b = a
      · subst hb
        rw [at_] at e
        cases e
        refine ⟨obj, ?_, vs, _, vals, obj⟩
        rw [List.length_map]
        exact small
      · rw [off b hb] at e
        cases e
  · -- the script is an object of the module
    obtain ⟨o, ho⟩ := Option.ne_none_iff_exists'.mp hk
    have eo := inK a o ho
    rw [obj] at eo
    have eo := Option.some.inj eo
    subst eo
    refine go (fun _ => none) (fun _ => Or.inl rfl) (Or.inr ⟨_, vs.toArray, _, ho, rfl, rfl, rfl, ?_, ?_⟩) (fun b u e => nomatch (show (none : Option HO) = some u from e)) (fun b t => absurd rfl t) fun t => absurd rfl t
    · rw [List.size_toArray, hints.length]
      exact small
    · simpa using vals
theorem rel_ints {K : Frag} {H : Hp} : ∀ ns : List Int, RelDs K H (ns.map M.D.int) (ns.map V.int)
  | [] => .nil
  | n :: ns => .cons (.int n) (rel_ints ns)
/-- THE END: the promise of the law's def in the small language -/
theorem walkG {l : PySem.W.OpenLaw} {n k : Nat} {q : Program} {loose : List Str} {XP : (Str → Option Value) → Heap → Prop} {YP : World → Heap → Prop} {d : DefRec} {x : Str} {sp : M.Sp}
    (hn : l.most = some n) (hn2 : n ≤ sizeLine) (hdf : d.params.defaults = []) (hr : Room k callerA)
    (hsp : ∀ (ns : List Int), ns.length ≤ n → sp [.fl (ns.map .int)] (fun _ => none) (fun v _ => v = .bl true) fun _ _ _ => False)
    (F : ∀ (w : World) (mg : Str → Option Value) (fa : Addr) (h : Heap), YP w h → h.Ns mainGlobals mg → mg d.name = some (.ref fa) →
      ∃ (K : Frag) (fd : FuncData) (T : Tb) (G : M.Gm), K.In h ∧ (∀ (s : Shared) (u : Value), BindsTo s fd ⟨[u], []⟩ [(x, u)]) ∧
        ∀ base : Heap, K.In base → base.Ns mainGlobals mg → FnG l.prog w K mg base false k fa fd [x] (lift ⟨K, mg, T, G⟩ (M.cl sp))) :
    PySem.W.WalkO q loose XP YP l.row.toRowW d [] (fun f vs => PySem.call f vs) := by
  refine Att.attach_call hn hdf fun w s₀ s₁ mg mb fa o pm cd doc a vs ns G Y ho hd hcd hmg hobj hints hlen hg => ?_
  obtain ⟨K, fd, T, Gm, KX, hb, hF⟩ := F w mg fa _ Y G.T.g hmg
  refine law_callG KX G.T.g G.T.b G.T.builtins G.T.nolimit hg hobj hints (Nat.le_trans hlen hn2) hr hF hb fun H hO hS => ?_
  refine ⟨[.fl (ns.map .int)], fun _ => none, _, _, .cons (.fl hS (rel_ints ns)) .nil, (fun a o e => by cases e), M.cl_of (hsp ns hlen), fun d S' v H' f r rd q => ?_, fun _ _ _ _ _ _ _ _ _ q => False.elim q⟩
  subst q
  cases rd
  rfl
end Snd
namespace Snd
open PySem PySem.Spec PyProof.Rows L2
section
variable {K : Frag} {x qual : Str} {params : Arguments} {body : List Stmt} {scope : Scope} {kws : List (Str × V)} {f : Addr} {fd : FuncData} {ps ks : List Str} {m : Nat} {perm : List Nat}
theorem kb_of (F : FunD K x qual params body scope [] kws f fd)
    (h : ∀ (kV doc pm : Value) (an : Option Addr) (cdv ct : Value) (us ws : List Value), us.length = m → ws.length = ks.length → bindArgs (PySem.W.fnOf x qual params body scope .none kV doc pm an cdv ct) ⟨us, ks.zip ws⟩ = pure (ps.zip (perm.filterMap fun i => (us ++ ws)[i]?))) : KB K fd ps m ks perm := by
  obtain ⟨oc, od, dV, kV, doc, pm, an, cdv, ct, osl, rfl, lk, hcd, hD, hK⟩ := F.ex
  rcases hD with ⟨_, rfl⟩ | ⟨e, _⟩
  · exact fun s us ws _ h1 h2 => .of_eq (h kV doc pm an cdv ct us ws h1 h2)
  · exact absurd rfl e
end
/-- the classes of objects -/
structure Objs where
  ob : Nat → Option Nat
  mt : Nat → M.Tx → Option Nat
  os : Nat → Nat → Bool
/-- the specs below n -/
def stage (sb : Nat → Nat → Bool) (ad : Nat → Option Nat) (oj : Objs) (sp : Nat → M.Sp) (con : Nat → M.D) (n : Nat) : M.Gm := ⟨M.upto n sp, con, sb, ad, rpF, oj.ob, oj.mt, oj.os⟩
theorem never_fn {c : Cn} {hot : Bool} {P : Program} {w : World} {base : Heap} {k : Nat} {f : Addr} {fd : FuncData} {ps : List Str} {sp : M.Sp} (h : ∀ ds S Q X, ¬ sp ds S Q X) : FnG P w c.K c.mg base hot k f fd ps (lift c (M.cl sp)) :=
  .never fun vs H Q E ⟨ds, S, Qd, Xd, _, _, ⟨Q0, X0, q, _⟩, _⟩ => h _ _ _ _ q
/-- all defs of a text, callees first; lev n: the room that the n-th wants below it, cost n: its own (a recursive def: its depth) -/
theorem chain {P : Program} {w : World} {K : Frag} {mg : Str → Option Value} {T : Tb} {base : Heap} {sp : Nat → M.Sp} {con : Nat → M.D} {sb : Nat → Nat → Bool} {ad : Nat → Option Nat} {oj : Objs} (lev cost : Nat → Nat) (hl : ∀ m n, m < n → lev m + cost m ≤ lev n) (sy : SysK K) (er : Errs K mg T (stage sb ad oj sp con 0)) (oc : Obs K mg T (stage sb ad oj sp con 0)) (bt : ∀ x ∈ T.bts, mg x = none)
    (cn : ∀ n x, T.cons[n]? = some x → ∃ u v, mg x = some u ∧ RelV v u ∧ ∀ H, RelD K H (con n) v)
    (D : ∀ n x, T.fns[n]? = some x → ∃ f fd ps, Def K mg T n x f fd ps ∧ ∀ k, Law ⟨K, mg, T, stage sb ad oj sp con n⟩ P w base k → FnG P w K mg base (T.hots.contains n) (k + cost n) f fd ps (lift ⟨K, mg, T, stage sb ad oj sp con n⟩ (M.cl (sp n)))) :
    ∀ n, Law ⟨K, mg, T, stage sb ad oj sp con n⟩ P w base (lev n) := by
  have go : ∀ N n, n < N → ∀ x, T.fns[n]? = some x → ∃ f fd ps, Def K mg T n x f fd ps ∧ ∀ G, FnG P w K mg base (T.hots.contains n) (lev n + cost n) f fd ps (lift ⟨K, mg, T, G⟩ (M.cl (sp n))) := by
    intro N
    induction N with
    | zero => exact fun _ h => absurd h (Nat.not_lt_zero _)
    | succ N ih =>
      intro n hn x hx
      obtain ⟨f, fd, ps, d, F⟩ := D n x hx
      refine ⟨f, fd, ps, d, fun G => F (lev n) ⟨rfl, bt, cn, fun m y hy => ?_, sy, ⟨er.at_, er.ok, er.ve⟩, ⟨oc.gm, oc.nm, fun k C e => { oc.ok k C e with }⟩⟩⟩
      by_cases hm : m < n
      · obtain ⟨g, gd, qs, d2, F2⟩ := ih m (by omega) y hy
        refine ⟨g, gd, qs, d2, ?_⟩
        have e : (stage sb ad oj sp con n).fn m = sp m := if_pos hm
        rw [show (Cn.G ⟨K, mg, T, stage sb ad oj sp con n⟩) = stage sb ad oj sp con n from rfl, e]
        exact (F2 _).mono (hl m n hm)
      · obtain ⟨g, gd, qs, d2, _⟩ := D m y hy
        refine ⟨g, gd, qs, d2, ?_⟩
        have e : (stage sb ad oj sp con n).fn m = fun _ _ _ _ => False := if_neg hm
        rw [show (Cn.G ⟨K, mg, T, stage sb ad oj sp con n⟩) = stage sb ad oj sp con n from rfl, e]
        exact never_fn (c := ⟨K, mg, T, stage sb ad oj sp con n⟩) fun _ _ _ _ q => q
  refine fun n => ⟨rfl, bt, cn, fun m y hy => ?_, sy, ⟨er.at_, er.ok, er.ve⟩, ⟨oc.gm, oc.nm, fun k C e => { oc.ok k C e with }⟩⟩
  by_cases hm : m < n
  · obtain ⟨g, gd, qs, d2, F2⟩ := go (m + 1) m (Nat.lt_succ_self m) y hy
    refine ⟨g, gd, qs, d2, ?_⟩
    have e : (stage sb ad oj sp con n).fn m = sp m := if_pos hm
    rw [show (Cn.G ⟨K, mg, T, stage sb ad oj sp con n⟩) = stage sb ad oj sp con n from rfl, e]
    exact (F2 _).mono (hl m n hm)
  · obtain ⟨g, gd, qs, d2, _⟩ := D m y hy
    refine ⟨g, gd, qs, d2, ?_⟩
    have e : (stage sb ad oj sp con n).fn m = fun _ _ _ _ => False := if_neg hm
    rw [show (Cn.G ⟨K, mg, T, stage sb ad oj sp con n⟩) = stage sb ad oj sp con n from rfl, e]
    exact never_fn (c := ⟨K, mg, T, stage sb ad oj sp con n⟩) fun _ _ _ _ q => q
/-- a text without recursion -/
theorem chain_law {P : Program} {w : World} {K : Frag} {mg : Str → Option Value} {T : Tb} {base : Heap} {sp : Nat → M.Sp} {con : Nat → M.D} {sb : Nat → Nat → Bool} {ad : Nat → Option Nat} {oj : Objs} (sy : SysK K) (er : Errs K mg T (stage sb ad oj sp con 0)) (oc : Obs K mg T (stage sb ad oj sp con 0)) (bt : ∀ x ∈ T.bts, mg x = none)
    (cn : ∀ n x, T.cons[n]? = some x → ∃ u v, mg x = some u ∧ RelV v u ∧ ∀ H, RelD K H (con n) v)
    (D : ∀ n x, T.fns[n]? = some x → ∃ f fd ps, Def K mg T n x f fd ps ∧ ∀ k, Law ⟨K, mg, T, stage sb ad oj sp con n⟩ P w base k → FnG P w K mg base (T.hots.contains n) (k + 1) f fd ps (lift ⟨K, mg, T, stage sb ad oj sp con n⟩ (M.cl (sp n)))) (n : Nat) :
    Law ⟨K, mg, T, stage sb ad oj sp con n⟩ P w base n := chain (fun n => n) (fun _ => 1) (fun _ _ h => h) sy er oc bt cn D n
/-- a recursive def: its promise with fuel; a call of itself spends some -/
theorem rec_fn {P : Program} {w : World} {K : Frag} {mg : Str → Option Value} {T : Tb} {base : Heap} {sp : Nat → M.Sp} {con : Nat → M.D} {sb : Nat → Nat → Bool} {ad : Nat → Option Nat} {oj : Objs} {n k : Nat} {x : Str} {f : Addr} {fd : FuncData} {ps : List Str} (L : Law ⟨K, mg, T, stage sb ad oj sp con n⟩ P w base k) (d : Def K mg T n x f fd ps) (hx : T.fns[n]? = some x)
    (fuel : Nat → M.Sp) (h0 : ∀ ds S Q X, ¬ fuel 0 ds S Q X)
    (step : ∀ m k, Law ⟨K, mg, T, { stage sb ad oj sp con n with fn := fun i => if i = n then fuel m else M.upto n sp i }⟩ P w base k → FnG P w K mg base (T.hots.contains n) (k + 1) f fd ps (lift ⟨K, mg, T, stage sb ad oj sp con n⟩ (M.cl (fuel (m + 1))))) :
    ∀ m, FnG P w K mg base (T.hots.contains n) (k + m) f fd ps (lift ⟨K, mg, T, stage sb ad oj sp con n⟩ (M.cl (fuel m)))
  | 0 => never_fn (c := ⟨K, mg, T, stage sb ad oj sp con n⟩) (h0)
  | m + 1 => step m (k + m) ⟨rfl, L.bt, L.con, fun i y hy => by
    by_cases hi : i = n
    · subst hi
      have e : x = y := Option.some.inj (hx.symm.trans hy)
      subst e
      refine ⟨f, fd, ps, d, ?_⟩
      show FnG P w K mg base (T.hots.contains i) (k + m) f fd ps (lift _ (M.cl (if i = i then fuel m else M.upto i sp i)))
      rw [if_pos rfl]
      exact rec_fn L d hx fuel h0 step m
    · obtain ⟨g, gd, qs, d2, F2⟩ := L.fns i y hy
      refine ⟨g, gd, qs, d2, ?_⟩
      show FnG P w K mg base (T.hots.contains i) (k + m) g gd qs (lift _ (M.cl (if i = n then fuel m else M.upto n sp i)))
      rw [if_neg hi]
      exact F2.mono (Nat.le_add_right _ _), L.sys, ⟨L.er.at_, L.er.ok, L.er.ve⟩, ⟨L.oc.gm, L.oc.nm, fun k C e => { L.oc.ok k C e with }⟩⟩
/-- with some fuel below B -/
theorem rec_all {c : Cn} {hot : Bool} {P : Program} {w : World} {base : Heap} {k B : Nat} {f : Addr} {fd : FuncData} {ps : List Str} {fuel : Nat → M.Sp} (F : ∀ m, FnG P w c.K c.mg base hot (k + m) f fd ps (lift c (M.cl (fuel m)))) :
    FnG P w c.K c.mg base hot (k + B) f fd ps (lift c (M.cl fun ds S Q X => ∃ m, m < B ∧ fuel m ds S Q X)) where
  len := fun vs H Q E ⟨ds, S, Qd, Xd, r1, r2, ⟨Q0, X0, ⟨m, _, q⟩, g1, g2⟩, h1, h2⟩ => (F m).len vs H Q E ⟨ds, S, Qd, Xd, r1, r2, ⟨Q0, X0, q, g1, g2⟩, h1, h2⟩
  run := fun A outer s H args us vs Q E hr hg e0 hb rv ⟨ds, S, Qd, Xd, r1, r2, ⟨Q0, X0, ⟨m, hm, q⟩, g1, g2⟩, h1, h2⟩ => ((F m).mono (Nat.add_le_add_left (Nat.le_of_lt hm) k)).run A outer s H args us vs Q E hr hg e0 hb rv ⟨ds, S, Qd, Xd, r1, r2, ⟨Q0, X0, q, g1, g2⟩, h1, h2⟩
end Snd
namespace Snd
open PySem PySem.Spec PyProof.Rows L2
/-! ### constants of the module: numbers, texts, nested tuples -/
mutual
def conB (K : Frag) : M.D → Value → Bool
  | .non, u => (match u with | .none => true | _ => false)
  | .bl b, u => (match u with | .bool d => b == d | _ => false)
  | .int i, u => (match u with | .int j _ => decide (i = j) | _ => false)
  | .str x, u => (match u with | .str y _ => decide (stx x = y) | _ => false)
  | .tup ds, u => (match u with
    | .ref a => (match K.lookup a with
      | some ⟨.type c, _, .seq its _, _⟩ => decide (c = "tuple") && decide (its.size ≤ sizeLine) && consB K ds its.toList
      | _ => false)
    | _ => false)
  | _, _ => false
def consB (K : Frag) : List M.D → List Value → Bool
  | [], us => us.isEmpty
  | d :: ds, us => (match us with | u :: us => conB K d u && consB K ds us | [] => false)
end
mutual
theorem conB_ok {K : Frag} : ∀ (d : M.D) {u : Value}, conB K d u = true → ∃ v, RelV v u ∧ ∀ H, RelD K H d v
  | .non, u, h => by
    cases u <;> first | exact ⟨.non, rfl, fun _ => .non⟩ | cases h
  | .bl b, u, h => by
    cases u <;> first | cases h | skip
    rename_i d
    have e : b = d := by simpa [conB] using h
    subst e
    exact ⟨.bl b, rfl, fun _ => .bl b⟩
  | .int i, u, h => by
    cases u <;> first | cases h | skip
    rename_i j t
    have e : i = j := of_decide_eq_true h
    subst e
    exact ⟨.int i, ⟨t, rfl⟩, fun _ => .int i⟩
  | .str x, u, h => by
    cases u <;> first | cases h | skip
    rename_i y t
    have e : stx x = y := of_decide_eq_true h
    subst e
    exact ⟨.str (stx x), ⟨t, rfl⟩, fun _ => .str x⟩
  | .tup ds, u, h => by
    cases u with
    | ref a =>
      have h : (match (generalizing := false) K.lookup a with
        | some ⟨.type c, _, .seq its _, _⟩ => decide (c = "tuple") && decide (its.size ≤ sizeLine) && consB K ds its.toList
        | _ => false) = true := h
      split at h
      · rename_i c od its n sl q
        obtain ⟨h, h3⟩ := and2 h
        obtain ⟨h1, h2⟩ := and2 h
        have e := of_decide_eq_true h1
        subst e
        obtain ⟨vs, rv, rd⟩ := consB_ok ds h3
        exact ⟨.ref a, rfl, fun H => .tup (.inr ⟨_, its, n, q, rfl, rfl, of_decide_eq_true h2, rv⟩) (rd H)⟩
      · cases h
    | _ => cases h
  | .fl _, _, h => by simp [conB] at h
  | .ref _, _, h => by simp [conB] at h
  | .xn _ _, _, h => by simp [conB] at h
theorem consB_ok {K : Frag} : ∀ (ds : List M.D) {us : List Value}, consB K ds us = true → ∃ vs, Vals vs us ∧ ∀ H, RelDs K H ds vs
  | [], us, h => by
    cases us with
    | nil => exact ⟨[], .nil, fun _ => .nil⟩
    | cons _ _ => cases h
  | d :: ds, us, h => by
    cases us with
    | nil => cases h
    | cons u us =>
      obtain ⟨h1, h2⟩ := and2 (show (conB K d u && consB K ds us) = true from h)
      obtain ⟨v, r1, r2⟩ := conB_ok d h1
      obtain ⟨vs, r3, r4⟩ := consB_ok ds h2
      exact ⟨v :: vs, .cons r1 r3, fun H => .cons (r2 H) (r4 H)⟩
end
/-- the module's names x are these constants -/
def consK (l : List (Str × M.D)) (K : Frag) : Bool := l.all fun p => match PySem.W.nsIn K mainGlobals p.1 with
  | some (some u) => conB K p.2 u
  | _ => false
theorem consK_ok {l : List (Str × M.D)} {K : Frag} {h : Heap} {mg : Str → Option Value} (X : K.In h) (G : h.Ns mainGlobals mg) (c : consK l K = true) {x : Str} {d : M.D} (hm : (x, d) ∈ l) : ∃ u v, mg x = some u ∧ RelV v u ∧ ∀ H, RelD K H d v := by
  have q := List.all_eq_true.mp c _ hm
  dsimp only at q
  split at q
  · rename_i u e
    obtain ⟨v, r1, r2⟩ := conB_ok d q
    exact ⟨u, v, PySem.W.mg_of X G e, r1, r2⟩
  · cases q
/-! ### the text's own errors -/
def sysB (K : Frag) : Bool := match K.lookup sysModules with
  | some ⟨.type c, _, _, _⟩ => decide (c = "dict")
  | _ => false
theorem sysB_ok {K : Frag} (h : sysB K = true) : SysK K := by
  unfold sysB at h
  split at h
  · rename_i c d da sl e
    exact ⟨_, e, by rw [of_decide_eq_true h]⟩
  · cases h
def adrOf (K : Frag) (x : Str) : Option Addr := match PySem.W.nsIn K mainGlobals x with
  | some (some (.ref C)) => some C
  | _ => none
def adrs (K : Frag) (cs : List Str) (nr i : Nat) : Option Addr := if i < nr then cs[i]?.bind (adrOf K) else none
def errB (K : Frag) (C : Addr) : Bool := PySem.W.excIn K C bmVE "ValueError.__new__" && PySem.W.keepIn K (.ref C) && (PySem.W.subIn K (.ref C) (.type "BaseException") == some true) && (PySem.W.typeIn K (.ref C) == some (.type "type"))
  && (PySem.W.findIn K (.ref C) "__getattribute__" == some (some (.builtin "BaseException.__getattribute__"))) && (PySem.W.findIn K (.ref C) "__getattr__" == some none) && PySem.W.hasDictIn K C
  && (PySem.W.findIn K (.ref C) "__class__" == some (some (.builtin "object.__class__"))) && (PySem.W.specialIn K (.builtin "object.__class__") "__get__" == some (some (.builtin "getset_descriptor.__get__")))
  && (PySem.W.takesIn K (.builtin "object.__class__") == some true) && (PySem.W.mroIn K C (.type "object") == some true)
theorem errB_ok {K : Frag} {C : Addr} (h : errB K C = true) : ErrC K C := by
  unfold errB at h
  simp only [Bool.and_eq_true, beq_iff_eq] at h
  obtain ⟨⟨⟨⟨⟨⟨⟨⟨⟨⟨h1, h2⟩, h3⟩, h4⟩, h5⟩, h6⟩, h7⟩, h8⟩, h9⟩, h10⟩, h11⟩ := h
  exact ⟨h1, h2, h3, h4, ⟨h5, h6, h3, h7, h8, h9, h10, h11⟩⟩
/-- all that is wanted of the classes cs, by their numbers; the first nr are raised -/
def exK (cs : List Str) (nr : Nat) (sb : Nat → Nat → Bool) (K : Frag) : Bool := decide (nr ≤ cs.length) && ((List.range nr).all fun i => match adrs K cs nr i with
  | some C => errB K C && (PySem.W.kitOne K (.ref C) (.type "ValueError") == some (sb i cs.length))
  | none => false) && (List.range cs.length).all fun j => match cs[j]?.bind (adrOf K) with
    | some D => (List.range nr).all fun i => match adrs K cs nr i with
      | some C => (PySem.W.kitOne K (.ref C) (.ref D) == some (sb i j)) && (PySem.W.exmOne K (.ref C) (.ref D) == some (sb i j))
      | none => false
    | none => false
theorem adrs_lt {K : Frag} {cs : List Str} {nr i : Nat} {C : Addr} (h : adrs K cs nr i = some C) : i < nr := by
  unfold adrs at h
  split at h
  · assumption
  · cases h
theorem exK_ok {K : Frag} {h : Heap} {mg : Str → Option Value} {T : Tb} {G : M.Gm} (X : K.In h) (N : h.Ns mainGlobals mg) (ga : G.adr = adrs K T.cls T.nr) (c : exK T.cls T.nr G.sub K = true) : Errs K mg T G := by
  obtain ⟨c, c2⟩ := and2 c
  obtain ⟨c0, c1⟩ := and2 c
  have c0 := of_decide_eq_true c0
  have at2 : ∀ i C, G.adr i = some C → adrs K T.cls T.nr i = some C := fun i C e => by rw [← ga]; exact e
  have one : ∀ i C, G.adr i = some C → errB K C = true ∧ PySem.W.kitOne K (.ref C) (.type "ValueError") = some (G.sub i T.cls.length) := fun i C e => by
    have e := at2 i C e
    have q := List.all_eq_true.mp c1 i (List.mem_range.mpr (adrs_lt e))
    rw [e] at q
    obtain ⟨q1, q2⟩ := and2 q
    exact ⟨q1, beq_iff_eq.mp q2⟩
  refine ⟨fun j x hx => ?_, fun k C e => errB_ok (one k C e).1, fun k C e => (one k C e).2⟩
  have q := List.all_eq_true.mp c2 j (List.mem_range.mpr (List.getElem?_eq_some_iff.mp hx).1)
  rw [hx] at q
  cases eD : adrOf K x with
  | none =>
    rw [Option.bind_some, eD] at q
    cases q
  | some D =>
    rw [Option.bind_some, eD] at q
    refine ⟨D, ?_, fun hj => ?_, fun k C e => ?_⟩
    · unfold adrOf at eD
      split at eD
      · rename_i C' e2
        cases eD
        exact PySem.W.mg_of X N e2
      · cases eD
    · rw [ga]
      unfold adrs
      rw [if_pos hj, hx, Option.bind_some, eD]
    · have e := at2 k C e
      have q4 := List.all_eq_true.mp q k (List.mem_range.mpr (adrs_lt e))
      rw [e] at q4
      obtain ⟨g1, g2⟩ := and2 q4
      exact ⟨beq_iff_eq.mp g1, beq_iff_eq.mp g2⟩
/-! ### the head's hook with them -/
def obsE (l : List (Str × M.D)) (cs : List Str) (nr : Nat) (sb : Nat → Nat → Bool) (fa : List He.Fa) (fn : List He.DefD) (K : Frag) : He.AlD := ((He.obsD fa fn K).1 && (consK l K && (sysB K && exK cs nr sb K)), (He.obsD fa fn K).2)
def hookE (n : Nat) (l : List (Str × M.D)) (cs : List Str) (nr : Nat) (sb : Nat → Nat → Bool) (fa : List He.Fa) (fn : List He.DefD) : PySem.W.Hook where
  α := He.AlD
  obs := fun s => obsE l cs nr sb fa fn (He.frG s.heap.get? (sysModules :: He.asD s.heap.get? n))
  val := fun _ => He.valD fn
  says := fun _ h => ∃ K : Frag, K.In h ∧ obsE l cs nr sb fa fn K = He.valD fn
  of := fun _ _ e => ⟨_, He.frG_in, e⟩
  keeps := fun _ _ _ ⟨K, hK, c⟩ k => ⟨K, PySem.W.Frag.In.keeps hK k, c⟩
theorem obsE_says {l : List (Str × M.D)} {cs : List Str} {nr : Nat} {sb : Nat → Nat → Bool} {fa : List He.Fa} {fn : List He.DefD} {K : Frag} (h : obsE l cs nr sb fa fn K = He.valD fn) : He.SaysD fa fn K ∧ consK l K = true ∧ sysB K = true ∧ exK cs nr sb K = true := by
  have h1 : ((He.obsD fa fn K).1 && (consK l K && (sysB K && exK cs nr sb K))) = true := congrArg (fun z : He.AlD => z.1) h
  have h2 : (obsE l cs nr sb fa fn K).2 = (He.valD fn).2 := congrArg (fun z : He.AlD => z.2) h
  have h2 : (He.obsD fa fn K).2 = (He.valD fn).2 := h2
  obtain ⟨a, b⟩ := and2 h1
  obtain ⟨b, c⟩ := and2 b
  obtain ⟨c, d⟩ := and2 c
  exact ⟨Prod.ext a h2, b, c, d⟩
theorem obsE_eq {n : Nat} {l : List (Str × M.D)} {cs : List Str} {nr : Nat} {sb : Nat → Nat → Bool} {fa : List He.Fa} {fn : List He.DefD} {g : Addr → Option Obj} {s : Shared} (h : ∀ a, g a = s.heap.get? a) : obsE l cs nr sb fa fn (He.frG g (sysModules :: He.asD g n)) = (hookE n l cs nr sb fa fn).obs s := by
  have e : g = s.heap.get? := funext h
  rw [e]
  rfl
end Snd
namespace Snd
open PySem PySem.Spec PyProof.Rows L2
/-! ### classes of objects, their methods and getters -/
structure DefO where
  at_ : Pl
  name : Str
  qual : Str
  params : Arguments
  body : List Stmt
  scope : Scope
def DefO.val (d : DefO) : He.FnW := some (d.name, d.qual, d.params, .stmts d.body, d.scope, mainGlobals, [], builtinsNs)
def fnWA (K : Frag) (a : Addr) : He.FnW := match K.lookup a with
  | some ⟨_, _, .func fd, _⟩ => some (fd.name, fd.qualname, fd.params, fd.body, fd.scope, fd.globals, fd.closure, fd.builtins)
  | _ => none
def DefO.ok (K : Frag) (d : DefO) : Bool := PySem.W.keepIn K (.ref (plA K d.at_)) && (match K.lookup (plA K d.at_) with
  | some ⟨_, _, .func fd, _⟩ => PySem.W.codeIn K fd.code d.qual && (He.dflB K fd.defaults [] && He.kwdB K fd.kwdefaults [])
  | _ => false)
theorem DefO.funD {K : Frag} {d : DefO} (e : fnWA K (plA K d.at_) = d.val) (c : d.ok K = true) : ∃ fd, FunD K d.name d.qual d.params d.body d.scope [] [] (plA K d.at_) fd := by
  obtain ⟨kp, c2⟩ := and2 c
  unfold fnWA at e
  cases q : K.lookup (plA K d.at_) with
  | none =>
    rw [q] at c2
    cases c2
  | some o =>
    obtain ⟨oc, od, dt, osl⟩ := o
    rw [q] at c2 e
    cases dt with
    | func fd =>
      obtain ⟨n1, n2, n3, n4, n5, n6, n7, n8, n9, n10, n11, n12, n13, n14, n15⟩ := fd
      have e2 : (some (n1, n2, n3, n4, n5, n6, n7, n15) : He.FnW) = some (d.name, d.qual, d.params, .stmts d.body, d.scope, mainGlobals, [], builtinsNs) := e
      simp only [Option.some.injEq, Prod.mk.injEq] at e2
      obtain ⟨h1, h2, h3, h4, h5, h6, h7, h8⟩ := e2
      subst h1 h2 h3 h4 h5 h6 h7 h8
      have c3 : (PySem.W.codeIn K n13 d.qual && (He.dflB K n8 [] && He.kwdB K n9 [])) = true := c2
      obtain ⟨k1, k2⟩ := and2 c3
      obtain ⟨k3, k4⟩ := and2 k2
      exact ⟨_, ⟨oc, od, n8, n9, n10, n11, n12, n13, n14, osl, rfl, q, k1, He.dflB_ok k3, He.kwdB_ok k4⟩, kp⟩
    | _ => cases c2
def oca (K : Frag) (ocs : List Str) (k : Nat) : Option Addr := ocs[k]?.bind (adrOf K)
def mtB (K : Frag) (T : Tb) (C : Addr) (m : M.Tx) (n : Nat) : Bool := match T.ats.lookup n with
  | some q => (PySem.W.findIn K (.ref C) (stx m) == some (some (.ref (plA K q)))) && PySem.W.isFn K (.ref (plA K q)) && PySem.W.keepIn K (.ref (plA K q)) && PySem.W.fnIn K (plA K q)
  | none => false
def prB (K : Frag) (T : Tb) (C : Addr) (f : M.Tx) (n : Nat) : Bool := match T.ats.lookup n with
  | some q => (match PySem.W.findIn K (.ref C) (stx f) with
    | some (some (.ref p)) => (PySem.W.specialIn K (.ref p) "__get__" == some (some (.builtin "property.__get__"))) && (PySem.W.takesIn K (.ref p) == some true) && (match PySem.W.recIn K p "property" with
      | some (.ref g :: _) => decide (g = plA K q)
      | _ => false)
    | _ => false)
  | none => false
def clsB1 (K : Frag) (C : Addr) : Bool := PySem.W.plainGet K C Str.empty && PySem.W.hasDictIn K C && PySem.W.plainOver K C && (PySem.W.findIn K (.ref C) "__setattr__" == some (some (.builtin "object.__setattr__"))) && PySem.W.makesIn K C && PySem.W.keepIn K (.ref C) && PySem.W.selfFirst K C
  && (PySem.W.findIn K (.ref C) "__class__" == some (some (.builtin "object.__class__"))) && (PySem.W.specialIn K (.builtin "object.__class__") "__get__" == some (some (.builtin "getset_descriptor.__get__")))
  && (PySem.W.takesIn K (.builtin "object.__class__") == some true) && (PySem.W.mroIn K C (.type "object") == some true) && (PySem.W.findIn K (.ref C) "__rand__" == some none)
def clsB2 (K : Frag) (C : Addr) : Bool := tyNs.all fun n => (PySem.W.subIn K (.type n) (.ref C) == some false) && (PySem.W.kitOne K (.type n) (.ref C) == some false) && (PySem.W.findIn K (.type n) "__and__").isSome && (PySem.W.findIn K (.type n) "__rand__").isSome
def clsB3 (K : Frag) (C : Addr) : Bool := ["int", "bool", "tuple", "list", "str"].all fun n => PySem.W.kitOne K (.ref C) (.type n) == some false
def objB (K : Frag) (T : Tb) (os : Nat → Nat → Bool) : Bool := (T.mtb.all fun e => !T.hots.contains e.2 && (T.fns[e.2]?).isSome) && (List.range T.ocs.length).all fun k => match oca K T.ocs k with
  | some C => clsB1 K C && clsB2 K C && clsB3 K C && (T.fds.all fun f => PySem.W.findIn K (.ref C) (stx f) == some none) && (T.mtb.all fun e => !decide (e.1.1 = k) || (if e.1.2 ∈ T.prs then prB K T C e.1.2 e.2 else mtB K T C e.1.2 e.2))
    && (List.range T.ocs.length).all fun j => match oca K T.ocs j with
      | some D => PySem.W.kitOne K (.ref C) (.ref D) == some (os k j)
      | none => false
  | none => false
def objsOf (K : Frag) (T : Tb) (os : Nat → Nat → Bool) : Objs := ⟨oca K T.ocs, fun k m => T.mtb.lookup (k, m), os⟩
theorem mem_lk {α β : Type} [BEq α] [LawfulBEq α] : ∀ {l : List (α × β)} {a : α} {b : β}, l.lookup a = some b → (a, b) ∈ l
  | [], _, _, h => by cases h
  | (x, y) :: l, a, b, h => by
    rw [List.lookup_cons] at h
    by_cases e : a = x
    · subst e
      rw [beq_self_eq_true] at h
      cases h
      exact List.mem_cons_self
    · rw [beq_false_of_ne e] at h
      exact List.mem_cons_of_mem _ (mem_lk h)
theorem oca_lt {K : Frag} {ocs : List Str} {k : Nat} {C : Addr} (h : oca K ocs k = some C) : k < ocs.length := by
  unfold oca at h
  cases e : ocs[k]? with
  | none => rw [e] at h; cases h
  | some x => exact (List.getElem?_eq_some_iff.mp e).1
theorem objB_ok {K : Frag} {h : Heap} {mg : Str → Option Value} {T : Tb} {G : M.Gm} {os : Nat → Nat → Bool} (X : K.In h) (N : h.Ns mainGlobals mg) (go : G.ob = oca K T.ocs) (gm : G.mt = fun k m => T.mtb.lookup (k, m)) (gs : G.os = os) (c : objB K T os = true) : Obs K mg T G := by
  obtain ⟨c0, c1⟩ := and2 c
  have at_ : ∀ k C, G.ob k = some C → oca K T.ocs k = some C := fun k C e => by rw [← go]; exact e
  refine ⟨fun k m n e => ?_, fun k x hx => ?_, fun k C e => ?_⟩
  · have e : T.mtb.lookup (k, m) = some n := by rw [gm] at e; exact e
    have hm := mem_lk e
    obtain ⟨g1, g2⟩ := and2 (List.all_eq_true.mp c0 _ hm)
    obtain ⟨x, g3⟩ := Option.isSome_iff_exists.mp g2
    exact ⟨hm, not1 g1, x, g3⟩
  · have q := List.all_eq_true.mp c1 k (List.mem_range.mpr (List.getElem?_eq_some_iff.mp hx).1)
    cases e : oca K T.ocs k with
    | none => rw [e] at q; cases q
    | some C =>
      refine ⟨C, ?_, by rw [go]; exact e⟩
      unfold oca at e
      rw [hx, Option.bind_some] at e
      unfold adrOf at e
      split at e
      · rename_i C' e2
        cases e
        exact PySem.W.mg_of X N e2
      · cases e
  · have e := at_ k C e
    have q := List.all_eq_true.mp c1 k (List.mem_range.mpr (oca_lt e))
    rw [e] at q
    have q : (clsB1 K C && clsB2 K C && clsB3 K C && (T.fds.all fun f => PySem.W.findIn K (.ref C) (stx f) == some none) && (T.mtb.all fun e => !decide (e.1.1 = k) || (if e.1.2 ∈ T.prs then prB K T C e.1.2 e.2 else mtB K T C e.1.2 e.2))
      && (List.range T.ocs.length).all fun j => match oca K T.ocs j with
        | some D => PySem.W.kitOne K (.ref C) (.ref D) == some (os k j)
        | none => false) = true := q
    obtain ⟨q, q5⟩ := and2 q
    obtain ⟨q, q4⟩ := and2 q
    obtain ⟨q, q3⟩ := and2 q
    obtain ⟨q, q6⟩ := and2 q
    obtain ⟨q1, q2⟩ := and2 q
    unfold clsB1 at q1
    simp only [Bool.and_eq_true, beq_iff_eq] at q1
    obtain ⟨⟨⟨⟨⟨⟨⟨⟨⟨⟨⟨h1, h2⟩, h3⟩, h4⟩, h5⟩, h6⟩, h7⟩, h8⟩, h9⟩, h10⟩, h11⟩, h12⟩ := q1
    have ty : ∀ n ∈ tyNs, PySem.W.subIn K (.type n) (.ref C) = some false ∧ PySem.W.kitOne K (.type n) (.ref C) = some false ∧ (PySem.W.findIn K (.type n) "__and__").isSome = true ∧ (PySem.W.findIn K (.type n) "__rand__").isSome = true := fun n hn => by
      have z := List.all_eq_true.mp q2 n hn
      simp only [Bool.and_eq_true, beq_iff_eq] at z
      exact ⟨z.1.1.1, z.1.1.2, z.1.2, z.2⟩
    have mem : ∀ m n, G.mt k m = some n → (if m ∈ T.prs then prB K T C m n else mtB K T C m n) = true := fun m n em => by
      have em : T.mtb.lookup (k, m) = some n := by rw [gm] at em; exact em
      have z := List.all_eq_true.mp q4 _ (mem_lk em)
      rcases Bool.or_eq_true_iff.mp z with z | z
      · simp at z
      · exact z
    exact {
      cl := ⟨h1, h2, h3, h4⟩
      mks := h5
      kp := h6
      sf := h7
      mt := fun m n hp em => by
        have z := mem m n em
        rw [if_neg hp] at z
        unfold mtB at z
        split at z
        · rename_i q' eq
          simp only [Bool.and_eq_true, beq_iff_eq] at z
          exact ⟨q', eq, ⟨z.1.1.1, z.1.1.2, z.1.2⟩, z.2⟩
        · cases z
      pr := fun m n hp em => by
        have z := mem m n em
        rw [if_pos hp] at z
        unfold prB at z
        split at z
        · rename_i q' eq
          split at z
          · rename_i p ep
            obtain ⟨z, z3⟩ := and2 z
            obtain ⟨z1, z2⟩ := and2 z
            split at z3
            · rename_i g rest er
              have eg := of_decide_eq_true z3
              subst eg
              exact ⟨q', p, eq, ep, beq_iff_eq.mp z1, beq_iff_eq.mp z2, rest, er⟩
            · cases z3
          · cases z
        · cases z
      fd := fun f hf => beq_iff_eq.mp (List.all_eq_true.mp q3 f hf)
      ha := h8
      hn := h9
      ht := h10
      hm := h11
      sub := fun n hn => ⟨(ty n hn).1, (ty n hn).2.1⟩
      andl := fun n hn => ⟨Option.isSome_iff_exists.mp (ty n hn).2.2.1, Option.isSome_iff_exists.mp (ty n hn).2.2.2⟩
      andr := h12
      isb := fun n hn => beq_iff_eq.mp (List.all_eq_true.mp q6 n hn)
      isc := fun j D ej => by
        have ej := at_ j D ej
        have z := List.all_eq_true.mp q5 j (List.mem_range.mpr (oca_lt ej))
        rw [ej] at z
        rw [gs]
        exact beq_iff_eq.mp z }
/-! ### the head's hook with them -/
def nsOf (ocs : List Str) (g : Addr → Option Obj) (a : Addr) : List Addr := match g a with
  | some ⟨_, _, .cls cd, _⟩ => if cd.name ∈ ocs then [cd.ns] else []
  | _ => []
def growN (g : Addr → Option Obj) : Nat → List Addr → List Addr
  | 0, as => as
  | n + 1, as => He.growD g (growN g n as)
/-- what is looked at: globals, defs, their codes; of the classes of objects also their methods, getters, codes -/
def asO (ocs : List Str) (g : Addr → Option Obj) : List Addr := sysModules :: (He.asD g 2 ++ growN g 3 ((He.asD g 2).flatMap (nsOf ocs g)))
def obsO (l : List (Str × M.D)) (T : Tb) (sb os : Nat → Nat → Bool) (fa : List He.Fa) (fn : List He.DefD) (fo : List DefO) (K : Frag) : He.AlD :=
  ((obsE l T.cls T.nr sb fa fn K).1 && (objB K T os && fo.all fun d => d.ok K), (He.obsD fa fn K).2 ++ fo.map fun d => fnWA K (plA K d.at_))
def valO (fn : List He.DefD) (fo : List DefO) : He.AlD := (true, fn.map He.DefD.val ++ fo.map DefO.val)
def hookO (l : List (Str × M.D)) (T : Tb) (sb os : Nat → Nat → Bool) (fa : List He.Fa) (fn : List He.DefD) (fo : List DefO) : PySem.W.Hook where
  α := He.AlD
  obs := fun s => obsO l T sb os fa fn fo (He.frG s.heap.get? (asO T.ocs s.heap.get?))
  val := fun _ => valO fn fo
  says := fun _ h => ∃ K : Frag, K.In h ∧ obsO l T sb os fa fn fo K = valO fn fo
  of := fun _ _ e => ⟨_, He.frG_in, e⟩
  keeps := fun _ _ _ ⟨K, hK, c⟩ k => ⟨K, PySem.W.Frag.In.keeps hK k, c⟩
theorem obsO_says {l : List (Str × M.D)} {T : Tb} {sb os : Nat → Nat → Bool} {fa : List He.Fa} {fn : List He.DefD} {fo : List DefO} {K : Frag} (h : obsO l T sb os fa fn fo K = valO fn fo) :
    He.SaysD fa fn K ∧ consK l K = true ∧ sysB K = true ∧ exK T.cls T.nr sb K = true ∧ objB K T os = true ∧ ∀ (i : Nat) (d : DefO), fo[i]? = some d → ∃ fd, FunD K d.name d.qual d.params d.body d.scope [] [] (plA K d.at_) fd := by
  have h1 : ((obsE l T.cls T.nr sb fa fn K).1 && (objB K T os && fo.all fun d => d.ok K)) = true := congrArg (fun z : He.AlD => z.1) h
  have h2 : (He.obsD fa fn K).2 ++ fo.map (fun d => fnWA K (plA K d.at_)) = fn.map He.DefD.val ++ fo.map DefO.val := congrArg (fun z : He.AlD => z.2) h
  have hl : (He.obsD fa fn K).2.length = (fn.map He.DefD.val).length := by
    show (fn.map fun d => He.fnW K d.at_).length = _
    rw [List.length_map, List.length_map]
  obtain ⟨e1, e2⟩ := List.append_inj h2 hl
  obtain ⟨a, b⟩ := and2 h1
  obtain ⟨b, d⟩ := and2 b
  have hE : obsE l T.cls T.nr sb fa fn K = He.valD fn := Prod.ext a e1
  obtain ⟨s1, s2, s3, s4⟩ := obsE_says hE
  refine ⟨s1, s2, s3, s4, b, fun i x hx => ?_⟩
  have e3 : (fo.map fun d => fnWA K (plA K d.at_))[i]? = (fo.map DefO.val)[i]? := by rw [e2]
  rw [List.getElem?_map, List.getElem?_map, hx] at e3
  exact DefO.funD (Option.some.inj e3) (List.all_eq_true.mp d x (List.mem_of_getElem? hx))
theorem obsO_eq {l : List (Str × M.D)} {T : Tb} {sb os : Nat → Nat → Bool} {fa : List He.Fa} {fn : List He.DefD} {fo : List DefO} {g : Addr → Option Obj} {s : Shared} (h : ∀ a, g a = s.heap.get? a) : obsO l T sb os fa fn fo (He.frG g (asO T.ocs g)) = (hookO l T sb os fa fn fo).obs s := by
  have e : g = s.heap.get? := funext h
  rw [e]
  rfl
end Snd
namespace M
theorem br_t {A B : Prop} : br true A B ↔ A := ⟨fun h => h.1 rfl, fun h => ⟨fun _ => h, fun z => nomatch z⟩⟩
theorem br_f {A B : Prop} : br false A B ↔ B := ⟨fun h => h.2 rfl, fun h => ⟨fun z => (nomatch z), fun _ => h⟩⟩
theorem br_n {A B : Prop} {b : Bool} : br (!b) A B ↔ br b B A := by cases b <;> simp [br]
theorem br_if {A B : Prop} {b : Bool} (h1 : b = true → A) (h2 : b = false → B) : br b A B := ⟨h1, h2⟩
theorem br_d {A B p : Prop} {d : Decidable p} (h1 : p → A) (h2 : ¬p → B) : br (@decide p d) A B := ⟨fun h => h1 (of_decide_eq_true h), fun h => h2 (of_decide_eq_false h)⟩
theorem opt_some {α : Type} {a : α} {P : α → Prop} : opt (some a) P = P a := rfl
theorem onI_int {i : Int} {P : Int → Prop} : onI (.int i) P = P i := rfl
theorem onB_bl {i : Bool} {P : Bool → Prop} : onB (.bl i) P = P i := rfl
theorem onR_ref {i : Nat} {P : Nat → Prop} : onR (.ref i) P = P i := rfl
theorem arg1_one {x : D} {P : D → Prop} : arg1 [x] P = P x := rfl
theorem eq_ii {i j : Int} {S : Sto} {Q : Bool → Prop} : cmpD .eq (.int i) (.int j) S Q ↔ Q (i == j) := by simp [cmpD, fit, eqB]
theorem ne_ii {i j : Int} {S : Sto} {Q : Bool → Prop} : cmpD .ne (.int i) (.int j) S Q ↔ Q (!(i == j)) := by simp [cmpD, fit, eqB]
theorem lt_ii {i j : Int} {S : Sto} {Q : Bool → Prop} : cmpD .lt (.int i) (.int j) S Q = Q (decide (i < j)) := rfl
theorem le_ii {i j : Int} {S : Sto} {Q : Bool → Prop} : cmpD .le (.int i) (.int j) S Q = Q (decide (i ≤ j)) := rfl
theorem gt_ii {i j : Int} {S : Sto} {Q : Bool → Prop} : cmpD .gt (.int i) (.int j) S Q = Q (decide (j < i)) := rfl
theorem ge_ii {i j : Int} {S : Sto} {Q : Bool → Prop} : cmpD .ge (.int i) (.int j) S Q = Q (decide (j ≤ i)) := rfl
theorem is_n {x : D} {S : Sto} {Q : Bool → Prop} : cmpD .is_ x .non S Q = Q (isNon x) := rfl
theorem isn_n {x : D} {S : Sto} {Q : Bool → Prop} : cmpD .isn x .non S Q = Q (!isNon x) := rfl
theorem is_b {a b : Bool} {S : Sto} {Q : Bool → Prop} : cmpD .is_ (.bl a) (.bl b) S Q = Q (a == b) := rfl
theorem isn_b {a b : Bool} {S : Sto} {Q : Bool → Prop} : cmpD .isn (.bl a) (.bl b) S Q = Q (!(a == b)) := rfl
theorem add_ii {i j : Int} {S : Sto} {Q : VK} : binD .add (.int i) (.int j) S Q = Q (.int (i + j)) S := rfl
theorem sub_ii {i j : Int} {S : Sto} {Q : VK} : binD .sub (.int i) (.int j) S Q = Q (.int (i - j)) S := rfl
theorem mul_ii {i j : Int} {S : Sto} {Q : VK} : binD .mul (.int i) (.int j) S Q = (sm i ∧ sm j ∧ Q (.int (i * j)) S) := rfl
theorem mod_ii {i j : Int} {S : Sto} {Q : VK} : binD .mod (.int i) (.int j) S Q = (j ≠ 0 ∧ Q (.int (i.fmod j)) S) := rfl
theorem fdiv_ii {i j : Int} {S : Sto} {Q : VK} : binD .fdiv (.int i) (.int j) S Q = (j ≠ 0 ∧ smd j ∧ Q (.int (i.fdiv j)) S) := rfl
theorem pow_ii {i j : Int} {S : Sto} {Q : VK} : binD .pow (.int i) (.int j) S Q = (sm i ∧ 0 ≤ j ∧ j ≤ 1000 ∧ Q (.int (i ^ j.toNat)) S) := rfl
theorem intD_i {i : Int} {S : Sto} {Q : VK} : intD (.int i) S Q = Q (.int i) S := rfl
theorem intD_b {i : Bool} {S : Sto} {Q : VK} : intD (.bl i) S Q = Q (.int (b2i i)) S := rfl
theorem ix30 : ixN 3 0 = some 0 := rfl
theorem ix31 : ixN 3 1 = some 1 := rfl
theorem ix32 : ixN 3 2 = some 2 := rfl
theorem at20 {α : Type} {a b : α} : atI [a, b] 0 = some a := rfl
theorem at21 {α : Type} {a b : α} : atI [a, b] 1 = some b := rfl
theorem at30 {α : Type} {a b c : α} : atI [a, b, c] 0 = some a := rfl
theorem at31 {α : Type} {a b c : α} : atI [a, b, c] 1 = some b := rfl
theorem at32 {α : Type} {a b c : α} : atI [a, b, c] 2 = some c := rfl
/-! ### the store -/
/-- what stood stands -/
def Ext (S S' : Sto) : Prop := ∀ a o, S a = some o → S' a = some o
/-- what stood stands, but at w -/
def Kp (w : Nat) (S S' : Sto) : Prop := ∀ a o, a ≠ w → S a = some o → S' a = some o
theorem Ext.refl {S : Sto} : Ext S S := fun _ _ h => h
theorem Ext.trans {S S' S2 : Sto} (a : Ext S S') (b : Ext S' S2) : Ext S S2 := fun x o h => b x o (a x o h)
theorem Ext.kp {S S' : Sto} (w : Nat) (a : Ext S S') : Kp w S S' := fun x o _ h => a x o h
theorem Kp.refl {w : Nat} {S : Sto} : Kp w S S := fun _ _ _ h => h
theorem Kp.trans {w : Nat} {S S' S2 : Sto} (a : Kp w S S') (b : Kp w S' S2) : Kp w S S2 := fun x o n h => b x o n (a x o n h)
theorem upd_at {S : Sto} {a : Nat} {o : O} : upd S a o a = some o := if_pos rfl
theorem upd_off {S : Sto} {a b : Nat} {o : O} (h : b ≠ a) : upd S a o b = S b := if_neg h
theorem Ext.new {S : Sto} {p : Nat} {o : O} (h : S p = none) : Ext S (upd S p o) := fun a x e => by
  have : a ≠ p := fun z => by rw [z, h] at e; cases e
  rw [upd_off this]; exact e
theorem Kp.wr {S : Sto} {w : Nat} {o : O} : Kp w S (upd S w o) := fun a x n e => by rw [upd_off n]; exact e
theorem lstAt_eq {S : Sto} {a : Nat} {xs : List D} (h : S a = some (.lst xs)) : lstAt S a = some xs := by unfold lstAt lstO; rw [h]
theorem lsOf_ref {S : Sto} {a : Nat} {xs : List D} (h : S a = some (.lst xs)) : lsOf S (.ref a) = some xs := lstAt_eq h
theorem sqOf_ref {S : Sto} {a : Nat} {xs : List D} (h : S a = some (.lst xs)) : sqOf S (.ref a) = some xs := lstAt_eq h
theorem lstAt_new {S : Sto} {a : Nat} {xs : List D} : lstAt (upd S a (.lst xs)) a = some xs := lstAt_eq upd_at
theorem ixD_ref {S : Sto} {a : Nat} {xs : List D} (h : S a = some (.lst xs)) {i : Int} {Q : VK} : ixD (.ref a) (.int i) S Q = opt (atI xs i) fun d => Q d S := by
  show opt (lstAt S a) _ = _
  rw [lstAt_eq h]
  rfl
theorem ixD_tup {S : Sto} {xs : List D} {i : Int} {Q : VK} : ixD (.tup xs) (.int i) S Q = opt (atI xs i) fun d => Q d S := rfl
theorem ixD_fl {S : Sto} {xs : List D} {i : Int} {Q : VK} : ixD (.fl xs) (.int i) S Q = opt (atI xs i) fun d => Q d S := rfl
theorem lenD_ref {S : Sto} {a : Nat} {xs : List D} (h : S a = some (.lst xs)) {Q : VK} : lenD (.ref a) S Q = Q (.int xs.length) S := by
  show opt (lstAt S a) _ = _
  rw [lstAt_eq h]
  rfl
theorem lenD_tup {S : Sto} {xs : List D} {Q : VK} : lenD (.tup xs) S Q = Q (.int xs.length) S := rfl
theorem lenD_fl {S : Sto} {xs : List D} {Q : VK} : lenD (.fl xs) S Q = Q (.int xs.length) S := rfl
theorem six_ref {S : Sto} {a : Nat} {xs : List D} (h : S a = some (.lst xs)) {i : Int} {d : D} {Q : Sto → Prop} : sixD (.ref a) (.int i) d S Q = opt (ixN xs.length i) fun j => Q (upd S a (.lst (xs.set j d))) := by
  show opt (lstAt S a) _ = _
  rw [lstAt_eq h]
  rfl
theorem lsOf_new {S : Sto} {a : Nat} {xs : List D} : lsOf (upd S a (.lst xs)) (.ref a) = some xs := lstAt_new
theorem seqD_tup {S : Sto} {xs : List D} {R : IK} : seqD (.tup xs) S R = R xs (fun _ => True) S := rfl
theorem seqD_fl {S : Sto} {xs : List D} {R : IK} : seqD (.fl xs) S R = R xs (fun _ => True) S := rfl
theorem seqD_ref {S : Sto} {a : Nat} {xs : List D} (h : S a = some (.lst xs)) {R : IK} : seqD (.ref a) S R = R xs (fun S' => S' a = some (.lst xs)) S := by
  show opt (lstAt S a) _ = _
  rw [lstAt_eq h]
  rfl
theorem slD_tup {S : Sto} {xs : List D} {lo hi : Option Int} {Q : VK} : slD (.tup xs) lo hi S Q = Q (.tup (cut xs lo hi)) S := rfl
theorem atI_all {α : Type} {xs : List α} {i : Int} {P : α → Prop} (h0 : 0 ≤ i) (h1 : i < xs.length) (h : ∀ y ∈ xs, P y) : opt (atI xs i) P := by
  have hl : i.toNat < xs.length := by omega
  have e : atI xs i = some xs[i.toNat] := by
    unfold atI ixN
    rw [if_pos h0, if_pos h1]
    simp [hl]
  rw [e]
  exact h _ (List.getElem_mem hl)
theorem add_ref {S : Sto} {a b : Nat} {xs ys : List D} (ha : S a = some (.lst xs)) (hb : S b = some (.lst ys)) {Q : VK} (k : mkL (xs ++ ys) S Q) : binD .add (.ref a) (.ref b) S Q := by
  show opt (lstAt S a) _
  rw [lstAt_eq ha]
  show opt (lstAt S b) _
  rw [lstAt_eq hb]
  exact k
theorem add_tt {S : Sto} {xs ys : List D} {Q : VK} : binD .add (.tup xs) (.tup ys) S Q = (xs.length + ys.length ≤ lim ∧ Q (.tup (xs ++ ys)) S) := rfl
theorem append_ref {S : Sto} {a : Nat} {xs : List D} (ha : S a = some (.lst xs)) {d : D} {Q : VK} (hl : xs.length < 1000) (k : Q .non (upd S a (.lst (xs ++ [d])))) : mtD .append (.ref a) [d] S Q := by
  show opt (lstAt S a) _
  rw [lstAt_eq ha]
  exact ⟨Nat.lt_of_lt_of_le hl (by decide), k⟩
/-! ### calls -/
theorem call {G : Gm} {n : Nat} {sp : Sp} (h : G.fn n = sp) {ds : List D} {S : Sto} {Q : VK} {X : XK} (q : sp ds S Q X) : cl (G.fn n) ds S Q X := by rw [h]; exact cl_of q
theorem upto_at {n i : Nat} {sp : Nat → Sp} {G : Gm} (hG : G.fn = upto n sp) (h : i < n) : G.fn i = sp i := by rw [hG]; exact if_pos h
/-- the classes of errors: which is which, and that each stands somewhere -/
structure GX (n : Nat) (sub : Nat → Nat → Bool) (G : Gm) : Prop where
  hs : G.sub = sub
  ha : ∀ k, k < n → ∃ C, G.adr k = some C
/-- the classes of objects: their methods, which is below which, and that each stands somewhere -/
structure GO (n : Nat) (mt : Nat → Tx → Option Nat) (os : Nat → Nat → Bool) (G : Gm) : Prop where
  hm : G.mt = mt
  hs : G.os = os
  ob : ∀ k, k < n → ∃ C, G.ob k = some C
/-! ### numbers -/
theorem lt_two {n : Nat} (k : Nat) (h : n < 2 ^ k) {m : Nat} (hk : k ≤ m) : n < 2 ^ m := Nat.lt_of_lt_of_le h (Nat.pow_le_pow_right (by decide) hk)
theorem sm_of {i : Int} (k : Nat) (hk : k ≤ 4000) (h : i.natAbs < 2 ^ k) : sm i := lt_two k h hk
theorem smd_of {i : Int} (k : Nat) (hk : k ≤ 8500) (h : i.natAbs < 2 ^ k) : smd i := lt_two k h hk
theorem smr_of {i : Int} (k : Nat) (hk : k ≤ 1900) (h : i.natAbs < 2 ^ k) : smr i := lt_two k h hk
theorem fmod_pos {i j : Int} (h : 0 < j) : i.fmod j = i % j := Int.fmod_eq_emod_of_nonneg _ (Int.le_of_lt h)
theorem fdiv_pos {i j : Int} (h : 0 < j) : i.fdiv j = i / j := Int.fdiv_eq_ediv_of_nonneg _ (Int.le_of_lt h)
/-! ### what is drawn -/
/-- the well at w after n draws at most -/
def Well (n : Nat) (S : Sto) (w : Nat) : Prop := ∃ a b c : Int, S w = some (.lst [.int a, .int b, .int c]) ∧ 0 ≤ a ∧ 0 ≤ b ∧ b < 10 ^ 42 ∧ 0 ≤ c ∧ c ≤ n
theorem Well.kp {n : Nat} {S S' : Sto} {w v : Nat} (h : Well n S w) (k : Kp v S S') (hv : w ≠ v) : Well n S' w := by
  obtain ⟨a, b, c, e, r⟩ := h
  exact ⟨a, b, c, k w _ hv e, r⟩
theorem Well.ext {n : Nat} {S S' : Sto} {w : Nat} (h : Well n S w) (k : Ext S S') : Well n S' w := by
  obtain ⟨a, b, c, e, r⟩ := h
  exact ⟨a, b, c, k w _ e, r⟩
theorem Well.le {n m : Nat} {S : Sto} {w : Nat} (h : Well n S w) (k : n ≤ m) : Well m S w := by
  obtain ⟨a, b, c, e, r1, r2, r3, r4, r5⟩ := h
  exact ⟨a, b, c, e, r1, r2, r3, r4, by omega⟩
theorem Well.some {n : Nat} {S : Sto} {w : Nat} (h : Well n S w) : ∃ o, S w = some o := by
  obtain ⟨a, b, c, e, _⟩ := h
  exact ⟨_, e⟩
theorem ne_new {S : Sto} {w p : Nat} {o : O} (h : S w = some o) (hp : S p = none) : w ≠ p := fun e => by rw [e, hp] at h; cases h
/-- _law_well(script, at) -/
def spWell : Sp := fun ds S Q _ => ∃ (ns : List Int) (i : Int), ds = [.fl (ns.map .int), .int i] ∧ 0 ≤ i ∧ i < 100 ∧ ∀ p, S p = none → ∀ S', Ext S S' → Well 0 S' p → Q (.ref p) S'
/-- _law_draw(well, most) -/
def spDraw : Sp := fun ds S Q _ => ∃ (w : Nat) (m : Int) (n : Nat), ds = [.ref w, .int m] ∧ 1 ≤ m ∧ m < 2 ^ 3000 ∧ Well n S w ∧ n < 2 ^ 60 ∧ ∀ (d : Int) S', 0 ≤ d → d < m → Well (n + 1) S' w → Kp w S S' → Q (.int d) S'
/-- _law_desk(well, most) -/
def spDesk : Sp := fun ds S Q _ => ∃ (w : Nat) (m : Int) (n : Nat), ds = [.ref w, .int m] ∧ 1 ≤ m ∧ m < 2 ^ 1000 ∧ Well n S w ∧ n + 4 < 2 ^ 59 ∧ ∀ (x y : Int) S', 1 ≤ x → x ≤ m → 1 ≤ y → y ≤ 2 * m + 4 → Well (n + 4) S' w → Kp w S S' → Q (.tup [.int x, .int y]) S'
/-- _law_roll(well, desk, most) -/
def spRoll : Sp := fun ds S Q _ => ∃ (w : Nat) (a b m : Int) (n : Nat), ds = [.ref w, .tup [.int a, .int b], .int m] ∧ 1 ≤ m ∧ m < 2 ^ 1000 ∧ 1 ≤ a ∧ a < 2 ^ 1000 ∧ 1 ≤ b ∧ b < 2 ^ 1000 ∧ Well n S w ∧ n + 8 < 2 ^ 59 ∧
  ∀ (x y p q : Int) S', 0 ≤ x → x ≤ a → 0 ≤ y → y ≤ b → (p ≠ 0 ∨ q ≠ 0) → -m ≤ p → p ≤ m → -m ≤ q → q ≤ m → Well (n + 8) S' w → Kp w S S' → Q (.tup [.int x, .int y, .int p, .int q]) S'
theorem atI_map {ns : List Int} {i : Int} (h0 : 0 ≤ i) (h : i < ns.length) : ∃ n, atI (ns.map D.int) i = Option.some (D.int n) := by
  have hl : i.toNat < ns.length := by omega
  refine ⟨ns[i.toNat], ?_⟩
  unfold atI ixN
  rw [if_pos h0, if_pos (by simpa using h)]
  simp [hl]
end M
namespace M
abbrev kR (Q : VK) (X : XK) : Kt := ⟨fun _ S' => Q .non S', Q, fun _ _ => False, fun k fs _ S' => X k fs S'⟩
theorem len_lim {n : Nat} (h : n ≤ 1000) : n ≤ lim := Nat.le_trans h (by decide)
theorem sqOf_new {S : Sto} {a : Nat} {xs : List D} : sqOf (upd S a (.lst xs)) (.ref a) = some xs := lstAt_new
theorem txt_well {G : Gm} {ds : List D} {S0 : Sto} {Q : VK} {X : XK} {b : Ss} (hb : b = (.cons (.set (.v 2) (.ite (.cmp .lt (.v 1) (.bi .len (.cons (.v 0) .nil))) (.ix (.v 0) (.v 1)) (.k (.int 0)))) (.cons (.ret (.lst (.cons (.bi .max (.cons (.k (.int 0)) (.cons (.bin .sub (.bi .abs (.cons (.v 2) .nil)) (.bin .pow (.k (.int 10)) (.k (.int 18)))) .nil))) (.cons (.bin .add (.bin .add (.bin .mul (.bin .mod (.bi .int (.cons (.v 2) .nil)) (.bin .add (.bin .pow (.k (.int 10)) (.k (.int 37))) (.k (.int 151)))) (.k (.int 103))) (.bin .mul (.k (.int 71)) (.v 1))) (.k (.int 43))) (.cons (.k (.int 0)) .nil))))) .nil))) (h : spWell ds S0 Q X) : ds.length = 2 ∧ wpSs G b (start 3 ds) S0 (kR Q X) := by
  obtain ⟨ns, i, rfl, h0, h1, hq⟩ := h
  subst hb
  refine ⟨rfl, ?_⟩
  have fin : ∀ c : Int, wpE G (.lst (.cons (.bi .max (.cons (.k (.int 0)) (.cons (.bin .sub (.bi .abs (.cons (.v 2) .nil)) (.bin .pow (.k (.int 10)) (.k (.int 18)))) .nil))) (.cons (.bin .add (.bin .add (.bin .mul (.bin .mod (.bi .int (.cons (.v 2) .nil)) (.bin .add (.bin .pow (.k (.int 10)) (.k (.int 37))) (.k (.int 151)))) (.k (.int 103))) (.bin .mul (.k (.int 71)) (.v 1))) (.k (.int 43))) (.cons (.k (.int 0)) .nil)))) [some (.fl (ns.map .int)), some (.int i), some (.int c)] S0 Q X := by
    intro c
    simp only [wpSs, wpS, wpE, wpEs, wpC, wpAnd, wpOr, wpO, wpIt, opt_some, onI_int, onB_bl, onR_ref, arg1_one, look, joinO, start, List.map_cons, List.map_nil, List.length_cons, List.length_nil, List.replicate, List.cons_append, List.nil_append, List.append_nil, List.getElem?_cons_succ, List.getElem?_cons_zero, kcD, Nat.reduceAdd, Nat.reduceSub, br_t, br_f, br_n, asg, setAll, List.set_cons_succ, List.set_cons_zero, tgs, wipe, eq_ii, ne_ii, lt_ii, le_ii, gt_ii, ge_ii, is_n, isn_n, is_b, isn_b, add_ii, sub_ii, mul_ii, mod_ii, fdiv_ii, pow_ii, isNon, biD, intD_i, intD_b, esLen, beq_self_eq_true, ixD_tup, lsOf_new, seqD_tup, seqD_fl, slD_tup, bools, Option.map_some, true_and, ixD_fl, lenD_tup, lenD_fl, ix30, ix31, ix32, at20, at21, at30, at31, at32, List.filterMap_cons, List.filterMap_nil]
    refine ⟨sm_of 8 (by decide) (by decide), by decide, by decide, sm_of 8 (by decide) (by decide), by decide, by decide, by decide, ?_⟩
    have e : (10 ^ Int.toNat 37 + 151 : Int) = 10000000000000000000000000000000000151 := by decide
    rw [e, fmod_pos (by decide)]
    have m1 := Int.emod_nonneg c (b := 10000000000000000000000000000000000151) (by decide)
    have m2 := Int.emod_lt_of_pos c (b := 10000000000000000000000000000000000151) (by decide)
    generalize c % 10000000000000000000000000000000000151 = r at *
    refine ⟨sm_of 130 (by decide) (by omega), sm_of 8 (by decide) (by decide), sm_of 8 (by decide) (by decide), sm_of 8 (by decide) (by omega), ?_⟩
    refine ⟨len_lim (n := 3) (by decide), fun p hp => hq p hp _ (Ext.new hp) ⟨_, _, _, upd_at, ?_, ?_, ?_, by decide, by decide⟩⟩
    · split <;> omega
    · omega
    · omega
  by_cases hlt : i < ns.length
  · obtain ⟨c, hc⟩ := atI_map h0 hlt
    simp only [wpSs, wpS, wpE, wpEs, wpC, wpAnd, wpOr, wpO, wpIt, opt_some, onI_int, onB_bl, onR_ref, arg1_one, look, joinO, start, List.map_cons, List.map_nil, List.length_cons, List.length_nil, List.replicate, List.cons_append, List.nil_append, List.append_nil, List.getElem?_cons_succ, List.getElem?_cons_zero, kcD, Nat.reduceAdd, Nat.reduceSub, br_t, br_f, br_n, asg, setAll, List.set_cons_succ, List.set_cons_zero, tgs, wipe, eq_ii, ne_ii, lt_ii, le_ii, gt_ii, ge_ii, is_n, isn_n, is_b, isn_b, add_ii, sub_ii, mul_ii, mod_ii, fdiv_ii, pow_ii, isNon, biD, intD_i, intD_b, esLen, beq_self_eq_true, ixD_tup, lsOf_new, seqD_tup, seqD_fl, slD_tup, bools, Option.map_some, true_and, ixD_fl, lenD_tup, lenD_fl, ix30, ix31, ix32, at20, at21, at30, at31, at32, List.filterMap_cons, List.filterMap_nil, lenD, sqOf, ixD, List.length_map, hlt, decide_true, hc]
    exact fin c
  · simp only [wpSs, wpS, wpE, wpEs, wpC, wpAnd, wpOr, wpO, wpIt, opt_some, onI_int, onB_bl, onR_ref, arg1_one, look, joinO, start, List.map_cons, List.map_nil, List.length_cons, List.length_nil, List.replicate, List.cons_append, List.nil_append, List.append_nil, List.getElem?_cons_succ, List.getElem?_cons_zero, kcD, Nat.reduceAdd, Nat.reduceSub, br_t, br_f, br_n, asg, setAll, List.set_cons_succ, List.set_cons_zero, tgs, wipe, eq_ii, ne_ii, lt_ii, le_ii, gt_ii, ge_ii, is_n, isn_n, is_b, isn_b, add_ii, sub_ii, mul_ii, mod_ii, fdiv_ii, pow_ii, isNon, biD, intD_i, intD_b, esLen, beq_self_eq_true, ixD_tup, lsOf_new, seqD_tup, seqD_fl, slD_tup, bools, Option.map_some, true_and, ixD_fl, lenD_tup, lenD_fl, ix30, ix31, ix32, at20, at21, at30, at31, at32, List.filterMap_cons, List.filterMap_nil, lenD, sqOf, ixD, List.length_map, hlt, decide_false]
    exact fin 0
/-- _law_draw -/
theorem txt_draw {G : Gm} {ds : List D} {S0 : Sto} {Q : VK} {X : XK} {b : Ss} (hb : b = (.cons (.if_ (.cmp .gt (.ix (.v 0) (.k (.int 0))) (.k (.int 0))) (.cons (.set (.v 3) (.bin .mod (.bi .int (.cons (.ix (.v 0) (.k (.int 0))) .nil)) (.v 1))) (.cons (.six (.v 0) (.k (.int 0)) (.bin .fdiv (.ix (.v 0) (.k (.int 0))) (.v 1))) (.cons (.ret (.v 3)) .nil))) .nil) (.cons (.six (.v 0) (.k (.int 2)) (.bin .add (.ix (.v 0) (.k (.int 2))) (.k (.int 1)))) (.cons (.set (.v 2) (.bin .mod (.bin .pow (.bi .int (.cons (.bin .add (.ix (.v 0) (.k (.int 1))) (.bin .mul (.k (.int 961748941)) (.ix (.v 0) (.k (.int 2))))) .nil)) (.k (.int 3))) (.bin .add (.bin .pow (.k (.int 10)) (.k (.int 41))) (.k (.int 109))))) (.cons (.set (.v 2) (.bin .mod (.bin .pow (.bi .int (.cons (.bin .add (.v 2) (.bin .mul (.k (.int 217645199)) (.ix (.v 0) (.k (.int 2))))) .nil)) (.k (.int 3))) (.bin .add (.bin .pow (.k (.int 10)) (.k (.int 39))) (.k (.int 3))))) (.cons (.ret (.bin .mod (.bi .int (.cons (.bin .fdiv (.v 2) (.k (.int 1048576))) .nil)) (.v 1))) .nil)))))) (h : spDraw ds S0 Q X) : ds.length = 2 ∧ wpSs G b (start 4 ds) S0 (kR Q X) := by
  obtain ⟨w, m, n, rfl, h1, hm, ⟨a, b', c, e, ha, hb0, hb1, hc0, hc1⟩, hn, hq⟩ := h
  subst hb
  refine ⟨rfl, ?_⟩
  have hm0 : 0 < m := by omega
  have hmm : smd m := smd_of 3000 (by decide) (by omega)
  simp only [wpSs, wpS, wpE, wpEs, wpC, wpAnd, wpOr, wpO, wpIt, opt_some, onI_int, onB_bl, onR_ref, arg1_one, look, joinO, start, List.map_cons, List.map_nil, List.length_cons, List.length_nil, List.replicate, List.cons_append, List.nil_append, List.append_nil, List.getElem?_cons_succ, List.getElem?_cons_zero, kcD, Nat.reduceAdd, Nat.reduceSub, br_t, br_f, br_n, asg, setAll, List.set_cons_succ, List.set_cons_zero, tgs, wipe, eq_ii, ne_ii, lt_ii, le_ii, gt_ii, ge_ii, is_n, isn_n, is_b, isn_b, add_ii, sub_ii, mul_ii, mod_ii, fdiv_ii, pow_ii, isNon, biD, intD_i, intD_b, esLen, beq_self_eq_true, ixD_tup, lsOf_new, seqD_tup, seqD_fl, slD_tup, bools, Option.map_some, true_and, ixD_fl, lenD_tup, lenD_fl, ix30, ix31, ix32, at20, at21, at30, at31, at32, List.filterMap_cons, List.filterMap_nil, ixD, sixD, sqOf_ref e, lstAt_eq e, lstAt_new, sqOf_new]
  refine br_d (fun hpos => ?_) (fun hneg => ?_)
  · rw [fmod_pos hm0, fdiv_pos hm0]
    refine ⟨by omega, by omega, hmm, ?_⟩
    have m1 := Int.emod_nonneg a (b := m) (by omega)
    have m2 := Int.emod_lt_of_pos a (b := m) hm0
    exact hq _ _ m1 m2 ⟨_, _, _, upd_at, Int.ediv_nonneg ha (by omega), hb0, hb1, hc0, by omega⟩ Kp.wr
  · have s1 : sm 961748941 := sm_of 64 (by decide) (by decide)
    have s2 : sm (c + 1) := sm_of 64 (by decide) (by omega)
    have s3 : sm (b' + 961748941 * (c + 1)) := sm_of 200 (by decide) (by omega)
    have s4 : sm 10 := sm_of 8 (by decide) (by decide)
    have s5 : sm 217645199 := sm_of 64 (by decide) (by decide)
    have e1 : (10 ^ Int.toNat 41 + 109 : Int) = 100000000000000000000000000000000000000109 := by decide
    have e2 : (10 ^ Int.toNat 39 + 3 : Int) = 1000000000000000000000000000000000000003 := by decide
    rw [e1, e2]
    generalize (b' + 961748941 * (c + 1)) ^ Int.toNat 3 = r1
    rw [fmod_pos (i := r1) (by decide)]
    have m1 := Int.emod_nonneg r1 (b := 100000000000000000000000000000000000000109) (by decide)
    have m2 := Int.emod_lt_of_pos r1 (b := 100000000000000000000000000000000000000109) (by decide)
    generalize r1 % 100000000000000000000000000000000000000109 = r2 at *
    have s6 : sm (r2 + 217645199 * (c + 1)) := sm_of 200 (by decide) (by omega)
    generalize (r2 + 217645199 * (c + 1)) ^ Int.toNat 3 = r3
    rw [fmod_pos (i := r3) (by decide)]
    generalize r3 % 1000000000000000000000000000000000000003 = r4
    rw [fmod_pos hm0]
    have m3 := Int.emod_nonneg (r4.fdiv 1048576) (b := m) (by omega)
    have m4 := Int.emod_lt_of_pos (r4.fdiv 1048576) (b := m) hm0
    exact ⟨s1, s2, s3, by decide, by decide, s4, by decide, by decide, by decide, s5, s2, s6, by decide, by decide, s4, by decide, by decide, by decide, by decide, smd_of 64 (by decide) (by decide), by omega,
      hq _ _ m3 m4 ⟨_, _, _, upd_at, ha, hb0, hb1, by omega, by omega⟩ Kp.wr⟩
end M
namespace M
theorem mkL_ok {xs : List D} {S : Sto} {Q : VK} (h : xs.length ≤ 1000) (k : ∀ p, S p = none → Q (.ref p) (upd S p (.lst xs))) : mkL xs S Q := ⟨len_lim h, k⟩
/-- one of four -/
theorem at4 {α : Type} {a b c d : α} {i : Int} {P : α → Prop} (h0 : 0 ≤ i) (h4 : i < 4) (ka : P a) (kb : P b) (kc : P c) (kd : P d) : opt (atI [a, b, c, d] i) P := by
  have : i = 0 ∨ i = 1 ∨ i = 2 ∨ i = 3 := by omega
  rcases this with e | e | e | e <;> subst e
  · exact ka
  · exact kb
  · exact kc
  · exact kd
theorem at3 {α : Type} {a b c : α} {i : Int} {P : α → Prop} (h0 : 0 ≤ i) (h4 : i < 3) (ka : P a) (kb : P b) (kc : P c) : opt (atI [a, b, c] i) P := by
  have : i = 0 ∨ i = 1 ∨ i = 2 := by omega
  rcases this with e | e | e <;> subst e
  · exact ka
  · exact kb
  · exact kc
theorem txt_desk {G : Gm} {ds : List D} {S0 : Sto} {Q : VK} {X : XK} {b : Ss} (hb : b = (.cons (.set (.v 2) (.bin .add (.k (.int 1)) (.call 40 (.cons (.v 0) (.cons (.v 1) .nil))))) (.cons (.set (.v 3) (.ix (.lst (.cons (.bin .add (.k (.int 1)) (.call 40 (.cons (.v 0) (.cons (.v 1) .nil)))) (.cons (.v 2) (.cons (.bin .mul (.v 2) (.k (.int 2))) (.cons (.bin .add (.k (.int 1)) (.call 40 (.cons (.v 0) (.cons (.k (.int 4)) .nil)))) .nil))))) (.call 40 (.cons (.v 0) (.cons (.k (.int 4)) .nil))))) (.cons (.ret (.tup (.cons (.v 2) (.cons (.v 3) .nil)))) .nil)))) (hG : G.fn 40 = spDraw) (h : spDesk ds S0 Q X) : ds.length = 2 ∧ wpSs G b (start 4 ds) S0 (kR Q X) := by
  obtain ⟨w, m, n, rfl, h1, hm, hw, hn, hq⟩ := h
  subst hb
  refine ⟨rfl, ?_⟩
  try simp only [wpSs, wpS, wpE, wpEs, wpC, wpAnd, wpOr, wpO, wpIt, opt_some, onI_int, onB_bl, onR_ref, arg1_one, look, joinO, start, List.map_cons, List.map_nil, List.length_cons, List.length_nil, List.replicate, List.cons_append, List.nil_append, List.append_nil, List.getElem?_cons_succ, List.getElem?_cons_zero, kcD, Nat.reduceAdd, Nat.reduceSub, br_t, br_f, br_n, asg, setAll, List.set_cons_succ, List.set_cons_zero, tgs, wipe, eq_ii, ne_ii, lt_ii, le_ii, gt_ii, ge_ii, is_n, isn_n, is_b, isn_b, add_ii, sub_ii, mul_ii, mod_ii, fdiv_ii, pow_ii, isNon, biD, intD_i, intD_b, esLen, beq_self_eq_true, ixD_tup, lsOf_new, seqD_tup, seqD_fl, slD_tup, bools, Option.map_some, true_and, ixD_fl, lenD_tup, lenD_fl, ix30, ix31, ix32, at20, at21, at30, at31, at32, List.filterMap_cons, List.filterMap_nil]
  refine call hG ⟨w, m, n, rfl, h1, by omega, hw, by omega, fun d1 S1 a1 b1 w1 k1 => ?_⟩
  try simp only [wpSs, wpS, wpE, wpEs, wpC, wpAnd, wpOr, wpO, wpIt, opt_some, onI_int, onB_bl, onR_ref, arg1_one, look, joinO, start, List.map_cons, List.map_nil, List.length_cons, List.length_nil, List.replicate, List.cons_append, List.nil_append, List.append_nil, List.getElem?_cons_succ, List.getElem?_cons_zero, kcD, Nat.reduceAdd, Nat.reduceSub, br_t, br_f, br_n, asg, setAll, List.set_cons_succ, List.set_cons_zero, tgs, wipe, eq_ii, ne_ii, lt_ii, le_ii, gt_ii, ge_ii, is_n, isn_n, is_b, isn_b, add_ii, sub_ii, mul_ii, mod_ii, fdiv_ii, pow_ii, isNon, biD, intD_i, intD_b, esLen, beq_self_eq_true, ixD_tup, lsOf_new, seqD_tup, seqD_fl, slD_tup, bools, Option.map_some, true_and, ixD_fl, lenD_tup, lenD_fl, ix30, ix31, ix32, at20, at21, at30, at31, at32, List.filterMap_cons, List.filterMap_nil]
  refine call hG ⟨w, m, _, rfl, h1, by omega, w1, by omega, fun d2 S2 a2 b2 w2 k2 => ?_⟩
  try simp only [wpSs, wpS, wpE, wpEs, wpC, wpAnd, wpOr, wpO, wpIt, opt_some, onI_int, onB_bl, onR_ref, arg1_one, look, joinO, start, List.map_cons, List.map_nil, List.length_cons, List.length_nil, List.replicate, List.cons_append, List.nil_append, List.append_nil, List.getElem?_cons_succ, List.getElem?_cons_zero, kcD, Nat.reduceAdd, Nat.reduceSub, br_t, br_f, br_n, asg, setAll, List.set_cons_succ, List.set_cons_zero, tgs, wipe, eq_ii, ne_ii, lt_ii, le_ii, gt_ii, ge_ii, is_n, isn_n, is_b, isn_b, add_ii, sub_ii, mul_ii, mod_ii, fdiv_ii, pow_ii, isNon, biD, intD_i, intD_b, esLen, beq_self_eq_true, ixD_tup, lsOf_new, seqD_tup, seqD_fl, slD_tup, bools, Option.map_some, true_and, ixD_fl, lenD_tup, lenD_fl, ix30, ix31, ix32, at20, at21, at30, at31, at32, List.filterMap_cons, List.filterMap_nil]
  refine ⟨sm_of 1001 (by decide) (by omega), sm_of 8 (by decide) (by decide), ?_⟩
  refine call hG ⟨w, 4, _, rfl, by decide, by decide, w2, by omega, fun d3 S3 a3 b3 w3 k3 => ?_⟩
  try simp only [wpSs, wpS, wpE, wpEs, wpC, wpAnd, wpOr, wpO, wpIt, opt_some, onI_int, onB_bl, onR_ref, arg1_one, look, joinO, start, List.map_cons, List.map_nil, List.length_cons, List.length_nil, List.replicate, List.cons_append, List.nil_append, List.append_nil, List.getElem?_cons_succ, List.getElem?_cons_zero, kcD, Nat.reduceAdd, Nat.reduceSub, br_t, br_f, br_n, asg, setAll, List.set_cons_succ, List.set_cons_zero, tgs, wipe, eq_ii, ne_ii, lt_ii, le_ii, gt_ii, ge_ii, is_n, isn_n, is_b, isn_b, add_ii, sub_ii, mul_ii, mod_ii, fdiv_ii, pow_ii, isNon, biD, intD_i, intD_b, esLen, beq_self_eq_true, ixD_tup, lsOf_new, seqD_tup, seqD_fl, slD_tup, bools, Option.map_some, true_and, ixD_fl, lenD_tup, lenD_fl, ix30, ix31, ix32, at20, at21, at30, at31, at32, List.filterMap_cons, List.filterMap_nil]
  refine mkL_ok (by simp) fun p hp => ?_
  have hwp := w3.some
  obtain ⟨ow, ew⟩ := hwp
  have hne := ne_new ew hp
  refine call hG ⟨w, 4, _, rfl, by decide, by decide, w3.ext (Ext.new hp), by omega, fun d4 S4 a4 b4 w4 k4 => ?_⟩
  have e4 := k4 p _ (Ne.symm hne) upd_at
  have kk : Kp w S0 S4 := ((k1.trans k2).trans k3).trans (((Ext.new hp).kp w).trans k4)
  simp only [wpSs, wpS, wpE, wpEs, wpC, wpAnd, wpOr, wpO, wpIt, opt_some, onI_int, onB_bl, onR_ref, arg1_one, look, joinO, start, List.map_cons, List.map_nil, List.length_cons, List.length_nil, List.replicate, List.cons_append, List.nil_append, List.append_nil, List.getElem?_cons_succ, List.getElem?_cons_zero, kcD, Nat.reduceAdd, Nat.reduceSub, br_t, br_f, br_n, asg, setAll, List.set_cons_succ, List.set_cons_zero, tgs, wipe, eq_ii, ne_ii, lt_ii, le_ii, gt_ii, ge_ii, is_n, isn_n, is_b, isn_b, add_ii, sub_ii, mul_ii, mod_ii, fdiv_ii, pow_ii, isNon, biD, intD_i, intD_b, esLen, beq_self_eq_true, ixD_tup, lsOf_new, seqD_tup, seqD_fl, slD_tup, bools, Option.map_some, true_and, ixD_fl, lenD_tup, lenD_fl, ix30, ix31, ix32, at20, at21, at30, at31, at32, List.filterMap_cons, List.filterMap_nil, ixD, sqOf_ref e4]
  refine at4 a4 b4 ?_ ?_ ?_ ?_
  · exact ⟨by decide, hq _ _ _ (by omega) (by omega) (by omega) (by omega) (w4.le (by omega)) kk⟩
  · exact ⟨by decide, hq _ _ _ (by omega) (by omega) (by omega) (by omega) (w4.le (by omega)) kk⟩
  · exact ⟨by decide, hq _ _ _ (by omega) (by omega) (by omega) (by omega) (w4.le (by omega)) kk⟩
  · exact ⟨by decide, hq _ _ _ (by omega) (by omega) (by omega) (by omega) (w4.le (by omega)) kk⟩
theorem fit_i {n : Nat} {S : Sto} {i : Int} : fit (n + 1) S (.int i) = true := rfl
theorem ne_pair {a b c d : Int} {S : Sto} {Q : Bool → Prop} : cmpD .ne (.tup [.int a, .int b]) (.tup [.int c, .int d]) S Q ↔ Q (!(a == c && b == d)) := by
  simp [cmpD, fit, fitL, eqB, eqLB]
/-- one of three numbers -/
theorem pick3 {a b c i lo hi : Int} {P : D → Prop} (h0 : 0 ≤ i) (h3 : i < 3) (ha : lo ≤ a ∧ a ≤ hi) (hb : lo ≤ b ∧ b ≤ hi) (hc : lo ≤ c ∧ c ≤ hi) (h : ∀ y : Int, lo ≤ y → y ≤ hi → P (.int y)) : opt (atI [.int a, .int b, .int c] i) P :=
  at3 h0 h3 (h a ha.1 ha.2) (h b hb.1 hb.2) (h c hc.1 hc.2)
theorem min2 {d : Int} (h : 0 ≤ d) : 0 ≤ (if d < 2 then d else 2) ∧ (if d < 2 then d else 2) < 3 := by split <;> omega
theorem txt_roll {G : Gm} {ds : List D} {S0 : Sto} {Q : VK} {X : XK} {b : Ss} (hb : b = (.cons (.set (.v 3) (.ix (.lst (.cons (.k (.int 0)) (.cons (.ix (.v 1) (.k (.int 0))) (.cons (.call 40 (.cons (.v 0) (.cons (.bin .add (.ix (.v 1) (.k (.int 0))) (.k (.int 1))) .nil))) .nil)))) (.bi .min (.cons (.k (.int 2)) (.cons (.call 40 (.cons (.v 0) (.cons (.k (.int 5)) .nil))) .nil))))) (.cons (.set (.v 4) (.ix (.lst (.cons (.k (.int 0)) (.cons (.ix (.v 1) (.k (.int 1))) (.cons (.call 40 (.cons (.v 0) (.cons (.bin .add (.ix (.v 1) (.k (.int 1))) (.k (.int 1))) .nil))) .nil)))) (.bi .min (.cons (.k (.int 2)) (.cons (.call 40 (.cons (.v 0) (.cons (.k (.int 5)) .nil))) .nil))))) (.cons (.par 5 6 (.bin .sub (.call 40 (.cons (.v 0) (.cons (.bin .add (.bin .mul (.k (.int 2)) (.v 2)) (.k (.int 1))) .nil))) (.v 2)) (.bin .sub (.call 40 (.cons (.v 0) (.cons (.bin .add (.bin .mul (.k (.int 2)) (.v 2)) (.k (.int 1))) .nil))) (.v 2))) (.cons (.if_ (.cmp .eq (.call 40 (.cons (.v 0) (.cons (.k (.int 8)) .nil))) (.k (.int 0))) (.cons (.set (.v 5) (.k (.int 0))) .nil) (.cons (.if_ (.cmp .eq (.call 40 (.cons (.v 0) (.cons (.k (.int 8)) .nil))) (.k (.int 0))) (.cons (.set (.v 6) (.k (.int 0))) .nil) .nil) .nil)) (.cons (.ret (.ite (.cmp .ne (.tup (.cons (.v 5) (.cons (.v 6) .nil))) (.tup (.cons (.k (.int 0)) (.cons (.k (.int 0)) .nil)))) (.tup (.cons (.v 3) (.cons (.v 4) (.cons (.v 5) (.cons (.v 6) .nil))))) (.tup (.cons (.v 3) (.cons (.v 4) (.cons (.k (.int 1)) (.cons (.k (.int 1)) .nil))))))) .nil)))))) (hG : G.fn 40 = spDraw) (h : spRoll ds S0 Q X) : ds.length = 3 ∧ wpSs G b (start 7 ds) S0 (kR Q X) := by
  obtain ⟨w, a, b2, m, n, rfl, h1, hm, ha, ha2, hb', hb2, hw, hn, hq⟩ := h
  subst hb
  refine ⟨rfl, ?_⟩
  try simp only [wpSs, wpS, wpE, wpEs, wpC, wpAnd, wpOr, wpO, wpIt, opt_some, onI_int, onB_bl, onR_ref, arg1_one, look, joinO, start, List.map_cons, List.map_nil, List.length_cons, List.length_nil, List.replicate, List.cons_append, List.nil_append, List.append_nil, List.getElem?_cons_succ, List.getElem?_cons_zero, kcD, Nat.reduceAdd, Nat.reduceSub, br_t, br_f, br_n, asg, setAll, List.set_cons_succ, List.set_cons_zero, tgs, wipe, eq_ii, ne_ii, lt_ii, le_ii, gt_ii, ge_ii, is_n, isn_n, is_b, isn_b, add_ii, sub_ii, mul_ii, mod_ii, fdiv_ii, pow_ii, isNon, biD, intD_i, intD_b, esLen, beq_self_eq_true, ixD_tup, lsOf_new, seqD_tup, seqD_fl, slD_tup, bools, Option.map_some, true_and, ixD_fl, lenD_tup, lenD_fl, ix30, ix31, ix32, at20, at21, at30, at31, at32, List.filterMap_cons, List.filterMap_nil]
  refine call hG ⟨w, a + 1, n, rfl, by omega, by omega, hw, by omega, fun d1 S1 p1 q1 w1 k1 => ?_⟩
  refine mkL_ok (by simp) fun p hp => ?_
  obtain ⟨ow, ew⟩ := w1.some
  have hne := ne_new ew hp
  refine call hG ⟨w, 5, _, rfl, by decide, by decide, w1.ext (Ext.new hp), by omega, fun d2 S2 p2 q2 w2 k2 => ?_⟩
  have e2 := k2 p _ (Ne.symm hne) upd_at
  have kk2 : Kp w S0 S2 := k1.trans (((Ext.new hp).kp w).trans k2)
  simp only [wpSs, wpS, wpE, wpEs, wpC, wpAnd, wpOr, wpO, wpIt, opt_some, onI_int, onB_bl, onR_ref, arg1_one, look, joinO, start, List.map_cons, List.map_nil, List.length_cons, List.length_nil, List.replicate, List.cons_append, List.nil_append, List.append_nil, List.getElem?_cons_succ, List.getElem?_cons_zero, kcD, Nat.reduceAdd, Nat.reduceSub, br_t, br_f, br_n, asg, setAll, List.set_cons_succ, List.set_cons_zero, tgs, wipe, eq_ii, ne_ii, lt_ii, le_ii, gt_ii, ge_ii, is_n, isn_n, is_b, isn_b, add_ii, sub_ii, mul_ii, mod_ii, fdiv_ii, pow_ii, isNon, biD, intD_i, intD_b, esLen, beq_self_eq_true, ixD_tup, lsOf_new, seqD_tup, seqD_fl, slD_tup, bools, Option.map_some, true_and, ixD_fl, lenD_tup, lenD_fl, ix30, ix31, ix32, at20, at21, at30, at31, at32, List.filterMap_cons, List.filterMap_nil, ixD_ref e2]
  refine pick3 (lo := 0) (hi := a) (min2 p2).1 (min2 p2).2 (by omega) (by omega) (by omega) fun x hx0 hx1 => ?_
  try simp only [wpSs, wpS, wpE, wpEs, wpC, wpAnd, wpOr, wpO, wpIt, opt_some, onI_int, onB_bl, onR_ref, arg1_one, look, joinO, start, List.map_cons, List.map_nil, List.length_cons, List.length_nil, List.replicate, List.cons_append, List.nil_append, List.append_nil, List.getElem?_cons_succ, List.getElem?_cons_zero, kcD, Nat.reduceAdd, Nat.reduceSub, br_t, br_f, br_n, asg, setAll, List.set_cons_succ, List.set_cons_zero, tgs, wipe, eq_ii, ne_ii, lt_ii, le_ii, gt_ii, ge_ii, is_n, isn_n, is_b, isn_b, add_ii, sub_ii, mul_ii, mod_ii, fdiv_ii, pow_ii, isNon, biD, intD_i, intD_b, esLen, beq_self_eq_true, ixD_tup, lsOf_new, seqD_tup, seqD_fl, slD_tup, bools, Option.map_some, true_and, ixD_fl, lenD_tup, lenD_fl, ix30, ix31, ix32, at20, at21, at30, at31, at32, List.filterMap_cons, List.filterMap_nil]
  refine call hG ⟨w, b2 + 1, _, rfl, by omega, by omega, w2, by omega, fun d3 S3 p3 q3 w3 k3 => ?_⟩
  refine mkL_ok (by simp) fun p' hp' => ?_
  obtain ⟨ow, ew⟩ := w3.some
  have hne := ne_new ew hp'
  refine call hG ⟨w, 5, _, rfl, by decide, by decide, w3.ext (Ext.new hp'), by omega, fun d4 S4 p4 q4 w4 k4 => ?_⟩
  have e4 := k4 p' _ (Ne.symm hne) upd_at
  have kk4 : Kp w S0 S4 := kk2.trans (k3.trans (((Ext.new hp').kp w).trans k4))
  simp only [wpSs, wpS, wpE, wpEs, wpC, wpAnd, wpOr, wpO, wpIt, opt_some, onI_int, onB_bl, onR_ref, arg1_one, look, joinO, start, List.map_cons, List.map_nil, List.length_cons, List.length_nil, List.replicate, List.cons_append, List.nil_append, List.append_nil, List.getElem?_cons_succ, List.getElem?_cons_zero, kcD, Nat.reduceAdd, Nat.reduceSub, br_t, br_f, br_n, asg, setAll, List.set_cons_succ, List.set_cons_zero, tgs, wipe, eq_ii, ne_ii, lt_ii, le_ii, gt_ii, ge_ii, is_n, isn_n, is_b, isn_b, add_ii, sub_ii, mul_ii, mod_ii, fdiv_ii, pow_ii, isNon, biD, intD_i, intD_b, esLen, beq_self_eq_true, ixD_tup, lsOf_new, seqD_tup, seqD_fl, slD_tup, bools, Option.map_some, true_and, ixD_fl, lenD_tup, lenD_fl, ix30, ix31, ix32, at20, at21, at30, at31, at32, List.filterMap_cons, List.filterMap_nil, ixD_ref e4]
  refine pick3 (lo := 0) (hi := b2) (min2 p4).1 (min2 p4).2 (by omega) (by omega) (by omega) fun y hy0 hy1 => ?_
  try simp only [wpSs, wpS, wpE, wpEs, wpC, wpAnd, wpOr, wpO, wpIt, opt_some, onI_int, onB_bl, onR_ref, arg1_one, look, joinO, start, List.map_cons, List.map_nil, List.length_cons, List.length_nil, List.replicate, List.cons_append, List.nil_append, List.append_nil, List.getElem?_cons_succ, List.getElem?_cons_zero, kcD, Nat.reduceAdd, Nat.reduceSub, br_t, br_f, br_n, asg, setAll, List.set_cons_succ, List.set_cons_zero, tgs, wipe, eq_ii, ne_ii, lt_ii, le_ii, gt_ii, ge_ii, is_n, isn_n, is_b, isn_b, add_ii, sub_ii, mul_ii, mod_ii, fdiv_ii, pow_ii, isNon, biD, intD_i, intD_b, esLen, beq_self_eq_true, ixD_tup, lsOf_new, seqD_tup, seqD_fl, slD_tup, bools, Option.map_some, true_and, ixD_fl, lenD_tup, lenD_fl, ix30, ix31, ix32, at20, at21, at30, at31, at32, List.filterMap_cons, List.filterMap_nil]
  have sm2 : sm 2 := sm_of 8 (by decide) (by decide)
  have smm : sm m := sm_of 1000 (by decide) (by omega)
  refine ⟨sm2, smm, ?_⟩
  refine call hG ⟨w, 2 * m + 1, _, rfl, by omega, by omega, w4, by omega, fun d5 S5 p5 q5 w5 k5 => ?_⟩
  try simp only [wpSs, wpS, wpE, wpEs, wpC, wpAnd, wpOr, wpO, wpIt, opt_some, onI_int, onB_bl, onR_ref, arg1_one, look, joinO, start, List.map_cons, List.map_nil, List.length_cons, List.length_nil, List.replicate, List.cons_append, List.nil_append, List.append_nil, List.getElem?_cons_succ, List.getElem?_cons_zero, kcD, Nat.reduceAdd, Nat.reduceSub, br_t, br_f, br_n, asg, setAll, List.set_cons_succ, List.set_cons_zero, tgs, wipe, eq_ii, ne_ii, lt_ii, le_ii, gt_ii, ge_ii, is_n, isn_n, is_b, isn_b, add_ii, sub_ii, mul_ii, mod_ii, fdiv_ii, pow_ii, isNon, biD, intD_i, intD_b, esLen, beq_self_eq_true, ixD_tup, lsOf_new, seqD_tup, seqD_fl, slD_tup, bools, Option.map_some, true_and, ixD_fl, lenD_tup, lenD_fl, ix30, ix31, ix32, at20, at21, at30, at31, at32, List.filterMap_cons, List.filterMap_nil]
  refine ⟨sm2, smm, ?_⟩
  refine call hG ⟨w, 2 * m + 1, _, rfl, by omega, by omega, w5, by omega, fun d6 S6 p6 q6 w6 k6 => ?_⟩
  try simp only [wpSs, wpS, wpE, wpEs, wpC, wpAnd, wpOr, wpO, wpIt, opt_some, onI_int, onB_bl, onR_ref, arg1_one, look, joinO, start, List.map_cons, List.map_nil, List.length_cons, List.length_nil, List.replicate, List.cons_append, List.nil_append, List.append_nil, List.getElem?_cons_succ, List.getElem?_cons_zero, kcD, Nat.reduceAdd, Nat.reduceSub, br_t, br_f, br_n, asg, setAll, List.set_cons_succ, List.set_cons_zero, tgs, wipe, eq_ii, ne_ii, lt_ii, le_ii, gt_ii, ge_ii, is_n, isn_n, is_b, isn_b, add_ii, sub_ii, mul_ii, mod_ii, fdiv_ii, pow_ii, isNon, biD, intD_i, intD_b, esLen, beq_self_eq_true, ixD_tup, lsOf_new, seqD_tup, seqD_fl, slD_tup, bools, Option.map_some, true_and, ixD_fl, lenD_tup, lenD_fl, ix30, ix31, ix32, at20, at21, at30, at31, at32, List.filterMap_cons, List.filterMap_nil]
  refine call hG ⟨w, 8, _, rfl, by decide, by decide, w6, by omega, fun d7 S7 p7 q7 w7 k7 => ?_⟩
  try simp only [wpSs, wpS, wpE, wpEs, wpC, wpAnd, wpOr, wpO, wpIt, opt_some, onI_int, onB_bl, onR_ref, arg1_one, look, joinO, start, List.map_cons, List.map_nil, List.length_cons, List.length_nil, List.replicate, List.cons_append, List.nil_append, List.append_nil, List.getElem?_cons_succ, List.getElem?_cons_zero, kcD, Nat.reduceAdd, Nat.reduceSub, br_t, br_f, br_n, asg, setAll, List.set_cons_succ, List.set_cons_zero, tgs, wipe, eq_ii, ne_ii, lt_ii, le_ii, gt_ii, ge_ii, is_n, isn_n, is_b, isn_b, add_ii, sub_ii, mul_ii, mod_ii, fdiv_ii, pow_ii, isNon, biD, intD_i, intD_b, esLen, beq_self_eq_true, ixD_tup, lsOf_new, seqD_tup, seqD_fl, slD_tup, bools, Option.map_some, true_and, ixD_fl, lenD_tup, lenD_fl, ix30, ix31, ix32, at20, at21, at30, at31, at32, List.filterMap_cons, List.filterMap_nil]
  have kk7 : Kp w S0 S7 := kk4.trans (k5.trans (k6.trans k7))
  have l2 : 2 ≤ lim := len_lim (by decide)
  have l4 : 4 ≤ lim := len_lim (by decide)
  -- the end, for any way
  have fin : ∀ (p q : Int) (S : Sto), Well (n + 8) S w → Kp w S0 S → -m ≤ p → p ≤ m → -m ≤ q → q ≤ m → 2 ≤ lim ∧ 2 ≤ lim ∧ cmpD .ne (.tup [.int p, .int q]) (.tup [.int 0, .int 0]) S fun k => br k (4 ≤ lim ∧ Q (.tup [.int x, .int y, .int p, .int q]) S) (4 ≤ lim ∧ Q (.tup [.int x, .int y, .int 1, .int 1]) S) := by
    intro p q S hw hk hp1 hp2 hq1 hq2
    refine ⟨l2, l2, ne_pair.mpr (br_if (fun h => ⟨l4, ?_⟩) fun h => ⟨l4, ?_⟩)⟩
    · refine hq x y p q S hx0 hx1 hy0 hy1 ?_ hp1 hp2 hq1 hq2 hw hk
      by_cases hp : p = 0
      · right
        intro hz
        subst hp hz
        simp at h
      · exact .inl hp
    · exact hq x y 1 1 S hx0 hx1 hy0 hy1 (.inl (by decide)) (by omega) (by omega) (by omega) (by omega) hw hk
  refine br_if (fun _ => fin 0 _ S7 (w7.le (by omega)) kk7 (by omega) (by omega) (by omega) (by omega)) fun _ => ?_
  refine call hG ⟨w, 8, _, rfl, by decide, by decide, w7, by omega, fun d8 S8 p8 q8 w8 k8 => ?_⟩
  try simp only [wpSs, wpS, wpE, wpEs, wpC, wpAnd, wpOr, wpO, wpIt, opt_some, onI_int, onB_bl, onR_ref, arg1_one, look, joinO, start, List.map_cons, List.map_nil, List.length_cons, List.length_nil, List.replicate, List.cons_append, List.nil_append, List.append_nil, List.getElem?_cons_succ, List.getElem?_cons_zero, kcD, Nat.reduceAdd, Nat.reduceSub, br_t, br_f, br_n, asg, setAll, List.set_cons_succ, List.set_cons_zero, tgs, wipe, eq_ii, ne_ii, lt_ii, le_ii, gt_ii, ge_ii, is_n, isn_n, is_b, isn_b, add_ii, sub_ii, mul_ii, mod_ii, fdiv_ii, pow_ii, isNon, biD, intD_i, intD_b, esLen, beq_self_eq_true, ixD_tup, lsOf_new, seqD_tup, seqD_fl, slD_tup, bools, Option.map_some, true_and, ixD_fl, lenD_tup, lenD_fl, ix30, ix31, ix32, at20, at21, at30, at31, at32, List.filterMap_cons, List.filterMap_nil]
  refine br_if (fun _ => fin _ 0 S8 (w8.le (by omega)) (kk7.trans k8) (by omega) (by omega) (by omega) (by omega)) fun _ => fin _ _ S8 (w8.le (by omega)) (kk7.trans k8) (by omega) (by omega) (by omega) (by omega)
end M
namespace M
/-- its type is known -/
def Kn (S : Sto) : D → Prop
  | .ref a => ∃ o, S a = some o
  | .xn _ _ => False
  | _ => True
def isI : D → Bool
  | .int _ => true
  | _ => false
def isBl : D → Bool
  | .bl _ => true
  | _ => false
def isT : D → Bool
  | .tup _ => true
  | _ => false
def isS : D → Bool
  | .str _ => true
  | _ => false
theorem ty_int {S : Sto} {v : D} (h : Kn S v) : isTy S v .int = some (isI v || isBl v) := by
  cases v with
  | ref a =>
    obtain ⟨o, e⟩ := h
    show tyO (S a) .int = _
    rw [e]
    cases o <;> rfl
  | xn c fs => exact False.elim h
  | _ => rfl
theorem ty_bool {S : Sto} {v : D} (h : Kn S v) : isTy S v .bool = some (isBl v) := by
  cases v with
  | ref a =>
    obtain ⟨o, e⟩ := h
    show tyO (S a) .bool = _
    rw [e]
    cases o <;> rfl
  | xn c fs => exact False.elim h
  | _ => rfl
theorem ty_tuple {S : Sto} {v : D} (h : Kn S v) : isTy S v .tuple = some (isT v) := by
  cases v with
  | ref a =>
    obtain ⟨o, e⟩ := h
    show tyO (S a) .tuple = _
    rw [e]
    cases o <;> rfl
  | xn c fs => exact False.elim h
  | _ => rfl
def oI : Option Int → D
  | none => .non
  | some i => .int i
def intB : D → Option Int → Option Int → Bool
  | .int i, lo, hi => (match lo with | none => true | some l => decide (l ≤ i)) && (match hi with | none => true | some m => decide (i ≤ m))
  | _, _, _ => false
/-- is_integer(value, least, most) -/
def spInt : Sp := fun ds S Q _ => ∃ v lo hi, ds = [v, oI lo, oI hi] ∧ Kn S v ∧ Q (.bl (intB v lo hi)) S
theorem txt_int {G : Gm} {ds : List D} {S0 : Sto} {Q : VK} {X : XK} {b : Ss} (hb : b = (.cons (.if_ (.or (.not (.isi (.v 0) .int)) (.cons (.isi (.v 0) .bool) .nil)) (.cons (.ret (.k (.bl false))) .nil) .nil) (.cons (.ret (.and (.or (.cmp .is_ (.v 1) (.k .non)) (.cons (.cmp .le (.v 1) (.v 0)) .nil)) (.cons (.or (.cmp .is_ (.v 2) (.k .non)) (.cons (.cmp .le (.v 0) (.v 2)) .nil)) .nil))) .nil))) (h : spInt ds S0 Q X) : ds.length = 3 ∧ wpSs G b (start 3 ds) S0 (kR Q X) := by
  obtain ⟨v, lo, hi, rfl, hk, hq⟩ := h
  subst hb
  refine ⟨rfl, ?_⟩
  simp only [wpSs, wpS, wpE, wpEs, wpC, wpAnd, wpOr, wpO, wpIt, opt_some, onI_int, onB_bl, onR_ref, arg1_one, look, joinO, start, List.map_cons, List.map_nil, List.length_cons, List.length_nil, List.replicate, List.cons_append, List.nil_append, List.append_nil, List.getElem?_cons_succ, List.getElem?_cons_zero, kcD, Nat.reduceAdd, Nat.reduceSub, br_t, br_f, br_n, asg, setAll, List.set_cons_succ, List.set_cons_zero, tgs, wipe, eq_ii, ne_ii, lt_ii, le_ii, gt_ii, ge_ii, is_n, isn_n, is_b, isn_b, add_ii, sub_ii, mul_ii, mod_ii, fdiv_ii, pow_ii, isNon, biD, intD_i, intD_b, esLen, beq_self_eq_true, ixD_tup, lsOf_new, seqD_tup, seqD_fl, slD_tup, bools, Option.map_some, true_and, ixD_fl, lenD_tup, lenD_fl, ix30, ix31, ix32, at20, at21, at30, at31, at32, List.filterMap_cons, List.filterMap_nil, ty_int hk, ty_bool hk]
  cases v with
  | int i =>
    simp only [isI, isBl, Bool.or_false, br_t, br_f]
    cases lo <;> cases hi
    · exact (by simpa [oI, intB, wpSs, wpS, wpE, wpEs, wpC, wpAnd, wpOr, wpO, wpIt, opt_some, onI_int, onB_bl, onR_ref, arg1_one, look, joinO, start, List.map_cons, List.map_nil, List.length_cons, List.length_nil, List.replicate, List.cons_append, List.nil_append, List.append_nil, List.getElem?_cons_succ, List.getElem?_cons_zero, kcD, Nat.reduceAdd, Nat.reduceSub, br_t, br_f, br_n, asg, setAll, List.set_cons_succ, List.set_cons_zero, tgs, wipe, eq_ii, ne_ii, lt_ii, le_ii, gt_ii, ge_ii, is_n, isn_n, is_b, isn_b, add_ii, sub_ii, mul_ii, mod_ii, fdiv_ii, pow_ii, isNon, biD, intD_i, intD_b, esLen, beq_self_eq_true, ixD_tup, lsOf_new, seqD_tup, seqD_fl, slD_tup, bools, Option.map_some, true_and, ixD_fl, lenD_tup, lenD_fl, ix30, ix31, ix32, at20, at21, at30, at31, at32, List.filterMap_cons, List.filterMap_nil] using hq)
    · exact (by simpa [oI, intB, wpSs, wpS, wpE, wpEs, wpC, wpAnd, wpOr, wpO, wpIt, opt_some, onI_int, onB_bl, onR_ref, arg1_one, look, joinO, start, List.map_cons, List.map_nil, List.length_cons, List.length_nil, List.replicate, List.cons_append, List.nil_append, List.append_nil, List.getElem?_cons_succ, List.getElem?_cons_zero, kcD, Nat.reduceAdd, Nat.reduceSub, br_t, br_f, br_n, asg, setAll, List.set_cons_succ, List.set_cons_zero, tgs, wipe, eq_ii, ne_ii, lt_ii, le_ii, gt_ii, ge_ii, is_n, isn_n, is_b, isn_b, add_ii, sub_ii, mul_ii, mod_ii, fdiv_ii, pow_ii, isNon, biD, intD_i, intD_b, esLen, beq_self_eq_true, ixD_tup, lsOf_new, seqD_tup, seqD_fl, slD_tup, bools, Option.map_some, true_and, ixD_fl, lenD_tup, lenD_fl, ix30, ix31, ix32, at20, at21, at30, at31, at32, List.filterMap_cons, List.filterMap_nil] using hq)
    · rename_i l
      have hq : Q (.bl (decide (l ≤ i) && true)) S0 := hq
      simp only [oI, wpSs, wpS, wpE, wpEs, wpC, wpAnd, wpOr, wpO, wpIt, opt_some, onI_int, onB_bl, onR_ref, arg1_one, look, joinO, start, List.map_cons, List.map_nil, List.length_cons, List.length_nil, List.replicate, List.cons_append, List.nil_append, List.append_nil, List.getElem?_cons_succ, List.getElem?_cons_zero, kcD, Nat.reduceAdd, Nat.reduceSub, br_t, br_f, br_n, asg, setAll, List.set_cons_succ, List.set_cons_zero, tgs, wipe, eq_ii, ne_ii, lt_ii, le_ii, gt_ii, ge_ii, is_n, isn_n, is_b, isn_b, add_ii, sub_ii, mul_ii, mod_ii, fdiv_ii, pow_ii, isNon, biD, intD_i, intD_b, esLen, beq_self_eq_true, ixD_tup, lsOf_new, seqD_tup, seqD_fl, slD_tup, bools, Option.map_some, true_and, ixD_fl, lenD_tup, lenD_fl, ix30, ix31, ix32, at20, at21, at30, at31, at32, List.filterMap_cons, List.filterMap_nil]
      exact br_if (fun h => by rw [h] at hq; exact hq) fun h => by rw [h] at hq; exact hq
    · rename_i l m
      have hq : Q (.bl (decide (l ≤ i) && decide (i ≤ m))) S0 := hq
      simp only [oI, wpSs, wpS, wpE, wpEs, wpC, wpAnd, wpOr, wpO, wpIt, opt_some, onI_int, onB_bl, onR_ref, arg1_one, look, joinO, start, List.map_cons, List.map_nil, List.length_cons, List.length_nil, List.replicate, List.cons_append, List.nil_append, List.append_nil, List.getElem?_cons_succ, List.getElem?_cons_zero, kcD, Nat.reduceAdd, Nat.reduceSub, br_t, br_f, br_n, asg, setAll, List.set_cons_succ, List.set_cons_zero, tgs, wipe, eq_ii, ne_ii, lt_ii, le_ii, gt_ii, ge_ii, is_n, isn_n, is_b, isn_b, add_ii, sub_ii, mul_ii, mod_ii, fdiv_ii, pow_ii, isNon, biD, intD_i, intD_b, esLen, beq_self_eq_true, ixD_tup, lsOf_new, seqD_tup, seqD_fl, slD_tup, bools, Option.map_some, true_and, ixD_fl, lenD_tup, lenD_fl, ix30, ix31, ix32, at20, at21, at30, at31, at32, List.filterMap_cons, List.filterMap_nil]
      exact br_if (fun h => by rw [h] at hq; exact hq) fun h => by rw [h] at hq; exact hq
  | bl i => exact br_t.mpr (br_t.mpr hq)
  | _ => exact br_f.mpr hq
/-- divisor(one, other) -/
def spGcd : Sp := fun ds S Q _ => ∃ a b : Int, ds = [.int a, .int b] ∧ Q (.int (Int.gcd a b : Nat)) S
theorem abs_ite (a : Int) : (if a < 0 then -a else a) = (a.natAbs : Int) := by split <;> omega
theorem txt_gcd {G : Gm} {ds : List D} {S0 : Sto} {Q : VK} {X : XK} {b : Ss} (hb : b = (.cons (.par 2 3 (.bi .abs (.cons (.v 0) .nil)) (.bi .abs (.cons (.v 1) .nil))) (.cons (.while_ (.cmp .ne (.v 3) (.k (.int 0))) (.cons (.set (.v 4) (.bin .mod (.v 2) (.v 3))) (.cons (.set (.v 2) (.v 3)) (.cons (.set (.v 3) (.v 4)) .nil)))) (.cons (.ret (.v 2)) .nil)))) (h : spGcd ds S0 Q X) : ds.length = 2 ∧ wpSs G b (start 5 ds) S0 (kR Q X) := by
  obtain ⟨x, y, rfl, hq⟩ := h
  subst hb
  refine ⟨rfl, ?_⟩
  simp only [wpSs, wpS, wpE, wpEs, wpC, wpAnd, wpOr, wpO, wpIt, opt_some, onI_int, onB_bl, onR_ref, arg1_one, look, joinO, start, List.map_cons, List.map_nil, List.length_cons, List.length_nil, List.replicate, List.cons_append, List.nil_append, List.append_nil, List.getElem?_cons_succ, List.getElem?_cons_zero, kcD, Nat.reduceAdd, Nat.reduceSub, br_t, br_f, br_n, asg, setAll, List.set_cons_succ, List.set_cons_zero, tgs, wipe, eq_ii, ne_ii, lt_ii, le_ii, gt_ii, ge_ii, is_n, isn_n, is_b, isn_b, add_ii, sub_ii, mul_ii, mod_ii, fdiv_ii, pow_ii, isNon, biD, intD_i, intD_b, esLen, beq_self_eq_true, ixD_tup, lsOf_new, seqD_tup, seqD_fl, slD_tup, bools, Option.map_some, true_and, ixD_fl, lenD_tup, lenD_fl, ix30, ix31, ix32, at20, at21, at30, at31, at32, List.filterMap_cons, List.filterMap_nil, abs_ite]
  have run : ∀ (n : Nat) (u v : Nat) (z : Option D), v ≤ n → Nat.gcd u v = Int.gcd x y → ∃ m, whileN (fun ρ1 S1 nx => wpE G (.cmp .ne (.v 3) (.k (.int 0))) ρ1 S1 (fun x S2 => onB x fun k => br k (wpSs G (.cons (.set (.v 4) (.bin .mod (.v 2) (.v 3))) (.cons (.set (.v 2) (.v 3)) (.cons (.set (.v 3) (.v 4)) .nil))) ρ1 S2 { nx := nx, rt := Q, bk := fun ρ1 S1 => wpSs G (.cons (.ret (.v 2)) .nil) ρ1 S1 (kR Q X), xe := fun k fs _ S' => X k fs S' }) (wpSs G (.cons (.ret (.v 2)) .nil) ρ1 S2 (kR Q X))) (fun k fs S2 => X k fs S2)) m [some (.int x), some (.int y), some (.int u), some (.int v), z] S0 := by
    intro n
    induction n with
    | zero =>
      intro u v z hv hg
      have e : v = 0 := by omega
      subst e
      refine ⟨1, ?_⟩
      rw [Nat.gcd_zero_right] at hg
      simp only [whileN, wpSs, wpS, wpE, wpEs, wpC, wpAnd, wpOr, wpO, wpIt, opt_some, onI_int, onB_bl, onR_ref, arg1_one, look, joinO, start, List.map_cons, List.map_nil, List.length_cons, List.length_nil, List.replicate, List.cons_append, List.nil_append, List.append_nil, List.getElem?_cons_succ, List.getElem?_cons_zero, kcD, Nat.reduceAdd, Nat.reduceSub, br_t, br_f, br_n, asg, setAll, List.set_cons_succ, List.set_cons_zero, tgs, wipe, eq_ii, ne_ii, lt_ii, le_ii, gt_ii, ge_ii, is_n, isn_n, is_b, isn_b, add_ii, sub_ii, mul_ii, mod_ii, fdiv_ii, pow_ii, isNon, biD, intD_i, intD_b, esLen, beq_self_eq_true, ixD_tup, lsOf_new, seqD_tup, seqD_fl, slD_tup, bools, Option.map_some, true_and, ixD_fl, lenD_tup, lenD_fl, ix30, ix31, ix32, at20, at21, at30, at31, at32, List.filterMap_cons, List.filterMap_nil]
      rw [hg]
      exact br_t.mpr hq
    | succ n ih =>
      intro u v z hv hg
      by_cases h0 : v = 0
      · subst h0
        refine ⟨1, ?_⟩
        rw [Nat.gcd_zero_right] at hg
        simp only [whileN, wpSs, wpS, wpE, wpEs, wpC, wpAnd, wpOr, wpO, wpIt, opt_some, onI_int, onB_bl, onR_ref, arg1_one, look, joinO, start, List.map_cons, List.map_nil, List.length_cons, List.length_nil, List.replicate, List.cons_append, List.nil_append, List.append_nil, List.getElem?_cons_succ, List.getElem?_cons_zero, kcD, Nat.reduceAdd, Nat.reduceSub, br_t, br_f, br_n, asg, setAll, List.set_cons_succ, List.set_cons_zero, tgs, wipe, eq_ii, ne_ii, lt_ii, le_ii, gt_ii, ge_ii, is_n, isn_n, is_b, isn_b, add_ii, sub_ii, mul_ii, mod_ii, fdiv_ii, pow_ii, isNon, biD, intD_i, intD_b, esLen, beq_self_eq_true, ixD_tup, lsOf_new, seqD_tup, seqD_fl, slD_tup, bools, Option.map_some, true_and, ixD_fl, lenD_tup, lenD_fl, ix30, ix31, ix32, at20, at21, at30, at31, at32, List.filterMap_cons, List.filterMap_nil]
        rw [hg]
        exact br_t.mpr hq
      · obtain ⟨m, hm⟩ := ih v (u % v) (some (.int ((u % v : Nat) : Int))) (by have := Nat.mod_lt u (y := v) (by omega); omega) (by rw [← hg, Nat.gcd_comm, ← Nat.gcd_rec, Nat.gcd_comm])
        refine ⟨m + 1, ?_⟩
        have hb : ((v : Int) == 0) = false := by simp; omega
        have hf : Int.fmod (u : Int) (v : Int) = ((u % v : Nat) : Int) := by rw [fmod_pos (by omega)]; rfl
        simp only [whileN, wpSs, wpS, wpE, wpEs, wpC, wpAnd, wpOr, wpO, wpIt, opt_some, onI_int, onB_bl, onR_ref, arg1_one, look, joinO, start, List.map_cons, List.map_nil, List.length_cons, List.length_nil, List.replicate, List.cons_append, List.nil_append, List.append_nil, List.getElem?_cons_succ, List.getElem?_cons_zero, kcD, Nat.reduceAdd, Nat.reduceSub, br_t, br_f, br_n, asg, setAll, List.set_cons_succ, List.set_cons_zero, tgs, wipe, eq_ii, ne_ii, lt_ii, le_ii, gt_ii, ge_ii, is_n, isn_n, is_b, isn_b, add_ii, sub_ii, mul_ii, mod_ii, fdiv_ii, pow_ii, isNon, biD, intD_i, intD_b, esLen, beq_self_eq_true, ixD_tup, lsOf_new, seqD_tup, seqD_fl, slD_tup, bools, Option.map_some, true_and, ixD_fl, lenD_tup, lenD_fl, ix30, ix31, ix32, at20, at21, at30, at31, at32, List.filterMap_cons, List.filterMap_nil, hb, hf]
        simp only [wpSs, wpS, wpE, wpEs, wpC, wpAnd, wpOr, wpO, wpIt, opt_some, onI_int, onB_bl, onR_ref, arg1_one, look, joinO, start, List.map_cons, List.map_nil, List.length_cons, List.length_nil, List.replicate, List.cons_append, List.nil_append, List.append_nil, List.getElem?_cons_succ, List.getElem?_cons_zero, kcD, Nat.reduceAdd, Nat.reduceSub, br_t, br_f, br_n, asg, setAll, List.set_cons_succ, List.set_cons_zero, tgs, wipe, eq_ii, ne_ii, lt_ii, le_ii, gt_ii, ge_ii, is_n, isn_n, is_b, isn_b, add_ii, sub_ii, mul_ii, mod_ii, fdiv_ii, pow_ii, isNon, biD, intD_i, intD_b, esLen, beq_self_eq_true, ixD_tup, lsOf_new, seqD_tup, seqD_fl, slD_tup, bools, Option.map_some, true_and, ixD_fl, lenD_tup, lenD_fl, ix30, ix31, ix32, at20, at21, at30, at31, at32, List.filterMap_cons, List.filterMap_nil] at hm
        first
          | exact ⟨by omega, hm⟩
          | exact br_f.mpr (show _ ∧ _ from ⟨by omega, hm⟩)
  obtain ⟨m, hm⟩ := run _ x.natAbs y.natAbs none (Nat.le_refl _) rfl
  simp only [wpSs, wpS, wpE, wpEs, wpC, wpAnd, wpOr, wpO, wpIt, opt_some, onI_int, onB_bl, onR_ref, arg1_one, look, joinO, start, List.map_cons, List.map_nil, List.length_cons, List.length_nil, List.replicate, List.cons_append, List.nil_append, List.append_nil, List.getElem?_cons_succ, List.getElem?_cons_zero, kcD, Nat.reduceAdd, Nat.reduceSub, br_t, br_f, br_n, asg, setAll, List.set_cons_succ, List.set_cons_zero, tgs, wipe, eq_ii, ne_ii, lt_ii, le_ii, gt_ii, ge_ii, is_n, isn_n, is_b, isn_b, add_ii, sub_ii, mul_ii, mod_ii, fdiv_ii, pow_ii, isNon, biD, intD_i, intD_b, esLen, beq_self_eq_true, ixD_tup, lsOf_new, seqD_tup, seqD_fl, slD_tup, bools, Option.map_some, true_and, ixD_fl, lenD_tup, lenD_fl, ix30, ix31, ix32, at20, at21, at30, at31, at32, List.filterMap_cons, List.filterMap_nil] at hm
  exact ⟨m, hm⟩
end M
namespace M
/-- a value whose types are known, one deep -/
def Vl (S : Sto) (v : D) : Prop := Kn S v ∧ ∀ xs, v = .tup xs → ∀ y ∈ xs, Kn S y
theorem Kn.ext {S S' : Sto} {v : D} (h : Kn S v) (k : Ext S S') : Kn S' v := by
  cases v with
  | ref a => obtain ⟨o, e⟩ := h; exact ⟨o, k _ _ e⟩
  | xn _ _ => exact h
  | _ => trivial
theorem Vl.ext {S S' : Sto} {v : D} (h : Vl S v) (k : Ext S S') : Vl S' v := ⟨h.1.ext k, fun xs e y hy => (h.2 xs e y hy).ext k⟩
theorem isT_of {v : D} (h : isT v = true) : ∃ xs, v = .tup xs := by
  cases v <;> first | exact ⟨_, rfl⟩ | cases h
theorem len2 {α : Type} {xs : List α} (h : (((xs.length : Nat) : Int) == 2) = true) : ∃ x y, xs = [x, y] := by
  have h : ((xs.length : Nat) : Int) = 2 := by simpa using h
  match xs, h with
  | [x, y], _ => exact ⟨x, y, rfl⟩
  | [], h => simp at h
  | [_], h => simp at h
  | _ :: _ :: _ :: _, h => simp at h; omega
theorem len4 {α : Type} {xs : List α} (h : (((xs.length : Nat) : Int) == 4) = true) : ∃ x y z u, xs = [x, y, z, u] := by
  have h : ((xs.length : Nat) : Int) = 4 := by simpa using h
  match xs, h with
  | [x, y, z, u], _ => exact ⟨x, y, z, u, rfl⟩
  | [], h => simp at h
  | [_], h => simp at h
  | [_, _], h => simp at h
  | [_, _, _], h => simp at h
  | _ :: _ :: _ :: _ :: _ :: _, h => simp at h; omega
def tabL : List D → Bool
  | [x, y] => intB x (some 1) none && intB y (some 1) none
  | _ => false
/-- is it a table -/
def tabB : D → Bool
  | .tup xs => tabL xs
  | _ => false
theorem tabL_len {xs : List D} (h : (((xs.length : Nat) : Int) == 2) = false) : tabL xs = false := by
  unfold tabL
  split
  · simp at h
  · rfl
def spTab : Sp := fun ds S Q _ => ∃ v, ds = [v] ∧ Vl S v ∧ ∀ S', Ext S S' → Q (.bl (tabB v)) S'
theorem txt_tab {G : Gm} {ds : List D} {S0 : Sto} {Q : VK} {X : XK} {b : Ss} (hb : b = (.cons (.ret (.and (.isi (.v 0) .tuple) (.cons (.cmp .eq (.bi .len (.cons (.v 0) .nil)) (.k (.int 2))) (.cons (.bi .all (.cons (.comp (.call 0 (.cons (.v 1) (.cons (.k (.int 1)) (.cons (.k .non) .nil)))) (.v 1) (.seq (.v 0)) .none) .nil)) .nil)))) .nil)) (h0 : G.fn 0 = spInt) (h : spTab ds S0 Q X) : ds.length = 1 ∧ wpSs G b (start 2 ds) S0 (kR Q X) := by
  obtain ⟨v, rfl, hv, hq⟩ := h
  subst hb
  refine ⟨rfl, ?_⟩
  simp only [wpSs, wpS, wpE, wpEs, wpC, wpAnd, wpOr, wpO, wpIt, opt_some, onI_int, onB_bl, onR_ref, arg1_one, look, joinO, start, List.map_cons, List.map_nil, List.length_cons, List.length_nil, List.replicate, List.cons_append, List.nil_append, List.append_nil, List.getElem?_cons_succ, List.getElem?_cons_zero, kcD, Nat.reduceAdd, Nat.reduceSub, br_t, br_f, br_n, asg, setAll, List.set_cons_succ, List.set_cons_zero, tgs, wipe, eq_ii, ne_ii, lt_ii, le_ii, gt_ii, ge_ii, is_n, isn_n, is_b, isn_b, add_ii, sub_ii, mul_ii, mod_ii, fdiv_ii, pow_ii, isNon, biD, intD_i, intD_b, esLen, beq_self_eq_true, ixD_tup, lsOf_new, seqD_tup, seqD_fl, slD_tup, bools, Option.map_some, true_and, ixD_fl, lenD_tup, lenD_fl, ix30, ix31, ix32, at20, at21, at30, at31, at32, List.filterMap_cons, List.filterMap_nil, ty_tuple hv.1]
  refine br_if (fun hT => ?_) fun hT => ?_
  · obtain ⟨xs, rfl⟩ := isT_of hT
    have hx := hv.2 xs rfl
    simp only [wpSs, wpS, wpE, wpEs, wpC, wpAnd, wpOr, wpO, wpIt, opt_some, onI_int, onB_bl, onR_ref, arg1_one, look, joinO, start, List.map_cons, List.map_nil, List.length_cons, List.length_nil, List.replicate, List.cons_append, List.nil_append, List.append_nil, List.getElem?_cons_succ, List.getElem?_cons_zero, kcD, Nat.reduceAdd, Nat.reduceSub, br_t, br_f, br_n, asg, setAll, List.set_cons_succ, List.set_cons_zero, tgs, wipe, eq_ii, ne_ii, lt_ii, le_ii, gt_ii, ge_ii, is_n, isn_n, is_b, isn_b, add_ii, sub_ii, mul_ii, mod_ii, fdiv_ii, pow_ii, isNon, biD, intD_i, intD_b, esLen, beq_self_eq_true, ixD_tup, lsOf_new, seqD_tup, seqD_fl, slD_tup, bools, Option.map_some, true_and, ixD_fl, lenD_tup, lenD_fl, ix30, ix31, ix32, at20, at21, at30, at31, at32, List.filterMap_cons, List.filterMap_nil]
    refine br_if (fun hl => ?_) fun hl => ?_
    · obtain ⟨x, y, rfl⟩ := len2 hl
      simp only [wpSs, wpS, wpE, wpEs, wpC, wpAnd, wpOr, wpO, wpIt, opt_some, onI_int, onB_bl, onR_ref, arg1_one, look, joinO, start, List.map_cons, List.map_nil, List.length_cons, List.length_nil, List.replicate, List.cons_append, List.nil_append, List.append_nil, List.getElem?_cons_succ, List.getElem?_cons_zero, kcD, Nat.reduceAdd, Nat.reduceSub, br_t, br_f, br_n, asg, setAll, List.set_cons_succ, List.set_cons_zero, tgs, wipe, eq_ii, ne_ii, lt_ii, le_ii, gt_ii, ge_ii, is_n, isn_n, is_b, isn_b, add_ii, sub_ii, mul_ii, mod_ii, fdiv_ii, pow_ii, isNon, biD, intD_i, intD_b, esLen, beq_self_eq_true, ixD_tup, lsOf_new, seqD_tup, seqD_fl, slD_tup, bools, Option.map_some, true_and, ixD_fl, lenD_tup, lenD_fl, ix30, ix31, ix32, at20, at21, at30, at31, at32, List.filterMap_cons, List.filterMap_nil, compW]
      refine ⟨len_lim (by decide), ?_⟩
      refine call h0 ⟨x, some 1, none, rfl, hx x (by simp), ?_⟩
      try simp only [wpSs, wpS, wpE, wpEs, wpC, wpAnd, wpOr, wpO, wpIt, opt_some, onI_int, onB_bl, onR_ref, arg1_one, look, joinO, start, List.map_cons, List.map_nil, List.length_cons, List.length_nil, List.replicate, List.cons_append, List.nil_append, List.append_nil, List.getElem?_cons_succ, List.getElem?_cons_zero, kcD, Nat.reduceAdd, Nat.reduceSub, br_t, br_f, br_n, asg, setAll, List.set_cons_succ, List.set_cons_zero, tgs, wipe, eq_ii, ne_ii, lt_ii, le_ii, gt_ii, ge_ii, is_n, isn_n, is_b, isn_b, add_ii, sub_ii, mul_ii, mod_ii, fdiv_ii, pow_ii, isNon, biD, intD_i, intD_b, esLen, beq_self_eq_true, ixD_tup, lsOf_new, seqD_tup, seqD_fl, slD_tup, bools, Option.map_some, true_and, ixD_fl, lenD_tup, lenD_fl, ix30, ix31, ix32, at20, at21, at30, at31, at32, List.filterMap_cons, List.filterMap_nil, compW]
      refine call h0 ⟨y, some 1, none, rfl, hx y (by simp), ?_⟩
      try simp only [wpSs, wpS, wpE, wpEs, wpC, wpAnd, wpOr, wpO, wpIt, opt_some, onI_int, onB_bl, onR_ref, arg1_one, look, joinO, start, List.map_cons, List.map_nil, List.length_cons, List.length_nil, List.replicate, List.cons_append, List.nil_append, List.append_nil, List.getElem?_cons_succ, List.getElem?_cons_zero, kcD, Nat.reduceAdd, Nat.reduceSub, br_t, br_f, br_n, asg, setAll, List.set_cons_succ, List.set_cons_zero, tgs, wipe, eq_ii, ne_ii, lt_ii, le_ii, gt_ii, ge_ii, is_n, isn_n, is_b, isn_b, add_ii, sub_ii, mul_ii, mod_ii, fdiv_ii, pow_ii, isNon, biD, intD_i, intD_b, esLen, beq_self_eq_true, ixD_tup, lsOf_new, seqD_tup, seqD_fl, slD_tup, bools, Option.map_some, true_and, ixD_fl, lenD_tup, lenD_fl, ix30, ix31, ix32, at20, at21, at30, at31, at32, List.filterMap_cons, List.filterMap_nil, compW]
      intro p hp
      simp only [wpSs, wpS, wpE, wpEs, wpC, wpAnd, wpOr, wpO, wpIt, opt_some, onI_int, onB_bl, onR_ref, arg1_one, look, joinO, start, List.map_cons, List.map_nil, List.length_cons, List.length_nil, List.replicate, List.cons_append, List.nil_append, List.append_nil, List.getElem?_cons_succ, List.getElem?_cons_zero, kcD, Nat.reduceAdd, Nat.reduceSub, br_t, br_f, br_n, asg, setAll, List.set_cons_succ, List.set_cons_zero, tgs, wipe, eq_ii, ne_ii, lt_ii, le_ii, gt_ii, ge_ii, is_n, isn_n, is_b, isn_b, add_ii, sub_ii, mul_ii, mod_ii, fdiv_ii, pow_ii, isNon, biD, intD_i, intD_b, esLen, beq_self_eq_true, ixD_tup, lsOf_new, seqD_tup, seqD_fl, slD_tup, bools, Option.map_some, true_and, ixD_fl, lenD_tup, lenD_fl, ix30, ix31, ix32, at20, at21, at30, at31, at32, List.filterMap_cons, List.filterMap_nil, Option.toList]
      have e := hq _ (Ext.new (o := .lst [.bl (intB x (some 1) none), .bl (intB y (some 1) none)]) hp)
      simpa [tabB, tabL] using e
    · have e : tabB (.tup xs) = false := tabL_len hl
      rw [e] at hq
      exact hq S0 Ext.refl
  · have e : tabB v = false := by cases v <;> first | rfl | cases hT
    rw [e] at hq
    exact hq S0 Ext.refl
def int0 : D → Int
  | .int i => i
  | _ => 0
def freeL : List D → Bool
  | [x, y, z, u] => (isI x && isI y && isI z && isI u) && (decide (0 ≤ int0 x) && decide (0 ≤ int0 y) && !(int0 z == 0 && int0 u == 0))
  | _ => false
/-- is it a free shot -/
def freeB : D → Bool
  | .tup xs => freeL xs
  | _ => false
theorem freeL_len {xs : List D} (h : (((xs.length : Nat) : Int) == 4) = false) : freeL xs = false := by
  unfold freeL
  split
  · simp at h
  · rfl
theorem intB_none {v : D} : intB v none none = isI v := by cases v <;> rfl
theorem isI_of {v : D} (h : isI v = true) : ∃ i, v = .int i := by cases v <;> first | exact ⟨_, rfl⟩ | cases h
def spFree : Sp := fun ds S Q _ => ∃ v, ds = [v] ∧ Vl S v ∧ ∀ S', Ext S S' → Q (.bl (freeB v)) S'
theorem txt_free {G : Gm} {ds : List D} {S0 : Sto} {Q : VK} {X : XK} {b : Ss} (hb : b = (.cons (.if_ (.or (.not (.isi (.v 0) .tuple)) (.cons (.cmp .ne (.bi .len (.cons (.v 0) .nil)) (.k (.int 4))) (.cons (.not (.bi .all (.cons (.comp (.call 0 (.cons (.v 1) (.cons (.k .non) (.cons (.k .non) .nil)))) (.v 1) (.seq (.v 0)) .none) .nil))) .nil))) (.cons (.ret (.k (.bl false))) .nil) .nil) (.cons (.ret (.and (.cmp .ge (.ix (.v 0) (.k (.int 0))) (.k (.int 0))) (.cons (.cmp .ge (.ix (.v 0) (.k (.int 1))) (.k (.int 0))) (.cons (.cmp .ne (.sl (.v 0) (.some (.k (.int 2))) .none) (.tup (.cons (.k (.int 0)) (.cons (.k (.int 0)) .nil)))) .nil)))) .nil))) (h0 : G.fn 0 = spInt) (h : spFree ds S0 Q X) : ds.length = 1 ∧ wpSs G b (start 2 ds) S0 (kR Q X) := by
  obtain ⟨v, rfl, hv, hq⟩ := h
  subst hb
  refine ⟨rfl, ?_⟩
  simp only [wpSs, wpS, wpE, wpEs, wpC, wpAnd, wpOr, wpO, wpIt, opt_some, onI_int, onB_bl, onR_ref, arg1_one, look, joinO, start, List.map_cons, List.map_nil, List.length_cons, List.length_nil, List.replicate, List.cons_append, List.nil_append, List.append_nil, List.getElem?_cons_succ, List.getElem?_cons_zero, kcD, Nat.reduceAdd, Nat.reduceSub, br_t, br_f, br_n, asg, setAll, List.set_cons_succ, List.set_cons_zero, tgs, wipe, eq_ii, ne_ii, lt_ii, le_ii, gt_ii, ge_ii, is_n, isn_n, is_b, isn_b, add_ii, sub_ii, mul_ii, mod_ii, fdiv_ii, pow_ii, isNon, biD, intD_i, intD_b, esLen, beq_self_eq_true, ixD_tup, lsOf_new, seqD_tup, seqD_fl, slD_tup, bools, Option.map_some, true_and, ixD_fl, lenD_tup, lenD_fl, ix30, ix31, ix32, at20, at21, at30, at31, at32, List.filterMap_cons, List.filterMap_nil, ty_tuple hv.1]
  refine br_if (fun hT => ?_) fun hT => ?_
  · obtain ⟨xs, rfl⟩ := isT_of hT
    have hx := hv.2 xs rfl
    simp only [wpSs, wpS, wpE, wpEs, wpC, wpAnd, wpOr, wpO, wpIt, opt_some, onI_int, onB_bl, onR_ref, arg1_one, look, joinO, start, List.map_cons, List.map_nil, List.length_cons, List.length_nil, List.replicate, List.cons_append, List.nil_append, List.append_nil, List.getElem?_cons_succ, List.getElem?_cons_zero, kcD, Nat.reduceAdd, Nat.reduceSub, br_t, br_f, br_n, asg, setAll, List.set_cons_succ, List.set_cons_zero, tgs, wipe, eq_ii, ne_ii, lt_ii, le_ii, gt_ii, ge_ii, is_n, isn_n, is_b, isn_b, add_ii, sub_ii, mul_ii, mod_ii, fdiv_ii, pow_ii, isNon, biD, intD_i, intD_b, esLen, beq_self_eq_true, ixD_tup, lsOf_new, seqD_tup, seqD_fl, slD_tup, bools, Option.map_some, true_and, ixD_fl, lenD_tup, lenD_fl, ix30, ix31, ix32, at20, at21, at30, at31, at32, List.filterMap_cons, List.filterMap_nil]
    refine br_if (fun hl => ?_) fun hl => ?_
    · obtain ⟨x, y, z, u, rfl⟩ := len4 hl
      simp only [wpSs, wpS, wpE, wpEs, wpC, wpAnd, wpOr, wpO, wpIt, opt_some, onI_int, onB_bl, onR_ref, arg1_one, look, joinO, start, List.map_cons, List.map_nil, List.length_cons, List.length_nil, List.replicate, List.cons_append, List.nil_append, List.append_nil, List.getElem?_cons_succ, List.getElem?_cons_zero, kcD, Nat.reduceAdd, Nat.reduceSub, br_t, br_f, br_n, asg, setAll, List.set_cons_succ, List.set_cons_zero, tgs, wipe, eq_ii, ne_ii, lt_ii, le_ii, gt_ii, ge_ii, is_n, isn_n, is_b, isn_b, add_ii, sub_ii, mul_ii, mod_ii, fdiv_ii, pow_ii, isNon, biD, intD_i, intD_b, esLen, beq_self_eq_true, ixD_tup, lsOf_new, seqD_tup, seqD_fl, slD_tup, bools, Option.map_some, true_and, ixD_fl, lenD_tup, lenD_fl, ix30, ix31, ix32, at20, at21, at30, at31, at32, List.filterMap_cons, List.filterMap_nil, compW]
      refine ⟨len_lim (by decide), ?_⟩
      refine call h0 ⟨x, none, none, rfl, hx x (by simp), ?_⟩
      try simp only [wpSs, wpS, wpE, wpEs, wpC, wpAnd, wpOr, wpO, wpIt, opt_some, onI_int, onB_bl, onR_ref, arg1_one, look, joinO, start, List.map_cons, List.map_nil, List.length_cons, List.length_nil, List.replicate, List.cons_append, List.nil_append, List.append_nil, List.getElem?_cons_succ, List.getElem?_cons_zero, kcD, Nat.reduceAdd, Nat.reduceSub, br_t, br_f, br_n, asg, setAll, List.set_cons_succ, List.set_cons_zero, tgs, wipe, eq_ii, ne_ii, lt_ii, le_ii, gt_ii, ge_ii, is_n, isn_n, is_b, isn_b, add_ii, sub_ii, mul_ii, mod_ii, fdiv_ii, pow_ii, isNon, biD, intD_i, intD_b, esLen, beq_self_eq_true, ixD_tup, lsOf_new, seqD_tup, seqD_fl, slD_tup, bools, Option.map_some, true_and, ixD_fl, lenD_tup, lenD_fl, ix30, ix31, ix32, at20, at21, at30, at31, at32, List.filterMap_cons, List.filterMap_nil, compW]
      refine call h0 ⟨y, none, none, rfl, hx y (by simp), ?_⟩
      try simp only [wpSs, wpS, wpE, wpEs, wpC, wpAnd, wpOr, wpO, wpIt, opt_some, onI_int, onB_bl, onR_ref, arg1_one, look, joinO, start, List.map_cons, List.map_nil, List.length_cons, List.length_nil, List.replicate, List.cons_append, List.nil_append, List.append_nil, List.getElem?_cons_succ, List.getElem?_cons_zero, kcD, Nat.reduceAdd, Nat.reduceSub, br_t, br_f, br_n, asg, setAll, List.set_cons_succ, List.set_cons_zero, tgs, wipe, eq_ii, ne_ii, lt_ii, le_ii, gt_ii, ge_ii, is_n, isn_n, is_b, isn_b, add_ii, sub_ii, mul_ii, mod_ii, fdiv_ii, pow_ii, isNon, biD, intD_i, intD_b, esLen, beq_self_eq_true, ixD_tup, lsOf_new, seqD_tup, seqD_fl, slD_tup, bools, Option.map_some, true_and, ixD_fl, lenD_tup, lenD_fl, ix30, ix31, ix32, at20, at21, at30, at31, at32, List.filterMap_cons, List.filterMap_nil, compW]
      refine call h0 ⟨z, none, none, rfl, hx z (by simp), ?_⟩
      try simp only [wpSs, wpS, wpE, wpEs, wpC, wpAnd, wpOr, wpO, wpIt, opt_some, onI_int, onB_bl, onR_ref, arg1_one, look, joinO, start, List.map_cons, List.map_nil, List.length_cons, List.length_nil, List.replicate, List.cons_append, List.nil_append, List.append_nil, List.getElem?_cons_succ, List.getElem?_cons_zero, kcD, Nat.reduceAdd, Nat.reduceSub, br_t, br_f, br_n, asg, setAll, List.set_cons_succ, List.set_cons_zero, tgs, wipe, eq_ii, ne_ii, lt_ii, le_ii, gt_ii, ge_ii, is_n, isn_n, is_b, isn_b, add_ii, sub_ii, mul_ii, mod_ii, fdiv_ii, pow_ii, isNon, biD, intD_i, intD_b, esLen, beq_self_eq_true, ixD_tup, lsOf_new, seqD_tup, seqD_fl, slD_tup, bools, Option.map_some, true_and, ixD_fl, lenD_tup, lenD_fl, ix30, ix31, ix32, at20, at21, at30, at31, at32, List.filterMap_cons, List.filterMap_nil, compW]
      refine call h0 ⟨u, none, none, rfl, hx u (by simp), ?_⟩
      try simp only [wpSs, wpS, wpE, wpEs, wpC, wpAnd, wpOr, wpO, wpIt, opt_some, onI_int, onB_bl, onR_ref, arg1_one, look, joinO, start, List.map_cons, List.map_nil, List.length_cons, List.length_nil, List.replicate, List.cons_append, List.nil_append, List.append_nil, List.getElem?_cons_succ, List.getElem?_cons_zero, kcD, Nat.reduceAdd, Nat.reduceSub, br_t, br_f, br_n, asg, setAll, List.set_cons_succ, List.set_cons_zero, tgs, wipe, eq_ii, ne_ii, lt_ii, le_ii, gt_ii, ge_ii, is_n, isn_n, is_b, isn_b, add_ii, sub_ii, mul_ii, mod_ii, fdiv_ii, pow_ii, isNon, biD, intD_i, intD_b, esLen, beq_self_eq_true, ixD_tup, lsOf_new, seqD_tup, seqD_fl, slD_tup, bools, Option.map_some, true_and, ixD_fl, lenD_tup, lenD_fl, ix30, ix31, ix32, at20, at21, at30, at31, at32, List.filterMap_cons, List.filterMap_nil, compW]
      intro p hp
      simp only [wpSs, wpS, wpE, wpEs, wpC, wpAnd, wpOr, wpO, wpIt, opt_some, onI_int, onB_bl, onR_ref, arg1_one, look, joinO, start, List.map_cons, List.map_nil, List.length_cons, List.length_nil, List.replicate, List.cons_append, List.nil_append, List.append_nil, List.getElem?_cons_succ, List.getElem?_cons_zero, kcD, Nat.reduceAdd, Nat.reduceSub, br_t, br_f, br_n, asg, setAll, List.set_cons_succ, List.set_cons_zero, tgs, wipe, eq_ii, ne_ii, lt_ii, le_ii, gt_ii, ge_ii, is_n, isn_n, is_b, isn_b, add_ii, sub_ii, mul_ii, mod_ii, fdiv_ii, pow_ii, isNon, biD, intD_i, intD_b, esLen, beq_self_eq_true, ixD_tup, lsOf_new, seqD_tup, seqD_fl, slD_tup, bools, Option.map_some, true_and, ixD_fl, lenD_tup, lenD_fl, ix30, ix31, ix32, at20, at21, at30, at31, at32, List.filterMap_cons, List.filterMap_nil, Option.toList, intB_none, List.all_cons, List.all_nil, id, Bool.and_true]
      have ex := Ext.new (o := .lst [.bl (isI x), .bl (isI y), .bl (isI z), .bl (isI u)]) hp
      have hq := hq _ ex
      refine br_if (fun ha => ?_) fun ha => ?_
      · simp only [Bool.and_eq_true] at ha
        obtain ⟨a1, a2, a3, a4⟩ := ha
        obtain ⟨i, rfl⟩ := isI_of a1
        obtain ⟨j, rfl⟩ := isI_of a2
        obtain ⟨m, rfl⟩ := isI_of a3
        obtain ⟨n, rfl⟩ := isI_of a4
        have e0 : atI [D.int i, D.int j, D.int m, D.int n] 0 = some (.int i) := rfl
        have e1 : atI [D.int i, D.int j, D.int m, D.int n] 1 = some (.int j) := rfl
        have e2 : cut [D.int i, D.int j, D.int m, D.int n] (some 2) none = [.int m, .int n] := rfl
        simp only [wpSs, wpS, wpE, wpEs, wpC, wpAnd, wpOr, wpO, wpIt, opt_some, onI_int, onB_bl, onR_ref, arg1_one, look, joinO, start, List.map_cons, List.map_nil, List.length_cons, List.length_nil, List.replicate, List.cons_append, List.nil_append, List.append_nil, List.getElem?_cons_succ, List.getElem?_cons_zero, kcD, Nat.reduceAdd, Nat.reduceSub, br_t, br_f, br_n, asg, setAll, List.set_cons_succ, List.set_cons_zero, tgs, wipe, eq_ii, ne_ii, lt_ii, le_ii, gt_ii, ge_ii, is_n, isn_n, is_b, isn_b, add_ii, sub_ii, mul_ii, mod_ii, fdiv_ii, pow_ii, isNon, biD, intD_i, intD_b, esLen, beq_self_eq_true, ixD_tup, lsOf_new, seqD_tup, seqD_fl, slD_tup, bools, Option.map_some, true_and, ixD_fl, lenD_tup, lenD_fl, ix30, ix31, ix32, at20, at21, at30, at31, at32, List.filterMap_cons, List.filterMap_nil, e0, e1, e2]
        have ef : freeB (.tup [.int i, .int j, .int m, .int n]) = (decide (0 ≤ i) && decide (0 ≤ j) && !(m == 0 && n == 0)) := rfl
        rw [ef] at hq
        refine br_if (fun g1 => br_if (fun g2 => ⟨len_lim (by decide), ne_pair.mpr ?_⟩) fun g2 => ?_) fun g1 => ?_
        · rw [g1, g2] at hq; exact hq
        · rw [g1, g2] at hq; exact hq
        · rw [g1] at hq; exact hq
      · have e : freeB (.tup [x, y, z, u]) = false := by
          show ((isI x && isI y && isI z && isI u) && _) = false
          have : (isI x && isI y && isI z && isI u) = false := by
            rw [← ha]; simp [Bool.and_assoc]
          rw [this]; rfl
        rw [e] at hq
        exact hq
    · have e : freeB (.tup xs) = false := freeL_len hl
      rw [e] at hq
      exact hq S0 Ext.refl
  · have e : freeB v = false := by cases v <;> first | rfl | cases hT
    rw [e] at hq
    exact hq S0 Ext.refl
/-- is it a shot on a table of the sides X, Y -/
def rollB (a b : Int) (v : D) : Bool := freeB v && (match v with
  | .tup [x, y, _, _] => decide (int0 x ≤ a) && decide (int0 y ≤ b)
  | _ => false)
theorem free_of {v : D} (h : freeB v = true) : ∃ i j m n, v = .tup [.int i, .int j, .int m, .int n] := by
  cases v with
  | tup xs =>
    have h : freeL xs = true := h
    unfold freeL at h
    split at h
    · simp only [Bool.and_eq_true] at h
      obtain ⟨⟨⟨⟨a1, a2⟩, a3⟩, a4⟩, _⟩ := h
      obtain ⟨i, rfl⟩ := isI_of a1
      obtain ⟨j, rfl⟩ := isI_of a2
      obtain ⟨m, rfl⟩ := isI_of a3
      obtain ⟨n, rfl⟩ := isI_of a4
      exact ⟨i, j, m, n, rfl⟩
    · cases h
  | _ => cases h
/-- is_shot_on(table, value) -/
def spOn : Sp := fun ds S Q _ => ∃ a b v, ds = [.tup [.int a, .int b], v] ∧ Vl S v ∧ ∀ S', Ext S S' → Q (.bl (rollB a b v)) S'
theorem txt_on {G : Gm} {ds : List D} {S0 : Sto} {Q : VK} {X : XK} {b : Ss} (hb : b = (.cons (.ret (.and (.call 11 (.cons (.v 1) .nil)) (.cons (.cmp .le (.ix (.v 1) (.k (.int 0))) (.ix (.v 0) (.k (.int 0)))) (.cons (.cmp .le (.ix (.v 1) (.k (.int 1))) (.ix (.v 0) (.k (.int 1)))) .nil)))) .nil)) (h3 : G.fn 11 = spFree) (h : spOn ds S0 Q X) : ds.length = 2 ∧ wpSs G b (start 2 ds) S0 (kR Q X) := by
  obtain ⟨a, b2, v, rfl, hv, hq⟩ := h
  subst hb
  refine ⟨rfl, ?_⟩
  simp only [wpSs, wpS, wpE, wpEs, wpC, wpAnd, wpOr, wpO, wpIt, opt_some, onI_int, onB_bl, onR_ref, arg1_one, look, joinO, start, List.map_cons, List.map_nil, List.length_cons, List.length_nil, List.replicate, List.cons_append, List.nil_append, List.append_nil, List.getElem?_cons_succ, List.getElem?_cons_zero, kcD, Nat.reduceAdd, Nat.reduceSub, br_t, br_f, br_n, asg, setAll, List.set_cons_succ, List.set_cons_zero, tgs, wipe, eq_ii, ne_ii, lt_ii, le_ii, gt_ii, ge_ii, is_n, isn_n, is_b, isn_b, add_ii, sub_ii, mul_ii, mod_ii, fdiv_ii, pow_ii, isNon, biD, intD_i, intD_b, esLen, beq_self_eq_true, ixD_tup, lsOf_new, seqD_tup, seqD_fl, slD_tup, bools, Option.map_some, true_and, ixD_fl, lenD_tup, lenD_fl, ix30, ix31, ix32, at20, at21, at30, at31, at32, List.filterMap_cons, List.filterMap_nil]
  refine call h3 ⟨v, rfl, hv, fun S1 k1 => ?_⟩
  have hq := hq S1 k1
  unfold rollB at hq
  simp only [wpSs, wpS, wpE, wpEs, wpC, wpAnd, wpOr, wpO, wpIt, opt_some, onI_int, onB_bl, onR_ref, arg1_one, look, joinO, start, List.map_cons, List.map_nil, List.length_cons, List.length_nil, List.replicate, List.cons_append, List.nil_append, List.append_nil, List.getElem?_cons_succ, List.getElem?_cons_zero, kcD, Nat.reduceAdd, Nat.reduceSub, br_t, br_f, br_n, asg, setAll, List.set_cons_succ, List.set_cons_zero, tgs, wipe, eq_ii, ne_ii, lt_ii, le_ii, gt_ii, ge_ii, is_n, isn_n, is_b, isn_b, add_ii, sub_ii, mul_ii, mod_ii, fdiv_ii, pow_ii, isNon, biD, intD_i, intD_b, esLen, beq_self_eq_true, ixD_tup, lsOf_new, seqD_tup, seqD_fl, slD_tup, bools, Option.map_some, true_and, ixD_fl, lenD_tup, lenD_fl, ix30, ix31, ix32, at20, at21, at30, at31, at32, List.filterMap_cons, List.filterMap_nil]
  refine br_if (fun hf => ?_) fun hf => ?_
  · obtain ⟨i, j, m, n, rfl⟩ := free_of hf
    have e0 : atI [D.int i, D.int j, D.int m, D.int n] 0 = some (.int i) := rfl
    have e1 : atI [D.int i, D.int j, D.int m, D.int n] 1 = some (.int j) := rfl
    rw [hf] at hq
    have hq : Q (.bl (decide (i ≤ a) && decide (j ≤ b2))) S1 := hq
    simp only [wpSs, wpS, wpE, wpEs, wpC, wpAnd, wpOr, wpO, wpIt, opt_some, onI_int, onB_bl, onR_ref, arg1_one, look, joinO, start, List.map_cons, List.map_nil, List.length_cons, List.length_nil, List.replicate, List.cons_append, List.nil_append, List.append_nil, List.getElem?_cons_succ, List.getElem?_cons_zero, kcD, Nat.reduceAdd, Nat.reduceSub, br_t, br_f, br_n, asg, setAll, List.set_cons_succ, List.set_cons_zero, tgs, wipe, eq_ii, ne_ii, lt_ii, le_ii, gt_ii, ge_ii, is_n, isn_n, is_b, isn_b, add_ii, sub_ii, mul_ii, mod_ii, fdiv_ii, pow_ii, isNon, biD, intD_i, intD_b, esLen, beq_self_eq_true, ixD_tup, lsOf_new, seqD_tup, seqD_fl, slD_tup, bools, Option.map_some, true_and, ixD_fl, lenD_tup, lenD_fl, ix30, ix31, ix32, at20, at21, at30, at31, at32, List.filterMap_cons, List.filterMap_nil, e0, e1]
    refine br_if (fun g => ?_) fun g => ?_
    · rw [g] at hq; exact hq
    · rw [g] at hq; exact hq
  · rw [hf] at hq
    exact hq
def partL : List D → Bool
  | [x, y] => isI x && intB y (some 1) none && (Int.gcd (int0 x) (int0 y) == 1)
  | _ => false
/-- is it a fraction in lowest terms -/
def partB : D → Bool
  | .tup xs => partL xs
  | _ => false
theorem partL_len {xs : List D} (h : (((xs.length : Nat) : Int) == 2) = false) : partL xs = false := by
  unfold partL
  split
  · simp at h
  · rfl
theorem intB_of {v : D} {l : Int} (h : intB v (some l) none = true) : ∃ i, v = .int i ∧ l ≤ i := by
  cases v with
  | int i => exact ⟨i, rfl, by simpa [intB] using h⟩
  | _ => cases h
def spPart : Sp := fun ds S Q _ => ∃ v, ds = [v] ∧ Vl S v ∧ ∀ S', Ext S S' → Q (.bl (partB v)) S'
theorem txt_part {G : Gm} {ds : List D} {S0 : Sto} {Q : VK} {X : XK} {b : Ss} (hb : b = (.cons (.if_ (.or (.not (.isi (.v 0) .tuple)) (.cons (.cmp .ne (.bi .len (.cons (.v 0) .nil)) (.k (.int 2))) (.cons (.not (.call 0 (.cons (.ix (.v 0) (.k (.int 0))) (.cons (.k .non) (.cons (.k .non) .nil))))) .nil))) (.cons (.ret (.k (.bl false))) .nil) .nil) (.cons (.ret (.and (.call 0 (.cons (.ix (.v 0) (.k (.int 1))) (.cons (.k (.int 1)) (.cons (.k .non) .nil)))) (.cons (.cmp .eq (.call 1 (.cons (.ix (.v 0) (.k (.int 0))) (.cons (.ix (.v 0) (.k (.int 1))) .nil))) (.k (.int 1))) .nil))) .nil))) (h0 : G.fn 0 = spInt) (h1 : G.fn 1 = spGcd) (h : spPart ds S0 Q X) : ds.length = 1 ∧ wpSs G b (start 1 ds) S0 (kR Q X) := by
  obtain ⟨v, rfl, hv, hq⟩ := h
  subst hb
  refine ⟨rfl, ?_⟩
  have hq := hq S0 Ext.refl
  simp only [wpSs, wpS, wpE, wpEs, wpC, wpAnd, wpOr, wpO, wpIt, opt_some, onI_int, onB_bl, onR_ref, arg1_one, look, joinO, start, List.map_cons, List.map_nil, List.length_cons, List.length_nil, List.replicate, List.cons_append, List.nil_append, List.append_nil, List.getElem?_cons_succ, List.getElem?_cons_zero, kcD, Nat.reduceAdd, Nat.reduceSub, br_t, br_f, br_n, asg, setAll, List.set_cons_succ, List.set_cons_zero, tgs, wipe, eq_ii, ne_ii, lt_ii, le_ii, gt_ii, ge_ii, is_n, isn_n, is_b, isn_b, add_ii, sub_ii, mul_ii, mod_ii, fdiv_ii, pow_ii, isNon, biD, intD_i, intD_b, esLen, beq_self_eq_true, ixD_tup, lsOf_new, seqD_tup, seqD_fl, slD_tup, bools, Option.map_some, true_and, ixD_fl, lenD_tup, lenD_fl, ix30, ix31, ix32, at20, at21, at30, at31, at32, List.filterMap_cons, List.filterMap_nil, ty_tuple hv.1]
  refine br_if (fun hT => ?_) fun hT => ?_
  · obtain ⟨xs, rfl⟩ := isT_of hT
    have hx := hv.2 xs rfl
    simp only [wpSs, wpS, wpE, wpEs, wpC, wpAnd, wpOr, wpO, wpIt, opt_some, onI_int, onB_bl, onR_ref, arg1_one, look, joinO, start, List.map_cons, List.map_nil, List.length_cons, List.length_nil, List.replicate, List.cons_append, List.nil_append, List.append_nil, List.getElem?_cons_succ, List.getElem?_cons_zero, kcD, Nat.reduceAdd, Nat.reduceSub, br_t, br_f, br_n, asg, setAll, List.set_cons_succ, List.set_cons_zero, tgs, wipe, eq_ii, ne_ii, lt_ii, le_ii, gt_ii, ge_ii, is_n, isn_n, is_b, isn_b, add_ii, sub_ii, mul_ii, mod_ii, fdiv_ii, pow_ii, isNon, biD, intD_i, intD_b, esLen, beq_self_eq_true, ixD_tup, lsOf_new, seqD_tup, seqD_fl, slD_tup, bools, Option.map_some, true_and, ixD_fl, lenD_tup, lenD_fl, ix30, ix31, ix32, at20, at21, at30, at31, at32, List.filterMap_cons, List.filterMap_nil]
    refine br_if (fun hl => ?_) fun hl => ?_
    · obtain ⟨x, y, rfl⟩ := len2 hl
      simp only [wpSs, wpS, wpE, wpEs, wpC, wpAnd, wpOr, wpO, wpIt, opt_some, onI_int, onB_bl, onR_ref, arg1_one, look, joinO, start, List.map_cons, List.map_nil, List.length_cons, List.length_nil, List.replicate, List.cons_append, List.nil_append, List.append_nil, List.getElem?_cons_succ, List.getElem?_cons_zero, kcD, Nat.reduceAdd, Nat.reduceSub, br_t, br_f, br_n, asg, setAll, List.set_cons_succ, List.set_cons_zero, tgs, wipe, eq_ii, ne_ii, lt_ii, le_ii, gt_ii, ge_ii, is_n, isn_n, is_b, isn_b, add_ii, sub_ii, mul_ii, mod_ii, fdiv_ii, pow_ii, isNon, biD, intD_i, intD_b, esLen, beq_self_eq_true, ixD_tup, lsOf_new, seqD_tup, seqD_fl, slD_tup, bools, Option.map_some, true_and, ixD_fl, lenD_tup, lenD_fl, ix30, ix31, ix32, at20, at21, at30, at31, at32, List.filterMap_cons, List.filterMap_nil]
      refine call h0 ⟨x, none, none, rfl, hx x (by simp), ?_⟩
      simp only [wpSs, wpS, wpE, wpEs, wpC, wpAnd, wpOr, wpO, wpIt, opt_some, onI_int, onB_bl, onR_ref, arg1_one, look, joinO, start, List.map_cons, List.map_nil, List.length_cons, List.length_nil, List.replicate, List.cons_append, List.nil_append, List.append_nil, List.getElem?_cons_succ, List.getElem?_cons_zero, kcD, Nat.reduceAdd, Nat.reduceSub, br_t, br_f, br_n, asg, setAll, List.set_cons_succ, List.set_cons_zero, tgs, wipe, eq_ii, ne_ii, lt_ii, le_ii, gt_ii, ge_ii, is_n, isn_n, is_b, isn_b, add_ii, sub_ii, mul_ii, mod_ii, fdiv_ii, pow_ii, isNon, biD, intD_i, intD_b, esLen, beq_self_eq_true, ixD_tup, lsOf_new, seqD_tup, seqD_fl, slD_tup, bools, Option.map_some, true_and, ixD_fl, lenD_tup, lenD_fl, ix30, ix31, ix32, at20, at21, at30, at31, at32, List.filterMap_cons, List.filterMap_nil, intB_none]
      refine br_if (fun g1 => ?_) fun g1 => ?_
      · obtain ⟨i, rfl⟩ := isI_of g1
        refine call h0 ⟨y, some 1, none, rfl, hx y (by simp), ?_⟩
        simp only [wpSs, wpS, wpE, wpEs, wpC, wpAnd, wpOr, wpO, wpIt, opt_some, onI_int, onB_bl, onR_ref, arg1_one, look, joinO, start, List.map_cons, List.map_nil, List.length_cons, List.length_nil, List.replicate, List.cons_append, List.nil_append, List.append_nil, List.getElem?_cons_succ, List.getElem?_cons_zero, kcD, Nat.reduceAdd, Nat.reduceSub, br_t, br_f, br_n, asg, setAll, List.set_cons_succ, List.set_cons_zero, tgs, wipe, eq_ii, ne_ii, lt_ii, le_ii, gt_ii, ge_ii, is_n, isn_n, is_b, isn_b, add_ii, sub_ii, mul_ii, mod_ii, fdiv_ii, pow_ii, isNon, biD, intD_i, intD_b, esLen, beq_self_eq_true, ixD_tup, lsOf_new, seqD_tup, seqD_fl, slD_tup, bools, Option.map_some, true_and, ixD_fl, lenD_tup, lenD_fl, ix30, ix31, ix32, at20, at21, at30, at31, at32, List.filterMap_cons, List.filterMap_nil]
        refine br_if (fun g2 => ?_) fun g2 => ?_
        · obtain ⟨j, rfl, hj⟩ := intB_of g2
          refine call h1 ⟨i, j, rfl, ?_⟩
          simp only [wpSs, wpS, wpE, wpEs, wpC, wpAnd, wpOr, wpO, wpIt, opt_some, onI_int, onB_bl, onR_ref, arg1_one, look, joinO, start, List.map_cons, List.map_nil, List.length_cons, List.length_nil, List.replicate, List.cons_append, List.nil_append, List.append_nil, List.getElem?_cons_succ, List.getElem?_cons_zero, kcD, Nat.reduceAdd, Nat.reduceSub, br_t, br_f, br_n, asg, setAll, List.set_cons_succ, List.set_cons_zero, tgs, wipe, eq_ii, ne_ii, lt_ii, le_ii, gt_ii, ge_ii, is_n, isn_n, is_b, isn_b, add_ii, sub_ii, mul_ii, mod_ii, fdiv_ii, pow_ii, isNon, biD, intD_i, intD_b, esLen, beq_self_eq_true, ixD_tup, lsOf_new, seqD_tup, seqD_fl, slD_tup, bools, Option.map_some, true_and, ixD_fl, lenD_tup, lenD_fl, ix30, ix31, ix32, at20, at21, at30, at31, at32, List.filterMap_cons, List.filterMap_nil]
          have e : partB (.tup [.int i, .int j]) = (((Int.gcd i j : Nat) : Int) == 1) := by
            show (true && intB (.int j) (some 1) none && (Int.gcd i j == 1)) = _
            rw [g2]
            by_cases h : Int.gcd i j = 1
            · rw [h]; rfl
            · have h' : ¬ ((Int.gcd i j : Nat) : Int) = 1 := by omega
              rw [beq_eq_false_iff_ne.mpr h, beq_eq_false_iff_ne.mpr h']; rfl
          rw [e] at hq
          exact hq
        · have e : partB (.tup [.int i, y]) = false := by
            show (true && intB y (some 1) none && _) = false
            rw [g2]; rfl
          rw [e] at hq
          exact hq
      · have e : partB (.tup [x, y]) = false := by
          show (isI x && intB y (some 1) none && _) = false
          rw [g1]; rfl
        rw [e] at hq
        exact hq
    · have e : partB (.tup xs) = false := partL_len hl
      rw [e] at hq
      exact hq
  · have e : partB v = false := by cases v <;> first | rfl | cases hT
    rw [e] at hq
    exact hq
/-- check_table(table) of a table -/
def spCheck : Sp := fun ds S Q _ => ∃ a b : Int, ds = [.tup [.int a, .int b]] ∧ 1 ≤ a ∧ 1 ≤ b ∧ ∀ S', Ext S S' → Q .non S'
theorem vl_tab {S : Sto} {a b : Int} : Vl S (.tup [.int a, .int b]) := ⟨trivial, fun xs e y hy => by cases e; simp at hy; rcases hy with rfl | rfl <;> trivial⟩
theorem tab_ok {a b : Int} (ha : 1 ≤ a) (hb : 1 ≤ b) : tabB (.tup [.int a, .int b]) = true := by simp [tabB, tabL, intB, ha, hb]
theorem txt_check {G : Gm} {ds : List D} {S0 : Sto} {Q : VK} {X : XK} {b : Ss} (hb : b = (.cons (.if_ (.not (.call 10 (.cons (.v 0) .nil))) (.cons (.raise 0 .nil) .nil) .nil) .nil)) (h2 : G.fn 10 = spTab) (h : spCheck ds S0 Q X) : ds.length = 1 ∧ wpSs G b (start 1 ds) S0 (kR Q X) := by
  obtain ⟨a, b2, rfl, ha, hb', hq⟩ := h
  subst hb
  refine ⟨rfl, ?_⟩
  simp only [wpSs, wpS, wpE, wpEs, wpC, wpAnd, wpOr, wpO, wpIt, opt_some, onI_int, onB_bl, onR_ref, arg1_one, look, joinO, start, List.map_cons, List.map_nil, List.length_cons, List.length_nil, List.replicate, List.cons_append, List.nil_append, List.append_nil, List.getElem?_cons_succ, List.getElem?_cons_zero, kcD, Nat.reduceAdd, Nat.reduceSub, br_t, br_f, br_n, asg, setAll, List.set_cons_succ, List.set_cons_zero, tgs, wipe, eq_ii, ne_ii, lt_ii, le_ii, gt_ii, ge_ii, is_n, isn_n, is_b, isn_b, add_ii, sub_ii, mul_ii, mod_ii, fdiv_ii, pow_ii, isNon, biD, intD_i, intD_b, esLen, beq_self_eq_true, ixD_tup, lsOf_new, seqD_tup, seqD_fl, slD_tup, bools, Option.map_some, true_and, ixD_fl, lenD_tup, lenD_fl, ix30, ix31, ix32, at20, at21, at30, at31, at32, List.filterMap_cons, List.filterMap_nil]
  refine call h2 ⟨_, rfl, vl_tab, fun S1 k1 => ?_⟩
  simp only [wpSs, wpS, wpE, wpEs, wpC, wpAnd, wpOr, wpO, wpIt, opt_some, onI_int, onB_bl, onR_ref, arg1_one, look, joinO, start, List.map_cons, List.map_nil, List.length_cons, List.length_nil, List.replicate, List.cons_append, List.nil_append, List.append_nil, List.getElem?_cons_succ, List.getElem?_cons_zero, kcD, Nat.reduceAdd, Nat.reduceSub, br_t, br_f, br_n, asg, setAll, List.set_cons_succ, List.set_cons_zero, tgs, wipe, eq_ii, ne_ii, lt_ii, le_ii, gt_ii, ge_ii, is_n, isn_n, is_b, isn_b, add_ii, sub_ii, mul_ii, mod_ii, fdiv_ii, pow_ii, isNon, biD, intD_i, intD_b, esLen, beq_self_eq_true, ixD_tup, lsOf_new, seqD_tup, seqD_fl, slD_tup, bools, Option.map_some, true_and, ixD_fl, lenD_tup, lenD_fl, ix30, ix31, ix32, at20, at21, at30, at31, at32, List.filterMap_cons, List.filterMap_nil, tab_ok ha hb']
  exact hq S1 k1
/-- is_shot(table, value) -/
def spShot : Sp := fun ds S Q _ => ∃ a b v, ds = [.tup [.int a, .int b], v] ∧ 1 ≤ a ∧ 1 ≤ b ∧ Vl S v ∧ ∀ S', Ext S S' → Q (.bl (rollB a b v)) S'
end M
namespace M
theorem compW_filter {step : D → Sto → (Option D → Sto → Prop) → Prop} {Q : VK} {f : D → Bool} {S : Sto} : ∀ {xs acc : List D}, (∀ d ∈ xs, ∀ k : Option D → Sto → Prop, k (if f d = true then some d else none) S → step d S k) →
    (∀ p, S p = none → Q (.ref p) (upd S p (.lst (acc ++ xs.filter f)))) → compW (fun _ => True) step Q xs acc S
  | [], acc, _, h => ⟨trivial, fun p hp => by simpa using h p hp⟩
  | x :: xs, acc, hs, h => ⟨trivial, hs x (by simp) _ (compW_filter (fun d hd => hs d (by simp [hd])) fun p hp => by
      have e := h p hp
      by_cases hf : f x = true
      · rw [if_pos hf]
        simpa [List.filter_cons, hf] using e
      · rw [if_neg hf]
        simpa [List.filter_cons, hf] using e)⟩
theorem eq_nil {S : Sto} {p q : Nat} {ys : List D} {Q : Bool → Prop} (hp : S p = some (.lst ys)) (hq : S q = some (.lst [])) (hf : fitL (fit 7 S) ys = true) (k : Q ys.isEmpty) : cmpD .eq (.ref p) (.ref q) S Q := by
  refine ⟨?_, ?_, ?_⟩
  · show optB (lstAt S p) _ = true
    rw [lstAt_eq hp]; exact hf
  · show optB (lstAt S q) _ = true
    rw [lstAt_eq hq]; rfl
  · have e : eqB dep S (.ref p) (.ref q) = ys.isEmpty := by
      show eqO _ (lstAt S p) (lstAt S q) = _
      rw [lstAt_eq hp, lstAt_eq hq]
      cases ys <;> rfl
    rw [e]; exact k
theorem ne_nil {S : Sto} {p q : Nat} {ys : List D} {Q : Bool → Prop} (hp : S p = some (.lst ys)) (hq : S q = some (.lst [])) (hf : fitL (fit 7 S) ys = true) (k : Q (!ys.isEmpty)) : cmpD .ne (.ref p) (.ref q) S Q :=
  let ⟨a, b, c⟩ := eq_nil (Q := fun b => Q (!b)) hp hq hf k
  ⟨a, b, c⟩
/-- a small value in a tuple or a list -/
def Atom (n : Nat) : D → Prop
  | .non => True
  | .bl _ => True
  | .int i => i.natAbs < 2 ^ n
  | .str x => x.length ≤ 4 ∧ ∀ c ∈ x, c < 128
  | .tup xs => xs = []
  | _ => False
theorem Atom.kn {n : Nat} {S : Sto} {v : D} (h : Atom n v) : Kn S v := by
  cases v <;> first | trivial | exact False.elim h
theorem Atom.fit {n k : Nat} {S : Sto} {v : D} (h : Atom n v) : M.fit (k + 1) S v = true := by
  cases v with
  | str x =>
    show x.all _ = true
    rw [List.all_eq_true]
    intro c hc
    have := h.2 c hc
    exact decide_eq_true (by omega)
  | tup xs => cases h; rfl
  | _ => first | rfl | exact False.elim h
theorem Atom.up {n m : Nat} {v : D} (h : Atom n v) (k : n ≤ m) : Atom m v := by
  cases v with
  | int i => exact lt_two _ h k
  | _ => exact h
theorem fitL_of {ok : D → Bool} : ∀ {xs : List D}, (∀ y ∈ xs, ok y = true) → fitL ok xs = true
  | [], _ => rfl
  | x :: xs, h => by
    show (ok x && fitL ok xs) = true
    rw [h x (by simp), fitL_of fun y hy => h y (by simp [hy])]
    rfl
theorem atoms_fit {n : Nat} {S : Sto} {xs ys : List D} (h : ∀ y ∈ xs, Atom n y) (hs : ∀ y ∈ ys, y ∈ xs) : fitL (M.fit 7 S) ys = true := fitL_of fun y hy => (h y (hs y hy)).fit
/-- a value that the law tries: w is the well -/
def Gd (n w : Nat) (S : Sto) : D → Prop
  | .tup xs => xs.length ≤ n ∧ ∀ y ∈ xs, Atom n y
  | .ref a => a ≠ w ∧ ((∃ xs, S a = some (.lst xs) ∧ xs.length ≤ n ∧ ∀ y ∈ xs, Atom n y) ∨ S a = some .dic)
  | .non => True
  | .bl _ => True
  | .int i => i.natAbs < 2 ^ n
  | .str x => x.length ≤ 4 ∧ ∀ c ∈ x, c < 128
  | _ => False
theorem Gd.kp {n w : Nat} {S S' : Sto} {v : D} (h : Gd n w S v) (k : Kp w S S') : Gd n w S' v := by
  cases v with
  | ref a =>
    obtain ⟨hn, h | h⟩ := h
    · obtain ⟨xs, e, r⟩ := h
      exact ⟨hn, .inl ⟨xs, k _ _ hn e, r⟩⟩
    · exact ⟨hn, .inr (k _ _ hn h)⟩
  | _ => exact h
theorem Gd.up {n m w : Nat} {S : Sto} {v : D} (h : Gd n w S v) (k : n ≤ m) : Gd m w S v := by
  cases v with
  | tup xs => exact ⟨Nat.le_trans h.1 k, fun y hy => (h.2 y hy).up k⟩
  | ref a =>
    obtain ⟨hn, h | h⟩ := h
    · obtain ⟨xs, e, r1, r2⟩ := h
      exact ⟨hn, .inl ⟨xs, e, Nat.le_trans r1 k, fun y hy => (r2 y hy).up k⟩⟩
    · exact ⟨hn, .inr h⟩
  | int i => exact lt_two _ h k
  | _ => exact h
theorem Gd.vl {n w : Nat} {S : Sto} {v : D} (h : Gd n w S v) : Vl S v := by
  refine ⟨?_, fun xs e y hy => ?_⟩
  · cases v with
    | ref a =>
      obtain ⟨_, h | h⟩ := h
      · obtain ⟨xs, e, _⟩ := h
        exact ⟨_, e⟩
      · exact ⟨_, h⟩
    | _ => first | trivial | exact False.elim h
  · subst e
    exact (h.2 y hy).kn
/-- _law_whole(thing) -/
def spWhole : Sp := fun ds S Q _ => ∃ v, ds = [v] ∧ Kn S v ∧ Q (.bl (isI v)) S
/-- the values whose law is asked: known, and their parts small -/
def Va (S : Sto) (v : D) : Prop := Kn S v ∧ ∀ xs, v = .tup xs → xs.length ≤ 1000 ∧ ∀ y ∈ xs, Atom 1000 y
theorem Va.vl {S : Sto} {v : D} (h : Va S v) : Vl S v := ⟨h.1, fun xs e y hy => ((h.2 xs e).2 y hy).kn⟩
theorem Va.ext {S S' : Sto} {v : D} (h : Va S v) (k : Ext S S') : Va S' v := ⟨h.1.ext k, h.2⟩
def spDeskV : Sp := fun ds S Q _ => ∃ v, ds = [v] ∧ Va S v ∧ ∀ S', Ext S S' → Q (.bl (tabB v)) S'
theorem filt2 {x y : D} : ([x, y].filter fun d => !isI d || decide (int0 d < 1)).isEmpty = tabL [x, y] := by
  have h : ∀ d : D, (!isI d || decide (int0 d < 1)) = !intB d (some 1) none := by
    intro d
    cases d with
    | int i =>
      show (false || decide (i < 1)) = !(decide (1 ≤ i) && true)
      by_cases h : i < 1
      · have : ¬ 1 ≤ i := by omega
        simp [h, this]
      · have : 1 ≤ i := by omega
        simp [h, this]
    | _ => rfl
  simp only [List.filter_cons, List.filter_nil, h, tabL]
  cases intB x (some 1) none <;> cases intB y (some 1) none <;> rfl
end M
namespace M
theorem filtI_nil {xs : List D} : (xs.filter fun d => !isI d).isEmpty = xs.all isI := by
  induction xs with
  | nil => rfl
  | cons x xs ih =>
    rw [List.filter_cons, List.all_cons]
    cases isI x
    · rfl
    · exact ih
/-- _law_is_roll(desk, thing) -/
def spRollV : Sp := fun ds S Q _ => ∃ a b v, ds = [.tup [.int a, .int b], v] ∧ Va S v ∧ ∀ S', Ext S S' → Q (.bl (rollB a b v)) S'
theorem chain_ii {i j k : Int} {S : Sto} {Q : Bool → Prop} (h : Q (decide (i ≤ j) && decide (j ≤ k))) : br (decide (i ≤ j)) (Q (decide (j ≤ k))) (Q false) := by
  cases h1 : decide (i ≤ j) <;> rw [h1] at h
  · exact br_f.mpr h
  · exact br_t.mpr h
/-- _law_is_part(thing) -/
def spPartV : Sp := fun ds S Q _ => ∃ v, ds = [v] ∧ Va S v ∧ ∀ S', Ext S S' → Q (.bl (partB v)) S'
end M
namespace M
/-- _law_odd(well) -/
def spOdd : Sp := fun ds S Q _ => ∃ w n, ds = [.ref w] ∧ Well n S w ∧ n + 1 < 2 ^ 59 ∧ ∀ v S', Gd 200 w S' v → Well (n + 1) S' w → Kp w S S' → Q v S'
theorem cut_mem {xs : List D} {lo hi : Option Int} {y : D} (h : y ∈ cut xs lo hi) : y ∈ xs := List.mem_of_mem_drop (List.mem_of_mem_take h)
theorem cut_hi {xs : List D} {i : Int} (h : 0 ≤ i) : (cut xs none (some i)).length ≤ i.toNat := by
  have e : sIx xs.length xs.length (some i) = min i.toNat xs.length := if_neg (by omega)
  unfold cut
  rw [e, List.length_take]
  show min (min i.toNat xs.length - 0) _ ≤ _
  omega
theorem cut_lo {xs : List D} {i : Int} (h : 0 ≤ i) : (cut xs (some i) none).length ≤ xs.length - i.toNat := by
  have e : sIx xs.length 0 (some i) = min i.toNat xs.length := if_neg (by omega)
  unfold cut
  rw [e, List.length_take, List.length_drop]
  show min (xs.length - _) _ ≤ _
  omega
theorem at_some {xs : List D} {i : Int} (h0 : 0 ≤ i) (h1 : i < xs.length) : ∃ y, y ∈ xs ∧ atI xs i = some y := by
  have hl : i.toNat < xs.length := by omega
  refine ⟨xs[i.toNat], List.getElem_mem hl, ?_⟩
  unfold atI ixN
  rw [if_pos h0, if_pos h1]
  simp [hl]
/-- _law_bent(well, thing) -/
def spBent : Sp := fun ds S Q _ => ∃ w n m v, ds = [.ref w, v] ∧ Gd m w S v ∧ 200 ≤ m ∧ m ≤ 400 ∧ Well n S w ∧ n + 4 < 2 ^ 58 ∧ ∀ v' S', Gd (m + 1) w S' v' → Well (n + 4) S' w → Kp w S S' → Q v' S'
theorem eq_tnil {xs : List D} {S : Sto} {n : Nat} {Q : Bool → Prop} (h : ∀ y ∈ xs, Atom n y) (k : Q xs.isEmpty) : cmpD .eq (.tup xs) (.tup []) S Q :=
  ⟨atoms_fit h fun y hy => hy, rfl, by
    have e : eqB dep S (.tup xs) (.tup []) = xs.isEmpty := by cases xs <;> rfl
    rw [e]; exact k⟩
end M
namespace M
theorem sumN_le {xs : List D} {f : D → Nat} {c : Nat} (h : ∀ y ∈ xs, f y ≤ c) : sumN (xs.map f) ≤ xs.length * c := by
  induction xs with
  | nil => simp [sumN]
  | cons x xs ih =>
    have h1 := h x (by simp)
    have h2 := ih fun y hy => h y (by simp [hy])
    show f x + sumN (xs.map f) ≤ (xs.length + 1) * c
    rw [Nat.succ_mul]
    omega
theorem atom_rep {m k : Nat} {S : Sto} {y : D} (h : Atom m y) (hm : m ≤ 1900) : fitR (k + 1) S y ∧ szR (k + 1) S y ≤ 1902 := by
  cases y with
  | int i => exact ⟨smr_of m hm h, Nat.le_refl _⟩
  | str x =>
    refine ⟨fun c hc => ?_, ?_⟩
    · have := h.2 c hc
      omega
    · show 10 * x.length + 2 ≤ 1902
      have := h.1
      omega
  | tup xs =>
    cases h
    exact ⟨(fun y hy => by cases hy), (by show sumN [] + 3 ≤ 1902; decide)⟩
  | non => exact ⟨trivial, by show 4 ≤ 1902; decide⟩
  | bl b => exact ⟨trivial, by show 5 ≤ 1902; decide⟩
  | _ => exact False.elim h
theorem toQ_lst {S : Sto} {a : Nat} {xs : List D} (e : S a = some (.lst xs)) : toQ dep S (.ref a) = .lst (xs.map (toQ 7 S)) := by
  show toQ (7 + 1) S (.ref a) = _
  simp only [toQ, e]
theorem toQ_dic {S : Sto} {a : Nat} (e : S a = some .dic) : toQ dep S (.ref a) = .dic := by
  show toQ (7 + 1) S (.ref a) = _
  simp only [toQ, e]
theorem szR_lst {S : Sto} {a : Nat} {xs : List D} (e : S a = some (.lst xs)) : szR dep S (.ref a) = sumN (xs.map fun y => szR 7 S y + 2) + 3 := by
  show szR (7 + 1) S (.ref a) = _
  simp only [szR, e]
theorem szR_dic {S : Sto} {a : Nat} (e : S a = some .dic) : szR dep S (.ref a) = 2 := by
  show szR (7 + 1) S (.ref a) = _
  simp only [szR, e]
theorem gd_rep {m w : Nat} {S : Sto} {v : D} (h : Gd m w S v) (hm : m ≤ 500) : fitD S v ∧ szR dep S v ≤ lim := by
  have big : ∀ xs : List D, xs.length ≤ 500 → (∀ y ∈ xs, Atom m y) → sumN (xs.map fun y => szR 7 S y + 2) + 3 ≤ lim := fun xs hl ha => by
    have h1 := sumN_le (xs := xs) (f := fun y => szR 7 S y + 2) (c := 1904) fun y hy => by have : szR 7 S y ≤ 1902 := (atom_rep (k := 6) (S := S) (ha y hy) (by omega)).2; omega
    have h2 : xs.length * 1904 ≤ 500 * 1904 := Nat.mul_le_mul_right _ hl
    have h3 : 500 * 1904 + 3 ≤ lim := by decide
    omega
  cases v with
  | tup xs => exact ⟨.inr fun y hy => (atom_rep (h.2 y hy) (by omega)).1, big xs (by have := h.1; omega) h.2⟩
  | ref a =>
    obtain ⟨_, h | h⟩ := h
    · obtain ⟨xs, e, hl, ha⟩ := h
      refine ⟨.inr ?_, ?_⟩
      · show opt (lstAt S a) _
        rw [lstAt_eq e]
        exact fun y hy => (atom_rep (ha y hy) (by omega)).1
      · rw [szR_lst e]
        exact big xs (by omega) ha
    · refine ⟨.inl (.inl ?_), ?_⟩
      · show isDic (S a)
        rw [h]; trivial
      · rw [szR_dic h]
        exact len_lim (by decide)
  | int i => exact ⟨.inr (smr_of m (by omega) h), by show 1902 ≤ lim; decide⟩
  | str x =>
    refine ⟨.inr fun c hc => ?_, ?_⟩
    · have := h.2 c hc
      omega
    · show 10 * x.length + 2 ≤ lim
      have := h.1
      exact len_lim (by omega)
  | non => exact ⟨.inr trivial, by show 4 ≤ lim; decide⟩
  | bl b => exact ⟨.inr trivial, by show 5 ≤ lim; decide⟩
  | _ => exact False.elim h
theorem atom_toQ {m k : Nat} {S S' : Sto} {y : D} (h : Atom m y) : toQ (k + 1) S y = toQ (k + 1) S' y := by
  cases y with
  | tup xs => cases h; rfl
  | _ => first | rfl | exact False.elim h
theorem gd_toQ {m w : Nat} {S S' : Sto} {v : D} (h : Gd m w S v) (k : Ext S S') : toQ dep S v = toQ dep S' v := by
  have mp : ∀ xs : List D, (∀ y ∈ xs, Atom m y) → xs.map (toQ 7 S) = xs.map (toQ 7 S') := fun xs ha => List.map_congr_left fun y hy => atom_toQ (ha y hy)
  cases v with
  | tup xs =>
    show P.tup _ = P.tup _
    rw [mp xs h.2]
  | ref a =>
    obtain ⟨_, h | h⟩ := h
    · obtain ⟨xs, e, hl, ha⟩ := h
      rw [toQ_lst e, toQ_lst (k _ _ e), mp xs ha]
    · rw [toQ_dic h, toQ_dic (k _ _ h)]
  | _ => first | rfl | exact False.elim h
theorem gd_va {m w : Nat} {S : Sto} {v : D} (h : Gd m w S v) (hm : m ≤ 500) : Va S v := ⟨h.vl.1, fun xs e => by
  subst e
  exact ⟨by have := h.1; omega, fun y hy => (h.2 y hy).up (by omega)⟩⟩
theorem eqLB_bools {n : Nat} {S : Sto} : ∀ bs : List Bool, eqLB (eqB (n + 1) S) (bs.map .bl) (bs.map .bl) = true
  | [] => rfl
  | b :: bs => by
    show ((b == b) && eqLB (eqB (n + 1) S) (bs.map .bl) (bs.map .bl)) = true
    rw [eqLB_bools bs]; simp
theorem ne_bools {S : Sto} {p q : Nat} {bs : List Bool} {Q : Bool → Prop} (hp : S p = some (.lst (bs.map .bl))) (hq : S q = some (.lst (bs.map .bl))) (k : Q false) : cmpD .ne (.ref p) (.ref q) S Q := by
  have f : ∀ a : Nat, S a = some (.lst (bs.map .bl)) → fit dep S (.ref a) = true := fun a e => by
    show optB (lstAt S a) _ = true
    rw [lstAt_eq e]
    exact fitL_of fun y hy => by obtain ⟨b, _, rfl⟩ := List.mem_map.mp hy; rfl
  refine ⟨f p hp, f q hq, ?_⟩
  have e : eqB dep S (.ref p) (.ref q) = true := by
    show eqO _ (lstAt S p) (lstAt S q) = _
    rw [lstAt_eq hp, lstAt_eq hq]
    exact eqLB_bools bs
  rw [e]; exact k
theorem isTy_bb {S : Sto} {f : Bool} : isTy S (.bl f) .bool = some true := rfl
/-- _law_right(desk, thing) -/
def spRight : Sp := fun ds S Q _ => ∃ a b v w, ds = [.tup [.int a, .int b], v] ∧ 1 ≤ a ∧ 1 ≤ b ∧ Gd 500 w S v ∧ ∀ S', Ext S S' → Q (.bl true) S'
/-- a loop -/
theorem forW_ok {chk : Sto → Prop} {step : D → Env → Sto → (Env → Sto → Prop) → Prop} {nx : Env → Sto → Prop} {I : Nat → Env → Sto → Prop} : ∀ (items : List D) (i : Nat) (ρ : Env) (S : Sto), I i ρ S →
    (∀ j d ρ S nx', j < i + items.length → d ∈ items → I j ρ S → (∀ ρ' S', I (j + 1) ρ' S' → nx' ρ' S') → chk S ∧ step d ρ S nx') → (∀ ρ S, I (i + items.length) ρ S → chk S ∧ nx ρ S) → forW chk step nx items ρ S
  | [], i, ρ, S, h, _, he => he ρ S h
  | d :: ds, i, ρ, S, h, hs, he => hs i d ρ S _ (by simp) (by simp) h fun ρ' S' h' => forW_ok ds (i + 1) ρ' S' h' (fun j d ρ S nx' hj hd => hs j d ρ S nx' (by rw [List.length_cons]; omega) (by simp [hd])) fun ρ S h => he ρ S (by rw [List.length_cons]; rwa [Nat.add_right_comm] at h)
end M
namespace M
/-- t / b in lowest terms (0 < b) -/
def low (t b : Int) : D := .tup [.int (t / (Int.gcd t b : Nat)), .int (b / (Int.gcd t b : Nat))]
/-- the place t / b folded into 0 .. s -/
def foldT (s t b : Int) : Int := if 2 * s * b - t % (2 * s * b) < t % (2 * s * b) then 2 * s * b - t % (2 * s * b) else t % (2 * s * b)
def cellN (s t b d : Int) : Int := if d > 0 then t / (s * b) else -((-t) / (s * b)) - 1
def wayN (s t b d : Int) : Int := if cellN s t b d % 2 = 0 then d else -d
/-- a number below 2 ^ n -/
def Bd (n : Nat) (i : Int) : Prop := i.natAbs < 2 ^ n
theorem Bd.sm {n : Nat} {i : Int} (h : Bd n i) (hn : n ≤ 4000) : sm i := sm_of n hn h
theorem Bd.mul {n m : Nat} {i j : Int} (h : Bd n i) (k : Bd m j) : Bd (n + m) (i * j) := by
  show (i * j).natAbs < 2 ^ (n + m)
  rw [Int.natAbs_mul, Nat.pow_add]
  exact Nat.mul_lt_mul'' h k
theorem Bd.up {n m : Nat} {i : Int} (h : Bd n i) (k : n ≤ m) : Bd m i := lt_two n h k
theorem bd2 : Bd 2 2 := by show Int.natAbs 2 < 2 ^ 2; decide
theorem gcd_pos {t b : Int} (h : 0 < b) : 0 < ((Int.gcd t b : Nat) : Int) := by
  have : 0 < Int.gcd t b := Int.gcd_pos_of_ne_zero_right t (by omega)
  omega
theorem gcd_le {t b : Int} (h : 0 < b) : ((Int.gcd t b : Nat) : Int) ≤ b := Int.le_of_dvd h (Int.gcd_dvd_right ..)
/-- fraction(top, bottom) -/
def spFrac : Sp := fun ds S Q _ => ∃ t b, ds = [.int t, .int b] ∧ 0 < b ∧ Bd 8000 b ∧ Q (low t b) S
theorem txt_frac {G : Gm} {ds : List D} {S0 : Sto} {Q : VK} {X : XK} {b : Ss} (hb : b = (.cons (.set (.v 2) (.ite (.cmp .gt (.v 1) (.k (.int 0))) (.call 1 (.cons (.v 0) (.cons (.v 1) .nil))) (.neg (.call 1 (.cons (.v 0) (.cons (.v 1) .nil)))))) (.cons (.ret (.tup (.cons (.bin .fdiv (.v 0) (.v 2)) (.cons (.bin .fdiv (.v 1) (.v 2)) .nil)))) .nil))) (h1 : G.fn 1 = spGcd) (h : spFrac ds S0 Q X) : ds.length = 2 ∧ wpSs G b (start 3 ds) S0 (kR Q X) := by
  obtain ⟨t, b2, rfl, hp, hb2, hq⟩ := h
  subst hb
  refine ⟨rfl, ?_⟩
  simp only [wpSs, wpS, wpE, wpEs, wpC, wpAnd, wpOr, wpO, wpIt, opt_some, onI_int, onB_bl, onR_ref, arg1_one, look, joinO, start, List.map_cons, List.map_nil, List.length_cons, List.length_nil, List.replicate, List.cons_append, List.nil_append, List.append_nil, List.getElem?_cons_succ, List.getElem?_cons_zero, kcD, Nat.reduceAdd, Nat.reduceSub, br_t, br_f, br_n, asg, setAll, List.set_cons_succ, List.set_cons_zero, tgs, wipe, eq_ii, ne_ii, lt_ii, le_ii, gt_ii, ge_ii, is_n, isn_n, is_b, isn_b, add_ii, sub_ii, mul_ii, mod_ii, fdiv_ii, pow_ii, isNon, biD, intD_i, intD_b, esLen, beq_self_eq_true, ixD_tup, lsOf_new, seqD_tup, seqD_fl, slD_tup, bools, Option.map_some, true_and, ixD_fl, lenD_tup, lenD_fl, ix30, ix31, ix32, at20, at21, at30, at31, at32, List.filterMap_cons, List.filterMap_nil]
  refine br_d (fun _ => ?_) fun hn => absurd hp hn
  refine call h1 ⟨t, b2, rfl, ?_⟩
  have g0 := gcd_pos (t := t) hp
  have g1 := gcd_le (t := t) hp
  have hs : smd ((Int.gcd t b2 : Nat) : Int) := smd_of 8000 (by decide) (by
    have : b2.natAbs < 2 ^ 8000 := hb2
    omega)
  simp only [wpSs, wpS, wpE, wpEs, wpC, wpAnd, wpOr, wpO, wpIt, opt_some, onI_int, onB_bl, onR_ref, arg1_one, look, joinO, start, List.map_cons, List.map_nil, List.length_cons, List.length_nil, List.replicate, List.cons_append, List.nil_append, List.append_nil, List.getElem?_cons_succ, List.getElem?_cons_zero, kcD, Nat.reduceAdd, Nat.reduceSub, br_t, br_f, br_n, asg, setAll, List.set_cons_succ, List.set_cons_zero, tgs, wipe, eq_ii, ne_ii, lt_ii, le_ii, gt_ii, ge_ii, is_n, isn_n, is_b, isn_b, add_ii, sub_ii, mul_ii, mod_ii, fdiv_ii, pow_ii, isNon, biD, intD_i, intD_b, esLen, beq_self_eq_true, ixD_tup, lsOf_new, seqD_tup, seqD_fl, slD_tup, bools, Option.map_some, true_and, ixD_fl, lenD_tup, lenD_fl, ix30, ix31, ix32, at20, at21, at30, at31, at32, List.filterMap_cons, List.filterMap_nil, fdiv_pos g0]
  exact ⟨by omega, hs, by omega, hs, len_lim (by decide), hq⟩
/-- check_shot of a shot on the table -/
def spCkShot : Sp := fun ds S Q _ => ∃ a b v, ds = [.tup [.int a, .int b], v] ∧ 1 ≤ a ∧ 1 ≤ b ∧ Vl S v ∧ rollB a b v = true ∧ ∀ S', Ext S S' → Q .non S'
theorem txt_ckshot {G : Gm} {ds : List D} {S0 : Sto} {Q : VK} {X : XK} {b : Ss} (hb : b = (.cons (.ex (.call 14 (.cons (.v 0) .nil))) (.cons (.if_ (.not (.call 12 (.cons (.v 0) (.cons (.v 1) .nil)))) (.cons (.raise 1 .nil) .nil) .nil) .nil))) (h7 : G.fn 14 = spCheck) (h5 : G.fn 12 = spOn) (h : spCkShot ds S0 Q X) : ds.length = 2 ∧ wpSs G b (start 2 ds) S0 (kR Q X) := by
  obtain ⟨a, b2, v, rfl, ha, hb', hv, hr, hq⟩ := h
  subst hb
  refine ⟨rfl, ?_⟩
  simp only [wpSs, wpS, wpE, wpEs, wpC, wpAnd, wpOr, wpO, wpIt, opt_some, onI_int, onB_bl, onR_ref, arg1_one, look, joinO, start, List.map_cons, List.map_nil, List.length_cons, List.length_nil, List.replicate, List.cons_append, List.nil_append, List.append_nil, List.getElem?_cons_succ, List.getElem?_cons_zero, kcD, Nat.reduceAdd, Nat.reduceSub, br_t, br_f, br_n, asg, setAll, List.set_cons_succ, List.set_cons_zero, tgs, wipe, eq_ii, ne_ii, lt_ii, le_ii, gt_ii, ge_ii, is_n, isn_n, is_b, isn_b, add_ii, sub_ii, mul_ii, mod_ii, fdiv_ii, pow_ii, isNon, biD, intD_i, intD_b, esLen, beq_self_eq_true, ixD_tup, lsOf_new, seqD_tup, seqD_fl, slD_tup, bools, Option.map_some, true_and, ixD_fl, lenD_tup, lenD_fl, ix30, ix31, ix32, at20, at21, at30, at31, at32, List.filterMap_cons, List.filterMap_nil]
  refine call h7 ⟨a, b2, rfl, ha, hb', fun S1 k1 => ?_⟩
  refine call h5 ⟨a, b2, v, rfl, hv.ext k1, fun S2 k2 => ?_⟩
  simp only [wpSs, wpS, wpE, wpEs, wpC, wpAnd, wpOr, wpO, wpIt, opt_some, onI_int, onB_bl, onR_ref, arg1_one, look, joinO, start, List.map_cons, List.map_nil, List.length_cons, List.length_nil, List.replicate, List.cons_append, List.nil_append, List.append_nil, List.getElem?_cons_succ, List.getElem?_cons_zero, kcD, Nat.reduceAdd, Nat.reduceSub, br_t, br_f, br_n, asg, setAll, List.set_cons_succ, List.set_cons_zero, tgs, wipe, eq_ii, ne_ii, lt_ii, le_ii, gt_ii, ge_ii, is_n, isn_n, is_b, isn_b, add_ii, sub_ii, mul_ii, mod_ii, fdiv_ii, pow_ii, isNon, biD, intD_i, intD_b, esLen, beq_self_eq_true, ixD_tup, lsOf_new, seqD_tup, seqD_fl, slD_tup, bools, Option.map_some, true_and, ixD_fl, lenD_tup, lenD_fl, ix30, ix31, ix32, at20, at21, at30, at31, at32, List.filterMap_cons, List.filterMap_nil, hr]
  exact hq S2 (k1.trans k2)
/-- check_time of a fraction -/
def spCkTime : Sp := fun ds S Q _ => ∃ v, ds = [v] ∧ Vl S v ∧ partB v = true ∧ ∀ S', Ext S S' → Q .non S'
theorem txt_cktime {G : Gm} {ds : List D} {S0 : Sto} {Q : VK} {X : XK} {b : Ss} (hb : b = (.cons (.if_ (.not (.call 13 (.cons (.v 0) .nil))) (.cons (.raise 2 .nil) .nil) .nil) .nil)) (h6 : G.fn 13 = spPart) (h : spCkTime ds S0 Q X) : ds.length = 1 ∧ wpSs G b (start 1 ds) S0 (kR Q X) := by
  obtain ⟨v, rfl, hv, hr, hq⟩ := h
  subst hb
  refine ⟨rfl, ?_⟩
  simp only [wpSs, wpS, wpE, wpEs, wpC, wpAnd, wpOr, wpO, wpIt, opt_some, onI_int, onB_bl, onR_ref, arg1_one, look, joinO, start, List.map_cons, List.map_nil, List.length_cons, List.length_nil, List.replicate, List.cons_append, List.nil_append, List.append_nil, List.getElem?_cons_succ, List.getElem?_cons_zero, kcD, Nat.reduceAdd, Nat.reduceSub, br_t, br_f, br_n, asg, setAll, List.set_cons_succ, List.set_cons_zero, tgs, wipe, eq_ii, ne_ii, lt_ii, le_ii, gt_ii, ge_ii, is_n, isn_n, is_b, isn_b, add_ii, sub_ii, mul_ii, mod_ii, fdiv_ii, pow_ii, isNon, biD, intD_i, intD_b, esLen, beq_self_eq_true, ixD_tup, lsOf_new, seqD_tup, seqD_fl, slD_tup, bools, Option.map_some, true_and, ixD_fl, lenD_tup, lenD_fl, ix30, ix31, ix32, at20, at21, at30, at31, at32, List.filterMap_cons, List.filterMap_nil]
  refine call h6 ⟨v, rfl, hv, fun S1 k1 => ?_⟩
  simp only [wpSs, wpS, wpE, wpEs, wpC, wpAnd, wpOr, wpO, wpIt, opt_some, onI_int, onB_bl, onR_ref, arg1_one, look, joinO, start, List.map_cons, List.map_nil, List.length_cons, List.length_nil, List.replicate, List.cons_append, List.nil_append, List.append_nil, List.getElem?_cons_succ, List.getElem?_cons_zero, kcD, Nat.reduceAdd, Nat.reduceSub, br_t, br_f, br_n, asg, setAll, List.set_cons_succ, List.set_cons_zero, tgs, wipe, eq_ii, ne_ii, lt_ii, le_ii, gt_ii, ge_ii, is_n, isn_n, is_b, isn_b, add_ii, sub_ii, mul_ii, mod_ii, fdiv_ii, pow_ii, isNon, biD, intD_i, intD_b, esLen, beq_self_eq_true, ixD_tup, lsOf_new, seqD_tup, seqD_fl, slD_tup, bools, Option.map_some, true_and, ixD_fl, lenD_tup, lenD_fl, ix30, ix31, ix32, at20, at21, at30, at31, at32, List.filterMap_cons, List.filterMap_nil, hr]
  exact hq S1 k1
/-- fold(side, number) -/
def spFold : Sp := fun ds S Q _ => ∃ s t b, ds = [.int s, .tup [.int t, .int b]] ∧ 1 ≤ s ∧ 1 ≤ b ∧ Bd 1500 s ∧ Bd 1500 b ∧ Q (low (foldT s t b) b) S
theorem mulp {a b : Int} (ha : 0 < a) (hb : 0 < b) : 0 < a * b := Int.mul_pos ha hb
theorem txt_fold {G : Gm} {ds : List D} {S0 : Sto} {Q : VK} {X : XK} {b : Ss} (hb : b = (.cons (.set (.tup [2, 3]) (.v 1)) (.cons (.set (.v 4) (.bin .mod (.v 2) (.bin .mul (.bin .mul (.k (.int 2)) (.v 0)) (.v 3)))) (.cons (.ret (.call 2 (.cons (.bi .min (.cons (.v 4) (.cons (.bin .sub (.bin .mul (.bin .mul (.k (.int 2)) (.v 0)) (.v 3)) (.v 4)) .nil))) (.cons (.v 3) .nil)))) .nil)))) (h2 : G.fn 2 = spFrac) (h : spFold ds S0 Q X) : ds.length = 2 ∧ wpSs G b (start 5 ds) S0 (kR Q X) := by
  obtain ⟨s, t, b2, rfl, hs, hb', bs, bb, hq⟩ := h
  subst hb
  refine ⟨rfl, ?_⟩
  have b2s := bd2.mul bs
  have p1 : 0 < 2 * s := by omega
  have p2 : 0 < 2 * s * b2 := mulp p1 (by omega)
  have s2 : sm 2 := bd2.sm (by decide)
  have ss := bs.sm (by decide)
  have s2s := b2s.sm (by decide)
  have sb := bb.sm (by decide)
  simp only [wpSs, wpS, wpE, wpEs, wpC, wpAnd, wpOr, wpO, wpIt, opt_some, onI_int, onB_bl, onR_ref, arg1_one, look, joinO, start, List.map_cons, List.map_nil, List.length_cons, List.length_nil, List.replicate, List.cons_append, List.nil_append, List.append_nil, List.getElem?_cons_succ, List.getElem?_cons_zero, kcD, Nat.reduceAdd, Nat.reduceSub, br_t, br_f, br_n, asg, setAll, List.set_cons_succ, List.set_cons_zero, tgs, wipe, eq_ii, ne_ii, lt_ii, le_ii, gt_ii, ge_ii, is_n, isn_n, is_b, isn_b, add_ii, sub_ii, mul_ii, mod_ii, fdiv_ii, pow_ii, isNon, biD, intD_i, intD_b, esLen, beq_self_eq_true, ixD_tup, lsOf_new, seqD_tup, seqD_fl, slD_tup, bools, Option.map_some, true_and, ixD_fl, lenD_tup, lenD_fl, ix30, ix31, ix32, at20, at21, at30, at31, at32, List.filterMap_cons, List.filterMap_nil, fmod_pos p2]
  exact ⟨s2, ss, s2s, sb, by omega, s2, ss, s2s, sb, call h2 ⟨_, _, rfl, by omega, bb.up (by decide), hq⟩⟩
/-- free_place(shot, time) -/
def spFreeP : Sp := fun ds S Q _ => ∃ x y p q t b, ds = [.tup [.int x, .int y, .int p, .int q], .tup [.int t, .int b]] ∧ sm x ∧ sm y ∧ sm p ∧ sm q ∧ sm t ∧ sm b ∧ Q (.tup [.tup [.int (x * b + p * t), .int b], .tup [.int (y * b + q * t), .int b]]) S
theorem at40 {α : Type} {a b c d : α} : atI [a, b, c, d] 0 = some a := rfl
theorem at41 {α : Type} {a b c d : α} : atI [a, b, c, d] 1 = some b := rfl
theorem at42 {α : Type} {a b c d : α} : atI [a, b, c, d] 2 = some c := rfl
theorem at43 {α : Type} {a b c d : α} : atI [a, b, c, d] 3 = some d := rfl
theorem txt_freep {G : Gm} {ds : List D} {S0 : Sto} {Q : VK} {X : XK} {b : Ss} (hb : b = (.cons (.set (.tup [2, 3]) (.v 1)) (.cons (.ret (.tup (.cons (.tup (.cons (.bin .add (.bin .mul (.ix (.v 0) (.k (.int 0))) (.v 3)) (.bin .mul (.ix (.v 0) (.k (.int 2))) (.v 2))) (.cons (.v 3) .nil))) (.cons (.tup (.cons (.bin .add (.bin .mul (.ix (.v 0) (.k (.int 1))) (.v 3)) (.bin .mul (.ix (.v 0) (.k (.int 3))) (.v 2))) (.cons (.v 3) .nil))) .nil)))) .nil))) (h : spFreeP ds S0 Q X) : ds.length = 2 ∧ wpSs G b (start 4 ds) S0 (kR Q X) := by
  obtain ⟨x, y, p, q, t, b2, rfl, h1, h2, h3, h4, h5, h6, hq⟩ := h
  subst hb
  refine ⟨rfl, ?_⟩
  simp only [wpSs, wpS, wpE, wpEs, wpC, wpAnd, wpOr, wpO, wpIt, opt_some, onI_int, onB_bl, onR_ref, arg1_one, look, joinO, start, List.map_cons, List.map_nil, List.length_cons, List.length_nil, List.replicate, List.cons_append, List.nil_append, List.append_nil, List.getElem?_cons_succ, List.getElem?_cons_zero, kcD, Nat.reduceAdd, Nat.reduceSub, br_t, br_f, br_n, asg, setAll, List.set_cons_succ, List.set_cons_zero, tgs, wipe, eq_ii, ne_ii, lt_ii, le_ii, gt_ii, ge_ii, is_n, isn_n, is_b, isn_b, add_ii, sub_ii, mul_ii, mod_ii, fdiv_ii, pow_ii, isNon, biD, intD_i, intD_b, esLen, beq_self_eq_true, ixD_tup, lsOf_new, seqD_tup, seqD_fl, slD_tup, bools, Option.map_some, true_and, ixD_fl, lenD_tup, lenD_fl, ix30, ix31, ix32, at20, at21, at30, at31, at32, List.filterMap_cons, List.filterMap_nil, at40, at41, at42, at43]
  have l : 2 ≤ lim := len_lim (by decide)
  exact ⟨h1, h6, h3, h5, l, h2, h6, h4, h5, l, l, hq⟩
/-- a shot and a time, in bounds -/
structure Sh (a c x y p q t b : Int) : Prop where
  a0 : 1 ≤ a
  c0 : 1 ≤ c
  b0 : 1 ≤ b
  ba : Bd 1500 a
  bc : Bd 1500 c
  bx : Bd 1500 x
  by_ : Bd 1500 y
  bp : Bd 1500 p
  bq : Bd 1500 q
  bt : Bd 1500 t
  bb : Bd 1500 b
/-- where the ball is -/
def placeD (a c x y p q t b : Int) : D := .tup [low (foldT a (x * b + p * t) b) b, low (foldT c (y * b + q * t) b) b]
def spPlaceOf : Sp := fun ds S Q _ => ∃ a c x y p q t b, ds = [.tup [.int a, .int c], .tup [.int x, .int y, .int p, .int q], .tup [.int t, .int b]] ∧ Sh a c x y p q t b ∧ Q (placeD a c x y p q t b) S
theorem txt_placeof {G : Gm} {ds : List D} {S0 : Sto} {Q : VK} {X : XK} {b : Ss} (hb : b = (.cons (.set (.tup [3, 4]) (.call 18 (.cons (.v 1) (.cons (.v 2) .nil)))) (.cons (.ret (.tup (.cons (.call 17 (.cons (.ix (.v 0) (.k (.int 0))) (.cons (.v 3) .nil))) (.cons (.call 17 (.cons (.ix (.v 0) (.k (.int 1))) (.cons (.v 4) .nil))) .nil)))) .nil))) (hf : G.fn 18 = spFreeP) (ho : G.fn 17 = spFold) (h : spPlaceOf ds S0 Q X) : ds.length = 3 ∧ wpSs G b (start 5 ds) S0 (kR Q X) := by
  obtain ⟨a, c, x, y, p, q, t, b2, rfl, k, hq⟩ := h
  subst hb
  refine ⟨rfl, ?_⟩
  simp only [wpSs, wpS, wpE, wpEs, wpC, wpAnd, wpOr, wpO, wpIt, opt_some, onI_int, onB_bl, onR_ref, arg1_one, look, joinO, start, List.map_cons, List.map_nil, List.length_cons, List.length_nil, List.replicate, List.cons_append, List.nil_append, List.append_nil, List.getElem?_cons_succ, List.getElem?_cons_zero, kcD, Nat.reduceAdd, Nat.reduceSub, br_t, br_f, br_n, asg, setAll, List.set_cons_succ, List.set_cons_zero, tgs, wipe, eq_ii, ne_ii, lt_ii, le_ii, gt_ii, ge_ii, is_n, isn_n, is_b, isn_b, add_ii, sub_ii, mul_ii, mod_ii, fdiv_ii, pow_ii, isNon, biD, intD_i, intD_b, esLen, beq_self_eq_true, ixD_tup, lsOf_new, seqD_tup, seqD_fl, slD_tup, bools, Option.map_some, true_and, ixD_fl, lenD_tup, lenD_fl, ix30, ix31, ix32, at20, at21, at30, at31, at32, List.filterMap_cons, List.filterMap_nil]
  refine call hf ⟨x, y, p, q, t, b2, rfl, k.bx.sm (by decide), k.by_.sm (by decide), k.bp.sm (by decide), k.bq.sm (by decide), k.bt.sm (by decide), k.bb.sm (by decide), ?_⟩
  simp only [wpSs, wpS, wpE, wpEs, wpC, wpAnd, wpOr, wpO, wpIt, opt_some, onI_int, onB_bl, onR_ref, arg1_one, look, joinO, start, List.map_cons, List.map_nil, List.length_cons, List.length_nil, List.replicate, List.cons_append, List.nil_append, List.append_nil, List.getElem?_cons_succ, List.getElem?_cons_zero, kcD, Nat.reduceAdd, Nat.reduceSub, br_t, br_f, br_n, asg, setAll, List.set_cons_succ, List.set_cons_zero, tgs, wipe, eq_ii, ne_ii, lt_ii, le_ii, gt_ii, ge_ii, is_n, isn_n, is_b, isn_b, add_ii, sub_ii, mul_ii, mod_ii, fdiv_ii, pow_ii, isNon, biD, intD_i, intD_b, esLen, beq_self_eq_true, ixD_tup, lsOf_new, seqD_tup, seqD_fl, slD_tup, bools, Option.map_some, true_and, ixD_fl, lenD_tup, lenD_fl, ix30, ix31, ix32, at20, at21, at30, at31, at32, List.filterMap_cons, List.filterMap_nil]
  refine call ho ⟨a, _, b2, rfl, k.a0, k.b0, k.ba, k.bb, ?_⟩
  refine call ho ⟨c, _, b2, rfl, k.c0, k.b0, k.bc, k.bb, ?_⟩
  exact ⟨len_lim (by decide), hq⟩
/-- way_of(side, number, direction) -/
def spWayOf : Sp := fun ds S Q _ => ∃ s t b d, ds = [.int s, .tup [.int t, .int b], .int d] ∧ 1 ≤ s ∧ 1 ≤ b ∧ Bd 1500 s ∧ Bd 1500 b ∧ Q (.int (wayN s t b d)) S
def waysD (a c x y p q t b : Int) : D := .tup [.int (wayN a (x * b + p * t) b p), .int (wayN c (y * b + q * t) b q)]
def spWaysOf : Sp := fun ds S Q _ => ∃ a c x y p q t b, ds = [.tup [.int a, .int c], .tup [.int x, .int y, .int p, .int q], .tup [.int t, .int b]] ∧ Sh a c x y p q t b ∧ Q (waysD a c x y p q t b) S
end M
namespace M
theorem Bd.add {n : Nat} {i j : Int} (h : Bd n i) (k : Bd n j) : Bd (n + 1) (i + j) := by
  show (i + j).natAbs < 2 ^ (n + 1)
  have h : i.natAbs < 2 ^ n := h
  have k : j.natAbs < 2 ^ n := k
  have := Int.natAbs_add_le i j
  rw [Nat.pow_succ]; omega
theorem Bd.neg' {n : Nat} {i : Int} (h : Bd n i) : Bd n (-i) := by
  show (-i).natAbs < 2 ^ n
  rw [Int.natAbs_neg]; exact h
theorem Bd.sub {n : Nat} {i j : Int} (h : Bd n i) (k : Bd n j) : Bd (n + 1) (i - j) := by
  rw [Int.sub_eq_add_neg]; exact h.add k.neg'
theorem Bd.le {n : Nat} {i m : Int} (h : Bd n m) (h0 : 0 ≤ i) (h1 : i ≤ m) : Bd n i := by
  have h : m.natAbs < 2 ^ n := h
  show i.natAbs < 2 ^ n
  omega
theorem Bd.mod {n : Nat} {i m : Int} (h : Bd n m) (hm : 0 < m) : Bd n (i % m) := h.le (Int.emod_nonneg _ (by omega)) (Int.le_of_lt (Int.emod_lt_of_pos _ hm))
theorem Bd.div {n : Nat} {i j : Int} (h : Bd n i) : Bd n (i / j) := by
  show (i / j).natAbs < 2 ^ n
  exact Nat.lt_of_le_of_lt (Int.natAbs_ediv_le_natAbs i j) h
theorem Bd.smd {n : Nat} {i : Int} (h : Bd n i) (hn : n ≤ 8500) : smd i := smd_of n hn h
theorem gdiv_pos {t b : Int} (hb : 0 < b) : 0 < b / ((Int.gcd t b : Nat) : Int) := by
  have g := gcd_pos (t := t) hb
  have l := gcd_le (t := t) hb
  exact Int.ediv_pos_of_pos_of_dvd hb (Int.le_of_lt g) (Int.gcd_dvd_right ..)
theorem gcd_bd {n : Nat} {t b : Int} (h : Bd n b) (hb : 0 < b) : Bd n ((Int.gcd t b : Nat) : Int) := h.le (Int.le_of_lt (gcd_pos hb)) (gcd_le hb)
theorem low_inj {t u b : Int} (hb : 0 < b) (h : low t b = low u b) : t = u := by
  unfold low at h
  injection h with h
  injection h with h1 h
  injection h with h2 h
  injection h1 with h1
  injection h2 with h2
  have g1 := Int.mul_ediv_cancel' (Int.gcd_dvd_right t b)
  have g2 := Int.mul_ediv_cancel' (Int.gcd_dvd_right u b)
  have e1 := Int.mul_ediv_cancel' (Int.gcd_dvd_left t b)
  have e2 := Int.mul_ediv_cancel' (Int.gcd_dvd_left u b)
  have p := gdiv_pos (t := u) hb
  have g : ((Int.gcd t b : Nat) : Int) = ((Int.gcd u b : Nat) : Int) := by
    rw [h2] at g1
    exact Int.eq_of_mul_eq_mul_right (by omega) (g1.trans g2.symm)
  rw [← e1, ← e2, ← h1, g]
theorem bd_of' {i : Int} {k : Nat} (h0 : 0 ≤ i) (h : i < 2 ^ k) : Bd k i := by
  show i.natAbs < 2 ^ k
  have : ((i.natAbs : Nat) : Int) < ((2 ^ k : Nat) : Int) := by
    rw [Int.natAbs_of_nonneg h0, Int.natCast_pow]
    exact h
  exact Int.ofNat_lt.mp this
end M
namespace M
/-- the tuple of a shot -/
abbrev shD (x y p q : Int) : D := .tup [.int x, .int y, .int p, .int q]
abbrev prD (x y : Int) : D := .tup [.int x, .int y]
theorem vl_sh {S : Sto} {x y p q : Int} : Vl S (shD x y p q) := ⟨trivial, fun xs e z hz => by
  cases e
  simp only [List.mem_cons, List.not_mem_nil, or_false] at hz
  rcases hz with rfl | rfl | rfl | rfl <;> trivial⟩
/-- turned_of(shot) -/
def spTurnOf : Sp := fun ds S Q _ => ∃ x y p q, ds = [shD x y p q] ∧ Q (shD x y (-p) (-q)) S
theorem txt_turnof {G : Gm} {ds : List D} {S0 : Sto} {Q : VK} {X : XK} {b : Ss} (hb : b = (.cons (.ret (.tup (.cons (.ix (.v 0) (.k (.int 0))) (.cons (.ix (.v 0) (.k (.int 1))) (.cons (.neg (.ix (.v 0) (.k (.int 2)))) (.cons (.neg (.ix (.v 0) (.k (.int 3)))) .nil)))))) .nil)) (h : spTurnOf ds S0 Q X) : ds.length = 1 ∧ wpSs G b (start 1 ds) S0 (kR Q X) := by
  obtain ⟨x, y, p, q, rfl, hq⟩ := h
  subst hb
  refine ⟨rfl, ?_⟩
  simp only [shD, wpSs, wpS, wpE, wpEs, wpC, wpAnd, wpOr, wpO, wpIt, opt_some, onI_int, onB_bl, onR_ref, arg1_one, look, joinO, start, List.map_cons, List.map_nil, List.length_cons, List.length_nil, List.replicate, List.cons_append, List.nil_append, List.append_nil, List.getElem?_cons_succ, List.getElem?_cons_zero, kcD, Nat.reduceAdd, Nat.reduceSub, br_t, br_f, br_n, asg, setAll, List.set_cons_succ, List.set_cons_zero, tgs, wipe, eq_ii, ne_ii, lt_ii, le_ii, gt_ii, ge_ii, is_n, isn_n, is_b, isn_b, add_ii, sub_ii, mul_ii, mod_ii, fdiv_ii, pow_ii, isNon, biD, intD_i, intD_b, esLen, beq_self_eq_true, ixD_tup, lsOf_new, seqD_tup, seqD_fl, slD_tup, bools, Option.map_some, true_and, ixD_fl, lenD_tup, lenD_fl, ix30, ix31, ix32, at20, at21, at30, at31, at32, List.filterMap_cons, List.filterMap_nil, at40, at41, at42, at43]
  exact ⟨len_lim (by decide), hq⟩
/-- is the shot on the table, the time a fraction -/
structure On (a c x y p q t b : Int) : Prop where
  sh : Sh a c x y p q t b
  on : rollB a c (shD x y p q) = true
  fr : partB (prD t b) = true
def spPlace : Sp := fun ds S Q _ => ∃ a c x y p q t b, ds = [prD a c, shD x y p q, prD t b] ∧ On a c x y p q t b ∧ ∀ S', Ext S S' → Q (placeD a c x y p q t b) S'
def spWay : Sp := fun ds S Q _ => ∃ a c x y p q t b, ds = [prD a c, shD x y p q, prD t b] ∧ On a c x y p q t b ∧ ∀ S', Ext S S' → Q (waysD a c x y p q t b) S'
def spTurned : Sp := fun ds S Q _ => ∃ x y p q, ds = [shD x y p q] ∧ freeB (shD x y p q) = true ∧ ∀ S', Ext S S' → Q (shD x y (-p) (-q)) S'
def spScaled : Sp := fun ds S Q _ => ∃ a c x y p q m, ds = [prD a c, shD x y p q, .int m] ∧ 1 ≤ a ∧ 1 ≤ c ∧ rollB a c (shD x y p q) = true ∧ 1 ≤ m ∧ sm a ∧ sm c ∧ sm x ∧ sm y ∧ sm m ∧ ∀ S', Ext S S' → Q (.tup [prD (a * m) (c * m), shD (x * m) (y * m) p q]) S'
def spCrossed : Sp := fun ds S Q _ => ∃ a c x y p q, ds = [prD a c, shD x y p q] ∧ 1 ≤ a ∧ 1 ≤ c ∧ rollB a c (shD x y p q) = true ∧ ∀ S', Ext S S' → Q (.tup [prD c a, shD y x q p]) S'
/-- Euclid's loop -/
theorem euclid {step : Env → Sto → (Env → Sto → Prop) → Prop} {S : Sto} {mk : Nat → Nat → Env} {g : Nat} (hz : ∀ u nx, u = g → step (mk u 0) S nx) (hs : ∀ u v nx, 0 < v → nx (mk v (u % v)) S → step (mk u v) S nx) : ∀ (n u v : Nat), v ≤ n → Nat.gcd u v = g → ∃ m, whileN step m (mk u v) S
  | n, u, 0, _, h => ⟨1, hz u _ (by rw [← h, Nat.gcd_zero_right])⟩
  | 0, u, v + 1, hv, h => absurd hv (by omega)
  | n + 1, u, v + 1, hv, h => by
    obtain ⟨m, hm⟩ := euclid hz hs n (v + 1) (u % (v + 1)) (by have := Nat.mod_lt u (y := v + 1) (by omega); omega) (by rw [← h, Nat.gcd_comm, ← Nat.gcd_rec, Nat.gcd_comm])
    exact ⟨m + 1, hs u (v + 1) _ (by omega) hm⟩
/-- _law_low(top, bottom), bottom above 0 -/
def spLow : Sp := fun ds S Q _ => ∃ t b, ds = [.int t, .int b] ∧ 0 < b ∧ Bd 8000 b ∧ Q (low t b) S
/-- _law_times(part, factor) -/
def spTimes : Sp := fun ds S Q _ => ∃ t b f, ds = [prD t b, .int f] ∧ 0 < b ∧ Bd 8000 b ∧ sm t ∧ sm f ∧ Q (low (t * f) b) S
/-- of one shape and value: numbers, tuples, lists -/
def Sm : Nat → Sto → D → D → Prop
  | 0, _, _, _ => False
  | m + 1, S, v, u => (match v, u with
    | .int i, .int j => i = j
    | .bl i, .bl j => i = j
    | .non, .non => True
    | .str i, .str j => i = j
    | .tup xs, .tup ys => xs = ys ∧ xs.length ≤ 1000 ∧ ∀ y ∈ xs, Sm m S y y
    | .ref a, .ref b => ∃ xs, S a = some (.lst xs) ∧ S b = some (.lst xs) ∧ xs.length ≤ 1000 ∧ ∀ y ∈ xs, Sm m S y y
    | _, _ => False)
theorem Sm.ext {S S' : Sto} (k : Ext S S') : ∀ {m : Nat} {v u : D}, Sm m S v u → Sm m S' v u
  | 0, _, _, h => h
  | m + 1, v, u, h => by
    unfold Sm at h ⊢
    split at h
    · exact h
    · exact h
    · exact h
    · exact h
    · exact ⟨h.1, h.2.1, fun y hy => (h.2.2 y hy).ext k⟩
    · obtain ⟨xs, e1, e2, hl, h⟩ := h
      exact ⟨xs, k _ _ e1, k _ _ e2, hl, fun y hy => (h y hy).ext k⟩
    · exact False.elim h
def spSame (m : Nat) : Sp := fun ds S Q _ => ∃ v u, ds = [v, u] ∧ Sm m S v u ∧ ∀ S', Ext S S' → Q (.bl true) S'
theorem compW_drop {chk : Sto → Prop} {step : D → Sto → (Option D → Sto → Prop) → Prop} {Q : VK} {S0 : Sto} (hc : ∀ S, Ext S0 S → chk S) : ∀ {xs acc : List D} {S : Sto}, Ext S0 S → (∀ d ∈ xs, ∀ (S : Sto) (k : Option D → Sto → Prop), Ext S0 S → (∀ S', Ext S S' → k none S') → step d S k) →
    (∀ p S, Ext S0 S → S p = none → Q (.ref p) (upd S p (.lst acc))) → compW chk step Q xs acc S
  | [], acc, S, e, _, h => ⟨hc S e, fun p hp => h p S e hp⟩
  | x :: xs, acc, S, e, hs, h => ⟨hc S e, hs x (by simp) S _ e fun S' e' => by
      simp only [Option.toList, List.append_nil]
      exact compW_drop hc (e.trans e') (fun d hd => hs d (by simp [hd])) h⟩
theorem eq_bb {a b : Bool} {S : Sto} {Q : Bool → Prop} : cmpD .eq (.bl a) (.bl b) S Q ↔ Q (a == b) := by simp [cmpD, fit, eqB]
theorem ne_bb {a b : Bool} {S : Sto} {Q : Bool → Prop} : cmpD .ne (.bl a) (.bl b) S Q ↔ Q (!(a == b)) := by simp [cmpD, fit, eqB]
end M
namespace M
theorem bez {step : Env → Sto → (Env → Sto → Prop) → Prop} {S : Sto} {mk : Nat → Nat → Int → Int → Option D → Option D → Env} {m : Nat} (hz : ∀ u b f o6 o7 nx, step (mk u 0 b f o6 o7) S nx)
    (hs : ∀ u v b f o6 o7 nx, 0 < v → v < u → u ≤ m → b.natAbs * v + f.natAbs * u ≤ m → (∀ o6 o7, nx (mk v (u % v) f (b - ((u / v : Nat) : Int) * f) o6 o7) S) → step (mk u v b f o6 o7) S nx) :
    ∀ (n u v : Nat) (b f : Int), v ≤ n → v < u → u ≤ m → b.natAbs * v + f.natAbs * u ≤ m → ∃ k, ∀ o6 o7, whileN step k (mk u v b f o6 o7) S
  | n, u, 0, b, f, _, _, _, _ => ⟨1, fun o6 o7 => hz u b f o6 o7 _⟩
  | 0, u, v + 1, _, _, hv, _, _, _ => absurd hv (by omega)
  | n + 1, u, v + 1, b, f, hv, hu, hm, hb => by
    have hl := Nat.mod_lt u (y := v + 1) (by omega)
    have hd := Nat.div_add_mod u (v + 1)
    have key : f.natAbs * (u % (v + 1)) + (b - ((u / (v + 1) : Nat) : Int) * f).natAbs * (v + 1) ≤ b.natAbs * (v + 1) + f.natAbs * u := by
      generalize u % (v + 1) = r at *
      generalize u / (v + 1) = q at *
      have h1 : (b - (q : Int) * f).natAbs ≤ b.natAbs + q * f.natAbs := by
        have := Int.natAbs_sub_le b ((q : Int) * f)
        rwa [Int.natAbs_mul, Int.natAbs_natCast] at this
      have h2 := Nat.mul_le_mul_right (v + 1) h1
      have e : f.natAbs * u = q * f.natAbs * (v + 1) + f.natAbs * r := by
        rw [← hd, Nat.mul_add, Nat.mul_comm q, Nat.mul_assoc, Nat.mul_comm q]
      rw [Nat.add_mul] at h2
      omega
    obtain ⟨k, hk⟩ := bez hz hs n (v + 1) (u % (v + 1)) f (b - ((u / (v + 1) : Nat) : Int) * f) (by omega) hl (by omega) (Nat.le_trans key hb)
    exact ⟨k + 1, fun o6 o7 => hs u (v + 1) b f o6 o7 _ (by omega) hu hm hb hk⟩
/-- inverse(number, modulus): its size -/
def spInv : Sp := fun ds S Q _ => ∃ t m, ds = [.int t, .int m] ∧ 0 < m ∧ Bd 3000 m ∧ ∀ d : Int, 0 ≤ d → d < m → Q (.int d) S
theorem txt_inv {G : Gm} {ds : List D} {S0 : Sto} {Q : VK} {X : XK} {b : Ss} (hb : b = (.cons (.par 2 3 (.v 1) (.bin .mod (.v 0) (.v 1))) (.cons (.set (.tup [4, 5]) (.tup (.cons (.k (.int 0)) (.cons (.k (.int 1)) .nil)))) (.cons (.while_ (.cmp .ne (.v 3) (.k (.int 0))) (.cons (.set (.v 6) (.bin .fdiv (.v 2) (.v 3))) (.cons (.set (.v 7) (.bin .sub (.v 2) (.bin .mul (.v 6) (.v 3)))) (.cons (.set (.v 2) (.v 3)) (.cons (.set (.v 3) (.v 7)) (.cons (.set (.v 7) (.bin .sub (.v 4) (.bin .mul (.v 6) (.v 5)))) (.cons (.set (.v 4) (.v 5)) (.cons (.set (.v 5) (.v 7)) .nil)))))))) (.cons (.ret (.bin .mod (.v 4) (.v 1))) .nil))))) (h : spInv ds S0 Q X) : ds.length = 2 ∧ wpSs G b (start 8 ds) S0 (kR Q X) := by
  obtain ⟨t, m, rfl, hp, hb2, hq⟩ := h
  subst hb
  refine ⟨rfl, ?_⟩
  obtain ⟨M, rfl⟩ : ∃ M : Nat, m = M := ⟨m.toNat, by omega⟩
  have h0 := Int.emod_nonneg t (show (M : Int) ≠ 0 by omega)
  have h1 := Int.emod_lt_of_pos t hp
  obtain ⟨V, hV⟩ : ∃ V : Nat, t % (M : Int) = V := ⟨(t % (M : Int)).toNat, by omega⟩
  simp only [wpSs, wpS, wpE, wpEs, wpC, wpAnd, wpOr, wpO, wpIt, opt_some, onI_int, onB_bl, onR_ref, arg1_one, look, joinO, start, List.map_cons, List.map_nil, List.length_cons, List.length_nil, List.replicate, List.cons_append, List.nil_append, List.append_nil, List.getElem?_cons_succ, List.getElem?_cons_zero, kcD, Nat.reduceAdd, Nat.reduceSub, br_t, br_f, br_n, asg, setAll, List.set_cons_succ, List.set_cons_zero, tgs, wipe, eq_ii, ne_ii, lt_ii, le_ii, gt_ii, ge_ii, is_n, isn_n, is_b, isn_b, add_ii, sub_ii, mul_ii, mod_ii, fdiv_ii, pow_ii, isNon, biD, intD_i, intD_b, esLen, beq_self_eq_true, ixD_tup, lsOf_new, seqD_tup, seqD_fl, slD_tup, bools, Option.map_some, true_and, ixD_fl, lenD_tup, lenD_fl, ix30, ix31, ix32, at20, at21, at30, at31, at32, List.filterMap_cons, List.filterMap_nil, fmod_pos hp, hV]
  refine ⟨by omega, len_lim (by decide), ?_⟩
  have hbM : M < 2 ^ 3000 := by have : (M : Int).natAbs < 2 ^ 3000 := hb2; omega
  have bd : ∀ i : Int, i.natAbs ≤ M → Bd 3000 i := fun i h => Nat.lt_of_le_of_lt h hbM
  have go := bez (step := fun ρ1 S1 nx => wpE G (.cmp .ne (.v 3) (.k (.int 0))) ρ1 S1 (fun x S2 => onB x fun k => br k (wpSs G (.cons (.set (.v 6) (.bin .fdiv (.v 2) (.v 3))) (.cons (.set (.v 7) (.bin .sub (.v 2) (.bin .mul (.v 6) (.v 3)))) (.cons (.set (.v 2) (.v 3)) (.cons (.set (.v 3) (.v 7)) (.cons (.set (.v 7) (.bin .sub (.v 4) (.bin .mul (.v 6) (.v 5)))) (.cons (.set (.v 4) (.v 5)) (.cons (.set (.v 5) (.v 7)) .nil))))))) ρ1 S2 ⟨nx, Q, fun _ _ => False, fun k fs _ S' => X k fs S'⟩) (wpSs G (.cons (.ret (.bin .mod (.v 4) (.v 1))) .nil) ρ1 S2 (kR Q X))) (fun c fs S2 => X c fs S2)) (S := S0) (mk := fun u v b f o6 o7 => [some (.int t), some (.int (M : Int)), some (.int (u : Int)), some (.int (v : Int)), some (.int b), some (.int f), o6, o7]) (m := M)
    (fun u b f o6 o7 nx => by
      simp only [wpSs, wpS, wpE, wpEs, wpC, wpAnd, wpOr, wpO, wpIt, opt_some, onI_int, onB_bl, onR_ref, arg1_one, look, joinO, start, List.map_cons, List.map_nil, List.length_cons, List.length_nil, List.replicate, List.cons_append, List.nil_append, List.append_nil, List.getElem?_cons_succ, List.getElem?_cons_zero, kcD, Nat.reduceAdd, Nat.reduceSub, br_t, br_f, br_n, asg, setAll, List.set_cons_succ, List.set_cons_zero, tgs, wipe, eq_ii, ne_ii, lt_ii, le_ii, gt_ii, ge_ii, is_n, isn_n, is_b, isn_b, add_ii, sub_ii, mul_ii, mod_ii, fdiv_ii, pow_ii, isNon, biD, intD_i, intD_b, esLen, beq_self_eq_true, ixD_tup, lsOf_new, seqD_tup, seqD_fl, slD_tup, bools, Option.map_some, true_and, ixD_fl, lenD_tup, lenD_fl, ix30, ix31, ix32, at20, at21, at30, at31, at32, List.filterMap_cons, List.filterMap_nil, Int.natCast_zero, fmod_pos hp]
      exact ⟨by omega, hq _ (Int.emod_nonneg _ (by omega)) (Int.emod_lt_of_pos _ hp)⟩)
    (fun u v b f o6 o7 nx hv hu hm hk k => by
      have hb : ((v : Int) == 0) = false := by simp; omega
      have hpv : (0 : Int) < (v : Int) := by omega
      have hf : Int.fdiv (u : Int) (v : Int) = ((u / v : Nat) : Int) := by rw [fdiv_pos hpv]; rfl
      have hr : (u : Int) - ((u / v : Nat) : Int) * (v : Int) = ((u % v : Nat) : Int) := by
        have := Nat.div_add_mod u v
        have e : ((v * (u / v) + u % v : Nat) : Int) = (u : Int) := by rw [this]
        rw [Int.natCast_add, Int.natCast_mul, Int.mul_comm] at e
        omega
      have hq1 : u / v ≤ u := Nat.div_le_self _ _
      have hf1 : f.natAbs ≤ M := by
        have : f.natAbs * 1 ≤ f.natAbs * u := Nat.mul_le_mul_left _ (by omega)
        omega
      simp only [wpSs, wpS, wpE, wpEs, wpC, wpAnd, wpOr, wpO, wpIt, opt_some, onI_int, onB_bl, onR_ref, arg1_one, look, joinO, start, List.map_cons, List.map_nil, List.length_cons, List.length_nil, List.replicate, List.cons_append, List.nil_append, List.append_nil, List.getElem?_cons_succ, List.getElem?_cons_zero, kcD, Nat.reduceAdd, Nat.reduceSub, br_t, br_f, br_n, asg, setAll, List.set_cons_succ, List.set_cons_zero, tgs, wipe, eq_ii, ne_ii, lt_ii, le_ii, gt_ii, ge_ii, is_n, isn_n, is_b, isn_b, add_ii, sub_ii, mul_ii, mod_ii, fdiv_ii, pow_ii, isNon, biD, intD_i, intD_b, esLen, beq_self_eq_true, ixD_tup, lsOf_new, seqD_tup, seqD_fl, slD_tup, bools, Option.map_some, true_and, ixD_fl, lenD_tup, lenD_fl, ix30, ix31, ix32, at20, at21, at30, at31, at32, List.filterMap_cons, List.filterMap_nil, hb, hf, hr]
      have q1 : sm ((u / v : Nat) : Int) := (bd _ (by rw [Int.natAbs_natCast]; omega)).sm (by decide)
      have q2 : sm (v : Int) := (bd _ (by rw [Int.natAbs_natCast]; omega)).sm (by decide)
      have q3 : smd (v : Int) := (bd _ (by rw [Int.natAbs_natCast]; omega)).smd (by decide)
      exact ⟨by omega, q3, q1, q2, q1, (bd _ hf1).sm (by decide), k _ _⟩)
    V M V 0 1 (Nat.le_refl _) (by omega) (Nat.le_refl _) (by simp)
  obtain ⟨k, hk⟩ := go
  exact ⟨k, by have := hk none none; simpa only [wpSs, wpS, wpE, wpEs, wpC, wpAnd, wpOr, wpO, wpIt, opt_some, onI_int, onB_bl, onR_ref, arg1_one, look, joinO, start, List.map_cons, List.map_nil, List.length_cons, List.length_nil, List.replicate, List.cons_append, List.nil_append, List.append_nil, List.getElem?_cons_succ, List.getElem?_cons_zero, kcD, Nat.reduceAdd, Nat.reduceSub, br_t, br_f, br_n, asg, setAll, List.set_cons_succ, List.set_cons_zero, tgs, wipe, eq_ii, ne_ii, lt_ii, le_ii, gt_ii, ge_ii, is_n, isn_n, is_b, isn_b, add_ii, sub_ii, mul_ii, mod_ii, fdiv_ii, pow_ii, isNon, biD, intD_i, intD_b, esLen, beq_self_eq_true, ixD_tup, lsOf_new, seqD_tup, seqD_fl, slD_tup, bools, Option.map_some, true_and, ixD_fl, lenD_tup, lenD_fl, ix30, ix31, ix32, at20, at21, at30, at31, at32, List.filterMap_cons, List.filterMap_nil] using this⟩
/-- least_solution(factor, rest, modulus): its size -/
def spLeast : Sp := fun ds S Q _ => ∃ f r m, ds = [.int f, .int r, .int m] ∧ 0 < m ∧ Bd 3000 m ∧ Bd 3000 r ∧ Q .non S ∧ ∀ l s : Int, 0 ≤ l → l < m → Q (.tup [.int l, .int s]) S
theorem txt_least {G : Gm} {ds : List D} {S0 : Sto} {Q : VK} {X : XK} {b : Ss} (hb : b = (.cons (.set (.v 3) (.call 1 (.cons (.v 0) (.cons (.v 2) .nil)))) (.cons (.if_ (.cmp .ne (.bin .mod (.v 1) (.v 3)) (.k (.int 0))) (.cons (.ret (.k .non)) .nil) .nil) (.cons (.set (.v 4) (.bin .fdiv (.v 2) (.v 3))) (.cons (.ret (.tup (.cons (.bin .mod (.bin .mul (.bin .fdiv (.v 1) (.v 3)) (.call 5 (.cons (.bin .fdiv (.v 0) (.v 3)) (.cons (.v 4) .nil)))) (.v 4)) (.cons (.v 4) .nil)))) .nil))))) (h1 : G.fn 1 = spGcd) (h3 : G.fn 5 = spInv) (h : spLeast ds S0 Q X) : ds.length = 3 ∧ wpSs G b (start 5 ds) S0 (kR Q X) := by
  obtain ⟨f, r, m, rfl, hp, hm, hr, hn, hq⟩ := h
  subst hb
  refine ⟨rfl, ?_⟩
  have g0 := gcd_pos (t := f) hp
  have bg := gcd_bd (t := f) hm hp
  have sp := gdiv_pos (t := f) hp
  have sl : m / ((Int.gcd f m : Nat) : Int) ≤ m := Int.ediv_le_self _ (by omega)
  have bs : Bd 3000 (m / ((Int.gcd f m : Nat) : Int)) := hm.div
  simp only [wpSs, wpS, wpE, wpEs, wpC, wpAnd, wpOr, wpO, wpIt, opt_some, onI_int, onB_bl, onR_ref, arg1_one, look, joinO, start, List.map_cons, List.map_nil, List.length_cons, List.length_nil, List.replicate, List.cons_append, List.nil_append, List.append_nil, List.getElem?_cons_succ, List.getElem?_cons_zero, kcD, Nat.reduceAdd, Nat.reduceSub, br_t, br_f, br_n, asg, setAll, List.set_cons_succ, List.set_cons_zero, tgs, wipe, eq_ii, ne_ii, lt_ii, le_ii, gt_ii, ge_ii, is_n, isn_n, is_b, isn_b, add_ii, sub_ii, mul_ii, mod_ii, fdiv_ii, pow_ii, isNon, biD, intD_i, intD_b, esLen, beq_self_eq_true, ixD_tup, lsOf_new, seqD_tup, seqD_fl, slD_tup, bools, Option.map_some, true_and, ixD_fl, lenD_tup, lenD_fl, ix30, ix31, ix32, at20, at21, at30, at31, at32, List.filterMap_cons, List.filterMap_nil]
  refine call h1 ⟨f, m, rfl, ?_⟩
  simp only [wpSs, wpS, wpE, wpEs, wpC, wpAnd, wpOr, wpO, wpIt, opt_some, onI_int, onB_bl, onR_ref, arg1_one, look, joinO, start, List.map_cons, List.map_nil, List.length_cons, List.length_nil, List.replicate, List.cons_append, List.nil_append, List.append_nil, List.getElem?_cons_succ, List.getElem?_cons_zero, kcD, Nat.reduceAdd, Nat.reduceSub, br_t, br_f, br_n, asg, setAll, List.set_cons_succ, List.set_cons_zero, tgs, wipe, eq_ii, ne_ii, lt_ii, le_ii, gt_ii, ge_ii, is_n, isn_n, is_b, isn_b, add_ii, sub_ii, mul_ii, mod_ii, fdiv_ii, pow_ii, isNon, biD, intD_i, intD_b, esLen, beq_self_eq_true, ixD_tup, lsOf_new, seqD_tup, seqD_fl, slD_tup, bools, Option.map_some, true_and, ixD_fl, lenD_tup, lenD_fl, ix30, ix31, ix32, at20, at21, at30, at31, at32, List.filterMap_cons, List.filterMap_nil, fmod_pos g0, fdiv_pos g0]
  refine ⟨by omega, br_if (fun _ => ⟨by omega, bg.smd (by decide), by omega, bg.smd (by decide), by omega, bg.smd (by decide), ?_⟩) fun _ => hn⟩
  refine call h3 ⟨_, _, rfl, sp, bs, fun d d0 d1 => ?_⟩
  simp only [wpSs, wpS, wpE, wpEs, wpC, wpAnd, wpOr, wpO, wpIt, opt_some, onI_int, onB_bl, onR_ref, arg1_one, look, joinO, start, List.map_cons, List.map_nil, List.length_cons, List.length_nil, List.replicate, List.cons_append, List.nil_append, List.append_nil, List.getElem?_cons_succ, List.getElem?_cons_zero, kcD, Nat.reduceAdd, Nat.reduceSub, br_t, br_f, br_n, asg, setAll, List.set_cons_succ, List.set_cons_zero, tgs, wipe, eq_ii, ne_ii, lt_ii, le_ii, gt_ii, ge_ii, is_n, isn_n, is_b, isn_b, add_ii, sub_ii, mul_ii, mod_ii, fdiv_ii, pow_ii, isNon, biD, intD_i, intD_b, esLen, beq_self_eq_true, ixD_tup, lsOf_new, seqD_tup, seqD_fl, slD_tup, bools, Option.map_some, true_and, ixD_fl, lenD_tup, lenD_fl, ix30, ix31, ix32, at20, at21, at30, at31, at32, List.filterMap_cons, List.filterMap_nil, fmod_pos sp]
  refine ⟨hr.div.sm (by decide), (bs.le d0 (by omega)).sm (by decide), by omega, len_lim (by decide), hq _ _ (Int.emod_nonneg _ (by omega)) ?_⟩
  have := Int.emod_lt_of_pos (r / ((Int.gcd f m : Nat) : Int) * d) sp
  omega
end M
namespace M
/-! ### checks that raise -/
/-- the error of that number is raised, or it goes on -/
def outK : Option Nat → (Sto → Prop) → XK → Sto → Prop
  | none, Q, _, S => Q S
  | some k, _, X, S => X k [] S
def tA : D → Int
  | .tup [.int a, _] => a
  | _ => 0
def tB : D → Int
  | .tup [_, .int b] => b
  | _ => 0
theorem tab_of {v : D} (h : tabB v = true) : ∃ a b, v = .tup [.int a, .int b] ∧ 1 ≤ a ∧ 1 ≤ b := by
  cases v with
  | tup xs =>
    have h : tabL xs = true := h
    unfold tabL at h
    split at h
    · obtain ⟨h1, h2⟩ := Bool.and_eq_true_iff.mp h
      obtain ⟨i, rfl, hi⟩ := intB_of h1
      obtain ⟨j, rfl, hj⟩ := intB_of h2
      exact ⟨i, j, rfl, hi, hj⟩
    · cases h
  | _ => cases h
theorem part_ij {v : D} (h : partB v = true) : ∃ a b, v = .tup [.int a, .int b] ∧ 1 ≤ b := by
  cases v with
  | tup xs =>
    have h : partL xs = true := h
    unfold partL at h
    split at h
    · obtain ⟨h, _⟩ := Bool.and_eq_true_iff.mp h
      obtain ⟨h1, h2⟩ := Bool.and_eq_true_iff.mp h
      obtain ⟨i, rfl⟩ := isI_of h1
      obtain ⟨j, rfl, hj⟩ := intB_of h2
      exact ⟨i, j, rfl, hj⟩
    · cases h
  | _ => cases h
def eT (t : D) : Option Nat := if tabB t = true then none else some 0
def eS (t v : D) : Option Nat := if tabB t = true then (if rollB (tA t) (tB t) v = true then none else some 1) else some 0
def eP (v : D) : Option Nat := if partB v = true then none else some 2
def spCkT : Sp := fun ds S Q X => ∃ v, ds = [v] ∧ Vl S v ∧ ∀ S', Ext S S' → outK (eT v) (Q .non) X S'
theorem txt_ckT {G : Gm} {ds : List D} {S0 : Sto} {Q : VK} {X : XK} {b : Ss} (hb : b = (.cons (.if_ (.not (.call 10 (.cons (.v 0) .nil))) (.cons (.raise 0 .nil) .nil) .nil) .nil)) (h2 : G.fn 10 = spTab) (h : spCkT ds S0 Q X) : ds.length = 1 ∧ wpSs G b (start 1 ds) S0 (kR Q X) := by
  obtain ⟨v, rfl, hv, hq⟩ := h
  subst hb
  refine ⟨rfl, ?_⟩
  simp only [wpSs, wpS, wpE, wpEs, wpC, wpAnd, wpOr, wpO, wpIt, opt_some, onI_int, onB_bl, onR_ref, arg1_one, look, joinO, start, List.map_cons, List.map_nil, List.length_cons, List.length_nil, List.replicate, List.cons_append, List.nil_append, List.append_nil, List.getElem?_cons_succ, List.getElem?_cons_zero, kcD, Nat.reduceAdd, Nat.reduceSub, br_t, br_f, br_n, asg, setAll, List.set_cons_succ, List.set_cons_zero, tgs, wipe, eq_ii, ne_ii, lt_ii, le_ii, gt_ii, ge_ii, is_n, isn_n, is_b, isn_b, add_ii, sub_ii, mul_ii, mod_ii, fdiv_ii, pow_ii, isNon, biD, intD_i, intD_b, esLen, beq_self_eq_true, ixD_tup, lsOf_new, seqD_tup, seqD_fl, slD_tup, bools, Option.map_some, true_and, ixD_fl, lenD_tup, lenD_fl, ix30, ix31, ix32, at20, at21, at30, at31, at32, List.filterMap_cons, List.filterMap_nil]
  refine call h2 ⟨_, rfl, hv, fun S1 k1 => ?_⟩
  have hq := hq S1 k1
  unfold eT at hq
  simp only [wpSs, wpS, wpE, wpEs, wpC, wpAnd, wpOr, wpO, wpIt, opt_some, onI_int, onB_bl, onR_ref, arg1_one, look, joinO, start, List.map_cons, List.map_nil, List.length_cons, List.length_nil, List.replicate, List.cons_append, List.nil_append, List.append_nil, List.getElem?_cons_succ, List.getElem?_cons_zero, kcD, Nat.reduceAdd, Nat.reduceSub, br_t, br_f, br_n, asg, setAll, List.set_cons_succ, List.set_cons_zero, tgs, wipe, eq_ii, ne_ii, lt_ii, le_ii, gt_ii, ge_ii, is_n, isn_n, is_b, isn_b, add_ii, sub_ii, mul_ii, mod_ii, fdiv_ii, pow_ii, isNon, biD, intD_i, intD_b, esLen, beq_self_eq_true, ixD_tup, lsOf_new, seqD_tup, seqD_fl, slD_tup, bools, Option.map_some, true_and, ixD_fl, lenD_tup, lenD_fl, ix30, ix31, ix32, at20, at21, at30, at31, at32, List.filterMap_cons, List.filterMap_nil]
  refine br_if (fun h => ?_) fun h => ?_
  · rw [if_pos h] at hq; exact hq
  · rw [if_neg (by rw [h]; exact Bool.false_ne_true)] at hq; exact hq
def spCkS : Sp := fun ds S Q X => ∃ t v, ds = [t, v] ∧ Vl S t ∧ Vl S v ∧ ∀ S', Ext S S' → outK (eS t v) (Q .non) X S'
theorem txt_ckS {G : Gm} {ds : List D} {S0 : Sto} {Q : VK} {X : XK} {b : Ss} (hb : b = (.cons (.ex (.call 14 (.cons (.v 0) .nil))) (.cons (.if_ (.not (.call 12 (.cons (.v 0) (.cons (.v 1) .nil)))) (.cons (.raise 1 .nil) .nil) .nil) .nil))) (h7 : G.fn 14 = spCkT) (h5 : G.fn 12 = spOn) (h : spCkS ds S0 Q X) : ds.length = 2 ∧ wpSs G b (start 2 ds) S0 (kR Q X) := by
  obtain ⟨t, v, rfl, ht, hv, hq⟩ := h
  subst hb
  refine ⟨rfl, ?_⟩
  simp only [wpSs, wpS, wpE, wpEs, wpC, wpAnd, wpOr, wpO, wpIt, opt_some, onI_int, onB_bl, onR_ref, arg1_one, look, joinO, start, List.map_cons, List.map_nil, List.length_cons, List.length_nil, List.replicate, List.cons_append, List.nil_append, List.append_nil, List.getElem?_cons_succ, List.getElem?_cons_zero, kcD, Nat.reduceAdd, Nat.reduceSub, br_t, br_f, br_n, asg, setAll, List.set_cons_succ, List.set_cons_zero, tgs, wipe, eq_ii, ne_ii, lt_ii, le_ii, gt_ii, ge_ii, is_n, isn_n, is_b, isn_b, add_ii, sub_ii, mul_ii, mod_ii, fdiv_ii, pow_ii, isNon, biD, intD_i, intD_b, esLen, beq_self_eq_true, ixD_tup, lsOf_new, seqD_tup, seqD_fl, slD_tup, bools, Option.map_some, true_and, ixD_fl, lenD_tup, lenD_fl, ix30, ix31, ix32, at20, at21, at30, at31, at32, List.filterMap_cons, List.filterMap_nil]
  refine call h7 ⟨t, rfl, ht, fun S1 k1 => ?_⟩
  unfold eT
  unfold eS at hq
  by_cases hT : tabB t = true
  · rw [if_pos hT]
    obtain ⟨a, b2, rfl, _, _⟩ := tab_of hT
    refine call h5 ⟨a, b2, v, rfl, hv.ext k1, fun S2 k2 => ?_⟩
    have hq := hq S2 (k1.trans k2)
    rw [if_pos hT] at hq
    have hq : outK (if rollB a b2 v = true then none else some 1) (Q .non) X S2 := hq
    simp only [wpSs, wpS, wpE, wpEs, wpC, wpAnd, wpOr, wpO, wpIt, opt_some, onI_int, onB_bl, onR_ref, arg1_one, look, joinO, start, List.map_cons, List.map_nil, List.length_cons, List.length_nil, List.replicate, List.cons_append, List.nil_append, List.append_nil, List.getElem?_cons_succ, List.getElem?_cons_zero, kcD, Nat.reduceAdd, Nat.reduceSub, br_t, br_f, br_n, asg, setAll, List.set_cons_succ, List.set_cons_zero, tgs, wipe, eq_ii, ne_ii, lt_ii, le_ii, gt_ii, ge_ii, is_n, isn_n, is_b, isn_b, add_ii, sub_ii, mul_ii, mod_ii, fdiv_ii, pow_ii, isNon, biD, intD_i, intD_b, esLen, beq_self_eq_true, ixD_tup, lsOf_new, seqD_tup, seqD_fl, slD_tup, bools, Option.map_some, true_and, ixD_fl, lenD_tup, lenD_fl, ix30, ix31, ix32, at20, at21, at30, at31, at32, List.filterMap_cons, List.filterMap_nil]
    refine br_if (fun h => ?_) fun h => ?_
    · rw [if_pos h] at hq; exact hq
    · rw [if_neg (by rw [h]; exact Bool.false_ne_true)] at hq; exact hq
  · rw [if_neg hT]
    have hq := hq S1 k1
    rw [if_neg hT] at hq
    exact hq
def spCkP : Sp := fun ds S Q X => ∃ v, ds = [v] ∧ Vl S v ∧ ∀ S', Ext S S' → outK (eP v) (Q .non) X S'
theorem txt_ckP {G : Gm} {ds : List D} {S0 : Sto} {Q : VK} {X : XK} {b : Ss} (hb : b = (.cons (.if_ (.not (.call 13 (.cons (.v 0) .nil))) (.cons (.raise 2 .nil) .nil) .nil) .nil)) (h6 : G.fn 13 = spPart) (h : spCkP ds S0 Q X) : ds.length = 1 ∧ wpSs G b (start 1 ds) S0 (kR Q X) := by
  obtain ⟨v, rfl, hv, hq⟩ := h
  subst hb
  refine ⟨rfl, ?_⟩
  simp only [wpSs, wpS, wpE, wpEs, wpC, wpAnd, wpOr, wpO, wpIt, opt_some, onI_int, onB_bl, onR_ref, arg1_one, look, joinO, start, List.map_cons, List.map_nil, List.length_cons, List.length_nil, List.replicate, List.cons_append, List.nil_append, List.append_nil, List.getElem?_cons_succ, List.getElem?_cons_zero, kcD, Nat.reduceAdd, Nat.reduceSub, br_t, br_f, br_n, asg, setAll, List.set_cons_succ, List.set_cons_zero, tgs, wipe, eq_ii, ne_ii, lt_ii, le_ii, gt_ii, ge_ii, is_n, isn_n, is_b, isn_b, add_ii, sub_ii, mul_ii, mod_ii, fdiv_ii, pow_ii, isNon, biD, intD_i, intD_b, esLen, beq_self_eq_true, ixD_tup, lsOf_new, seqD_tup, seqD_fl, slD_tup, bools, Option.map_some, true_and, ixD_fl, lenD_tup, lenD_fl, ix30, ix31, ix32, at20, at21, at30, at31, at32, List.filterMap_cons, List.filterMap_nil]
  refine call h6 ⟨v, rfl, hv, fun S1 k1 => ?_⟩
  have hq := hq S1 k1
  unfold eP at hq
  simp only [wpSs, wpS, wpE, wpEs, wpC, wpAnd, wpOr, wpO, wpIt, opt_some, onI_int, onB_bl, onR_ref, arg1_one, look, joinO, start, List.map_cons, List.map_nil, List.length_cons, List.length_nil, List.replicate, List.cons_append, List.nil_append, List.append_nil, List.getElem?_cons_succ, List.getElem?_cons_zero, kcD, Nat.reduceAdd, Nat.reduceSub, br_t, br_f, br_n, asg, setAll, List.set_cons_succ, List.set_cons_zero, tgs, wipe, eq_ii, ne_ii, lt_ii, le_ii, gt_ii, ge_ii, is_n, isn_n, is_b, isn_b, add_ii, sub_ii, mul_ii, mod_ii, fdiv_ii, pow_ii, isNon, biD, intD_i, intD_b, esLen, beq_self_eq_true, ixD_tup, lsOf_new, seqD_tup, seqD_fl, slD_tup, bools, Option.map_some, true_and, ixD_fl, lenD_tup, lenD_fl, ix30, ix31, ix32, at20, at21, at30, at31, at32, List.filterMap_cons, List.filterMap_nil]
  refine br_if (fun h => ?_) fun h => ?_
  · rw [if_pos h] at hq; exact hq
  · rw [if_neg (by rw [h]; exact Bool.false_ne_true)] at hq; exact hq
/-! ### values that stay what they are -/
theorem Kn.kp {n w : Nat} {S S' : Sto} {v : D} (h : Kn S v) (k : Kp w S S') (hw : Well n S' w) : Kn S' v := by
  cases v with
  | ref a =>
    obtain ⟨o, e⟩ := h
    by_cases c : a = w
    · subst c; exact hw.some
    · exact ⟨o, k _ _ c e⟩
  | xn _ _ => exact h
  | _ => trivial
theorem Vl.kp {n w : Nat} {S S' : Sto} {v : D} (h : Vl S v) (k : Kp w S S') (hw : Well n S' w) : Vl S' v := ⟨h.1.kp k hw, fun xs e y hy => (h.2 xs e y hy).kp k hw⟩
theorem tab_tt {a b : Int} (ha : 1 ≤ a) (hb : 1 ≤ b) : tabB (.tup [.int a, .int b]) = true := by
  show ((decide (1 ≤ a) && true) && (decide (1 ≤ b) && true)) = true
  rw [decide_eq_true ha, decide_eq_true hb]; rfl
theorem eS_ok {a b : Int} {v : D} (ha : 1 ≤ a) (hb : 1 ≤ b) (h : rollB a b v = true) : eS (.tup [.int a, .int b]) v = none := by
  unfold eS
  rw [if_pos (tab_tt ha hb)]
  exact if_pos h
theorem eS_no {a b : Int} {v : D} (ha : 1 ≤ a) (hb : 1 ≤ b) (h : rollB a b v = false) : eS (.tup [.int a, .int b]) v = some 1 := by
  unfold eS
  rw [if_pos (tab_tt ha hb)]
  exact if_neg (by show ¬ rollB a b v = true; rw [h]; exact Bool.false_ne_true)
theorem eS_tab {t v : D} (h : tabB t = false) : eS t v = some 0 := by
  unfold eS
  rw [if_neg (by rw [h]; exact Bool.false_ne_true)]
theorem eS_none {t v : D} (h : eS t v = none) : ∃ a b x y p q, t = .tup [.int a, .int b] ∧ v = .tup [.int x, .int y, .int p, .int q] ∧ 1 ≤ a ∧ 1 ≤ b ∧ rollB a b v = true ∧ 0 ≤ x ∧ x ≤ a ∧ 0 ≤ y ∧ y ≤ b ∧ (p ≠ 0 ∨ q ≠ 0) := by
  unfold eS at h
  split at h
  · rename_i hT
    obtain ⟨a, b, rfl, ha, hb⟩ := tab_of hT
    split at h
    · rename_i hr
      have hr : rollB a b v = true := hr
      have hr' := hr
      unfold rollB at hr
      obtain ⟨hf, h2⟩ := Bool.and_eq_true_iff.mp hr
      obtain ⟨i, j, m, n, rfl⟩ := free_of hf
      obtain ⟨g1, g2⟩ := Bool.and_eq_true_iff.mp (show (decide (i ≤ a) && decide (j ≤ b)) = true from h2)
      obtain ⟨f1, f3⟩ := Bool.and_eq_true_iff.mp (show ((decide (0 ≤ i) && decide (0 ≤ j)) && !(m == 0 && n == 0)) = true from hf)
      obtain ⟨f1, f2⟩ := Bool.and_eq_true_iff.mp f1
      refine ⟨a, b, i, j, m, n, rfl, rfl, ha, hb, hr', of_decide_eq_true f1, of_decide_eq_true g1, of_decide_eq_true f2, of_decide_eq_true g2, ?_⟩
      by_cases c : m = 0
      · right
        intro z
        rw [c, z] at f3
        cases f3
      · exact .inl c
    · cases h
  · cases h
theorem vl_int {S : Sto} {i : Int} : Vl S (.int i) := ⟨trivial, fun xs e => nomatch e⟩
theorem vl_non {S : Sto} : Vl S .non := ⟨trivial, fun xs e => nomatch e⟩
theorem vl_str {S : Sto} {x : Tx} : Vl S (.str x) := ⟨trivial, fun xs e => nomatch e⟩
theorem vl_bl {S : Sto} {b : Bool} : Vl S (.bl b) := ⟨trivial, fun xs e => nomatch e⟩
theorem vl_ref {S : Sto} {a : Nat} {o : O} (h : S a = some o) : Vl S (.ref a) := ⟨⟨o, h⟩, fun xs e => nomatch e⟩
theorem vl_tup {S : Sto} {xs : List D} (h : ∀ y ∈ xs, Kn S y) : Vl S (.tup xs) := ⟨trivial, fun ys e => by cases e; exact h⟩
end M
namespace M
/-- the shot at a time, or None -/
def shotD (a c x y p q t b : Int) : D := match low (foldT a (x * b + p * t) b) b, low (foldT c (y * b + q * t) b) b with
  | .tup [.int u, .int v], .tup [.int u', .int v'] => if v = 1 ∧ v' = 1 then .tup [.int u, .int u', .int (wayN a (x * b + p * t) b p), .int (wayN c (y * b + q * t) b q)] else .non
  | _, _ => .non
def spShotOf : Sp := fun ds S Q _ => ∃ a c x y p q t b, ds = [prD a c, shD x y p q, prD t b] ∧ Sh a c x y p q t b ∧ Q (shotD a c x y p q t b) S
/-- its numbers are small -/
def Smv : D → Prop
  | .int i => Bd 200 i
  | .tup xs => ∀ i, D.int i ∈ xs → Bd 200 i
  | _ => True
/-- values of any kind: an error, or an answer -/
def spE (n : Nat) (e : List D → Option Nat) : Sp := fun ds S Q X => ds.length = n ∧ (∀ d ∈ ds, Vl S d ∧ Smv d) ∧ ∀ S', Ext S S' → outK (e ds) (fun S' => ∀ d, Q d S') X S'
def nth (ds : List D) (i : Nat) : D := ds.getD i .non
def orE (a b : Option Nat) : Option Nat := match a with
  | none => b
  | some k => some k
theorem l1_of {ds : List D} (h : ds.length = 1) : ∃ a, ds = [a] := by
  match ds, h with
  | [a], _ => exact ⟨a, rfl⟩
theorem l2_of {ds : List D} (h : ds.length = 2) : ∃ a b, ds = [a, b] := by
  match ds, h with
  | [a, b], _ => exact ⟨a, b, rfl⟩
theorem l3_of {ds : List D} (h : ds.length = 3) : ∃ a b c, ds = [a, b, c] := by
  match ds, h with
  | [a, b, c], _ => exact ⟨a, b, c, rfl⟩
def eIsShot (ds : List D) : Option Nat := eT (nth ds 0)
theorem sml_2 {a b : Int} (h : Smv (.tup [.int a, .int b])) : Bd 200 a ∧ Bd 200 b := ⟨h a (by simp), h b (by simp)⟩
theorem sml_4 {a b c d : Int} (h : Smv (.tup [.int a, .int b, .int c, .int d])) : Bd 200 a ∧ Bd 200 b ∧ Bd 200 c ∧ Bd 200 d := ⟨h a (by simp), h b (by simp), h c (by simp), h d (by simp)⟩
def ePlace (ds : List D) : Option Nat := orE (eS (nth ds 0) (nth ds 1)) (eP (nth ds 2))
theorem sh_eof {t v w : D} (ht : Smv t) (hv : Smv v) (hw : Smv w) (h1 : eS t v = none) (h2 : eP w = none) : ∃ a c x y p q m b, t = prD a c ∧ v = shD x y p q ∧ w = prD m b ∧ Sh a c x y p q m b := by
  obtain ⟨a, c, x, y, p, q, rfl, rfl, a1, c1, _⟩ := eS_none h1
  unfold eP at h2
  split at h2
  · rename_i hp
    obtain ⟨m, b, rfl, b1⟩ := part_ij hp
    obtain ⟨g1, g2⟩ := sml_2 ht
    obtain ⟨g3, g4, g5, g6⟩ := sml_4 hv
    obtain ⟨g7, g8⟩ := sml_2 hw
    exact ⟨a, c, x, y, p, q, m, b, rfl, rfl, rfl, a1, c1, b1, g1.up (by decide), g2.up (by decide), g3.up (by decide), g4.up (by decide), g5.up (by decide), g6.up (by decide), g7.up (by decide), g8.up (by decide)⟩
  · cases h2
theorem orE_some {a b : Option Nat} {k : Nat} (h : a = some k) : orE a b = some k := by rw [h]; rfl
theorem orE_none {a b : Option Nat} (h : a = none) : orE a b = b := by rw [h]; rfl
def eCrossed (ds : List D) : Option Nat := eS (nth ds 0) (nth ds 1)
def eTurned (ds : List D) : Option Nat := if freeB (nth ds 0) = true then none else some 1
end M
namespace M
theorem outK_mono {e : Option Nat} {A B : Sto → Prop} {X : XK} {S : Sto} (h : outK e A X S) (f : A S → B S) : outK e B X S := by
  cases e with
  | none => exact f h
  | some k => exact h
theorem br_tt {A B : Prop} (h : A) : br true A B := br_t.mpr h
theorem br_ff {A B : Prop} (h : B) : br false A B := br_f.mpr h
def ancsK : List (List Nat) := [[0, 5, 6], [1, 5, 6], [2, 5, 6], [3, 5, 6], [4, 5, 6], [5, 6]]
def subK (i j : Nat) : Bool := (ancsK.getD i []).contains j
theorem eT_lt {t : D} {k : Nat} (h : eT t = some k) : k < 5 := by
  unfold eT at h
  split at h
  · cases h
  · cases h; decide
theorem eS_lt {t v : D} {k : Nat} (h : eS t v = some k) : k < 5 := by
  unfold eS at h
  split at h
  · split at h
    · cases h
    · cases h; decide
  · cases h; decide
theorem orE_lt {a b : Option Nat} {k n : Nat} (ha : ∀ k, a = some k → k < n) (hb : ∀ k, b = some k → k < n) (h : orE a b = some k) : k < n := by
  cases a with
  | none => exact hb k h
  | some j => exact ha k h
theorem if_lt {p : Prop} [Decidable p] {j k n : Nat} (hj : j < n) (h : (if p then none else some j) = some k) : k < n := by
  split at h
  · cases h
  · cases h; exact hj
theorem count_ref {S : Sto} {a : Nat} {xs : List D} {bs : List Bool} (h : S a = some (.lst xs)) (hb : bools xs = some bs) {c : Bool} {Q : VK} : mtD .count (.ref a) [.bl c] S Q = Q (.int ((bs.count c : Nat) : Int)) S := by
  show opt (lstAt S a) _ = _
  rw [lstAt_eq h]
  show opt (bools xs) _ = _
  rw [hb]
  rfl
theorem index_ref {S : Sto} {a : Nat} {xs : List D} {bs : List Bool} (h : S a = some (.lst xs)) (hb : bools xs = some bs) {c : Bool} {Q : VK} : mtD .index (.ref a) [.bl c] S Q = opt (ixB c bs) fun j => Q (.int ((j : Nat) : Int)) S := by
  show opt (lstAt S a) _ = _
  rw [lstAt_eq h]
  show opt (bools xs) _ = _
  rw [hb]
  rfl
theorem none_of {S S' : Sto} {p : Nat} (k : Ext S S') (h : S' p = none) : S p = none := by
  cases e : S p with
  | none => rfl
  | some o => rw [k p o e] at h; cases h
theorem ext_wr {S S' S2 : Sto} {w : Nat} (k : Ext S S') (h : S w = none) (k2 : Kp w S' S2) : Ext S S2 := fun a o e => k2 a o (fun z => by rw [z, h] at e; cases e) (k a o e)
theorem onX_xn {C : Nat} {fs : List D} {P : Nat → Prop} : onX (.xn C fs) P = P C := rfl
def plA : D → Bool
  | .non => true
  | .int _ => true
  | .str _ => true
  | .bl _ => true
  | _ => false
def plB : D → Bool
  | .tup xs => xs.all plA
  | .non => true
  | .int _ => true
  | .str _ => true
  | .bl _ => true
  | _ => false
theorem plA_kn {S : Sto} {d : D} (h : plA d = true) : Kn S d := by
  cases d with
  | non => trivial
  | int _ => trivial
  | str _ => trivial
  | bl _ => trivial
  | _ => cases h
theorem vl_pl {S : Sto} {d : D} (h : plB d = true) : Vl S d := by
  cases d with
  | tup xs => exact vl_tup fun y hy => plA_kn (List.all_eq_true.mp h y hy)
  | non => exact vl_non
  | int _ => exact vl_int
  | str _ => exact vl_str
  | bl _ => exact vl_bl
  | _ => cases h
def smB : D → Bool
  | .int i => decide (i.natAbs < 2 ^ 200)
  | .tup xs => xs.all fun y => match y with | .int i => decide (i.natAbs < 2 ^ 200) | _ => true
  | _ => true
theorem smv_b {d : D} (h : smB d = true) : Smv d := by
  cases d with
  | int i =>
    show i.natAbs < 2 ^ 200
    exact of_decide_eq_true h
  | tup xs =>
    intro i hi
    show i.natAbs < 2 ^ 200
    exact of_decide_eq_true (List.all_eq_true.mp h _ hi)
  | _ => trivial
theorem smv_ref {a : Nat} : Smv (.ref a) := trivial
/-- a value of no kind that is asked for, and what stands behind it -/
def Zo (S : Sto) (d : D) : Prop := plB d = true ∨ ∃ a o, d = .ref a ∧ S a = some o
theorem Zo.vl {S : Sto} {d : D} (h : Zo S d) : Vl S d := by
  rcases h with h | ⟨a, o, rfl, e⟩
  · exact vl_pl h
  · exact vl_ref e
theorem kp_of {w : Nat} {S S' S2 : Sto} (k : Ext S S') (k2 : Kp w S' S2) : Kp w S S2 := (k.kp w).trans k2
theorem ix_ref {S : Sto} {a : Nat} {xs : List D} (h : S a = some (.lst xs)) {i : Int} {Q : VK} (k : opt (atI xs i) fun d => Q d S) : ixD (.ref a) (.int i) S Q := by rw [ixD_ref h]; exact k
theorem bd_sm {i : Int} (h : i.natAbs < 2 ^ 100) : Bd 200 i := lt_two 100 h (by decide)
theorem nt {b : Bool} (h : b = false) : ¬ (b = true) := by rw [h]; exact Bool.false_ne_true
theorem str_ne {x : Tx} {S : Sto} {Q : Bool → Prop} (h : Q false) : cmpD .ne (.str x) (.str x) S Q := by
  show Q (!(x == x))
  rw [show (x == x) = true from beq_self_eq_true x]
  exact h
end M
namespace M
def alwD : D := .tup [.tup [.int 0, .int 1], .non]
/-- a row of times, ALWAYS, or None; tops below 2 ^ n, bottoms below 2 ^ m -/
inductive IsR (n m : Nat) : D → Prop
  | no : IsR n m .non
  | alw : IsR n m alwD
  | row (t b u c : Int) : 0 ≤ t → 0 < b → 0 < u → 0 < c → Bd n t → Bd m b → Bd n u → Bd m c → IsR n m (.tup [prD t b, prD u c])
theorem row_ne {t b u c : Int} : (D.tup [prD t b, prD u c]) ≠ alwD := by intro h; unfold alwD prD at h; injection h with h; injection h with _ h; injection h with h; cases h
theorem non_ne : D.non ≠ alwD := by unfold alwD; intro h; cases h
def Ax (s x p y q g : Int) : Prop := p - g * q = 0 ∧ (g * y - x) % (2 * s) = 0
theorem bd_of {n : Nat} {i : Int} (h0 : 0 ≤ i) (h1 : i < 2 ^ n) : Bd n i := by
  show i.natAbs < 2 ^ n
  have : ((i.natAbs : Nat) : Int) = i := Int.natAbs_of_nonneg h0
  have h2 : ((i.natAbs : Nat) : Int) < ((2 ^ n : Nat) : Int) := by rw [this]; push_cast; exact h1
  exact Int.ofNat_lt.mp h2
def spAxis : Sp := fun ds S Q _ => ∃ s x p y q g, ds = [.int s, .int x, .int p, .int y, .int q, .int g] ∧ 0 < s ∧ s ≤ 30 ∧ (g = 1 ∨ g = -1) ∧ -5 ≤ p ∧ p ≤ 5 ∧ -5 ≤ q ∧ q ≤ 5 ∧ Bd 150 x ∧ Bd 150 y ∧ ∀ v, IsR 6 4 v → (v = alwD ↔ Ax s x p y q g) → Q v S
theorem txt_axis {G : Gm} {ds : List D} {S0 : Sto} {Q : VK} {X : XK} {b : Ss} (hb : b = (.cons (.set (.v 6) (.bin .sub (.v 2) (.bin .mul (.v 5) (.v 4)))) (.cons (.set (.v 7) (.bin .sub (.bin .mul (.v 5) (.v 3)) (.v 1))) (.cons (.if_ (.cmp .eq (.v 6) (.k (.int 0))) (.cons (.ret (.ite (.cmp .eq (.bin .mod (.v 7) (.bin .mul (.k (.int 2)) (.v 0))) (.k (.int 0))) (.g 0) (.k .non))) .nil) .nil) (.cons (.if_ (.cmp .lt (.v 6) (.k (.int 0))) (.cons (.par 6 7 (.neg (.v 6)) (.neg (.v 7))) .nil) .nil) (.cons (.ret (.tup (.cons (.call 2 (.cons (.bin .mod (.v 7) (.bin .mul (.k (.int 2)) (.v 0))) (.cons (.v 6) .nil))) (.cons (.call 2 (.cons (.bin .mul (.k (.int 2)) (.v 0)) (.cons (.v 6) .nil))) .nil)))) .nil)))))) (h2 : G.fn 2 = spFrac) (hc : G.con 0 = alwD) (h : spAxis ds S0 Q X) : ds.length = 6 ∧ wpSs G b (start 8 ds) S0 (kR Q X) := by
  obtain ⟨s, x, p, y, q, g, rfl, hs, hs30, hg, p0, p1, q0, q1, bx, by_, hq⟩ := h
  subst hb
  refine ⟨rfl, ?_⟩
  have p2 : 0 < 2 * s := by omega
  have bg : Bd 2 g := by rcases hg with rfl | rfl <;> (show Int.natAbs _ < 2 ^ 2; decide)
  have sg := bg.sm (by decide)
  have s2 : sm 2 := bd2.sm (by decide)
  have ss : sm s := sm_of 100 (by decide) (by omega)
  have sq : sm q := sm_of 100 (by decide) (by omega)
  have fin : ∀ sp gp : Int, 0 < sp → sp ≤ 10 → ¬ Ax s x p y q g → sm 2 ∧ sm s ∧ 2 * s ≠ 0 ∧ cl (G.fn 2) [.int (gp % (2 * s)), .int sp] S0 (fun x S1 => sm 2 ∧ sm s ∧ cl (G.fn 2) [.int (2 * s), .int sp] S1 (fun y S2 => 2 ≤ lim ∧ Q (.tup [x, y]) S2) (fun c fs S1 => X c fs S1)) (fun c fs S1 => X c fs S1) := by
    intro sp gp h0 hb hn
    have bsp : Bd 4 sp := bd_of (by omega) (by omega)
    have b2 : Bd 6 (2 * s) := bd_of (by omega) (by omega)
    refine ⟨s2, ss, by omega, call h2 ⟨_, _, rfl, h0, bsp.up (by decide), s2, ss, call h2 ⟨_, _, rfl, h0, bsp.up (by decide), len_lim (by decide), hq _ ?_ ?_⟩⟩⟩
    · refine .row _ _ _ _ ?_ (gdiv_pos h0) ?_ (gdiv_pos h0) ((b2.mod p2).div) (bsp.div) (b2.div) (bsp.div)
      · exact Int.ediv_nonneg (Int.emod_nonneg _ (by omega)) (Int.natCast_nonneg _)
      · have g0 := gcd_pos (t := 2 * s) h0
        exact Int.ediv_pos_of_pos_of_dvd p2 (by omega) (Int.gcd_dvd_left ..)
    · exact ⟨fun h => absurd h row_ne, fun h => absurd h hn⟩
  simp only [wpSs, wpS, wpE, wpEs, wpC, wpAnd, wpOr, wpO, wpIt, opt_some, onI_int, onB_bl, onR_ref, arg1_one, look, joinO, start, List.map_cons, List.map_nil, List.length_cons, List.length_nil, List.replicate, List.cons_append, List.nil_append, List.append_nil, List.getElem?_cons_succ, List.getElem?_cons_zero, kcD, Nat.reduceAdd, Nat.reduceSub, br_t, br_f, br_n, asg, setAll, List.set_cons_succ, List.set_cons_zero, tgs, wipe, eq_ii, ne_ii, lt_ii, le_ii, gt_ii, ge_ii, is_n, isn_n, is_b, isn_b, add_ii, sub_ii, mul_ii, mod_ii, fdiv_ii, pow_ii, isNon, biD, intD_i, intD_b, esLen, beq_self_eq_true, ixD_tup, lsOf_new, seqD_tup, seqD_fl, slD_tup, bools, Option.map_some, true_and, ixD_fl, lenD_tup, lenD_fl, ix30, ix31, ix32, at20, at21, at30, at31, at32, List.filterMap_cons, List.filterMap_nil, fmod_pos p2]
  refine ⟨sg, sq, sg, by_.sm (by decide), br_if (fun h => ⟨s2, ss, by omega, ?_⟩) fun h => ?_⟩
  · have h : p - g * q = 0 := by simpa using h
    refine br_if (fun k => ?_) fun k => ?_
    · rw [hc]
      exact hq _ .alw ⟨fun _ => ⟨h, by simpa using k⟩, fun _ => rfl⟩
    · exact hq _ .no ⟨fun h => absurd h non_ne, fun h => absurd h.2 (by simpa using k)⟩
  · have h : p - g * q ≠ 0 := by simpa using h
    have hb : -10 ≤ p - g * q ∧ p - g * q ≤ 10 := by rcases hg with rfl | rfl <;> omega
    exact br_d (fun k => fin _ _ (by omega) (by omega) fun z => h z.1) fun k => fin _ _ (by omega) (by omega) fun z => h z.1
def spBoth : Sp := fun ds S Q _ => ∃ u v n m, ds = [u, v] ∧ IsR n m u ∧ IsR n m v ∧ n + 4 * m ≤ 1970 ∧ ∀ r S', Ext S S' → IsR (2 * (n + 4 * m)) (4 * m) r → (r = alwD ↔ u = alwD ∧ v = alwD) → Q r S'
theorem IsR.up {n m n' m' : Nat} {v : D} (h : IsR n m v) (k : n ≤ n') (k' : m ≤ m') : IsR n' m' v := by
  cases h with
  | no => exact .no
  | alw => exact .alw
  | row t b u c h0 h1 h2 h3 h4 h5 h6 h7 => exact .row t b u c h0 h1 h2 h3 (h4.up k) (h5.up k') (h6.up k) (h7.up k')
theorem txt_both {G : Gm} {ds : List D} {S0 : Sto} {Q : VK} {X : XK} {b : Ss} (hb : b = (.cons (.if_ (.or (.cmp .is_ (.v 0) (.k .non)) (.cons (.cmp .is_ (.v 1) (.k .non)) .nil)) (.cons (.ret (.k .non)) .nil) .nil) (.cons (.if_ (.or (.cmp .is_ (.ix (.v 0) (.k (.int 1))) (.k .non)) (.cons (.cmp .is_ (.ix (.v 1) (.k (.int 1))) (.k .non)) .nil)) (.cons (.ret (.ite (.cmp .is_ (.ix (.v 0) (.k (.int 1))) (.k .non)) (.v 1) (.v 0))) .nil) .nil) (.cons (.set (.v 2) (.bin .mul (.bin .mul (.bin .mul (.ix (.ix (.v 0) (.k (.int 0))) (.k (.int 1))) (.ix (.ix (.v 0) (.k (.int 1))) (.k (.int 1)))) (.ix (.ix (.v 1) (.k (.int 0))) (.k (.int 1)))) (.ix (.ix (.v 1) (.k (.int 1))) (.k (.int 1))))) (.cons (.set (.tup [3, 4, 5, 6]) (.comp (.bin .mul (.ix (.v 9) (.k (.int 0))) (.bin .fdiv (.v 2) (.ix (.v 9) (.k (.int 1))))) (.v 9) (.seq (.tup (.star (.v 0) (.star (.v 1) .nil)))) .none)) (.cons (.set (.v 7) (.call 6 (.cons (.v 4) (.cons (.bin .sub (.v 5) (.v 3)) (.cons (.v 6) .nil))))) (.cons (.if_ (.cmp .is_ (.v 7) (.k .non)) (.cons (.ret (.k .non)) .nil) .nil) (.cons (.set (.v 8) (.bin .mul (.bin .fdiv (.v 4) (.call 1 (.cons (.v 4) (.cons (.v 6) .nil)))) (.v 6))) (.cons (.ret (.tup (.cons (.call 2 (.cons (.bin .mod (.bin .add (.v 3) (.bin .mul (.v 4) (.ix (.v 7) (.k (.int 0))))) (.v 8)) (.cons (.v 2) .nil))) (.cons (.call 2 (.cons (.v 8) (.cons (.v 2) .nil))) .nil)))) .nil))))))))) (h1 : G.fn 1 = spGcd) (h2 : G.fn 2 = spFrac) (h4 : G.fn 6 = spLeast) (h : spBoth ds S0 Q X) : ds.length = 2 ∧ wpSs G b (start 10 ds) S0 (kR Q X) := by
  obtain ⟨u, v, n, m, rfl, hu, hv, hnm, hq⟩ := h
  subst hb
  refine ⟨rfl, ?_⟩
  have no : ∀ S', Ext S0 S' → (u ≠ alwD ∨ v ≠ alwD) → Q .non S' := fun S' k h => hq _ _ k .no ⟨fun z => absurd z non_ne, fun z => h.elim (absurd z.1) (absurd z.2)⟩
  cases hu with
  | no =>
    simp only [wpSs, wpS, wpE, wpEs, wpC, wpAnd, wpOr, wpO, wpIt, opt_some, onI_int, onB_bl, onR_ref, arg1_one, look, joinO, start, List.map_cons, List.map_nil, List.length_cons, List.length_nil, List.replicate, List.cons_append, List.nil_append, List.append_nil, List.getElem?_cons_succ, List.getElem?_cons_zero, kcD, Nat.reduceAdd, Nat.reduceSub, br_t, br_f, br_n, asg, setAll, List.set_cons_succ, List.set_cons_zero, tgs, wipe, eq_ii, ne_ii, lt_ii, le_ii, gt_ii, ge_ii, is_n, isn_n, is_b, isn_b, add_ii, sub_ii, mul_ii, mod_ii, fdiv_ii, pow_ii, isNon, biD, intD_i, intD_b, esLen, beq_self_eq_true, ixD_tup, lsOf_new, seqD_tup, seqD_fl, slD_tup, bools, Option.map_some, true_and, ixD_fl, lenD_tup, lenD_fl, ix30, ix31, ix32, at20, at21, at30, at31, at32, List.filterMap_cons, List.filterMap_nil]
    exact no _ Ext.refl (.inl non_ne)
  | alw =>
    cases hv with
    | no =>
      simp only [wpSs, wpS, wpE, wpEs, wpC, wpAnd, wpOr, wpO, wpIt, opt_some, onI_int, onB_bl, onR_ref, arg1_one, look, joinO, start, List.map_cons, List.map_nil, List.length_cons, List.length_nil, List.replicate, List.cons_append, List.nil_append, List.append_nil, List.getElem?_cons_succ, List.getElem?_cons_zero, kcD, Nat.reduceAdd, Nat.reduceSub, br_t, br_f, br_n, asg, setAll, List.set_cons_succ, List.set_cons_zero, tgs, wipe, eq_ii, ne_ii, lt_ii, le_ii, gt_ii, ge_ii, is_n, isn_n, is_b, isn_b, add_ii, sub_ii, mul_ii, mod_ii, fdiv_ii, pow_ii, isNon, biD, intD_i, intD_b, esLen, beq_self_eq_true, ixD_tup, lsOf_new, seqD_tup, seqD_fl, slD_tup, bools, Option.map_some, true_and, ixD_fl, lenD_tup, lenD_fl, ix30, ix31, ix32, at20, at21, at30, at31, at32, List.filterMap_cons, List.filterMap_nil, alwD]
      exact no _ Ext.refl (.inr non_ne)
    | alw =>
      have := hq _ _ Ext.refl .alw ⟨fun _ => ⟨rfl, rfl⟩, fun _ => rfl⟩
      simp only [wpSs, wpS, wpE, wpEs, wpC, wpAnd, wpOr, wpO, wpIt, opt_some, onI_int, onB_bl, onR_ref, arg1_one, look, joinO, start, List.map_cons, List.map_nil, List.length_cons, List.length_nil, List.replicate, List.cons_append, List.nil_append, List.append_nil, List.getElem?_cons_succ, List.getElem?_cons_zero, kcD, Nat.reduceAdd, Nat.reduceSub, br_t, br_f, br_n, asg, setAll, List.set_cons_succ, List.set_cons_zero, tgs, wipe, eq_ii, ne_ii, lt_ii, le_ii, gt_ii, ge_ii, is_n, isn_n, is_b, isn_b, add_ii, sub_ii, mul_ii, mod_ii, fdiv_ii, pow_ii, isNon, biD, intD_i, intD_b, esLen, beq_self_eq_true, ixD_tup, lsOf_new, seqD_tup, seqD_fl, slD_tup, bools, Option.map_some, true_and, ixD_fl, lenD_tup, lenD_fl, ix30, ix31, ix32, at20, at21, at30, at31, at32, List.filterMap_cons, List.filterMap_nil, alwD] at this ⊢
      exact this
    | row t b u c k0 k1 k2 k3 k4 k5 k6 k7 =>
      have := hq _ _ Ext.refl (.row t b u c k0 k1 k2 k3 (k4.up (by omega)) (k5.up (by omega)) (k6.up (by omega)) (k7.up (by omega))) ⟨fun z => absurd z row_ne, fun z => absurd z.2 row_ne⟩
      simp only [wpSs, wpS, wpE, wpEs, wpC, wpAnd, wpOr, wpO, wpIt, opt_some, onI_int, onB_bl, onR_ref, arg1_one, look, joinO, start, List.map_cons, List.map_nil, List.length_cons, List.length_nil, List.replicate, List.cons_append, List.nil_append, List.append_nil, List.getElem?_cons_succ, List.getElem?_cons_zero, kcD, Nat.reduceAdd, Nat.reduceSub, br_t, br_f, br_n, asg, setAll, List.set_cons_succ, List.set_cons_zero, tgs, wipe, eq_ii, ne_ii, lt_ii, le_ii, gt_ii, ge_ii, is_n, isn_n, is_b, isn_b, add_ii, sub_ii, mul_ii, mod_ii, fdiv_ii, pow_ii, isNon, biD, intD_i, intD_b, esLen, beq_self_eq_true, ixD_tup, lsOf_new, seqD_tup, seqD_fl, slD_tup, bools, Option.map_some, true_and, ixD_fl, lenD_tup, lenD_fl, ix30, ix31, ix32, at20, at21, at30, at31, at32, List.filterMap_cons, List.filterMap_nil, alwD] at this ⊢
      exact this
  | row t b u c k0 k1 k2 k3 k4 k5 k6 k7 =>
    cases hv with
    | no =>
      simp only [wpSs, wpS, wpE, wpEs, wpC, wpAnd, wpOr, wpO, wpIt, opt_some, onI_int, onB_bl, onR_ref, arg1_one, look, joinO, start, List.map_cons, List.map_nil, List.length_cons, List.length_nil, List.replicate, List.cons_append, List.nil_append, List.append_nil, List.getElem?_cons_succ, List.getElem?_cons_zero, kcD, Nat.reduceAdd, Nat.reduceSub, br_t, br_f, br_n, asg, setAll, List.set_cons_succ, List.set_cons_zero, tgs, wipe, eq_ii, ne_ii, lt_ii, le_ii, gt_ii, ge_ii, is_n, isn_n, is_b, isn_b, add_ii, sub_ii, mul_ii, mod_ii, fdiv_ii, pow_ii, isNon, biD, intD_i, intD_b, esLen, beq_self_eq_true, ixD_tup, lsOf_new, seqD_tup, seqD_fl, slD_tup, bools, Option.map_some, true_and, ixD_fl, lenD_tup, lenD_fl, ix30, ix31, ix32, at20, at21, at30, at31, at32, List.filterMap_cons, List.filterMap_nil]
      exact no _ Ext.refl (.inr non_ne)
    | alw =>
      have := hq _ _ Ext.refl (.row t b u c k0 k1 k2 k3 (k4.up (by omega)) (k5.up (by omega)) (k6.up (by omega)) (k7.up (by omega))) ⟨fun z => absurd z row_ne, fun z => absurd z.1 row_ne⟩
      simp only [wpSs, wpS, wpE, wpEs, wpC, wpAnd, wpOr, wpO, wpIt, opt_some, onI_int, onB_bl, onR_ref, arg1_one, look, joinO, start, List.map_cons, List.map_nil, List.length_cons, List.length_nil, List.replicate, List.cons_append, List.nil_append, List.append_nil, List.getElem?_cons_succ, List.getElem?_cons_zero, kcD, Nat.reduceAdd, Nat.reduceSub, br_t, br_f, br_n, asg, setAll, List.set_cons_succ, List.set_cons_zero, tgs, wipe, eq_ii, ne_ii, lt_ii, le_ii, gt_ii, ge_ii, is_n, isn_n, is_b, isn_b, add_ii, sub_ii, mul_ii, mod_ii, fdiv_ii, pow_ii, isNon, biD, intD_i, intD_b, esLen, beq_self_eq_true, ixD_tup, lsOf_new, seqD_tup, seqD_fl, slD_tup, bools, Option.map_some, true_and, ixD_fl, lenD_tup, lenD_fl, ix30, ix31, ix32, at20, at21, at30, at31, at32, List.filterMap_cons, List.filterMap_nil, alwD] at this ⊢
      exact this
    | row t' b' u' c' l0 l1 l2 l3 l4 l5 l6 l7 =>
      have p1 := mulp k1 k3
      have p2 := mulp p1 l1
      have p3 := mulp p2 l3
      have q1 := k5.mul k7
      have q2 := q1.mul l5
      have q3 : Bd (4 * m) _ := (q2.mul l7).up (by omega)
      simp only [wpSs, wpS, wpE, wpEs, wpC, wpAnd, wpOr, wpO, wpIt, opt_some, onI_int, onB_bl, onR_ref, arg1_one, look, joinO, start, List.map_cons, List.map_nil, List.length_cons, List.length_nil, List.replicate, List.cons_append, List.nil_append, List.append_nil, List.getElem?_cons_succ, List.getElem?_cons_zero, kcD, Nat.reduceAdd, Nat.reduceSub, br_t, br_f, br_n, asg, setAll, List.set_cons_succ, List.set_cons_zero, tgs, wipe, eq_ii, ne_ii, lt_ii, le_ii, gt_ii, ge_ii, is_n, isn_n, is_b, isn_b, add_ii, sub_ii, mul_ii, mod_ii, fdiv_ii, pow_ii, isNon, biD, intD_i, intD_b, esLen, beq_self_eq_true, ixD_tup, lsOf_new, seqD_tup, seqD_fl, slD_tup, bools, Option.map_some, true_and, ixD_fl, lenD_tup, lenD_fl, ix30, ix31, ix32, at20, at21, at30, at31, at32, List.filterMap_cons, List.filterMap_nil, compW, Option.toList, List.append_nil, fdiv_pos k1, fdiv_pos k3, fdiv_pos l1, fdiv_pos l3, sqOf]
      have d1 : 0 < b * c * b' * c' / c := Int.ediv_pos_of_pos_of_dvd p3 (by omega) (Int.dvd_trans (Int.dvd_mul_left b c) (Int.dvd_trans (Int.dvd_mul_right _ b') (Int.dvd_mul_right _ c')))
      have d2 : 0 < b * c * b' * c' / c' := Int.ediv_pos_of_pos_of_dvd p3 (by omega) (Int.dvd_mul_left _ c')
      have q1s := q1.sm (by omega)
      have q2s := q2.sm (by omega)
      generalize b * c * b' * c' = B at *
      have l4' : 4 ≤ lim := len_lim (by decide)
      have e0 : Bd (n + 4 * m) (t * (B / b)) := k4.mul (q3.div (j := b))
      have e1 : Bd (n + 4 * m) (u * (B / c)) := k6.mul (q3.div (j := c))
      have e2 : Bd (n + 4 * m) (t' * (B / b')) := l4.mul (q3.div (j := b'))
      have e3 : Bd (n + 4 * m) (u' * (B / c')) := l6.mul (q3.div (j := c'))
      have m1 := mulp k2 d1
      have m3 := mulp l2 d2
      have vb : ∀ i : Int, sm (B / i) := fun i => q3.div.sm (by omega)
      refine ⟨k5.sm (by omega), k7.sm (by omega), q1s, l5.sm (by omega), q2s, l7.sm (by omega), l4', l4', by omega, k5.smd (by omega), k4.sm (by omega), vb _, by omega, k7.smd (by omega), k6.sm (by omega), vb _, by omega, l5.smd (by omega), l4.sm (by omega), vb _, by omega, l7.smd (by omega), l6.sm (by omega), vb _, fun r hr => ?_⟩
      generalize t * (B / b) = first at *
      generalize u * (B / c) = step at *
      generalize t' * (B / b') = second at *
      generalize u' * (B / c') = mate at *
      have x1 : Ext S0 (upd S0 r (.lst [.int first, .int step, .int second, .int mate])) := Ext.new hr
      generalize upd S0 r (.lst [.int first, .int step, .int second, .int mate]) = S1 at *
      have g0 := gcd_pos (t := step) m3
      have w0 : 0 < step / ((Int.gcd step mate : Nat) : Int) * mate := mulp (Int.ediv_pos_of_pos_of_dvd m1 (by omega) (Int.gcd_dvd_left ..)) m3
      have bw : Bd (2 * (n + 4 * m)) (step / ((Int.gcd step mate : Nat) : Int) * mate) := (e1.div.mul e3).up (by omega)
      refine call h4 ⟨step, second - first, mate, rfl, m3, e3.up (by omega), (e2.sub e0).up (by omega), br_t.mpr (no _ x1 (.inl row_ne)), fun l st a0 a1 => ?_⟩
      simp only [wpSs, wpS, wpE, wpEs, wpC, wpAnd, wpOr, wpO, wpIt, opt_some, onI_int, onB_bl, onR_ref, arg1_one, look, joinO, start, List.map_cons, List.map_nil, List.length_cons, List.length_nil, List.replicate, List.cons_append, List.nil_append, List.append_nil, List.getElem?_cons_succ, List.getElem?_cons_zero, kcD, Nat.reduceAdd, Nat.reduceSub, br_t, br_f, br_n, asg, setAll, List.set_cons_succ, List.set_cons_zero, tgs, wipe, eq_ii, ne_ii, lt_ii, le_ii, gt_ii, ge_ii, is_n, isn_n, is_b, isn_b, add_ii, sub_ii, mul_ii, mod_ii, fdiv_ii, pow_ii, isNon, biD, intD_i, intD_b, esLen, beq_self_eq_true, ixD_tup, lsOf_new, seqD_tup, seqD_fl, slD_tup, bools, Option.map_some, true_and, ixD_fl, lenD_tup, lenD_fl, ix30, ix31, ix32, at20, at21, at30, at31, at32, List.filterMap_cons, List.filterMap_nil]
      refine call h1 ⟨step, mate, rfl, ?_⟩
      simp only [wpSs, wpS, wpE, wpEs, wpC, wpAnd, wpOr, wpO, wpIt, opt_some, onI_int, onB_bl, onR_ref, arg1_one, look, joinO, start, List.map_cons, List.map_nil, List.length_cons, List.length_nil, List.replicate, List.cons_append, List.nil_append, List.append_nil, List.getElem?_cons_succ, List.getElem?_cons_zero, kcD, Nat.reduceAdd, Nat.reduceSub, br_t, br_f, br_n, asg, setAll, List.set_cons_succ, List.set_cons_zero, tgs, wipe, eq_ii, ne_ii, lt_ii, le_ii, gt_ii, ge_ii, is_n, isn_n, is_b, isn_b, add_ii, sub_ii, mul_ii, mod_ii, fdiv_ii, pow_ii, isNon, biD, intD_i, intD_b, esLen, beq_self_eq_true, ixD_tup, lsOf_new, seqD_tup, seqD_fl, slD_tup, bools, Option.map_some, true_and, ixD_fl, lenD_tup, lenD_fl, ix30, ix31, ix32, at20, at21, at30, at31, at32, List.filterMap_cons, List.filterMap_nil, fdiv_pos g0, fmod_pos w0]
      refine ⟨by omega, (gcd_bd e3 m3).smd (by omega), e1.div.sm (by omega), e3.sm (by omega), e1.sm (by omega), (e3.le a0 (by omega)).sm (by omega), by omega, call h2 ⟨_, _, rfl, p3, q3.up (by omega), call h2 ⟨_, _, rfl, p3, q3.up (by omega), len_lim (by decide), hq _ _ x1 ?_ ⟨fun z => absurd z row_ne, fun z => absurd z.1 row_ne⟩⟩⟩⟩
      have g1 := gcd_pos (t := step / ((Int.gcd step mate : Nat) : Int) * mate) p3
      exact .row _ _ _ _ (Int.ediv_nonneg (Int.emod_nonneg _ (by omega)) (Int.natCast_nonneg _)) (gdiv_pos p3) (Int.ediv_pos_of_pos_of_dvd w0 (by omega) (Int.gcd_dvd_left ..)) (gdiv_pos p3) (bw.mod w0).div q3.div bw.div q3.div
theorem row_fit {n m : Nat} {S : Sto} {v : D} (h : IsR n m v) : fit 7 S v = true := by cases h <;> rfl
theorem row_eqb {n m : Nat} {S : Sto} {v : D} (h : IsR n m v) (hn : v ≠ .non) : eqB dep S v alwD = true ↔ v = alwD := by
  cases h with
  | no => exact absurd rfl hn
  | alw => exact ⟨fun _ => rfl, fun _ => rfl⟩
  | row t b u c => exact ⟨fun h => by simp [eqB, eqLB, alwD] at h, fun h => absurd h row_ne⟩
def Rows (xs : List D) : Prop := ∀ v ∈ xs, IsR 44 16 v ∧ v ≠ .non
theorem inB_alw {S : Sto} {xs : List D} (h : Rows xs) : inB S alwD xs = true ↔ alwD ∈ xs := by
  unfold inB
  rw [List.any_eq_true]
  exact ⟨fun ⟨y, hy, e⟩ => (row_eqb (h y hy).1 (h y hy).2).mp e ▸ hy, fun hy => ⟨alwD, hy, (row_eqb (n := 0) (m := 0) .alw (by intro z; cases z)).mpr rfl⟩⟩
theorem fit7_8 {S : Sto} {v : D} {n m : Nat} (h : IsR n m v) : fit dep S v = true := by cases h <;> rfl
theorem rows_fit {S : Sto} {xs : List D} (h : Rows xs) : fitL (fit dep S) xs = true := fitL_of fun y hy => fit7_8 (h y hy).1
theorem nin_ref {S : Sto} {a : Nat} {xs : List D} {v : D} {Q : Bool → Prop} (e : S a = some (.lst xs)) (h : Rows xs) (hv : IsR 44 16 v) (k : Q (!inB S v xs)) : cmpD .nin v (.ref a) S Q := by
  show opt (lstAt S a) _
  rw [lstAt_eq e]
  exact ⟨fit7_8 hv, rows_fit h, k⟩
theorem in_ref {S : Sto} {a : Nat} {xs : List D} {v : D} {Q : Bool → Prop} (e : S a = some (.lst xs)) (h : Rows xs) (hv : IsR 44 16 v) (k : Q (inB S v xs)) : cmpD .in_ v (.ref a) S Q := by
  show opt (lstAt S a) _
  rw [lstAt_eq e]
  exact ⟨fit7_8 hv, rows_fit h, k⟩
def rows_of_B1 : Ss := (.cons (.set (.v 7) (.call 21 (.cons (.ix (.v 0) (.k (.int 1))) (.cons (.ix (.v 1) (.k (.int 1))) (.cons (.ix (.v 1) (.k (.int 3))) (.cons (.ix (.v 2) (.k (.int 1))) (.cons (.ix (.v 2) (.k (.int 3))) (.cons (.v 6) .nil)))))))) (.cons (.set (.v 8) (.call 22 (.cons (.v 5) (.cons (.v 7) .nil)))) (.cons (.if_ (.and (.cmp .isn (.v 8) (.k .non)) (.cons (.cmp .nin (.v 8) (.v 3)) .nil)) (.cons (.ex (.mt .append (.v 3) (.cons (.v 8) .nil))) .nil) .nil) .nil)))
def rows_of_S1 : St := (.for_ (.v 6) (.seq (.tup (.cons (.k (.int 1)) (.cons (.neg (.k (.int 1))) .nil)))) rows_of_B1)
def rows_of_B0 : Ss := (.cons (.set (.v 5) (.call 21 (.cons (.ix (.v 0) (.k (.int 0))) (.cons (.ix (.v 1) (.k (.int 0))) (.cons (.ix (.v 1) (.k (.int 2))) (.cons (.ix (.v 2) (.k (.int 0))) (.cons (.ix (.v 2) (.k (.int 2))) (.cons (.v 4) .nil)))))))) (.cons rows_of_S1 .nil))
def rows_of_S0 : St := (.for_ (.v 4) (.seq (.tup (.cons (.k (.int 1)) (.cons (.neg (.k (.int 1))) .nil)))) rows_of_B0)
def rows_of_A0 : Ss := (.cons (.ret (.v 3)) .nil)
def rows_of_T : Ss := (.cons (.set (.v 3) (.lst .nil)) (.cons rows_of_S0 rows_of_A0))
theorem isn_row {v : D} : (!isNon v) = true ↔ v ≠ .non := by cases v <;> simp [isNon]
/-- a table and two shots, in small bounds -/
structure Duo (a c x y p q x' y' p' q' : Int) : Prop where
  a0 : 0 < a
  c0 : 0 < c
  a1 : a ≤ 30
  c1 : c ≤ 30
  bx : Bd 150 x
  by_ : Bd 150 y
  bx' : Bd 150 x'
  by' : Bd 150 y'
  p0 : -5 ≤ p ∧ p ≤ 5 ∧ -5 ≤ p' ∧ p' ≤ 5
  q0 : -5 ≤ q ∧ q ≤ 5 ∧ -5 ≤ q' ∧ q' ≤ 5
theorem row_step {G : Gm} (h10 : G.fn 21 = spAxis) (h11 : G.fn 22 = spBoth) {a c x y p q x' y' p' q' : Int} (k : Duo a c x y p q x' y' p' q') {S : Sto} {K : Kt} {r : Nat} {xs : List D} {v : D} {g : Int} (hg : g = 1 ∨ g = -1) {o4 o7 o8 : Option D} (e : S r = some (.lst xs)) (hx : Rows xs) (hl : xs.length < 900) (hv : IsR 6 4 v)
    (kk : ∀ o7 o8 S' xs', Kp r S S' → S' r = some (.lst xs') → Rows xs' → xs'.length ≤ xs.length + 1 → (alwD ∈ xs' ↔ alwD ∈ xs ∨ (v = alwD ∧ Ax c y q y' q' g)) → K.nx [some (prD a c), some (shD x y p q), some (shD x' y' p' q'), some (.ref r), o4, some v, some (.int g), o7, o8] S') :
    wpSs G rows_of_B1 [some (prD a c), some (shD x y p q), some (shD x' y' p' q'), some (.ref r), o4, some v, some (.int g), o7, o8] S K := by
  simp only [rows_of_B1, wpSs, wpS, wpE, wpEs, wpC, wpAnd, wpOr, wpO, wpIt, opt_some, onI_int, onB_bl, onR_ref, arg1_one, look, joinO, start, List.map_cons, List.map_nil, List.length_cons, List.length_nil, List.replicate, List.cons_append, List.nil_append, List.append_nil, List.getElem?_cons_succ, List.getElem?_cons_zero, kcD, Nat.reduceAdd, Nat.reduceSub, br_t, br_f, br_n, asg, setAll, List.set_cons_succ, List.set_cons_zero, tgs, wipe, eq_ii, ne_ii, lt_ii, le_ii, gt_ii, ge_ii, is_n, isn_n, is_b, isn_b, add_ii, sub_ii, mul_ii, mod_ii, fdiv_ii, pow_ii, isNon, biD, intD_i, intD_b, esLen, beq_self_eq_true, ixD_tup, lsOf_new, seqD_tup, seqD_fl, slD_tup, bools, Option.map_some, true_and, ixD_fl, lenD_tup, lenD_fl, ix30, ix31, ix32, at20, at21, at30, at31, at32, List.filterMap_cons, List.filterMap_nil, at40, at41, at42, at43]
  refine call h10 ⟨c, y, q, y', q', g, rfl, k.c0, k.c1, hg, k.q0.1, k.q0.2.1, k.q0.2.2.1, k.q0.2.2.2, k.by_, k.by', fun u hu hA => ?_⟩
  try simp only [wpSs, wpS, wpE, wpEs, wpC, wpAnd, wpOr, wpO, wpIt, opt_some, onI_int, onB_bl, onR_ref, arg1_one, look, joinO, start, List.map_cons, List.map_nil, List.length_cons, List.length_nil, List.replicate, List.cons_append, List.nil_append, List.append_nil, List.getElem?_cons_succ, List.getElem?_cons_zero, kcD, Nat.reduceAdd, Nat.reduceSub, br_t, br_f, br_n, asg, setAll, List.set_cons_succ, List.set_cons_zero, tgs, wipe, eq_ii, ne_ii, lt_ii, le_ii, gt_ii, ge_ii, is_n, isn_n, is_b, isn_b, add_ii, sub_ii, mul_ii, mod_ii, fdiv_ii, pow_ii, isNon, biD, intD_i, intD_b, esLen, beq_self_eq_true, ixD_tup, lsOf_new, seqD_tup, seqD_fl, slD_tup, bools, Option.map_some, true_and, ixD_fl, lenD_tup, lenD_fl, ix30, ix31, ix32, at20, at21, at30, at31, at32, List.filterMap_cons, List.filterMap_nil]
  refine call h11 ⟨v, u, 6, 4, rfl, hv, hu, by decide, fun w S1 k1 hw hb => ?_⟩
  have e1 := k1 _ _ e
  have hb : w = alwD ↔ v = alwD ∧ Ax c y q y' q' g := hb.trans ⟨fun z => ⟨z.1, hA.mp z.2⟩, fun z => ⟨z.1, hA.mpr z.2⟩⟩
  have stay : (w = alwD → alwD ∈ xs) → K.nx [some (prD a c), some (shD x y p q), some (shD x' y' p' q'), some (.ref r), o4, some v, some (.int g), some u, some w] S1 := fun z => kk _ _ _ xs (k1.kp r) e1 hx (by omega) ⟨.inl, fun h => h.elim id fun h => z (hb.mpr h)⟩
  simp only [wpSs, wpS, wpE, wpEs, wpC, wpAnd, wpOr, wpO, wpIt, opt_some, onI_int, onB_bl, onR_ref, arg1_one, look, joinO, start, List.map_cons, List.map_nil, List.length_cons, List.length_nil, List.replicate, List.cons_append, List.nil_append, List.append_nil, List.getElem?_cons_succ, List.getElem?_cons_zero, kcD, Nat.reduceAdd, Nat.reduceSub, br_t, br_f, br_n, asg, setAll, List.set_cons_succ, List.set_cons_zero, tgs, wipe, eq_ii, ne_ii, lt_ii, le_ii, gt_ii, ge_ii, is_n, isn_n, is_b, isn_b, add_ii, sub_ii, mul_ii, mod_ii, fdiv_ii, pow_ii, isNon, biD, intD_i, intD_b, esLen, beq_self_eq_true, ixD_tup, lsOf_new, seqD_tup, seqD_fl, slD_tup, bools, Option.map_some, true_and, ixD_fl, lenD_tup, lenD_fl, ix30, ix31, ix32, at20, at21, at30, at31, at32, List.filterMap_cons, List.filterMap_nil]
  refine br_if (fun hn => stay fun z => ?_) fun hn => ?_
  · subst z; cases hn
  · have hn : w ≠ .non := isn_row.mp (by simp only [isNon] at *; rw [hn]; rfl)
    refine nin_ref e1 hx hw ?_
    simp only [wpSs, wpS, wpE, wpEs, wpC, wpAnd, wpOr, wpO, wpIt, opt_some, onI_int, onB_bl, onR_ref, arg1_one, look, joinO, start, List.map_cons, List.map_nil, List.length_cons, List.length_nil, List.replicate, List.cons_append, List.nil_append, List.append_nil, List.getElem?_cons_succ, List.getElem?_cons_zero, kcD, Nat.reduceAdd, Nat.reduceSub, br_t, br_f, br_n, asg, setAll, List.set_cons_succ, List.set_cons_zero, tgs, wipe, eq_ii, ne_ii, lt_ii, le_ii, gt_ii, ge_ii, is_n, isn_n, is_b, isn_b, add_ii, sub_ii, mul_ii, mod_ii, fdiv_ii, pow_ii, isNon, biD, intD_i, intD_b, esLen, beq_self_eq_true, ixD_tup, lsOf_new, seqD_tup, seqD_fl, slD_tup, bools, Option.map_some, true_and, ixD_fl, lenD_tup, lenD_fl, ix30, ix31, ix32, at20, at21, at30, at31, at32, List.filterMap_cons, List.filterMap_nil]
    refine br_if (fun hi => stay fun z => ?_) fun hi => ?_
    · subst z
      exact (inB_alw hx).mp hi
    · rw [lsOf_ref e1, opt_some]
      refine append_ref e1 (by omega) ?_
      refine kk _ _ _ (xs ++ [w]) ((k1.kp r).trans Kp.wr) upd_at ?_ (by simp) ?_
      · intro z hz
        rcases List.mem_append.mp hz with hz | hz
        · exact hx z hz
        · rw [List.mem_singleton.mp hz]; exact ⟨hw, hn⟩
      · rw [List.mem_append, List.mem_singleton, ← hb]
        exact ⟨fun h => h.imp id Eq.symm, fun h => h.imp id Eq.symm⟩
theorem rows_in {G : Gm} (h10 : G.fn 21 = spAxis) (h11 : G.fn 22 = spBoth) {a c x y p q x' y' p' q' : Int} (k : Duo a c x y p q x' y' p' q') {S : Sto} {K : Kt} {r : Nat} {xs : List D} {g : Int} (hg : g = 1 ∨ g = -1) {o5 o6 o7 o8 : Option D} (e : S r = some (.lst xs)) (hx : Rows xs) (hl : xs.length < 800)
    (kk : ∀ o5 o6 o7 o8 S' xs', Kp r S S' → S' r = some (.lst xs') → Rows xs' → xs'.length ≤ xs.length + 2 → (alwD ∈ xs' ↔ alwD ∈ xs ∨ (Ax a x p x' p' g ∧ (Ax c y q y' q' 1 ∨ Ax c y q y' q' (-1)))) → K.nx [some (prD a c), some (shD x y p q), some (shD x' y' p' q'), some (.ref r), some (.int g), o5, o6, o7, o8] S') :
    wpSs G rows_of_B0 [some (prD a c), some (shD x y p q), some (shD x' y' p' q'), some (.ref r), some (.int g), o5, o6, o7, o8] S K := by
  simp only [rows_of_B0, wpSs, wpS, wpE, wpEs, wpC, wpAnd, wpOr, wpO, wpIt, opt_some, onI_int, onB_bl, onR_ref, arg1_one, look, joinO, start, List.map_cons, List.map_nil, List.length_cons, List.length_nil, List.replicate, List.cons_append, List.nil_append, List.append_nil, List.getElem?_cons_succ, List.getElem?_cons_zero, kcD, Nat.reduceAdd, Nat.reduceSub, br_t, br_f, br_n, asg, setAll, List.set_cons_succ, List.set_cons_zero, tgs, wipe, eq_ii, ne_ii, lt_ii, le_ii, gt_ii, ge_ii, is_n, isn_n, is_b, isn_b, add_ii, sub_ii, mul_ii, mod_ii, fdiv_ii, pow_ii, isNon, biD, intD_i, intD_b, esLen, beq_self_eq_true, ixD_tup, lsOf_new, seqD_tup, seqD_fl, slD_tup, bools, Option.map_some, true_and, ixD_fl, lenD_tup, lenD_fl, ix30, ix31, ix32, at20, at21, at30, at31, at32, List.filterMap_cons, List.filterMap_nil, at40, at41, at42, at43]
  refine call h10 ⟨a, x, p, x', p', g, rfl, k.a0, k.a1, hg, k.p0.1, k.p0.2.1, k.p0.2.2.1, k.p0.2.2.2, k.bx, k.bx', fun v hv hA => ?_⟩
  simp only [rows_of_S1, wpSs, wpS, wpE, wpEs, wpC, wpAnd, wpOr, wpO, wpIt, opt_some, onI_int, onB_bl, onR_ref, arg1_one, look, joinO, start, List.map_cons, List.map_nil, List.length_cons, List.length_nil, List.replicate, List.cons_append, List.nil_append, List.append_nil, List.getElem?_cons_succ, List.getElem?_cons_zero, kcD, Nat.reduceAdd, Nat.reduceSub, br_t, br_f, br_n, asg, setAll, List.set_cons_succ, List.set_cons_zero, tgs, wipe, eq_ii, ne_ii, lt_ii, le_ii, gt_ii, ge_ii, is_n, isn_n, is_b, isn_b, add_ii, sub_ii, mul_ii, mod_ii, fdiv_ii, pow_ii, isNon, biD, intD_i, intD_b, esLen, beq_self_eq_true, ixD_tup, lsOf_new, seqD_tup, seqD_fl, slD_tup, bools, Option.map_some, true_and, ixD_fl, lenD_tup, lenD_fl, ix30, ix31, ix32, at20, at21, at30, at31, at32, List.filterMap_cons, List.filterMap_nil]
  refine ⟨len_lim (by decide), ?_⟩
  simp only [forW, wpSs, wpS, wpE, wpEs, wpC, wpAnd, wpOr, wpO, wpIt, opt_some, onI_int, onB_bl, onR_ref, arg1_one, look, joinO, start, List.map_cons, List.map_nil, List.length_cons, List.length_nil, List.replicate, List.cons_append, List.nil_append, List.append_nil, List.getElem?_cons_succ, List.getElem?_cons_zero, kcD, Nat.reduceAdd, Nat.reduceSub, br_t, br_f, br_n, asg, setAll, List.set_cons_succ, List.set_cons_zero, tgs, wipe, eq_ii, ne_ii, lt_ii, le_ii, gt_ii, ge_ii, is_n, isn_n, is_b, isn_b, add_ii, sub_ii, mul_ii, mod_ii, fdiv_ii, pow_ii, isNon, biD, intD_i, intD_b, esLen, beq_self_eq_true, ixD_tup, lsOf_new, seqD_tup, seqD_fl, slD_tup, bools, Option.map_some, true_and, ixD_fl, lenD_tup, lenD_fl, ix30, ix31, ix32, at20, at21, at30, at31, at32, List.filterMap_cons, List.filterMap_nil]
  refine row_step h10 h11 k (.inl rfl) e hx (by omega) hv fun o7 o8 S1 ys k1 e1 hy hly i1 => ?_
  try simp only [wpSs, wpS, wpE, wpEs, wpC, wpAnd, wpOr, wpO, wpIt, opt_some, onI_int, onB_bl, onR_ref, arg1_one, look, joinO, start, List.map_cons, List.map_nil, List.length_cons, List.length_nil, List.replicate, List.cons_append, List.nil_append, List.append_nil, List.getElem?_cons_succ, List.getElem?_cons_zero, kcD, Nat.reduceAdd, Nat.reduceSub, br_t, br_f, br_n, asg, setAll, List.set_cons_succ, List.set_cons_zero, tgs, wipe, eq_ii, ne_ii, lt_ii, le_ii, gt_ii, ge_ii, is_n, isn_n, is_b, isn_b, add_ii, sub_ii, mul_ii, mod_ii, fdiv_ii, pow_ii, isNon, biD, intD_i, intD_b, esLen, beq_self_eq_true, ixD_tup, lsOf_new, seqD_tup, seqD_fl, slD_tup, bools, Option.map_some, true_and, ixD_fl, lenD_tup, lenD_fl, ix30, ix31, ix32, at20, at21, at30, at31, at32, List.filterMap_cons, List.filterMap_nil]
  refine row_step h10 h11 k (.inr rfl) e1 hy (by omega) hv fun o7 o8 S2 zs k2 e2 hz hlz i2 => ?_
  refine kk _ _ _ _ _ zs (k1.trans k2) e2 hz (by omega) (i2.trans ?_)
  rw [i1, hA, or_assoc, ← and_or_left]
def spRows : Sp := fun ds S Q _ => ∃ a c x y p q x' y' p' q', ds = [prD a c, shD x y p q, shD x' y' p' q'] ∧ Duo a c x y p q x' y' p' q' ∧ ∀ r xs S', Ext S S' → S' r = some (.lst xs) → Rows xs → xs.length ≤ 4 → (alwD ∈ xs ↔ (Ax a x p x' p' 1 ∨ Ax a x p x' p' (-1)) ∧ (Ax c y q y' q' 1 ∨ Ax c y q y' q' (-1))) → Q (.ref r) S'
theorem txt_rows {G : Gm} {ds : List D} {S0 : Sto} {Q : VK} {X : XK} {b : Ss} (hb : b = rows_of_T) (h10 : G.fn 21 = spAxis) (h11 : G.fn 22 = spBoth) (h : spRows ds S0 Q X) : ds.length = 3 ∧ wpSs G b (start 9 ds) S0 (kR Q X) := by
  obtain ⟨a, c, x, y, p, q, x', y', p', q', rfl, k, hq⟩ := h
  subst hb
  refine ⟨rfl, ?_⟩
  simp only [rows_of_T, rows_of_S0, rows_of_A0, wpSs, wpS, wpE, wpEs, wpC, wpAnd, wpOr, wpO, wpIt, opt_some, onI_int, onB_bl, onR_ref, arg1_one, look, joinO, start, List.map_cons, List.map_nil, List.length_cons, List.length_nil, List.replicate, List.cons_append, List.nil_append, List.append_nil, List.getElem?_cons_succ, List.getElem?_cons_zero, kcD, Nat.reduceAdd, Nat.reduceSub, br_t, br_f, br_n, asg, setAll, List.set_cons_succ, List.set_cons_zero, tgs, wipe, eq_ii, ne_ii, lt_ii, le_ii, gt_ii, ge_ii, is_n, isn_n, is_b, isn_b, add_ii, sub_ii, mul_ii, mod_ii, fdiv_ii, pow_ii, isNon, biD, intD_i, intD_b, esLen, beq_self_eq_true, ixD_tup, lsOf_new, seqD_tup, seqD_fl, slD_tup, bools, Option.map_some, true_and, ixD_fl, lenD_tup, lenD_fl, ix30, ix31, ix32, at20, at21, at30, at31, at32, List.filterMap_cons, List.filterMap_nil]
  refine mkL_ok (by simp) fun r hr => ?_
  try simp only [wpSs, wpS, wpE, wpEs, wpC, wpAnd, wpOr, wpO, wpIt, opt_some, onI_int, onB_bl, onR_ref, arg1_one, look, joinO, start, List.map_cons, List.map_nil, List.length_cons, List.length_nil, List.replicate, List.cons_append, List.nil_append, List.append_nil, List.getElem?_cons_succ, List.getElem?_cons_zero, kcD, Nat.reduceAdd, Nat.reduceSub, br_t, br_f, br_n, asg, setAll, List.set_cons_succ, List.set_cons_zero, tgs, wipe, eq_ii, ne_ii, lt_ii, le_ii, gt_ii, ge_ii, is_n, isn_n, is_b, isn_b, add_ii, sub_ii, mul_ii, mod_ii, fdiv_ii, pow_ii, isNon, biD, intD_i, intD_b, esLen, beq_self_eq_true, ixD_tup, lsOf_new, seqD_tup, seqD_fl, slD_tup, bools, Option.map_some, true_and, ixD_fl, lenD_tup, lenD_fl, ix30, ix31, ix32, at20, at21, at30, at31, at32, List.filterMap_cons, List.filterMap_nil]
  refine ⟨len_lim (by decide), ?_⟩
  simp only [forW, wpSs, wpS, wpE, wpEs, wpC, wpAnd, wpOr, wpO, wpIt, opt_some, onI_int, onB_bl, onR_ref, arg1_one, look, joinO, start, List.map_cons, List.map_nil, List.length_cons, List.length_nil, List.replicate, List.cons_append, List.nil_append, List.append_nil, List.getElem?_cons_succ, List.getElem?_cons_zero, kcD, Nat.reduceAdd, Nat.reduceSub, br_t, br_f, br_n, asg, setAll, List.set_cons_succ, List.set_cons_zero, tgs, wipe, eq_ii, ne_ii, lt_ii, le_ii, gt_ii, ge_ii, is_n, isn_n, is_b, isn_b, add_ii, sub_ii, mul_ii, mod_ii, fdiv_ii, pow_ii, isNon, biD, intD_i, intD_b, esLen, beq_self_eq_true, ixD_tup, lsOf_new, seqD_tup, seqD_fl, slD_tup, bools, Option.map_some, true_and, ixD_fl, lenD_tup, lenD_fl, ix30, ix31, ix32, at20, at21, at30, at31, at32, List.filterMap_cons, List.filterMap_nil]
  refine rows_in h10 h11 k (.inl rfl) upd_at (by intro v hv; cases hv) (by simp) fun o5 o6 o7 o8 S1 ys k1 e1 hy hly i1 => ?_
  try simp only [wpSs, wpS, wpE, wpEs, wpC, wpAnd, wpOr, wpO, wpIt, opt_some, onI_int, onB_bl, onR_ref, arg1_one, look, joinO, start, List.map_cons, List.map_nil, List.length_cons, List.length_nil, List.replicate, List.cons_append, List.nil_append, List.append_nil, List.getElem?_cons_succ, List.getElem?_cons_zero, kcD, Nat.reduceAdd, Nat.reduceSub, br_t, br_f, br_n, asg, setAll, List.set_cons_succ, List.set_cons_zero, tgs, wipe, eq_ii, ne_ii, lt_ii, le_ii, gt_ii, ge_ii, is_n, isn_n, is_b, isn_b, add_ii, sub_ii, mul_ii, mod_ii, fdiv_ii, pow_ii, isNon, biD, intD_i, intD_b, esLen, beq_self_eq_true, ixD_tup, lsOf_new, seqD_tup, seqD_fl, slD_tup, bools, Option.map_some, true_and, ixD_fl, lenD_tup, lenD_fl, ix30, ix31, ix32, at20, at21, at30, at31, at32, List.filterMap_cons, List.filterMap_nil]
  refine rows_in h10 h11 k (.inr rfl) e1 hy (by simp at hly; omega) fun o5 o6 o7 o8 S2 zs k2 e2 hz hlz i2 => ?_
  try simp only [wpSs, wpS, wpE, wpEs, wpC, wpAnd, wpOr, wpO, wpIt, opt_some, onI_int, onB_bl, onR_ref, arg1_one, look, joinO, start, List.map_cons, List.map_nil, List.length_cons, List.length_nil, List.replicate, List.cons_append, List.nil_append, List.append_nil, List.getElem?_cons_succ, List.getElem?_cons_zero, kcD, Nat.reduceAdd, Nat.reduceSub, br_t, br_f, br_n, asg, setAll, List.set_cons_succ, List.set_cons_zero, tgs, wipe, eq_ii, ne_ii, lt_ii, le_ii, gt_ii, ge_ii, is_n, isn_n, is_b, isn_b, add_ii, sub_ii, mul_ii, mod_ii, fdiv_ii, pow_ii, isNon, biD, intD_i, intD_b, esLen, beq_self_eq_true, ixD_tup, lsOf_new, seqD_tup, seqD_fl, slD_tup, bools, Option.map_some, true_and, ixD_fl, lenD_tup, lenD_fl, ix30, ix31, ix32, at20, at21, at30, at31, at32, List.filterMap_cons, List.filterMap_nil]
  refine hq _ zs _ (fun z o e => ?_) e2 hz (by simp at hly; omega) (i2.trans ?_)
  · exact (k1.trans k2) z o (ne_new e hr) (Ext.new hr z o e)
  · rw [i1, or_and_right]; simp
/-- the rule of one axis -/
def Ru (s x p y q : Int) : Prop := x = y ∧ (p = q ∨ (p = -q ∧ (x = 0 ∨ x = s)))
theorem ax_ru {s x p y q : Int} (hx : 0 ≤ x) (hx1 : x ≤ s) (hy : 0 ≤ y) (hy1 : y ≤ s) (hs : 0 < s) : (Ax s x p y q 1 ∨ Ax s x p y q (-1)) ↔ Ru s x p y q := by
  have m : ∀ d : Int, -(2 * s) < d → d < 2 * s → (d % (2 * s) = 0 ↔ d = 0) := fun d h0 h1 => by
    rcases Int.lt_or_le d 0 with h | h
    · have e : d % (2 * s) = d + 2 * s := by rw [← Int.add_emod_right, Int.emod_eq_of_lt (by omega) (by omega)]
      rw [e]; omega
    · rw [Int.emod_eq_of_lt h h1]
  unfold Ax Ru
  have e1 : (1 * y - x) % (2 * s) = 0 ↔ y - x = 0 := by rw [Int.one_mul]; exact m _ (by omega) (by omega)
  have e2 : (-1 * y - x) % (2 * s) = 0 ↔ (x = y ∧ (x = 0 ∨ x = s)) := by
    have : (-1 * y - x) % (2 * s) = (-1 * y - x + 2 * s) % (2 * s) := by rw [Int.add_emod_right]
    rw [this]
    by_cases h : x + y = 0
    · have e : -1 * y - x + 2 * s = 2 * s := by omega
      rw [e, Int.emod_self]; omega
    · rw [Int.emod_eq_of_lt (by omega) (by omega)]; omega
  rw [e1, e2]
  omega
theorem roll_in {a c x y p q : Int} (h : rollB a c (shD x y p q) = true) : 0 ≤ x ∧ x ≤ a ∧ 0 ≤ y ∧ y ≤ c := by
  have h : ((decide (0 ≤ x) && decide (0 ≤ y) && !(p == 0 && q == 0)) && (decide (x ≤ a) && decide (y ≤ c))) = true := h
  simp at h
  omega
def Both (a c x y p q x' y' p' q' : Int) : Prop := Ru a x p x' p' ∧ Ru c y q y' q'
instance {a c x y p q x' y' p' q' : Int} : Decidable (Both a c x y p q x' y' p' q') := by unfold Both Ru; infer_instance
end M
namespace M
theorem mkL_abs {xs : List D} {S : Sto} {Q : VK} (h : xs.length ≤ 1000) (k : ∀ p S', Ext S S' → S' p = some (.lst xs) → Q (.ref p) S') : mkL xs S Q := ⟨len_lim h, fun p hp => k p _ (Ext.new hp) upd_at⟩
theorem add_abs {S : Sto} {a b : Nat} {xs ys : List D} {Q : VK} (ha : S a = some (.lst xs)) (hb : S b = some (.lst ys)) (h : (xs ++ ys).length ≤ 1000) (k : ∀ p S', Ext S S' → S' p = some (.lst (xs ++ ys)) → Q (.ref p) S') : binD .add (.ref a) (.ref b) S Q := add_ref ha hb (mkL_abs h k)
end M
namespace M
def least_of_B0 : Ss := (.cons (.if_ (.and (.cmp .isn (.v 2) (.k .non)) (.cons (.or (.cmp .is_ (.v 1) (.k .non)) (.cons (.call 3 (.cons (.v 2) (.cons (.v 1) .nil))) .nil)) .nil)) (.cons (.set (.v 1) (.v 2)) .nil) .nil) .nil)
def least_of_S0 : St := (.for_ (.v 2) (.seq (.v 0)) least_of_B0)
def least_of_A0 : Ss := (.cons (.ret (.v 1)) .nil)
def least_of_T : Ss := (.cons (.set (.v 1) (.k .non)) (.cons least_of_S0 least_of_A0))
/-! ### how many times: some number -/
def spLess : Sp := fun ds S Q _ => ∃ t b t2 b2, ds = [prD t b, prD t2 b2] ∧ Bd 3990 t ∧ Bd 3990 b ∧ Bd 3990 t2 ∧ Bd 3990 b2 ∧ ∀ v, Q (.bl v) S
theorem txt_less {G : Gm} {ds : List D} {S0 : Sto} {Q : VK} {X : XK} {b : Ss} (hb : b = (.cons (.ret (.cmp .lt (.bin .mul (.ix (.v 0) (.k (.int 0))) (.ix (.v 1) (.k (.int 1)))) (.bin .mul (.ix (.v 1) (.k (.int 0))) (.ix (.v 0) (.k (.int 1)))))) .nil)) (h : spLess ds S0 Q X) : ds.length = 2 ∧ wpSs G b (start 2 ds) S0 (kR Q X) := by
  obtain ⟨t, b2, t2, b3, rfl, b1, b4, b5, b6, hq⟩ := h
  subst hb
  refine ⟨rfl, ?_⟩
  simp only [wpSs, wpS, wpE, wpEs, wpC, wpAnd, wpOr, wpO, wpIt, opt_some, onI_int, onB_bl, onR_ref, arg1_one, look, joinO, start, List.map_cons, List.map_nil, List.length_cons, List.length_nil, List.replicate, List.cons_append, List.nil_append, List.append_nil, List.getElem?_cons_succ, List.getElem?_cons_zero, kcD, Nat.reduceAdd, Nat.reduceSub, br_t, br_f, br_n, asg, setAll, List.set_cons_succ, List.set_cons_zero, tgs, wipe, eq_ii, ne_ii, lt_ii, le_ii, gt_ii, ge_ii, is_n, isn_n, is_b, isn_b, add_ii, sub_ii, mul_ii, mod_ii, fdiv_ii, pow_ii, isNon, biD, intD_i, intD_b, esLen, beq_self_eq_true, ixD_tup, lsOf_new, seqD_tup, seqD_fl, slD_tup, bools, Option.map_some, true_and, ixD_fl, lenD_tup, lenD_fl, ix30, ix31, ix32, at20, at21, at30, at31, at32, List.filterMap_cons, List.filterMap_nil]
  exact ⟨b1.sm (by decide), b6.sm (by decide), b5.sm (by decide), b4.sm (by decide), hq _⟩
/-- no time, or a time -/
def TimD (d : D) : Prop := d = .non ∨ ∃ t b, d = prD t b ∧ Bd 2000 t ∧ Bd 2000 b
def spLeo : Sp := fun ds S Q _ => ∃ r xs, ds = [.ref r] ∧ S r = some (.lst xs) ∧ (∀ d ∈ xs, TimD d) ∧ ∀ d, TimD d → Q d S
theorem txt_leo {G : Gm} {ds : List D} {S0 : Sto} {Q : VK} {X : XK} {b : Ss} (hb : b = least_of_T) (hl : G.fn 3 = spLess) (h : spLeo ds S0 Q X) : ds.length = 1 ∧ wpSs G b (start 3 ds) S0 (kR Q X) := by
  obtain ⟨r, xs, rfl, er, ht, hq⟩ := h
  subst hb
  refine ⟨rfl, ?_⟩
  generalize hA : least_of_A0 = A0
  generalize hB : least_of_B0 = bo
  simp only [least_of_T, least_of_S0, hA, hB, wpSs, wpS, wpE, wpEs, wpC, wpAnd, wpOr, wpO, wpIt, opt_some, onI_int, onB_bl, onR_ref, arg1_one, look, joinO, start, List.map_cons, List.map_nil, List.length_cons, List.length_nil, List.replicate, List.cons_append, List.nil_append, List.append_nil, List.getElem?_cons_succ, List.getElem?_cons_zero, kcD, Nat.reduceAdd, Nat.reduceSub, br_t, br_f, br_n, asg, setAll, List.set_cons_succ, List.set_cons_zero, tgs, wipe, eq_ii, ne_ii, lt_ii, le_ii, gt_ii, ge_ii, is_n, isn_n, is_b, isn_b, add_ii, sub_ii, mul_ii, mod_ii, fdiv_ii, pow_ii, isNon, biD, intD_i, intD_b, esLen, beq_self_eq_true, ixD_tup, lsOf_new, seqD_tup, seqD_fl, slD_tup, bools, Option.map_some, true_and, ixD_fl, lenD_tup, lenD_fl, ix30, ix31, ix32, at20, at21, at30, at31, at32, List.filterMap_cons, List.filterMap_nil, seqD_ref er]
  refine forW_ok (I := fun _ ρ S => S = S0 ∧ ∃ d o, ρ = [some (.ref r), some d, o] ∧ (d = .non ∨ d ∈ xs)) _ 0 _ _ ⟨rfl, .non, none, rfl, Or.inl rfl⟩ (fun j d ρ S nx' hj hd hI hn => ?_) (fun ρ S hI => ?_)
  · obtain ⟨rfl, f, o, rfl, hf⟩ := hI
    refine ⟨er, ?_⟩
    have go : ∀ g, g = .non ∨ g ∈ xs → nx' [some (.ref r), some g, some d] S := fun g hg => hn _ _ ⟨rfl, g, _, rfl, hg⟩
    subst hB
    simp only [least_of_B0, wpSs, wpS, wpE, wpEs, wpC, wpAnd, wpOr, wpO, wpIt, opt_some, onI_int, onB_bl, onR_ref, arg1_one, look, joinO, start, List.map_cons, List.map_nil, List.length_cons, List.length_nil, List.replicate, List.cons_append, List.nil_append, List.append_nil, List.getElem?_cons_succ, List.getElem?_cons_zero, kcD, Nat.reduceAdd, Nat.reduceSub, br_t, br_f, br_n, asg, setAll, List.set_cons_succ, List.set_cons_zero, tgs, wipe, eq_ii, ne_ii, lt_ii, le_ii, gt_ii, ge_ii, is_n, isn_n, is_b, isn_b, add_ii, sub_ii, mul_ii, mod_ii, fdiv_ii, pow_ii, isNon, biD, intD_i, intD_b, esLen, beq_self_eq_true, ixD_tup, lsOf_new, seqD_tup, seqD_fl, slD_tup, bools, Option.map_some, true_and, ixD_fl, lenD_tup, lenD_fl, ix30, ix31, ix32, at20, at21, at30, at31, at32, List.filterMap_cons, List.filterMap_nil]
    rcases ht d hd with rfl | ⟨t, b, rfl, bt, bb⟩
    · simp only [wpSs, wpS, wpE, wpEs, wpC, wpAnd, wpOr, wpO, wpIt, opt_some, onI_int, onB_bl, onR_ref, arg1_one, look, joinO, start, List.map_cons, List.map_nil, List.length_cons, List.length_nil, List.replicate, List.cons_append, List.nil_append, List.append_nil, List.getElem?_cons_succ, List.getElem?_cons_zero, kcD, Nat.reduceAdd, Nat.reduceSub, br_t, br_f, br_n, asg, setAll, List.set_cons_succ, List.set_cons_zero, tgs, wipe, eq_ii, ne_ii, lt_ii, le_ii, gt_ii, ge_ii, is_n, isn_n, is_b, isn_b, add_ii, sub_ii, mul_ii, mod_ii, fdiv_ii, pow_ii, isNon, biD, intD_i, intD_b, esLen, beq_self_eq_true, ixD_tup, lsOf_new, seqD_tup, seqD_fl, slD_tup, bools, Option.map_some, true_and, ixD_fl, lenD_tup, lenD_fl, ix30, ix31, ix32, at20, at21, at30, at31, at32, List.filterMap_cons, List.filterMap_nil]
      exact go f hf
    · simp only [wpSs, wpS, wpE, wpEs, wpC, wpAnd, wpOr, wpO, wpIt, opt_some, onI_int, onB_bl, onR_ref, arg1_one, look, joinO, start, List.map_cons, List.map_nil, List.length_cons, List.length_nil, List.replicate, List.cons_append, List.nil_append, List.append_nil, List.getElem?_cons_succ, List.getElem?_cons_zero, kcD, Nat.reduceAdd, Nat.reduceSub, br_t, br_f, br_n, asg, setAll, List.set_cons_succ, List.set_cons_zero, tgs, wipe, eq_ii, ne_ii, lt_ii, le_ii, gt_ii, ge_ii, is_n, isn_n, is_b, isn_b, add_ii, sub_ii, mul_ii, mod_ii, fdiv_ii, pow_ii, isNon, biD, intD_i, intD_b, esLen, beq_self_eq_true, ixD_tup, lsOf_new, seqD_tup, seqD_fl, slD_tup, bools, Option.map_some, true_and, ixD_fl, lenD_tup, lenD_fl, ix30, ix31, ix32, at20, at21, at30, at31, at32, List.filterMap_cons, List.filterMap_nil]
      refine br_if (fun z => ?_) fun z => ?_
      · exact go _ (Or.inr hd)
      · rcases hf with rfl | hf
        · cases z
        · rcases ht f hf with rfl | ⟨t', b', rfl, bt', bb'⟩
          · cases z
          · refine call hl ⟨t, b, t', b', rfl, bt.up (by decide), bb.up (by decide), bt'.up (by decide), bb'.up (by decide), fun v => ?_⟩
            exact br_if (fun _ => go _ (Or.inr hd)) fun _ => go _ (Or.inr hf)
  · obtain ⟨rfl, f, o, rfl, hf⟩ := hI
    refine ⟨er, ?_⟩
    subst hA
    simp only [least_of_A0, wpSs, wpS, wpE, wpEs, wpC, wpAnd, wpOr, wpO, wpIt, opt_some, onI_int, onB_bl, onR_ref, arg1_one, look, joinO, start, List.map_cons, List.map_nil, List.length_cons, List.length_nil, List.replicate, List.cons_append, List.nil_append, List.append_nil, List.getElem?_cons_succ, List.getElem?_cons_zero, kcD, Nat.reduceAdd, Nat.reduceSub, br_t, br_f, br_n, asg, setAll, List.set_cons_succ, List.set_cons_zero, tgs, wipe, eq_ii, ne_ii, lt_ii, le_ii, gt_ii, ge_ii, is_n, isn_n, is_b, isn_b, add_ii, sub_ii, mul_ii, mod_ii, fdiv_ii, pow_ii, isNon, biD, intD_i, intD_b, esLen, beq_self_eq_true, ixD_tup, lsOf_new, seqD_tup, seqD_fl, slD_tup, bools, Option.map_some, true_and, ixD_fl, lenD_tup, lenD_fl, ix30, ix31, ix32, at20, at21, at30, at31, at32, List.filterMap_cons, List.filterMap_nil]
    exact hq f (by rcases hf with rfl | hf; exact .inl rfl; exact ht f hf)
end M
namespace M
theorem compW_any {chk : Sto → Prop} {step : D → Sto → (Option D → Sto → Prop) → Prop} {Q : VK} {P : D → Prop} {S0 : Sto} (hc : ∀ S, Ext S0 S → chk S) : ∀ {xs acc : List D} {S : Sto}, Ext S0 S → (∀ y ∈ acc, P y) → (∀ d ∈ xs, ∀ (S : Sto) (k : Option D → Sto → Prop), Ext S0 S → (∀ r S', Ext S S' → (∀ v, r = some v → P v) → k r S') → step d S k) →
    (∀ p vs S, Ext S0 S → vs.length ≤ acc.length + xs.length → (∀ y ∈ vs, P y) → S p = none → Q (.ref p) (upd S p (.lst vs))) → compW chk step Q xs acc S
  | [], acc, S, e, ha, _, h => ⟨hc S e, fun p hp => h p acc S e (by simp) ha hp⟩
  | x :: xs, acc, S, e, ha, hs, h => ⟨hc S e, hs x (by simp) S _ e fun r S' e' hr => compW_any hc (e.trans e') (fun y hy => by
      rcases List.mem_append.mp hy with hy | hy
      · exact ha y hy
      · cases r with
        | none => cases hy
        | some v => simp [Option.toList] at hy; rw [hy]; exact hr v rfl) (fun d hd => hs d (by simp [hd])) fun p vs S e hl hv hp => h p vs S e (by
          have : (acc ++ r.toList).length ≤ acc.length + 1 := by cases r <;> simp [Option.toList]
          simp only [List.length_cons]; omega) hv hp⟩
theorem at_hd {α : Type} {v : α} {vs : List α} : atI (v :: vs) 0 = some v := by
  unfold atI ixN
  rw [if_pos (by decide), if_pos (by simp)]
  rfl
theorem cut_tl {α : Type} {v : α} {vs : List α} : cut (v :: vs) (some 1) none = vs := by
  have e1 : sIx (v :: vs).length 0 (some 1) = 1 := by
    simp [sIx]
  have e2 : sIx (v :: vs).length (v :: vs).length none = (v :: vs).length := rfl
  unfold cut
  rw [e1, e2]
  simp
theorem eqLB_nil {f : D → D → Bool} {xs : List D} : eqLB f xs [] = xs.isEmpty := by cases xs <;> rfl
end M
namespace M
def spMeet : Sp := fun ds S Q _ => ∃ a c x y p q x' y' p' q', ds = [prD a c, shD x y p q, shD x' y' p' q'] ∧ Duo a c x y p q x' y' p' q' ∧ ∀ v S', Ext S S' → TimD v → Q v S'
theorem txt_meet {G : Gm} {ds : List D} {S0 : Sto} {Q : VK} {X : XK} {b : Ss} (hb : b = (.cons (.ret (.call 4 (.cons (.comp (.ix (.v 3) (.k (.int 0))) (.v 3) (.seq (.call 23 (.cons (.v 0) (.cons (.v 1) (.cons (.v 2) .nil))))) .none) .nil))) .nil)) (h1 : G.fn 23 = spRows) (h2 : G.fn 4 = spLeo) (h : spMeet ds S0 Q X) : ds.length = 3 ∧ wpSs G b (start 4 ds) S0 (kR Q X) := by
  obtain ⟨a, c, x, y, p, q, x', y', p', q', rfl, k, hq⟩ := h
  subst hb
  refine ⟨rfl, ?_⟩
  simp only [wpSs, wpS, wpE, wpEs, wpC, wpAnd, wpOr, wpO, wpIt, opt_some, onI_int, onB_bl, onR_ref, arg1_one, look, joinO, start, List.map_cons, List.map_nil, List.length_cons, List.length_nil, List.replicate, List.cons_append, List.nil_append, List.append_nil, List.getElem?_cons_succ, List.getElem?_cons_zero, kcD, Nat.reduceAdd, Nat.reduceSub, br_t, br_f, br_n, asg, setAll, List.set_cons_succ, List.set_cons_zero, tgs, wipe, eq_ii, ne_ii, lt_ii, le_ii, gt_ii, ge_ii, is_n, isn_n, is_b, isn_b, add_ii, sub_ii, mul_ii, mod_ii, fdiv_ii, pow_ii, isNon, biD, intD_i, intD_b, esLen, beq_self_eq_true, ixD_tup, lsOf_new, seqD_tup, seqD_fl, slD_tup, bools, Option.map_some, true_and, ixD_fl, lenD_tup, lenD_fl, ix30, ix31, ix32, at20, at21, at30, at31, at32, List.filterMap_cons, List.filterMap_nil]
  refine call h1 ⟨a, c, x, y, p, q, x', y', p', q', rfl, k, fun r xs S1 k1 e1 hx hl hA => ?_⟩
  dsimp only
  rw [seqD_ref e1]
  refine ⟨len_lim (by omega), ?_⟩
  refine compW_any (P := TimD) (S0 := S1) (fun S k => k _ _ e1) .refl (by intro y hy; cases hy) (fun d hd S2 kk k2 hk => ?_) fun p3 vs S3 k3 hl3 hv3 hp3 => ?_
  · obtain ⟨hd1, hd2⟩ := hx d hd
    cases hd1 with
    | no => exact absurd rfl hd2
    | alw => exact hk _ _ .refl (by intro z h; cases h; exact .inr ⟨0, 1, rfl, bd_of (by decide) (by decide), bd_of (by decide) (by decide)⟩)
    | row f g s h k0 k1 k2 k3 k4 k5 k6 k7 => exact hk _ _ .refl (by intro z h; cases h; exact .inr ⟨f, g, rfl, k4.up (by decide), k5.up (by decide)⟩)
  · have x3 := Ext.new (o := .lst vs) hp3
    have e3 := upd_at (S := S3) (a := p3) (o := .lst vs)
    generalize upd S3 p3 (.lst vs) = S4 at *
    exact call h2 ⟨p3, vs, rfl, e3, hv3, fun d hd => hq _ _ ((k1.trans k3).trans x3) hd⟩
/-! ### objects -/
theorem onO_ref {S : Sto} {a C : Nat} {fs : List (Tx × D)} {P : Nat → List (Tx × D) → Prop} (e : S a = some (.ins C fs)) (q : P C fs) : onO S (.ref a) P := by
  show opt (insO (S a)) _
  rw [e]
  exact q
theorem fld_ref {G : Gm} {S : Sto} {a C k : Nat} {fs : List (Tx × D)} {n : Tx} {d : D} {Q : VK} (ek : G.ob k = some C) (e : S a = some (.ins C fs)) (hl : fs.lookup n = some d) (q : Q d S) : fldD G n (.ref a) S Q :=
  onO_ref e ⟨⟨k, ek⟩, by rw [hl]; exact q⟩
theorem fset_ref {G : Gm} {S : Sto} {a C k : Nat} {fs : List (Tx × D)} {n : Tx} {d : D} {P : Sto → Prop} (ek : G.ob k = some C) (e : S a = some (.ins C fs)) (hl : fs.length < 1000) (q : P (upd S a (.ins C (putK n d fs)))) : fsetD G n (.ref a) d S P := by
  show opt (insO (S a)) _
  rw [e]
  exact ⟨⟨k, ek⟩, hl, q⟩
theorem mcall_ref {G : Gm} {S : Sto} {a C k f : Nat} {fs : List (Tx × D)} {m : Tx} {ds : List D} {sp : Sp} {Q : VK} {X : XK} (e : S a = some (.ins C fs)) (hn : fs.lookup m = none) (ek : G.ob k = some C) (em : G.mt k m = some f) (h : G.fn f = sp) (q : sp (.ref a :: ds) S Q X) : mcall G m (.ref a) ds S Q X :=
  onO_ref e ⟨hn, k, ek, by rw [em]; exact call h q⟩
theorem new_ok {G : Gm} {S : Sto} {k n : Nat} {f : D → List D} {sp : Sp} {Q : VK} {X : XK} (em : G.mt k nmInit = some n) (h : G.fn n = sp) (q : ∀ C p, G.ob k = some C → S p = none → sp (f (.ref p)) (upd S p (.ins C [])) (fun v S2 => isNon v = true ∧ Q (.ref p) S2) X) : newD G k f S Q X := fun C hC => by
  rw [em]
  exact fun p hp => call h (q C p hC hp)
def nSd : Tx := [115, 105, 100, 101, 115]
def nTd : Tx := [116, 111, 108, 100]
def bal (t s : D) : List (Tx × D) := [(nSd, t), (nTd, s)]
/-- a ball stands at a -/
def Bal (ob : Nat → Option Nat) (S : Sto) (a : Nat) (t s : D) : Prop := ∃ C, ob 0 = some C ∧ S a = some (.ins C (bal t s))
theorem Bal.ext {ob : Nat → Option Nat} {S S' : Sto} {a : Nat} {t s : D} (h : Bal ob S a t s) (k : Ext S S') : Bal ob S' a t s := by
  obtain ⟨C, e, q⟩ := h
  exact ⟨C, e, k _ _ q⟩
theorem Bal.sd {G : Gm} {S : Sto} {a : Nat} {t s : D} (h : Bal G.ob S a t s) {Q : VK} (q : Q t S) : fldD G nSd (.ref a) S Q := by
  obtain ⟨C, e, h⟩ := h
  exact fld_ref e h rfl q
theorem Bal.td {G : Gm} {S : Sto} {a : Nat} {t s : D} (h : Bal G.ob S a t s) {Q : VK} (q : Q s S) : fldD G nTd (.ref a) S Q := by
  obtain ⟨C, e, h⟩ := h
  exact fld_ref e h rfl q
theorem Bal.call {G : Gm} {S : Sto} {a f : Nat} {t s : D} (h : Bal G.ob S a t s) {m : Tx} {ds : List D} {sp : Sp} {Q : VK} {X : XK} (hn : (bal t s).lookup m = none) (em : G.mt 0 m = some f) (hf : G.fn f = sp) (q : sp (.ref a :: ds) S Q X) : mcall G m (.ref a) ds S Q X := by
  obtain ⟨C, e, h⟩ := h
  exact mcall_ref h hn e em hf q
/-- __init__: the ball stands behind it, or an error -/
def spInit (ob : Nat → Option Nat) : Sp := fun ds S Q X => ∃ p C t s, ds = [.ref p, t, s] ∧ ob 0 = some C ∧ S p = some (.ins C []) ∧ Vl S t ∧ Vl S s ∧ (∀ S', Kp p S S' → Bal ob S' p t s → eS t s = none → Q .non S') ∧ ∀ k S', Ext S S' → eS t s = some k → X k [] S'
theorem txt_init {G : Gm} {ds : List D} {S0 : Sto} {Q : VK} {X : XK} {b : Ss} (hb : b = (.cons (.ex (.call 15 (.cons (.v 1) (.cons (.v 2) .nil)))) (.cons (.fset [115, 105, 100, 101, 115] (.v 0) (.v 1)) (.cons (.fset [116, 111, 108, 100] (.v 0) (.v 2)) .nil)))) (h8 : G.fn 15 = spCkS) (h : spInit G.ob ds S0 Q X) : ds.length = 3 ∧ wpSs G b (start 3 ds) S0 (kR Q X) := by
  obtain ⟨p, C, t, s, rfl, ek, ep, vt, vs, hq, hx⟩ := h
  subst hb
  refine ⟨rfl, ?_⟩
  simp only [wpSs, wpS, wpE, wpEs, wpC, wpAnd, wpOr, wpO, wpIt, opt_some, onI_int, onB_bl, onR_ref, arg1_one, look, joinO, start, List.map_cons, List.map_nil, List.length_cons, List.length_nil, List.replicate, List.cons_append, List.nil_append, List.append_nil, List.getElem?_cons_succ, List.getElem?_cons_zero, kcD, Nat.reduceAdd, Nat.reduceSub, br_t, br_f, br_n, asg, setAll, List.set_cons_succ, List.set_cons_zero, tgs, wipe, eq_ii, ne_ii, lt_ii, le_ii, gt_ii, ge_ii, is_n, isn_n, is_b, isn_b, add_ii, sub_ii, mul_ii, mod_ii, fdiv_ii, pow_ii, isNon, biD, intD_i, intD_b, esLen, beq_self_eq_true, ixD_tup, lsOf_new, seqD_tup, seqD_fl, slD_tup, bools, Option.map_some, true_and, ixD_fl, lenD_tup, lenD_fl, ix30, ix31, ix32, at20, at21, at30, at31, at32, List.filterMap_cons, List.filterMap_nil]
  refine call h8 ⟨t, s, rfl, vt, vs, fun S1 k1 => ?_⟩
  cases he : eS t s with
  | some k => exact hx k S1 k1 he
  | none =>
    have e1 := k1 _ _ ep
    show fsetD G nSd (.ref p) t S1 fun S3 => fsetD G nTd (.ref p) s S3 fun S3 => Q .non S3
    refine fset_ref ek e1 (show (0 : Nat) < 1000 by omega) ?_
    refine fset_ref ek upd_at (show (1 : Nat) < 1000 by omega) ?_
    refine hq _ ((k1.kp p).trans (Kp.wr.trans Kp.wr)) ⟨C, ek, ?_⟩ he
    exact upd_at
end M
namespace M
def mtbK : List ((Nat × Tx) × Nat) := [((0, [95, 95, 105, 110, 105, 116, 95, 95]), 31), ((0, [95, 95, 99, 97, 108, 108, 95, 95]), 32), ((0, [95, 95, 110, 101, 103, 95, 95]), 33), ((0, [95, 95, 97, 110, 100, 95, 95]), 34), ((0, [95, 95, 101, 113, 95, 95]), 35), ((0, [95, 95, 99, 111, 110, 116, 97, 105, 110, 115, 95, 95]), 36), ((0, [116, 97, 98, 108, 101]), 37), ((0, [115, 104, 111, 116]), 38)]
def mtK (k : Nat) (m : Tx) : Option Nat := mtbK.lookup (k, m)
def osK (i j : Nat) : Bool := i == j
def nTab : Tx := [116, 97, 98, 108, 101]
def nSho : Tx := [115, 104, 111, 116]
/-- the place at a time, or the error -/
def spOC (ob : Nat → Option Nat) : Sp := fun ds S Q X => ∃ o a c x y p q v, ds = [.ref o, v] ∧ Bal ob S o (prD a c) (shD x y p q) ∧ (∀ t b, v = prD t b → eP v = none → Sh a c x y p q t b) ∧ Vl S v ∧ (∀ d S', Ext S S' → eP v = none → Q d S') ∧ ∀ k S', Ext S S' → eP v = some k → X k [] S'
theorem txt_oc {G : Gm} {ds : List D} {S0 : Sto} {Q : VK} {X : XK} {b : Ss} (hb : b = (.cons (.ex (.call 16 (.cons (.v 1) .nil))) (.cons (.ret (.call 19 (.cons (.fld (.v 0) [115, 105, 100, 101, 115]) (.cons (.fld (.v 0) [116, 111, 108, 100]) (.cons (.v 1) .nil))))) .nil))) (h9 : G.fn 16 = spCkP) (h1 : G.fn 19 = spPlaceOf) (h : spOC G.ob ds S0 Q X) : ds.length = 2 ∧ wpSs G b (start 2 ds) S0 (kR Q X) := by
  obtain ⟨o, a, c, x, y, p, q, v, rfl, hB, hs, vv, hq, hx⟩ := h
  subst hb
  refine ⟨rfl, ?_⟩
  simp only [wpSs, wpS, wpE, wpEs, wpC, wpAnd, wpOr, wpO, wpIt, opt_some, onI_int, onB_bl, onR_ref, arg1_one, look, joinO, start, List.map_cons, List.map_nil, List.length_cons, List.length_nil, List.replicate, List.cons_append, List.nil_append, List.append_nil, List.getElem?_cons_succ, List.getElem?_cons_zero, kcD, Nat.reduceAdd, Nat.reduceSub, br_t, br_f, br_n, asg, setAll, List.set_cons_succ, List.set_cons_zero, tgs, wipe, eq_ii, ne_ii, lt_ii, le_ii, gt_ii, ge_ii, is_n, isn_n, is_b, isn_b, add_ii, sub_ii, mul_ii, mod_ii, fdiv_ii, pow_ii, isNon, biD, intD_i, intD_b, esLen, beq_self_eq_true, ixD_tup, lsOf_new, seqD_tup, seqD_fl, slD_tup, bools, Option.map_some, true_and, ixD_fl, lenD_tup, lenD_fl, ix30, ix31, ix32, at20, at21, at30, at31, at32, List.filterMap_cons, List.filterMap_nil]
  refine call h9 ⟨v, rfl, vv, fun S1 k1 => ?_⟩
  cases he : eP v with
  | some k => exact hx k S1 k1 he
  | none =>
    have hp : partB v = true := by
      cases hb : partB v with
      | true => rfl
      | false => unfold eP at he; rw [if_neg (nt hb)] at he; cases he
    obtain ⟨t, b2, rfl, b0⟩ := part_ij hp
    have hB1 := hB.ext k1
    show fldD G nSd (.ref o) S1 fun x S1 => fldD G nTd (.ref o) S1 fun z S1 => cl (G.fn 19) [x, z, prD t b2] S1 Q X
    refine hB1.sd ?_
    refine hB1.td ?_
    exact call h1 ⟨a, c, x, y, p, q, t, b2, rfl, hs t b2 rfl he, hq _ _ k1 he⟩
theorem txt_gt {G : Gm} {ds : List D} {S0 : Sto} {Q : VK} {X : XK} {b : Ss} (hb : b = (.cons (.ret (.fld (.v 0) [115, 105, 100, 101, 115])) .nil)) (h : (fun (ds : List D) (S : Sto) (Q : VK) (X : XK) => ∃ a t s, ds = [.ref a] ∧ Bal G.ob S a t s ∧ Q t S) ds S0 Q X) : ds.length = 1 ∧ wpSs G b (start 1 ds) S0 (kR Q X) := by
  obtain ⟨a, t, s, rfl, hB, hq⟩ := h
  subst hb
  refine ⟨rfl, ?_⟩
  simp only [wpSs, wpS, wpE, wpEs, wpC, wpAnd, wpOr, wpO, wpIt, opt_some, onI_int, onB_bl, onR_ref, arg1_one, look, joinO, start, List.map_cons, List.map_nil, List.length_cons, List.length_nil, List.replicate, List.cons_append, List.nil_append, List.append_nil, List.getElem?_cons_succ, List.getElem?_cons_zero, kcD, Nat.reduceAdd, Nat.reduceSub, br_t, br_f, br_n, asg, setAll, List.set_cons_succ, List.set_cons_zero, tgs, wipe, eq_ii, ne_ii, lt_ii, le_ii, gt_ii, ge_ii, is_n, isn_n, is_b, isn_b, add_ii, sub_ii, mul_ii, mod_ii, fdiv_ii, pow_ii, isNon, biD, intD_i, intD_b, esLen, beq_self_eq_true, ixD_tup, lsOf_new, seqD_tup, seqD_fl, slD_tup, bools, Option.map_some, true_and, ixD_fl, lenD_tup, lenD_fl, ix30, ix31, ix32, at20, at21, at30, at31, at32, List.filterMap_cons, List.filterMap_nil]
  exact hB.sd hq
def spGt (ob : Nat → Option Nat) : Sp := fun ds S Q _ => ∃ a t s, ds = [.ref a] ∧ Bal ob S a t s ∧ Q t S
def spGs (ob : Nat → Option Nat) : Sp := fun ds S Q _ => ∃ a t s, ds = [.ref a] ∧ Bal ob S a t s ∧ Q s S
theorem txt_gtb {G : Gm} {ds : List D} {S0 : Sto} {Q : VK} {X : XK} {b : Ss} (hb : b = (.cons (.ret (.fld (.v 0) [115, 105, 100, 101, 115])) .nil)) (h : spGt G.ob ds S0 Q X) : ds.length = 1 ∧ wpSs G b (start 1 ds) S0 (kR Q X) := txt_gt hb h
theorem txt_gsb {G : Gm} {ds : List D} {S0 : Sto} {Q : VK} {X : XK} {b : Ss} (hb : b = (.cons (.ret (.fld (.v 0) [116, 111, 108, 100])) .nil)) (h : spGs G.ob ds S0 Q X) : ds.length = 1 ∧ wpSs G b (start 1 ds) S0 (kR Q X) := by
  obtain ⟨a, t, s, rfl, hB, hq⟩ := h
  subst hb
  refine ⟨rfl, ?_⟩
  simp only [wpSs, wpS, wpE, wpEs, wpC, wpAnd, wpOr, wpO, wpIt, opt_some, onI_int, onB_bl, onR_ref, arg1_one, look, joinO, start, List.map_cons, List.map_nil, List.length_cons, List.length_nil, List.replicate, List.cons_append, List.nil_append, List.append_nil, List.getElem?_cons_succ, List.getElem?_cons_zero, kcD, Nat.reduceAdd, Nat.reduceSub, br_t, br_f, br_n, asg, setAll, List.set_cons_succ, List.set_cons_zero, tgs, wipe, eq_ii, ne_ii, lt_ii, le_ii, gt_ii, ge_ii, is_n, isn_n, is_b, isn_b, add_ii, sub_ii, mul_ii, mod_ii, fdiv_ii, pow_ii, isNon, biD, intD_i, intD_b, esLen, beq_self_eq_true, ixD_tup, lsOf_new, seqD_tup, seqD_fl, slD_tup, bools, Option.map_some, true_and, ixD_fl, lenD_tup, lenD_fl, ix30, ix31, ix32, at20, at21, at30, at31, at32, List.filterMap_cons, List.filterMap_nil]
  exact hB.td hq
/-- no object -/
def NoO (S : Sto) (r : D) : Prop := plnD S r
theorem isc_no {G : Gm} {k : Nat} {S : Sto} {r : D} {P : Bool → Prop} (h : plnD S r) (q : P false) : iscD G k r S P := by
  cases r with
  | ref a =>
    have h : (match S a with
      | some (.ins _ _) => False
      | some _ => True
      | none => False) := h
    show iscO G k P (S a)
    cases e : S a with
    | none => rw [e] at h; exact False.elim h
    | some o =>
      rw [e] at h
      cases o <;> first | exact q | exact False.elim h
  | xn _ _ => exact False.elim h
  | _ => exact q
theorem isc_bal {G : Gm} (ho : GO 1 mtK osK G) {S : Sto} {a : Nat} {t s : D} (h : Bal G.ob S a t s) {P : Bool → Prop} (q : P true) : iscD G 0 (.ref a) S P := by
  obtain ⟨C, e, h⟩ := h
  show iscO G 0 P (S a)
  rw [h]
  exact ⟨0, e, by rw [ho.hs]; exact q⟩
def AndK (ob : Nat → Option Nat) (S : Sto) (a c x y p q : Int) (r : D) (Q : VK) (X : XK) : Prop :=
  (NoO S r ∧ ∀ S', Ext S S' → X 3 [] S') ∨ ∃ o2 a2 c2 x2 y2 p2 q2, r = .ref o2 ∧ Bal ob S o2 (prD a2 c2) (shD x2 y2 p2 q2) ∧ ((a = a2 ∧ c = c2) → Duo a c x y p q x2 y2 p2 q2 ∧ ∀ v S', Ext S S' → TimD v → Q v S') ∧ (¬(a = a2 ∧ c = c2) → ∀ S', Ext S S' → X 4 [] S')
def spAnd (ob : Nat → Option Nat) : Sp := fun ds S Q X => ∃ o a c x y p q r, ds = [.ref o, r] ∧ Bal ob S o (prD a c) (shD x y p q) ∧ AndK ob S a c x y p q r Q X
theorem ne_prD {a c a2 c2 : Int} {S : Sto} {Q : Bool → Prop} (h : Q (!(decide (a = a2 ∧ c = c2)))) : cmpD .ne (prD a c) (prD a2 c2) S Q := by
  refine ⟨rfl, rfl, ?_⟩
  have e : eqB dep S (prD a c) (prD a2 c2) = decide (a = a2 ∧ c = c2) := by
    show ((a == a2) && ((c == c2) && true)) = _
    rw [Bool.and_true, Bool.eq_iff_iff]
    simp
  rw [e]; exact h
theorem txt_and {G : Gm} {ds : List D} {S0 : Sto} {Q : VK} {X : XK} {b : Ss} (hb : b = (.cons (.if_ (.not (.isc (.v 1) 0)) (.cons (.raise 3 .nil) .nil) .nil) (.cons (.if_ (.cmp .ne (.fld (.v 0) [115, 105, 100, 101, 115]) (.fld (.v 1) [115, 105, 100, 101, 115])) (.cons (.raise 4 .nil) .nil) .nil) (.cons (.ret (.call 24 (.cons (.fld (.v 0) [115, 105, 100, 101, 115]) (.cons (.fld (.v 0) [116, 111, 108, 100]) (.cons (.fld (.v 1) [116, 111, 108, 100]) .nil))))) .nil)))) (ho : GO 1 mtK osK G) (h1 : G.fn 24 = spMeet) (h : spAnd G.ob ds S0 Q X) : ds.length = 2 ∧ wpSs G b (start 2 ds) S0 (kR Q X) := by
  obtain ⟨o, a, c, x, y, p, q, r, rfl, hB, h⟩ := h
  subst hb
  refine ⟨rfl, ?_⟩
  simp only [wpSs, wpS, wpE, wpEs, wpC, wpAnd, wpOr, wpO, wpIt, opt_some, onI_int, onB_bl, onR_ref, arg1_one, look, joinO, start, List.map_cons, List.map_nil, List.length_cons, List.length_nil, List.replicate, List.cons_append, List.nil_append, List.append_nil, List.getElem?_cons_succ, List.getElem?_cons_zero, kcD, Nat.reduceAdd, Nat.reduceSub, br_t, br_f, br_n, asg, setAll, List.set_cons_succ, List.set_cons_zero, tgs, wipe, eq_ii, ne_ii, lt_ii, le_ii, gt_ii, ge_ii, is_n, isn_n, is_b, isn_b, add_ii, sub_ii, mul_ii, mod_ii, fdiv_ii, pow_ii, isNon, biD, intD_i, intD_b, esLen, beq_self_eq_true, ixD_tup, lsOf_new, seqD_tup, seqD_fl, slD_tup, bools, Option.map_some, true_and, ixD_fl, lenD_tup, lenD_fl, ix30, ix31, ix32, at20, at21, at30, at31, at32, List.filterMap_cons, List.filterMap_nil]
  rcases h with ⟨hn, hx⟩ | ⟨o2, a2, c2, x2, y2, p2, q2, rfl, hB2, h1', h2'⟩
  · exact isc_no hn (br_ff (hx _ .refl))
  · refine isc_bal ho hB2 (br_tt ?_)
    refine hB.sd ?_
    refine hB2.sd ?_
    refine ne_prD ?_
    by_cases e : a = a2 ∧ c = c2
    · rw [decide_eq_true e]
      obtain ⟨D, hq⟩ := h1' e
      obtain ⟨rfl, rfl⟩ := e
      refine br_ff ?_
      refine hB.sd ?_
      refine hB.td ?_
      refine hB2.td ?_
      exact call h1 ⟨a, c, x, y, p, q, x2, y2, p2, q2, rfl, D, fun v S' k ht => hq v S' k ht⟩
    · rw [decide_eq_false e]
      exact br_tt (h2' e _ .refl)
end M
namespace M
def wordB : Option Nat → D
  | none => .str [110, 111, 110, 101]
  | some 0 => .str [116, 97, 98, 108, 101]
  | some 1 => .str [115, 104, 111, 116]
  | some 2 => .str [116, 105, 109, 101]
  | some 3 => .str [98, 97, 108, 108]
  | some _ => .str [117, 110, 108, 105, 107, 101]
theorem hand_ok {G : Gm} (hx : GX 5 subK G) {Q : VK} {K : Kt} (hrt : K.rt = Q) {k C : Nat} (hk : k < 5) (hC : G.adr k = some C) {o0 o1 o2 o3 : Option D} {S : Sto} (hq : ∀ S', Ext S S' → Q (wordB (some k)) S') :
    wpSs G ((.cons (.set (.v 5) (.lst (.cons (.isx (.v 4) [0]) (.cons (.isx (.v 4) [1]) .nil)))) (.cons (.set (.v 5) (.bin .add (.v 5) (.lst (.cons (.isx (.v 4) [2]) (.cons (.isx (.v 4) [3]) .nil))))) (.cons (.ex (.mt .append (.v 5) (.cons (.isx (.v 4) [4]) .nil))) (.cons (.if_ (.or (.not (.isx (.v 4) [6])) (.cons (.cmp .ne (.mt .count (.v 5) (.cons (.k (.bl true)) .nil)) (.k (.int 1))) .nil)) (.cons (.ret (.k (.str [111, 116, 104, 101, 114]))) .nil) .nil) (.cons (.ret (.ix (.lst (.cons (.k (.str [116, 97, 98, 108, 101])) (.cons (.k (.str [115, 104, 111, 116])) (.cons (.k (.str [116, 105, 109, 101])) (.cons (.k (.str [98, 97, 108, 108])) (.cons (.k (.str [117, 110, 108, 105, 107, 101])) .nil)))))) (.mt .index (.v 5) (.cons (.k (.bl true)) .nil)))) .nil)))))) [o0, o1, o2, o3, some (.xn C []), none] S K := by
  subst hrt
  have hk : k = 0 ∨ k = 1 ∨ k = 2 ∨ k = 3 ∨ k = 4 := by omega
  simp only [wpSs, wpS, wpE, wpEs, wpC, wpAnd, wpOr, wpO, wpIt, opt_some, onI_int, onB_bl, onR_ref, arg1_one, look, joinO, start, List.map_cons, List.map_nil, List.length_cons, List.length_nil, List.replicate, List.cons_append, List.nil_append, List.append_nil, List.getElem?_cons_succ, List.getElem?_cons_zero, kcD, Nat.reduceAdd, Nat.reduceSub, br_t, br_f, br_n, asg, setAll, List.set_cons_succ, List.set_cons_zero, tgs, wipe, eq_ii, ne_ii, lt_ii, le_ii, gt_ii, ge_ii, is_n, isn_n, is_b, isn_b, add_ii, sub_ii, mul_ii, mod_ii, fdiv_ii, pow_ii, isNon, biD, intD_i, intD_b, esLen, beq_self_eq_true, ixD_tup, lsOf_new, seqD_tup, seqD_fl, slD_tup, bools, Option.map_some, true_and, ixD_fl, lenD_tup, lenD_fl, ix30, ix31, ix32, at20, at21, at30, at31, at32, List.filterMap_cons, List.filterMap_nil, onX_xn, hx.hs]
  rcases hk with rfl | rfl | rfl | rfl | rfl
  all_goals
    refine ⟨_, hC, _, hC, len_lim (by decide), fun p hp => ?_⟩
    refine ⟨_, hC, _, hC, len_lim (by decide), fun p2 hp2 => ?_⟩
    have n2 : p ≠ p2 := ne_new upd_at hp2
    refine add_ref ((upd_off n2).trans upd_at) upd_at ⟨len_lim (by decide), fun p3 hp3 => ?_⟩
    have z3 := none_of (Ext.new hp) (none_of (Ext.new hp2) hp3)
    dsimp only
    rw [lsOf_ref upd_at]
    refine ⟨_, hC, append_ref upd_at (by decide) ?_⟩
    refine ⟨_, hC, br_tt ?_⟩
    rw [lsOf_ref upd_at, opt_some, count_ref upd_at (bs := _) rfl]
    refine ne_ii.mpr (br_ff ?_)
    refine ⟨len_lim (by decide), fun p4 hp4 => ?_⟩
    have n4 : p3 ≠ p4 := ne_new upd_at hp4
    dsimp only
    rw [lsOf_ref ((upd_off n4).trans upd_at), opt_some, index_ref ((upd_off n4).trans upd_at) (bs := _) rfl]
    have hq2 := fun o => hq _ ((ext_wr (((Ext.new hp).trans (Ext.new hp2)).trans (Ext.new hp3)) z3 Kp.wr).trans (Ext.new (o := o) hp4))
    show ixD (.ref p4) (.int _) _ _
    rw [ixD_ref upd_at]
    exact hq2 _
/-- what the call does, by its way -/
def ToldK (ob : Nat → Option Nat) (S : Sto) (way a c x y p q : Int) (u v : D) (e : Option Nat) : Prop :=
  (way = 0 ∨ way = 1 → Vl S u ∧ Vl S v ∧ e = eS u v) ∧ (way = 2 ∨ way = 3 → Vl S u ∧ (∀ t b, u = prD t b → eP u = none → Sh a c x y p q t b) ∧ e = eP u) ∧
  (way = 4 → (NoO S u ∧ e = some 3) ∨ ∃ o2 a2 c2 x2 y2 p2 q2, u = .ref o2 ∧ Bal ob S o2 (prD a2 c2) (shD x2 y2 p2 q2) ∧ ((a = a2 ∧ c = c2) → Duo a c x y p q x2 y2 p2 q2 ∧ e = none) ∧ (¬(a = a2 ∧ c = c2) → e = some 4))
theorem isNon_of {d : D} (h : isNon d = true) : d = .non := by cases d <;> first | rfl | cases h
theorem eq_tim {d : D} {S : Sto} {Q : Bool → Prop} (h : TimD d) (q : Q false) : cmpD .eq d (.int 0) S Q := by
  rcases h with rfl | ⟨t, b, rfl, _⟩
  · exact ⟨rfl, rfl, q⟩
  · exact ⟨rfl, rfl, q⟩
theorem Kp.ext0 {S S1 S' : Sto} {p : Nat} (hp : S p = none) (k : Ext S S1) (h : Kp p S1 S') : Ext S S' := fun a o e => h a o (fun z => by rw [z, hp] at e; cases e) (k a o e)
theorem told_body {G : Gm} (ho : GO 1 mtK osK G) (h31 : G.fn 31 = spInit G.ob) (h32 : G.fn 32 = spOC G.ob) (h34 : G.fn 34 = spAnd G.ob) {Q : VK} {K : Kt} {S : Sto} {way a c x y p q : Int} {o : Nat} {u v : D} {e : Option Nat}
    (hB : Bal G.ob S o (prD a c) (shD x y p q)) (w0 : 0 ≤ way) (w5 : way < 5) (hK : ToldK G.ob S way a c x y p q u v e) (hq : ∀ S', Ext S S' → Q (wordB e) S') (hrt : K.rt = Q)
    (hxe : ∀ k S1, Ext S S1 → e = some k → K.xe k [] [some (.int way), some (.ref o), some u, some v, none, none] S1) :
    wpSs G ((.cons (.if_ (.cmp .eq (.v 0) (.k (.int 0))) (.cons (.ex (.new 0 (.cons (.v 2) (.cons (.v 3) .nil)))) .nil) .nil) (.cons (.if_ (.cmp .eq (.v 0) (.k (.int 1))) (.cons (.ex (.newk 0 .nil (.cons (.v 3) (.cons (.v 2) .nil)) [0, 2, 1])) .nil) .nil) (.cons (.if_ (.cmp .eq (.v 0) (.k (.int 2))) (.cons (.ex (.ocl (.v 1) (.cons (.v 2) .nil))) .nil) .nil) (.cons (.if_ (.cmp .eq (.v 0) (.k (.int 3))) (.cons (.ex (.oclk (.v 1) (.cons (.v 2) .nil) [0, 1])) .nil) .nil) (.cons (.if_ (.cmp .eq (.v 0) (.k (.int 4))) (.cons (.ret (.ite (.cmp .eq (.oand (.v 1) (.v 2)) (.k (.int 0))) (.lst (.cons (.k (.str [110, 111, 110, 101])) .nil)) (.k (.str [110, 111, 110, 101])))) .nil) .nil) (.cons (.ret (.k (.str [110, 111, 110, 101]))) .nil))))))) [some (.int way), some (.ref o), some u, some v, none, none] S K := by
  subst hrt
  obtain ⟨k1, k2, k3⟩ := hK
  have emI : G.mt 0 nmInit = some 31 := by rw [ho.hm]; rfl
  have emC : G.mt 0 nmCall = some 32 := by rw [ho.hm]; rfl
  have emA : G.mt 0 nmAnd = some 34 := by rw [ho.hm]; rfl
  have hw : way = 0 ∨ way = 1 ∨ way = 2 ∨ way = 3 ∨ way = 4 := by omega
  rcases hw with rfl | rfl | rfl | rfl | rfl
  · obtain ⟨vu, vv, rfl⟩ := k1 (.inl rfl)
    simp only [wpSs, wpS, wpE, wpEs, wpC, wpAnd, wpOr, wpO, wpIt, opt_some, onI_int, onB_bl, onR_ref, arg1_one, look, joinO, start, List.map_cons, List.map_nil, List.length_cons, List.length_nil, List.replicate, List.cons_append, List.nil_append, List.append_nil, List.getElem?_cons_succ, List.getElem?_cons_zero, kcD, Nat.reduceAdd, Nat.reduceSub, br_t, br_f, br_n, asg, setAll, List.set_cons_succ, List.set_cons_zero, tgs, wipe, eq_ii, ne_ii, lt_ii, le_ii, gt_ii, ge_ii, is_n, isn_n, is_b, isn_b, add_ii, sub_ii, mul_ii, mod_ii, fdiv_ii, pow_ii, isNon, biD, intD_i, intD_b, esLen, beq_self_eq_true, ixD_tup, lsOf_new, seqD_tup, seqD_fl, slD_tup, bools, Option.map_some, true_and, ixD_fl, lenD_tup, lenD_fl, ix30, ix31, ix32, at20, at21, at30, at31, at32, List.filterMap_cons, List.filterMap_nil, Int.reduceBEq, br_t, br_f]
    refine new_ok emI h31 fun C p' hC hp => ?_
    have kN := Ext.new (o := .ins C []) hp
    refine ⟨p', C, u, v, rfl, hC, upd_at, vu.ext kN, vv.ext kN, fun S' kp hb he => ⟨rfl, ?_⟩, fun k S' ke he => hxe k S' (kN.trans ke) he⟩
    have := hq S' (Kp.ext0 hp kN kp)
    rw [he] at this
    exact this
  · obtain ⟨vu, vv, rfl⟩ := k1 (.inr rfl)
    simp only [wpSs, wpS, wpE, wpEs, wpC, wpAnd, wpOr, wpO, wpIt, opt_some, onI_int, onB_bl, onR_ref, arg1_one, look, joinO, start, List.map_cons, List.map_nil, List.length_cons, List.length_nil, List.replicate, List.cons_append, List.nil_append, List.append_nil, List.getElem?_cons_succ, List.getElem?_cons_zero, kcD, Nat.reduceAdd, Nat.reduceSub, br_t, br_f, br_n, asg, setAll, List.set_cons_succ, List.set_cons_zero, tgs, wipe, eq_ii, ne_ii, lt_ii, le_ii, gt_ii, ge_ii, is_n, isn_n, is_b, isn_b, add_ii, sub_ii, mul_ii, mod_ii, fdiv_ii, pow_ii, isNon, biD, intD_i, intD_b, esLen, beq_self_eq_true, ixD_tup, lsOf_new, seqD_tup, seqD_fl, slD_tup, bools, Option.map_some, true_and, ixD_fl, lenD_tup, lenD_fl, ix30, ix31, ix32, at20, at21, at30, at31, at32, List.filterMap_cons, List.filterMap_nil, Int.reduceBEq, br_t, br_f]
    refine new_ok emI h31 fun C p' hC hp => ?_
    have kN := Ext.new (o := .ins C []) hp
    refine ⟨p', C, u, v, rfl, hC, upd_at, vu.ext kN, vv.ext kN, fun S' kp hb he => ⟨rfl, ?_⟩, fun k S' ke he => hxe k S' (kN.trans ke) he⟩
    have := hq S' (Kp.ext0 hp kN kp)
    rw [he] at this
    exact this
  · obtain ⟨vu, hs, rfl⟩ := k2 (.inl rfl)
    simp only [wpSs, wpS, wpE, wpEs, wpC, wpAnd, wpOr, wpO, wpIt, opt_some, onI_int, onB_bl, onR_ref, arg1_one, look, joinO, start, List.map_cons, List.map_nil, List.length_cons, List.length_nil, List.replicate, List.cons_append, List.nil_append, List.append_nil, List.getElem?_cons_succ, List.getElem?_cons_zero, kcD, Nat.reduceAdd, Nat.reduceSub, br_t, br_f, br_n, asg, setAll, List.set_cons_succ, List.set_cons_zero, tgs, wipe, eq_ii, ne_ii, lt_ii, le_ii, gt_ii, ge_ii, is_n, isn_n, is_b, isn_b, add_ii, sub_ii, mul_ii, mod_ii, fdiv_ii, pow_ii, isNon, biD, intD_i, intD_b, esLen, beq_self_eq_true, ixD_tup, lsOf_new, seqD_tup, seqD_fl, slD_tup, bools, Option.map_some, true_and, ixD_fl, lenD_tup, lenD_fl, ix30, ix31, ix32, at20, at21, at30, at31, at32, List.filterMap_cons, List.filterMap_nil, Int.reduceBEq, br_t, br_f]
    refine hB.call rfl emC h32 ⟨o, a, c, x, y, p, q, u, rfl, hB, hs, vu, fun d S' k he => ?_, fun k S' ke he => hxe k S' ke he⟩
    have := hq S' k
    rw [he] at this
    exact this
  · obtain ⟨vu, hs, rfl⟩ := k2 (.inr rfl)
    simp only [wpSs, wpS, wpE, wpEs, wpC, wpAnd, wpOr, wpO, wpIt, opt_some, onI_int, onB_bl, onR_ref, arg1_one, look, joinO, start, List.map_cons, List.map_nil, List.length_cons, List.length_nil, List.replicate, List.cons_append, List.nil_append, List.append_nil, List.getElem?_cons_succ, List.getElem?_cons_zero, kcD, Nat.reduceAdd, Nat.reduceSub, br_t, br_f, br_n, asg, setAll, List.set_cons_succ, List.set_cons_zero, tgs, wipe, eq_ii, ne_ii, lt_ii, le_ii, gt_ii, ge_ii, is_n, isn_n, is_b, isn_b, add_ii, sub_ii, mul_ii, mod_ii, fdiv_ii, pow_ii, isNon, biD, intD_i, intD_b, esLen, beq_self_eq_true, ixD_tup, lsOf_new, seqD_tup, seqD_fl, slD_tup, bools, Option.map_some, true_and, ixD_fl, lenD_tup, lenD_fl, ix30, ix31, ix32, at20, at21, at30, at31, at32, List.filterMap_cons, List.filterMap_nil, Int.reduceBEq, br_t, br_f]
    obtain ⟨C, eC, hS⟩ := hB
    refine onO_ref hS ⟨rfl, 0, eC, ?_⟩
    rw [emC]
    refine call h32 ⟨o, a, c, x, y, p, q, u, rfl, ⟨C, eC, hS⟩, hs, vu, fun d S' k he => ?_, fun k S' ke he => hxe k S' ke he⟩
    have := hq S' k
    rw [he] at this
    exact this
  · simp only [wpSs, wpS, wpE, wpEs, wpC, wpAnd, wpOr, wpO, wpIt, opt_some, onI_int, onB_bl, onR_ref, arg1_one, look, joinO, start, List.map_cons, List.map_nil, List.length_cons, List.length_nil, List.replicate, List.cons_append, List.nil_append, List.append_nil, List.getElem?_cons_succ, List.getElem?_cons_zero, kcD, Nat.reduceAdd, Nat.reduceSub, br_t, br_f, br_n, asg, setAll, List.set_cons_succ, List.set_cons_zero, tgs, wipe, eq_ii, ne_ii, lt_ii, le_ii, gt_ii, ge_ii, is_n, isn_n, is_b, isn_b, add_ii, sub_ii, mul_ii, mod_ii, fdiv_ii, pow_ii, isNon, biD, intD_i, intD_b, esLen, beq_self_eq_true, ixD_tup, lsOf_new, seqD_tup, seqD_fl, slD_tup, bools, Option.map_some, true_and, ixD_fl, lenD_tup, lenD_fl, ix30, ix31, ix32, at20, at21, at30, at31, at32, List.filterMap_cons, List.filterMap_nil, Int.reduceBEq, br_t, br_f]
    obtain ⟨C, eC, hS⟩ := hB
    rcases k3 rfl with ⟨hn, rfl⟩ | ⟨o2, a2, c2, x2, y2, p2, q2, rfl, hB2, g1, g2⟩
    · refine onO_ref hS ⟨.inl hn, mcall_ref hS rfl eC emA h34 ⟨o, a, c, x, y, p, q, u, rfl, ⟨C, eC, hS⟩, .inl ⟨hn, fun S' k => hxe _ S' k rfl⟩⟩⟩
    · obtain ⟨C2, eC2, hS2⟩ := hB2
      have eCC : C2 = C := by rw [eC] at eC2; cases eC2; rfl
      subst eCC
      refine onO_ref hS ⟨.inr (onO_ref hS2 rfl), mcall_ref hS rfl eC emA h34 ⟨o, a, c, x, y, p, q, _, rfl, ⟨C2, eC, hS⟩, .inr ⟨o2, a2, c2, x2, y2, p2, q2, rfl, ⟨C2, eC, hS2⟩, fun he => ?_, fun he S' k => hxe _ S' k (g2 he)⟩⟩⟩
      obtain ⟨D, rfl⟩ := g1 he
      refine ⟨D, fun d S' k ht => eq_tim ht (br_ff ?_)⟩
      exact hq S' k
end M
namespace M
def spTold (ob : Nat → Option Nat) : Sp := fun ds S Q _ => ∃ way o a c x y p q u v e, ds = [.int way, .ref o, u, v] ∧ 0 ≤ way ∧ way < 5 ∧ Bal ob S o (prD a c) (shD x y p q) ∧ ToldK ob S way a c x y p q u v e ∧ ∀ S', Ext S S' → Q (wordB e) S'
theorem told_lt {ob : Nat → Option Nat} {S : Sto} {way a c x y p q : Int} {u v : D} {e : Option Nat} (w0 : 0 ≤ way) (w5 : way < 5) (h : ToldK ob S way a c x y p q u v e) {k : Nat} (he : e = some k) : k < 5 := by
  obtain ⟨k1, k2, k3⟩ := h
  have hw : way = 0 ∨ way = 1 ∨ way = 2 ∨ way = 3 ∨ way = 4 := by omega
  rcases hw with rfl | rfl | rfl | rfl | rfl
  · obtain ⟨_, _, rfl⟩ := k1 (.inl rfl); exact eS_lt he
  · obtain ⟨_, _, rfl⟩ := k1 (.inr rfl); exact eS_lt he
  · obtain ⟨_, _, rfl⟩ := k2 (.inl rfl)
    unfold eP at he
    split at he
    · cases he
    · cases he; decide
  · obtain ⟨_, _, rfl⟩ := k2 (.inr rfl)
    unfold eP at he
    split at he
    · cases he
    · cases he; decide
  · rcases k3 rfl with ⟨_, rfl⟩ | ⟨o2, a2, c2, x2, y2, p2, q2, _, _, g1, g2⟩
    · cases he; decide
    · by_cases z : a = a2 ∧ c = c2
      · obtain ⟨_, rfl⟩ := g1 z; cases he
      · rw [g2 z] at he; cases he; decide
theorem txt_told {G : Gm} {ds : List D} {S0 : Sto} {Q : VK} {X : XK} {b : Ss} (hb : b = (.cons (.try_ (.cons (.if_ (.cmp .eq (.v 0) (.k (.int 0))) (.cons (.ex (.new 0 (.cons (.v 2) (.cons (.v 3) .nil)))) .nil) .nil) (.cons (.if_ (.cmp .eq (.v 0) (.k (.int 1))) (.cons (.ex (.newk 0 .nil (.cons (.v 3) (.cons (.v 2) .nil)) [0, 2, 1])) .nil) .nil) (.cons (.if_ (.cmp .eq (.v 0) (.k (.int 2))) (.cons (.ex (.ocl (.v 1) (.cons (.v 2) .nil))) .nil) .nil) (.cons (.if_ (.cmp .eq (.v 0) (.k (.int 3))) (.cons (.ex (.oclk (.v 1) (.cons (.v 2) .nil) [0, 1])) .nil) .nil) (.cons (.if_ (.cmp .eq (.v 0) (.k (.int 4))) (.cons (.ret (.ite (.cmp .eq (.oand (.v 1) (.v 2)) (.k (.int 0))) (.lst (.cons (.k (.str [110, 111, 110, 101])) .nil)) (.k (.str [110, 111, 110, 101])))) .nil) .nil) (.cons (.ret (.k (.str [110, 111, 110, 101]))) .nil)))))) 5 4 (.cons (.set (.v 5) (.lst (.cons (.isx (.v 4) [0]) (.cons (.isx (.v 4) [1]) .nil)))) (.cons (.set (.v 5) (.bin .add (.v 5) (.lst (.cons (.isx (.v 4) [2]) (.cons (.isx (.v 4) [3]) .nil))))) (.cons (.ex (.mt .append (.v 5) (.cons (.isx (.v 4) [4]) .nil))) (.cons (.if_ (.or (.not (.isx (.v 4) [6])) (.cons (.cmp .ne (.mt .count (.v 5) (.cons (.k (.bl true)) .nil)) (.k (.int 1))) .nil)) (.cons (.ret (.k (.str [111, 116, 104, 101, 114]))) .nil) .nil) (.cons (.ret (.ix (.lst (.cons (.k (.str [116, 97, 98, 108, 101])) (.cons (.k (.str [115, 104, 111, 116])) (.cons (.k (.str [116, 105, 109, 101])) (.cons (.k (.str [98, 97, 108, 108])) (.cons (.k (.str [117, 110, 108, 105, 107, 101])) .nil)))))) (.mt .index (.v 5) (.cons (.k (.bl true)) .nil)))) .nil)))))) .nil)) (hx : GX 5 subK G) (ho : GO 1 mtK osK G) (h31 : G.fn 31 = spInit G.ob) (h32 : G.fn 32 = spOC G.ob) (h34 : G.fn 34 = spAnd G.ob) (h : spTold G.ob ds S0 Q X) : ds.length = 4 ∧ wpSs G b (start 6 ds) S0 (kR Q X) := by
  obtain ⟨way, o, a, c, x, y, p, q, u, v, e, rfl, w0, w5, hB, hK, hq⟩ := h
  subst hb
  refine ⟨rfl, ?_⟩
  show wpSs G ((.cons (.if_ (.cmp .eq (.v 0) (.k (.int 0))) (.cons (.ex (.new 0 (.cons (.v 2) (.cons (.v 3) .nil)))) .nil) .nil) (.cons (.if_ (.cmp .eq (.v 0) (.k (.int 1))) (.cons (.ex (.newk 0 .nil (.cons (.v 3) (.cons (.v 2) .nil)) [0, 2, 1])) .nil) .nil) (.cons (.if_ (.cmp .eq (.v 0) (.k (.int 2))) (.cons (.ex (.ocl (.v 1) (.cons (.v 2) .nil))) .nil) .nil) (.cons (.if_ (.cmp .eq (.v 0) (.k (.int 3))) (.cons (.ex (.oclk (.v 1) (.cons (.v 2) .nil) [0, 1])) .nil) .nil) (.cons (.if_ (.cmp .eq (.v 0) (.k (.int 4))) (.cons (.ret (.ite (.cmp .eq (.oand (.v 1) (.v 2)) (.k (.int 0))) (.lst (.cons (.k (.str [110, 111, 110, 101])) .nil)) (.k (.str [110, 111, 110, 101])))) .nil) .nil) (.cons (.ret (.k (.str [110, 111, 110, 101]))) .nil))))))) [some (.int way), some (.ref o), some u, some v, none, none] S0 _
  refine told_body ho h31 h32 h34 hB w0 w5 hK hq rfl fun k S1 k1 he => ?_
  have hk := told_lt w0 w5 hK he
  show br (G.sub k 5) _ _
  have hs : G.sub k 5 = true := by
    rw [hx.hs]
    have hk : k = 0 ∨ k = 1 ∨ k = 2 ∨ k = 3 ∨ k = 4 := by omega
    rcases hk with rfl | rfl | rfl | rfl | rfl <;> rfl
  rw [hs]
  refine br_tt fun C hC => ?_
  subst he
  refine hand_ok hx (K := _) rfl hk hC fun S' k2 => hq S' (k1.trans k2)
end M
namespace M
def _law_case_I0 : St := (.if_ (.cmp .eq (.call 40 (.cons (.v 0) (.cons (.k (.int 2)) .nil))) (.k (.int 0))) (.cons (.set (.v 6) (.lst (.cons (.k .non) (.cons (.tup .nil) (.cons (.bi .list (.cons (.v 4) .nil)) (.cons (.sl (.v 4) .none (.some (.k (.int 3)))) (.cons (.tup (.cons (.bin .add (.ix (.v 3) (.k (.int 0))) (.k (.int 1))) (.cons (.k (.int 0)) (.cons (.k (.int 1)) (.cons (.k (.int 1)) .nil))))) .nil))))))) (.cons (.set (.v 6) (.bin .add (.v 6) (.lst (.cons (.tup (.cons (.k (.int 0)) (.cons (.bin .add (.ix (.v 3) (.k (.int 1))) (.k (.int 1))) (.cons (.k (.int 1)) (.cons (.k (.int 1)) .nil))))) (.cons (.tup (.cons (.k (.int 0)) (.cons (.k (.int 0)) (.cons (.k (.int 0)) (.cons (.k (.int 0)) .nil))))) (.cons (.tup (.cons (.neg (.k (.int 1))) (.cons (.k (.int 0)) (.cons (.k (.int 1)) (.cons (.k (.int 1)) .nil))))) (.cons (.k (.str [48, 32, 48, 32, 49, 32, 49])) (.cons (.k (.int 5)) (.cons .dic (.cons (.tup (.cons (.k (.int 0)) (.cons (.k (.bl true)) (.cons (.k (.int 1)) (.cons (.k (.int 1)) .nil))))) .nil)))))))))) (.cons (.par 9 8 (.ix (.v 6) (.call 40 (.cons (.v 0) (.cons (.k (.int 12)) .nil)))) (.k (.str [115, 104, 111, 116]))) .nil))) .nil)
def _law_case_I1 : St := (.if_ (.cmp .eq (.call 40 (.cons (.v 0) (.cons (.k (.int 3)) .nil))) (.k (.int 0))) (.cons (.set (.v 6) (.lst (.cons (.k .non) (.cons (.tup .nil) (.cons (.bi .list (.cons (.v 3) .nil)) (.cons (.tup (.cons (.k (.int 0)) (.cons (.k (.int 1)) .nil))) (.cons (.tup (.cons (.k (.int 1)) (.cons (.neg (.k (.int 1))) .nil))) (.cons (.tup (.cons (.k (.int 1)) .nil)) (.cons (.tup (.cons (.k (.int 1)) (.cons (.k (.int 1)) (.cons (.k (.int 1)) .nil)))) (.cons (.k (.str [52, 120, 50])) (.cons (.k (.int 5)) (.cons .dic (.cons (.tup (.cons (.k (.bl true)) (.cons (.k (.int 1)) .nil))) .nil))))))))))))) (.cons (.par 7 8 (.ix (.v 6) (.call 40 (.cons (.v 0) (.cons (.k (.int 11)) .nil)))) (.k (.str [116, 97, 98, 108, 101]))) .nil)) .nil)
def _law_case_I2 : St := (.if_ (.cmp .lt (.v 1) (.k (.int 2))) (.cons (.par3 7 9 8 (.v 3) (.v 4) (.k (.str [110, 111, 110, 101]))) (.cons _law_case_I0 (.cons _law_case_I1 (.cons (.ret (.tup (.cons (.v 7) (.cons (.v 9) (.cons (.v 8) .nil))))) .nil)))) .nil)
def _law_case_I3 : St := (.if_ (.cmp .eq (.call 40 (.cons (.v 0) (.cons (.k (.int 2)) .nil))) (.k (.int 0))) (.cons (.ret (.tup (.cons (.ix (.v 6) (.call 40 (.cons (.v 0) (.cons (.k (.int 10)) .nil)))) (.cons (.k .non) (.cons (.k (.str [116, 105, 109, 101])) .nil))))) .nil) .nil)
def _law_case_I4 : St := (.if_ (.cmp .lt (.v 1) (.k (.int 4))) (.cons (.set (.v 6) (.lst (.cons (.k .non) (.cons (.k (.int 1)) (.cons (.tup (.cons (.k (.int 1)) (.cons (.k (.int 0)) .nil))) (.cons (.tup (.cons (.k (.int 2)) (.cons (.k (.int 4)) .nil))) (.cons (.tup (.cons (.k (.int 1)) (.cons (.neg (.k (.int 1))) .nil))) (.cons (.lst (.cons (.k (.int 1)) (.cons (.k (.int 1)) .nil))) (.cons (.tup (.cons (.k (.int 1)) .nil)) (.cons (.tup (.cons (.k (.int 1)) (.cons (.k (.bl true)) .nil))) (.cons (.k (.str [49])) (.cons .dic .nil)))))))))))) (.cons _law_case_I3 (.cons (.ret (.tup (.cons (.tup (.cons (.bin .sub (.bin .mul (.k (.int 2)) (.call 40 (.cons (.v 0) (.cons (.k (.int 9)) .nil)))) (.k (.int 9))) (.cons (.k (.int 2)) .nil))) (.cons (.k .non) (.cons (.k (.str [110, 111, 110, 101])) .nil))))) .nil))) .nil)
def _law_case_I5 : St := (.if_ (.cmp .eq (.v 8) (.k (.str [116, 117, 114, 110, 101, 100]))) (.cons (.set (.v 8) (.ite (.cmp .eq (.ix (.v 3) (.k (.int 0))) (.ix (.v 3) (.k (.int 1)))) (.k (.str [110, 111, 110, 101])) (.k (.str [117, 110, 108, 105, 107, 101])))) .nil) .nil)
def _law_case_T : Ss := (.cons _law_case_I2 (.cons _law_case_I4 (.cons (.set (.v 5) (.new 0 (.cons (.tup (.cons (.bin .add (.ix (.v 3) (.k (.int 0))) (.k (.int 1))) (.cons (.ix (.v 3) (.k (.int 1))) .nil))) (.cons (.v 4) .nil)))) (.cons (.set (.v 6) (.lst (.cons (.tup (.cons (.k .non) (.cons (.k (.str [98, 97, 108, 108])) .nil))) (.cons (.tup (.cons (.v 4) (.cons (.k (.str [98, 97, 108, 108])) .nil))) (.cons (.tup (.cons (.k (.int 5)) (.cons (.k (.str [98, 97, 108, 108])) .nil))) (.cons (.tup (.cons (.tup (.cons (.k (.int 0)) (.cons (.k (.int 1)) .nil))) (.cons (.k (.str [98, 97, 108, 108])) .nil))) (.cons (.tup (.cons (.k (.str [97])) (.cons (.k (.str [98, 97, 108, 108])) .nil))) .nil))))))) (.cons (.set (.v 6) (.bin .add (.v 6) (.lst (.cons (.tup (.cons (.new 0 (.cons (.tup (.cons (.ix (.v 3) (.k (.int 0))) (.cons (.bin .add (.ix (.v 3) (.k (.int 1))) (.k (.int 1))) .nil))) (.cons (.v 4) .nil))) (.cons (.k (.str [117, 110, 108, 105, 107, 101])) .nil))) (.cons (.tup (.cons (.v 5) (.cons (.k (.str [117, 110, 108, 105, 107, 101])) .nil))) .nil))))) (.cons (.set (.v 6) (.bin .add (.v 6) (.lst (.cons (.tup (.cons (.new 0 (.cons (.bin .add (.rev (.v 3)) (.tup .nil)) (.cons (.tup (.cons (.k (.int 0)) (.cons (.k (.int 0)) (.cons (.k (.int 1)) (.cons (.k (.int 1)) .nil))))) .nil))) (.cons (.k (.str [116, 117, 114, 110, 101, 100])) .nil))) (.cons (.tup (.cons (.v 2) (.cons (.k (.str [110, 111, 110, 101])) .nil))) .nil))))) (.cons (.set (.tup [7, 8]) (.ix (.v 6) (.call 40 (.cons (.v 0) (.cons (.k (.int 9)) .nil))))) (.cons _law_case_I5 (.cons (.ret (.tup (.cons (.v 7) (.cons (.k .non) (.cons (.v 8) .nil))))) .nil)))))))))
def CaseK (ob : Nat → Option Nat) (w : Nat) (way : Int) (a c x y p q : Int) (n : Nat) (S : Sto) (Q : VK) : Prop := ∀ u v e S', ToldK ob S' way a c x y p q u v e → Well (n + 6) S' w → Kp w S S' → Q (.tup [u, v, wordB e]) S'
theorem told_lo {ob : Nat → Option Nat} {S : Sto} {way a c x y p q : Int} {u v : D} {e : Option Nat} (h : way < 2) (vu : Vl S u) (vv : Vl S v) (he : e = eS u v) : ToldK ob S way a c x y p q u v e := ⟨fun _ => ⟨vu, vv, he⟩, fun z => by omega, fun z => by omega⟩
theorem case_1 {G : Gm} {S0 S : Sto} {KK : Kt} (hd : G.fn 40 = spDraw) {w n m o : Nat} {way a c x y p q : Int} {v due : D} {o5 o6 : Option D}
    (hq : CaseK G.ob w way a c x y p q n S0 KK.rt) (hn : n + 20 < 2 ^ 59) (hm : m ≤ 3) (w0 : 0 ≤ way) (w2 : way < 2) (k : Kp w S0 S) (hw : Well (n + m) S w) (ha : 1 ≤ a) (hc : 1 ≤ c) (hv : Vl S v) (he : due = wordB (eS (prD a c) v)) :
    wpSs G (.cons _law_case_I1 (.cons (.ret (.tup (.cons (.v 7) (.cons (.v 9) (.cons (.v 8) .nil))))) .nil)) [some (.ref w), some (.int way), some (.ref o), some (prD a c), some (shD x y p q), o5, o6, some (prD a c), some due, some v] S KK := by
  have l3 : 3 ≤ lim := len_lim (by decide)
  simp only [_law_case_I1, wpSs, wpS, wpE, wpEs, wpC, wpAnd, wpOr, wpO, wpIt, opt_some, onI_int, onB_bl, onR_ref, arg1_one, look, joinO, start, List.map_cons, List.map_nil, List.length_cons, List.length_nil, List.replicate, List.cons_append, List.nil_append, List.append_nil, List.getElem?_cons_succ, List.getElem?_cons_zero, kcD, Nat.reduceAdd, Nat.reduceSub, br_t, br_f, br_n, asg, setAll, List.set_cons_succ, List.set_cons_zero, tgs, wipe, eq_ii, ne_ii, lt_ii, le_ii, gt_ii, ge_ii, is_n, isn_n, is_b, isn_b, add_ii, sub_ii, mul_ii, mod_ii, fdiv_ii, pow_ii, isNon, biD, intD_i, intD_b, esLen, beq_self_eq_true, ixD_tup, lsOf_new, seqD_tup, seqD_fl, slD_tup, bools, Option.map_some, true_and, ixD_fl, lenD_tup, lenD_fl, ix30, ix31, ix32, at20, at21, at30, at31, at32, List.filterMap_cons, List.filterMap_nil]
  refine call hd ⟨w, 3, n + m, rfl, by decide, by decide, hw, by omega, fun d S1 d0 d1 w1 k1 => eq_ii.mpr (br_if (fun h => ?_) fun h => ?_)⟩
  · refine ⟨len_lim (by decide), fun p1 hp => ⟨len_lim (by decide), len_lim (by decide), len_lim (by decide), len_lim (by decide), fun p2 hp2 => ⟨len_lim (by decide), mkL_ok (by simp) fun px hpx => ?_⟩⟩⟩
    have K1 := Ext.new (o := .lst [.int a, .int c]) hp
    have K2 := Ext.new (o := .dic) hp2
    have K3 := Ext.new (o := .lst [.non, .tup [], .ref p1, .tup [.int 0, .int 1], .tup [.int 1, .int (-1)], .tup [.int 1], .tup [.int 1, .int 1, .int 1], .str [52, 120, 50], .int 5, .ref p2, .tup [.bl true, .int 1]]) hpx
    have ex := upd_at (S := upd (upd S1 p1 (.lst [.int a, .int c])) p2 .dic) (a := px) (o := .lst [.non, .tup [], .ref p1, .tup [.int 0, .int 1], .tup [.int 1, .int (-1)], .tup [.int 1], .tup [.int 1, .int 1, .int 1], .str [52, 120, 50], .int 5, .ref p2, .tup [.bl true, .int 1]])
    have e1 := K3 _ _ (K2 _ _ (upd_at (S := S1) (a := p1) (o := .lst [.int a, .int c])))
    have e2 := K3 _ _ (upd_at (S := upd S1 p1 (.lst [.int a, .int c])) (a := p2) (o := .dic))
    have K' := K1.trans K2
    have K := K'.trans K3
    have nx : w ≠ px := ne_new ((w1.ext K').some.choose_spec) hpx
    generalize upd (upd (upd S1 p1 (.lst [.int a, .int c])) p2 .dic) px (.lst [.non, .tup [], .ref p1, .tup [.int 0, .int 1], .tup [.int 1, .int (-1)], .tup [.int 1], .tup [.int 1, .int 1, .int 1], .str [52, 120, 50], .int 5, .ref p2, .tup [.bl true, .int 1]]) = S3 at *
    clear K1 K2 K3 K'
    refine call hd ⟨w, 11, n + m + 1, rfl, by decide, by decide, w1.ext K, by omega, fun d2 S4 d3 d4 w4 k4 => ?_⟩
    refine ix_ref (k4 _ _ (Ne.symm nx) ex) (atI_all d3 d4 ?_)
    have kk : Kp w S S4 := (k1.trans (K.kp w)).trans k4
    have fin : ∀ y, Zo S3 y → tabB y = false → 3 ≤ lim ∧ KK.rt (.tup [y, v, .str [116, 97, 98, 108, 101]]) S4 := fun y z e => by
      refine ⟨l3, ?_⟩
      have := hq y v (some 0) S4 (told_lo w2 (z.vl.kp k4 w4) (hv.kp kk w4) (eS_tab e).symm) (w4.le (by omega)) (k.trans kk)
      exact this
    simp only [List.forall_mem_cons]
    refine ⟨?_, ?_, ?_, ?_, ?_, ?_, ?_, ?_, ?_, ?_, ?_, fun _ h => nomatch h⟩
    all_goals first | exact fin _ (.inl rfl) rfl | exact fin _ (.inr ⟨_, _, rfl, e1⟩) rfl | exact fin _ (.inr ⟨_, _, rfl, e2⟩) rfl
  · refine ⟨l3, ?_⟩
    rw [he]
    exact hq _ _ _ S1 (told_lo w2 (vl_pl rfl) (hv.kp k1 w1) rfl) (w1.le (by omega)) (k.trans k1)
end M
namespace M
theorem roll_no {a c : Int} {v : D} (h : rollB a c v = false) (ha : 1 ≤ a) (hc : 1 ≤ c) : eS (prD a c) v = some 1 := eS_no ha hc h
theorem case_0 {G : Gm} {S0 S : Sto} {KK : Kt} (hd : G.fn 40 = spDraw) {w n o : Nat} {way a c x y p q : Int} {o5 o6 : Option D}
    (hq : CaseK G.ob w way a c x y p q n S0 KK.rt) (hn : n + 20 < 2 ^ 59) (w0 : 0 ≤ way) (w2 : way < 2) (k : Kp w S0 S) (hw : Well n S w) (ha : 1 ≤ a) (hc : 1 ≤ c) (hr : rollB a c (shD x y p q) = true) :
    wpSs G (.cons _law_case_I0 (.cons _law_case_I1 (.cons (.ret (.tup (.cons (.v 7) (.cons (.v 9) (.cons (.v 8) .nil))))) .nil))) [some (.ref w), some (.int way), some (.ref o), some (prD a c), some (shD x y p q), o5, o6, some (prD a c), some (wordB none), some (shD x y p q)] S KK := by
  have c1 := fun {m : Nat} {S : Sto} {v due : D} {o6 : Option D} (hm : m ≤ 3) (k : Kp w S0 S) hw hv he => @case_1 G S0 S KK hd w n m o way a c x y p q v due o5 o6 hq hn hm w0 w2 k hw ha hc hv he
  generalize hT : (Ss.cons _law_case_I1 (.cons (.ret (.tup (.cons (.v 7) (.cons (.v 9) (.cons (.v 8) .nil))))) .nil)) = T at c1 ⊢
  simp only [_law_case_I0, wordB, wpSs, wpS, wpE, wpEs, wpC, wpAnd, wpOr, wpO, wpIt, opt_some, onI_int, onB_bl, onR_ref, arg1_one, look, joinO, start, List.map_cons, List.map_nil, List.length_cons, List.length_nil, List.replicate, List.cons_append, List.nil_append, List.append_nil, List.getElem?_cons_succ, List.getElem?_cons_zero, kcD, Nat.reduceAdd, Nat.reduceSub, br_t, br_f, br_n, asg, setAll, List.set_cons_succ, List.set_cons_zero, tgs, wipe, eq_ii, ne_ii, lt_ii, le_ii, gt_ii, ge_ii, is_n, isn_n, is_b, isn_b, add_ii, sub_ii, mul_ii, mod_ii, fdiv_ii, pow_ii, isNon, biD, intD_i, intD_b, esLen, beq_self_eq_true, ixD_tup, lsOf_new, seqD_tup, seqD_fl, slD_tup, bools, Option.map_some, true_and, ixD_fl, lenD_tup, lenD_fl, ix30, ix31, ix32, at20, at21, at30, at31, at32, List.filterMap_cons, List.filterMap_nil]
  refine call hd ⟨w, 2, n, rfl, by decide, by decide, hw, by omega, fun d S1 d0 d1 w1 k1 => eq_ii.mpr (br_if (fun h => ?_) fun h => ?_)⟩
  · have l4 : 4 ≤ lim := len_lim (by decide)
    refine ⟨len_lim (by decide), fun p1 hp1 => ⟨len_lim (by decide), mkL_abs (by simp) fun p3 S3 k3 e3 => ⟨l4, l4, l4, fun p2 hp2 => ⟨l4, mkL_abs (by simp) fun p4 S4 k4 e4 => ?_⟩⟩⟩⟩
    have K1 := Ext.new (o := .lst [.int x, .int y, .int p, .int q]) hp1
    have K2 := Ext.new (o := .dic) hp2
    have e1 := k4 _ _ (K2 _ _ (k3 _ _ (upd_at (S := S1) (a := p1) (o := .lst [.int x, .int y, .int p, .int q]))))
    have e2 := k4 _ _ (upd_at (S := S3) (a := p2) (o := .dic))
    have kA : Ext S1 S4 := ((K1.trans k3).trans K2).trans k4
    refine add_abs (k4 _ _ (K2 _ _ e3)) e4 (show (12 : Nat) ≤ 1000 by decide) fun p5 S5 k5 e5 => ?_
    have w5 := w1.ext (kA.trans k5)
    have n5 : S4 p5 = none ∨ True := .inr trivial
    refine call hd ⟨w, 12, n + 1, rfl, by decide, by decide, w5, by omega, fun d2 S6 d3 d4 w6 k6 => ?_⟩
    have nx : p5 ≠ w := fun z => by
      obtain ⟨a', b', c', ew, _⟩ := w5
      rw [z, ew] at e5
      cases e5
    refine ix_ref (k6 _ _ nx e5) (atI_all d3 d4 ?_)
    have kk : Kp w S S6 := (k1.trans ((kA.trans k5).kp w)).trans k6
    have fin : ∀ y', Zo S5 y' → rollB a c y' = false → wpSs G T [some (.ref w), some (.int way), some (.ref o), some (prD a c), some (shD x y p q), o5, some (.ref p5), some (prD a c), some (.str [115, 104, 111, 116]), some y'] S6 KK := fun y' z e =>
      c1 (m := 2) (by omega) (k.trans kk) w6 (z.vl.kp k6 w6) (by rw [roll_no e ha hc]; rfl)
    have z1 : S5 p1 = some (.lst [.int x, .int y, .int p, .int q]) := k5 _ _ e1
    have z2 : S5 p2 = some .dic := k5 _ _ e2
    have f1 : rollB a c (.tup [.int (a + 1), .int 0, .int 1, .int 1]) = false := by
      rw [Bool.eq_false_iff]
      intro h
      obtain ⟨_, h1, _⟩ := roll_in h
      omega
    have f2 : rollB a c (.tup [.int 0, .int (c + 1), .int 1, .int 1]) = false := by
      rw [Bool.eq_false_iff]
      intro h
      obtain ⟨_, _, _, h1⟩ := roll_in h
      omega
    have f3 : rollB a c (.tup [.int (-1), .int 0, .int 1, .int 1]) = false := by
      rw [Bool.eq_false_iff]
      intro h
      obtain ⟨h1, _⟩ := roll_in h
      omega
    simp only [List.cons_append, List.nil_append, List.forall_mem_cons]
    refine ⟨?_, ?_, ?_, ?_, ?_, ?_, ?_, ?_, ?_, ?_, ?_, ?_, fun _ h => nomatch h⟩
    all_goals first | exact fin _ (.inl rfl) rfl | exact fin _ (.inl rfl) f1 | exact fin _ (.inl rfl) f2 | exact fin _ (.inl rfl) f3 | exact fin _ (.inr ⟨_, _, rfl, z1⟩) rfl | exact fin _ (.inr ⟨_, _, rfl, z2⟩) rfl
  · exact c1 (m := 1) (due := .str [110, 111, 110, 101]) (by omega) (k.trans k1) w1 (vl_pl rfl) (by rw [eS_ok ha hc hr]; rfl)
end M
namespace M
structure BC (a c x y p q : Int) : Prop where
  a1 : 1 ≤ a
  a9 : a ≤ 22
  c1 : 1 ≤ c
  c9 : c ≤ 22
  hr : rollB a c (shD x y p q) = true
  p0 : -4 ≤ p ∧ p ≤ 4
  q0 : -4 ≤ q ∧ q ≤ 4
theorem bd15 {i : Int} (h : i.natAbs < 2 ^ 100) : Bd 1500 i := lt_two 100 h (by decide)
theorem BC.sh {a c x y p q t : Int} (h : BC a c x y p q) (ht : t.natAbs < 2 ^ 100) : Sh a c x y p q t 2 := by
  obtain ⟨x0, x1, y0, y1⟩ := roll_in h.hr
  have := h.a1; have := h.a9; have := h.c1; have := h.c9; have := h.p0; have := h.q0
  exact ⟨h.a1, h.c1, by decide, bd15 (by omega), bd15 (by omega), bd15 (by omega), bd15 (by omega), bd15 (by omega), bd15 (by omega), bd15 ht, bd15 (by decide)⟩
theorem told_t {ob : Nat → Option Nat} {S : Sto} {way a c x y p q : Int} {u v : D} {e : Option Nat} (h0 : ¬ way < 2) (h : way < 4) (vu : Vl S u) (hs : ∀ t b, u = prD t b → eP u = none → Sh a c x y p q t b) (he : e = eP u) : ToldK ob S way a c x y p q u v e := ⟨fun z => by omega, fun _ => ⟨vu, hs, he⟩, fun z => by omega⟩
theorem case_t {G : Gm} {S0 S : Sto} {KK : Kt} (hd : G.fn 40 = spDraw) {w n o : Nat} {way a c x y p q : Int} {T : Ss} {o5 o6 o7 o8 o9 : Option D}
    (hq : CaseK G.ob w way a c x y p q n S0 KK.rt) (hn : n + 20 < 2 ^ 59) (w2 : ¬ way < 2) (w4 : way < 4) (k : Kp w S0 S) (hw : Well n S w) (hb : BC a c x y p q) :
    wpSs G (.cons _law_case_I4 T) [some (.ref w), some (.int way), some (.ref o), some (prD a c), some (shD x y p q), o5, o6, o7, o8, o9] S KK := by
  have l3 : 3 ≤ lim := len_lim (by decide)
  have l2 : 2 ≤ lim := len_lim (by decide)
  have hlt : decide (way < 4) = true := decide_eq_true w4
  simp only [_law_case_I4, _law_case_I3, hlt, wpSs, wpS, wpE, wpEs, wpC, wpAnd, wpOr, wpO, wpIt, opt_some, onI_int, onB_bl, onR_ref, arg1_one, look, joinO, start, List.map_cons, List.map_nil, List.length_cons, List.length_nil, List.replicate, List.cons_append, List.nil_append, List.append_nil, List.getElem?_cons_succ, List.getElem?_cons_zero, kcD, Nat.reduceAdd, Nat.reduceSub, br_t, br_f, br_n, asg, setAll, List.set_cons_succ, List.set_cons_zero, tgs, wipe, eq_ii, ne_ii, lt_ii, le_ii, gt_ii, ge_ii, is_n, isn_n, is_b, isn_b, add_ii, sub_ii, mul_ii, mod_ii, fdiv_ii, pow_ii, isNon, biD, intD_i, intD_b, esLen, beq_self_eq_true, ixD_tup, lsOf_new, seqD_tup, seqD_fl, slD_tup, bools, Option.map_some, true_and, ixD_fl, lenD_tup, lenD_fl, ix30, ix31, ix32, at20, at21, at30, at31, at32, List.filterMap_cons, List.filterMap_nil]
  refine ⟨l2, l2, l2, mkL_abs (by simp) fun p1 S1 k1 e1 => ⟨len_lim (by decide), l2, fun p2 hp2 => mkL_abs (by simp) fun p3 S3 k3 e3 => ?_⟩⟩
  have K2 := Ext.new (o := .dic) hp2
  have z1 := k3 _ _ (K2 _ _ e1)
  have z2 := k3 _ _ (upd_at (S := S1) (a := p2) (o := .dic))
  have kA : Ext S S3 := (k1.trans K2).trans k3
  have w3 := hw.ext kA
  refine call hd ⟨w, 2, n, rfl, by decide, by decide, w3, by omega, fun d S4 d0 d1 w4' k4 => eq_ii.mpr (br_if (fun h => ?_) fun h => ?_)⟩
  · refine call hd ⟨w, 10, n + 1, rfl, by decide, by decide, w4', by omega, fun d2 S5 d3 d4 w5 k5 => ?_⟩
    have nx : p3 ≠ w := fun z => by
      obtain ⟨a', b', c', ew, _⟩ := w3
      rw [z, ew] at e3
      cases e3
    have k45 := k4.trans k5
    refine ix_ref (k45 _ _ nx e3) (atI_all d3 d4 ?_)
    have fin : ∀ y', Zo S3 y' → partB y' = false → 3 ≤ lim ∧ KK.rt (.tup [y', .non, .str [116, 105, 109, 101]]) S5 := fun y' z e => by
      have he : eP y' = some 2 := if_neg (nt e)
      exact ⟨l3, hq y' .non (some 2) S5 (told_t w2 w4 (z.vl.kp k45 w5) (fun t b _ h => by rw [he] at h; cases h) he.symm) (w5.le (by omega)) (k.trans ((kA.kp w).trans k45))⟩
    simp only [List.forall_mem_cons]
    refine ⟨?_, ?_, ?_, ?_, ?_, ?_, ?_, ?_, ?_, ?_, fun _ h => nomatch h⟩
    all_goals first | exact fin _ (.inl rfl) rfl | exact fin _ (.inr ⟨_, _, rfl, z1⟩) rfl | exact fin _ (.inr ⟨_, _, rfl, z2⟩) rfl
  · refine call hd ⟨w, 9, n + 1, rfl, by decide, by decide, w4', by omega, fun d2 S5 d3 d4 w5 k5 => ?_⟩
    have hp : partB (.tup [.int (2 * d2 - 9), .int 2]) = true := by
      have : d2 = 0 ∨ d2 = 1 ∨ d2 = 2 ∨ d2 = 3 ∨ d2 = 4 ∨ d2 = 5 ∨ d2 = 6 ∨ d2 = 7 ∨ d2 = 8 := by omega
      rcases this with rfl | rfl | rfl | rfl | rfl | rfl | rfl | rfl | rfl <;> rfl
    have he : eP (.tup [.int (2 * d2 - 9), .int 2]) = none := if_pos hp
    refine ⟨sm_of 100 (by decide) (by decide), sm_of 100 (by decide) (by omega), ?_⟩
    exact ⟨l2, l3, hq (.tup [.int (2 * d2 - 9), .int 2]) .non none S5 (told_t w2 w4 (vl_pl rfl) (fun t b e _ => by cases e; exact hb.sh (by omega)) he.symm) (w5.le (by omega)) (k.trans ((kA.kp w).trans (k4.trans k5)))⟩
theorem roll_up {a c x y p q a' c' : Int} (h : rollB a c (shD x y p q) = true) (ha : a ≤ a') (hc : c ≤ c') : rollB a' c' (shD x y p q) = true := by
  obtain ⟨x0, x1, y0, y1⟩ := roll_in h
  have h : (freeB (shD x y p q) && (decide (x ≤ a) && decide (y ≤ c))) = true := h
  obtain ⟨h1, h2⟩ := Bool.and_eq_true_iff.mp h
  show (freeB (shD x y p q) && (decide (x ≤ a') && decide (y ≤ c'))) = true
  rw [h1, decide_eq_true (by omega), decide_eq_true (by omega)]
  rfl
/-- a new ball -/
theorem new_ball {G : Gm} (ho : GO 1 mtK osK G) (h31 : G.fn 31 = spInit G.ob) {S : Sto} {Q : VK} {X : XK} {t s : D} (he : eS t s = none) (vt : Vl S t) (vs : Vl S s) (q : ∀ p S', Ext S S' → S p = none → Bal G.ob S' p t s → Q (.ref p) S') : newD G 0 (fun p => [p, t, s]) S Q X := by
  have emI : G.mt 0 nmInit = some 31 := by rw [ho.hm]; rfl
  refine new_ok emI h31 fun C p' hC hp => ?_
  have kN := Ext.new (o := .ins C []) hp
  exact ⟨p', C, t, s, rfl, hC, upd_at, vt.ext kN, vs.ext kN, fun S' kp hb _ => ⟨rfl, q p' S' (Kp.ext0 hp kN kp) hp hb⟩, fun k S' ke h => by rw [he] at h; cases h⟩
theorem BC.duo {a c x y p q x' y' p' q' : Int} (h : BC a c x y p q) (h' : BC a c x' y' p' q') : Duo a c x y p q x' y' p' q' := by
  obtain ⟨x0, x1, y0, y1⟩ := roll_in h.hr
  obtain ⟨x0', x1', y0', y1'⟩ := roll_in h'.hr
  have := h.a1; have := h.a9; have := h.c1; have := h.c9; have := h.p0; have := h.q0; have := h'.p0; have := h'.q0
  have big : ∀ u : Int, 0 ≤ u → u ≤ 30 → Bd 150 u := fun u h0 h1 => lt_two 100 (by omega) (by decide)
  exact ⟨by omega, by omega, by omega, by omega, big _ x0 (by omega), big _ y0 (by omega), big _ x0' (by omega), big _ y0' (by omega), by omega, by omega⟩
def caseTail : Ss := (.cons (.set (.v 5) (.new 0 (.cons (.tup (.cons (.bin .add (.ix (.v 3) (.k (.int 0))) (.k (.int 1))) (.cons (.ix (.v 3) (.k (.int 1))) .nil))) (.cons (.v 4) .nil)))) (.cons (.set (.v 6) (.lst (.cons (.tup (.cons (.k .non) (.cons (.k (.str [98, 97, 108, 108])) .nil))) (.cons (.tup (.cons (.v 4) (.cons (.k (.str [98, 97, 108, 108])) .nil))) (.cons (.tup (.cons (.k (.int 5)) (.cons (.k (.str [98, 97, 108, 108])) .nil))) (.cons (.tup (.cons (.tup (.cons (.k (.int 0)) (.cons (.k (.int 1)) .nil))) (.cons (.k (.str [98, 97, 108, 108])) .nil))) (.cons (.tup (.cons (.k (.str [97])) (.cons (.k (.str [98, 97, 108, 108])) .nil))) .nil))))))) (.cons (.set (.v 6) (.bin .add (.v 6) (.lst (.cons (.tup (.cons (.new 0 (.cons (.tup (.cons (.ix (.v 3) (.k (.int 0))) (.cons (.bin .add (.ix (.v 3) (.k (.int 1))) (.k (.int 1))) .nil))) (.cons (.v 4) .nil))) (.cons (.k (.str [117, 110, 108, 105, 107, 101])) .nil))) (.cons (.tup (.cons (.v 5) (.cons (.k (.str [117, 110, 108, 105, 107, 101])) .nil))) .nil))))) (.cons (.set (.v 6) (.bin .add (.v 6) (.lst (.cons (.tup (.cons (.new 0 (.cons (.bin .add (.rev (.v 3)) (.tup .nil)) (.cons (.tup (.cons (.k (.int 0)) (.cons (.k (.int 0)) (.cons (.k (.int 1)) (.cons (.k (.int 1)) .nil))))) .nil))) (.cons (.k (.str [116, 117, 114, 110, 101, 100])) .nil))) (.cons (.tup (.cons (.v 2) (.cons (.k (.str [110, 111, 110, 101])) .nil))) .nil))))) (.cons (.set (.tup [7, 8]) (.ix (.v 6) (.call 40 (.cons (.v 0) (.cons (.k (.int 9)) .nil))))) (.cons (.if_ (.cmp .eq (.v 8) (.k (.str [116, 117, 114, 110, 101, 100]))) (.cons (.set (.v 8) (.ite (.cmp .eq (.ix (.v 3) (.k (.int 0))) (.ix (.v 3) (.k (.int 1)))) (.k (.str [110, 111, 110, 101])) (.k (.str [117, 110, 108, 105, 107, 101])))) .nil) .nil) (.cons (.ret (.tup (.cons (.v 7) (.cons (.k .non) (.cons (.v 8) .nil))))) .nil)))))))
end M
namespace M
theorem eq_ss {x y : Tx} {S : Sto} {Q : Bool → Prop} {b : Bool} (h : (x == y) = b) (q : Q b) : cmpD .eq (.str x) (.str y) S Q := by
  show Q (x == y)
  rw [h]
  exact q
theorem case_b {G : Gm} (hd : G.fn 40 = spDraw) (ho : GO 1 mtK osK G) (h31 : G.fn 31 = spInit G.ob) {S0 S : Sto} {Q : VK} {X : XK} {w n o : Nat} {a c x y p q : Int} {o5 o6 o7 o8 o9 : Option D}
    (hq : CaseK G.ob w 4 a c x y p q n S0 Q) (hn : n + 20 < 2 ^ 59) (k : Kp w S0 S) (hw : Well n S w) (hb : BC a c x y p q) (hB : Bal G.ob S o (prD a c) (shD x y p q)) :
    wpSs G caseTail [some (.ref w), some (.int 4), some (.ref o), some (prD a c), some (shD x y p q), o5, o6, o7, o8, o9] S (kR Q X) := by
  have l3 : 3 ≤ lim := len_lim (by decide)
  have l2 : 2 ≤ lim := len_lim (by decide)
  have ha := hb.a1
  have hc := hb.c1
  simp only [caseTail, wpSs, wpS, wpE, wpEs, wpC, wpAnd, wpOr, wpO, wpIt, opt_some, onI_int, onB_bl, onR_ref, arg1_one, look, joinO, start, List.map_cons, List.map_nil, List.length_cons, List.length_nil, List.replicate, List.cons_append, List.nil_append, List.append_nil, List.getElem?_cons_succ, List.getElem?_cons_zero, kcD, Nat.reduceAdd, Nat.reduceSub, br_t, br_f, br_n, asg, setAll, List.set_cons_succ, List.set_cons_zero, tgs, wipe, eq_ii, ne_ii, lt_ii, le_ii, gt_ii, ge_ii, is_n, isn_n, is_b, isn_b, add_ii, sub_ii, mul_ii, mod_ii, fdiv_ii, pow_ii, isNon, biD, intD_i, intD_b, esLen, beq_self_eq_true, ixD_tup, lsOf_new, seqD_tup, seqD_fl, slD_tup, bools, Option.map_some, true_and, ixD_fl, lenD_tup, lenD_fl, ix30, ix31, ix32, at20, at21, at30, at31, at32, List.filterMap_cons, List.filterMap_nil]
  refine ⟨l2, new_ball ho h31 (t := prD (a + 1) c) (s := shD x y p q) (eS_ok (by omega) hc (roll_up hb.hr (by omega) (by omega))) (vl_pl rfl) (vl_pl rfl) fun m S1 k1 hm bm => ?_⟩
  refine ⟨l2, l2, l2, l2, l2, l2, mkL_abs (by simp) fun p2 S2 k2 e2 => ?_⟩
  refine ⟨l2, new_ball ho h31 (t := prD a (c + 1)) (s := shD x y p q) (eS_ok ha (by omega) (roll_up hb.hr (by omega) (by omega))) (vl_pl rfl) (vl_pl rfl) fun m2 S3 k3 hm2 bm2 => ?_⟩
  refine ⟨l2, l2, mkL_abs (by simp) fun p4 S4 k4 e4 => ?_⟩
  refine add_abs (k4 _ _ (k3 _ _ e2)) e4 (show (7 : Nat) ≤ 1000 by decide) fun p5 S5 k5 e5 => ?_
  rw [show ∀ K, revD (prD a c) S5 K = K (prD c a) S5 from fun K => rfl]
  refine ⟨Nat.zero_le _, ?_⟩
  rw [show ∀ K, binD .add (prD c a) (.tup []) S5 K = (2 + 0 ≤ lim ∧ K (prD c a) S5) from fun K => rfl]
  have ht : rollB c a (shD 0 0 1 1) = true := by
    show (true && (decide (0 ≤ c) && decide (0 ≤ a))) = true
    rw [decide_eq_true (by omega), decide_eq_true (by omega)]
    rfl
  refine ⟨l2, len_lim (by decide), new_ball ho h31 (t := prD c a) (s := shD 0 0 1 1) (eS_ok hc ha ht) (vl_pl rfl) (vl_pl rfl) fun m3 S6 k6 hm3 bm3 => ?_⟩
  refine ⟨l2, l2, mkL_abs (by simp) fun p6 S7 k7 e7 => ?_⟩
  have k57 := k6.trans k7
  refine add_abs (k57 _ _ e5) e7 (show (9 : Nat) ≤ 1000 by decide) fun p8 S8 k8 e8 => ?_
  have kA : Ext S S8 := ((((((k1.trans k2).trans k3).trans k4).trans k5).trans k57).trans k8)
  have w8 := hw.ext kA
  have nx : p8 ≠ w := fun z => by
    obtain ⟨a', b', c', ew, _⟩ := w8
    rw [z, ew] at e8
    cases e8
  refine call hd ⟨w, 9, n, rfl, by decide, by decide, w8, by omega, fun d S9 d0 d1 w9 k9 => ?_⟩
  refine ix_ref (k9 _ _ nx e8) (atI_all d0 d1 ?_)
  have kk : Kp w S S9 := (kA.kp w).trans k9
  have bal9 : ∀ {b : Nat} {t s : D}, Bal G.ob S8 b t s → Bal G.ob S9 b t s := fun {b t s} ⟨C, e1, e2⟩ => ⟨C, e1, k9 _ _ (fun z => by
    obtain ⟨a', b', c', ew, _⟩ := w8
    rw [z, ew] at e2
    cases e2) e2⟩
  have no9 : ∀ u e, NoO S9 u → e = some 3 → ToldK G.ob S9 4 a c x y p q u .non e := fun u e h he => ⟨fun z => by omega, fun z => by omega, fun _ => .inl ⟨h, he⟩⟩
  have fin : ∀ u e, ToldK G.ob S9 4 a c x y p q u .non e → Q (.tup [u, .non, wordB e]) S9 := fun u e h => hq u .non e S9 h (w9.le (by omega)) (k.trans kk)
  have b1 := bal9 (bm.ext (((((k2.trans k3).trans k4).trans k5).trans k57).trans k8))
  have b2 := bal9 (bm2.ext (((k4.trans k5).trans k57).trans k8))
  have b3 := bal9 (bm3.ext (k7.trans k8))
  have b0 := bal9 (hB.ext kA)
  simp only [List.cons_append, List.nil_append, List.forall_mem_cons]
  refine ⟨?_, ?_, ?_, ?_, ?_, ?_, ?_, ?_, ?_, fun _ h => nomatch h⟩
  all_goals
    refine ⟨rfl, ?_⟩
    simp only [setAll, List.set_cons_succ, List.set_cons_zero, List.length_cons, List.length_nil, wpSs, wpS, wpE, wpEs, wpC, wpAnd, wpOr, wpO, wpIt, opt_some, onI_int, onB_bl, onR_ref, arg1_one, look, joinO, start, List.map_cons, List.map_nil, List.length_cons, List.length_nil, List.replicate, List.cons_append, List.nil_append, List.append_nil, List.getElem?_cons_succ, List.getElem?_cons_zero, kcD, Nat.reduceAdd, Nat.reduceSub, br_t, br_f, br_n, asg, setAll, List.set_cons_succ, List.set_cons_zero, tgs, wipe, eq_ii, ne_ii, lt_ii, le_ii, gt_ii, ge_ii, is_n, isn_n, is_b, isn_b, add_ii, sub_ii, mul_ii, mod_ii, fdiv_ii, pow_ii, isNon, biD, intD_i, intD_b, esLen, beq_self_eq_true, ixD_tup, lsOf_new, seqD_tup, seqD_fl, slD_tup, bools, Option.map_some, true_and, ixD_fl, lenD_tup, lenD_fl, ix30, ix31, ix32, at20, at21, at30, at31, at32, List.filterMap_cons, List.filterMap_nil]
  · exact eq_ss (b := false) rfl (br_ff ⟨l3, fin .non (some 3) (no9 _ _ trivial rfl)⟩)
  · exact eq_ss (b := false) rfl (br_ff ⟨l3, fin _ (some 3) (no9 _ _ trivial rfl)⟩)
  · exact eq_ss (b := false) rfl (br_ff ⟨l3, fin _ (some 3) (no9 _ _ trivial rfl)⟩)
  · exact eq_ss (b := false) rfl (br_ff ⟨l3, fin _ (some 3) (no9 _ _ trivial rfl)⟩)
  · exact eq_ss (b := false) rfl (br_ff ⟨l3, fin _ (some 3) (no9 _ _ trivial rfl)⟩)
  · exact eq_ss (b := false) rfl (br_ff ⟨l3, fin _ (some 4) ⟨fun z => by omega, fun z => by omega, fun _ => .inr ⟨m2, a, c + 1, x, y, p, q, rfl, b2, fun z => by omega, fun _ => rfl⟩⟩⟩)
  · exact eq_ss (b := false) rfl (br_ff ⟨l3, fin _ (some 4) ⟨fun z => by omega, fun z => by omega, fun _ => .inr ⟨m, a + 1, c, x, y, p, q, rfl, b1, fun z => by omega, fun _ => rfl⟩⟩⟩)
  · refine eq_ss (b := true) rfl (br_tt ?_)
    refine br_if (fun h => ?_) fun h => ?_
    · have h : a = c := by simpa using h
      subst h
      have h0 : BC a a 0 0 1 1 := ⟨ha, hb.a9, ha, hb.a9, ht, by omega, by omega⟩
      exact ⟨l3, fin _ none ⟨fun z => by omega, fun z => by omega, fun _ => .inr ⟨m3, a, a, 0, 0, 1, 1, rfl, b3, fun _ => ⟨hb.duo h0, rfl⟩, fun z => absurd ⟨rfl, rfl⟩ z⟩⟩⟩
    · have h : a ≠ c := by simpa using h
      exact ⟨l3, fin _ (some 4) ⟨fun z => by omega, fun z => by omega, fun _ => .inr ⟨m3, c, a, 0, 0, 1, 1, rfl, b3, fun z => absurd z.1 h, fun _ => rfl⟩⟩⟩
  · exact eq_ss (b := false) rfl (br_ff ⟨l3, fin _ none ⟨fun z => by omega, fun z => by omega, fun _ => .inr ⟨o, a, c, x, y, p, q, rfl, b0, fun _ => ⟨hb.duo hb, rfl⟩, fun z => absurd ⟨rfl, rfl⟩ z⟩⟩⟩)
end M
namespace M
def spCase (ob : Nat → Option Nat) : Sp := fun ds S Q _ => ∃ w way n o a c x y p q, ds = [.ref w, .int way, .ref o, prD a c, shD x y p q] ∧ 0 ≤ way ∧ way < 5 ∧ Well n S w ∧ n + 20 < 2 ^ 59 ∧ BC a c x y p q ∧ Bal ob S o (prD a c) (shD x y p q) ∧ CaseK ob w way a c x y p q n S Q
theorem txt_case {G : Gm} {ds : List D} {S0 : Sto} {Q : VK} {X : XK} {b : Ss} (hb : b = _law_case_T) (hd : G.fn 40 = spDraw) (ho : GO 1 mtK osK G) (h31 : G.fn 31 = spInit G.ob) (h : spCase G.ob ds S0 Q X) : ds.length = 5 ∧ wpSs G b (start 10 ds) S0 (kR Q X) := by
  obtain ⟨w, way, n, o, a, c, x, y, p, q, rfl, w0, w5, hw, hn, hB, hb', hq⟩ := h
  subst hb
  refine ⟨rfl, ?_⟩
  show wpSs G _law_case_T [some (.ref w), some (.int way), some (.ref o), some (prD a c), some (shD x y p q), none, none, none, none, none] S0 (kR Q X)
  by_cases h2 : way < 2
  · have c0 := fun (KK : Kt) (hK : KK.rt = Q) => case_0 (KK := KK) (o := o) (o5 := none) (o6 := none) hd (by rw [hK]; exact hq) hn w0 h2 .refl hw hB.a1 hB.c1 hB.hr
    have hd2 : decide (way < 2) = true := decide_eq_true h2
    unfold _law_case_T _law_case_I2
    generalize (Ss.cons _law_case_I0 (.cons _law_case_I1 (.cons (.ret (.tup (.cons (.v 7) (.cons (.v 9) (.cons (.v 8) .nil))))) .nil))) = TA at c0 ⊢
    simp only [hd2, wpSs, wpS, wpE, wpEs, wpC, wpAnd, wpOr, wpO, wpIt, opt_some, onI_int, onB_bl, onR_ref, arg1_one, look, joinO, start, List.map_cons, List.map_nil, List.length_cons, List.length_nil, List.replicate, List.cons_append, List.nil_append, List.append_nil, List.getElem?_cons_succ, List.getElem?_cons_zero, kcD, Nat.reduceAdd, Nat.reduceSub, br_t, br_f, br_n, asg, setAll, List.set_cons_succ, List.set_cons_zero, tgs, wipe, eq_ii, ne_ii, lt_ii, le_ii, gt_ii, ge_ii, is_n, isn_n, is_b, isn_b, add_ii, sub_ii, mul_ii, mod_ii, fdiv_ii, pow_ii, isNon, biD, intD_i, intD_b, esLen, beq_self_eq_true, ixD_tup, lsOf_new, seqD_tup, seqD_fl, slD_tup, bools, Option.map_some, true_and, ixD_fl, lenD_tup, lenD_fl, ix30, ix31, ix32, at20, at21, at30, at31, at32, List.filterMap_cons, List.filterMap_nil]
    exact c0 _ rfl
  · have hd2 : decide (way < 2) = false := decide_eq_false h2
    by_cases h4 : way < 4
    · have c1 := fun T (KK : Kt) (hK : KK.rt = Q) => case_t (KK := KK) (o := o) (T := T) (o5 := none) (o6 := none) (o7 := none) (o8 := none) (o9 := none) hd (by rw [hK]; exact hq) hn h2 h4 .refl hw hB
      have c1 := c1 caseTail
      show wpSs G (.cons _law_case_I2 (.cons _law_case_I4 caseTail)) _ S0 (kR Q X)
      generalize (Ss.cons _law_case_I4 caseTail) = T at c1 ⊢
      simp only [_law_case_I2, hd2, wpSs, wpS, wpE, wpEs, wpC, wpAnd, wpOr, wpO, wpIt, opt_some, onI_int, onB_bl, onR_ref, arg1_one, look, joinO, start, List.map_cons, List.map_nil, List.length_cons, List.length_nil, List.replicate, List.cons_append, List.nil_append, List.append_nil, List.getElem?_cons_succ, List.getElem?_cons_zero, kcD, Nat.reduceAdd, Nat.reduceSub, br_t, br_f, br_n, asg, setAll, List.set_cons_succ, List.set_cons_zero, tgs, wipe, eq_ii, ne_ii, lt_ii, le_ii, gt_ii, ge_ii, is_n, isn_n, is_b, isn_b, add_ii, sub_ii, mul_ii, mod_ii, fdiv_ii, pow_ii, isNon, biD, intD_i, intD_b, esLen, beq_self_eq_true, ixD_tup, lsOf_new, seqD_tup, seqD_fl, slD_tup, bools, Option.map_some, true_and, ixD_fl, lenD_tup, lenD_fl, ix30, ix31, ix32, at20, at21, at30, at31, at32, List.filterMap_cons, List.filterMap_nil]
      exact c1 _ rfl
    · have hw4 : way = 4 := by omega
      subst hw4
      have c2 := case_b (X := X) (o5 := none) (o6 := none) (o7 := none) (o8 := none) (o9 := none) hd ho h31 hq hn .refl hw hB hb'
      show wpSs G (.cons _law_case_I2 (.cons _law_case_I4 caseTail)) _ S0 (kR Q X)
      generalize caseTail = T at c2
      simp only [_law_case_I2, _law_case_I4, wpSs, wpS, wpE, wpEs, wpC, wpAnd, wpOr, wpO, wpIt, opt_some, onI_int, onB_bl, onR_ref, arg1_one, look, joinO, start, List.map_cons, List.map_nil, List.length_cons, List.length_nil, List.replicate, List.cons_append, List.nil_append, List.append_nil, List.getElem?_cons_succ, List.getElem?_cons_zero, kcD, Nat.reduceAdd, Nat.reduceSub, br_t, br_f, br_n, asg, setAll, List.set_cons_succ, List.set_cons_zero, tgs, wipe, eq_ii, ne_ii, lt_ii, le_ii, gt_ii, ge_ii, is_n, isn_n, is_b, isn_b, add_ii, sub_ii, mul_ii, mod_ii, fdiv_ii, pow_ii, isNon, biD, intD_i, intD_b, esLen, beq_self_eq_true, ixD_tup, lsOf_new, seqD_tup, seqD_fl, slD_tup, bools, Option.map_some, true_and, ixD_fl, lenD_tup, lenD_fl, ix30, ix31, ix32, at20, at21, at30, at31, at32, List.filterMap_cons, List.filterMap_nil]
      exact br_ff (br_ff c2)
end M
namespace M
def law_B0 : Ss := (.cons (.set (.v 2) (.call 39 (.cons (.v 0) (.cons (.v 1) .nil)))) (.cons (.set (.v 3) (.call 41 (.cons (.v 2) (.cons (.k (.int 9)) .nil)))) (.cons (.set (.v 4) (.call 42 (.cons (.v 2) (.cons (.v 3) (.cons (.k (.int 4)) .nil))))) (.cons (.set (.v 5) (.new 0 (.cons (.v 3) (.cons (.v 4) .nil)))) (.cons (.set (.v 6) (.bin .mod (.bi .int (.cons (.v 1) .nil)) (.k (.int 5)))) (.cons (.set (.tup [7, 8, 9]) (.call 44 (.cons (.v 2) (.cons (.v 6) (.cons (.v 5) (.cons (.v 3) (.cons (.v 4) .nil))))))) (.cons (.if_ (.or (.cmp .ne (.call 43 (.cons (.v 6) (.cons (.v 5) (.cons (.v 7) (.cons (.v 8) .nil))))) (.v 9)) (.cons (.cmp .ne (.prp (.v 5) [116, 97, 98, 108, 101]) (.v 3)) (.cons (.cmp .ne (.prp (.v 5) [115, 104, 111, 116]) (.v 4)) .nil))) (.cons (.ret (.k (.bl false))) .nil) .nil) .nil)))))))
def law_S0 : St := (.for_ (.v 1) (.rng (.bi .max (.cons (.k (.int 20)) (.cons (.bi .min (.cons (.k (.int 40)) (.cons (.bi .len (.cons (.v 0) .nil)) .nil))) .nil)))) law_B0)
def law_A0 : Ss := (.cons (.ret (.k (.bl true))) .nil)
def law_T : Ss := (.cons law_S0 law_A0)
def spLaw : Sp := fun ds S Q _ => ∃ ns : List Int, ds = [.fl (ns.map .int)] ∧ ns.length ≤ 63 ∧ ∀ S', Q (.bl true) S'
theorem word_strB (e : Option Nat) : ∃ y, wordB e = .str y := by
  unfold wordB
  split <;> exact ⟨_, rfl⟩
theorem ne_self {t : D} {S : Sto} {Q : Bool → Prop} (hf : fit dep S t = true) (he : eqB dep S t t = true) (hs : ∀ x, t ≠ .str x) (q : Q false) : cmpD .ne t t S Q := by
  have go : fit dep S t = true ∧ fit dep S t = true ∧ Q (!eqB dep S t t) := ⟨hf, hf, by rw [he]; exact q⟩
  cases t <;> first | exact go | exact absurd rfl (hs _)
theorem law_ok {G : Gm} {ds : List D} {S0 : Sto} {Q : VK} {X : XK} {b : Ss} (hb : b = law_T) (ho : GO 1 mtK osK G) (h1 : G.fn 39 = spWell) (hk : G.fn 41 = spDesk) (hr : G.fn 42 = spRoll) (h31 : G.fn 31 = spInit G.ob) (h2 : G.fn 44 = spCase G.ob) (h3 : G.fn 43 = spTold G.ob) (h37 : G.fn 37 = spGt G.ob) (h38 : G.fn 38 = spGs G.ob)
    (h : spLaw ds S0 Q X) : ds.length = 1 ∧ wpSs G b (start 10 ds) S0 (kR Q X) := by
  obtain ⟨ns, rfl, hl, hq⟩ := h
  subst hb
  refine ⟨rfl, ?_⟩
  simp only [law_T, law_S0, law_A0, wpSs, wpS, wpE, wpEs, wpC, wpAnd, wpOr, wpO, wpIt, opt_some, onI_int, onB_bl, onR_ref, arg1_one, look, joinO, start, List.map_cons, List.map_nil, List.length_cons, List.length_nil, List.replicate, List.cons_append, List.nil_append, List.append_nil, List.getElem?_cons_succ, List.getElem?_cons_zero, kcD, Nat.reduceAdd, Nat.reduceSub, br_t, br_f, br_n, asg, setAll, List.set_cons_succ, List.set_cons_zero, tgs, wipe, eq_ii, ne_ii, lt_ii, le_ii, gt_ii, ge_ii, is_n, isn_n, is_b, isn_b, add_ii, sub_ii, mul_ii, mod_ii, fdiv_ii, pow_ii, isNon, biD, intD_i, intD_b, esLen, beq_self_eq_true, ixD_tup, lsOf_new, seqD_tup, seqD_fl, slD_tup, bools, Option.map_some, true_and, ixD_fl, lenD_tup, lenD_fl, ix30, ix31, ix32, at20, at21, at30, at31, at32, List.filterMap_cons, List.filterMap_nil, List.length_map]
  have hn : ∀ c : Int, 0 ≤ c → c ≤ 63 → (if (if c < 40 then c else 40) > 20 then (if c < 40 then c else 40) else 20) ≤ 40 ∧ 1 ≤ (if (if c < 40 then c else 40) > 20 then (if c < 40 then c else 40) else 20) := fun c h0 h1 => by split <;> (try split) <;> omega
  obtain ⟨hj, hj0⟩ := hn ns.length (by omega) (by omega)
  generalize (if (if ((ns.length : Nat) : Int) < 40 then ((ns.length : Nat) : Int) else 40) > 20 then (if ((ns.length : Nat) : Int) < 40 then ((ns.length : Nat) : Int) else 40) else 20) = j at *
  refine ⟨by omega, by omega, by omega, by omega, ?_⟩
  refine forW_ok (I := fun _ ρ S' => ∃ o1 o2 o3 o4 o5 o6 o7 o8 o9, ρ = [some (.fl (ns.map .int)), o1, o2, o3, o4, o5, o6, o7, o8, o9]) _ 0 _ _ ⟨_, _, _, _, _, _, _, _, _, rfl⟩ ?_ ?_
  · rintro i d ρ S2 nx' hlt hd ⟨o1, o2, o3, o4, o5, o6, o7, o8, o9, rfl⟩ hnx
    refine ⟨trivial, ?_⟩
    obtain ⟨i, hi, rfl⟩ := List.mem_map.mp hd
    have hi := List.mem_range.mp hi
    simp only [law_B0, wpSs, wpS, wpE, wpEs, wpC, wpAnd, wpOr, wpO, wpIt, opt_some, onI_int, onB_bl, onR_ref, arg1_one, look, joinO, start, List.map_cons, List.map_nil, List.length_cons, List.length_nil, List.replicate, List.cons_append, List.nil_append, List.append_nil, List.getElem?_cons_succ, List.getElem?_cons_zero, kcD, Nat.reduceAdd, Nat.reduceSub, br_t, br_f, br_n, asg, setAll, List.set_cons_succ, List.set_cons_zero, tgs, wipe, eq_ii, ne_ii, lt_ii, le_ii, gt_ii, ge_ii, is_n, isn_n, is_b, isn_b, add_ii, sub_ii, mul_ii, mod_ii, fdiv_ii, pow_ii, isNon, biD, intD_i, intD_b, esLen, beq_self_eq_true, ixD_tup, lsOf_new, seqD_tup, seqD_fl, slD_tup, bools, Option.map_some, true_and, ixD_fl, lenD_tup, lenD_fl, ix30, ix31, ix32, at20, at21, at30, at31, at32, List.filterMap_cons, List.filterMap_nil]
    refine call h1 ⟨ns, _, rfl, by omega, by omega, fun w hp S3 x3 hw => ?_⟩
    refine call hk ⟨w, 9, 0, rfl, by decide, by decide, hw, by omega, fun a c S4 a1 a9 c1 c9 w4 k4 => ?_⟩
    refine call hr ⟨w, a, c, 4, 0 + 4, rfl, by decide, by decide, a1, by omega, c1, by omega, w4, by omega, fun x y p q S5 x0 xa y0 yc pq p0 p4 q0 q4 w5 k5 => ?_⟩
    have hroll : rollB a c (shD x y p q) = true := by
      show ((decide (0 ≤ x) && decide (0 ≤ y) && !(p == 0 && q == 0)) && (decide (x ≤ a) && decide (y ≤ c))) = true
      rw [decide_eq_true x0, decide_eq_true y0, decide_eq_true xa, decide_eq_true yc]
      cases hp' : (p == 0) with
      | false => rfl
      | true =>
        cases hq' : (q == 0) with
        | false => rfl
        | true =>
          have e1 : p = 0 := by simpa using hp'
          have e2 : q = 0 := by simpa using hq'
          omega
    have hbc : BC a c x y p q := ⟨a1, by omega, c1, by omega, hroll, by omega, by omega⟩
    refine new_ball ho h31 (t := prD a c) (s := shD x y p q) (eS_ok a1 c1 hroll) (vl_pl rfl) (vl_pl rfl) fun o S6 k6 ho6 hB6 => ?_
    rw [fmod_pos (by decide)]
    generalize hz : ((0 : Int) + (i : Int)) % 5 = z
    have z0 : 0 ≤ z := by omega
    have z5 : z < 5 := by omega
    refine ⟨by decide, call h2 ⟨w, z, 0 + 4 + 8, o, a, c, x, y, p, q, rfl, z0, z5, w5.ext k6, by decide, hbc, hB6, fun u v e S7 ht w7 k7 => ?_⟩⟩
    refine ⟨rfl, ?_⟩
    have hB7 : Bal G.ob S7 o (prD a c) (shD x y p q) := by
      obtain ⟨C, e1, e2⟩ := hB6
      refine ⟨C, e1, k7 _ _ (fun z => ?_) e2⟩
      obtain ⟨a', b', c', ew, _⟩ := w5.ext k6
      rw [z, ew] at e2
      cases e2
    simp only [asg, setAll, List.set_cons_succ, List.set_cons_zero, List.length_cons, List.length_nil, true_and, wpSs, wpS, wpE, wpEs, wpC, wpAnd, wpOr, wpO, wpIt, opt_some, onI_int, onB_bl, onR_ref, arg1_one, look, joinO, start, List.map_cons, List.map_nil, List.length_cons, List.length_nil, List.replicate, List.cons_append, List.nil_append, List.append_nil, List.getElem?_cons_succ, List.getElem?_cons_zero, kcD, Nat.reduceAdd, Nat.reduceSub, br_t, br_f, br_n, asg, setAll, List.set_cons_succ, List.set_cons_zero, tgs, wipe, eq_ii, ne_ii, lt_ii, le_ii, gt_ii, ge_ii, is_n, isn_n, is_b, isn_b, add_ii, sub_ii, mul_ii, mod_ii, fdiv_ii, pow_ii, isNon, biD, intD_i, intD_b, esLen, beq_self_eq_true, ixD_tup, lsOf_new, seqD_tup, seqD_fl, slD_tup, bools, Option.map_some, true_and, ixD_fl, lenD_tup, lenD_fl, ix30, ix31, ix32, at20, at21, at30, at31, at32, List.filterMap_cons, List.filterMap_nil]
    refine call h3 ⟨z, o, a, c, x, y, p, q, u, v, e, rfl, z0, z5, hB7, ht, fun S8 k8 => ?_⟩
    obtain ⟨yy, ey⟩ := word_strB e
    rw [ey]
    have hB8 := hB7.ext k8
    have emT : G.mt 0 nTab = some 37 := by rw [ho.hm]; rfl
    have emS : G.mt 0 nSho = some 38 := by rw [ho.hm]; rfl
    refine str_ne (br_ff ?_)
    refine hB8.call (m := nTab) rfl emT h37 ⟨o, _, _, rfl, hB8, ?_⟩
    refine ne_self (t := prD a c) rfl (by show ((a == a) && ((c == c) && true)) = true; simp) (fun _ z => by cases z) (br_ff ?_)
    refine hB8.call (m := nSho) rfl emS h38 ⟨o, _, _, rfl, hB8, ?_⟩
    refine ne_self (t := shD x y p q) rfl (by show ((x == x) && ((y == y) && ((p == p) && ((q == q) && true)))) = true; simp) (fun _ z => by cases z) (br_ff ?_)
    exact hnx _ _ ⟨_, _, _, _, _, _, _, _, _, rfl⟩
  · rintro ρ S2 _
    exact ⟨trivial, hq _⟩
/-- a def that nobody calls -/
theorem no_body {G : Gm} {ds : List D} {S0 : Sto} {Q : VK} {X : XK} {b c : Ss} {n m : Nat} (hb' : b = c) (h : False) : ds.length = n ∧ wpSs G b (start m ds) S0 (kR Q X) := h.elim
end M
namespace K35.A
/-- is_integer: value, least, most -/
def b0 : M.Ss := (.cons (.if_ (.or (.not (.isi (.v 0) .int)) (.cons (.isi (.v 0) .bool) .nil)) (.cons (.ret (.k (.bl false))) .nil) .nil) (.cons (.ret (.and (.or (.cmp .is_ (.v 1) (.k .non)) (.cons (.cmp .le (.v 1) (.v 0)) .nil)) (.cons (.or (.cmp .is_ (.v 2) (.k .non)) (.cons (.cmp .le (.v 0) (.v 2)) .nil)) .nil))) .nil))
/-- divisor: one, other, here, there, rest -/
def b1 : M.Ss := (.cons (.par 2 3 (.bi .abs (.cons (.v 0) .nil)) (.bi .abs (.cons (.v 1) .nil))) (.cons (.while_ (.cmp .ne (.v 3) (.k (.int 0))) (.cons (.set (.v 4) (.bin .mod (.v 2) (.v 3))) (.cons (.set (.v 2) (.v 3)) (.cons (.set (.v 3) (.v 4)) .nil)))) (.cons (.ret (.v 2)) .nil)))
/-- fraction: top, bottom, common -/
def b2 : M.Ss := (.cons (.set (.v 2) (.ite (.cmp .gt (.v 1) (.k (.int 0))) (.call 1 (.cons (.v 0) (.cons (.v 1) .nil))) (.neg (.call 1 (.cons (.v 0) (.cons (.v 1) .nil)))))) (.cons (.ret (.tup (.cons (.bin .fdiv (.v 0) (.v 2)) (.cons (.bin .fdiv (.v 1) (.v 2)) .nil)))) .nil))
/-- is_less: one, other -/
def b3 : M.Ss := (.cons (.ret (.cmp .lt (.bin .mul (.ix (.v 0) (.k (.int 0))) (.ix (.v 1) (.k (.int 1)))) (.bin .mul (.ix (.v 1) (.k (.int 0))) (.ix (.v 0) (.k (.int 1)))))) .nil)
/-- least_of: times, found, time -/
def b4 : M.Ss := (.cons (.set (.v 1) (.k .non)) (.cons (.for_ (.v 2) (.seq (.v 0)) (.cons (.if_ (.and (.cmp .isn (.v 2) (.k .non)) (.cons (.or (.cmp .is_ (.v 1) (.k .non)) (.cons (.call 3 (.cons (.v 2) (.cons (.v 1) .nil))) .nil)) .nil)) (.cons (.set (.v 1) (.v 2)) .nil) .nil) .nil)) (.cons (.ret (.v 1)) .nil)))
/-- inverse: number, modulus, here, there, back, forth, times, rest -/
def b5 : M.Ss := (.cons (.par 2 3 (.v 1) (.bin .mod (.v 0) (.v 1))) (.cons (.set (.tup [4, 5]) (.tup (.cons (.k (.int 0)) (.cons (.k (.int 1)) .nil)))) (.cons (.while_ (.cmp .ne (.v 3) (.k (.int 0))) (.cons (.set (.v 6) (.bin .fdiv (.v 2) (.v 3))) (.cons (.set (.v 7) (.bin .sub (.v 2) (.bin .mul (.v 6) (.v 3)))) (.cons (.set (.v 2) (.v 3)) (.cons (.set (.v 3) (.v 7)) (.cons (.set (.v 7) (.bin .sub (.v 4) (.bin .mul (.v 6) (.v 5)))) (.cons (.set (.v 4) (.v 5)) (.cons (.set (.v 5) (.v 7)) .nil)))))))) (.cons (.ret (.bin .mod (.v 4) (.v 1))) .nil))))
/-- least_solution: factor, rest, modulus, common, step -/
def b6 : M.Ss := (.cons (.set (.v 3) (.call 1 (.cons (.v 0) (.cons (.v 2) .nil)))) (.cons (.if_ (.cmp .ne (.bin .mod (.v 1) (.v 3)) (.k (.int 0))) (.cons (.ret (.k .non)) .nil) .nil) (.cons (.set (.v 4) (.bin .fdiv (.v 2) (.v 3))) (.cons (.ret (.tup (.cons (.bin .mod (.bin .mul (.bin .fdiv (.v 1) (.v 3)) (.call 5 (.cons (.bin .fdiv (.v 0) (.v 3)) (.cons (.v 4) .nil)))) (.v 4)) (.cons (.v 4) .nil)))) .nil))))
/-- whole_sum: many, modulus, factor, start, found, top, rest -/
def b7 : M.Ss := (.cons (.set (.v 4) (.k (.int 0))) (.cons (.while_ (.cmp .gt (.v 0) (.k (.int 0))) (.cons (.set (.v 4) (.bin .add (.bin .add (.v 4) (.bin .mul (.bin .fdiv (.bin .mul (.v 0) (.bin .sub (.v 0) (.k (.int 1)))) (.k (.int 2))) (.bin .fdiv (.v 2) (.v 1)))) (.bin .mul (.v 0) (.bin .fdiv (.v 3) (.v 1))))) (.cons (.set (.v 2) (.bin .mod (.v 2) (.v 1))) (.cons (.set (.v 5) (.bin .add (.bin .mul (.v 2) (.v 0)) (.bin .mod (.v 3) (.v 1)))) (.cons (.set (.v 0) (.bin .fdiv (.v 5) (.v 1))) (.cons (.set (.v 3) (.bin .mod (.v 5) (.v 1))) (.cons (.set (.v 6) (.v 1)) (.cons (.set (.v 1) (.v 2)) (.cons (.set (.v 2) (.v 6)) .nil))))))))) (.cons (.ret (.v 4)) .nil)))
/-- count_within: many, modulus, factor, start, low, high, upper -/
def b8 : M.Ss := (.cons (.if_ (.cmp .gt (.v 4) (.v 5)) (.cons (.ret (.k (.int 0))) .nil) .nil) (.cons (.set (.v 6) (.call 7 (.cons (.v 0) (.cons (.v 1) (.cons (.v 2) (.cons (.bin .sub (.v 3) (.v 4)) .nil)))))) (.cons (.ret (.bin .sub (.v 6) (.call 7 (.cons (.v 0) (.cons (.v 1) (.cons (.v 2) (.cons (.bin .sub (.bin .sub (.v 3) (.v 5)) (.k (.int 1))) .nil))))))) .nil)))
/-- first_within: modulus, factor, start, low, high, most, bound, least, middle -/
def b9 : M.Ss := (.cons (.set (.v 5) (.bin .fdiv (.v 0) (.call 1 (.cons (.v 1) (.cons (.v 0) .nil))))) (.cons (.if_ (.cmp .eq (.call 8 (.cons (.v 5) (.cons (.v 0) (.cons (.v 1) (.cons (.v 2) (.cons (.v 3) (.cons (.v 4) .nil))))))) (.k (.int 0))) (.cons (.ret (.k .non)) .nil) .nil) (.cons (.set (.v 6) (.k (.int 1))) (.cons (.while_ (.and (.cmp .lt (.v 6) (.v 5)) (.cons (.cmp .eq (.call 8 (.cons (.v 6) (.cons (.v 0) (.cons (.v 1) (.cons (.v 2) (.cons (.v 3) (.cons (.v 4) .nil))))))) (.k (.int 0))) .nil)) (.cons (.set (.v 6) (.bin .mul (.v 6) (.k (.int 2)))) .nil)) (.cons (.set (.v 7) (.bin .fdiv (.v 6) (.k (.int 2)))) (.cons (.set (.v 5) (.bi .min (.cons (.v 5) (.cons (.v 6) .nil)))) (.cons (.while_ (.cmp .lt (.v 7) (.v 5)) (.cons (.set (.v 8) (.bin .fdiv (.bin .add (.v 7) (.v 5)) (.k (.int 2)))) (.cons (.if_ (.cmp .gt (.call 8 (.cons (.bin .add (.v 8) (.k (.int 1))) (.cons (.v 0) (.cons (.v 1) (.cons (.v 2) (.cons (.v 3) (.cons (.v 4) .nil))))))) (.k (.int 0))) (.cons (.set (.v 5) (.v 8)) .nil) (.cons (.set (.v 7) (.bin .add (.v 8) (.k (.int 1)))) .nil)) .nil))) (.cons (.ret (.v 7)) .nil))))))))
/-- are_table: value, side -/
def b10 : M.Ss := (.cons (.ret (.and (.isi (.v 0) .tuple) (.cons (.cmp .eq (.bi .len (.cons (.v 0) .nil)) (.k (.int 2))) (.cons (.bi .all (.cons (.comp (.call 0 (.cons (.v 1) (.cons (.k (.int 1)) (.cons (.k .non) .nil)))) (.v 1) (.seq (.v 0)) .none) .nil)) .nil)))) .nil)
/-- is_free_shot: value, one -/
def b11 : M.Ss := (.cons (.if_ (.or (.not (.isi (.v 0) .tuple)) (.cons (.cmp .ne (.bi .len (.cons (.v 0) .nil)) (.k (.int 4))) (.cons (.not (.bi .all (.cons (.comp (.call 0 (.cons (.v 1) (.cons (.k .non) (.cons (.k .non) .nil)))) (.v 1) (.seq (.v 0)) .none) .nil))) .nil))) (.cons (.ret (.k (.bl false))) .nil) .nil) (.cons (.ret (.and (.cmp .ge (.ix (.v 0) (.k (.int 0))) (.k (.int 0))) (.cons (.cmp .ge (.ix (.v 0) (.k (.int 1))) (.k (.int 0))) (.cons (.cmp .ne (.sl (.v 0) (.some (.k (.int 2))) .none) (.tup (.cons (.k (.int 0)) (.cons (.k (.int 0)) .nil)))) .nil)))) .nil))
/-- is_shot_on: table, value -/
def b12 : M.Ss := (.cons (.ret (.and (.call 11 (.cons (.v 1) .nil)) (.cons (.cmp .le (.ix (.v 1) (.k (.int 0))) (.ix (.v 0) (.k (.int 0)))) (.cons (.cmp .le (.ix (.v 1) (.k (.int 1))) (.ix (.v 0) (.k (.int 1)))) .nil)))) .nil)
/-- are_fraction: value -/
def b13 : M.Ss := (.cons (.if_ (.or (.not (.isi (.v 0) .tuple)) (.cons (.cmp .ne (.bi .len (.cons (.v 0) .nil)) (.k (.int 2))) (.cons (.not (.call 0 (.cons (.ix (.v 0) (.k (.int 0))) (.cons (.k .non) (.cons (.k .non) .nil))))) .nil))) (.cons (.ret (.k (.bl false))) .nil) .nil) (.cons (.ret (.and (.call 0 (.cons (.ix (.v 0) (.k (.int 1))) (.cons (.k (.int 1)) (.cons (.k .non) .nil)))) (.cons (.cmp .eq (.call 1 (.cons (.ix (.v 0) (.k (.int 0))) (.cons (.ix (.v 0) (.k (.int 1))) .nil))) (.k (.int 1))) .nil))) .nil))
/-- check_table: table -/
def b14 : M.Ss := (.cons (.if_ (.not (.call 10 (.cons (.v 0) .nil))) (.cons (.raise 0 .nil) .nil) .nil) .nil)
/-- check_shot: table, shot -/
def b15 : M.Ss := (.cons (.ex (.call 14 (.cons (.v 0) .nil))) (.cons (.if_ (.not (.call 12 (.cons (.v 0) (.cons (.v 1) .nil)))) (.cons (.raise 1 .nil) .nil) .nil) .nil))
/-- check_time: time -/
def b16 : M.Ss := (.cons (.if_ (.not (.call 13 (.cons (.v 0) .nil))) (.cons (.raise 2 .nil) .nil) .nil) .nil)
/-- fold: side, number, top, bottom, rest -/
def b17 : M.Ss := (.cons (.set (.tup [2, 3]) (.v 1)) (.cons (.set (.v 4) (.bin .mod (.v 2) (.bin .mul (.bin .mul (.k (.int 2)) (.v 0)) (.v 3)))) (.cons (.ret (.call 2 (.cons (.bi .min (.cons (.v 4) (.cons (.bin .sub (.bin .mul (.bin .mul (.k (.int 2)) (.v 0)) (.v 3)) (.v 4)) .nil))) (.cons (.v 3) .nil)))) .nil)))
/-- free_place: shot, time, top, bottom -/
def b18 : M.Ss := (.cons (.set (.tup [2, 3]) (.v 1)) (.cons (.ret (.tup (.cons (.tup (.cons (.bin .add (.bin .mul (.ix (.v 0) (.k (.int 0))) (.v 3)) (.bin .mul (.ix (.v 0) (.k (.int 2))) (.v 2))) (.cons (.v 3) .nil))) (.cons (.tup (.cons (.bin .add (.bin .mul (.ix (.v 0) (.k (.int 1))) (.v 3)) (.bin .mul (.ix (.v 0) (.k (.int 3))) (.v 2))) (.cons (.v 3) .nil))) .nil)))) .nil))
/-- place_of: table, shot, time, first, second -/
def b19 : M.Ss := (.cons (.set (.tup [3, 4]) (.call 18 (.cons (.v 1) (.cons (.v 2) .nil)))) (.cons (.ret (.tup (.cons (.call 17 (.cons (.ix (.v 0) (.k (.int 0))) (.cons (.v 3) .nil))) (.cons (.call 17 (.cons (.ix (.v 0) (.k (.int 1))) (.cons (.v 4) .nil))) .nil)))) .nil))
/-- turned_of: shot -/
def b20 : M.Ss := (.cons (.ret (.tup (.cons (.ix (.v 0) (.k (.int 0))) (.cons (.ix (.v 0) (.k (.int 1))) (.cons (.neg (.ix (.v 0) (.k (.int 2)))) (.cons (.neg (.ix (.v 0) (.k (.int 3)))) .nil)))))) .nil)
/-- axis_times: side, one, way, other, other_way, sign, speed, gap -/
def b21 : M.Ss := (.cons (.set (.v 6) (.bin .sub (.v 2) (.bin .mul (.v 5) (.v 4)))) (.cons (.set (.v 7) (.bin .sub (.bin .mul (.v 5) (.v 3)) (.v 1))) (.cons (.if_ (.cmp .eq (.v 6) (.k (.int 0))) (.cons (.ret (.ite (.cmp .eq (.bin .mod (.v 7) (.bin .mul (.k (.int 2)) (.v 0))) (.k (.int 0))) (.g 0) (.k .non))) .nil) .nil) (.cons (.if_ (.cmp .lt (.v 6) (.k (.int 0))) (.cons (.par 6 7 (.neg (.v 6)) (.neg (.v 7))) .nil) .nil) (.cons (.ret (.tup (.cons (.call 2 (.cons (.bin .mod (.v 7) (.bin .mul (.k (.int 2)) (.v 0))) (.cons (.v 6) .nil))) (.cons (.call 2 (.cons (.bin .mul (.k (.int 2)) (.v 0)) (.cons (.v 6) .nil))) .nil)))) .nil)))))
/-- both_times: one, other, bottom, first, step, second, mate, found, whole, time -/
def b22 : M.Ss := (.cons (.if_ (.or (.cmp .is_ (.v 0) (.k .non)) (.cons (.cmp .is_ (.v 1) (.k .non)) .nil)) (.cons (.ret (.k .non)) .nil) .nil) (.cons (.if_ (.or (.cmp .is_ (.ix (.v 0) (.k (.int 1))) (.k .non)) (.cons (.cmp .is_ (.ix (.v 1) (.k (.int 1))) (.k .non)) .nil)) (.cons (.ret (.ite (.cmp .is_ (.ix (.v 0) (.k (.int 1))) (.k .non)) (.v 1) (.v 0))) .nil) .nil) (.cons (.set (.v 2) (.bin .mul (.bin .mul (.bin .mul (.ix (.ix (.v 0) (.k (.int 0))) (.k (.int 1))) (.ix (.ix (.v 0) (.k (.int 1))) (.k (.int 1)))) (.ix (.ix (.v 1) (.k (.int 0))) (.k (.int 1)))) (.ix (.ix (.v 1) (.k (.int 1))) (.k (.int 1))))) (.cons (.set (.tup [3, 4, 5, 6]) (.comp (.bin .mul (.ix (.v 9) (.k (.int 0))) (.bin .fdiv (.v 2) (.ix (.v 9) (.k (.int 1))))) (.v 9) (.seq (.tup (.star (.v 0) (.star (.v 1) .nil)))) .none)) (.cons (.set (.v 7) (.call 6 (.cons (.v 4) (.cons (.bin .sub (.v 5) (.v 3)) (.cons (.v 6) .nil))))) (.cons (.if_ (.cmp .is_ (.v 7) (.k .non)) (.cons (.ret (.k .non)) .nil) .nil) (.cons (.set (.v 8) (.bin .mul (.bin .fdiv (.v 4) (.call 1 (.cons (.v 4) (.cons (.v 6) .nil)))) (.v 6))) (.cons (.ret (.tup (.cons (.call 2 (.cons (.bin .mod (.bin .add (.v 3) (.bin .mul (.v 4) (.ix (.v 7) (.k (.int 0))))) (.v 8)) (.cons (.v 2) .nil))) (.cons (.call 2 (.cons (.v 8) (.cons (.v 2) .nil))) .nil)))) .nil))))))))
/-- rows_of: table, shot, other, found, sign, first, mate, second, row -/
def b23 : M.Ss := (.cons (.set (.v 3) (.lst .nil)) (.cons (.for_ (.v 4) (.seq (.tup (.cons (.k (.int 1)) (.cons (.neg (.k (.int 1))) .nil)))) (.cons (.set (.v 5) (.call 21 (.cons (.ix (.v 0) (.k (.int 0))) (.cons (.ix (.v 1) (.k (.int 0))) (.cons (.ix (.v 1) (.k (.int 2))) (.cons (.ix (.v 2) (.k (.int 0))) (.cons (.ix (.v 2) (.k (.int 2))) (.cons (.v 4) .nil)))))))) (.cons (.for_ (.v 6) (.seq (.tup (.cons (.k (.int 1)) (.cons (.neg (.k (.int 1))) .nil)))) (.cons (.set (.v 7) (.call 21 (.cons (.ix (.v 0) (.k (.int 1))) (.cons (.ix (.v 1) (.k (.int 1))) (.cons (.ix (.v 1) (.k (.int 3))) (.cons (.ix (.v 2) (.k (.int 1))) (.cons (.ix (.v 2) (.k (.int 3))) (.cons (.v 6) .nil)))))))) (.cons (.set (.v 8) (.call 22 (.cons (.v 5) (.cons (.v 7) .nil)))) (.cons (.if_ (.and (.cmp .isn (.v 8) (.k .non)) (.cons (.cmp .nin (.v 8) (.v 3)) .nil)) (.cons (.ex (.mt .append (.v 3) (.cons (.v 8) .nil))) .nil) .nil) .nil)))) .nil))) (.cons (.ret (.v 3)) .nil)))
/-- meeting_of: table, shot, other, row -/
def b24 : M.Ss := (.cons (.ret (.call 4 (.cons (.comp (.ix (.v 3) (.k (.int 0))) (.v 3) (.seq (.call 23 (.cons (.v 0) (.cons (.v 1) (.cons (.v 2) .nil))))) .none) .nil))) .nil)
/-- is_spot: table, value -/
def b25 : M.Ss := (.cons (.if_ (.or (.not (.isi (.v 1) .tuple)) (.cons (.cmp .ne (.bi .len (.cons (.v 1) .nil)) (.k (.int 2))) .nil)) (.cons (.ret (.k (.bl false))) .nil) .nil) (.cons (.ret (.and (.call 0 (.cons (.ix (.v 1) (.k (.int 0))) (.cons (.k (.int 0)) (.cons (.ix (.v 0) (.k (.int 0))) .nil)))) (.cons (.call 0 (.cons (.ix (.v 1) (.k (.int 1))) (.cons (.k (.int 0)) (.cons (.ix (.v 0) (.k (.int 1))) .nil)))) .nil))) .nil))
/-- ranges: side, speed, low, high, first, second, one -/
def b26 : M.Ss := (.cons (.set (.v 4) (.tup (.cons (.bin .mul (.v 2) (.v 1)) (.cons (.bin .mul (.v 3) (.v 1)) .nil)))) (.cons (.set (.v 5) (.tup (.cons (.bi .max (.cons (.bin .mul (.bin .sub (.bin .mul (.k (.int 2)) (.v 0)) (.v 3)) (.v 1)) (.cons (.bin .add (.bin .mul (.v 3) (.v 1)) (.k (.int 1))) .nil))) (.cons (.bin .sub (.bin .mul (.bin .sub (.bin .mul (.k (.int 2)) (.v 0)) (.v 2)) (.v 1)) (.bi .int (.cons (.cmp .eq (.v 2) (.k (.int 0))) .nil))) .nil)))) (.cons (.ret (.comp (.v 6) (.v 6) (.seq (.tup (.cons (.v 4) (.cons (.v 5) .nil)))) (.some (.cmp .le (.ix (.v 6) (.k (.int 0))) (.ix (.v 6) (.k (.int 1))))))) .nil)))
/-- first_pass: side, speed, factor, start, low, high, found, least, most, some, number -/
def b27 : M.Ss := (.cons (.set (.v 6) (.lst .nil)) (.cons (.for_ (.tup [7, 8]) (.seq (.call 26 (.cons (.v 0) (.cons (.v 1) (.cons (.v 4) (.cons (.v 5) .nil)))))) (.cons (.ex (.mt .append (.v 6) (.cons (.call 9 (.cons (.bin .mul (.bin .mul (.k (.int 2)) (.v 0)) (.v 1)) (.cons (.v 2) (.cons (.v 3) (.cons (.v 7) (.cons (.v 8) .nil)))))) .nil))) .nil)) (.cons (.set (.v 9) (.comp (.v 10) (.v 10) (.seq (.v 6)) (.some (.cmp .isn (.v 10) (.k .non))))) (.cons (.ret (.ite (.cmp .ne (.v 9) (.lst .nil)) (.bi .min (.cons (.v 9) .nil)) (.k .non))) .nil))))
/-- axis_of: table, shot, spot, mate -/
def b28 : M.Ss := (.cons (.set (.v 3) (.bin .sub (.k (.int 1)) (.v 2))) (.cons (.ret (.tup (.cons (.ix (.v 1) (.v 2)) (.cons (.ix (.v 1) (.bin .add (.v 2) (.k (.int 2)))) (.cons (.ix (.v 0) (.v 2)) (.cons (.ix (.v 1) (.v 3)) (.cons (.ix (.v 1) (.bin .add (.v 3) (.k (.int 2)))) (.cons (.ix (.v 0) (.v 3)) .nil)))))))) .nil))
/-- pass_time: axis, goal, low, high, start, way, side, mate, mate_way, mate_side, found, image, first, speed, number -/
def b29 : M.Ss := (.cons (.set (.tup [4, 5, 6, 7, 8, 9]) (.v 0)) (.cons (.if_ (.cmp .eq (.v 5) (.k (.int 0))) (.cons (.ret (.k .non)) .nil) .nil) (.cons (.set (.v 10) (.lst .nil)) (.cons (.for_ (.v 11) (.seq (.tup (.cons (.v 1) (.cons (.neg (.v 1)) .nil)))) (.cons (.set (.v 12) (.bin .mod (.ite (.cmp .gt (.v 5) (.k (.int 0))) (.bin .sub (.v 11) (.v 4)) (.bin .sub (.v 4) (.v 11))) (.bin .mul (.k (.int 2)) (.v 6)))) (.cons (.set (.v 13) (.bi .abs (.cons (.v 5) .nil))) (.cons (.set (.v 14) (.call 27 (.cons (.v 9) (.cons (.v 13) (.cons (.bin .mul (.bin .mul (.k (.int 2)) (.v 6)) (.v 8)) (.cons (.bin .add (.bin .mul (.v 7) (.v 13)) (.bin .mul (.v 8) (.v 12))) (.cons (.v 2) (.cons (.v 3) .nil)))))))) (.cons (.if_ (.cmp .isn (.v 14) (.k .non)) (.cons (.ex (.mt .append (.v 10) (.cons (.call 2 (.cons (.bin .add (.v 12) (.bin .mul (.bin .mul (.k (.int 2)) (.v 6)) (.v 14))) (.cons (.v 13) .nil))) .nil))) .nil) .nil) .nil))))) (.cons (.ret (.call 4 (.cons (.v 10) .nil))) .nil)))))
/-- box_time: table, shot, box, left, right, low, high, first, second, found, goal -/
def b30 : M.Ss := (.cons (.set (.tup [3, 4, 5, 6]) (.v 2)) (.cons (.if_ (.and (.chain .le .le (.v 3) (.ix (.v 1) (.k (.int 0))) (.v 4)) (.cons (.chain .le .le (.v 5) (.ix (.v 1) (.k (.int 1))) (.v 6)) .nil)) (.cons (.ret (.tup (.cons (.k (.int 0)) (.cons (.k (.int 1)) .nil)))) .nil) .nil) (.cons (.set (.tup [7, 8]) (.tup (.cons (.call 28 (.cons (.v 0) (.cons (.v 1) (.cons (.k (.int 0)) .nil)))) (.cons (.call 28 (.cons (.v 0) (.cons (.v 1) (.cons (.k (.int 1)) .nil)))) .nil)))) (.cons (.set (.v 9) (.comp (.call 29 (.cons (.v 7) (.cons (.v 10) (.cons (.v 5) (.cons (.v 6) .nil))))) (.v 10) (.seq (.tup (.cons (.v 3) (.cons (.v 4) .nil)))) .none)) (.cons (.ret (.call 4 (.cons (.lst (.star (.v 9) (.star (.comp (.call 29 (.cons (.v 8) (.cons (.v 10) (.cons (.v 3) (.cons (.v 4) .nil))))) (.v 10) (.seq (.tup (.cons (.v 5) (.cons (.v 6) .nil)))) .none) .nil))) .nil))) .nil)))))
/-- Ball.__init__: self, table, shot -/
def b31 : M.Ss := (.cons (.ex (.call 15 (.cons (.v 1) (.cons (.v 2) .nil)))) (.cons (.fset [115, 105, 100, 101, 115] (.v 0) (.v 1)) (.cons (.fset [116, 111, 108, 100] (.v 0) (.v 2)) .nil)))
/-- Ball.__call__: self, time -/
def b32 : M.Ss := (.cons (.ex (.call 16 (.cons (.v 1) .nil))) (.cons (.ret (.call 19 (.cons (.fld (.v 0) [115, 105, 100, 101, 115]) (.cons (.fld (.v 0) [116, 111, 108, 100]) (.cons (.v 1) .nil))))) .nil))
/-- Ball.__neg__: self -/
def b33 : M.Ss := (.cons (.ret (.new 0 (.cons (.fld (.v 0) [115, 105, 100, 101, 115]) (.cons (.call 20 (.cons (.fld (.v 0) [116, 111, 108, 100]) .nil)) .nil)))) .nil)
/-- Ball.__and__: self, other -/
def b34 : M.Ss := (.cons (.if_ (.not (.isc (.v 1) 0)) (.cons (.raise 3 .nil) .nil) .nil) (.cons (.if_ (.cmp .ne (.fld (.v 0) [115, 105, 100, 101, 115]) (.fld (.v 1) [115, 105, 100, 101, 115])) (.cons (.raise 4 .nil) .nil) .nil) (.cons (.ret (.call 24 (.cons (.fld (.v 0) [115, 105, 100, 101, 115]) (.cons (.fld (.v 0) [116, 111, 108, 100]) (.cons (.fld (.v 1) [116, 111, 108, 100]) .nil))))) .nil)))
/-- Ball.__eq__: self, other -/
def b35 : M.Ss := (.cons (.ret (.and (.isc (.v 1) 0) (.cons (.cmp .eq (.fld (.v 0) [115, 105, 100, 101, 115]) (.fld (.v 1) [115, 105, 100, 101, 115])) (.cons (.cmp .eq (.fld (.v 0) [116, 111, 108, 100]) (.fld (.v 1) [116, 111, 108, 100])) .nil)))) .nil)
/-- Ball.__contains__: self, value -/
def b36 : M.Ss := (.cons (.if_ (.not (.call 25 (.cons (.fld (.v 0) [115, 105, 100, 101, 115]) (.cons (.v 1) .nil)))) (.cons (.ret (.k (.bl false))) .nil) .nil) (.cons (.ret (.cmp .isn (.call 30 (.cons (.fld (.v 0) [115, 105, 100, 101, 115]) (.cons (.fld (.v 0) [116, 111, 108, 100]) (.cons (.tup (.cons (.ix (.v 1) (.k (.int 0))) (.cons (.ix (.v 1) (.k (.int 0))) (.cons (.ix (.v 1) (.k (.int 1))) (.cons (.ix (.v 1) (.k (.int 1))) .nil))))) .nil)))) (.k .non))) .nil))
/-- Ball.table: self -/
def b37 : M.Ss := (.cons (.ret (.fld (.v 0) [115, 105, 100, 101, 115])) .nil)
/-- Ball.shot: self -/
def b38 : M.Ss := (.cons (.ret (.fld (.v 0) [116, 111, 108, 100])) .nil)
/-- _law_well: script, at, cell -/
def b39 : M.Ss := (.cons (.set (.v 2) (.ite (.cmp .lt (.v 1) (.bi .len (.cons (.v 0) .nil))) (.ix (.v 0) (.v 1)) (.k (.int 0)))) (.cons (.ret (.lst (.cons (.bi .max (.cons (.k (.int 0)) (.cons (.bin .sub (.bi .abs (.cons (.v 2) .nil)) (.bin .pow (.k (.int 10)) (.k (.int 18)))) .nil))) (.cons (.bin .add (.bin .add (.bin .mul (.bin .mod (.bi .int (.cons (.v 2) .nil)) (.bin .add (.bin .pow (.k (.int 10)) (.k (.int 37))) (.k (.int 151)))) (.k (.int 103))) (.bin .mul (.k (.int 71)) (.v 1))) (.k (.int 43))) (.cons (.k (.int 0)) .nil))))) .nil))
/-- _law_draw: well, most, blend, digit -/
def b40 : M.Ss := (.cons (.if_ (.cmp .gt (.ix (.v 0) (.k (.int 0))) (.k (.int 0))) (.cons (.set (.v 3) (.bin .mod (.bi .int (.cons (.ix (.v 0) (.k (.int 0))) .nil)) (.v 1))) (.cons (.six (.v 0) (.k (.int 0)) (.bin .fdiv (.ix (.v 0) (.k (.int 0))) (.v 1))) (.cons (.ret (.v 3)) .nil))) .nil) (.cons (.six (.v 0) (.k (.int 2)) (.bin .add (.ix (.v 0) (.k (.int 2))) (.k (.int 1)))) (.cons (.set (.v 2) (.bin .mod (.bin .pow (.bi .int (.cons (.bin .add (.ix (.v 0) (.k (.int 1))) (.bin .mul (.k (.int 961748941)) (.ix (.v 0) (.k (.int 2))))) .nil)) (.k (.int 3))) (.bin .add (.bin .pow (.k (.int 10)) (.k (.int 41))) (.k (.int 109))))) (.cons (.set (.v 2) (.bin .mod (.bin .pow (.bi .int (.cons (.bin .add (.v 2) (.bin .mul (.k (.int 217645199)) (.ix (.v 0) (.k (.int 2))))) .nil)) (.k (.int 3))) (.bin .add (.bin .pow (.k (.int 10)) (.k (.int 39))) (.k (.int 3))))) (.cons (.ret (.bin .mod (.bi .int (.cons (.bin .fdiv (.v 2) (.k (.int 1048576))) .nil)) (.v 1))) .nil)))))
/-- _law_desk: well, most, wide, tall -/
def b41 : M.Ss := (.cons (.set (.v 2) (.bin .add (.k (.int 1)) (.call 40 (.cons (.v 0) (.cons (.v 1) .nil))))) (.cons (.set (.v 3) (.ix (.lst (.cons (.bin .add (.k (.int 1)) (.call 40 (.cons (.v 0) (.cons (.v 1) .nil)))) (.cons (.v 2) (.cons (.bin .mul (.v 2) (.k (.int 2))) (.cons (.bin .add (.k (.int 1)) (.call 40 (.cons (.v 0) (.cons (.k (.int 4)) .nil)))) .nil))))) (.call 40 (.cons (.v 0) (.cons (.k (.int 4)) .nil))))) (.cons (.ret (.tup (.cons (.v 2) (.cons (.v 3) .nil)))) .nil)))
/-- _law_roll: well, desk, most, x, y, p, q -/
def b42 : M.Ss := (.cons (.set (.v 3) (.ix (.lst (.cons (.k (.int 0)) (.cons (.ix (.v 1) (.k (.int 0))) (.cons (.call 40 (.cons (.v 0) (.cons (.bin .add (.ix (.v 1) (.k (.int 0))) (.k (.int 1))) .nil))) .nil)))) (.bi .min (.cons (.k (.int 2)) (.cons (.call 40 (.cons (.v 0) (.cons (.k (.int 5)) .nil))) .nil))))) (.cons (.set (.v 4) (.ix (.lst (.cons (.k (.int 0)) (.cons (.ix (.v 1) (.k (.int 1))) (.cons (.call 40 (.cons (.v 0) (.cons (.bin .add (.ix (.v 1) (.k (.int 1))) (.k (.int 1))) .nil))) .nil)))) (.bi .min (.cons (.k (.int 2)) (.cons (.call 40 (.cons (.v 0) (.cons (.k (.int 5)) .nil))) .nil))))) (.cons (.par 5 6 (.bin .sub (.call 40 (.cons (.v 0) (.cons (.bin .add (.bin .mul (.k (.int 2)) (.v 2)) (.k (.int 1))) .nil))) (.v 2)) (.bin .sub (.call 40 (.cons (.v 0) (.cons (.bin .add (.bin .mul (.k (.int 2)) (.v 2)) (.k (.int 1))) .nil))) (.v 2))) (.cons (.if_ (.cmp .eq (.call 40 (.cons (.v 0) (.cons (.k (.int 8)) .nil))) (.k (.int 0))) (.cons (.set (.v 5) (.k (.int 0))) .nil) (.cons (.if_ (.cmp .eq (.call 40 (.cons (.v 0) (.cons (.k (.int 8)) .nil))) (.k (.int 0))) (.cons (.set (.v 6) (.k (.int 0))) .nil) .nil) .nil)) (.cons (.ret (.ite (.cmp .ne (.tup (.cons (.v 5) (.cons (.v 6) .nil))) (.tup (.cons (.k (.int 0)) (.cons (.k (.int 0)) .nil)))) (.tup (.cons (.v 3) (.cons (.v 4) (.cons (.v 5) (.cons (.v 6) .nil))))) (.tup (.cons (.v 3) (.cons (.v 4) (.cons (.k (.int 1)) (.cons (.k (.int 1)) .nil))))))) .nil)))))
/-- _law_told: way, a, x, y, caught, marks -/
def b43 : M.Ss := (.cons (.try_ (.cons (.if_ (.cmp .eq (.v 0) (.k (.int 0))) (.cons (.ex (.new 0 (.cons (.v 2) (.cons (.v 3) .nil)))) .nil) .nil) (.cons (.if_ (.cmp .eq (.v 0) (.k (.int 1))) (.cons (.ex (.newk 0 .nil (.cons (.v 3) (.cons (.v 2) .nil)) [0, 2, 1])) .nil) .nil) (.cons (.if_ (.cmp .eq (.v 0) (.k (.int 2))) (.cons (.ex (.ocl (.v 1) (.cons (.v 2) .nil))) .nil) .nil) (.cons (.if_ (.cmp .eq (.v 0) (.k (.int 3))) (.cons (.ex (.oclk (.v 1) (.cons (.v 2) .nil) [0, 1])) .nil) .nil) (.cons (.if_ (.cmp .eq (.v 0) (.k (.int 4))) (.cons (.ret (.ite (.cmp .eq (.oand (.v 1) (.v 2)) (.k (.int 0))) (.lst (.cons (.k (.str [110, 111, 110, 101])) .nil)) (.k (.str [110, 111, 110, 101])))) .nil) .nil) (.cons (.ret (.k (.str [110, 111, 110, 101]))) .nil)))))) 5 4 (.cons (.set (.v 5) (.lst (.cons (.isx (.v 4) [0]) (.cons (.isx (.v 4) [1]) .nil)))) (.cons (.set (.v 5) (.bin .add (.v 5) (.lst (.cons (.isx (.v 4) [2]) (.cons (.isx (.v 4) [3]) .nil))))) (.cons (.ex (.mt .append (.v 5) (.cons (.isx (.v 4) [4]) .nil))) (.cons (.if_ (.or (.not (.isx (.v 4) [6])) (.cons (.cmp .ne (.mt .count (.v 5) (.cons (.k (.bl true)) .nil)) (.k (.int 1))) .nil)) (.cons (.ret (.k (.str [111, 116, 104, 101, 114]))) .nil) .nil) (.cons (.ret (.ix (.lst (.cons (.k (.str [116, 97, 98, 108, 101])) (.cons (.k (.str [115, 104, 111, 116])) (.cons (.k (.str [116, 105, 109, 101])) (.cons (.k (.str [98, 97, 108, 108])) (.cons (.k (.str [117, 110, 108, 105, 107, 101])) .nil)))))) (.mt .index (.v 5) (.cons (.k (.bl true)) .nil)))) .nil)))))) .nil)
/-- _law_case: well, way, a, desk, shot_here, mate, some, x, due, y -/
def b44 : M.Ss := (.cons (.if_ (.cmp .lt (.v 1) (.k (.int 2))) (.cons (.par3 7 9 8 (.v 3) (.v 4) (.k (.str [110, 111, 110, 101]))) (.cons (.if_ (.cmp .eq (.call 40 (.cons (.v 0) (.cons (.k (.int 2)) .nil))) (.k (.int 0))) (.cons (.set (.v 6) (.lst (.cons (.k .non) (.cons (.tup .nil) (.cons (.bi .list (.cons (.v 4) .nil)) (.cons (.sl (.v 4) .none (.some (.k (.int 3)))) (.cons (.tup (.cons (.bin .add (.ix (.v 3) (.k (.int 0))) (.k (.int 1))) (.cons (.k (.int 0)) (.cons (.k (.int 1)) (.cons (.k (.int 1)) .nil))))) .nil))))))) (.cons (.set (.v 6) (.bin .add (.v 6) (.lst (.cons (.tup (.cons (.k (.int 0)) (.cons (.bin .add (.ix (.v 3) (.k (.int 1))) (.k (.int 1))) (.cons (.k (.int 1)) (.cons (.k (.int 1)) .nil))))) (.cons (.tup (.cons (.k (.int 0)) (.cons (.k (.int 0)) (.cons (.k (.int 0)) (.cons (.k (.int 0)) .nil))))) (.cons (.tup (.cons (.neg (.k (.int 1))) (.cons (.k (.int 0)) (.cons (.k (.int 1)) (.cons (.k (.int 1)) .nil))))) (.cons (.k (.str [48, 32, 48, 32, 49, 32, 49])) (.cons (.k (.int 5)) (.cons .dic (.cons (.tup (.cons (.k (.int 0)) (.cons (.k (.bl true)) (.cons (.k (.int 1)) (.cons (.k (.int 1)) .nil))))) .nil)))))))))) (.cons (.par 9 8 (.ix (.v 6) (.call 40 (.cons (.v 0) (.cons (.k (.int 12)) .nil)))) (.k (.str [115, 104, 111, 116]))) .nil))) .nil) (.cons (.if_ (.cmp .eq (.call 40 (.cons (.v 0) (.cons (.k (.int 3)) .nil))) (.k (.int 0))) (.cons (.set (.v 6) (.lst (.cons (.k .non) (.cons (.tup .nil) (.cons (.bi .list (.cons (.v 3) .nil)) (.cons (.tup (.cons (.k (.int 0)) (.cons (.k (.int 1)) .nil))) (.cons (.tup (.cons (.k (.int 1)) (.cons (.neg (.k (.int 1))) .nil))) (.cons (.tup (.cons (.k (.int 1)) .nil)) (.cons (.tup (.cons (.k (.int 1)) (.cons (.k (.int 1)) (.cons (.k (.int 1)) .nil)))) (.cons (.k (.str [52, 120, 50])) (.cons (.k (.int 5)) (.cons .dic (.cons (.tup (.cons (.k (.bl true)) (.cons (.k (.int 1)) .nil))) .nil))))))))))))) (.cons (.par 7 8 (.ix (.v 6) (.call 40 (.cons (.v 0) (.cons (.k (.int 11)) .nil)))) (.k (.str [116, 97, 98, 108, 101]))) .nil)) .nil) (.cons (.ret (.tup (.cons (.v 7) (.cons (.v 9) (.cons (.v 8) .nil))))) .nil)))) .nil) (.cons (.if_ (.cmp .lt (.v 1) (.k (.int 4))) (.cons (.set (.v 6) (.lst (.cons (.k .non) (.cons (.k (.int 1)) (.cons (.tup (.cons (.k (.int 1)) (.cons (.k (.int 0)) .nil))) (.cons (.tup (.cons (.k (.int 2)) (.cons (.k (.int 4)) .nil))) (.cons (.tup (.cons (.k (.int 1)) (.cons (.neg (.k (.int 1))) .nil))) (.cons (.lst (.cons (.k (.int 1)) (.cons (.k (.int 1)) .nil))) (.cons (.tup (.cons (.k (.int 1)) .nil)) (.cons (.tup (.cons (.k (.int 1)) (.cons (.k (.bl true)) .nil))) (.cons (.k (.str [49])) (.cons .dic .nil)))))))))))) (.cons (.if_ (.cmp .eq (.call 40 (.cons (.v 0) (.cons (.k (.int 2)) .nil))) (.k (.int 0))) (.cons (.ret (.tup (.cons (.ix (.v 6) (.call 40 (.cons (.v 0) (.cons (.k (.int 10)) .nil)))) (.cons (.k .non) (.cons (.k (.str [116, 105, 109, 101])) .nil))))) .nil) .nil) (.cons (.ret (.tup (.cons (.tup (.cons (.bin .sub (.bin .mul (.k (.int 2)) (.call 40 (.cons (.v 0) (.cons (.k (.int 9)) .nil)))) (.k (.int 9))) (.cons (.k (.int 2)) .nil))) (.cons (.k .non) (.cons (.k (.str [110, 111, 110, 101])) .nil))))) .nil))) .nil) (.cons (.set (.v 5) (.new 0 (.cons (.tup (.cons (.bin .add (.ix (.v 3) (.k (.int 0))) (.k (.int 1))) (.cons (.ix (.v 3) (.k (.int 1))) .nil))) (.cons (.v 4) .nil)))) (.cons (.set (.v 6) (.lst (.cons (.tup (.cons (.k .non) (.cons (.k (.str [98, 97, 108, 108])) .nil))) (.cons (.tup (.cons (.v 4) (.cons (.k (.str [98, 97, 108, 108])) .nil))) (.cons (.tup (.cons (.k (.int 5)) (.cons (.k (.str [98, 97, 108, 108])) .nil))) (.cons (.tup (.cons (.tup (.cons (.k (.int 0)) (.cons (.k (.int 1)) .nil))) (.cons (.k (.str [98, 97, 108, 108])) .nil))) (.cons (.tup (.cons (.k (.str [97])) (.cons (.k (.str [98, 97, 108, 108])) .nil))) .nil))))))) (.cons (.set (.v 6) (.bin .add (.v 6) (.lst (.cons (.tup (.cons (.new 0 (.cons (.tup (.cons (.ix (.v 3) (.k (.int 0))) (.cons (.bin .add (.ix (.v 3) (.k (.int 1))) (.k (.int 1))) .nil))) (.cons (.v 4) .nil))) (.cons (.k (.str [117, 110, 108, 105, 107, 101])) .nil))) (.cons (.tup (.cons (.v 5) (.cons (.k (.str [117, 110, 108, 105, 107, 101])) .nil))) .nil))))) (.cons (.set (.v 6) (.bin .add (.v 6) (.lst (.cons (.tup (.cons (.new 0 (.cons (.bin .add (.rev (.v 3)) (.tup .nil)) (.cons (.tup (.cons (.k (.int 0)) (.cons (.k (.int 0)) (.cons (.k (.int 1)) (.cons (.k (.int 1)) .nil))))) .nil))) (.cons (.k (.str [116, 117, 114, 110, 101, 100])) .nil))) (.cons (.tup (.cons (.v 2) (.cons (.k (.str [110, 111, 110, 101])) .nil))) .nil))))) (.cons (.set (.tup [7, 8]) (.ix (.v 6) (.call 40 (.cons (.v 0) (.cons (.k (.int 9)) .nil))))) (.cons (.if_ (.cmp .eq (.v 8) (.k (.str [116, 117, 114, 110, 101, 100]))) (.cons (.set (.v 8) (.ite (.cmp .eq (.ix (.v 3) (.k (.int 0))) (.ix (.v 3) (.k (.int 1)))) (.k (.str [110, 111, 110, 101])) (.k (.str [117, 110, 108, 105, 107, 101])))) .nil) .nil) (.cons (.ret (.tup (.cons (.v 7) (.cons (.k .non) (.cons (.v 8) .nil))))) .nil)))))))))
/-- law: script, at, well, desk, shot_here, a, way, x, y, due -/
def b45 : M.Ss := (.cons (.for_ (.v 1) (.rng (.bi .max (.cons (.k (.int 20)) (.cons (.bi .min (.cons (.k (.int 40)) (.cons (.bi .len (.cons (.v 0) .nil)) .nil))) .nil)))) (.cons (.set (.v 2) (.call 39 (.cons (.v 0) (.cons (.v 1) .nil)))) (.cons (.set (.v 3) (.call 41 (.cons (.v 2) (.cons (.k (.int 9)) .nil)))) (.cons (.set (.v 4) (.call 42 (.cons (.v 2) (.cons (.v 3) (.cons (.k (.int 4)) .nil))))) (.cons (.set (.v 5) (.new 0 (.cons (.v 3) (.cons (.v 4) .nil)))) (.cons (.set (.v 6) (.bin .mod (.bi .int (.cons (.v 1) .nil)) (.k (.int 5)))) (.cons (.set (.tup [7, 8, 9]) (.call 44 (.cons (.v 2) (.cons (.v 6) (.cons (.v 5) (.cons (.v 3) (.cons (.v 4) .nil))))))) (.cons (.if_ (.or (.cmp .ne (.call 43 (.cons (.v 6) (.cons (.v 5) (.cons (.v 7) (.cons (.v 8) .nil))))) (.v 9)) (.cons (.cmp .ne (.prp (.v 5) [116, 97, 98, 108, 101]) (.v 3)) (.cons (.cmp .ne (.prp (.v 5) [115, 104, 111, 116]) (.v 4)) .nil))) (.cons (.ret (.k (.bl false))) .nil) .nil) .nil)))))))) (.cons (.ret (.k (.bl true))) .nil))
/-- ALWAYS -/
def c0 : M.D := (.tup [(.tup [(.int (0)), (.int (1))]), .non])
def ncls : Nat := 5
def ancs : List (List Nat) := [[0, 5, 6], [1, 5, 6], [2, 5, 6], [3, 5, 6], [4, 5, 6], [5, 6]]
def sub (i j : Nat) : Bool := (ancs.getD i []).contains j
def mtb : List ((Nat × M.Tx) × Nat) := [((0, [95, 95, 105, 110, 105, 116, 95, 95]), 31), ((0, [95, 95, 99, 97, 108, 108, 95, 95]), 32), ((0, [95, 95, 110, 101, 103, 95, 95]), 33), ((0, [95, 95, 97, 110, 100, 95, 95]), 34), ((0, [95, 95, 101, 113, 95, 95]), 35), ((0, [95, 95, 99, 111, 110, 116, 97, 105, 110, 115, 95, 95]), 36), ((0, [116, 97, 98, 108, 101]), 37), ((0, [115, 104, 111, 116]), 38)]
def mt (k : Nat) (m : M.Tx) : Option Nat := mtb.lookup (k, m)
def os (i j : Nat) : Bool := i == j
def nob : Nat := 1
def con : Nat → M.D
  | 0 => c0
  | _ => .non
end K35.A
namespace K35.P
open M
def sp (ob : Nat → Option Nat) : Nat → M.Sp
  | 0 => spInt | 1 => spGcd | 2 => spFrac | 3 => spLess | 4 => spLeo | 5 => spInv | 6 => spLeast | 10 => spTab | 11 => spFree | 12 => spOn | 13 => spPart | 14 => spCkT | 15 => spCkS | 16 => spCkP | 17 => spFold | 18 => spFreeP | 19 => spPlaceOf | 20 => spTurnOf | 21 => spAxis | 22 => spBoth | 23 => spRows | 24 => spMeet | 31 => spInit ob | 32 => spOC ob | 34 => spAnd ob | 37 => spGt ob | 38 => spGs ob | 39 => spWell | 40 => spDraw | 41 => spDesk | 42 => spRoll | 43 => spTold ob | 44 => spCase ob | 45 => spLaw
  | _ => fun _ _ _ _ => False
def con := A.con
theorem body0 (G : M.Gm) (hG : G.fn = M.upto 0 (sp G.ob)) (hc : G.con = con) (hx : M.GX A.ncls A.sub G) (ho : M.GO A.nob A.mt A.os G) : ∀ ds S0 Q X, (sp G.ob) 0 ds S0 Q X → ds.length = 3 ∧ M.wpSs G A.b0 (M.start 3 ds) S0 ⟨fun _ S' => Q .non S', Q, fun _ _ => False, fun k fs _ S' => X k fs S'⟩ := fun ds S0 Q X h => txt_int (b := A.b0) rfl  h
theorem body1 (G : M.Gm) (hG : G.fn = M.upto 1 (sp G.ob)) (hc : G.con = con) (hx : M.GX A.ncls A.sub G) (ho : M.GO A.nob A.mt A.os G) : ∀ ds S0 Q X, (sp G.ob) 1 ds S0 Q X → ds.length = 2 ∧ M.wpSs G A.b1 (M.start 5 ds) S0 ⟨fun _ S' => Q .non S', Q, fun _ _ => False, fun k fs _ S' => X k fs S'⟩ := fun ds S0 Q X h => txt_gcd (b := A.b1) rfl  h
theorem body2 (G : M.Gm) (hG : G.fn = M.upto 2 (sp G.ob)) (hc : G.con = con) (hx : M.GX A.ncls A.sub G) (ho : M.GO A.nob A.mt A.os G) : ∀ ds S0 Q X, (sp G.ob) 2 ds S0 Q X → ds.length = 2 ∧ M.wpSs G A.b2 (M.start 3 ds) S0 ⟨fun _ S' => Q .non S', Q, fun _ _ => False, fun k fs _ S' => X k fs S'⟩ := fun ds S0 Q X h => txt_frac (b := A.b2) rfl ((upto_at hG (by decide)).trans (rfl : (sp G.ob) 1 = _)) h
theorem body3 (G : M.Gm) (hG : G.fn = M.upto 3 (sp G.ob)) (hc : G.con = con) (hx : M.GX A.ncls A.sub G) (ho : M.GO A.nob A.mt A.os G) : ∀ ds S0 Q X, (sp G.ob) 3 ds S0 Q X → ds.length = 2 ∧ M.wpSs G A.b3 (M.start 2 ds) S0 ⟨fun _ S' => Q .non S', Q, fun _ _ => False, fun k fs _ S' => X k fs S'⟩ := fun ds S0 Q X h => txt_less (b := A.b3) rfl  h
theorem body4 (G : M.Gm) (hG : G.fn = M.upto 4 (sp G.ob)) (hc : G.con = con) (hx : M.GX A.ncls A.sub G) (ho : M.GO A.nob A.mt A.os G) : ∀ ds S0 Q X, (sp G.ob) 4 ds S0 Q X → ds.length = 1 ∧ M.wpSs G A.b4 (M.start 3 ds) S0 ⟨fun _ S' => Q .non S', Q, fun _ _ => False, fun k fs _ S' => X k fs S'⟩ := fun ds S0 Q X h => txt_leo (b := A.b4) rfl ((upto_at hG (by decide)).trans (rfl : (sp G.ob) 3 = _)) h
theorem body5 (G : M.Gm) (hG : G.fn = M.upto 5 (sp G.ob)) (hc : G.con = con) (hx : M.GX A.ncls A.sub G) (ho : M.GO A.nob A.mt A.os G) : ∀ ds S0 Q X, (sp G.ob) 5 ds S0 Q X → ds.length = 2 ∧ M.wpSs G A.b5 (M.start 8 ds) S0 ⟨fun _ S' => Q .non S', Q, fun _ _ => False, fun k fs _ S' => X k fs S'⟩ := fun ds S0 Q X h => txt_inv (b := A.b5) rfl  h
theorem body6 (G : M.Gm) (hG : G.fn = M.upto 6 (sp G.ob)) (hc : G.con = con) (hx : M.GX A.ncls A.sub G) (ho : M.GO A.nob A.mt A.os G) : ∀ ds S0 Q X, (sp G.ob) 6 ds S0 Q X → ds.length = 3 ∧ M.wpSs G A.b6 (M.start 5 ds) S0 ⟨fun _ S' => Q .non S', Q, fun _ _ => False, fun k fs _ S' => X k fs S'⟩ := fun ds S0 Q X h => txt_least (b := A.b6) rfl ((upto_at hG (by decide)).trans (rfl : (sp G.ob) 1 = _)) ((upto_at hG (by decide)).trans (rfl : (sp G.ob) 5 = _)) h
theorem body7 (G : M.Gm) (hG : G.fn = M.upto 7 (sp G.ob)) (hc : G.con = con) (hx : M.GX A.ncls A.sub G) (ho : M.GO A.nob A.mt A.os G) : ∀ ds S0 Q X, (sp G.ob) 7 ds S0 Q X → ds.length = 4 ∧ M.wpSs G A.b7 (M.start 7 ds) S0 ⟨fun _ S' => Q .non S', Q, fun _ _ => False, fun k fs _ S' => X k fs S'⟩ := fun ds S0 Q X h => no_body (b := A.b7) rfl  h
theorem body8 (G : M.Gm) (hG : G.fn = M.upto 8 (sp G.ob)) (hc : G.con = con) (hx : M.GX A.ncls A.sub G) (ho : M.GO A.nob A.mt A.os G) : ∀ ds S0 Q X, (sp G.ob) 8 ds S0 Q X → ds.length = 6 ∧ M.wpSs G A.b8 (M.start 7 ds) S0 ⟨fun _ S' => Q .non S', Q, fun _ _ => False, fun k fs _ S' => X k fs S'⟩ := fun ds S0 Q X h => no_body (b := A.b8) rfl  h
theorem body9 (G : M.Gm) (hG : G.fn = M.upto 9 (sp G.ob)) (hc : G.con = con) (hx : M.GX A.ncls A.sub G) (ho : M.GO A.nob A.mt A.os G) : ∀ ds S0 Q X, (sp G.ob) 9 ds S0 Q X → ds.length = 5 ∧ M.wpSs G A.b9 (M.start 9 ds) S0 ⟨fun _ S' => Q .non S', Q, fun _ _ => False, fun k fs _ S' => X k fs S'⟩ := fun ds S0 Q X h => no_body (b := A.b9) rfl  h
theorem body10 (G : M.Gm) (hG : G.fn = M.upto 10 (sp G.ob)) (hc : G.con = con) (hx : M.GX A.ncls A.sub G) (ho : M.GO A.nob A.mt A.os G) : ∀ ds S0 Q X, (sp G.ob) 10 ds S0 Q X → ds.length = 1 ∧ M.wpSs G A.b10 (M.start 2 ds) S0 ⟨fun _ S' => Q .non S', Q, fun _ _ => False, fun k fs _ S' => X k fs S'⟩ := fun ds S0 Q X h => txt_tab (b := A.b10) rfl ((upto_at hG (by decide)).trans (rfl : (sp G.ob) 0 = _)) h
theorem body11 (G : M.Gm) (hG : G.fn = M.upto 11 (sp G.ob)) (hc : G.con = con) (hx : M.GX A.ncls A.sub G) (ho : M.GO A.nob A.mt A.os G) : ∀ ds S0 Q X, (sp G.ob) 11 ds S0 Q X → ds.length = 1 ∧ M.wpSs G A.b11 (M.start 2 ds) S0 ⟨fun _ S' => Q .non S', Q, fun _ _ => False, fun k fs _ S' => X k fs S'⟩ := fun ds S0 Q X h => txt_free (b := A.b11) rfl ((upto_at hG (by decide)).trans (rfl : (sp G.ob) 0 = _)) h
theorem body12 (G : M.Gm) (hG : G.fn = M.upto 12 (sp G.ob)) (hc : G.con = con) (hx : M.GX A.ncls A.sub G) (ho : M.GO A.nob A.mt A.os G) : ∀ ds S0 Q X, (sp G.ob) 12 ds S0 Q X → ds.length = 2 ∧ M.wpSs G A.b12 (M.start 2 ds) S0 ⟨fun _ S' => Q .non S', Q, fun _ _ => False, fun k fs _ S' => X k fs S'⟩ := fun ds S0 Q X h => txt_on (b := A.b12) rfl ((upto_at hG (by decide)).trans (rfl : (sp G.ob) 11 = _)) h
theorem body13 (G : M.Gm) (hG : G.fn = M.upto 13 (sp G.ob)) (hc : G.con = con) (hx : M.GX A.ncls A.sub G) (ho : M.GO A.nob A.mt A.os G) : ∀ ds S0 Q X, (sp G.ob) 13 ds S0 Q X → ds.length = 1 ∧ M.wpSs G A.b13 (M.start 1 ds) S0 ⟨fun _ S' => Q .non S', Q, fun _ _ => False, fun k fs _ S' => X k fs S'⟩ := fun ds S0 Q X h => txt_part (b := A.b13) rfl ((upto_at hG (by decide)).trans (rfl : (sp G.ob) 0 = _)) ((upto_at hG (by decide)).trans (rfl : (sp G.ob) 1 = _)) h
theorem body14 (G : M.Gm) (hG : G.fn = M.upto 14 (sp G.ob)) (hc : G.con = con) (hx : M.GX A.ncls A.sub G) (ho : M.GO A.nob A.mt A.os G) : ∀ ds S0 Q X, (sp G.ob) 14 ds S0 Q X → ds.length = 1 ∧ M.wpSs G A.b14 (M.start 1 ds) S0 ⟨fun _ S' => Q .non S', Q, fun _ _ => False, fun k fs _ S' => X k fs S'⟩ := fun ds S0 Q X h => txt_ckT (b := A.b14) rfl ((upto_at hG (by decide)).trans (rfl : (sp G.ob) 10 = _)) h
theorem body15 (G : M.Gm) (hG : G.fn = M.upto 15 (sp G.ob)) (hc : G.con = con) (hx : M.GX A.ncls A.sub G) (ho : M.GO A.nob A.mt A.os G) : ∀ ds S0 Q X, (sp G.ob) 15 ds S0 Q X → ds.length = 2 ∧ M.wpSs G A.b15 (M.start 2 ds) S0 ⟨fun _ S' => Q .non S', Q, fun _ _ => False, fun k fs _ S' => X k fs S'⟩ := fun ds S0 Q X h => txt_ckS (b := A.b15) rfl ((upto_at hG (by decide)).trans (rfl : (sp G.ob) 14 = _)) ((upto_at hG (by decide)).trans (rfl : (sp G.ob) 12 = _)) h
theorem body16 (G : M.Gm) (hG : G.fn = M.upto 16 (sp G.ob)) (hc : G.con = con) (hx : M.GX A.ncls A.sub G) (ho : M.GO A.nob A.mt A.os G) : ∀ ds S0 Q X, (sp G.ob) 16 ds S0 Q X → ds.length = 1 ∧ M.wpSs G A.b16 (M.start 1 ds) S0 ⟨fun _ S' => Q .non S', Q, fun _ _ => False, fun k fs _ S' => X k fs S'⟩ := fun ds S0 Q X h => txt_ckP (b := A.b16) rfl ((upto_at hG (by decide)).trans (rfl : (sp G.ob) 13 = _)) h
theorem body17 (G : M.Gm) (hG : G.fn = M.upto 17 (sp G.ob)) (hc : G.con = con) (hx : M.GX A.ncls A.sub G) (ho : M.GO A.nob A.mt A.os G) : ∀ ds S0 Q X, (sp G.ob) 17 ds S0 Q X → ds.length = 2 ∧ M.wpSs G A.b17 (M.start 5 ds) S0 ⟨fun _ S' => Q .non S', Q, fun _ _ => False, fun k fs _ S' => X k fs S'⟩ := fun ds S0 Q X h => txt_fold (b := A.b17) rfl ((upto_at hG (by decide)).trans (rfl : (sp G.ob) 2 = _)) h
theorem body18 (G : M.Gm) (hG : G.fn = M.upto 18 (sp G.ob)) (hc : G.con = con) (hx : M.GX A.ncls A.sub G) (ho : M.GO A.nob A.mt A.os G) : ∀ ds S0 Q X, (sp G.ob) 18 ds S0 Q X → ds.length = 2 ∧ M.wpSs G A.b18 (M.start 4 ds) S0 ⟨fun _ S' => Q .non S', Q, fun _ _ => False, fun k fs _ S' => X k fs S'⟩ := fun ds S0 Q X h => txt_freep (b := A.b18) rfl  h
theorem body19 (G : M.Gm) (hG : G.fn = M.upto 19 (sp G.ob)) (hc : G.con = con) (hx : M.GX A.ncls A.sub G) (ho : M.GO A.nob A.mt A.os G) : ∀ ds S0 Q X, (sp G.ob) 19 ds S0 Q X → ds.length = 3 ∧ M.wpSs G A.b19 (M.start 5 ds) S0 ⟨fun _ S' => Q .non S', Q, fun _ _ => False, fun k fs _ S' => X k fs S'⟩ := fun ds S0 Q X h => txt_placeof (b := A.b19) rfl ((upto_at hG (by decide)).trans (rfl : (sp G.ob) 18 = _)) ((upto_at hG (by decide)).trans (rfl : (sp G.ob) 17 = _)) h
theorem body20 (G : M.Gm) (hG : G.fn = M.upto 20 (sp G.ob)) (hc : G.con = con) (hx : M.GX A.ncls A.sub G) (ho : M.GO A.nob A.mt A.os G) : ∀ ds S0 Q X, (sp G.ob) 20 ds S0 Q X → ds.length = 1 ∧ M.wpSs G A.b20 (M.start 1 ds) S0 ⟨fun _ S' => Q .non S', Q, fun _ _ => False, fun k fs _ S' => X k fs S'⟩ := fun ds S0 Q X h => txt_turnof (b := A.b20) rfl  h
theorem body21 (G : M.Gm) (hG : G.fn = M.upto 21 (sp G.ob)) (hc : G.con = con) (hx : M.GX A.ncls A.sub G) (ho : M.GO A.nob A.mt A.os G) : ∀ ds S0 Q X, (sp G.ob) 21 ds S0 Q X → ds.length = 6 ∧ M.wpSs G A.b21 (M.start 8 ds) S0 ⟨fun _ S' => Q .non S', Q, fun _ _ => False, fun k fs _ S' => X k fs S'⟩ := fun ds S0 Q X h => txt_axis (b := A.b21) rfl ((upto_at hG (by decide)).trans (rfl : (sp G.ob) 2 = _)) ((congrFun hc 0).trans (rfl : con 0 = _)) h
theorem body22 (G : M.Gm) (hG : G.fn = M.upto 22 (sp G.ob)) (hc : G.con = con) (hx : M.GX A.ncls A.sub G) (ho : M.GO A.nob A.mt A.os G) : ∀ ds S0 Q X, (sp G.ob) 22 ds S0 Q X → ds.length = 2 ∧ M.wpSs G A.b22 (M.start 10 ds) S0 ⟨fun _ S' => Q .non S', Q, fun _ _ => False, fun k fs _ S' => X k fs S'⟩ := fun ds S0 Q X h => txt_both (b := A.b22) rfl ((upto_at hG (by decide)).trans (rfl : (sp G.ob) 1 = _)) ((upto_at hG (by decide)).trans (rfl : (sp G.ob) 2 = _)) ((upto_at hG (by decide)).trans (rfl : (sp G.ob) 6 = _)) h
theorem body23 (G : M.Gm) (hG : G.fn = M.upto 23 (sp G.ob)) (hc : G.con = con) (hx : M.GX A.ncls A.sub G) (ho : M.GO A.nob A.mt A.os G) : ∀ ds S0 Q X, (sp G.ob) 23 ds S0 Q X → ds.length = 3 ∧ M.wpSs G A.b23 (M.start 9 ds) S0 ⟨fun _ S' => Q .non S', Q, fun _ _ => False, fun k fs _ S' => X k fs S'⟩ := fun ds S0 Q X h => txt_rows (b := A.b23) rfl ((upto_at hG (by decide)).trans (rfl : (sp G.ob) 21 = _)) ((upto_at hG (by decide)).trans (rfl : (sp G.ob) 22 = _)) h
theorem body24 (G : M.Gm) (hG : G.fn = M.upto 24 (sp G.ob)) (hc : G.con = con) (hx : M.GX A.ncls A.sub G) (ho : M.GO A.nob A.mt A.os G) : ∀ ds S0 Q X, (sp G.ob) 24 ds S0 Q X → ds.length = 3 ∧ M.wpSs G A.b24 (M.start 4 ds) S0 ⟨fun _ S' => Q .non S', Q, fun _ _ => False, fun k fs _ S' => X k fs S'⟩ := fun ds S0 Q X h => txt_meet (b := A.b24) rfl ((upto_at hG (by decide)).trans (rfl : (sp G.ob) 23 = _)) ((upto_at hG (by decide)).trans (rfl : (sp G.ob) 4 = _)) h
theorem body25 (G : M.Gm) (hG : G.fn = M.upto 25 (sp G.ob)) (hc : G.con = con) (hx : M.GX A.ncls A.sub G) (ho : M.GO A.nob A.mt A.os G) : ∀ ds S0 Q X, (sp G.ob) 25 ds S0 Q X → ds.length = 2 ∧ M.wpSs G A.b25 (M.start 2 ds) S0 ⟨fun _ S' => Q .non S', Q, fun _ _ => False, fun k fs _ S' => X k fs S'⟩ := fun ds S0 Q X h => no_body (b := A.b25) rfl  h
theorem body26 (G : M.Gm) (hG : G.fn = M.upto 26 (sp G.ob)) (hc : G.con = con) (hx : M.GX A.ncls A.sub G) (ho : M.GO A.nob A.mt A.os G) : ∀ ds S0 Q X, (sp G.ob) 26 ds S0 Q X → ds.length = 4 ∧ M.wpSs G A.b26 (M.start 7 ds) S0 ⟨fun _ S' => Q .non S', Q, fun _ _ => False, fun k fs _ S' => X k fs S'⟩ := fun ds S0 Q X h => no_body (b := A.b26) rfl  h
theorem body27 (G : M.Gm) (hG : G.fn = M.upto 27 (sp G.ob)) (hc : G.con = con) (hx : M.GX A.ncls A.sub G) (ho : M.GO A.nob A.mt A.os G) : ∀ ds S0 Q X, (sp G.ob) 27 ds S0 Q X → ds.length = 6 ∧ M.wpSs G A.b27 (M.start 11 ds) S0 ⟨fun _ S' => Q .non S', Q, fun _ _ => False, fun k fs _ S' => X k fs S'⟩ := fun ds S0 Q X h => no_body (b := A.b27) rfl  h
theorem body28 (G : M.Gm) (hG : G.fn = M.upto 28 (sp G.ob)) (hc : G.con = con) (hx : M.GX A.ncls A.sub G) (ho : M.GO A.nob A.mt A.os G) : ∀ ds S0 Q X, (sp G.ob) 28 ds S0 Q X → ds.length = 3 ∧ M.wpSs G A.b28 (M.start 4 ds) S0 ⟨fun _ S' => Q .non S', Q, fun _ _ => False, fun k fs _ S' => X k fs S'⟩ := fun ds S0 Q X h => no_body (b := A.b28) rfl  h
theorem body29 (G : M.Gm) (hG : G.fn = M.upto 29 (sp G.ob)) (hc : G.con = con) (hx : M.GX A.ncls A.sub G) (ho : M.GO A.nob A.mt A.os G) : ∀ ds S0 Q X, (sp G.ob) 29 ds S0 Q X → ds.length = 4 ∧ M.wpSs G A.b29 (M.start 15 ds) S0 ⟨fun _ S' => Q .non S', Q, fun _ _ => False, fun k fs _ S' => X k fs S'⟩ := fun ds S0 Q X h => no_body (b := A.b29) rfl  h
theorem body30 (G : M.Gm) (hG : G.fn = M.upto 30 (sp G.ob)) (hc : G.con = con) (hx : M.GX A.ncls A.sub G) (ho : M.GO A.nob A.mt A.os G) : ∀ ds S0 Q X, (sp G.ob) 30 ds S0 Q X → ds.length = 3 ∧ M.wpSs G A.b30 (M.start 11 ds) S0 ⟨fun _ S' => Q .non S', Q, fun _ _ => False, fun k fs _ S' => X k fs S'⟩ := fun ds S0 Q X h => no_body (b := A.b30) rfl  h
theorem body31 (G : M.Gm) (hG : G.fn = M.upto 31 (sp G.ob)) (hc : G.con = con) (hx : M.GX A.ncls A.sub G) (ho : M.GO A.nob A.mt A.os G) : ∀ ds S0 Q X, (sp G.ob) 31 ds S0 Q X → ds.length = 3 ∧ M.wpSs G A.b31 (M.start 3 ds) S0 ⟨fun _ S' => Q .non S', Q, fun _ _ => False, fun k fs _ S' => X k fs S'⟩ := fun ds S0 Q X h => txt_init (b := A.b31) rfl ((upto_at hG (by decide)).trans (rfl : (sp G.ob) 15 = _)) h
theorem body32 (G : M.Gm) (hG : G.fn = M.upto 32 (sp G.ob)) (hc : G.con = con) (hx : M.GX A.ncls A.sub G) (ho : M.GO A.nob A.mt A.os G) : ∀ ds S0 Q X, (sp G.ob) 32 ds S0 Q X → ds.length = 2 ∧ M.wpSs G A.b32 (M.start 2 ds) S0 ⟨fun _ S' => Q .non S', Q, fun _ _ => False, fun k fs _ S' => X k fs S'⟩ := fun ds S0 Q X h => txt_oc (b := A.b32) rfl ((upto_at hG (by decide)).trans (rfl : (sp G.ob) 16 = _)) ((upto_at hG (by decide)).trans (rfl : (sp G.ob) 19 = _)) h
theorem body33 (G : M.Gm) (hG : G.fn = M.upto 33 (sp G.ob)) (hc : G.con = con) (hx : M.GX A.ncls A.sub G) (ho : M.GO A.nob A.mt A.os G) : ∀ ds S0 Q X, (sp G.ob) 33 ds S0 Q X → ds.length = 1 ∧ M.wpSs G A.b33 (M.start 1 ds) S0 ⟨fun _ S' => Q .non S', Q, fun _ _ => False, fun k fs _ S' => X k fs S'⟩ := fun ds S0 Q X h => no_body (b := A.b33) rfl  h
theorem body34 (G : M.Gm) (hG : G.fn = M.upto 34 (sp G.ob)) (hc : G.con = con) (hx : M.GX A.ncls A.sub G) (ho : M.GO A.nob A.mt A.os G) : ∀ ds S0 Q X, (sp G.ob) 34 ds S0 Q X → ds.length = 2 ∧ M.wpSs G A.b34 (M.start 2 ds) S0 ⟨fun _ S' => Q .non S', Q, fun _ _ => False, fun k fs _ S' => X k fs S'⟩ := fun ds S0 Q X h => txt_and (b := A.b34) rfl ho ((upto_at hG (by decide)).trans (rfl : (sp G.ob) 24 = _)) h
theorem body35 (G : M.Gm) (hG : G.fn = M.upto 35 (sp G.ob)) (hc : G.con = con) (hx : M.GX A.ncls A.sub G) (ho : M.GO A.nob A.mt A.os G) : ∀ ds S0 Q X, (sp G.ob) 35 ds S0 Q X → ds.length = 2 ∧ M.wpSs G A.b35 (M.start 2 ds) S0 ⟨fun _ S' => Q .non S', Q, fun _ _ => False, fun k fs _ S' => X k fs S'⟩ := fun ds S0 Q X h => no_body (b := A.b35) rfl  h
theorem body36 (G : M.Gm) (hG : G.fn = M.upto 36 (sp G.ob)) (hc : G.con = con) (hx : M.GX A.ncls A.sub G) (ho : M.GO A.nob A.mt A.os G) : ∀ ds S0 Q X, (sp G.ob) 36 ds S0 Q X → ds.length = 2 ∧ M.wpSs G A.b36 (M.start 2 ds) S0 ⟨fun _ S' => Q .non S', Q, fun _ _ => False, fun k fs _ S' => X k fs S'⟩ := fun ds S0 Q X h => no_body (b := A.b36) rfl  h
theorem body37 (G : M.Gm) (hG : G.fn = M.upto 37 (sp G.ob)) (hc : G.con = con) (hx : M.GX A.ncls A.sub G) (ho : M.GO A.nob A.mt A.os G) : ∀ ds S0 Q X, (sp G.ob) 37 ds S0 Q X → ds.length = 1 ∧ M.wpSs G A.b37 (M.start 1 ds) S0 ⟨fun _ S' => Q .non S', Q, fun _ _ => False, fun k fs _ S' => X k fs S'⟩ := fun ds S0 Q X h => txt_gtb (b := A.b37) rfl  h
theorem body38 (G : M.Gm) (hG : G.fn = M.upto 38 (sp G.ob)) (hc : G.con = con) (hx : M.GX A.ncls A.sub G) (ho : M.GO A.nob A.mt A.os G) : ∀ ds S0 Q X, (sp G.ob) 38 ds S0 Q X → ds.length = 1 ∧ M.wpSs G A.b38 (M.start 1 ds) S0 ⟨fun _ S' => Q .non S', Q, fun _ _ => False, fun k fs _ S' => X k fs S'⟩ := fun ds S0 Q X h => txt_gsb (b := A.b38) rfl  h
theorem body39 (G : M.Gm) (hG : G.fn = M.upto 39 (sp G.ob)) (hc : G.con = con) (hx : M.GX A.ncls A.sub G) (ho : M.GO A.nob A.mt A.os G) : ∀ ds S0 Q X, (sp G.ob) 39 ds S0 Q X → ds.length = 2 ∧ M.wpSs G A.b39 (M.start 3 ds) S0 ⟨fun _ S' => Q .non S', Q, fun _ _ => False, fun k fs _ S' => X k fs S'⟩ := fun ds S0 Q X h => txt_well (b := A.b39) rfl  h
theorem body40 (G : M.Gm) (hG : G.fn = M.upto 40 (sp G.ob)) (hc : G.con = con) (hx : M.GX A.ncls A.sub G) (ho : M.GO A.nob A.mt A.os G) : ∀ ds S0 Q X, (sp G.ob) 40 ds S0 Q X → ds.length = 2 ∧ M.wpSs G A.b40 (M.start 4 ds) S0 ⟨fun _ S' => Q .non S', Q, fun _ _ => False, fun k fs _ S' => X k fs S'⟩ := fun ds S0 Q X h => txt_draw (b := A.b40) rfl  h
theorem body41 (G : M.Gm) (hG : G.fn = M.upto 41 (sp G.ob)) (hc : G.con = con) (hx : M.GX A.ncls A.sub G) (ho : M.GO A.nob A.mt A.os G) : ∀ ds S0 Q X, (sp G.ob) 41 ds S0 Q X → ds.length = 2 ∧ M.wpSs G A.b41 (M.start 4 ds) S0 ⟨fun _ S' => Q .non S', Q, fun _ _ => False, fun k fs _ S' => X k fs S'⟩ := fun ds S0 Q X h => txt_desk (b := A.b41) rfl ((upto_at hG (by decide)).trans (rfl : (sp G.ob) 40 = _)) h
theorem body42 (G : M.Gm) (hG : G.fn = M.upto 42 (sp G.ob)) (hc : G.con = con) (hx : M.GX A.ncls A.sub G) (ho : M.GO A.nob A.mt A.os G) : ∀ ds S0 Q X, (sp G.ob) 42 ds S0 Q X → ds.length = 3 ∧ M.wpSs G A.b42 (M.start 7 ds) S0 ⟨fun _ S' => Q .non S', Q, fun _ _ => False, fun k fs _ S' => X k fs S'⟩ := fun ds S0 Q X h => txt_roll (b := A.b42) rfl ((upto_at hG (by decide)).trans (rfl : (sp G.ob) 40 = _)) h
theorem body43 (G : M.Gm) (hG : G.fn = M.upto 43 (sp G.ob)) (hc : G.con = con) (hx : M.GX A.ncls A.sub G) (ho : M.GO A.nob A.mt A.os G) : ∀ ds S0 Q X, (sp G.ob) 43 ds S0 Q X → ds.length = 4 ∧ M.wpSs G A.b43 (M.start 6 ds) S0 ⟨fun _ S' => Q .non S', Q, fun _ _ => False, fun k fs _ S' => X k fs S'⟩ := fun ds S0 Q X h => txt_told (b := A.b43) rfl hx ho ((upto_at hG (by decide)).trans (rfl : (sp G.ob) 31 = _)) ((upto_at hG (by decide)).trans (rfl : (sp G.ob) 32 = _)) ((upto_at hG (by decide)).trans (rfl : (sp G.ob) 34 = _)) h
theorem body44 (G : M.Gm) (hG : G.fn = M.upto 44 (sp G.ob)) (hc : G.con = con) (hx : M.GX A.ncls A.sub G) (ho : M.GO A.nob A.mt A.os G) : ∀ ds S0 Q X, (sp G.ob) 44 ds S0 Q X → ds.length = 5 ∧ M.wpSs G A.b44 (M.start 10 ds) S0 ⟨fun _ S' => Q .non S', Q, fun _ _ => False, fun k fs _ S' => X k fs S'⟩ := fun ds S0 Q X h => txt_case (b := A.b44) rfl ((upto_at hG (by decide)).trans (rfl : (sp G.ob) 40 = _)) ho ((upto_at hG (by decide)).trans (rfl : (sp G.ob) 31 = _)) h
theorem body45 (G : M.Gm) (hG : G.fn = M.upto 45 (sp G.ob)) (hc : G.con = con) (hx : M.GX A.ncls A.sub G) (ho : M.GO A.nob A.mt A.os G) : ∀ ds S0 Q X, (sp G.ob) 45 ds S0 Q X → ds.length = 1 ∧ M.wpSs G A.b45 (M.start 10 ds) S0 ⟨fun _ S' => Q .non S', Q, fun _ _ => False, fun k fs _ S' => X k fs S'⟩ := fun ds S0 Q X h => law_ok (b := A.b45) rfl ho ((upto_at hG (by decide)).trans (rfl : (sp G.ob) 39 = _)) ((upto_at hG (by decide)).trans (rfl : (sp G.ob) 41 = _)) ((upto_at hG (by decide)).trans (rfl : (sp G.ob) 42 = _)) ((upto_at hG (by decide)).trans (rfl : (sp G.ob) 31 = _)) ((upto_at hG (by decide)).trans (rfl : (sp G.ob) 44 = _)) ((upto_at hG (by decide)).trans (rfl : (sp G.ob) 43 = _)) ((upto_at hG (by decide)).trans (rfl : (sp G.ob) 37 = _)) ((upto_at hG (by decide)).trans (rfl : (sp G.ob) 38 = _)) h
end K35.P
namespace K35
open PySem PySem.Spec PyProof.Rows L2
abbrev pw : Program := PySem.Challenge.pw_cushionshots_k35_errors_of_balls
def top (i : Nat) : Stmt := pw.main.body.getD i (.Pass ⟨0, 0, 0, 0⟩)
def mth (i j : Nat) : Stmt := match top i with
  | .ClassDef _ _ _ b _ _ _ _ _ _ _ => b.getD j (.Pass ⟨0, 0, 0, 0⟩)
  | s => s
def T : Snd.Tb := { fns := ((["is_integer", "divisor", "fraction", "is_less", "least_of", "inverse", "least_solution", "whole_sum", "count_within", "first_within", "are_table", "is_free_shot", "is_shot_on", "are_fraction", "check_table", "check_shot", "check_time", "fold", "free_place", "place_of"] : List Str) ++ (["turned_of", "axis_times", "both_times", "rows_of", "meeting_of", "is_spot", "ranges", "first_pass", "axis_of", "pass_time", "box_time", "Ball.__init__", "Ball.__call__", "Ball.__neg__", "Ball.__and__", "Ball.__eq__", "Ball.__contains__", "Ball.table", "Ball.shot", "_law_well"] : List Str) ++ (["_law_draw", "_law_desk", "_law_roll", "_law_told", "_law_case", "law"] : List Str)), cons := ["ALWAYS"], cls := ["InvalidTable", "InvalidShot", "InvalidTime", "NotABall", "OtherTable", "ShotError"], bts := ["ValueError", "abs", "all", "bool", "int", "isinstance", "len", "list", "max", "min", "range", "tuple"], kws := [(31, 1, ["shot", "table"], [0, 2, 1]), (32, 1, ["time"], [0, 1])], nr := 5, hots := [], ocs := ["Ball"], fds := [[115, 105, 100, 101, 115], [116, 111, 108, 100]], prs := [[116, 97, 98, 108, 101], [115, 104, 111, 116]], ats := [(31, .mt "Ball" "__init__"), (32, .mt "Ball" "__call__"), (33, .mt "Ball" "__neg__"), (34, .mt "Ball" "__and__"), (35, .mt "Ball" "__eq__"), (36, .mt "Ball" "__contains__"), (37, .pr "Ball" "table"), (38, .pr "Ball" "shot")], mtb := A.mtb }
def n0 : List Str := ["value", "least", "most"]
theorem ck0 : Snd.chkSs { T with hot := T.hots.contains 0 } n0 A.b0 (defScope (top 8)) (defBody (top 8)) = true := by kernel_rfl
def n1 : List Str := ["one", "other", "here", "there", "rest"]
theorem ck1 : Snd.chkSs { T with hot := T.hots.contains 1 } n1 A.b1 (defScope (top 9)) (defBody (top 9)) = true := by kernel_rfl
def n2 : List Str := ["top", "bottom", "common"]
theorem ck2 : Snd.chkSs { T with hot := T.hots.contains 2 } n2 A.b2 (defScope (top 10)) (defBody (top 10)) = true := by kernel_rfl
def n3 : List Str := ["one", "other"]
theorem ck3 : Snd.chkSs { T with hot := T.hots.contains 3 } n3 A.b3 (defScope (top 11)) (defBody (top 11)) = true := by kernel_rfl
def n4 : List Str := ["times", "found", "time"]
theorem ck4 : Snd.chkSs { T with hot := T.hots.contains 4 } n4 A.b4 (defScope (top 12)) (defBody (top 12)) = true := by kernel_rfl
def n5 : List Str := ["number", "modulus", "here", "there", "back", "forth", "times", "rest"]
theorem ck5 : Snd.chkSs { T with hot := T.hots.contains 5 } n5 A.b5 (defScope (top 13)) (defBody (top 13)) = true := by kernel_rfl
def n6 : List Str := ["factor", "rest", "modulus", "common", "step"]
theorem ck6 : Snd.chkSs { T with hot := T.hots.contains 6 } n6 A.b6 (defScope (top 14)) (defBody (top 14)) = true := by kernel_rfl
def n7 : List Str := ["many", "modulus", "factor", "start", "found", "top", "rest"]
theorem ck7 : Snd.chkSs { T with hot := T.hots.contains 7 } n7 A.b7 (defScope (top 15)) (defBody (top 15)) = true := by kernel_rfl
def n8 : List Str := ["many", "modulus", "factor", "start", "low", "high", "upper"]
theorem ck8 : Snd.chkSs { T with hot := T.hots.contains 8 } n8 A.b8 (defScope (top 16)) (defBody (top 16)) = true := by kernel_rfl
def n9 : List Str := ["modulus", "factor", "start", "low", "high", "most", "bound", "least", "middle"]
theorem ck9 : Snd.chkSs { T with hot := T.hots.contains 9 } n9 A.b9 (defScope (top 17)) (defBody (top 17)) = true := by kernel_rfl
def n10 : List Str := ["value", "side"]
theorem ck10 : Snd.chkSs { T with hot := T.hots.contains 10 } n10 A.b10 (defScope (top 19)) (defBody (top 19)) = true := by kernel_rfl
def n11 : List Str := ["value", "one"]
theorem ck11 : Snd.chkSs { T with hot := T.hots.contains 11 } n11 A.b11 (defScope (top 20)) (defBody (top 20)) = true := by kernel_rfl
def n12 : List Str := ["table", "value"]
theorem ck12 : Snd.chkSs { T with hot := T.hots.contains 12 } n12 A.b12 (defScope (top 21)) (defBody (top 21)) = true := by kernel_rfl
def n13 : List Str := ["value"]
theorem ck13 : Snd.chkSs { T with hot := T.hots.contains 13 } n13 A.b13 (defScope (top 22)) (defBody (top 22)) = true := by kernel_rfl
def n14 : List Str := ["table"]
theorem ck14 : Snd.chkSs { T with hot := T.hots.contains 14 } n14 A.b14 (defScope (top 23)) (defBody (top 23)) = true := by kernel_rfl
def n15 : List Str := ["table", "shot"]
theorem ck15 : Snd.chkSs { T with hot := T.hots.contains 15 } n15 A.b15 (defScope (top 24)) (defBody (top 24)) = true := by kernel_rfl
def n16 : List Str := ["time"]
theorem ck16 : Snd.chkSs { T with hot := T.hots.contains 16 } n16 A.b16 (defScope (top 25)) (defBody (top 25)) = true := by kernel_rfl
def n17 : List Str := ["side", "number", "top", "bottom", "rest"]
theorem ck17 : Snd.chkSs { T with hot := T.hots.contains 17 } n17 A.b17 (defScope (top 26)) (defBody (top 26)) = true := by kernel_rfl
def n18 : List Str := ["shot", "time", "top", "bottom"]
theorem ck18 : Snd.chkSs { T with hot := T.hots.contains 18 } n18 A.b18 (defScope (top 27)) (defBody (top 27)) = true := by kernel_rfl
def n19 : List Str := ["table", "shot", "time", "first", "second"]
theorem ck19 : Snd.chkSs { T with hot := T.hots.contains 19 } n19 A.b19 (defScope (top 28)) (defBody (top 28)) = true := by kernel_rfl
def n20 : List Str := ["shot"]
theorem ck20 : Snd.chkSs { T with hot := T.hots.contains 20 } n20 A.b20 (defScope (top 29)) (defBody (top 29)) = true := by kernel_rfl
def n21 : List Str := ["side", "one", "way", "other", "other_way", "sign", "speed", "gap"]
theorem ck21 : Snd.chkSs { T with hot := T.hots.contains 21 } n21 A.b21 (defScope (top 32)) (defBody (top 32)) = true := by kernel_rfl
def n22 : List Str := ["one", "other", "bottom", "first", "step", "second", "mate", "found", "whole", "time"]
theorem ck22 : Snd.chkSs { T with hot := T.hots.contains 22 } n22 A.b22 (defScope (top 33)) (defBody (top 33)) = true := by kernel_rfl
def n23 : List Str := ["table", "shot", "other", "found", "sign", "first", "mate", "second", "row"]
theorem ck23 : Snd.chkSs { T with hot := T.hots.contains 23 } n23 A.b23 (defScope (top 34)) (defBody (top 34)) = true := by kernel_rfl
def n24 : List Str := ["table", "shot", "other", "row"]
theorem ck24 : Snd.chkSs { T with hot := T.hots.contains 24 } n24 A.b24 (defScope (top 35)) (defBody (top 35)) = true := by kernel_rfl
def n25 : List Str := ["table", "value"]
theorem ck25 : Snd.chkSs { T with hot := T.hots.contains 25 } n25 A.b25 (defScope (top 37)) (defBody (top 37)) = true := by kernel_rfl
def n26 : List Str := ["side", "speed", "low", "high", "first", "second", "one"]
theorem ck26 : Snd.chkSs { T with hot := T.hots.contains 26 } n26 A.b26 (defScope (top 38)) (defBody (top 38)) = true := by kernel_rfl
def n27 : List Str := ["side", "speed", "factor", "start", "low", "high", "found", "least", "most", "some", "number"]
theorem ck27 : Snd.chkSs { T with hot := T.hots.contains 27 } n27 A.b27 (defScope (top 39)) (defBody (top 39)) = true := by kernel_rfl
def n28 : List Str := ["table", "shot", "spot", "mate"]
theorem ck28 : Snd.chkSs { T with hot := T.hots.contains 28 } n28 A.b28 (defScope (top 40)) (defBody (top 40)) = true := by kernel_rfl
def n29 : List Str := ["axis", "goal", "low", "high", "start", "way", "side", "mate", "mate_way", "mate_side", "found", "image", "first", "speed", "number"]
theorem ck29 : Snd.chkSs { T with hot := T.hots.contains 29 } n29 A.b29 (defScope (top 41)) (defBody (top 41)) = true := by kernel_rfl
def n30 : List Str := ["table", "shot", "box", "left", "right", "low", "high", "first", "second", "found", "goal"]
theorem ck30 : Snd.chkSs { T with hot := T.hots.contains 30 } n30 A.b30 (defScope (top 42)) (defBody (top 42)) = true := by kernel_rfl
def n31 : List Str := ["self", "table", "shot"]
theorem ck31 : Snd.chkSs { T with hot := T.hots.contains 31 } n31 A.b31 (defScope (mth 44 0)) (defBody (mth 44 0)) = true := by kernel_rfl
def n32 : List Str := ["self", "time"]
theorem ck32 : Snd.chkSs { T with hot := T.hots.contains 32 } n32 A.b32 (defScope (mth 44 1)) (defBody (mth 44 1)) = true := by kernel_rfl
def n33 : List Str := ["self"]
theorem ck33 : Snd.chkSs { T with hot := T.hots.contains 33 } n33 A.b33 (defScope (mth 44 2)) (defBody (mth 44 2)) = true := by kernel_rfl
def n34 : List Str := ["self", "other"]
theorem ck34 : Snd.chkSs { T with hot := T.hots.contains 34 } n34 A.b34 (defScope (mth 44 3)) (defBody (mth 44 3)) = true := by kernel_rfl
def n35 : List Str := ["self", "other"]
theorem ck35 : Snd.chkSs { T with hot := T.hots.contains 35 } n35 A.b35 (defScope (mth 44 4)) (defBody (mth 44 4)) = true := by kernel_rfl
def n36 : List Str := ["self", "value"]
theorem ck36 : Snd.chkSs { T with hot := T.hots.contains 36 } n36 A.b36 (defScope (mth 44 5)) (defBody (mth 44 5)) = true := by kernel_rfl
def n37 : List Str := ["self"]
theorem ck37 : Snd.chkSs { T with hot := T.hots.contains 37 } n37 A.b37 (defScope (mth 44 6)) (defBody (mth 44 6)) = true := by kernel_rfl
def n38 : List Str := ["self"]
theorem ck38 : Snd.chkSs { T with hot := T.hots.contains 38 } n38 A.b38 (defScope (mth 44 7)) (defBody (mth 44 7)) = true := by kernel_rfl
def n39 : List Str := ["script", "at", "cell"]
theorem ck39 : Snd.chkSs { T with hot := T.hots.contains 39 } n39 A.b39 (defScope (top 46)) (defBody (top 46)) = true := by kernel_rfl
def n40 : List Str := ["well", "most", "blend", "digit"]
theorem ck40 : Snd.chkSs { T with hot := T.hots.contains 40 } n40 A.b40 (defScope (top 47)) (defBody (top 47)) = true := by kernel_rfl
def n41 : List Str := ["well", "most", "wide", "tall"]
theorem ck41 : Snd.chkSs { T with hot := T.hots.contains 41 } n41 A.b41 (defScope (top 48)) (defBody (top 48)) = true := by kernel_rfl
def n42 : List Str := ["well", "desk", "most", "x", "y", "p", "q"]
theorem ck42 : Snd.chkSs { T with hot := T.hots.contains 42 } n42 A.b42 (defScope (top 49)) (defBody (top 49)) = true := by kernel_rfl
def n43 : List Str := ["way", "a", "x", "y", "caught", "marks"]
theorem ck43 : Snd.chkSs { T with hot := T.hots.contains 43 } n43 A.b43 (defScope (top 50)) (defBody (top 50)) = true := by kernel_rfl
def n44 : List Str := ["well", "way", "a", "desk", "shot_here", "mate", "some", "x", "due", "y"]
theorem ck44 : Snd.chkSs { T with hot := T.hots.contains 44 } n44 A.b44 (defScope (top 51)) (defBody (top 51)) = true := by kernel_rfl
def n45 : List Str := ["script", "at", "well", "desk", "shot_here", "a", "way", "x", "y", "due"]
theorem ck45 : Snd.chkSs { T with hot := T.hots.contains 45 } n45 A.b45 (defScope (top 52)) (defBody (top 52)) = true := by kernel_rfl
def dd (x : Str) (i : Nat) : He.DefD := ⟨(x, none), x, x, defArgs (top i), defBody (top i), defScope (top i), [], []⟩
def fnl : List He.DefD := [dd "is_integer" 8, dd "divisor" 9, dd "fraction" 10, dd "is_less" 11, dd "least_of" 12, dd "inverse" 13, dd "least_solution" 14, dd "whole_sum" 15, dd "count_within" 16, dd "first_within" 17, dd "are_table" 19, dd "is_free_shot" 20, dd "is_shot_on" 21, dd "are_fraction" 22, dd "check_table" 23, dd "check_shot" 24, dd "check_time" 25, dd "fold" 26, dd "free_place" 27, dd "place_of" 28, dd "turned_of" 29, dd "axis_times" 32, dd "both_times" 33, dd "rows_of" 34, dd "meeting_of" 35, dd "is_spot" 37, dd "ranges" 38, dd "first_pass" 39, dd "axis_of" 40, dd "pass_time" 41, dd "box_time" 42, dd "_law_well" 46, dd "_law_draw" 47, dd "_law_desk" 48, dd "_law_roll" 49, dd "_law_told" 50, dd "_law_case" 51, dd "law" 52]
def fol : List Snd.DefO := [(⟨.mt "Ball" "__init__", "__init__", "Ball.__init__", defArgs (mth 44 0), defBody (mth 44 0), defScope (mth 44 0)⟩ : Snd.DefO), (⟨.mt "Ball" "__call__", "__call__", "Ball.__call__", defArgs (mth 44 1), defBody (mth 44 1), defScope (mth 44 1)⟩ : Snd.DefO), (⟨.mt "Ball" "__neg__", "__neg__", "Ball.__neg__", defArgs (mth 44 2), defBody (mth 44 2), defScope (mth 44 2)⟩ : Snd.DefO), (⟨.mt "Ball" "__and__", "__and__", "Ball.__and__", defArgs (mth 44 3), defBody (mth 44 3), defScope (mth 44 3)⟩ : Snd.DefO), (⟨.mt "Ball" "__eq__", "__eq__", "Ball.__eq__", defArgs (mth 44 4), defBody (mth 44 4), defScope (mth 44 4)⟩ : Snd.DefO), (⟨.mt "Ball" "__contains__", "__contains__", "Ball.__contains__", defArgs (mth 44 5), defBody (mth 44 5), defScope (mth 44 5)⟩ : Snd.DefO), (⟨.pr "Ball" "table", "table", "Ball.table", defArgs (mth 44 6), defBody (mth 44 6), defScope (mth 44 6)⟩ : Snd.DefO), (⟨.pr "Ball" "shot", "shot", "Ball.shot", defArgs (mth 44 7), defBody (mth 44 7), defScope (mth 44 7)⟩ : Snd.DefO)]
def fal : List He.Fa := [.glo "is_integer", .glo "divisor", .glo "fraction", .glo "is_less", .glo "least_of", .glo "inverse", .glo "least_solution", .glo "whole_sum", .glo "count_within", .glo "first_within", .glo "are_table", .glo "is_free_shot", .glo "is_shot_on", .glo "are_fraction", .glo "check_table", .glo "check_shot", .glo "check_time", .glo "fold", .glo "free_place", .glo "place_of", .glo "turned_of", .glo "axis_times", .glo "both_times", .glo "rows_of", .glo "meeting_of", .glo "is_spot", .glo "ranges", .glo "first_pass", .glo "axis_of", .glo "pass_time", .glo "box_time", .glo "_law_well", .glo "_law_draw", .glo "_law_desk", .glo "_law_roll", .glo "_law_told", .glo "_law_case", .glo "law", .free "ValueError", .free "abs", .free "all", .free "bool", .free "int", .free "isinstance", .free "len", .free "list", .free "max", .free "min", .free "range", .free "tuple"]
def loose0 : List Str := ["ShotError", "InvalidTable", "InvalidShot", "InvalidTime", "NotABall", "OtherTable", "is_integer", "divisor", "fraction", "is_less", "least_of", "inverse", "least_solution", "whole_sum", "count_within", "first_within", "are_table", "is_free_shot", "is_shot_on", "are_fraction"]
def loose1 : List Str := ["check_table", "check_shot", "check_time", "fold", "free_place", "place_of", "turned_of", "ALWAYS", "axis_times", "both_times", "rows_of", "meeting_of", "is_spot", "ranges", "first_pass", "axis_of", "pass_time", "box_time", "Ball", "_law_well"]
def loose2 : List Str := ["_law_draw", "_law_desk", "_law_roll", "_law_told", "_law_case"]
def loose : List Str := loose0 ++ loose1 ++ loose2
abbrev rowL : PySem.W.OpenRow := PySem.W.OpenLaw.row PySem.Challenge.rw_cushionshots_k35_errors_of_balls
def cl : List (Str × M.D) := [("ALWAYS", A.c0)]
abbrev hk : PySem.W.Hook := Snd.hookO cl T A.sub A.os fal fnl fol
def ob (s : PySem.W.SharedT) : He.AlD := Snd.obsO cl T A.sub A.os fal fnl fol (He.frG (HandSHeadRun.getT s) (Snd.asO T.ocs (HandSHeadRun.getT s)))
theorem ob_eq (s : PySem.W.SharedT) : ob s = hk.obs s.abs := Snd.obsO_eq (HandSHeadRun.getT_eq s)
theorem run (w : World) : HandSHeadRun.RunEq rowL (PySem.W.view rowL.prog [52]) hk ob 12000 loose w := by
  intro os
  kernel_rfl
theorem sc0 : FnScope n0 ["value", "least", "most"] (defScope (top 8)) := ⟨rfl, rfl, rfl, by decide +kernel, rfl, by decide +kernel, by decide +kernel⟩
theorem sc1 : FnScope n1 ["one", "other"] (defScope (top 9)) := ⟨rfl, rfl, rfl, by decide +kernel, rfl, by decide +kernel, by decide +kernel⟩
theorem sc2 : FnScope n2 ["top", "bottom"] (defScope (top 10)) := ⟨rfl, rfl, rfl, by decide +kernel, rfl, by decide +kernel, by decide +kernel⟩
theorem sc3 : FnScope n3 ["one", "other"] (defScope (top 11)) := ⟨rfl, rfl, rfl, by decide +kernel, rfl, by decide +kernel, by decide +kernel⟩
theorem sc4 : FnScope n4 ["times"] (defScope (top 12)) := ⟨rfl, rfl, rfl, by decide +kernel, rfl, by decide +kernel, by decide +kernel⟩
theorem sc5 : FnScope n5 ["number", "modulus"] (defScope (top 13)) := ⟨rfl, rfl, rfl, by decide +kernel, rfl, by decide +kernel, by decide +kernel⟩
theorem sc6 : FnScope n6 ["factor", "rest", "modulus"] (defScope (top 14)) := ⟨rfl, rfl, rfl, by decide +kernel, rfl, by decide +kernel, by decide +kernel⟩
theorem sc7 : FnScope n7 ["many", "modulus", "factor", "start"] (defScope (top 15)) := ⟨rfl, rfl, rfl, by decide +kernel, rfl, by decide +kernel, by decide +kernel⟩
theorem sc8 : FnScope n8 ["many", "modulus", "factor", "start", "low", "high"] (defScope (top 16)) := ⟨rfl, rfl, rfl, by decide +kernel, rfl, by decide +kernel, by decide +kernel⟩
theorem sc9 : FnScope n9 ["modulus", "factor", "start", "low", "high"] (defScope (top 17)) := ⟨rfl, rfl, rfl, by decide +kernel, rfl, by decide +kernel, by decide +kernel⟩
theorem sc10 : FnScope n10 ["value"] (defScope (top 19)) := ⟨rfl, rfl, rfl, by decide +kernel, rfl, by decide +kernel, by decide +kernel⟩
theorem sc11 : FnScope n11 ["value"] (defScope (top 20)) := ⟨rfl, rfl, rfl, by decide +kernel, rfl, by decide +kernel, by decide +kernel⟩
theorem sc12 : FnScope n12 ["table", "value"] (defScope (top 21)) := ⟨rfl, rfl, rfl, by decide +kernel, rfl, by decide +kernel, by decide +kernel⟩
theorem sc13 : FnScope n13 ["value"] (defScope (top 22)) := ⟨rfl, rfl, rfl, by decide +kernel, rfl, by decide +kernel, by decide +kernel⟩
theorem sc14 : FnScope n14 ["table"] (defScope (top 23)) := ⟨rfl, rfl, rfl, by decide +kernel, rfl, by decide +kernel, by decide +kernel⟩
theorem sc15 : FnScope n15 ["table", "shot"] (defScope (top 24)) := ⟨rfl, rfl, rfl, by decide +kernel, rfl, by decide +kernel, by decide +kernel⟩
theorem sc16 : FnScope n16 ["time"] (defScope (top 25)) := ⟨rfl, rfl, rfl, by decide +kernel, rfl, by decide +kernel, by decide +kernel⟩
theorem sc17 : FnScope n17 ["side", "number"] (defScope (top 26)) := ⟨rfl, rfl, rfl, by decide +kernel, rfl, by decide +kernel, by decide +kernel⟩
theorem sc18 : FnScope n18 ["shot", "time"] (defScope (top 27)) := ⟨rfl, rfl, rfl, by decide +kernel, rfl, by decide +kernel, by decide +kernel⟩
theorem sc19 : FnScope n19 ["table", "shot", "time"] (defScope (top 28)) := ⟨rfl, rfl, rfl, by decide +kernel, rfl, by decide +kernel, by decide +kernel⟩
theorem sc20 : FnScope n20 ["shot"] (defScope (top 29)) := ⟨rfl, rfl, rfl, by decide +kernel, rfl, by decide +kernel, by decide +kernel⟩
theorem sc21 : FnScope n21 ["side", "one", "way", "other", "other_way", "sign"] (defScope (top 32)) := ⟨rfl, rfl, rfl, by decide +kernel, rfl, by decide +kernel, by decide +kernel⟩
theorem sc22 : FnScope n22 ["one", "other"] (defScope (top 33)) := ⟨rfl, rfl, rfl, by decide +kernel, rfl, by decide +kernel, by decide +kernel⟩
theorem sc23 : FnScope n23 ["table", "shot", "other"] (defScope (top 34)) := ⟨rfl, rfl, rfl, by decide +kernel, rfl, by decide +kernel, by decide +kernel⟩
theorem sc24 : FnScope n24 ["table", "shot", "other"] (defScope (top 35)) := ⟨rfl, rfl, rfl, by decide +kernel, rfl, by decide +kernel, by decide +kernel⟩
theorem sc25 : FnScope n25 ["table", "value"] (defScope (top 37)) := ⟨rfl, rfl, rfl, by decide +kernel, rfl, by decide +kernel, by decide +kernel⟩
theorem sc26 : FnScope n26 ["side", "speed", "low", "high"] (defScope (top 38)) := ⟨rfl, rfl, rfl, by decide +kernel, rfl, by decide +kernel, by decide +kernel⟩
theorem sc27 : FnScope n27 ["side", "speed", "factor", "start", "low", "high"] (defScope (top 39)) := ⟨rfl, rfl, rfl, by decide +kernel, rfl, by decide +kernel, by decide +kernel⟩
theorem sc28 : FnScope n28 ["table", "shot", "spot"] (defScope (top 40)) := ⟨rfl, rfl, rfl, by decide +kernel, rfl, by decide +kernel, by decide +kernel⟩
theorem sc29 : FnScope n29 ["axis", "goal", "low", "high"] (defScope (top 41)) := ⟨rfl, rfl, rfl, by decide +kernel, rfl, by decide +kernel, by decide +kernel⟩
theorem sc30 : FnScope n30 ["table", "shot", "box"] (defScope (top 42)) := ⟨rfl, rfl, rfl, by decide +kernel, rfl, by decide +kernel, by decide +kernel⟩
theorem sc31 : FnScope n31 ["self", "table", "shot"] (defScope (mth 44 0)) := ⟨rfl, rfl, rfl, by decide +kernel, rfl, by decide +kernel, by decide +kernel⟩
theorem sc32 : FnScope n32 ["self", "time"] (defScope (mth 44 1)) := ⟨rfl, rfl, rfl, by decide +kernel, rfl, by decide +kernel, by decide +kernel⟩
theorem sc33 : FnScope n33 ["self"] (defScope (mth 44 2)) := ⟨rfl, rfl, rfl, by decide +kernel, rfl, by decide +kernel, by decide +kernel⟩
theorem sc34 : FnScope n34 ["self", "other"] (defScope (mth 44 3)) := ⟨rfl, rfl, rfl, by decide +kernel, rfl, by decide +kernel, by decide +kernel⟩
theorem sc35 : FnScope n35 ["self", "other"] (defScope (mth 44 4)) := ⟨rfl, rfl, rfl, by decide +kernel, rfl, by decide +kernel, by decide +kernel⟩
theorem sc36 : FnScope n36 ["self", "value"] (defScope (mth 44 5)) := ⟨rfl, rfl, rfl, by decide +kernel, rfl, by decide +kernel, by decide +kernel⟩
theorem sc37 : FnScope n37 ["self"] (defScope (mth 44 6)) := ⟨rfl, rfl, rfl, by decide +kernel, rfl, by decide +kernel, by decide +kernel⟩
theorem sc38 : FnScope n38 ["self"] (defScope (mth 44 7)) := ⟨rfl, rfl, rfl, by decide +kernel, rfl, by decide +kernel, by decide +kernel⟩
theorem sc39 : FnScope n39 ["script", "at"] (defScope (top 46)) := ⟨rfl, rfl, rfl, by decide +kernel, rfl, by decide +kernel, by decide +kernel⟩
theorem sc40 : FnScope n40 ["well", "most"] (defScope (top 47)) := ⟨rfl, rfl, rfl, by decide +kernel, rfl, by decide +kernel, by decide +kernel⟩
theorem sc41 : FnScope n41 ["well", "most"] (defScope (top 48)) := ⟨rfl, rfl, rfl, by decide +kernel, rfl, by decide +kernel, by decide +kernel⟩
theorem sc42 : FnScope n42 ["well", "desk", "most"] (defScope (top 49)) := ⟨rfl, rfl, rfl, by decide +kernel, rfl, by decide +kernel, by decide +kernel⟩
theorem sc43 : FnScope n43 ["way", "a", "x", "y"] (defScope (top 50)) := ⟨rfl, rfl, rfl, by decide +kernel, rfl, by decide +kernel, by decide +kernel⟩
theorem sc44 : FnScope n44 ["well", "way", "a", "desk", "shot_here"] (defScope (top 51)) := ⟨rfl, rfl, rfl, by decide +kernel, rfl, by decide +kernel, by decide +kernel⟩
theorem sc45 : FnScope n45 ["script"] (defScope (top 52)) := ⟨rfl, rfl, rfl, by decide +kernel, rfl, by decide +kernel, by decide +kernel⟩
section
variable {Pg : Program} {w : World} {K : PySem.W.Frag} {mg : Str → Option Value} {base : Heap}
abbrev Fn (K : PySem.W.Frag) (x : Str) (i : Nat) (fd : FuncData) : Prop := FunD K x x (defArgs (top i)) (defBody (top i)) (defScope (top i)) [] [] (He.ga K x) fd
theorem kw0 {fd : FuncData} (F : FunD K "__init__" "Ball.__init__" (defArgs (mth 44 0)) (defBody (mth 44 0)) (defScope (mth 44 0)) [] [] (Snd.plA K (.mt "Ball" "__init__")) fd) : Snd.KB K fd ["self", "table", "shot"] 1 ["shot", "table"] [0, 2, 1] := Snd.kb_of F fun _ _ _ _ _ _ us ws h1 h2 => match us, ws, h1, h2 with | [_], [_, _], _, _ => rfl
theorem kw1 {fd : FuncData} (F : FunD K "__call__" "Ball.__call__" (defArgs (mth 44 1)) (defBody (mth 44 1)) (defScope (mth 44 1)) [] [] (Snd.plA K (.mt "Ball" "__call__")) fd) : Snd.KB K fd ["self", "time"] 1 ["time"] [0, 1] := Snd.kb_of F fun _ _ _ _ _ _ us ws h1 h2 => match us, ws, h1, h2 with | [_], [_], _, _ => rfl
theorem df0 {fd : FuncData} (F : Fn K "is_integer" 8 fd) (g : mg "is_integer" = some (.ref (He.ga K "is_integer"))) : Snd.Def K mg T 0 "is_integer" (He.ga K "is_integer") fd ["value", "least", "most"] := ⟨fun _ => g, fun q h => (by have z : T.ats.lookup 0 = none := rfl; rw [z] at h; cases h), F.kp, F.bindsN fun _ _ _ _ _ _ us hl => match us, hl with | [_, _, _], _ => rfl, fun m ks perm h => by
    have h : (0, m, ks, perm) ∈ T.kws := h
    unfold T at h
    simp only [List.mem_cons, Prod.mk.injEq, List.not_mem_nil, or_false] at h
    rcases h with ⟨h0, h1, h2, h3⟩ | ⟨h0, h1, h2, h3⟩
    · exact absurd h0 (by decide)
    · exact absurd h0 (by decide)⟩
theorem df1 {fd : FuncData} (F : Fn K "divisor" 9 fd) (g : mg "divisor" = some (.ref (He.ga K "divisor"))) : Snd.Def K mg T 1 "divisor" (He.ga K "divisor") fd ["one", "other"] := ⟨fun _ => g, fun q h => (by have z : T.ats.lookup 1 = none := rfl; rw [z] at h; cases h), F.kp, F.bindsN fun _ _ _ _ _ _ us hl => match us, hl with | [_, _], _ => rfl, fun m ks perm h => by
    have h : (1, m, ks, perm) ∈ T.kws := h
    unfold T at h
    simp only [List.mem_cons, Prod.mk.injEq, List.not_mem_nil, or_false] at h
    rcases h with ⟨h0, h1, h2, h3⟩ | ⟨h0, h1, h2, h3⟩
    · exact absurd h0 (by decide)
    · exact absurd h0 (by decide)⟩
theorem df2 {fd : FuncData} (F : Fn K "fraction" 10 fd) (g : mg "fraction" = some (.ref (He.ga K "fraction"))) : Snd.Def K mg T 2 "fraction" (He.ga K "fraction") fd ["top", "bottom"] := ⟨fun _ => g, fun q h => (by have z : T.ats.lookup 2 = none := rfl; rw [z] at h; cases h), F.kp, F.bindsN fun _ _ _ _ _ _ us hl => match us, hl with | [_, _], _ => rfl, fun m ks perm h => by
    have h : (2, m, ks, perm) ∈ T.kws := h
    unfold T at h
    simp only [List.mem_cons, Prod.mk.injEq, List.not_mem_nil, or_false] at h
    rcases h with ⟨h0, h1, h2, h3⟩ | ⟨h0, h1, h2, h3⟩
    · exact absurd h0 (by decide)
    · exact absurd h0 (by decide)⟩
theorem df3 {fd : FuncData} (F : Fn K "is_less" 11 fd) (g : mg "is_less" = some (.ref (He.ga K "is_less"))) : Snd.Def K mg T 3 "is_less" (He.ga K "is_less") fd ["one", "other"] := ⟨fun _ => g, fun q h => (by have z : T.ats.lookup 3 = none := rfl; rw [z] at h; cases h), F.kp, F.bindsN fun _ _ _ _ _ _ us hl => match us, hl with | [_, _], _ => rfl, fun m ks perm h => by
    have h : (3, m, ks, perm) ∈ T.kws := h
    unfold T at h
    simp only [List.mem_cons, Prod.mk.injEq, List.not_mem_nil, or_false] at h
    rcases h with ⟨h0, h1, h2, h3⟩ | ⟨h0, h1, h2, h3⟩
    · exact absurd h0 (by decide)
    · exact absurd h0 (by decide)⟩
theorem df4 {fd : FuncData} (F : Fn K "least_of" 12 fd) (g : mg "least_of" = some (.ref (He.ga K "least_of"))) : Snd.Def K mg T 4 "least_of" (He.ga K "least_of") fd ["times"] := ⟨fun _ => g, fun q h => (by have z : T.ats.lookup 4 = none := rfl; rw [z] at h; cases h), F.kp, F.bindsN fun _ _ _ _ _ _ us hl => match us, hl with | [_], _ => rfl, fun m ks perm h => by
    have h : (4, m, ks, perm) ∈ T.kws := h
    unfold T at h
    simp only [List.mem_cons, Prod.mk.injEq, List.not_mem_nil, or_false] at h
    rcases h with ⟨h0, h1, h2, h3⟩ | ⟨h0, h1, h2, h3⟩
    · exact absurd h0 (by decide)
    · exact absurd h0 (by decide)⟩
theorem df5 {fd : FuncData} (F : Fn K "inverse" 13 fd) (g : mg "inverse" = some (.ref (He.ga K "inverse"))) : Snd.Def K mg T 5 "inverse" (He.ga K "inverse") fd ["number", "modulus"] := ⟨fun _ => g, fun q h => (by have z : T.ats.lookup 5 = none := rfl; rw [z] at h; cases h), F.kp, F.bindsN fun _ _ _ _ _ _ us hl => match us, hl with | [_, _], _ => rfl, fun m ks perm h => by
    have h : (5, m, ks, perm) ∈ T.kws := h
    unfold T at h
    simp only [List.mem_cons, Prod.mk.injEq, List.not_mem_nil, or_false] at h
    rcases h with ⟨h0, h1, h2, h3⟩ | ⟨h0, h1, h2, h3⟩
    · exact absurd h0 (by decide)
    · exact absurd h0 (by decide)⟩
theorem df6 {fd : FuncData} (F : Fn K "least_solution" 14 fd) (g : mg "least_solution" = some (.ref (He.ga K "least_solution"))) : Snd.Def K mg T 6 "least_solution" (He.ga K "least_solution") fd ["factor", "rest", "modulus"] := ⟨fun _ => g, fun q h => (by have z : T.ats.lookup 6 = none := rfl; rw [z] at h; cases h), F.kp, F.bindsN fun _ _ _ _ _ _ us hl => match us, hl with | [_, _, _], _ => rfl, fun m ks perm h => by
    have h : (6, m, ks, perm) ∈ T.kws := h
    unfold T at h
    simp only [List.mem_cons, Prod.mk.injEq, List.not_mem_nil, or_false] at h
    rcases h with ⟨h0, h1, h2, h3⟩ | ⟨h0, h1, h2, h3⟩
    · exact absurd h0 (by decide)
    · exact absurd h0 (by decide)⟩
theorem df7 {fd : FuncData} (F : Fn K "whole_sum" 15 fd) (g : mg "whole_sum" = some (.ref (He.ga K "whole_sum"))) : Snd.Def K mg T 7 "whole_sum" (He.ga K "whole_sum") fd ["many", "modulus", "factor", "start"] := ⟨fun _ => g, fun q h => (by have z : T.ats.lookup 7 = none := rfl; rw [z] at h; cases h), F.kp, F.bindsN fun _ _ _ _ _ _ us hl => match us, hl with | [_, _, _, _], _ => rfl, fun m ks perm h => by
    have h : (7, m, ks, perm) ∈ T.kws := h
    unfold T at h
    simp only [List.mem_cons, Prod.mk.injEq, List.not_mem_nil, or_false] at h
    rcases h with ⟨h0, h1, h2, h3⟩ | ⟨h0, h1, h2, h3⟩
    · exact absurd h0 (by decide)
    · exact absurd h0 (by decide)⟩
theorem df8 {fd : FuncData} (F : Fn K "count_within" 16 fd) (g : mg "count_within" = some (.ref (He.ga K "count_within"))) : Snd.Def K mg T 8 "count_within" (He.ga K "count_within") fd ["many", "modulus", "factor", "start", "low", "high"] := ⟨fun _ => g, fun q h => (by have z : T.ats.lookup 8 = none := rfl; rw [z] at h; cases h), F.kp, F.bindsN fun _ _ _ _ _ _ us hl => match us, hl with | [_, _, _, _, _, _], _ => rfl, fun m ks perm h => by
    have h : (8, m, ks, perm) ∈ T.kws := h
    unfold T at h
    simp only [List.mem_cons, Prod.mk.injEq, List.not_mem_nil, or_false] at h
    rcases h with ⟨h0, h1, h2, h3⟩ | ⟨h0, h1, h2, h3⟩
    · exact absurd h0 (by decide)
    · exact absurd h0 (by decide)⟩
theorem df9 {fd : FuncData} (F : Fn K "first_within" 17 fd) (g : mg "first_within" = some (.ref (He.ga K "first_within"))) : Snd.Def K mg T 9 "first_within" (He.ga K "first_within") fd ["modulus", "factor", "start", "low", "high"] := ⟨fun _ => g, fun q h => (by have z : T.ats.lookup 9 = none := rfl; rw [z] at h; cases h), F.kp, F.bindsN fun _ _ _ _ _ _ us hl => match us, hl with | [_, _, _, _, _], _ => rfl, fun m ks perm h => by
    have h : (9, m, ks, perm) ∈ T.kws := h
    unfold T at h
    simp only [List.mem_cons, Prod.mk.injEq, List.not_mem_nil, or_false] at h
    rcases h with ⟨h0, h1, h2, h3⟩ | ⟨h0, h1, h2, h3⟩
    · exact absurd h0 (by decide)
    · exact absurd h0 (by decide)⟩
theorem df10 {fd : FuncData} (F : Fn K "are_table" 19 fd) (g : mg "are_table" = some (.ref (He.ga K "are_table"))) : Snd.Def K mg T 10 "are_table" (He.ga K "are_table") fd ["value"] := ⟨fun _ => g, fun q h => (by have z : T.ats.lookup 10 = none := rfl; rw [z] at h; cases h), F.kp, F.bindsN fun _ _ _ _ _ _ us hl => match us, hl with | [_], _ => rfl, fun m ks perm h => by
    have h : (10, m, ks, perm) ∈ T.kws := h
    unfold T at h
    simp only [List.mem_cons, Prod.mk.injEq, List.not_mem_nil, or_false] at h
    rcases h with ⟨h0, h1, h2, h3⟩ | ⟨h0, h1, h2, h3⟩
    · exact absurd h0 (by decide)
    · exact absurd h0 (by decide)⟩
theorem df11 {fd : FuncData} (F : Fn K "is_free_shot" 20 fd) (g : mg "is_free_shot" = some (.ref (He.ga K "is_free_shot"))) : Snd.Def K mg T 11 "is_free_shot" (He.ga K "is_free_shot") fd ["value"] := ⟨fun _ => g, fun q h => (by have z : T.ats.lookup 11 = none := rfl; rw [z] at h; cases h), F.kp, F.bindsN fun _ _ _ _ _ _ us hl => match us, hl with | [_], _ => rfl, fun m ks perm h => by
    have h : (11, m, ks, perm) ∈ T.kws := h
    unfold T at h
    simp only [List.mem_cons, Prod.mk.injEq, List.not_mem_nil, or_false] at h
    rcases h with ⟨h0, h1, h2, h3⟩ | ⟨h0, h1, h2, h3⟩
    · exact absurd h0 (by decide)
    · exact absurd h0 (by decide)⟩
theorem df12 {fd : FuncData} (F : Fn K "is_shot_on" 21 fd) (g : mg "is_shot_on" = some (.ref (He.ga K "is_shot_on"))) : Snd.Def K mg T 12 "is_shot_on" (He.ga K "is_shot_on") fd ["table", "value"] := ⟨fun _ => g, fun q h => (by have z : T.ats.lookup 12 = none := rfl; rw [z] at h; cases h), F.kp, F.bindsN fun _ _ _ _ _ _ us hl => match us, hl with | [_, _], _ => rfl, fun m ks perm h => by
    have h : (12, m, ks, perm) ∈ T.kws := h
    unfold T at h
    simp only [List.mem_cons, Prod.mk.injEq, List.not_mem_nil, or_false] at h
    rcases h with ⟨h0, h1, h2, h3⟩ | ⟨h0, h1, h2, h3⟩
    · exact absurd h0 (by decide)
    · exact absurd h0 (by decide)⟩
theorem df13 {fd : FuncData} (F : Fn K "are_fraction" 22 fd) (g : mg "are_fraction" = some (.ref (He.ga K "are_fraction"))) : Snd.Def K mg T 13 "are_fraction" (He.ga K "are_fraction") fd ["value"] := ⟨fun _ => g, fun q h => (by have z : T.ats.lookup 13 = none := rfl; rw [z] at h; cases h), F.kp, F.bindsN fun _ _ _ _ _ _ us hl => match us, hl with | [_], _ => rfl, fun m ks perm h => by
    have h : (13, m, ks, perm) ∈ T.kws := h
    unfold T at h
    simp only [List.mem_cons, Prod.mk.injEq, List.not_mem_nil, or_false] at h
    rcases h with ⟨h0, h1, h2, h3⟩ | ⟨h0, h1, h2, h3⟩
    · exact absurd h0 (by decide)
    · exact absurd h0 (by decide)⟩
theorem df14 {fd : FuncData} (F : Fn K "check_table" 23 fd) (g : mg "check_table" = some (.ref (He.ga K "check_table"))) : Snd.Def K mg T 14 "check_table" (He.ga K "check_table") fd ["table"] := ⟨fun _ => g, fun q h => (by have z : T.ats.lookup 14 = none := rfl; rw [z] at h; cases h), F.kp, F.bindsN fun _ _ _ _ _ _ us hl => match us, hl with | [_], _ => rfl, fun m ks perm h => by
    have h : (14, m, ks, perm) ∈ T.kws := h
    unfold T at h
    simp only [List.mem_cons, Prod.mk.injEq, List.not_mem_nil, or_false] at h
    rcases h with ⟨h0, h1, h2, h3⟩ | ⟨h0, h1, h2, h3⟩
    · exact absurd h0 (by decide)
    · exact absurd h0 (by decide)⟩
theorem df15 {fd : FuncData} (F : Fn K "check_shot" 24 fd) (g : mg "check_shot" = some (.ref (He.ga K "check_shot"))) : Snd.Def K mg T 15 "check_shot" (He.ga K "check_shot") fd ["table", "shot"] := ⟨fun _ => g, fun q h => (by have z : T.ats.lookup 15 = none := rfl; rw [z] at h; cases h), F.kp, F.bindsN fun _ _ _ _ _ _ us hl => match us, hl with | [_, _], _ => rfl, fun m ks perm h => by
    have h : (15, m, ks, perm) ∈ T.kws := h
    unfold T at h
    simp only [List.mem_cons, Prod.mk.injEq, List.not_mem_nil, or_false] at h
    rcases h with ⟨h0, h1, h2, h3⟩ | ⟨h0, h1, h2, h3⟩
    · exact absurd h0 (by decide)
    · exact absurd h0 (by decide)⟩
theorem df16 {fd : FuncData} (F : Fn K "check_time" 25 fd) (g : mg "check_time" = some (.ref (He.ga K "check_time"))) : Snd.Def K mg T 16 "check_time" (He.ga K "check_time") fd ["time"] := ⟨fun _ => g, fun q h => (by have z : T.ats.lookup 16 = none := rfl; rw [z] at h; cases h), F.kp, F.bindsN fun _ _ _ _ _ _ us hl => match us, hl with | [_], _ => rfl, fun m ks perm h => by
    have h : (16, m, ks, perm) ∈ T.kws := h
    unfold T at h
    simp only [List.mem_cons, Prod.mk.injEq, List.not_mem_nil, or_false] at h
    rcases h with ⟨h0, h1, h2, h3⟩ | ⟨h0, h1, h2, h3⟩
    · exact absurd h0 (by decide)
    · exact absurd h0 (by decide)⟩
theorem df17 {fd : FuncData} (F : Fn K "fold" 26 fd) (g : mg "fold" = some (.ref (He.ga K "fold"))) : Snd.Def K mg T 17 "fold" (He.ga K "fold") fd ["side", "number"] := ⟨fun _ => g, fun q h => (by have z : T.ats.lookup 17 = none := rfl; rw [z] at h; cases h), F.kp, F.bindsN fun _ _ _ _ _ _ us hl => match us, hl with | [_, _], _ => rfl, fun m ks perm h => by
    have h : (17, m, ks, perm) ∈ T.kws := h
    unfold T at h
    simp only [List.mem_cons, Prod.mk.injEq, List.not_mem_nil, or_false] at h
    rcases h with ⟨h0, h1, h2, h3⟩ | ⟨h0, h1, h2, h3⟩
    · exact absurd h0 (by decide)
    · exact absurd h0 (by decide)⟩
theorem df18 {fd : FuncData} (F : Fn K "free_place" 27 fd) (g : mg "free_place" = some (.ref (He.ga K "free_place"))) : Snd.Def K mg T 18 "free_place" (He.ga K "free_place") fd ["shot", "time"] := ⟨fun _ => g, fun q h => (by have z : T.ats.lookup 18 = none := rfl; rw [z] at h; cases h), F.kp, F.bindsN fun _ _ _ _ _ _ us hl => match us, hl with | [_, _], _ => rfl, fun m ks perm h => by
    have h : (18, m, ks, perm) ∈ T.kws := h
    unfold T at h
    simp only [List.mem_cons, Prod.mk.injEq, List.not_mem_nil, or_false] at h
    rcases h with ⟨h0, h1, h2, h3⟩ | ⟨h0, h1, h2, h3⟩
    · exact absurd h0 (by decide)
    · exact absurd h0 (by decide)⟩
theorem df19 {fd : FuncData} (F : Fn K "place_of" 28 fd) (g : mg "place_of" = some (.ref (He.ga K "place_of"))) : Snd.Def K mg T 19 "place_of" (He.ga K "place_of") fd ["table", "shot", "time"] := ⟨fun _ => g, fun q h => (by have z : T.ats.lookup 19 = none := rfl; rw [z] at h; cases h), F.kp, F.bindsN fun _ _ _ _ _ _ us hl => match us, hl with | [_, _, _], _ => rfl, fun m ks perm h => by
    have h : (19, m, ks, perm) ∈ T.kws := h
    unfold T at h
    simp only [List.mem_cons, Prod.mk.injEq, List.not_mem_nil, or_false] at h
    rcases h with ⟨h0, h1, h2, h3⟩ | ⟨h0, h1, h2, h3⟩
    · exact absurd h0 (by decide)
    · exact absurd h0 (by decide)⟩
theorem df20 {fd : FuncData} (F : Fn K "turned_of" 29 fd) (g : mg "turned_of" = some (.ref (He.ga K "turned_of"))) : Snd.Def K mg T 20 "turned_of" (He.ga K "turned_of") fd ["shot"] := ⟨fun _ => g, fun q h => (by have z : T.ats.lookup 20 = none := rfl; rw [z] at h; cases h), F.kp, F.bindsN fun _ _ _ _ _ _ us hl => match us, hl with | [_], _ => rfl, fun m ks perm h => by
    have h : (20, m, ks, perm) ∈ T.kws := h
    unfold T at h
    simp only [List.mem_cons, Prod.mk.injEq, List.not_mem_nil, or_false] at h
    rcases h with ⟨h0, h1, h2, h3⟩ | ⟨h0, h1, h2, h3⟩
    · exact absurd h0 (by decide)
    · exact absurd h0 (by decide)⟩
theorem df21 {fd : FuncData} (F : Fn K "axis_times" 32 fd) (g : mg "axis_times" = some (.ref (He.ga K "axis_times"))) : Snd.Def K mg T 21 "axis_times" (He.ga K "axis_times") fd ["side", "one", "way", "other", "other_way", "sign"] := ⟨fun _ => g, fun q h => (by have z : T.ats.lookup 21 = none := rfl; rw [z] at h; cases h), F.kp, F.bindsN fun _ _ _ _ _ _ us hl => match us, hl with | [_, _, _, _, _, _], _ => rfl, fun m ks perm h => by
    have h : (21, m, ks, perm) ∈ T.kws := h
    unfold T at h
    simp only [List.mem_cons, Prod.mk.injEq, List.not_mem_nil, or_false] at h
    rcases h with ⟨h0, h1, h2, h3⟩ | ⟨h0, h1, h2, h3⟩
    · exact absurd h0 (by decide)
    · exact absurd h0 (by decide)⟩
theorem df22 {fd : FuncData} (F : Fn K "both_times" 33 fd) (g : mg "both_times" = some (.ref (He.ga K "both_times"))) : Snd.Def K mg T 22 "both_times" (He.ga K "both_times") fd ["one", "other"] := ⟨fun _ => g, fun q h => (by have z : T.ats.lookup 22 = none := rfl; rw [z] at h; cases h), F.kp, F.bindsN fun _ _ _ _ _ _ us hl => match us, hl with | [_, _], _ => rfl, fun m ks perm h => by
    have h : (22, m, ks, perm) ∈ T.kws := h
    unfold T at h
    simp only [List.mem_cons, Prod.mk.injEq, List.not_mem_nil, or_false] at h
    rcases h with ⟨h0, h1, h2, h3⟩ | ⟨h0, h1, h2, h3⟩
    · exact absurd h0 (by decide)
    · exact absurd h0 (by decide)⟩
theorem df23 {fd : FuncData} (F : Fn K "rows_of" 34 fd) (g : mg "rows_of" = some (.ref (He.ga K "rows_of"))) : Snd.Def K mg T 23 "rows_of" (He.ga K "rows_of") fd ["table", "shot", "other"] := ⟨fun _ => g, fun q h => (by have z : T.ats.lookup 23 = none := rfl; rw [z] at h; cases h), F.kp, F.bindsN fun _ _ _ _ _ _ us hl => match us, hl with | [_, _, _], _ => rfl, fun m ks perm h => by
    have h : (23, m, ks, perm) ∈ T.kws := h
    unfold T at h
    simp only [List.mem_cons, Prod.mk.injEq, List.not_mem_nil, or_false] at h
    rcases h with ⟨h0, h1, h2, h3⟩ | ⟨h0, h1, h2, h3⟩
    · exact absurd h0 (by decide)
    · exact absurd h0 (by decide)⟩
theorem df24 {fd : FuncData} (F : Fn K "meeting_of" 35 fd) (g : mg "meeting_of" = some (.ref (He.ga K "meeting_of"))) : Snd.Def K mg T 24 "meeting_of" (He.ga K "meeting_of") fd ["table", "shot", "other"] := ⟨fun _ => g, fun q h => (by have z : T.ats.lookup 24 = none := rfl; rw [z] at h; cases h), F.kp, F.bindsN fun _ _ _ _ _ _ us hl => match us, hl with | [_, _, _], _ => rfl, fun m ks perm h => by
    have h : (24, m, ks, perm) ∈ T.kws := h
    unfold T at h
    simp only [List.mem_cons, Prod.mk.injEq, List.not_mem_nil, or_false] at h
    rcases h with ⟨h0, h1, h2, h3⟩ | ⟨h0, h1, h2, h3⟩
    · exact absurd h0 (by decide)
    · exact absurd h0 (by decide)⟩
theorem df25 {fd : FuncData} (F : Fn K "is_spot" 37 fd) (g : mg "is_spot" = some (.ref (He.ga K "is_spot"))) : Snd.Def K mg T 25 "is_spot" (He.ga K "is_spot") fd ["table", "value"] := ⟨fun _ => g, fun q h => (by have z : T.ats.lookup 25 = none := rfl; rw [z] at h; cases h), F.kp, F.bindsN fun _ _ _ _ _ _ us hl => match us, hl with | [_, _], _ => rfl, fun m ks perm h => by
    have h : (25, m, ks, perm) ∈ T.kws := h
    unfold T at h
    simp only [List.mem_cons, Prod.mk.injEq, List.not_mem_nil, or_false] at h
    rcases h with ⟨h0, h1, h2, h3⟩ | ⟨h0, h1, h2, h3⟩
    · exact absurd h0 (by decide)
    · exact absurd h0 (by decide)⟩
theorem df26 {fd : FuncData} (F : Fn K "ranges" 38 fd) (g : mg "ranges" = some (.ref (He.ga K "ranges"))) : Snd.Def K mg T 26 "ranges" (He.ga K "ranges") fd ["side", "speed", "low", "high"] := ⟨fun _ => g, fun q h => (by have z : T.ats.lookup 26 = none := rfl; rw [z] at h; cases h), F.kp, F.bindsN fun _ _ _ _ _ _ us hl => match us, hl with | [_, _, _, _], _ => rfl, fun m ks perm h => by
    have h : (26, m, ks, perm) ∈ T.kws := h
    unfold T at h
    simp only [List.mem_cons, Prod.mk.injEq, List.not_mem_nil, or_false] at h
    rcases h with ⟨h0, h1, h2, h3⟩ | ⟨h0, h1, h2, h3⟩
    · exact absurd h0 (by decide)
    · exact absurd h0 (by decide)⟩
theorem df27 {fd : FuncData} (F : Fn K "first_pass" 39 fd) (g : mg "first_pass" = some (.ref (He.ga K "first_pass"))) : Snd.Def K mg T 27 "first_pass" (He.ga K "first_pass") fd ["side", "speed", "factor", "start", "low", "high"] := ⟨fun _ => g, fun q h => (by have z : T.ats.lookup 27 = none := rfl; rw [z] at h; cases h), F.kp, F.bindsN fun _ _ _ _ _ _ us hl => match us, hl with | [_, _, _, _, _, _], _ => rfl, fun m ks perm h => by
    have h : (27, m, ks, perm) ∈ T.kws := h
    unfold T at h
    simp only [List.mem_cons, Prod.mk.injEq, List.not_mem_nil, or_false] at h
    rcases h with ⟨h0, h1, h2, h3⟩ | ⟨h0, h1, h2, h3⟩
    · exact absurd h0 (by decide)
    · exact absurd h0 (by decide)⟩
theorem df28 {fd : FuncData} (F : Fn K "axis_of" 40 fd) (g : mg "axis_of" = some (.ref (He.ga K "axis_of"))) : Snd.Def K mg T 28 "axis_of" (He.ga K "axis_of") fd ["table", "shot", "spot"] := ⟨fun _ => g, fun q h => (by have z : T.ats.lookup 28 = none := rfl; rw [z] at h; cases h), F.kp, F.bindsN fun _ _ _ _ _ _ us hl => match us, hl with | [_, _, _], _ => rfl, fun m ks perm h => by
    have h : (28, m, ks, perm) ∈ T.kws := h
    unfold T at h
    simp only [List.mem_cons, Prod.mk.injEq, List.not_mem_nil, or_false] at h
    rcases h with ⟨h0, h1, h2, h3⟩ | ⟨h0, h1, h2, h3⟩
    · exact absurd h0 (by decide)
    · exact absurd h0 (by decide)⟩
theorem df29 {fd : FuncData} (F : Fn K "pass_time" 41 fd) (g : mg "pass_time" = some (.ref (He.ga K "pass_time"))) : Snd.Def K mg T 29 "pass_time" (He.ga K "pass_time") fd ["axis", "goal", "low", "high"] := ⟨fun _ => g, fun q h => (by have z : T.ats.lookup 29 = none := rfl; rw [z] at h; cases h), F.kp, F.bindsN fun _ _ _ _ _ _ us hl => match us, hl with | [_, _, _, _], _ => rfl, fun m ks perm h => by
    have h : (29, m, ks, perm) ∈ T.kws := h
    unfold T at h
    simp only [List.mem_cons, Prod.mk.injEq, List.not_mem_nil, or_false] at h
    rcases h with ⟨h0, h1, h2, h3⟩ | ⟨h0, h1, h2, h3⟩
    · exact absurd h0 (by decide)
    · exact absurd h0 (by decide)⟩
theorem df30 {fd : FuncData} (F : Fn K "box_time" 42 fd) (g : mg "box_time" = some (.ref (He.ga K "box_time"))) : Snd.Def K mg T 30 "box_time" (He.ga K "box_time") fd ["table", "shot", "box"] := ⟨fun _ => g, fun q h => (by have z : T.ats.lookup 30 = none := rfl; rw [z] at h; cases h), F.kp, F.bindsN fun _ _ _ _ _ _ us hl => match us, hl with | [_, _, _], _ => rfl, fun m ks perm h => by
    have h : (30, m, ks, perm) ∈ T.kws := h
    unfold T at h
    simp only [List.mem_cons, Prod.mk.injEq, List.not_mem_nil, or_false] at h
    rcases h with ⟨h0, h1, h2, h3⟩ | ⟨h0, h1, h2, h3⟩
    · exact absurd h0 (by decide)
    · exact absurd h0 (by decide)⟩
theorem df31 {fd : FuncData} (F : FunD K "__init__" "Ball.__init__" (defArgs (mth 44 0)) (defBody (mth 44 0)) (defScope (mth 44 0)) [] [] (Snd.plA K (.mt "Ball" "__init__")) fd) : Snd.Def K mg T 31 "Ball.__init__" (Snd.plA K (.mt "Ball" "__init__")) fd ["self", "table", "shot"] := ⟨fun h => (by have z : T.ats.lookup 31 = some (.mt "Ball" "__init__") := rfl; rw [z] at h; cases h), fun q h => (by have z : T.ats.lookup 31 = some (.mt "Ball" "__init__") := rfl; rw [z] at h; cases h; rfl), F.kp, F.bindsN fun _ _ _ _ _ _ us hl => match us, hl with | [_, _, _], _ => rfl, fun m ks perm h => by
    have h : (31, m, ks, perm) ∈ T.kws := h
    unfold T at h
    simp only [List.mem_cons, Prod.mk.injEq, List.not_mem_nil, or_false] at h
    rcases h with ⟨h0, h1, h2, h3⟩ | ⟨h0, h1, h2, h3⟩
    · subst h1 h2 h3; exact kw0 F
    · exact absurd h0 (by decide)⟩
theorem df32 {fd : FuncData} (F : FunD K "__call__" "Ball.__call__" (defArgs (mth 44 1)) (defBody (mth 44 1)) (defScope (mth 44 1)) [] [] (Snd.plA K (.mt "Ball" "__call__")) fd) : Snd.Def K mg T 32 "Ball.__call__" (Snd.plA K (.mt "Ball" "__call__")) fd ["self", "time"] := ⟨fun h => (by have z : T.ats.lookup 32 = some (.mt "Ball" "__call__") := rfl; rw [z] at h; cases h), fun q h => (by have z : T.ats.lookup 32 = some (.mt "Ball" "__call__") := rfl; rw [z] at h; cases h; rfl), F.kp, F.bindsN fun _ _ _ _ _ _ us hl => match us, hl with | [_, _], _ => rfl, fun m ks perm h => by
    have h : (32, m, ks, perm) ∈ T.kws := h
    unfold T at h
    simp only [List.mem_cons, Prod.mk.injEq, List.not_mem_nil, or_false] at h
    rcases h with ⟨h0, h1, h2, h3⟩ | ⟨h0, h1, h2, h3⟩
    · exact absurd h0 (by decide)
    · subst h1 h2 h3; exact kw1 F⟩
theorem df33 {fd : FuncData} (F : FunD K "__neg__" "Ball.__neg__" (defArgs (mth 44 2)) (defBody (mth 44 2)) (defScope (mth 44 2)) [] [] (Snd.plA K (.mt "Ball" "__neg__")) fd) : Snd.Def K mg T 33 "Ball.__neg__" (Snd.plA K (.mt "Ball" "__neg__")) fd ["self"] := ⟨fun h => (by have z : T.ats.lookup 33 = some (.mt "Ball" "__neg__") := rfl; rw [z] at h; cases h), fun q h => (by have z : T.ats.lookup 33 = some (.mt "Ball" "__neg__") := rfl; rw [z] at h; cases h; rfl), F.kp, F.bindsN fun _ _ _ _ _ _ us hl => match us, hl with | [_], _ => rfl, fun m ks perm h => by
    have h : (33, m, ks, perm) ∈ T.kws := h
    unfold T at h
    simp only [List.mem_cons, Prod.mk.injEq, List.not_mem_nil, or_false] at h
    rcases h with ⟨h0, h1, h2, h3⟩ | ⟨h0, h1, h2, h3⟩
    · exact absurd h0 (by decide)
    · exact absurd h0 (by decide)⟩
theorem df34 {fd : FuncData} (F : FunD K "__and__" "Ball.__and__" (defArgs (mth 44 3)) (defBody (mth 44 3)) (defScope (mth 44 3)) [] [] (Snd.plA K (.mt "Ball" "__and__")) fd) : Snd.Def K mg T 34 "Ball.__and__" (Snd.plA K (.mt "Ball" "__and__")) fd ["self", "other"] := ⟨fun h => (by have z : T.ats.lookup 34 = some (.mt "Ball" "__and__") := rfl; rw [z] at h; cases h), fun q h => (by have z : T.ats.lookup 34 = some (.mt "Ball" "__and__") := rfl; rw [z] at h; cases h; rfl), F.kp, F.bindsN fun _ _ _ _ _ _ us hl => match us, hl with | [_, _], _ => rfl, fun m ks perm h => by
    have h : (34, m, ks, perm) ∈ T.kws := h
    unfold T at h
    simp only [List.mem_cons, Prod.mk.injEq, List.not_mem_nil, or_false] at h
    rcases h with ⟨h0, h1, h2, h3⟩ | ⟨h0, h1, h2, h3⟩
    · exact absurd h0 (by decide)
    · exact absurd h0 (by decide)⟩
theorem df35 {fd : FuncData} (F : FunD K "__eq__" "Ball.__eq__" (defArgs (mth 44 4)) (defBody (mth 44 4)) (defScope (mth 44 4)) [] [] (Snd.plA K (.mt "Ball" "__eq__")) fd) : Snd.Def K mg T 35 "Ball.__eq__" (Snd.plA K (.mt "Ball" "__eq__")) fd ["self", "other"] := ⟨fun h => (by have z : T.ats.lookup 35 = some (.mt "Ball" "__eq__") := rfl; rw [z] at h; cases h), fun q h => (by have z : T.ats.lookup 35 = some (.mt "Ball" "__eq__") := rfl; rw [z] at h; cases h; rfl), F.kp, F.bindsN fun _ _ _ _ _ _ us hl => match us, hl with | [_, _], _ => rfl, fun m ks perm h => by
    have h : (35, m, ks, perm) ∈ T.kws := h
    unfold T at h
    simp only [List.mem_cons, Prod.mk.injEq, List.not_mem_nil, or_false] at h
    rcases h with ⟨h0, h1, h2, h3⟩ | ⟨h0, h1, h2, h3⟩
    · exact absurd h0 (by decide)
    · exact absurd h0 (by decide)⟩
theorem df36 {fd : FuncData} (F : FunD K "__contains__" "Ball.__contains__" (defArgs (mth 44 5)) (defBody (mth 44 5)) (defScope (mth 44 5)) [] [] (Snd.plA K (.mt "Ball" "__contains__")) fd) : Snd.Def K mg T 36 "Ball.__contains__" (Snd.plA K (.mt "Ball" "__contains__")) fd ["self", "value"] := ⟨fun h => (by have z : T.ats.lookup 36 = some (.mt "Ball" "__contains__") := rfl; rw [z] at h; cases h), fun q h => (by have z : T.ats.lookup 36 = some (.mt "Ball" "__contains__") := rfl; rw [z] at h; cases h; rfl), F.kp, F.bindsN fun _ _ _ _ _ _ us hl => match us, hl with | [_, _], _ => rfl, fun m ks perm h => by
    have h : (36, m, ks, perm) ∈ T.kws := h
    unfold T at h
    simp only [List.mem_cons, Prod.mk.injEq, List.not_mem_nil, or_false] at h
    rcases h with ⟨h0, h1, h2, h3⟩ | ⟨h0, h1, h2, h3⟩
    · exact absurd h0 (by decide)
    · exact absurd h0 (by decide)⟩
theorem df37 {fd : FuncData} (F : FunD K "table" "Ball.table" (defArgs (mth 44 6)) (defBody (mth 44 6)) (defScope (mth 44 6)) [] [] (Snd.plA K (.pr "Ball" "table")) fd) : Snd.Def K mg T 37 "Ball.table" (Snd.plA K (.pr "Ball" "table")) fd ["self"] := ⟨fun h => (by have z : T.ats.lookup 37 = some (.pr "Ball" "table") := rfl; rw [z] at h; cases h), fun q h => (by have z : T.ats.lookup 37 = some (.pr "Ball" "table") := rfl; rw [z] at h; cases h; rfl), F.kp, F.bindsN fun _ _ _ _ _ _ us hl => match us, hl with | [_], _ => rfl, fun m ks perm h => by
    have h : (37, m, ks, perm) ∈ T.kws := h
    unfold T at h
    simp only [List.mem_cons, Prod.mk.injEq, List.not_mem_nil, or_false] at h
    rcases h with ⟨h0, h1, h2, h3⟩ | ⟨h0, h1, h2, h3⟩
    · exact absurd h0 (by decide)
    · exact absurd h0 (by decide)⟩
theorem df38 {fd : FuncData} (F : FunD K "shot" "Ball.shot" (defArgs (mth 44 7)) (defBody (mth 44 7)) (defScope (mth 44 7)) [] [] (Snd.plA K (.pr "Ball" "shot")) fd) : Snd.Def K mg T 38 "Ball.shot" (Snd.plA K (.pr "Ball" "shot")) fd ["self"] := ⟨fun h => (by have z : T.ats.lookup 38 = some (.pr "Ball" "shot") := rfl; rw [z] at h; cases h), fun q h => (by have z : T.ats.lookup 38 = some (.pr "Ball" "shot") := rfl; rw [z] at h; cases h; rfl), F.kp, F.bindsN fun _ _ _ _ _ _ us hl => match us, hl with | [_], _ => rfl, fun m ks perm h => by
    have h : (38, m, ks, perm) ∈ T.kws := h
    unfold T at h
    simp only [List.mem_cons, Prod.mk.injEq, List.not_mem_nil, or_false] at h
    rcases h with ⟨h0, h1, h2, h3⟩ | ⟨h0, h1, h2, h3⟩
    · exact absurd h0 (by decide)
    · exact absurd h0 (by decide)⟩
theorem df39 {fd : FuncData} (F : Fn K "_law_well" 46 fd) (g : mg "_law_well" = some (.ref (He.ga K "_law_well"))) : Snd.Def K mg T 39 "_law_well" (He.ga K "_law_well") fd ["script", "at"] := ⟨fun _ => g, fun q h => (by have z : T.ats.lookup 39 = none := rfl; rw [z] at h; cases h), F.kp, F.bindsN fun _ _ _ _ _ _ us hl => match us, hl with | [_, _], _ => rfl, fun m ks perm h => by
    have h : (39, m, ks, perm) ∈ T.kws := h
    unfold T at h
    simp only [List.mem_cons, Prod.mk.injEq, List.not_mem_nil, or_false] at h
    rcases h with ⟨h0, h1, h2, h3⟩ | ⟨h0, h1, h2, h3⟩
    · exact absurd h0 (by decide)
    · exact absurd h0 (by decide)⟩
theorem df40 {fd : FuncData} (F : Fn K "_law_draw" 47 fd) (g : mg "_law_draw" = some (.ref (He.ga K "_law_draw"))) : Snd.Def K mg T 40 "_law_draw" (He.ga K "_law_draw") fd ["well", "most"] := ⟨fun _ => g, fun q h => (by have z : T.ats.lookup 40 = none := rfl; rw [z] at h; cases h), F.kp, F.bindsN fun _ _ _ _ _ _ us hl => match us, hl with | [_, _], _ => rfl, fun m ks perm h => by
    have h : (40, m, ks, perm) ∈ T.kws := h
    unfold T at h
    simp only [List.mem_cons, Prod.mk.injEq, List.not_mem_nil, or_false] at h
    rcases h with ⟨h0, h1, h2, h3⟩ | ⟨h0, h1, h2, h3⟩
    · exact absurd h0 (by decide)
    · exact absurd h0 (by decide)⟩
theorem df41 {fd : FuncData} (F : Fn K "_law_desk" 48 fd) (g : mg "_law_desk" = some (.ref (He.ga K "_law_desk"))) : Snd.Def K mg T 41 "_law_desk" (He.ga K "_law_desk") fd ["well", "most"] := ⟨fun _ => g, fun q h => (by have z : T.ats.lookup 41 = none := rfl; rw [z] at h; cases h), F.kp, F.bindsN fun _ _ _ _ _ _ us hl => match us, hl with | [_, _], _ => rfl, fun m ks perm h => by
    have h : (41, m, ks, perm) ∈ T.kws := h
    unfold T at h
    simp only [List.mem_cons, Prod.mk.injEq, List.not_mem_nil, or_false] at h
    rcases h with ⟨h0, h1, h2, h3⟩ | ⟨h0, h1, h2, h3⟩
    · exact absurd h0 (by decide)
    · exact absurd h0 (by decide)⟩
theorem df42 {fd : FuncData} (F : Fn K "_law_roll" 49 fd) (g : mg "_law_roll" = some (.ref (He.ga K "_law_roll"))) : Snd.Def K mg T 42 "_law_roll" (He.ga K "_law_roll") fd ["well", "desk", "most"] := ⟨fun _ => g, fun q h => (by have z : T.ats.lookup 42 = none := rfl; rw [z] at h; cases h), F.kp, F.bindsN fun _ _ _ _ _ _ us hl => match us, hl with | [_, _, _], _ => rfl, fun m ks perm h => by
    have h : (42, m, ks, perm) ∈ T.kws := h
    unfold T at h
    simp only [List.mem_cons, Prod.mk.injEq, List.not_mem_nil, or_false] at h
    rcases h with ⟨h0, h1, h2, h3⟩ | ⟨h0, h1, h2, h3⟩
    · exact absurd h0 (by decide)
    · exact absurd h0 (by decide)⟩
theorem df43 {fd : FuncData} (F : Fn K "_law_told" 50 fd) (g : mg "_law_told" = some (.ref (He.ga K "_law_told"))) : Snd.Def K mg T 43 "_law_told" (He.ga K "_law_told") fd ["way", "a", "x", "y"] := ⟨fun _ => g, fun q h => (by have z : T.ats.lookup 43 = none := rfl; rw [z] at h; cases h), F.kp, F.bindsN fun _ _ _ _ _ _ us hl => match us, hl with | [_, _, _, _], _ => rfl, fun m ks perm h => by
    have h : (43, m, ks, perm) ∈ T.kws := h
    unfold T at h
    simp only [List.mem_cons, Prod.mk.injEq, List.not_mem_nil, or_false] at h
    rcases h with ⟨h0, h1, h2, h3⟩ | ⟨h0, h1, h2, h3⟩
    · exact absurd h0 (by decide)
    · exact absurd h0 (by decide)⟩
theorem df44 {fd : FuncData} (F : Fn K "_law_case" 51 fd) (g : mg "_law_case" = some (.ref (He.ga K "_law_case"))) : Snd.Def K mg T 44 "_law_case" (He.ga K "_law_case") fd ["well", "way", "a", "desk", "shot_here"] := ⟨fun _ => g, fun q h => (by have z : T.ats.lookup 44 = none := rfl; rw [z] at h; cases h), F.kp, F.bindsN fun _ _ _ _ _ _ us hl => match us, hl with | [_, _, _, _, _], _ => rfl, fun m ks perm h => by
    have h : (44, m, ks, perm) ∈ T.kws := h
    unfold T at h
    simp only [List.mem_cons, Prod.mk.injEq, List.not_mem_nil, or_false] at h
    rcases h with ⟨h0, h1, h2, h3⟩ | ⟨h0, h1, h2, h3⟩
    · exact absurd h0 (by decide)
    · exact absurd h0 (by decide)⟩
theorem df45 {fd : FuncData} (F : Fn K "law" 52 fd) (g : mg "law" = some (.ref (He.ga K "law"))) : Snd.Def K mg T 45 "law" (He.ga K "law") fd ["script"] := ⟨fun _ => g, fun q h => (by have z : T.ats.lookup 45 = none := rfl; rw [z] at h; cases h), F.kp, F.bindsN fun _ _ _ _ _ _ us hl => match us, hl with | [_], _ => rfl, fun m ks perm h => by
    have h : (45, m, ks, perm) ∈ T.kws := h
    unfold T at h
    simp only [List.mem_cons, Prod.mk.injEq, List.not_mem_nil, or_false] at h
    rcases h with ⟨h0, h1, h2, h3⟩ | ⟨h0, h1, h2, h3⟩
    · exact absurd h0 (by decide)
    · exact absurd h0 (by decide)⟩
theorem gx {G : M.Gm} {base : Heap} {k : Nat} (L : Snd.Law ⟨K, mg, T, G⟩ Pg w base k) (hs : G.sub = A.sub := by rfl) : M.GX A.ncls A.sub G := ⟨hs, fun j hj => by
  obtain ⟨C, _, e, _⟩ := L.er.at_ j _ (List.getElem?_eq_getElem (Nat.lt_of_lt_of_le (show j < T.nr from hj) (show T.nr ≤ T.cls.length by decide)))
  exact ⟨C, e hj⟩⟩
theorem go {G : M.Gm} {base : Heap} {k : Nat} (L : Snd.Law ⟨K, mg, T, G⟩ Pg w base k) (hm : G.mt = A.mt) (hs : G.os = A.os) : M.GO A.nob A.mt A.os G := ⟨hm, hs, fun k hk => by
  obtain ⟨C, _, e⟩ := L.oc.nm k _ (List.getElem?_eq_getElem (show k < T.ocs.length from hk))
  exact ⟨C, e⟩⟩
/-- what the head tells -/
theorem all (h : Heap) (X : K.In h) (G : h.Ns mainGlobals mg) (c : He.SaysD fal fnl K) (cc : Snd.consK cl K = true) (sy : Snd.sysB K = true) (ee : Snd.exK T.cls T.nr A.sub K = true) (oo : Snd.objB K T A.os = true) (cm : ∀ (i : Nat) (d : Snd.DefO), fol[i]? = some d → ∃ fd, FunD K d.name d.qual d.params d.body d.scope [] [] (Snd.plA K d.at_) fd) : Snd.Law ⟨K, mg, T, Snd.stage A.sub (Snd.adrs K T.cls T.nr) (Snd.objsOf K T A.os) (P.sp (Snd.oca K T.ocs)) P.con 45⟩ Pg w base 45 := by
  obtain ⟨fd0, F0⟩ := c.def_ 0 (d := dd "is_integer" 8) rfl
  obtain ⟨fd1, F1⟩ := c.def_ 1 (d := dd "divisor" 9) rfl
  obtain ⟨fd2, F2⟩ := c.def_ 2 (d := dd "fraction" 10) rfl
  obtain ⟨fd3, F3⟩ := c.def_ 3 (d := dd "is_less" 11) rfl
  obtain ⟨fd4, F4⟩ := c.def_ 4 (d := dd "least_of" 12) rfl
  obtain ⟨fd5, F5⟩ := c.def_ 5 (d := dd "inverse" 13) rfl
  obtain ⟨fd6, F6⟩ := c.def_ 6 (d := dd "least_solution" 14) rfl
  obtain ⟨fd7, F7⟩ := c.def_ 7 (d := dd "whole_sum" 15) rfl
  obtain ⟨fd8, F8⟩ := c.def_ 8 (d := dd "count_within" 16) rfl
  obtain ⟨fd9, F9⟩ := c.def_ 9 (d := dd "first_within" 17) rfl
  obtain ⟨fd10, F10⟩ := c.def_ 10 (d := dd "are_table" 19) rfl
  obtain ⟨fd11, F11⟩ := c.def_ 11 (d := dd "is_free_shot" 20) rfl
  obtain ⟨fd12, F12⟩ := c.def_ 12 (d := dd "is_shot_on" 21) rfl
  obtain ⟨fd13, F13⟩ := c.def_ 13 (d := dd "are_fraction" 22) rfl
  obtain ⟨fd14, F14⟩ := c.def_ 14 (d := dd "check_table" 23) rfl
  obtain ⟨fd15, F15⟩ := c.def_ 15 (d := dd "check_shot" 24) rfl
  obtain ⟨fd16, F16⟩ := c.def_ 16 (d := dd "check_time" 25) rfl
  obtain ⟨fd17, F17⟩ := c.def_ 17 (d := dd "fold" 26) rfl
  obtain ⟨fd18, F18⟩ := c.def_ 18 (d := dd "free_place" 27) rfl
  obtain ⟨fd19, F19⟩ := c.def_ 19 (d := dd "place_of" 28) rfl
  obtain ⟨fd20, F20⟩ := c.def_ 20 (d := dd "turned_of" 29) rfl
  obtain ⟨fd21, F21⟩ := c.def_ 21 (d := dd "axis_times" 32) rfl
  obtain ⟨fd22, F22⟩ := c.def_ 22 (d := dd "both_times" 33) rfl
  obtain ⟨fd23, F23⟩ := c.def_ 23 (d := dd "rows_of" 34) rfl
  obtain ⟨fd24, F24⟩ := c.def_ 24 (d := dd "meeting_of" 35) rfl
  obtain ⟨fd25, F25⟩ := c.def_ 25 (d := dd "is_spot" 37) rfl
  obtain ⟨fd26, F26⟩ := c.def_ 26 (d := dd "ranges" 38) rfl
  obtain ⟨fd27, F27⟩ := c.def_ 27 (d := dd "first_pass" 39) rfl
  obtain ⟨fd28, F28⟩ := c.def_ 28 (d := dd "axis_of" 40) rfl
  obtain ⟨fd29, F29⟩ := c.def_ 29 (d := dd "pass_time" 41) rfl
  obtain ⟨fd30, F30⟩ := c.def_ 30 (d := dd "box_time" 42) rfl
  obtain ⟨fd31, F31⟩ := cm 0 (⟨.mt "Ball" "__init__", "__init__", "Ball.__init__", defArgs (mth 44 0), defBody (mth 44 0), defScope (mth 44 0)⟩ : Snd.DefO) rfl
  obtain ⟨fd32, F32⟩ := cm 1 (⟨.mt "Ball" "__call__", "__call__", "Ball.__call__", defArgs (mth 44 1), defBody (mth 44 1), defScope (mth 44 1)⟩ : Snd.DefO) rfl
  obtain ⟨fd33, F33⟩ := cm 2 (⟨.mt "Ball" "__neg__", "__neg__", "Ball.__neg__", defArgs (mth 44 2), defBody (mth 44 2), defScope (mth 44 2)⟩ : Snd.DefO) rfl
  obtain ⟨fd34, F34⟩ := cm 3 (⟨.mt "Ball" "__and__", "__and__", "Ball.__and__", defArgs (mth 44 3), defBody (mth 44 3), defScope (mth 44 3)⟩ : Snd.DefO) rfl
  obtain ⟨fd35, F35⟩ := cm 4 (⟨.mt "Ball" "__eq__", "__eq__", "Ball.__eq__", defArgs (mth 44 4), defBody (mth 44 4), defScope (mth 44 4)⟩ : Snd.DefO) rfl
  obtain ⟨fd36, F36⟩ := cm 5 (⟨.mt "Ball" "__contains__", "__contains__", "Ball.__contains__", defArgs (mth 44 5), defBody (mth 44 5), defScope (mth 44 5)⟩ : Snd.DefO) rfl
  obtain ⟨fd37, F37⟩ := cm 6 (⟨.pr "Ball" "table", "table", "Ball.table", defArgs (mth 44 6), defBody (mth 44 6), defScope (mth 44 6)⟩ : Snd.DefO) rfl
  obtain ⟨fd38, F38⟩ := cm 7 (⟨.pr "Ball" "shot", "shot", "Ball.shot", defArgs (mth 44 7), defBody (mth 44 7), defScope (mth 44 7)⟩ : Snd.DefO) rfl
  obtain ⟨fd39, F39⟩ := c.def_ 31 (d := dd "_law_well" 46) rfl
  obtain ⟨fd40, F40⟩ := c.def_ 32 (d := dd "_law_draw" 47) rfl
  obtain ⟨fd41, F41⟩ := c.def_ 33 (d := dd "_law_desk" 48) rfl
  obtain ⟨fd42, F42⟩ := c.def_ 34 (d := dd "_law_roll" 49) rfl
  obtain ⟨fd43, F43⟩ := c.def_ 35 (d := dd "_law_told" 50) rfl
  obtain ⟨fd44, F44⟩ := c.def_ 36 (d := dd "_law_case" 51) rfl
  obtain ⟨fd45, F45⟩ := c.def_ 37 (d := dd "law" 52) rfl
  have bts : ∀ x ∈ T.bts, mg x = none := fun x hx => by
    unfold T at hx
    simp only [List.mem_cons, List.not_mem_nil, or_false] at hx
    rcases hx with rfl | rfl | rfl | rfl | rfl | rfl | rfl | rfl | rfl | rfl | rfl | rfl
    · exact He.free_ok X G (c.fact 38 (f := .free "ValueError") rfl)
    · exact He.free_ok X G (c.fact 39 (f := .free "abs") rfl)
    · exact He.free_ok X G (c.fact 40 (f := .free "all") rfl)
    · exact He.free_ok X G (c.fact 41 (f := .free "bool") rfl)
    · exact He.free_ok X G (c.fact 42 (f := .free "int") rfl)
    · exact He.free_ok X G (c.fact 43 (f := .free "isinstance") rfl)
    · exact He.free_ok X G (c.fact 44 (f := .free "len") rfl)
    · exact He.free_ok X G (c.fact 45 (f := .free "list") rfl)
    · exact He.free_ok X G (c.fact 46 (f := .free "max") rfl)
    · exact He.free_ok X G (c.fact 47 (f := .free "min") rfl)
    · exact He.free_ok X G (c.fact 48 (f := .free "range") rfl)
    · exact He.free_ok X G (c.fact 49 (f := .free "tuple") rfl)
  have cns : ∀ n x, T.cons[n]? = some x → ∃ u v, mg x = some u ∧ RelV v u ∧ ∀ H, Snd.RelD K H (P.con n) v := fun n x h => by
    match n, h with
    | 0, h => obtain rfl : "ALWAYS" = x := Option.some.inj h; exact Snd.consK_ok X G cc (d := A.c0) (.head _)
    | k + 1, h => cases h
  refine Snd.chain (fun n => n) (fun _ => 1) (fun _ _ h => h) (Snd.sysB_ok sy) (Snd.exK_ok X G rfl ee) (Snd.objB_ok (G := Snd.stage A.sub (Snd.adrs K T.cls T.nr) (Snd.objsOf K T A.os) (P.sp (Snd.oca K T.ocs)) P.con 0) (os := A.os) X G rfl rfl rfl oo) bts cns (fun n x h => ?_) 45
  match n, h with
  | 0, h => obtain rfl : "is_integer" = x := Option.some.inj h; exact ⟨_, fd0, _, (df0 F0 (He.glo_ok X G (c.fact 0 (f := .glo "is_integer") rfl))), fun k L => Snd.fn_ok L F0 sc0 ck0 (P.body0 (Snd.stage A.sub (Snd.adrs K T.cls T.nr) (Snd.objsOf K T A.os) (P.sp (Snd.oca K T.ocs)) P.con 0) rfl rfl (gx L) (go L rfl rfl))⟩
  | 1, h => obtain rfl : "divisor" = x := Option.some.inj h; exact ⟨_, fd1, _, (df1 F1 (He.glo_ok X G (c.fact 1 (f := .glo "divisor") rfl))), fun k L => Snd.fn_ok L F1 sc1 ck1 (P.body1 (Snd.stage A.sub (Snd.adrs K T.cls T.nr) (Snd.objsOf K T A.os) (P.sp (Snd.oca K T.ocs)) P.con 1) rfl rfl (gx L) (go L rfl rfl))⟩
  | 2, h => obtain rfl : "fraction" = x := Option.some.inj h; exact ⟨_, fd2, _, (df2 F2 (He.glo_ok X G (c.fact 2 (f := .glo "fraction") rfl))), fun k L => Snd.fn_ok L F2 sc2 ck2 (P.body2 (Snd.stage A.sub (Snd.adrs K T.cls T.nr) (Snd.objsOf K T A.os) (P.sp (Snd.oca K T.ocs)) P.con 2) rfl rfl (gx L) (go L rfl rfl))⟩
  | 3, h => obtain rfl : "is_less" = x := Option.some.inj h; exact ⟨_, fd3, _, (df3 F3 (He.glo_ok X G (c.fact 3 (f := .glo "is_less") rfl))), fun k L => Snd.fn_ok L F3 sc3 ck3 (P.body3 (Snd.stage A.sub (Snd.adrs K T.cls T.nr) (Snd.objsOf K T A.os) (P.sp (Snd.oca K T.ocs)) P.con 3) rfl rfl (gx L) (go L rfl rfl))⟩
  | 4, h => obtain rfl : "least_of" = x := Option.some.inj h; exact ⟨_, fd4, _, (df4 F4 (He.glo_ok X G (c.fact 4 (f := .glo "least_of") rfl))), fun k L => Snd.fn_ok L F4 sc4 ck4 (P.body4 (Snd.stage A.sub (Snd.adrs K T.cls T.nr) (Snd.objsOf K T A.os) (P.sp (Snd.oca K T.ocs)) P.con 4) rfl rfl (gx L) (go L rfl rfl))⟩
  | 5, h => obtain rfl : "inverse" = x := Option.some.inj h; exact ⟨_, fd5, _, (df5 F5 (He.glo_ok X G (c.fact 5 (f := .glo "inverse") rfl))), fun k L => Snd.fn_ok L F5 sc5 ck5 (P.body5 (Snd.stage A.sub (Snd.adrs K T.cls T.nr) (Snd.objsOf K T A.os) (P.sp (Snd.oca K T.ocs)) P.con 5) rfl rfl (gx L) (go L rfl rfl))⟩
  | 6, h => obtain rfl : "least_solution" = x := Option.some.inj h; exact ⟨_, fd6, _, (df6 F6 (He.glo_ok X G (c.fact 6 (f := .glo "least_solution") rfl))), fun k L => Snd.fn_ok L F6 sc6 ck6 (P.body6 (Snd.stage A.sub (Snd.adrs K T.cls T.nr) (Snd.objsOf K T A.os) (P.sp (Snd.oca K T.ocs)) P.con 6) rfl rfl (gx L) (go L rfl rfl))⟩
  | 7, h => obtain rfl : "whole_sum" = x := Option.some.inj h; exact ⟨_, fd7, _, (df7 F7 (He.glo_ok X G (c.fact 7 (f := .glo "whole_sum") rfl))), fun k L => Snd.fn_ok L F7 sc7 ck7 (P.body7 (Snd.stage A.sub (Snd.adrs K T.cls T.nr) (Snd.objsOf K T A.os) (P.sp (Snd.oca K T.ocs)) P.con 7) rfl rfl (gx L) (go L rfl rfl))⟩
  | 8, h => obtain rfl : "count_within" = x := Option.some.inj h; exact ⟨_, fd8, _, (df8 F8 (He.glo_ok X G (c.fact 8 (f := .glo "count_within") rfl))), fun k L => Snd.fn_ok L F8 sc8 ck8 (P.body8 (Snd.stage A.sub (Snd.adrs K T.cls T.nr) (Snd.objsOf K T A.os) (P.sp (Snd.oca K T.ocs)) P.con 8) rfl rfl (gx L) (go L rfl rfl))⟩
  | 9, h => obtain rfl : "first_within" = x := Option.some.inj h; exact ⟨_, fd9, _, (df9 F9 (He.glo_ok X G (c.fact 9 (f := .glo "first_within") rfl))), fun k L => Snd.fn_ok L F9 sc9 ck9 (P.body9 (Snd.stage A.sub (Snd.adrs K T.cls T.nr) (Snd.objsOf K T A.os) (P.sp (Snd.oca K T.ocs)) P.con 9) rfl rfl (gx L) (go L rfl rfl))⟩
  | 10, h => obtain rfl : "are_table" = x := Option.some.inj h; exact ⟨_, fd10, _, (df10 F10 (He.glo_ok X G (c.fact 10 (f := .glo "are_table") rfl))), fun k L => Snd.fn_ok L F10 sc10 ck10 (P.body10 (Snd.stage A.sub (Snd.adrs K T.cls T.nr) (Snd.objsOf K T A.os) (P.sp (Snd.oca K T.ocs)) P.con 10) rfl rfl (gx L) (go L rfl rfl))⟩
  | 11, h => obtain rfl : "is_free_shot" = x := Option.some.inj h; exact ⟨_, fd11, _, (df11 F11 (He.glo_ok X G (c.fact 11 (f := .glo "is_free_shot") rfl))), fun k L => Snd.fn_ok L F11 sc11 ck11 (P.body11 (Snd.stage A.sub (Snd.adrs K T.cls T.nr) (Snd.objsOf K T A.os) (P.sp (Snd.oca K T.ocs)) P.con 11) rfl rfl (gx L) (go L rfl rfl))⟩
  | 12, h => obtain rfl : "is_shot_on" = x := Option.some.inj h; exact ⟨_, fd12, _, (df12 F12 (He.glo_ok X G (c.fact 12 (f := .glo "is_shot_on") rfl))), fun k L => Snd.fn_ok L F12 sc12 ck12 (P.body12 (Snd.stage A.sub (Snd.adrs K T.cls T.nr) (Snd.objsOf K T A.os) (P.sp (Snd.oca K T.ocs)) P.con 12) rfl rfl (gx L) (go L rfl rfl))⟩
  | 13, h => obtain rfl : "are_fraction" = x := Option.some.inj h; exact ⟨_, fd13, _, (df13 F13 (He.glo_ok X G (c.fact 13 (f := .glo "are_fraction") rfl))), fun k L => Snd.fn_ok L F13 sc13 ck13 (P.body13 (Snd.stage A.sub (Snd.adrs K T.cls T.nr) (Snd.objsOf K T A.os) (P.sp (Snd.oca K T.ocs)) P.con 13) rfl rfl (gx L) (go L rfl rfl))⟩
  | 14, h => obtain rfl : "check_table" = x := Option.some.inj h; exact ⟨_, fd14, _, (df14 F14 (He.glo_ok X G (c.fact 14 (f := .glo "check_table") rfl))), fun k L => Snd.fn_ok L F14 sc14 ck14 (P.body14 (Snd.stage A.sub (Snd.adrs K T.cls T.nr) (Snd.objsOf K T A.os) (P.sp (Snd.oca K T.ocs)) P.con 14) rfl rfl (gx L) (go L rfl rfl))⟩
  | 15, h => obtain rfl : "check_shot" = x := Option.some.inj h; exact ⟨_, fd15, _, (df15 F15 (He.glo_ok X G (c.fact 15 (f := .glo "check_shot") rfl))), fun k L => Snd.fn_ok L F15 sc15 ck15 (P.body15 (Snd.stage A.sub (Snd.adrs K T.cls T.nr) (Snd.objsOf K T A.os) (P.sp (Snd.oca K T.ocs)) P.con 15) rfl rfl (gx L) (go L rfl rfl))⟩
  | 16, h => obtain rfl : "check_time" = x := Option.some.inj h; exact ⟨_, fd16, _, (df16 F16 (He.glo_ok X G (c.fact 16 (f := .glo "check_time") rfl))), fun k L => Snd.fn_ok L F16 sc16 ck16 (P.body16 (Snd.stage A.sub (Snd.adrs K T.cls T.nr) (Snd.objsOf K T A.os) (P.sp (Snd.oca K T.ocs)) P.con 16) rfl rfl (gx L) (go L rfl rfl))⟩
  | 17, h => obtain rfl : "fold" = x := Option.some.inj h; exact ⟨_, fd17, _, (df17 F17 (He.glo_ok X G (c.fact 17 (f := .glo "fold") rfl))), fun k L => Snd.fn_ok L F17 sc17 ck17 (P.body17 (Snd.stage A.sub (Snd.adrs K T.cls T.nr) (Snd.objsOf K T A.os) (P.sp (Snd.oca K T.ocs)) P.con 17) rfl rfl (gx L) (go L rfl rfl))⟩
  | 18, h => obtain rfl : "free_place" = x := Option.some.inj h; exact ⟨_, fd18, _, (df18 F18 (He.glo_ok X G (c.fact 18 (f := .glo "free_place") rfl))), fun k L => Snd.fn_ok L F18 sc18 ck18 (P.body18 (Snd.stage A.sub (Snd.adrs K T.cls T.nr) (Snd.objsOf K T A.os) (P.sp (Snd.oca K T.ocs)) P.con 18) rfl rfl (gx L) (go L rfl rfl))⟩
  | 19, h => obtain rfl : "place_of" = x := Option.some.inj h; exact ⟨_, fd19, _, (df19 F19 (He.glo_ok X G (c.fact 19 (f := .glo "place_of") rfl))), fun k L => Snd.fn_ok L F19 sc19 ck19 (P.body19 (Snd.stage A.sub (Snd.adrs K T.cls T.nr) (Snd.objsOf K T A.os) (P.sp (Snd.oca K T.ocs)) P.con 19) rfl rfl (gx L) (go L rfl rfl))⟩
  | 20, h => obtain rfl : "turned_of" = x := Option.some.inj h; exact ⟨_, fd20, _, (df20 F20 (He.glo_ok X G (c.fact 20 (f := .glo "turned_of") rfl))), fun k L => Snd.fn_ok L F20 sc20 ck20 (P.body20 (Snd.stage A.sub (Snd.adrs K T.cls T.nr) (Snd.objsOf K T A.os) (P.sp (Snd.oca K T.ocs)) P.con 20) rfl rfl (gx L) (go L rfl rfl))⟩
  | 21, h => obtain rfl : "axis_times" = x := Option.some.inj h; exact ⟨_, fd21, _, (df21 F21 (He.glo_ok X G (c.fact 21 (f := .glo "axis_times") rfl))), fun k L => Snd.fn_ok L F21 sc21 ck21 (P.body21 (Snd.stage A.sub (Snd.adrs K T.cls T.nr) (Snd.objsOf K T A.os) (P.sp (Snd.oca K T.ocs)) P.con 21) rfl rfl (gx L) (go L rfl rfl))⟩
  | 22, h => obtain rfl : "both_times" = x := Option.some.inj h; exact ⟨_, fd22, _, (df22 F22 (He.glo_ok X G (c.fact 22 (f := .glo "both_times") rfl))), fun k L => Snd.fn_ok L F22 sc22 ck22 (P.body22 (Snd.stage A.sub (Snd.adrs K T.cls T.nr) (Snd.objsOf K T A.os) (P.sp (Snd.oca K T.ocs)) P.con 22) rfl rfl (gx L) (go L rfl rfl))⟩
  | 23, h => obtain rfl : "rows_of" = x := Option.some.inj h; exact ⟨_, fd23, _, (df23 F23 (He.glo_ok X G (c.fact 23 (f := .glo "rows_of") rfl))), fun k L => Snd.fn_ok L F23 sc23 ck23 (P.body23 (Snd.stage A.sub (Snd.adrs K T.cls T.nr) (Snd.objsOf K T A.os) (P.sp (Snd.oca K T.ocs)) P.con 23) rfl rfl (gx L) (go L rfl rfl))⟩
  | 24, h => obtain rfl : "meeting_of" = x := Option.some.inj h; exact ⟨_, fd24, _, (df24 F24 (He.glo_ok X G (c.fact 24 (f := .glo "meeting_of") rfl))), fun k L => Snd.fn_ok L F24 sc24 ck24 (P.body24 (Snd.stage A.sub (Snd.adrs K T.cls T.nr) (Snd.objsOf K T A.os) (P.sp (Snd.oca K T.ocs)) P.con 24) rfl rfl (gx L) (go L rfl rfl))⟩
  | 25, h => obtain rfl : "is_spot" = x := Option.some.inj h; exact ⟨_, fd25, _, (df25 F25 (He.glo_ok X G (c.fact 25 (f := .glo "is_spot") rfl))), fun k L => Snd.fn_ok L F25 sc25 ck25 (P.body25 (Snd.stage A.sub (Snd.adrs K T.cls T.nr) (Snd.objsOf K T A.os) (P.sp (Snd.oca K T.ocs)) P.con 25) rfl rfl (gx L) (go L rfl rfl))⟩
  | 26, h => obtain rfl : "ranges" = x := Option.some.inj h; exact ⟨_, fd26, _, (df26 F26 (He.glo_ok X G (c.fact 26 (f := .glo "ranges") rfl))), fun k L => Snd.fn_ok L F26 sc26 ck26 (P.body26 (Snd.stage A.sub (Snd.adrs K T.cls T.nr) (Snd.objsOf K T A.os) (P.sp (Snd.oca K T.ocs)) P.con 26) rfl rfl (gx L) (go L rfl rfl))⟩
  | 27, h => obtain rfl : "first_pass" = x := Option.some.inj h; exact ⟨_, fd27, _, (df27 F27 (He.glo_ok X G (c.fact 27 (f := .glo "first_pass") rfl))), fun k L => Snd.fn_ok L F27 sc27 ck27 (P.body27 (Snd.stage A.sub (Snd.adrs K T.cls T.nr) (Snd.objsOf K T A.os) (P.sp (Snd.oca K T.ocs)) P.con 27) rfl rfl (gx L) (go L rfl rfl))⟩
  | 28, h => obtain rfl : "axis_of" = x := Option.some.inj h; exact ⟨_, fd28, _, (df28 F28 (He.glo_ok X G (c.fact 28 (f := .glo "axis_of") rfl))), fun k L => Snd.fn_ok L F28 sc28 ck28 (P.body28 (Snd.stage A.sub (Snd.adrs K T.cls T.nr) (Snd.objsOf K T A.os) (P.sp (Snd.oca K T.ocs)) P.con 28) rfl rfl (gx L) (go L rfl rfl))⟩
  | 29, h => obtain rfl : "pass_time" = x := Option.some.inj h; exact ⟨_, fd29, _, (df29 F29 (He.glo_ok X G (c.fact 29 (f := .glo "pass_time") rfl))), fun k L => Snd.fn_ok L F29 sc29 ck29 (P.body29 (Snd.stage A.sub (Snd.adrs K T.cls T.nr) (Snd.objsOf K T A.os) (P.sp (Snd.oca K T.ocs)) P.con 29) rfl rfl (gx L) (go L rfl rfl))⟩
  | 30, h => obtain rfl : "box_time" = x := Option.some.inj h; exact ⟨_, fd30, _, (df30 F30 (He.glo_ok X G (c.fact 30 (f := .glo "box_time") rfl))), fun k L => Snd.fn_ok L F30 sc30 ck30 (P.body30 (Snd.stage A.sub (Snd.adrs K T.cls T.nr) (Snd.objsOf K T A.os) (P.sp (Snd.oca K T.ocs)) P.con 30) rfl rfl (gx L) (go L rfl rfl))⟩
  | 31, h => obtain rfl : "Ball.__init__" = x := Option.some.inj h; exact ⟨_, fd31, _, (df31 F31), fun k L => Snd.fn_ok L F31 sc31 ck31 (P.body31 (Snd.stage A.sub (Snd.adrs K T.cls T.nr) (Snd.objsOf K T A.os) (P.sp (Snd.oca K T.ocs)) P.con 31) rfl rfl (gx L) (go L rfl rfl))⟩
  | 32, h => obtain rfl : "Ball.__call__" = x := Option.some.inj h; exact ⟨_, fd32, _, (df32 F32), fun k L => Snd.fn_ok L F32 sc32 ck32 (P.body32 (Snd.stage A.sub (Snd.adrs K T.cls T.nr) (Snd.objsOf K T A.os) (P.sp (Snd.oca K T.ocs)) P.con 32) rfl rfl (gx L) (go L rfl rfl))⟩
  | 33, h => obtain rfl : "Ball.__neg__" = x := Option.some.inj h; exact ⟨_, fd33, _, (df33 F33), fun k L => Snd.fn_ok L F33 sc33 ck33 (P.body33 (Snd.stage A.sub (Snd.adrs K T.cls T.nr) (Snd.objsOf K T A.os) (P.sp (Snd.oca K T.ocs)) P.con 33) rfl rfl (gx L) (go L rfl rfl))⟩
  | 34, h => obtain rfl : "Ball.__and__" = x := Option.some.inj h; exact ⟨_, fd34, _, (df34 F34), fun k L => Snd.fn_ok L F34 sc34 ck34 (P.body34 (Snd.stage A.sub (Snd.adrs K T.cls T.nr) (Snd.objsOf K T A.os) (P.sp (Snd.oca K T.ocs)) P.con 34) rfl rfl (gx L) (go L rfl rfl))⟩
  | 35, h => obtain rfl : "Ball.__eq__" = x := Option.some.inj h; exact ⟨_, fd35, _, (df35 F35), fun k L => Snd.fn_ok L F35 sc35 ck35 (P.body35 (Snd.stage A.sub (Snd.adrs K T.cls T.nr) (Snd.objsOf K T A.os) (P.sp (Snd.oca K T.ocs)) P.con 35) rfl rfl (gx L) (go L rfl rfl))⟩
  | 36, h => obtain rfl : "Ball.__contains__" = x := Option.some.inj h; exact ⟨_, fd36, _, (df36 F36), fun k L => Snd.fn_ok L F36 sc36 ck36 (P.body36 (Snd.stage A.sub (Snd.adrs K T.cls T.nr) (Snd.objsOf K T A.os) (P.sp (Snd.oca K T.ocs)) P.con 36) rfl rfl (gx L) (go L rfl rfl))⟩
  | 37, h => obtain rfl : "Ball.table" = x := Option.some.inj h; exact ⟨_, fd37, _, (df37 F37), fun k L => Snd.fn_ok L F37 sc37 ck37 (P.body37 (Snd.stage A.sub (Snd.adrs K T.cls T.nr) (Snd.objsOf K T A.os) (P.sp (Snd.oca K T.ocs)) P.con 37) rfl rfl (gx L) (go L rfl rfl))⟩
  | 38, h => obtain rfl : "Ball.shot" = x := Option.some.inj h; exact ⟨_, fd38, _, (df38 F38), fun k L => Snd.fn_ok L F38 sc38 ck38 (P.body38 (Snd.stage A.sub (Snd.adrs K T.cls T.nr) (Snd.objsOf K T A.os) (P.sp (Snd.oca K T.ocs)) P.con 38) rfl rfl (gx L) (go L rfl rfl))⟩
  | 39, h => obtain rfl : "_law_well" = x := Option.some.inj h; exact ⟨_, fd39, _, (df39 F39 (He.glo_ok X G (c.fact 31 (f := .glo "_law_well") rfl))), fun k L => Snd.fn_ok L F39 sc39 ck39 (P.body39 (Snd.stage A.sub (Snd.adrs K T.cls T.nr) (Snd.objsOf K T A.os) (P.sp (Snd.oca K T.ocs)) P.con 39) rfl rfl (gx L) (go L rfl rfl))⟩
  | 40, h => obtain rfl : "_law_draw" = x := Option.some.inj h; exact ⟨_, fd40, _, (df40 F40 (He.glo_ok X G (c.fact 32 (f := .glo "_law_draw") rfl))), fun k L => Snd.fn_ok L F40 sc40 ck40 (P.body40 (Snd.stage A.sub (Snd.adrs K T.cls T.nr) (Snd.objsOf K T A.os) (P.sp (Snd.oca K T.ocs)) P.con 40) rfl rfl (gx L) (go L rfl rfl))⟩
  | 41, h => obtain rfl : "_law_desk" = x := Option.some.inj h; exact ⟨_, fd41, _, (df41 F41 (He.glo_ok X G (c.fact 33 (f := .glo "_law_desk") rfl))), fun k L => Snd.fn_ok L F41 sc41 ck41 (P.body41 (Snd.stage A.sub (Snd.adrs K T.cls T.nr) (Snd.objsOf K T A.os) (P.sp (Snd.oca K T.ocs)) P.con 41) rfl rfl (gx L) (go L rfl rfl))⟩
  | 42, h => obtain rfl : "_law_roll" = x := Option.some.inj h; exact ⟨_, fd42, _, (df42 F42 (He.glo_ok X G (c.fact 34 (f := .glo "_law_roll") rfl))), fun k L => Snd.fn_ok L F42 sc42 ck42 (P.body42 (Snd.stage A.sub (Snd.adrs K T.cls T.nr) (Snd.objsOf K T A.os) (P.sp (Snd.oca K T.ocs)) P.con 42) rfl rfl (gx L) (go L rfl rfl))⟩
  | 43, h => obtain rfl : "_law_told" = x := Option.some.inj h; exact ⟨_, fd43, _, (df43 F43 (He.glo_ok X G (c.fact 35 (f := .glo "_law_told") rfl))), fun k L => Snd.fn_ok L F43 sc43 ck43 (P.body43 (Snd.stage A.sub (Snd.adrs K T.cls T.nr) (Snd.objsOf K T A.os) (P.sp (Snd.oca K T.ocs)) P.con 43) rfl rfl (gx L) (go L rfl rfl))⟩
  | 44, h => obtain rfl : "_law_case" = x := Option.some.inj h; exact ⟨_, fd44, _, (df44 F44 (He.glo_ok X G (c.fact 36 (f := .glo "_law_case") rfl))), fun k L => Snd.fn_ok L F44 sc44 ck44 (P.body44 (Snd.stage A.sub (Snd.adrs K T.cls T.nr) (Snd.objsOf K T A.os) (P.sp (Snd.oca K T.ocs)) P.con 44) rfl rfl (gx L) (go L rfl rfl))⟩
  | 45, h => obtain rfl : "law" = x := Option.some.inj h; exact ⟨_, fd45, _, (df45 F45 (He.glo_ok X G (c.fact 37 (f := .glo "law") rfl))), fun k L => Snd.fn_ok L F45 sc45 ck45 (P.body45 (Snd.stage A.sub (Snd.adrs K T.cls T.nr) (Snd.objsOf K T A.os) (P.sp (Snd.oca K T.ocs)) P.con 45) rfl rfl (gx L) (go L rfl rfl))⟩
  | k + 46, h => cases h
end
/-- the law's def -/
theorem last {Pg : Program} {w : World} {K : PySem.W.Frag} {h : Heap} {mg : Str → Option Value} {f : Addr} (X : K.In h) (G : h.Ns mainGlobals mg) (hf : mg ("law" : Str) = some (.ref f)) (c : He.SaysD fal fnl K) (cc : Snd.consK cl K = true) (sy : Snd.sysB K = true) (ee : Snd.exK T.cls T.nr A.sub K = true) (oo : Snd.objB K T A.os = true) (cm : ∀ (i : Nat) (d : Snd.DefO), fol[i]? = some d → ∃ fd, FunD K d.name d.qual d.params d.body d.scope [] [] (Snd.plA K d.at_) fd) :
    ∃ fd : FuncData, (∀ (s : Shared) (v : Value), BindsTo s fd ⟨[v], []⟩ [("script", v)]) ∧ ∀ base : Heap, Snd.FnG Pg w K mg base false 46 f fd ["script"] (Snd.lift ⟨K, mg, T, Snd.stage A.sub (Snd.adrs K T.cls T.nr) (Snd.objsOf K T A.os) (P.sp (Snd.oca K T.ocs)) P.con 45⟩ (M.cl (P.sp (Snd.oca K T.ocs) 45))) := by
  obtain ⟨fd, F⟩ := c.def_ 37 (d := dd "law" 52) rfl
  have e := hf.symm.trans (He.glo_ok X G (c.fact 37 (f := .glo "law") rfl))
  cases e
  have b := FunD.bindsA (ps := ["script"]) F fun _ _ _ _ _ _ us hl => match us, hl with | [_], _ => rfl
  refine ⟨fd, fun s v => b s [v] rfl, fun base => ?_⟩
  exact Snd.fn_ok (hot := false) (all h X G c cc sy ee oo cm) F sc45 ck45 (P.body45 (Snd.stage A.sub (Snd.adrs K T.cls T.nr) (Snd.objsOf K T A.os) (P.sp (Snd.oca K T.ocs)) P.con 45) rfl rfl (gx (all (Pg := Pg) (w := w) (base := base) h X G c cc sy ee oo cm)) (go (all (Pg := Pg) (w := w) (base := base) h X G c cc sy ee oo cm) rfl rfl))
end K35
open PySem PySem.W PySem.Calls PyProof.Rows
theorem PySem.Challenge.cw_cushionshots_k35_errors_of_balls_holds : PySem.Challenge.rw_cushionshots_k35_errors_of_balls.Holds := by
  w_on; o_law
  refine HandSHeadRun.head_any (r := OpenLaw.row PySem.Challenge.rw_cushionshots_k35_errors_of_balls) (q := view (OpenLaw.row PySem.Challenge.rw_cushionshots_k35_errors_of_balls).prog [52]) (H := K35.hk) (ob := K35.ob) (M := 12000) (loose := K35.loose) (d := HandSHeadRun.topDef (OpenLaw.row PySem.Challenge.rw_cushionshots_k35_errors_of_balls).prog 52) (kwd := []) K35.ob_eq
    (by kernel_rfl) (fun s => by kernel_rfl) K35.run (by kernel_rfl) (by kernel_rfl) (by kernel_rfl) (by rfl) (by first | assumption | decide +kernel) (by decide +kernel) ⟨rfl, rfl, rfl, rfl, rfl, by decide +kernel⟩ ?hw ?hc
  case hw => w_witness2
  case hc =>
    refine Snd.walkG (l := PySem.Challenge.rw_cushionshots_k35_errors_of_balls) (n := 63) (k := 46) (x := "script") (sp := K35.P.sp (fun _ => none) 45) rfl (by decide) (by kernel_rfl) ⟨rfl, by decide, by decide⟩ (fun ns h => ⟨ns, rfl, h, fun _ => rfl⟩) ?F
    intro w mg fa h Y G hmg0
    obtain ⟨K, KX, c⟩ := Y
    obtain ⟨c, cc, sy, ee, oo, cm⟩ := Snd.obsO_says c
    have hmg : mg ("law" : PySem.Str) = some (.ref fa) := by
      have e : (HandSHeadRun.topDef (OpenLaw.row PySem.Challenge.rw_cushionshots_k35_errors_of_balls).prog 52).name = ("law" : PySem.Str) := by kernel_rfl
      rw [← e]
      exact hmg0
    obtain ⟨fd, hb, hF⟩ := K35.last (Pg := PySem.Challenge.rw_cushionshots_k35_errors_of_balls.prog) (w := w) KX G hmg c cc sy ee oo cm
    exact ⟨K, fd, K35.T, _, KX, hb, fun base _ _ => hF base⟩
