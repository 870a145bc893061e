import PyProof.Rows.All
import HandS.ForMost
import HandS.Wide
import HandS.Iter
import KE.SortData
import HandS.ForExc
import HandS.Defaults
import KE.KDictKeyed
import HandS.More
import HandS.Dict
import HandS.TupAny
import HandS.List
import HandS.TupSets
import KE.KeyNested
import HandS.Strs
import HandS.SetKeys
import HandS.TupMul
import HandS.Deep
import PyProof.StrOps2
import HandS.Style
import HandS.Flow
import HandS.IsInst
import HandS.HeadHook1
import HandS.ListItems
import KE.KRevSl
import HandS.Zip
import KE.GoesEnum
import KE.GoesMore
import KE.KDictZip
import KE.GoesZip
import KE.KDictItemsList
import HandS.NoneIn
import HandS.HeadHook2
import HandS.Head2
import HandS.HeadEnd
import HandS.EndBits
import HandS.HeadHook3
import PySem.Challenge.RW_neverstuck_k10_what_follows
import KE.KStateDown
import HandS.Head0
import HandS.Head1
set_option Elab.async false
set_option linter.all false
set_option maxRecDepth 100000
/-! Mn: a small language, its values, its store, its weakest preconditions. -/
namespace Mn
open PySem

/-- a value: data by value, a thing that may change by its address -/
inductive D where
  | non | bl (b : Bool) | int (i : Int) | str (x : Str) | tup (xs : List D)
  /-- a list, a dict with texts for keys, that are only read -/
  | rol (xs : List D) | kdc (ks : List Str) (vs : List D)
  | obj (a : Addr)

mutual
def D.eqb : D → D → Bool
  | .non, .non => true
  | .bl a, .bl b => a == b
  | .int a, .int b => a == b
  | .str a, .str b => decide (a = b)
  | .tup a, .tup b => D.eqbs a b
  | .rol a, .rol b => D.eqbs a b
  | .kdc k a, .kdc l b => decide (k = l) && D.eqbs a b
  | .obj a, .obj b => a == b
  | _, _ => false
def D.eqbs : List D → List D → Bool
  | [], [] => true
  | a :: as, b :: bs => D.eqb a b && D.eqbs as bs
  | _, _ => false
end
mutual
theorem D.eqb_self : ∀ a : D, D.eqb a a = true
  | .non => rfl
  | .bl a => by simp [D.eqb]
  | .int a => by simp [D.eqb]
  | .str a => by simp [D.eqb]
  | .tup a => by rw [D.eqb]; exact D.eqbs_self a
  | .rol a => by rw [D.eqb]; exact D.eqbs_self a
  | .kdc k a => by rw [D.eqb, D.eqbs_self a]; simp
  | .obj a => by simp [D.eqb]
theorem D.eqbs_self : ∀ a : List D, D.eqbs a a = true
  | [] => rfl
  | a :: as => by rw [D.eqbs, D.eqb_self a, D.eqbs_self as]; rfl
end
mutual
theorem D.eqb_eq : ∀ a b : D, D.eqb a b = true → a = b
  | .non, b, h => by cases b <;> simp_all [D.eqb]
  | .bl a, b, h => by cases b <;> simp_all [D.eqb]
  | .int a, b, h => by cases b <;> simp_all [D.eqb]
  | .str a, b, h => by cases b <;> simp_all [D.eqb]
  | .obj a, b, h => by cases b <;> simp_all [D.eqb]
  | .tup a, b, h => by
    cases b with
    | tup b => rw [D.eqb] at h; rw [D.eqbs_eq a b h]
    | _ => simp [D.eqb] at h
  | .rol a, b, h => by
    cases b with
    | rol b => rw [D.eqb] at h; rw [D.eqbs_eq a b h]
    | _ => simp [D.eqb] at h
  | .kdc k a, b, h => by
    cases b with
    | kdc l b =>
      rw [D.eqb, Bool.and_eq_true] at h
      rw [D.eqbs_eq a b h.2, of_decide_eq_true h.1]
    | _ => simp [D.eqb] at h
theorem D.eqbs_eq : ∀ a b : List D, D.eqbs a b = true → a = b
  | [], b, h => by cases b <;> simp_all [D.eqbs]
  | a :: as, [], h => by simp [D.eqbs] at h
  | a :: as, b :: bs, h => by
    rw [D.eqbs, Bool.and_eq_true] at h
    rw [D.eqb_eq a b h.1, D.eqbs_eq as bs h.2]
end
instance : DecidableEq D := fun a b =>
  if h : D.eqb a b = true then isTrue (D.eqb_eq a b h) else isFalse fun e => h (by rw [e]; exact D.eqb_self b)

/-- what stands at an address -/
inductive MO where
  /-- a list -/
  | lst (xs : List D)
  /-- a dict, as it stands (st: its own object) -/
  | dic (kvs : List (D × D)) (st : Obj)
  /-- an instance of the class c, its attributes -/
  | ins (c : Str) (dx : Addr) (fs : List (Str × D))

abbrev Store := Addr → Option MO
def upd (S : Store) (a : Addr) (o : MO) : Store := fun b => if b = a then some o else S b
theorem upd_same {S : Store} {a : Addr} {o : MO} : upd S a o a = some o := by unfold upd; rw [if_pos rfl]
theorem upd_ne {S : Store} {a b : Addr} {o : MO} (h : b ≠ a) : upd S a o b = S b := by unfold upd; rw [if_neg h]
theorem ne_of {S : Store} {a b : Addr} {o : MO} (h : S a = some o) (h' : S b = none) : a ≠ b := by
  intro e; subst e; rw [h] at h'; cases h'

abbrev Env := List (Option D)
abbrev KD := D → Store → Prop
abbrev XP := Str → List (Str × D) → Store → Prop
abbrev EX := Str → List (Str × D) → Env → Store → Prop

/-! ### data -/
mutual
/-- whole numbers, texts, None, tuples of these: what may be a key -/
def D.key : D → Bool
  | .non => true
  | .int _ => true
  | .str _ => true
  | .tup xs => D.keys xs
  | _ => false
def D.keys : List D → Bool
  | [] => true
  | x :: xs => D.key x && D.keys xs
end
/-- a dict's own keys: a whole number, a text | a tuple -/
def D.sca : D → Bool
  | .int _ => true
  | .str _ => true
  | _ => false
def D.tpk : D → Bool
  | .tup xs => D.keys xs
  | _ => false
mutual
def D.dep : D → Nat
  | .tup xs => D.deps xs + 1
  | _ => 0
def D.deps : List D → Nat
  | [] => 0
  | x :: xs => max (D.dep x) (D.deps xs)
end
/-- a key that the dict may be asked -/
def okK (k : D) (kvs : List (D × D)) : Bool := (k.sca && kvs.all (·.1.sca)) || (k.tpk && decide (k.dep ≤ 8) && kvs.all (·.1.tpk))
/-- a pair whose key is a tuple -/
def okT (p : D × D) : Bool := p.1.tpk && decide (p.1.dep ≤ 8)
/-- the list, the dict that a value is -/
def lsOf (S : Store) : D → Option (List D)
  | .obj a => match S a with
    | some (.lst xs) => some xs
    | _ => none
  | .rol xs => some xs
  | _ => none
def kdPairs : List Str → List D → List (D × D)
  | k :: ks, v :: vs => (.str k, v) :: kdPairs ks vs
  | _, _ => []
def dcOf (S : Store) : D → Option (List (D × D))
  | .obj a => match S a with
    | some (.dic kvs _) => some kvs
    | _ => none
  | _ => none
mutual
def py0 : D → Option PyData
  | .non => some .none
  | .bl b => some (.bool b)
  | .int i => some (.int i)
  | .str x => some (.str x)
  | .tup xs => match py0s xs with
    | some ds => some (.tuple ds)
    | none => none
  | .rol xs => match py0s xs with
    | some ds => some (.list ds)
    | none => none
  | .kdc _ _ => none
  | .obj _ => none
def py0s : List D → Option (List PyData)
  | [] => some []
  | x :: xs => match py0 x, py0s xs with
    | some d, some ds => some (d :: ds)
    | _, _ => none
end
/-- data with lists of data -/
def py1 (S : Store) : D → Option PyData
  | .obj a => match S a with
    | some (.lst xs) => match py0s xs with
      | some ds => some (.list ds)
      | none => none
    | _ => none
  | d => py0 d
def dget (kvs : List (D × D)) (k : D) : Option D := match kvs with
  | [] => none
  | p :: r => if p.1 = k then some p.2 else dget r k
def dset (kvs : List (D × D)) (k v : D) : List (D × D) := match kvs with
  | [] => [(k, v)]
  | p :: r => if p.1 = k then (p.1, v) :: r else p :: dset r k v
def ddel (kvs : List (D × D)) (k : D) : List (D × D) := match kvs with
  | [] => []
  | p :: r => if p.1 = k then r else p :: ddel r k
def truth (S : Store) : D → Option Bool
  | .non => some false
  | .bl b => some b
  | .int i => some (i != 0)
  | .str x => if x.length ≤ sizeLine then some ((x.length : Int) != 0) else none
  | .tup xs => some (!xs.isEmpty)
  | .rol xs => some (!xs.isEmpty)
  | .kdc _ _ => none
  | .obj a => match S a with
    | some (.lst xs) => some (!xs.isEmpty)
    | _ => none
/-- a slice -/
def cut {α : Type} (xs : List α) (lo hi : Option Int) : List α := (xs.drop (HT.sIx xs.length 0 lo)).take (HT.sIx xs.length xs.length hi - HT.sIx xs.length 0 lo)

/-! ### operations by values -/
inductive O1 where
  | neg | isN | notN
  deriving DecidableEq
inductive O2 where
  | add | sub | mul | fdiv | mod | pow | eq | ne | lt | le | gt | ge | isin | notin | idx | is | isnt
  deriving DecidableEq
/-- built-ins called by name -/
inductive Bi where
  | len | abs | list | tuple | range | sorted | all | any | min2 | max2 | str | int | dict | sum
  deriving DecidableEq
/-- classes that isinstance names -/
inductive Ty where
  | bool | int | str | tuple | list | dict
  deriving DecidableEq
inductive Mt where
  | append | extend | get | pop | index | join | split | items | values | setdefault
  deriving DecidableEq

def newL (xs : List D) (S : Store) (Q : KD) : Prop := ∀ p, S p = none → Q (.obj p) (upd S p (.lst xs))
def MulOk (i j : Int) : Prop := ∃ a b : Nat, i.natAbs < 2 ^ a ∧ j.natAbs < 2 ^ b ∧ 0 < a ∧ 0 < b ∧ a + b ≤ 1000000
def DivOk (j : Int) : Prop := 0 < j ∧ j.natAbs < 2 ^ 9000
def PowOk (i j : Int) : Prop := 0 ≤ j ∧ j ≤ 1000000 ∧ i.natAbs < 2 ^ 64

def s1 : O1 → D → Store → KD → Prop
  | .neg, .int i, S, Q => Q (.int (-i)) S
  | .isN, d, S, Q => Q (.bl (decide (d = .non))) S
  | .notN, d, S, Q => Q (.bl (!decide (d = .non))) S
  | _, _, _, _ => False

def ltI : O2 → Int → Int → Bool
  | .lt, i, j => decide (i < j)
  | .le, i, j => decide (i ≤ j)
  | .gt, i, j => decide (j < i)
  | _, i, j => decide (j ≤ i)
def ltS : O2 → List Nat → List Nat → Bool
  | .lt, x, y => decide (x < y)
  | .le, x, y => !decide (y < x)
  | .gt, x, y => decide (y < x)
  | _, x, y => !decide (x < y)
def sOrd (o : O2) : D → D → Store → KD → Prop
  | .int i, .int j, S, Q => Q (.bl (ltI o i j)) S
  | .str x, .str y, S, Q => Q (.bl (ltS o x.cps.toList y.cps.toList)) S
  | _, _, _, _ => False
def sEq (neg : Bool) (x y : D) (S : Store) (Q : KD) : Prop :=
  ∃ d e, py1 S x = some d ∧ py1 S y = some e ∧ SeqAt.shaped d = true ∧ SeqAt.shaped e = true ∧ Q (.bl (if neg then !PyData.eqv d e else PyData.eqv d e)) S
def sAdd : D → D → Store → KD → Prop
  | .int i, .int j, S, Q => Q (.int (i + j)) S
  | .str x, .str y, S, Q => x.length + y.length ≤ sizeLine ∧ Q (.str (x ++ y)) S
  | .tup xs, .tup ys, S, Q => (xs ++ ys).length ≤ sizeLine ∧ Q (.tup (xs ++ ys)) S
  | .obj a, .obj b, S, Q => match S a, S b with
    | some (.lst xs), some (.lst ys) => (xs ++ ys).length ≤ sizeLine ∧ newL (xs ++ ys) S Q
    | _, _ => False
  | _, _, _, _ => False
/-- += of whole numbers -/
def sAug : D → D → Store → KD → Prop
  | .int i, .int j, S, Q => Q (.int (i + j)) S
  | _, _, _, _ => False
def sIdx : D → D → Store → KD → Prop
  | .tup xs, .int i, S, Q => match L2.atI xs i with
    | some v => Q v S
    | none => False
  | .rol xs, .int i, S, Q => match L2.atI xs i with
    | some v => Q v S
    | none => False
  | .str x, .int i, S, Q => x.length ≤ sizeLine ∧ match L2.atI x.cps.toList i with
    | some c => Q (.str ⟨#[c]⟩) S
    | none => False
  | .kdc ks vs, .str k, S, Q => match dget (kdPairs ks vs) (.str k) with
    | some v => Q v S
    | none => False
  | .obj a, k, S, Q => match S a with
    | some (.lst xs) => (match k with
      | .int i => (match L2.atI xs i with
        | some v => Q v S
        | none => False)
      | _ => False)
    | some (.dic kvs _) => okK k kvs = true ∧ (match dget kvs k with
      | some v => Q v S
      | none => False)
    | _ => False
  | _, _, _, _ => False
def D.flat : D → Bool
  | .non => true
  | .int _ => true
  | .str _ => true
  | _ => false
def inL (neg : Bool) (x : D) (xs : List D) (S : Store) (Q : KD) : Prop := x.flat = true ∧ xs.all D.flat = true ∧ Q (.bl (if neg then !decide (x ∈ xs) else decide (x ∈ xs))) S
/-- .. of tuples of these, of a list -/
def inLD (neg : Bool) (x : D) (xs : List D) (S : Store) (Q : KD) : Prop := ∃ d ds, py0 x = some d ∧ py0s xs = some ds ∧ SeqAt.shaped d = true ∧ SeqAt.shaped (.list ds) = true ∧ Q (.bl (if neg then !ds.any (fun z => PyData.eqv z d) else ds.any fun z => PyData.eqv z d)) S
def inA (neg : Bool) (x : D) (xs : List D) (S : Store) (Q : KD) : Prop := inL neg x xs S Q ∨ inLD neg x xs S Q
def inD (neg : Bool) (x : D) (kvs : List (D × D)) (S : Store) (Q : KD) : Prop := okK x kvs = true ∧ Q (.bl (if neg then (dget kvs x).isNone else (dget kvs x).isSome)) S
def sIn (neg : Bool) (x : D) : D → Store → KD → Prop
  | .obj a, S, Q => match S a with
    | some (.dic kvs _) => inD neg x kvs S Q
    | some (.lst xs) => inA neg x xs S Q
    | _ => False
  | .kdc ks vs, S, Q => match x with
    | .str k => Q (.bl (if neg then (dget (kdPairs ks vs) (.str k)).isNone else (dget (kdPairs ks vs) (.str k)).isSome)) S
    | _ => False
  | .rol xs, S, Q => inL neg x xs S Q
  | .tup xs, S, Q => inL neg x xs S Q
  | .str z, S, Q => match x with
    | .str c => (match c.cps.toList with
      | [n] => Q (.bl (if neg then !decide (n ∈ z.cps.toList) else decide (n ∈ z.cps.toList))) S
      | _ => False)
    | _ => False
  | _, _, _ => False
/-- a text so many times -/
def repS (x : Str) (n : Nat) : Str := ⟨(List.replicate n x.cps.toList).flatten.toArray⟩
def sMul : D → D → Store → KD → Prop
  | .int i, .int j, S, Q => MulOk i j ∧ Q (.int (i * j)) S
  | .str x, .int k, S, Q => (-(2 ^ 62) ≤ k ∧ k < 2 ^ 62 ∧ x.length * k.toNat ≤ sizeLine) ∧ Q (.str (repS x k.toNat)) S
  | .tup xs, .int k, S, Q => (xs ≠ [] ∧ 2 ≤ k ∧ k ≤ 1000 ∧ xs.length ≤ 1000) ∧ Q (.tup (List.replicate k.toNat xs).flatten) S
  | .obj a, .int k, S, Q => match S a with
    | some (.lst xs) => (-(2 ^ 62) ≤ k ∧ k < 2 ^ 62 ∧ xs.length * k.toNat ≤ sizeLine) ∧ newL (List.replicate k.toNat xs).flatten S Q
    | _ => False
  | _, _, _, _ => False
def s2 : O2 → D → D → Store → KD → Prop
  | .add, x, y, S, Q => sAdd x y S Q
  | .sub, .int i, .int j, S, Q => Q (.int (i - j)) S
  | .mul, x, y, S, Q => sMul x y S Q
  | .fdiv, .int i, .int j, S, Q => DivOk j ∧ Q (.int (i / j)) S
  | .mod, .int i, .int j, S, Q => 0 < j ∧ Q (.int (i % j)) S
  | .pow, .int i, .int j, S, Q => PowOk i j ∧ Q (.int (i ^ j.toNat)) S
  | .eq, x, y, S, Q => sEq false x y S Q
  | .ne, x, y, S, Q => sEq true x y S Q
  | .lt, x, y, S, Q => sOrd .lt x y S Q
  | .le, x, y, S, Q => sOrd .le x y S Q
  | .gt, x, y, S, Q => sOrd .gt x y S Q
  | .ge, x, y, S, Q => sOrd .ge x y S Q
  | .isin, x, y, S, Q => sIn false x y S Q
  | .notin, x, y, S, Q => sIn true x y S Q
  | .idx, x, y, S, Q => sIdx x y S Q
  | .is, .bl i, .bl j, S, Q => Q (.bl (decide (i = j))) S
  | .isnt, .bl i, .bl j, S, Q => Q (.bl (!decide (i = j))) S
  | _, _, _, _, _ => False

/-- a value's class; none within: None's -/
def tyD (S : Store) : D → Option (Option Ty)
  | .non => some none
  | .bl _ => some (some .bool)
  | .int _ => some (some .int)
  | .str _ => some (some .str)
  | .tup _ => some (some .tuple)
  | .rol _ => some (some .list)
  | .kdc _ _ => none
  | .obj a => match S a with
    | some (.lst _) => some (some .list)
    | _ => none
def isTy : Option Ty → Ty → Bool
  | some a, b => decide (a = b) || (decide (a = .bool) && decide (b = .int))
  | none, _ => false

/-- a slice: of a list a new one -/
def sSlc : D → Option Int → Option Int → Store → KD → Prop
  | .str x, lo, hi, S, Q => x.length ≤ sizeLine ∧ Q (.str (L2.cutS x lo hi)) S
  | .tup xs, lo, hi, S, Q => Q (.tup (cut xs lo hi)) S
  | .rol xs, lo, hi, S, Q => newL (cut xs lo hi) S Q
  | .obj a, lo, hi, S, Q => match S a with
    | some (.lst xs) => newL (cut xs lo hi) S Q
    | _ => False
  | _, _, _, _, _ => False

/-- [::-1] -/
def sRev : D → Store → KD → Prop
  | .tup xs, S, Q => Q (.tup xs.reverse) S
  | .rol xs, S, Q => newL xs.reverse S Q
  | .obj a, S, Q => match S a with
    | some (.lst xs) => newL xs.reverse S Q
    | _ => False
  | _, _, _ => False
/-- list(d.items()) -/
def sItms : D → Store → KD → Prop
  | .obj a, S, Q => match S a with
    | some (.dic kvs _) => kvs.all (·.1.sca) = true ∧ newL (kvs.map fun p => .tup [p.1, p.2]) S Q
    | _ => False
  | _, _, _ => False
def bls : List D → Option (List Bool)
  | [] => some []
  | .bl b :: xs => match bls xs with
    | some bs => some (b :: bs)
    | none => none
  | _ :: _ => none
def wholes : List D → Option (List Int)
  | [] => some []
  | .int b :: xs => match wholes xs with
    | some bs => some (b :: bs)
    | none => none
  | _ :: _ => none
/-- the pairs of which a dict is made -/
def prs : List D → Option (List (D × D))
  | [] => some []
  | .tup [k, v] :: xs => match prs xs with
    | some r => some ((k, v) :: r)
    | none => none
  | _ :: _ => none
def dmerge (kvs : List (D × D)) : List (D × D) → List (D × D)
  | [] => kvs
  | p :: r => dmerge (dset kvs p.1 p.2) r
def newD (kvs : List (D × D)) (S : Store) (Q : KD) : Prop := ∀ p st, S p = none → Q (.obj p) (upd S p (.dic kvs st))

/-- keys and values by turns -/
def pairsOf : List D → Option (List (D × D))
  | [] => some []
  | [_] => none
  | k :: v :: r => match pairsOf r with
    | some ps => some ((k, v) :: ps)
    | none => none
/-- what is gone through: its things, what must stay meanwhile -/
def iters (d : D) (S : Store) : Option (List D × (Store → Prop)) := match d with
  | .tup xs => some (xs, fun _ => True)
  | .rol xs => some (xs, fun _ => True)
  | .obj a => match S a with
    | some (.lst xs) => some (xs, fun S' => S' a = some (.lst xs))
    | some (.dic kvs st) => some (kvs.map (·.1), fun S' => S' a = some (.dic kvs st))
    | _ => none
  | .str x => some (x.cps.toList.map fun c => .str ⟨#[c]⟩, fun _ => True)
  | _ => none
/-- of enumerate, of zip: lists, tuples -/
def itL (d : D) (S : Store) : Option (List D × (Store → Prop)) := match d with
  | .tup xs => some (xs, fun _ => True)
  | .rol xs => some (xs, fun _ => True)
  | .obj a => match S a with
    | some (.lst xs) => some (xs, fun S' => S' a = some (.lst xs))
    | _ => none
  | _ => none
def enumD (k : Nat) : List D → List D
  | [] => []
  | x :: xs => .tup [.int (k : Nat), x] :: enumD (k + 1) xs
def zipD : List D → List D → List D
  | x :: xs, y :: ys => .tup [x, y] :: zipD xs ys
  | _, _ => []
/-- list(zip(x, y)) -/
def sLzip (x y : D) (S : Store) (Q : KD) : Prop := ∃ r, itL x S = some r ∧ ∃ q, itL y S = some q ∧ newL (zipD r.1 q.1) S Q
def itZ (x y : D) (S : Store) : Option (List D × (Store → Prop)) := match x, y with
  | .tup xs, .tup ys => some (zipD xs ys, fun _ => True)
  | .obj a, .obj b => match S a, S b with
    | some (.lst xs), some (.lst ys) => some (zipD xs ys, fun S' => S' a = some (.lst xs) ∧ S' b = some (.lst ys))
    | _, _ => none
  | .tup xs, .obj b => match S b with
    | some (.lst ys) => some (zipD xs ys, fun S' => S' b = some (.lst ys))
    | _ => none
  | .obj a, .tup ys => match S a with
    | some (.lst xs) => some (zipD xs ys, fun S' => S' a = some (.lst xs))
    | _ => none
  | _, _ => none
def rngD (lo : Int) : Nat → List D
  | 0 => []
  | n + 1 => .int lo :: rngD (lo + 1) n

/-- list(range(n)) -/
def sLrng : D → Store → KD → Prop
  | .int n, S, Q => (0 ≤ n ∧ n ≤ 10000) ∧ newL (rngD 0 n.toNat) S Q
  | _, _, _ => False
def strsD : List D → Option (List Str)
  | [] => some []
  | .str b :: xs => match strsD xs with
    | some bs => some (b :: bs)
    | none => none
  | _ :: _ => none
/-! sets: their lengths, sorted -/
/-- each thing once -/
def dd : List D → List D
  | [] => []
  | x :: r => if x ∈ dd r then dd r else x :: dd r
def seqOf (S : Store) : D → Option (List D)
  | .tup xs => some xs
  | .obj a => match S a with
    | some (.lst xs) => some xs
    | _ => none
  | _ => none
def okTk (d : D) : Bool := d.tpk && decide (d.dep ≤ 8)
def pyD (d : D) : PyData := (py0 d).getD .none
/-- the order of sorted -/
def leP (x y : D) : Bool := !PySem.W.dataLt (pyD y) (pyD x)
def sLset (x : D) (S : Store) (Q : KD) : Prop := ∃ xs, seqOf S x = some xs ∧ xs.length < 64 ∧ (xs.all D.sca = true ∨ xs.all okTk = true) ∧ Q (.int (dd xs).length) S
def sSset (x : D) (S : Store) (Q : KD) : Prop := ∃ xs, seqOf S x = some xs ∧ xs.length < 64 ∧ xs.all okTk = true ∧ PySem.W.AllAlike (xs.map pyD) ∧ PySem.W.Sortable (xs.map pyD) ∧
  ∀ ys : List D, ys.Perm (dd xs) → ys.Pairwise (fun q r => leP q r = true) → newL ys S Q
def rngS (lo c : Int) : Nat → List D
  | 0 => []
  | n + 1 => .int lo :: rngS (lo + c) c n
/-- sorted: of texts, of whole numbers -/
def srtD (xs : List D) (S : Store) (Q : KD) : Prop := xs.length < 64 ∧ match strsD xs with
  | some ks => ∀ ys : List Str, ys.Perm ks → PyProof.Rows.sortedS ys = true → newL (ys.map D.str) S Q
  | none => match wholes xs with
    | some ns => ∀ ms : List Int, ms.Perm ns → ms.Pairwise (· ≤ ·) → newL (ms.map D.int) S Q
    | none => False
def srtK (xs : List D) (S : Store) (Q : KD) : Prop := xs.length < 64 ∧ match strsD xs with
  | some ks => ∀ ys : List Str, ys.Perm ks → PyProof.Rows.sortedS ys = true → newL (ys.map D.str) S Q
  | none => False
def wList (f : List D → Prop) (o : Option (List D)) : Prop := match o with
  | some xs => f xs
  | none => False
def sBi : Bi → List D → Store → KD → Prop
  | .len, [.str x], S, Q => x.length ≤ sizeLine ∧ Q (.int x.length) S
  | .len, [.tup xs], S, Q => Q (.int xs.length) S
  | .len, [.rol xs], S, Q => Q (.int xs.length) S
  | .len, [.obj a], S, Q => match S a with
    | some (.lst xs) => Q (.int xs.length) S
    | some (.dic kvs _) => kvs.all (·.1.sca) = true ∧ Q (.int kvs.length) S
    | _ => False
  | .abs, [.int i], S, Q => Q (.int (if i < 0 then -i else i)) S
  | .list, [.tup xs], S, Q => newL xs S Q
  | .list, [x], S, Q => wList (fun xs => newL xs S Q) (lsOf S x)
  | .tuple, [.tup xs], S, Q => Q (.tup xs) S
  | .tuple, [x], S, Q => wList (fun xs => Q (.tup xs) S) (lsOf S x)
  | .all, [x], S, Q => wList (fun xs => match bls xs with
    | some bs => Q (.bl (bs.all id)) S
    | none => False) (lsOf S x)
  | .any, [x], S, Q => wList (fun xs => match bls xs with
    | some bs => Q (.bl (bs.any id)) S
    | none => False) (lsOf S x)
  | .int, [.int i], S, Q => Q (.int i) S
  | .int, [.bl b], S, Q => Q (.int (if b then 1 else 0)) S
  | .min2, [.int i, .int j], S, Q => Q (.int (if j < i then j else i)) S
  | .max2, [.int i, .int j], S, Q => Q (.int (if j > i then j else i)) S
  | .dict, [.obj a], S, Q => match S a with
    | some (.lst xs) => (match prs xs with
      | some kvs => (kvs.all (·.1.sca) = true ∨ kvs.all okT = true) ∧ newD (dmerge [] kvs) S Q
      | none => False)
    | some (.dic kvs _) => kvs.all (·.1.sca) = true ∧ newD kvs S Q
    | _ => False
  | .sorted, [.obj a], S, Q => match S a with
    | some (.lst xs) => srtD xs S Q
    | some (.dic kvs _) => srtK (kvs.map (·.1)) S Q
    | _ => False
  | .sum, [x], S, Q => wList (fun xs => match wholes xs with
    | some ns => Q (.int ns.sum) S
    | none => False) (lsOf S x)
  | _, _, _, _ => False

def sMt : Mt → D → List D → Store → KD → Prop
  | .append, .obj a, [x], S, Q => match S a with
    | some (.lst xs) => xs.length < sizeLine ∧ Q .non (upd S a (.lst (xs ++ [x])))
    | _ => False
  | .extend, .obj a, [.obj b], S, Q => match S a, S b with
    | some (.lst xs), some (.lst ys) => (xs ++ ys).length ≤ sizeLine ∧ Q .non (upd S a (.lst (xs ++ ys)))
    | _, _ => False
  | .pop, .obj a, [], S, Q => match S a with
    | some (.lst xs) => ∃ y, xs[xs.length - 1]? = some y ∧ Q y (upd S a (.lst xs.dropLast))
    | _ => False
  | .index, .obj a, [x], S, Q => match S a with
    | some (.lst xs) => ∃ d ds j z, py0 x = some d ∧ py0s xs = some ds ∧ SeqAt.shaped d = true ∧ SeqAt.shaped (.list ds) = true ∧ ds[j]? = some z ∧ PyData.eqv z d = true ∧ (∀ (m : Nat) (z' : PyData), m < j → ds[m]? = some z' → PyData.eqv z' d = false) ∧ Q (.int (j : Nat)) S
    | _ => False
  | .get, .kdc ks vs, [.str k], S, Q => Q ((dget (kdPairs ks vs) (.str k)).getD .non) S
  | .get, .kdc ks vs, [.str k, x], S, Q => Q ((dget (kdPairs ks vs) (.str k)).getD x) S
  | .get, d, [k], S, Q => match dcOf S d with
    | some kvs => okK k kvs = true ∧ Q ((dget kvs k).getD .non) S
    | none => False
  | .get, d, [k, x], S, Q => match dcOf S d with
    | some kvs => okK k kvs = true ∧ Q ((dget kvs k).getD x) S
    | none => False
  | _, _, _, _, _ => False

/-- what a method asks of its thing ahead of its arguments -/
def mtPre : Mt → D → Store → Prop
  | .append, .obj a, S => match S a with
    | some (.lst _) => True
    | _ => False
  | .extend, .obj a, S => match S a with
    | some (.lst _) => True
    | _ => False
  | .pop, .obj a, S => match S a with
    | some (.lst _) => True
    | _ => False
  | .index, .obj a, S => match S a with
    | some (.lst _) => True
    | _ => False
  | .get, .obj a, S => match S a with
    | some (.dic _ _) => True
    | _ => False
  | .get, .kdc _ _, _ => True
  | _, _, _ => False

/-- o[i] = v -/
def sSet : D → D → D → Store → (Store → Prop) → Prop
  | .obj a, k, v, S, Q => match S a with
    | some (.lst xs) => (match k with
      | .int i => 0 ≤ i ∧ i < xs.length ∧ Q (upd S a (.lst (xs.set i.toNat v)))
      | _ => False)
    | some (.dic kvs _) => okK k kvs = true ∧ kvs.length < sizeLine ∧ ∀ st, Q (upd S a (.dic (dset kvs k v) st))
    | _ => False
  | _, _, _, _, _ => False

/-! ### the language -/
mutual
inductive G where
  | nm (i : Nat) | tp (gs : Gs)
inductive Gs where
  | nil | cons (g : G) (gs : Gs)
end
mutual
inductive E where
  | var (i : Nat) | cst (d : D) | glb (x : Str) (d : D)
  | tup (es : Es) | lst (es : Es) | dct (es : Es)
  | o1 (o : O1) (a : E) | o2 (o : O2) (a b : E) | chn (o p : O2) (a b c : E)
  | isi (a : E) (t : Ty)
  | not (a : E) | and (a b : E) | or (a b : E) | ife (c a b : E)
  | slc (a : E) (lo hi : OE)
  | rev (a : E) | itms (a : E) | lrng (a : E) | lzip (a b : E) | lset (a : E) | sset (a : E)
  | comp (elt : E) (g : G) (own : List (Str × Nat)) (it : It) (c : OE)
  | call (f : Nat) (es : Es)
  | bi (b : Bi) (es : Es)
  | mth (m : Mt) (o : E) (es : Es)
  | fld (o : E) (f : Str)
inductive Es where
  | nil | cons (e : E) (es : Es)
inductive OE where
  | no | so (e : E)
inductive It where
  | e (a : E) | rng (a : E) | rng2 (a b : E) | rng3 (a b c : E) | enm (a : E) | zip (a b : E)
end
mutual
inductive St where
  | set (g : G) (e : E) | unl (gs : Gs) (e : E) | par (i j : Nat) (a b : E) | sub (o i e : E) | fset (o : E) (f : Str) (e : E) | aug (i : Nat) (e : E)
  | ife (c : E) (a b : Ss) | for_ (g : G) (it : It) (b : Ss) | whl (c : E) (b : Ss)
  | ret (e : E) | retN | exp (e : E) | doc | pass | brk | cont | rse
inductive Ss where
  | nil | cons (s : St) (r : Ss)
end

structure Ends where
  nx : Env → Store → Prop
  rt : KD
  bk : Env → Store → Prop
  ct : Env → Store → Prop
  ex : EX

/-- a call: the def, the arguments -/
abbrev Cl := Nat → List D → Store → KD → XP → Prop

mutual
def wG : G → D → Env → (Env → Prop) → Prop
  | .nm i, d, env, Q => Q (env.set i (some d))
  | .tp gs, .tup xs, env, Q => wGs gs xs env Q
  | .tp _, _, _, _ => False
def wGs : Gs → List D → Env → (Env → Prop) → Prop
  | .nil, [], env, Q => Q env
  | .cons g gs, x :: xs, env, Q => wG g x env fun env' => wGs gs xs env' Q
  | _, _, _, _ => False
end

/-- a comprehension's turns -/
def wComp (tg : D → Env → (Env → Prop) → Prop) (test : Env → Store → (Bool → Store → Prop) → Prop) (elt : Env → Store → KD → Prop) (guard : Store → Prop) (env : Env) (Q : List D → Store → Prop) : List D → List D → Store → Prop
  | [], acc, S => guard S ∧ Q acc S
  | x :: xs, acc, S => guard S ∧ tg x env fun env' => test env' S fun b S1 =>
      if b = true then elt env' S1 fun d S2 => acc.length < sizeLine ∧ wComp tg test elt guard env Q xs (acc ++ [d]) S2 else wComp tg test elt guard env Q xs acc S1
/-- a for's turns -/
def wFor (tg : D → Env → (Env → Prop) → Prop) (body : Ends → Env → Store → Prop) (guard : Store → Prop) (K : Ends) : List D → Env → Store → Prop
  | [], env, S => guard S ∧ K.nx env S
  | x :: xs, env, S => guard S ∧ tg x env fun env' => body { K with nx := wFor tg body guard K xs, ct := wFor tg body guard K xs, bk := K.nx } env' S
/-- a while's turns, n at most -/
def wWhl (test : Env → Store → (Bool → Store → Prop) → Prop) (body : Ends → Env → Store → Prop) (K : Ends) : Nat → Env → Store → Prop
  | 0, _, _ => False
  | n + 1, env, S => test env S fun b S1 => if b = true then body { K with nx := wWhl test body K n, ct := wWhl test body K n, bk := K.nx } env S1 else K.nx env S1

def wipe (env : Env) : List Nat → Env
  | [] => env
  | v :: vs => (wipe env vs).set v none

section
variable (Γ : Cl)
mutual
def wE (ex : EX) : E → Env → Store → KD → Prop
  | .var i, env, S, Q => ∃ d, env[i]? = some (some d) ∧ Q d S
  | .cst d, _, S, Q => Q d S
  | .glb _ d, _, S, Q => Q d S
  | .tup es, env, S, Q => wEs ex es env S fun ds S1 => ds.length ≤ sizeLine ∧ Q (.tup ds) S1
  | .lst es, env, S, Q => wEs ex es env S fun ds S1 => ds.length ≤ sizeLine ∧ newL ds S1 Q
  | .dct es, env, S, Q => wEs ex es env S fun ds S1 => match pairsOf ds with
    | some kvs => kvs.length ≤ 15 ∧ kvs.all (·.1.sca) = true ∧ newD (dmerge [] kvs) S1 Q
    | none => False
  | .o1 o a, env, S, Q => wE ex a env S fun x S1 => s1 o x S1 Q
  | .o2 o a b, env, S, Q => wE ex a env S fun x S1 => wE ex b env S1 fun y S2 => s2 o x y S2 Q
  | .chn o p a b c, env, S, Q => wE ex a env S fun x S1 => wE ex b env S1 fun y S2 => s2 o x y S2 fun z S3 => ∃ k, z = .bl k ∧ if k = true then wE ex c env S3 fun u S4 => s2 p y u S4 fun w S5 => ∃ j, w = .bl j ∧ Q (.bl j) S5 else Q (.bl false) S3
  | .isi a t, env, S, Q => wE ex a env S fun x S1 => match tyD S1 x with
    | some y => Q (.bl (isTy y t)) S1
    | none => False
  | .not a, env, S, Q => wE ex a env S fun d S1 => ∃ b, truth S1 d = some b ∧ Q (.bl (!b)) S1
  | .and a b, env, S, Q => wE ex a env S fun x S1 => ∃ c, truth S1 x = some c ∧ if c = true then wE ex b env S1 Q else Q x S1
  | .or a b, env, S, Q => wE ex a env S fun x S1 => ∃ c, truth S1 x = some c ∧ if c = true then Q x S1 else wE ex b env S1 Q
  | .ife c a b, env, S, Q => wE ex c env S fun d S1 => ∃ t, truth S1 d = some t ∧ if t = true then wE ex a env S1 Q else wE ex b env S1 Q
  | .slc a lo hi, env, S, Q => wE ex a env S fun x S1 => wO ex lo env S1 fun l S2 => wO ex hi env S2 fun h S3 => sSlc x l h S3 Q
  | .rev a, env, S, Q => wE ex a env S fun x S1 => sRev x S1 Q
  | .itms a, env, S, Q => wE ex a env S fun x S1 => sItms x S1 Q
  | .lrng a, env, S, Q => wE ex a env S fun d S1 => sLrng d S1 Q
  | .lzip a b, env, S, Q => wE ex a env S fun x S1 => wE ex b env S1 fun y S2 => sLzip x y S2 Q
  | .lset a, env, S, Q => wE ex a env S fun x S1 => sLset x S1 Q
  | .sset a, env, S, Q => wE ex a env S fun x S1 => sSset x S1 Q
  | .comp elt g own it c, env, S, Q => wI ex it env S fun items guard S1 =>
      wComp (wG g) (fun e S' K => wC c e S' K) (fun e S' K => wE (fun _ _ _ _ => False) elt e S' K) guard (wipe env (own.map (·.2))) (fun acc S' => newL acc S' Q) items [] S1
  | .call f es, env, S, Q => wEs ex es env S fun ds S1 => Γ f ds S1 Q fun c fs S' => ex c fs env S'
  | .bi b es, env, S, Q => wEs ex es env S fun ds S1 => sBi b ds S1 Q
  | .mth m o es, env, S, Q => wE ex o env S fun x S1 => mtPre m x S1 ∧ wEs ex es env S1 fun ds S2 => sMt m x ds S2 Q
  | .fld o f, env, S, Q => wE ex o env S fun x S1 => ∃ a c dx fs v, x = .obj a ∧ S1 a = some (.ins c dx fs) ∧ fs.lookup f = some v ∧ Q v S1
def wEs (ex : EX) : Es → Env → Store → (List D → Store → Prop) → Prop
  | .nil, _, S, Q => Q [] S
  | .cons e es, env, S, Q => wE ex e env S fun d S1 => wEs ex es env S1 fun ds S2 => Q (d :: ds) S2
def wO (ex : EX) : OE → Env → Store → (Option Int → Store → Prop) → Prop
  | .no, _, S, Q => Q none S
  | .so e, env, S, Q => wE ex e env S fun d S1 => ∃ i, d = .int i ∧ Q (some i) S1
def wC : OE → Env → Store → (Bool → Store → Prop) → Prop
  | .no, _, S, Q => Q true S
  | .so e, env, S, Q => wE (fun _ _ _ _ => False) e env S fun d S1 => ∃ b, truth S1 d = some b ∧ Q b S1
def wI (ex : EX) : It → Env → Store → (List D → (Store → Prop) → Store → Prop) → Prop
  | .e a, env, S, Q => wE ex a env S fun d S1 => ∃ r, iters d S1 = some r ∧ Q r.1 r.2 S1
  | .rng a, env, S, Q => wE ex a env S fun d S1 => match d with
    | .int n => (-(2 ^ 62) ≤ n ∧ n < 2 ^ 62) ∧ Q (rngD 0 n.toNat) (fun _ => True) S1
    | _ => False
  | .rng2 a b, env, S, Q => wE ex a env S fun d S1 => wE ex b env S1 fun e S2 => match d, e with
    | .int m, .int n => (-(2 ^ 62) ≤ m ∧ m < 2 ^ 62 ∧ -(2 ^ 62) ≤ n ∧ n < 2 ^ 62) ∧ Q (rngD m (n - m).toNat) (fun _ => True) S2
    | _, _ => False
  | .rng3 a b c, env, S, Q => wE ex a env S fun d S1 => wE ex b env S1 fun e S2 => wE ex c env S2 fun f S3 => ∃ i j k n, d = .int i ∧ e = .int j ∧ f = .int k ∧ L2.RgC i j k n ∧ Q (rngS i k n) (fun _ => True) S3
  | .enm a, env, S, Q => wE ex a env S fun d S1 => ∃ r, itL d S1 = some r ∧ Q (enumD 0 r.1) r.2 S1
  | .zip a b, env, S, Q => wE ex a env S fun x S1 => wE ex b env S1 fun y S2 => ∃ r, itZ x y S2 = some r ∧ Q r.1 r.2 S2
end
def wT (ex : EX) (e : E) (env : Env) (S : Store) (Q : Bool → Store → Prop) : Prop := wE Γ ex e env S fun d S1 => ∃ b, truth S1 d = some b ∧ Q b S1
mutual
def wS : St → Ends → Env → Store → Prop
  | .set g e, K, env, S => wE Γ K.ex e env S fun d S1 => wG g d env fun env' => K.nx env' S1
  | .unl gs e, K, env, S => wE Γ K.ex e env S fun d S1 => ∃ xs, lsOf S1 d = some xs ∧ wG (.tp gs) (.tup xs) env fun env' => K.nx env' S1
  | .par i j a b, K, env, S => wE Γ K.ex a env S fun x S1 => wE Γ K.ex b env S1 fun y S2 => K.nx ((env.set i (some x)).set j (some y)) S2
  | .sub o i e, K, env, S => wE Γ K.ex e env S fun v S1 => wE Γ K.ex o env S1 fun x S2 => wE Γ K.ex i env S2 fun k S3 => sSet x k v S3 fun S4 => K.nx env S4
  | .fset o f e, K, env, S => wE Γ K.ex e env S fun v S1 => wE Γ K.ex o env S1 fun x S2 => ∃ a c dx fs, x = .obj a ∧ S2 a = some (.ins c dx fs) ∧ fs.length < 1000 ∧ K.nx env (upd S2 a (.ins c dx fs))
  | .aug i e, K, env, S => ∃ x, env[i]? = some (some x) ∧ wE Γ K.ex e env S fun y S1 => sAug x y S1 fun z S2 => K.nx (env.set i (some z)) S2
  | .ife c a b, K, env, S => wT Γ K.ex c env S fun t S1 => if t = true then wSs a K env S1 else wSs b K env S1
  | .for_ g it b, K, env, S => wI Γ K.ex it env S fun items guard S1 => wFor (wG g) (fun K' e S' => wSs b K' e S') guard K items env S1
  | .whl c b, K, env, S => ∃ n, wWhl (fun e S' Q => wT Γ K.ex c e S' Q) (fun K' e S' => wSs b K' e S') K n env S
  | .ret e, K, env, S => wE Γ K.ex e env S K.rt
  | .retN, K, _, S => K.rt .non S
  | .exp e, K, env, S => wE Γ K.ex e env S fun _ S1 => K.nx env S1
  | .doc, K, env, S => K.nx env S
  | .pass, K, env, S => K.nx env S
  | .brk, K, env, S => K.bk env S
  | .rse, _, _, _ => False
  | .cont, K, env, S => K.ct env S
def wSs : Ss → Ends → Env → Store → Prop
  | .nil, K, env, S => K.nx env S
  | .cons s r, K, env, S => wS s { K with nx := fun env' S' => wSs r K env' S' } env S
end
end

/-- a def: how many parameters, how many names, its body -/
structure FD where
  np : Nat
  ns : Nat
  body : Ss
def callN (T : Nat → Option FD) : Nat → Cl
  | 0, _, _, _, _, _ => False
  | n + 1, f, ds, S, Q, R => ∃ fd, T f = some fd ∧ ds.length = fd.np ∧
      wSs (callN T n) fd.body { nx := fun _ S' => Q .non S', rt := Q, bk := fun _ _ => False, ct := fun _ _ => False, ex := fun c fs _ S' => R c fs S' } (ds.map some ++ List.replicate (fd.ns - ds.length) none) S
end Mn

/-! Sim1: what a value, a store, the names' values of Mn stand for over the abstract heap. -/
namespace Mn
open PySem PySem.Spec PyProof.Rows L2

/-- what readings lean on: known objects, the program, the world -/
structure Kx where
  K : PySem.W.Frag
  P : Program
  w : World
abbrev _root_.L2.Cx.x (X : Cx) : Kx := ⟨X.K, X.prog, X.w⟩
/-- a list that is only read -/
def SqR (K : Kx) (H : Hp) (a : Addr) (xs : List V) : Prop :=
  (∃ o, H a = some (.frz o (.lst xs))) ∨
    ∃ (o : Obj) (its : Array Value) (n : Nat), K.K.lookup a = some o ∧ o.cls = .type "list" ∧ o.dict = none ∧ o.data = .seq its n ∧ its.size ≤ sizeLine ∧ Vals xs its.toList
theorem SqR.l {K : Kx} {H : Hp} {a : Addr} {xs : List V} (h : SqR K H a xs) : SqL K.K H a xs := by
  rcases h with ⟨o, h⟩ | h
  · exact .inl (.inr ⟨o, h⟩)
  · exact .inr h

/-- a dict of the module, entry by entry -/
inductive EsR : List DictEntry → List Str → List V → Prop
  | nil : EsR [] [] []
  | cons {e : DictEntry} {x : Str} {t : Tok} {v : V} {r : List DictEntry} {ks : List Str} {us : List V} : e.key = .str x t → RelV v e.val → EsR r ks us → EsR (e :: r) (x :: ks) (v :: us)
mutual
inductive Rep (K : Kx) (H : Hp) : D → V → Prop
  | non : Rep K H .non .non
  | bl (b : Bool) : Rep K H (.bl b) (.bl b)
  | int (i : Int) : Rep K H (.int i) (.int i)
  | str (x : Str) : Rep K H (.str x) (.str x)
  | tup {a : Addr} {vs : List V} {ds : List D} : SqT K.K H a vs → Reps K H ds vs → Rep K H (.tup ds) (.ref a)
  | rol {a : Addr} {vs : List V} {ds : List D} : SqR K H a vs → Reps K H ds vs → Rep K H (.rol ds) (.ref a)
  | obj (a : Addr) : Rep K H (.obj a) (.ref a)
  | kdc {a : Addr} {es : Array DictEntry} {n : Nat} {ks : List Str} {us : List V} {ds : List D} : KDict K.K K.w a es n → EsR es.toList ks us → Reps K H ds us → Rep K H (.kdc ks ds) (.ref a)
inductive Reps (K : Kx) (H : Hp) : List D → List V → Prop
  | nil : Reps K H [] []
  | cons {d : D} {v : V} {ds : List D} {vs : List V} : Rep K H d v → Reps K H ds vs → Reps K H (d :: ds) (v :: vs)
end

/-- nothing that is not changed is lost -/
def Stay (H H' : Hp) : Prop := (∀ b xs, H b = some (.tup xs) → H' b = some (.tup xs)) ∧ (∀ b o u, H b = some (.frz o u) → H' b = some (.frz o u))
theorem Stay.refl {H : Hp} : Stay H H := ⟨fun _ _ h => h, fun _ _ _ h => h⟩
theorem Stay.of_ext {H H' : Hp} (h : ∀ a o, H a = some o → H' a = some o) : Stay H H' := ⟨fun _ _ e => h _ _ e, fun _ _ _ e => h _ _ e⟩
theorem Stay.sqt {K : Kx} {H H' : Hp} {a : Addr} {xs : List V} (s : Stay H H') (h : SqT K.K H a xs) : SqT K.K H' a xs := by
  rcases h with (h | ⟨o, h⟩) | h
  · exact .inl (.inl (s.1 _ _ h))
  · exact .inl (.inr ⟨o, s.2 _ _ _ h⟩)
  · exact .inr h
theorem Stay.sqr {K : Kx} {H H' : Hp} {a : Addr} {xs : List V} (s : Stay H H') (h : SqR K H a xs) : SqR K H' a xs := by
  rcases h with ⟨o, h⟩ | h
  · exact .inl ⟨o, s.2 _ _ _ h⟩
  · exact .inr h
mutual
theorem Rep.stay {K : Kx} {H H' : Hp} (s : Stay H H') : ∀ {d : D} {v : V}, Rep K H d v → Rep K H' d v
  | _, _, .non => .non
  | _, _, .bl b => .bl b
  | _, _, .int i => .int i
  | _, _, .str x => .str x
  | _, _, .tup h r => .tup (s.sqt h) (Reps.stay s r)
  | _, _, .rol h r => .rol (s.sqr h) (Reps.stay s r)
  | _, _, .obj a => .obj a
  | _, _, .kdc h e r => .kdc h e (Reps.stay s r)
theorem Reps.stay {K : Kx} {H H' : Hp} (s : Stay H H') : ∀ {ds : List D} {vs : List V}, Reps K H ds vs → Reps K H' ds vs
  | _, _, .nil => .nil
  | _, _, .cons h r => .cons (Rep.stay s h) (Reps.stay s r)
end
theorem Reps.length {K : Kx} {H : Hp} : ∀ {ds : List D} {vs : List V}, Reps K H ds vs → ds.length = vs.length
  | _, _, .nil => rfl
  | _, _, .cons _ r => by rw [List.length_cons, List.length_cons, Reps.length r]
theorem Reps.get {K : Kx} {H : Hp} : ∀ {ds : List D} {vs : List V} {i : Nat} {d : D}, Reps K H ds vs → ds[i]? = some d → ∃ v, vs[i]? = some v ∧ Rep K H d v
  | _, _, _, _, .nil, e => by simp at e
  | _, _, 0, _, .cons h _, e => by simp at e; subst e; exact ⟨_, rfl, h⟩
  | _, _, i + 1, _, .cons _ r, e => by
    obtain ⟨v, h1, h2⟩ := Reps.get (i := i) r (by simpa using e)
    exact ⟨v, by simpa using h1, h2⟩
theorem Reps.get' {K : Kx} {H : Hp} : ∀ {ds : List D} {vs : List V} {i : Nat} {v : V}, Reps K H ds vs → vs[i]? = some v → ∃ d, ds[i]? = some d ∧ Rep K H d v
  | _, _, _, _, .nil, e => by simp at e
  | _, _, 0, _, .cons h _, e => by simp at e; subst e; exact ⟨_, rfl, h⟩
  | _, _, i + 1, _, .cons _ r, e => by
    obtain ⟨v, h1, h2⟩ := Reps.get' (i := i) r (by simpa using e)
    exact ⟨v, by simpa using h1, h2⟩
theorem Reps.append {K : Kx} {H : Hp} : ∀ {ds es : List D} {vs ws : List V}, Reps K H ds vs → Reps K H es ws → Reps K H (ds ++ es) (vs ++ ws)
  | _, _, _, _, .nil, s => s
  | _, _, _, _, .cons h r, s => .cons h (Reps.append r s)
theorem Reps.set {K : Kx} {H : Hp} {d : D} {v : V} (q : Rep K H d v) : ∀ {ds : List D} {vs : List V} (i : Nat), Reps K H ds vs → Reps K H (ds.set i d) (vs.set i v)
  | _, _, _, .nil => .nil
  | _, _, 0, .cons _ r => .cons q r
  | _, _, i + 1, .cons h r => .cons h (Reps.set q i r)
theorem Reps.take {K : Kx} {H : Hp} : ∀ {ds : List D} {vs : List V} (n : Nat), Reps K H ds vs → Reps K H (ds.take n) (vs.take n)
  | _, _, 0, _ => by simp only [List.take_zero]; exact .nil
  | _, _, _ + 1, .nil => .nil
  | _, _, n + 1, .cons h r => .cons h (Reps.take n r)
theorem Reps.drop {K : Kx} {H : Hp} : ∀ {ds : List D} {vs : List V} (n : Nat), Reps K H ds vs → Reps K H (ds.drop n) (vs.drop n)
  | _, _, 0, r => r
  | _, _, _ + 1, .nil => .nil
  | _, _, n + 1, .cons _ r => Reps.drop n r
theorem Reps.cutD {K : Kx} {H : Hp} {ds : List D} {vs : List V} (lo hi : Option Int) (r : Reps K H ds vs) : Reps K H (Mn.cut ds lo hi) (cutV vs lo hi) := by
  unfold Mn.cut cutV
  rw [r.length]
  exact (r.drop _).take _
theorem atI_rep {K : Kx} {H : Hp} {ds : List D} {vs : List V} {i : Int} {d : D} (r : Reps K H ds vs) (e : L2.atI ds i = some d) : ∃ v, L2.atI vs i = some v ∧ Rep K H d v := by
  unfold L2.atI at e ⊢
  rw [r.length] at e
  cases q : ixN vs.length i with
  | none => rw [q] at e; cases e
  | some j =>
    rw [q] at e
    exact r.get (i := j) e

/-- a dict's key -/
def keyD : Key → D
  | .inl i => .int i
  | .inr x => .str x
/-- a dict's things, its keys whole numbers and texts -/
inductive KR (K : Kx) (H : Hp) : List (D × D) → List (Key × V) → Prop
  | nil : KR K H [] []
  | cons {k : Key} {d : D} {v : V} {r : List (D × D)} {s : List (Key × V)} : Rep K H d v → KR K H r s → KR K H ((keyD k, d) :: r) ((k, v) :: s)
theorem KR.stay {K : Kx} {H H' : Hp} (s : Stay H H') : ∀ {r : List (D × D)} {t : List (Key × V)}, KR K H r t → KR K H' r t
  | _, _, .nil => .nil
  | _, _, .cons h r => .cons (h.stay s) (KR.stay s r)
theorem KR.length {K : Kx} {H : Hp} : ∀ {r : List (D × D)} {t : List (Key × V)}, KR K H r t → r.length = t.length
  | _, _, .nil => rfl
  | _, _, .cons _ r => by rw [List.length_cons, List.length_cons, KR.length r]
/-- the dict at a is just the object st -/
def PinK (K : Kx) (a : Addr) (st : Obj) (kv : List (Key × V)) : Heap → Prop := fun h => h.get? a = some st ∧ ObjOk K.P K.w (fun _ => none) h a (.dK kv)
/-! a dict whose keys are tuples -/
mutual
def nkey : D → NestedKey
  | .int i => .num i
  | .str x => .text x
  | .tup xs => .tup (nkeys xs)
  | _ => .none
def nkeys : List D → List NestedKey
  | [] => []
  | x :: xs => nkey x :: nkeys xs
end
inductive TR (K : Kx) (H : Hp) : List (D × D) → List (NestedKey × Addr × Value) → Prop
  | nil : TR K H [] []
  | cons {ds : List D} {b : Addr} {d : D} {v : V} {u : Value} {r : List (D × D)} {s : List (NestedKey × Addr × Value)} : D.keys ds = true → D.dep (.tup ds) ≤ 8 → Rep K H (.tup ds) (.ref b) → Rep K H d v → RelV v u → TR K H r s →
      TR K H ((.tup ds, d) :: r) ((nkey (.tup ds), b, u) :: s)
theorem TR.stay {K : Kx} {H H' : Hp} (s : Stay H H') : ∀ {r : List (D × D)} {t : List (NestedKey × Addr × Value)}, TR K H r t → TR K H' r t
  | _, _, .nil => .nil
  | _, _, .cons h1 h2 h3 h4 h5 r => .cons h1 h2 (h3.stay s) (h4.stay s) h5 (TR.stay s r)
theorem TR.length {K : Kx} {H : Hp} : ∀ {r : List (D × D)} {t : List (NestedKey × Addr × Value)}, TR K H r t → r.length = t.length
  | _, _, .nil => rfl
  | _, _, .cons _ _ _ _ _ r => by rw [List.length_cons, List.length_cons, TR.length r]
/-- the dict at a is just the object st, its entries xs -/
def PinT (K : Kx) (a : Addr) (st : Obj) (xs : List (NestedKey × Addr × Value)) : Heap → Prop := fun h => h.get? a = some st ∧ xs.length ≤ sizeLine ∧ (a == sysModules) = false ∧ st.ExactDict ∧ ∃ es ep, st.data = .dict es ep ∧ es.toList = xs.map (entryOfKey (nestedKind K.P K.w)) ∧ (xs.map (·.1)).Nodup
inductive DicOk (K : Kx) (H : Hp) (a : Addr) (kvs : List (D × D)) (st : Obj) : Prop
  | k {kv : List (Key × V)} : H a = some (.ext (PinK K a st kv)) → KR K H kvs kv → DicOk K H a kvs st
  | t {xs : List (NestedKey × Addr × Value)} : H a = some (.ext (PinT K a st xs)) → TR K H kvs xs → DicOk K H a kvs st
theorem DicOk.stay {K : Kx} {H H' : Hp} {a : Addr} {kvs : List (D × D)} {st : Obj} (s : Stay H H') (e : ∀ u, H a = some u → H' a = some u) (h : DicOk K H a kvs st) : DicOk K H' a kvs st := by
  cases h with
  | k h1 h2 => exact .k (e _ h1) (h2.stay s)
  | t h1 h2 => exact .t (e _ h1) (h2.stay s)
/-- what a thing of the store is over the heap -/
def MOk (K : Kx) (H : Hp) (a : Addr) : MO → Prop
  | .lst xs => ∃ vs, H a = some (.lst vs) ∧ Reps K H xs vs
  | .dic kvs st => DicOk K H a kvs st
  | .ins _ _ _ => False
def SR (K : Kx) (S : Store) (H : Hp) : Prop := ∀ a o, S a = some o → MOk K H a o
theorem MOk.stay {K : Kx} {H H' : Hp} {a : Addr} {o : MO} (s : Stay H H') (e : ∀ u, H a = some u → H' a = some u) (h : MOk K H a o) : MOk K H' a o := by
  cases o with
  | lst xs => obtain ⟨vs, h1, h2⟩ := h; exact ⟨vs, e _ h1, h2.stay s⟩
  | dic kvs st => exact DicOk.stay s e h
  | ins c dx fs => exact h
theorem MOk.there {K : Kx} {H : Hp} {a : Addr} {o : MO} (h : MOk K H a o) : ∃ u, H a = some u ∧ (∀ xs, u ≠ .tup xs) ∧ ∀ ob w, u ≠ .frz ob w := by
  cases o with
  | lst xs => obtain ⟨vs, h1, _⟩ := h; exact ⟨_, h1, fun _ z => (nomatch z), fun _ _ z => (nomatch z)⟩
  | dic kvs st => cases (show DicOk K H a kvs st from h) with
    | k h1 h2 => exact ⟨_, h1, fun _ z => (nomatch z), fun _ _ z => (nomatch z)⟩
    | t h1 h2 => exact ⟨_, h1, fun _ z => (nomatch z), fun _ _ z => (nomatch z)⟩
  | ins c dx fs => exact h.elim
theorem SR.fresh {K : Kx} {S : Store} {H : Hp} {p : Addr} (s : SR K S H) (h : H p = none) : S p = none := by
  cases q : S p with
  | none => rfl
  | some o =>
    obtain ⟨u, e, _⟩ := (s p o q).there
    rw [h] at e; cases e
theorem SR.tup {K : Kx} {S : Store} {H : Hp} {p : Addr} {xs : List V} (s : SR K S H) (h : H p = some (.tup xs)) : S p = none := by
  cases q : S p with
  | none => rfl
  | some o =>
    obtain ⟨u, e, n, _⟩ := (s p o q).there
    rw [h] at e; exact (n xs (Option.some.inj e).symm).elim
theorem SR.frz {K : Kx} {S : Store} {H : Hp} {p : Addr} {o : Obj} {u : HO} (s : SR K S H) (h : H p = some (.frz o u)) : S p = none := by
  cases q : S p with
  | none => rfl
  | some m =>
    obtain ⟨x, e, _, n⟩ := (s p m q).there
    rw [h] at e; exact (n o u (Option.some.inj e).symm).elim
/-- all that stands outside the store stays, and outside -/
def Fm (S : Store) (H : Hp) (S' : Store) (H' : Hp) : Prop := ∀ p o, H p = some o → S p = none → H' p = some o ∧ S' p = none
theorem Fm.refl {S : Store} {H : Hp} : Fm S H S H := fun _ _ h e => ⟨h, e⟩
theorem Fm.trans {S S1 S2 : Store} {H H1 H2 : Hp} (a : Fm S H S1 H1) (b : Fm S1 H1 S2 H2) : Fm S H S2 H2 := fun p o h e =>
  let ⟨h1, e1⟩ := a p o h e
  b p o h1 e1
theorem Fm.stay {K : Kx} {S S' : Store} {H H' : Hp} (s : SR K S H) (f : Fm S H S' H') : Stay H H' :=
  ⟨fun b xs h => (f b _ h (s.tup h)).1, fun b o u h => (f b _ h (s.frz h)).1⟩
theorem SR.ext {K : Kx} {S : Store} {H H' : Hp} (s : SR K S H) (h : ∀ a o, H a = some o → H' a = some o) : SR K S H' := fun a o e =>
  (s a o e).stay (.of_ext h) fun u => h a u
theorem ext_upd {H : Hp} {p : Addr} {o : HO} (h : H p = none) : ∀ a u, H a = some u → L2.upd H p o a = some u := fun a u e => by
  rw [L2.upd_ne (L2.ne_of_none e h)]; exact e
theorem Fm.ext {S : Store} {H H' : Hp} (h : ∀ a o, H a = some o → H' a = some o) : Fm S H S H' := fun p o e n => ⟨h p o e, n⟩
theorem Fm.new {S : Store} {H : Hp} {p : Addr} {o : HO} {m : MO} (h : H p = none) : Fm S H (upd S p m) (L2.upd H p o) := fun q u e n => by
  have ne := L2.ne_of_none e h
  rw [L2.upd_ne ne, upd_ne ne]
  exact ⟨e, n⟩
theorem SR.new {K : Kx} {S : Store} {H : Hp} {p : Addr} {xs : List D} {vs : List V} (s : SR K S H) (h : H p = none) (r : Reps K H xs vs) : SR K (upd S p (.lst xs)) (L2.upd H p (.lst vs)) := fun a o e => by
  by_cases ha : a = p
  · subst ha
    rw [upd_same] at e; cases e
    exact ⟨vs, L2.upd_same, r.stay (.of_ext (ext_upd h))⟩
  · rw [upd_ne ha] at e
    exact (s a o e).stay (.of_ext (ext_upd h)) fun u => ext_upd h a u
theorem stay_set {H : Hp} {p : Addr} {ys : List V} {o : HO} (h : H p = some (.lst ys)) : Stay H (L2.upd H p o) :=
  ⟨fun b xs e => by rw [L2.upd_ne (fun z => by subst z; rw [h] at e; cases e)]; exact e, fun b ob u e => by rw [L2.upd_ne (fun z => by subst z; rw [h] at e; cases e)]; exact e⟩
theorem stay_any {H : Hp} {p : Addr} {u o : HO} (h : H p = some u) (n1 : ∀ xs, u ≠ .tup xs) (n2 : ∀ ob w, u ≠ .frz ob w) : Stay H (L2.upd H p o) :=
  ⟨fun b xs e => by rw [L2.upd_ne (fun z => by subst z; rw [h] at e; cases e; exact n1 _ rfl)]; exact e, fun b ob u e => by rw [L2.upd_ne (fun z => by subst z; rw [h] at e; cases e; exact n2 _ _ rfl)]; exact e⟩
/-- a dict is changed -/
theorem SR.setD {K : Kx} {S : Store} {H : Hp} {p : Addr} {kvs : List (D × D)} {st : Obj} {kv : List (Key × V)} {φ : Heap → Prop} (s : SR K S H) (h : H p = some (.ext φ)) (r : KR K H kvs kv) :
    SR K (upd S p (.dic kvs st)) (L2.upd H p (.ext (PinK K p st kv))) := fun a o e => by
  have sy : Stay H (L2.upd H p (.ext (PinK K p st kv))) := stay_any h (fun _ z => nomatch z) (fun _ _ z => nomatch z)
  by_cases ha : a = p
  · subst ha
    rw [upd_same] at e; cases e
    exact DicOk.k L2.upd_same (r.stay sy)
  · rw [upd_ne ha] at e
    exact (s a o e).stay sy fun u q => by rw [L2.upd_ne ha]; exact q
theorem SR.newD {K : Kx} {S : Store} {H : Hp} {p : Addr} {kvs : List (D × D)} {st : Obj} {kv : List (Key × V)} (s : SR K S H) (h : H p = none) (r : KR K H kvs kv) :
    SR K (upd S p (.dic kvs st)) (L2.upd H p (.ext (PinK K p st kv))) := fun a o e => by
  by_cases ha : a = p
  · subst ha
    rw [upd_same] at e; cases e
    exact DicOk.k L2.upd_same (r.stay (.of_ext (ext_upd h)))
  · rw [upd_ne ha] at e
    exact (s a o e).stay (.of_ext (ext_upd h)) fun u => ext_upd h a u
theorem SR.setL {K : Kx} {S : Store} {H : Hp} {p : Addr} {xs : List D} {ys vs : List V} (s : SR K S H) (h : H p = some (.lst ys)) (r : Reps K H xs vs) : SR K (upd S p (.lst xs)) (L2.upd H p (.lst vs)) := fun a o e => by
  by_cases ha : a = p
  · subst ha
    rw [upd_same] at e; cases e
    exact ⟨vs, L2.upd_same, r.stay (stay_set h)⟩
  · rw [upd_ne ha] at e
    exact (s a o e).stay (stay_set h) fun u q => by rw [L2.upd_ne ha]; exact q
theorem Fm.setL {S : Store} {H : Hp} {p : Addr} {m m' : MO} {o : HO} (h : S p = some m) : Fm S H (upd S p m') (L2.upd H p o) := fun q u e n => by
  have ne : q ≠ p := fun z => by subst z; rw [h] at n; cases n
  rw [L2.upd_ne ne, upd_ne ne]
  exact ⟨e, n⟩

/-- the names' values -/
def ER (K : Kx) (H : Hp) (env : Env) (σ : L2.St) : Prop := env.length = σ.length ∧ ∀ (i : Nat) (d : D), env[i]? = some (some d) → ∃ v : V, σ[i]? = some (some v) ∧ Rep K H d v
theorem ER.stay {K : Kx} {H H' : Hp} {env : Env} {σ : L2.St} (s : Stay H H') (h : ER K H env σ) : ER K H' env σ :=
  ⟨h.1, fun i d e => let ⟨v, h1, h2⟩ := h.2 i d e; ⟨v, h1, h2.stay s⟩⟩
theorem ER.set {K : Kx} {H : Hp} {env : Env} {σ : L2.St} {d : D} {v : V} (h : ER K H env σ) (r : Rep K H d v) (i : Nat) : ER K H (env.set i (some d)) (σ.set i (some v)) := by
  refine ⟨by rw [List.length_set, List.length_set]; exact h.1, fun j e he => ?_⟩
  by_cases hj : i = j
  · subst hj
    have hl : i < env.length := by
      have := List.getElem?_eq_some_iff.mp he
      obtain ⟨z, _⟩ := this
      simpa using z
    rw [List.getElem?_set_self hl] at he
    cases he
    exact ⟨v, List.getElem?_set_self (h.1 ▸ hl), r⟩
  · rw [List.getElem?_set_ne hj] at he ⊢
    exact h.2 j e he
theorem ER.unset {K : Kx} {H : Hp} {env : Env} {σ : L2.St} (h : ER K H env σ) (i : Nat) : ER K H (env.set i none) (σ.set i none) := by
  refine ⟨by rw [List.length_set, List.length_set]; exact h.1, fun j e he => ?_⟩
  by_cases hj : i = j
  · subst hj
    have hl : i < env.length := by
      have := List.getElem?_eq_some_iff.mp he
      obtain ⟨z, _⟩ := this
      simpa using z
    rw [List.getElem?_set_self hl] at he
    cases he
  · rw [List.getElem?_set_ne hj] at he ⊢
    exact h.2 j e he
theorem ER.wipe {K : Kx} {H : Hp} {env : Env} {σ : L2.St} (h : ER K H env σ) : ∀ vs : List Nat, ER K H (wipe env vs) (L2.wipe σ vs)
  | [] => h
  | v :: vs => (ER.wipe h vs).unset v

/-! ### readings of Mn -/
abbrev Anc := Store × Hp
/-- what is wanted of a value in Mn, over the heap -/
def Bear (K : Kx) (S : Store) (H : Hp) (Q0 : KD) (Q : VK) : Prop := ∀ d S' v H', Q0 d S' → Fm S H S' H' → SR K S' H' → Rep K H' d v → Q v H'
def LE (K : Kx) (A : Anc) (w : Env → Store → KD → Prop) : TE := fun σ H Q =>
  ∃ env S Q0, ER K H env σ ∧ SR K S H ∧ Fm A.1 A.2 S H ∧ w env S Q0 ∧ Bear K S H Q0 Q
def LA (K : Kx) (A : Anc) (w : Env → Store → (List D → Store → Prop) → Prop) : TA := fun σ H Q =>
  ∃ env S Q0, ER K H env σ ∧ SR K S H ∧ Fm A.1 A.2 S H ∧ w env S Q0 ∧ ∀ ds S' vs H', Q0 ds S' → Fm S H S' H' → SR K S' H' → Reps K H' ds vs → Q vs H'
def LT (K : Kx) (A : Anc) (w : Env → Store → (Bool → Store → Prop) → Prop) : TT := fun σ H Q =>
  ∃ env S Q0, ER K H env σ ∧ SR K S H ∧ Fm A.1 A.2 S H ∧ w env S Q0 ∧ ∀ b S' H', Q0 b S' → Fm S H S' H' → SR K S' H' → Q b H'
/-- an operation by values -/
def L1 (K : Kx) (f : D → Store → KD → Prop) : V → Hp → VK → Prop := fun v H Q => ∃ x S Q0, Rep K H x v ∧ SR K S H ∧ f x S Q0 ∧ Bear K S H Q0 Q
def L22 (K : Kx) (f : D → D → Store → KD → Prop) : R2 := fun v u H Q => ∃ x y S Q0, Rep K H x v ∧ Rep K H y u ∧ SR K S H ∧ f x y S Q0 ∧ Bear K S H Q0 Q
def Ln (K : Kx) (f : List D → Store → KD → Prop) : List V → Hp → VK → Prop := fun vs H Q => ∃ xs S Q0, Reps K H xs vs ∧ SR K S H ∧ f xs S Q0 ∧ Bear K S H Q0 Q

section
variable {X : Cx} {e : Expr} {t t' : TE}
theorem pe_of (h : PE X e t) (i : ∀ σ H Q, t' σ H Q → t σ H Q) : PE X e t' := ⟨fun pins s σ H Q I w => h.run pins s σ H Q I (i σ H Q w)⟩
theorem pt_of {t t' : TT} (h : PT X e t) (i : ∀ σ H Q, t' σ H Q → t σ H Q) : PT X e t' := ⟨fun pins s σ H Q I w => h.run pins s σ H Q I (i σ H Q w)⟩
theorem pa_of {es : List Expr} {t t' : TA} (h : PA X es t) (i : ∀ σ H Q, t' σ H Q → t σ H Q) : PA X es t' := ⟨fun pos pins s σ H Q I w => h.run pos pins s σ H Q I (i σ H Q w)⟩
theorem ps_of {st : Stmt} {t t' : TS} (h : PS X st t) (i : ∀ D σ H, t' D σ H → t D σ H) : PS X st t' := ⟨fun pins s σ H D I w => h.run pins s σ H D I (i D σ H w)⟩
theorem pss_of {st : List Stmt} {t t' : TS} (h : PSs X st t) (i : ∀ D σ H, t' D σ H → t D σ H) : PSs X st t' := ⟨fun pins s σ H D I w => h.run pins s σ H D I (i D σ H w)⟩
end
theorem Bear.at {K : Kx} {S S1 : Store} {H H1 : Hp} {Q0 : KD} {Q : VK} (b : Bear K S H Q0 Q) (f : Fm S H S1 H1) : Bear K S1 H1 Q0 Q := fun d S' v H' q f' s r => b d S' v H' q (f.trans f') s r

/-- a value then another -/
theorem tOp_L {K : Kx} {A : Anc} {wa wb : Env → Store → KD → Prop} {f : D → D → Store → KD → Prop} {σ : L2.St} {H : Hp} {Q : VK}
    (h : LE K A (fun env S Q => wa env S fun x S1 => wb env S1 fun y S2 => f x y S2 Q) σ H Q) : tOp (L22 K f) (LE K A wa) (LE K A wb) σ H Q := by
  obtain ⟨env, S, Q0, he, hs, hf, hw, hb⟩ := h
  refine ⟨env, S, _, he, hs, hf, hw, fun x S1 v H1 h1 f1 s1 r1 => ?_⟩
  refine ⟨env, S1, _, he.stay (f1.stay hs), s1, hf.trans f1, h1, fun y S2 u H2 h2 f2 s2 r2 => ?_⟩
  exact ⟨x, y, S2, Q0, r1.stay (f2.stay s1), r2, s2, h2, (hb.at f1).at f2⟩
theorem tUn_L {K : Kx} {A : Anc} {wa : Env → Store → KD → Prop} {f : D → Store → KD → Prop} {σ : L2.St} {H : Hp} {Q : VK}
    (h : LE K A (fun env S Q => wa env S fun x S1 => f x S1 Q) σ H Q) : tUn (L1 K f) (LE K A wa) σ H Q := by
  obtain ⟨env, S, Q0, he, hs, hf, hw, hb⟩ := h
  exact ⟨env, S, _, he, hs, hf, hw, fun x S1 v H1 h1 f1 s1 r1 => ⟨x, S1, Q0, r1, s1, h1, hb.at f1⟩⟩
theorem tCB_L {K : Kx} {A : Anc} {wa : Env → Store → (List D → Store → Prop) → Prop} {f : List D → Store → KD → Prop} {σ : L2.St} {H : Hp} {Q : VK}
    (h : LE K A (fun env S Q => wa env S fun ds S1 => f ds S1 Q) σ H Q) : tCB (Ln K f) (LA K A wa) σ H Q := by
  obtain ⟨env, S, Q0, he, hs, hf, hw, hb⟩ := h
  exact ⟨env, S, _, he, hs, hf, hw, fun x S1 v H1 h1 f1 s1 r1 => ⟨x, S1, Q0, r1, s1, h1, hb.at f1⟩⟩
end Mn

/-! SimD: dicts. -/
namespace Mn
open PySem PySem.Spec PyProof.Rows L2
theorem keyD_inj {a b : Key} (e : keyD a = keyD b) : a = b := by
  cases a <;> cases b <;> first | (cases e; rfl) | cases e
theorem sca_key {d : D} (h : d.sca = true) : ∃ k, d = keyD k := by
  cases d <;> first | cases h | skip
  · exact ⟨.inl _, rfl⟩
  · exact ⟨.inr _, rfl⟩
theorem sca_keyD (k : Key) : (keyD k).sca = true := by cases k <;> rfl
theorem keyD_rep {K : Kx} {H : Hp} {k : Key} {v : V} (r : Rep K H (keyD k) v) : v = kV k := by
  cases k <;> (cases r; rfl)
theorem keyD_kV (K : Kx) (H : Hp) (k : Key) : Rep K H (keyD k) (kV k) := by
  cases k
  · exact .int _
  · exact .str _
theorem KR.get {K : Kx} {H : Hp} (k : Key) : ∀ {r : List (D × D)} {t : List (Key × V)}, KR K H r t → ∀ d, dget r (keyD k) = some d → ∃ v, valV t k = some v ∧ Rep K H d v
  | _, _, .nil, d, e => by cases e
  | _, _, .cons (k := k') h r, d, e => by
    rw [dget] at e
    by_cases hk : k' = k
    · rw [if_pos (by rw [hk])] at e
      cases e
      exact ⟨_, valV_pos hk, h⟩
    · rw [if_neg (fun z => hk (keyD_inj z))] at e
      obtain ⟨v, h1, h2⟩ := KR.get k r d e
      exact ⟨v, by rw [valV_neg (p := (k', _)) hk]; exact h1, h2⟩
theorem KR.none {K : Kx} {H : Hp} (k : Key) : ∀ {r : List (D × D)} {t : List (Key × V)}, KR K H r t → dget r (keyD k) = none → valV t k = none
  | _, _, .nil, e => rfl
  | _, _, .cons (k := k') h r, e => by
    rw [dget] at e
    by_cases hk : k' = k
    · rw [if_pos (by rw [hk])] at e; cases e
    · rw [if_neg (fun z => hk (keyD_inj z))] at e
      rw [valV_neg (p := (k', _)) hk]
      exact KR.none k r e
theorem KR.isSome {K : Kx} {H : Hp} {r : List (D × D)} {t : List (Key × V)} (q : KR K H r t) (k : Key) : (dget r (keyD k)).isSome = (valV t k).isSome := by
  cases e : dget r (keyD k) with
  | none => rw [q.none k e]; rfl
  | some d => obtain ⟨v, h, _⟩ := q.get k d e; rw [h]; rfl
theorem KR.append {K : Kx} {H : Hp} : ∀ {r r' : List (D × D)} {t t' : List (Key × V)}, KR K H r t → KR K H r' t' → KR K H (r ++ r') (t ++ t')
  | _, _, _, _, .nil, s => s
  | _, _, _, _, .cons h r, s => .cons h (KR.append r s)
theorem KR.nodup_set {K : Kx} {H : Hp} {k : Key} {d : D} {v : V} (q : Rep K H d v) : ∀ {r : List (D × D)} {t : List (Key × V)}, KR K H r t → (t.map (·.1)).Nodup → KR K H (dset r (keyD k) d) (putK t k v)
  | _, _, .nil, _ => .cons q .nil
  | _, _, .cons (k := k') (v := v') (r := r) (s := t) h rr, nd => by
    have nd' := List.nodup_cons.mp (show (k' :: t.map (·.1)).Nodup from nd)
    rw [dset]
    by_cases hk : k' = k
    · subst hk
      rw [if_pos rfl]
      have e1 : t.map (fun kv => if kv.1 = k' then (kv.1, v) else kv) = t := by
        have h0 : ∀ p ∈ t, (if p.1 = k' then (p.1, v) else p) = p := fun p hp => if_neg fun z => nd'.1 (List.mem_map.mpr ⟨p, hp, z⟩)
        calc t.map (fun kv => if kv.1 = k' then (kv.1, v) else kv) = t.map id := List.map_congr_left h0
          _ = t := List.map_id t
      have e2 : putK ((k', v') :: t) k' v = (k', v) :: t := by
        unfold putK
        rw [if_pos (by simp), List.map_cons, if_pos rfl, e1]
      rw [e2]
      exact .cons q rr
    · rw [if_neg (fun z => hk (keyD_inj z))]
      have e2 : putK ((k', v') :: t) k v = (k', v') :: putK t k v := by
        unfold putK
        rw [List.any_cons, decide_eq_false hk, Bool.false_or, List.map_cons, if_neg hk]
        split <;> rfl
      rw [e2]
      exact .cons h (KR.nodup_set q rr nd'.2)
theorem KV.nodup {kv : List (Key × V)} {vs : List (Key × Value)} (r : KV kv vs) (h : (vs.map (·.1)).Nodup) : (kv.map (·.1)).Nodup := by rw [r.keys]; exact h
section
variable {X : Cx} {pins : List (Addr × Obj)} {σ : L2.St} {H : Hp} {s : Shared} {a : Addr} {st : Obj} {kv : List (Key × V)} {A : Around} {E : Value → Shared → Prop}
/-- what is known of a pinned dict -/
theorem pin_ok (I : Inv X pins σ H s) (e : H a = some (.ext (PinK X.x a st kv))) :
    s.heap.get? a = some st ∧ kv.length ≤ sizeLine ∧ (a == sysModules) = false ∧ ∃ vs, KV kv vs ∧ s.heap.DictOf (mixKind X.prog X.w) a vs := by
  obtain ⟨⟨h1, h2⟩, _⟩ := I.hok a _ e
  exact ⟨h1, h2⟩
theorem pin_typeIs (I : Inv X pins σ H s) (e : H a = some (.ext (PinK X.x a st kv))) : s.TypeIs (.ref a) "dict" := by
  obtain ⟨_, _, _, vs, _, dd⟩ := pin_ok I e
  exact dd.typeIs
theorem pin_noDict (I : Inv X pins σ H s) (e : H a = some (.ext (PinK X.x a st kv))) : ∀ b, Value.ref a = .ref b → ∃ ob, s.heap.get? b = some ob ∧ ob.dict = none := fun b q => by
  cases q
  obtain ⟨_, _, _, vs, _, ob, _, _, h1, h2, _⟩ := pin_ok I e
  exact ⟨ob, h1, h2.2.1⟩
theorem pin_nodup (I : Inv X pins σ H s) (e : H a = some (.ext (PinK X.x a st kv))) : (kv.map (·.1)).Nodup := by
  obtain ⟨_, _, _, vs, r, ob, es, ep, _, _, _, _, _, nd⟩ := pin_ok I e
  exact KV.nodup r nd
theorem pinK_stay (h1 h2 : Heap) (p : PinK X.x a st kv h1) (k : ∀ o, h1.get? a = some o → h2.get? a = some o) : PinK X.x a st kv h2 := by
  obtain ⟨q1, z, y, vs, r, ob, es, ep, e, c⟩ := p
  exact ⟨k _ q1, z, y, vs, r, ob, es, ep, k _ e, c⟩
/-- a dict as HandS knows it is pinned -/
theorem pin (I : Inv X pins σ H s) (e : H a = some (.dK kv)) : ∃ st, Inv X pins σ (L2.upd H a (.ext (PinK X.x a st kv))) s := by
  obtain ⟨z, hd, vs, rel, dd⟩ := dk_of I.hok e
  have dd' := dd
  obtain ⟨ob, es, ep, ho, h2⟩ := dd'
  refine ⟨ob, d_write (t' := s.toks) I (by rw [e]; exact True.intro) (h' := s.heap) ⟨rfl, fun b _ => rfl⟩ ⟨ob, ho⟩ ?_⟩
  exact ⟨⟨ho, z, hd, vs, rel, dd⟩, ⟨ob, ho⟩, fun h1 h2 p k => pinK_stay h1 h2 p k⟩
/-- .. and the way back -/
theorem unpin (I : Inv X pins σ H s) (e : H a = some (.ext (PinK X.x a st kv))) : Inv X pins σ (L2.upd H a (.dK kv)) s := by
  obtain ⟨h1, z, hd, vs, rel, dd⟩ := pin_ok I e
  exact d_write (t' := s.toks) I (by rw [e]; exact True.intro) (h' := s.heap) ⟨rfl, fun b _ => rfl⟩ ⟨st, h1⟩ (dk_new z hd rel dd)
theorem upd_back {H : Hp} {a : Addr} {o u : HO} (e : H a = some o) : L2.upd (L2.upd H a u) a o = H := by
  rw [L2.upd_upd]
  funext b
  unfold L2.upd
  split
  · rename_i h; rw [h, e]
  · rfl
/-- a pinned dict as a known thing .. -/
theorem frzD (I : Inv X pins σ H s) (e : H a = some (.ext (PinK X.x a st kv))) : Inv X pins σ (L2.upd H a (.frz st (.dK kv))) s := by
  obtain ⟨h1, z, hd, vs, rel, dd⟩ := pin_ok I e
  exact d_write (t' := s.toks) I (by rw [e]; exact True.intro) (h' := s.heap) ⟨rfl, fun b _ => rfl⟩ ⟨st, h1⟩ ⟨h1, z, hd, vs, rel, dd⟩
theorem thawD' {s' : Shared} (hn : ∀ o' u', X.H_0 a ≠ some (.frz o' u')) (e : H a = some (.ext (PinK X.x a st kv))) (I' : Inv X pins σ (L2.upd H a (.frz st (.dK kv))) s') : Inv X pins σ H s' := by
  have I2 := I'.unlock L2.upd_same hn
  rw [L2.upd_upd] at I2
  obtain ⟨h1, q⟩ := I'.hok a _ L2.upd_same
  obtain ⟨z, hd, vs, rel, dd⟩ := q
  have I3 : Inv X pins σ (L2.upd (L2.upd H a (.dK kv)) a (.ext (PinK X.x a st kv))) s' :=
    d_write (t' := s'.toks) I2 (by rw [L2.upd_same]; exact True.intro) (h' := s'.heap) ⟨rfl, fun b _ => rfl⟩ ⟨st, h1⟩ ⟨⟨h1, z, hd, vs, rel, dd⟩, ⟨st, h1⟩, fun h1 h2 p k => pinK_stay h1 h2 p k⟩
  rw [upd_back e] at I3
  exact I3
theorem upd_comm {H : Hp} {a p : Addr} {x y : HO} (h : p ≠ a) : L2.upd (L2.upd H a x) p y = L2.upd (L2.upd H p y) a x := by
  funext b
  unfold L2.upd
  by_cases h1 : b = p
  · subst h1
    rw [if_pos rfl, if_neg h, if_pos rfl]
  · rw [if_neg h1, if_neg h1]
theorem thawD {s' : Shared} (I : Inv X pins σ H s) (e : H a = some (.ext (PinK X.x a st kv))) (I' : Inv X pins σ (L2.upd H a (.frz st (.dK kv))) s') : Inv X pins σ H s' := by
  have I2 := I'.unlock L2.upd_same (I.nofrz e True.intro)
  rw [L2.upd_upd] at I2
  obtain ⟨h1, q⟩ := I'.hok a _ L2.upd_same
  obtain ⟨z, hd, vs, rel, dd⟩ := q
  have I3 : Inv X pins σ (L2.upd (L2.upd H a (.dK kv)) a (.ext (PinK X.x a st kv))) s' :=
    d_write (t' := s'.toks) I2 (by rw [L2.upd_same]; exact True.intro) (h' := s'.heap) ⟨rfl, fun b _ => rfl⟩ ⟨st, h1⟩ ⟨⟨h1, z, hd, vs, rel, dd⟩, ⟨st, h1⟩, fun h1 h2 p k => pinK_stay h1 h2 p k⟩
  rw [upd_back e] at I3
  exact I3
end

/-! ### operations -/
section
variable {X : Cx}
def rIxD (X : Cx) : R2 := fun x y H Q => ∃ a st kv k v, x = .ref a ∧ y = kV k ∧ H a = some (.ext (PinK X.x a st kv)) ∧ valV kv k = some v ∧ Q v H
theorem ix_D : IxR X (rIxD X) := by
  intro value slice pins s σ H x y v u Q I rx ry h hs
  obtain ⟨a, st, kv, k, z, rfl, rfl, e, l, q⟩ := h
  obtain rfl : v = Value.ref a := rx
  obtain ⟨_, _, hd, vs, rel, dd⟩ := pin_ok I e
  obtain ⟨w', hw, rw'⟩ := RelO.some_of (v := z) (o := valueAt vs k) (by rw [← l]; exact rel.val k)
  exact tail_any dd.typeIs PySem.F.slot_dict_getitem.lookup (wpAny_getItem_of (kV_is ry) dd.mapOf hw ⟨z, H, I.tok _, rw', q⟩) hs
def rInD (X : Cx) (neg : Bool) : R2 := fun y x H Q => ∃ a st kv k, x = .ref a ∧ y = kV k ∧ H a = some (.ext (PinK X.x a st kv)) ∧ Q (.bl (if neg then (valV kv k).isNone else (valV kv k).isSome)) H
theorem op_inD (neg : Bool) : OpR X (compareOp (if neg then .NotIn else .In)) (rInD X neg) := by
  intro pins s σ H y x u v Q I ry rx h
  obtain ⟨a, st, kv, k, rfl, rfl, e, q⟩ := h
  obtain rfl : v = Value.ref a := rx
  obtain ⟨_, _, hd, vs, rel, dd⟩ := pin_ok I e
  cases neg with
  | false =>
    refine wpAny_in_of (kV_is ry) hd dd.mapOf ?_
    rw [← (rel.val k).isSome_eq]
    exact ⟨.bl _, H, I.tok _, rfl, q⟩
  | true =>
    refine wpAny_notIn_of (kV_is ry) hd dd.mapOf ?_
    rw [← (rel.val k).isSome_eq]
    refine ⟨.bl _, H, I.tok _, rfl, ?_⟩
    have : (!(valV kv k).isSome) = (valV kv k).isNone := by cases valV kv k <;> rfl
    rw [this]
    exact q
def rLenD (X : Cx) : List V → Hp → VK → Prop := fun xs H Q => ∃ a st kv, xs = [.ref a] ∧ H a = some (.ext (PinK X.x a st kv)) ∧ Q (.int kv.length) H
theorem call_lenD : CallR X (.builtin "len") (rLenD X) := by
  intro pins s σ H xs us Q I r h
  obtain ⟨a, st, kv, rfl, e, q⟩ := h
  obtain ⟨u, rfl, rx⟩ := Vals.one r
  obtain rfl : u = Value.ref a := rx
  obtain ⟨_, z, hd, vs, rel, dd⟩ := pin_ok I e
  refine call_len_dict hd dd (by rw [← rel.length]; rw [sizeLine_eq] at z; omega) ?_
  rw [← rel.length]
  exact ⟨.int _, H, I.tok _, ⟨_, rfl⟩, q⟩
def rSetD (X : Cx) : TSet := fun o i v H Q => ∃ a st kv k, o = .ref a ∧ i = kV k ∧ H a = some (.ext (PinK X.x a st kv)) ∧ kv.length < sizeLine ∧ ∀ st', Q (L2.upd H a (.ext (PinK X.x a st' (putK kv k v))))
theorem set_D (hu : X.A.units + 1 < cLine) : PSet X (rSetD X) := by
  intro pins s σ H o i v ov iv u Q I ro ri rv h
  obtain ⟨a, st, kv, k, rfl, rfl, e, hl, q⟩ := h
  obtain rfl : ov = Value.ref a := ro
  refine d_setItem hu (unpin I e) (DPut.k (a := a) (kvs := kv) (k := k) (v := v) L2.upd_same hl) ri rv fun s' I' => ?_
  rw [L2.upd_upd] at I'
  obtain ⟨st', I2⟩ := pin I' L2.upd_same
  rw [L2.upd_upd] at I2
  exact ⟨_, I2, q st'⟩
def rGet1D (X : Cx) : V → List V → Hp → VK → Prop := fun x xs H Q => ∃ a st kv k, x = .ref a ∧ H a = some (.ext (PinK X.x a st kv)) ∧ ((xs = [kV k] ∧ Q ((valV kv k).getD .non) H) ∨ ∃ z, xs = [kV k, z] ∧ Q ((valV kv k).getD z) H)
theorem mt_getD : MtM X "dict.get" (rGet1D X) := by
  intro pins s σ H x xs v us Q I rx rs h
  obtain ⟨a, st, kv, k, rfl, e, h⟩ := h
  obtain rfl : v = Value.ref a := rx
  obtain ⟨_, z, hd, vs, rel, dd⟩ := pin_ok I e
  rcases h with ⟨rfl, q⟩ | ⟨w, rfl, q⟩
  · obtain ⟨u, rfl, ry⟩ := Vals.one rs
    exact call_meetsIn PySem.F.slot_dict_get dd.typeIs PySem.F.entry_dict_get (PySem.F.args_dict_get_2 _ _) (meets_dict_get (mixKind X.prog X.w) a (kV_is ry) hd) ⟨_, dd.mapOf, ⟨_, H, I.tok _, (rel.val k).getD (show RelV .non Value.none from rfl), q⟩⟩
  · obtain ⟨u, r, rfl, ry, rz⟩ := Vals.two rs
    exact call_meetsIn PySem.F.slot_dict_get dd.typeIs PySem.F.entry_dict_get (PySem.F.args_dict_get_3 _ _ _) (meets_dict_get_default (mixKind X.prog X.w) a (kV_is ry) hd r) ⟨_, dd.mapOf, ⟨_, H, I.tok _, (rel.val k).getD rz, q⟩⟩
def rPop1D (X : Cx) : V → List V → Hp → VK → Prop := fun x xs H Q => ∃ a st kv k v, x = .ref a ∧ xs = [kV k] ∧ H a = some (.ext (PinK X.x a st kv)) ∧ valV kv k = some v ∧ ∀ st', Q v (L2.upd H a (.ext (PinK X.x a st' (dropK kv k))))
theorem mt_popD : MtM X "dict.pop" (rPop1D X) := by
  intro pins s σ H x xs v us Q I rx rs h
  obtain ⟨a, st, kv, k, z, rfl, rfl, e, l, q⟩ := h
  obtain rfl : v = Value.ref a := rx
  obtain ⟨u, rfl, ry⟩ := Vals.one rs
  refine d_pop (unpin I e) L2.upd_same ry l (.inl rfl) fun w' s' I' rw' => ?_
  rw [L2.upd_upd] at I'
  obtain ⟨st', I2⟩ := pin I' L2.upd_same
  rw [L2.upd_upd] at I2
  exact ⟨z, _, I2, rw', q st'⟩
/-- dict(d) -/
def rCopyD (X : Cx) : List V → Hp → VK → Prop := fun xs H Q => ∃ a st kv, xs = [.ref a] ∧ H a = some (.ext (PinK X.x a st kv)) ∧ ∀ p st', H p = none → Q (.ref p) (L2.upd H p (.ext (PinK X.x p st' kv)))
theorem call_copyD : CallR X (.type "dict") (rCopyD X) := by
  intro pins s σ H xs us Q I r h
  obtain ⟨a, st, kv, rfl, e, q⟩ := h
  obtain ⟨u, rfl, rx⟩ := Vals.one r
  obtain rfl : u = Value.ref a := rx
  obtain ⟨_, z, hd, vs, rel, dd⟩ := pin_ok I e
  refine kt_call_dict hd dd (by rw [← rel.length]; exact z) fun h' dd' hs => ?_
  have hn := I.hok.fresh (Nat.le_refl s.heap.objs.size)
  have I1 : Inv X pins σ (L2.upd H s.heap.objs.size (.dK kv)) { s with heap := h' } := I.laid (a := s.heap.objs.size) (o := .dK kv) (t' := s.toks) (fun b q hq => (hs.2 b (Nat.ne_of_lt (Heap.lt_size hq))).trans (Heap.get?_push_of_some _ hq)) (Nat.le_refl _) (dk_new z (beq_eq_false_iff_ne.mpr (Ne.symm (Nat.ne_of_lt I.big))) rel dd')
  obtain ⟨st', I2⟩ := pin I1 L2.upd_same
  rw [L2.upd_upd] at I2
  exact ⟨.ref s.heap.objs.size, _, I2, rfl, q _ st' hn⟩
/-- dict(pairs) -/
def rPairsD (X : Cx) : List V → Hp → VK → Prop := fun xs H Q => ∃ (a : Addr) (ps : List Addr) (kvs : List (Key × V)), xs = [.ref a] ∧ SqL X.K H a (ps.map V.ref) ∧ Paired (fun p kv => SqT X.K H p [kV kv.1, kv.2]) ps kvs ∧
    ∀ p st', H p = none → Q (.ref p) (L2.upd H p (.ext (PinK X.x p st' (mergeK [] kvs))))
theorem call_pairsD (hcalm : X.calm = true) : CallR X (.type "dict") (rPairsD X) := by
  intro pins s σ H xs us Q I r ⟨a, ps, kvs, ex, hq, hp, q⟩
  refine thn (call_dictP hcalm pins s σ H xs us (fun v H' => ∃ p, v = .ref p ∧ H p = none ∧ H' = L2.upd H p (.dK (mergeK [] kvs))) I r ⟨a, ps, kvs, ex, hq, hp, fun p hn => ⟨p, rfl, hn, rfl⟩⟩) fun w' s' ⟨v, H', I', rw', p, e1, hn, e2⟩ => ?_
  subst e1
  subst e2
  obtain ⟨st', I2⟩ := pin I' L2.upd_same
  rw [L2.upd_upd] at I2
  exact ⟨_, _, I2, rw', q p st' hn⟩
end
end Mn

namespace Mn
open PySem PySem.Spec PyProof.Rows L2
/-! ### dicts made -/
theorem putK_nodup {kv : List (Key × V)} {k : Key} {v : V} (nd : (kv.map (·.1)).Nodup) : ((putK kv k v).map (·.1)).Nodup := by
  unfold putK
  by_cases h : (kv.any fun p => decide (p.1 = k)) = true
  · rw [if_pos h, List.map_map]
    have e : (kv.map ((fun p : Key × V => p.1) ∘ fun p => if p.1 = k then (p.1, v) else p)) = kv.map (·.1) := List.map_congr_left fun p _ => by
      show (if p.1 = k then (p.1, v) else p).1 = p.1
      split <;> rfl
    rw [e]; exact nd
  · rw [if_neg h, List.map_append, List.nodup_append]
    refine ⟨nd, by simp, fun a ha b hb e => ?_⟩
    have hb' : b = k := by simpa using hb
    obtain ⟨p, hp, hp2⟩ := List.mem_map.mp ha
    exact h (List.any_eq_true.mpr ⟨p, hp, decide_eq_true (by rw [hp2, e, hb'])⟩)
theorem KR.merge {K : Kx} {H : Hp} : ∀ {m : List (D × D)} {n : List (Key × V)}, KR K H m n → ∀ {r : List (D × D)} {t : List (Key × V)}, KR K H r t → (t.map (·.1)).Nodup → KR K H (dmerge r m) (mergeK t n)
  | _, _, .nil, _, _, q, _ => q
  | _, _, .cons (k := k) (v := v) h m, r, t, q, nd => KR.merge m (KR.nodup_set h q nd) (putK_nodup nd)
theorem prs_rep {K : Kx} {H : Hp} : ∀ {xs : List D} {vs : List V} {kvs : List (D × D)}, Reps K H xs vs → prs xs = some kvs → kvs.all (·.1.sca) = true →
    ∃ (ps : List Addr) (kv : List (Key × V)), vs = ps.map V.ref ∧ Paired (fun p kv => SqT K.K H p [kV kv.1, kv.2]) ps kv ∧ KR K H kvs kv
  | [], _, _, .nil, e, _ => by cases e; exact ⟨[], [], rfl, .nil, .nil⟩
  | x :: xs, v :: vs, kvs, .cons h r, e, hs => by
    unfold prs at e
    split at e
    · rename_i q; cases q
    · rename_i k d xs' q
      cases q
      cases q2 : prs xs with
      | none => rw [q2] at e; cases e
      | some ps' =>
        rw [q2] at e
        cases e
        rw [List.all_cons, Bool.and_eq_true] at hs
        obtain ⟨ps, kv, e1, e2, e3⟩ := prs_rep r q2 hs.2
        obtain ⟨k', hk⟩ := sca_key hs.1
        cases h with
        | @tup a ws _ hq rs =>
          cases rs with
          | cons r1 r2 =>
            cases r2 with
            | cons r2 r3 =>
              cases r3
              simp only at hk
              subst hk
              have ek := keyD_rep r1
              subst ek
              exact ⟨a :: ps, (k', _) :: kv, by rw [e1]; rfl, .cons hq e2, .cons r2 e3⟩
    · cases e
theorem dictRaw_nil {P : Program} {w : World} {h : Heap} {a : Addr} {vs : List (Key × Value)} (hv : vs = []) (d : h.DictOf (mixKind P w) a vs) : ∃ o es ep, h.get? a = some o ∧ o.ExactDict ∧ o.data = .dict es ep ∧ es.toList = [] := by
  obtain ⟨o, es, ep, h1, h2, h3, _, pr, _⟩ := d
  subst hv
  refine ⟨o, es, ep, h1, h2, h3, ?_⟩
  have := pr.length
  exact List.eq_nil_of_length_eq_zero this
theorem pin_nil {K : Kx} {a : Addr} {st : Obj} : PinK K a st [] = PinT K a st [] := by
  funext h
  apply propext
  constructor
  · rintro ⟨h1, _, h2, vs, r, d⟩
    have hv : vs = [] := by cases r; rfl
    obtain ⟨o, es, ep, e1, e2, e3, e4⟩ := dictRaw_nil hv d
    rw [h1] at e1
    cases e1
    exact ⟨h1, Nat.zero_le _, h2, e2, es, ep, e3, e4, List.nodup_nil⟩
  · rintro ⟨h1, _, h2, e2, es, ep, e3, e4, _⟩
    have e5 : es = #[] := by
      apply Array.toList_inj.mp
      exact e4
    subst e5
    exact ⟨h1, Nat.zero_le _, h2, [], .nil, st, #[], ep, h1, e2, e3, fun _ h => absurd h (by simp), .nil, List.nodup_nil⟩
theorem SR.dic {K : Kx} {S : Store} {H : Hp} (s : SR K S H) {a : Addr} {kvs : List (D × D)} {st : Obj} (h : S a = some (.dic kvs st)) (hk : kvs.all (·.1.sca) = true) : ∃ kv, H a = some (.ext (PinK K a st kv)) ∧ KR K H kvs kv := by
  cases (show DicOk K H a kvs st from s a _ h) with
  | k h1 h2 => exact ⟨_, h1, h2⟩
  | t h1 h2 =>
    cases h2 with
    | nil => exact ⟨[], by rw [pin_nil]; exact h1, .nil⟩
    | cons _ _ _ _ _ _ => rw [List.all_cons] at hk; cases hk
theorem SR.dicT {K : Kx} {S : Store} {H : Hp} (s : SR K S H) {a : Addr} {kvs : List (D × D)} {st : Obj} (h : S a = some (.dic kvs st)) (hk : kvs.all (·.1.tpk) = true) : ∃ xs, H a = some (.ext (PinT K a st xs)) ∧ TR K H kvs xs := by
  cases (show DicOk K H a kvs st from s a _ h) with
  | t h1 h2 => exact ⟨_, h1, h2⟩
  | k h1 h2 =>
    cases h2 with
    | nil => exact ⟨[], by rw [← pin_nil]; exact h1, .nil⟩
    | cons _ _ =>
      rename_i k _ _ _ _ _ _
      rw [List.all_cons] at hk
      cases k <;> cases hk
/-- a key that may be asked: of the one kind, or of the other -/
theorem okK_key {k : D} {kvs : List (D × D)} (h : okK k kvs = true) : (∃ k', k = keyD k' ∧ kvs.all (·.1.sca) = true) ∨ ∃ ds, k = .tup ds ∧ D.keys ds = true ∧ D.dep (.tup ds) ≤ 8 ∧ kvs.all (·.1.tpk) = true := by
  unfold okK at h
  rw [Bool.or_eq_true, Bool.and_eq_true, Bool.and_eq_true, Bool.and_eq_true, decide_eq_true_eq] at h
  rcases h with ⟨h1, h2⟩ | ⟨⟨h1, h2⟩, h3⟩
  · obtain ⟨k', e⟩ := sca_key h1
    exact .inl ⟨k', e, h2⟩
  · cases k <;> first | (cases h1; done) | exact .inr ⟨_, rfl, h1, h2, h3⟩
theorem KR.getD {K : Kx} {H : Hp} {r : List (D × D)} {t : List (Key × V)} (q : KR K H r t) (k : Key) {x : D} {v : V} (rx : Rep K H x v) : Rep K H ((dget r (keyD k)).getD x) ((valV t k).getD v) := by
  cases e : dget r (keyD k) with
  | none => rw [q.none k e]; exact rx
  | some d => obtain ⟨w, h, h2⟩ := q.get k d e; rw [h]; exact h2

/-! ### keys that are tuples -/
mutual
theorem nkey_inj : ∀ (d e : D), D.key d = true → D.key e = true → nkey d = nkey e → d = e
  | .non, e, _, h2, h => by cases e <;> first | rfl | (simp [nkey] at h; done) | (simp [D.key] at h2; done)
  | .int i, e, _, h2, h => by cases e <;> first | (simp [nkey] at h; subst h; rfl) | (simp [nkey] at h; done) | (simp [D.key] at h2; done)
  | .str i, e, _, h2, h => by cases e <;> first | (simp [nkey] at h; subst h; rfl) | (simp [nkey] at h; done) | (simp [D.key] at h2; done)
  | .tup xs, e, h1, h2, h => by
    cases e <;> first | (simp [nkey] at h; done) | (simp [D.key] at h2; done) | skip
    rename_i ys
    rw [D.key] at h1 h2
    rw [nkey, nkey] at h
    rw [nkeys_inj xs ys h1 h2 (NestedKey.tup.inj h)]
  | .bl _, _, h1, _, _ => by simp [D.key] at h1
  | .rol _, _, h1, _, _ => by simp [D.key] at h1
  | .kdc _ _, _, h1, _, _ => by simp [D.key] at h1
  | .obj _, _, h1, _, _ => by simp [D.key] at h1
theorem nkeys_inj : ∀ (d e : List D), D.keys d = true → D.keys e = true → nkeys d = nkeys e → d = e
  | [], e, _, _, h => by
    cases e with
    | nil => rfl
    | cons _ _ => rw [nkeys, nkeys] at h; cases h
  | x :: xs, e, h1, h2, h => by
    cases e with
    | nil => rw [nkeys, nkeys] at h; cases h
    | cons y ys =>
      rw [D.keys, Bool.and_eq_true] at h1 h2
      rw [nkeys, nkeys] at h
      injection h with e1 e2
      rw [nkey_inj x y h1.1 h2.1 e1, nkeys_inj xs ys h1.2 h2.2 e2]
end
mutual
theorem nkey_depth : ∀ d : D, D.key d = true → (nkey d).depth = D.dep d
  | .non, _ => rfl
  | .int _, _ => rfl
  | .str _, _ => rfl
  | .tup xs, h => by
    rw [D.key] at h
    rw [nkey, NestedKey.depth, D.dep, nkeys_depth xs h]
  | .bl _, h1 => by simp [D.key] at h1
  | .rol _, h1 => by simp [D.key] at h1
  | .kdc _ _, h1 => by simp [D.key] at h1
  | .obj _, h1 => by simp [D.key] at h1
theorem nkeys_depth : ∀ ds : List D, D.keys ds = true → NestedKey.depthAll (nkeys ds) = D.deps ds
  | [], _ => rfl
  | x :: xs, h => by
    rw [D.keys, Bool.and_eq_true] at h
    rw [nkeys, NestedKey.depthAll, D.deps, nkey_depth x h.1, nkeys_depth xs h.2]
end
section
variable {X : Cx} {pins : List (Addr × Obj)} {σ : L2.St} {H : Hp} {s : Shared}
mutual
theorem nest_of (I : Inv X pins σ H s) : ∀ (d : D) (v : V) (u : Value), D.key d = true → Rep X.x H d v → RelV v u → NestedIs s.heap (nkey d) u
  | .non, _, _, _, r, q => by cases r; cases (show _ = Value.none from q); exact .none
  | .int i, _, _, _, r, q => by cases r; obtain ⟨t, rfl⟩ := (show ∃ t, _ = Value.int i t from q); exact .int i t
  | .str x, _, _, _, r, q => by cases r; obtain ⟨t, rfl⟩ := (show ∃ t, _ = Value.str x t from q); exact .text x t
  | .tup xs, _, _, h, r, q => by
    cases r with
    | @tup a vs _ hq rs =>
      cases (show _ = Value.ref a from q)
      rw [D.key] at h
      obtain ⟨its, rv, ⟨o, ho, hc, n, hd⟩, _⟩ := I.tuple hq
      rw [nkey]
      exact .tup ho hc hd (nests_of I xs vs its h rs rv)
  | .bl _, _, _, h1, _, _ => by simp [D.key] at h1
  | .rol _, _, _, h1, _, _ => by simp [D.key] at h1
  | .kdc _ _, _, _, h1, _, _ => by simp [D.key] at h1
  | .obj _, _, _, h1, _, _ => by simp [D.key] at h1
theorem nests_of (I : Inv X pins σ H s) : ∀ (ds : List D) (vs : List V) (us : List Value), D.keys ds = true → Reps X.x H ds vs → Vals vs us → NestedAll s.heap (nkeys ds) us
  | [], _, _, _, r, q => by cases r; cases q; exact .nil
  | d :: ds, _, _, h, r, q => by
    rw [D.keys, Bool.and_eq_true] at h
    cases r with
    | cons r1 r2 =>
      cases q with
      | cons q1 q2 => exact .cons (nest_of I d _ _ h.1 r1 q1) (nests_of I ds _ _ h.2 r2 q2)
end
end
theorem atKey_pos {k : NestedKey} {p : NestedKey × Addr × Value} {r : List (NestedKey × Addr × Value)} (e : p.1 = k) : atKey (p :: r) k = some p.2 := by
  unfold atKey
  rw [List.find?_cons, decide_eq_true e]
  rfl
theorem atKey_neg {k : NestedKey} {p : NestedKey × Addr × Value} {r : List (NestedKey × Addr × Value)} (e : ¬ p.1 = k) : atKey (p :: r) k = atKey r k := by
  unfold atKey
  rw [List.find?_cons, decide_eq_false e]
theorem nkey_ne {ds es : List D} (h1 : D.keys ds = true) (h2 : D.keys es = true) (n : ¬ D.tup ds = D.tup es) : ¬ nkey (.tup ds) = nkey (.tup es) := fun z => n (nkey_inj _ _ (by rw [D.key]; exact h1) (by rw [D.key]; exact h2) z)
theorem TR.get {K : Kx} {H : Hp} {ds : List D} (hk : D.keys ds = true) : ∀ {r : List (D × D)} {t : List (NestedKey × Addr × Value)}, TR K H r t → ∀ d, dget r (.tup ds) = some d → ∃ b u v, atKey t (nkey (.tup ds)) = some (b, u) ∧ RelV v u ∧ Rep K H d v
  | _, _, .nil, d, e => by cases e
  | _, _, .cons (ds := es) h1 h2 h3 h4 h5 r, d, e => by
    rw [dget] at e
    by_cases hq : D.tup es = D.tup ds
    · rw [if_pos hq] at e
      cases e
      exact ⟨_, _, _, atKey_pos (by rw [hq]), h5, h4⟩
    · rw [if_neg hq] at e
      obtain ⟨b, u, v, g1, g2, g3⟩ := TR.get hk r d e
      exact ⟨b, u, v, by rw [atKey_neg (nkey_ne h1 hk hq)]; exact g1, g2, g3⟩
theorem TR.none {K : Kx} {H : Hp} {ds : List D} (hk : D.keys ds = true) : ∀ {r : List (D × D)} {t : List (NestedKey × Addr × Value)}, TR K H r t → dget r (.tup ds) = none → atKey t (nkey (.tup ds)) = none
  | _, _, .nil, e => rfl
  | _, _, .cons (ds := es) h1 h2 h3 h4 h5 r, e => by
    rw [dget] at e
    by_cases hq : D.tup es = D.tup ds
    · rw [if_pos hq] at e; cases e
    · rw [if_neg hq] at e
      rw [atKey_neg (nkey_ne h1 hk hq)]
      exact TR.none hk r e
theorem TR.isSome {K : Kx} {H : Hp} {ds : List D} (hk : D.keys ds = true) {r : List (D × D)} {t : List (NestedKey × Addr × Value)} (q : TR K H r t) : (dget r (.tup ds)).isSome = (atKey t (nkey (.tup ds))).isSome := by
  cases e : dget r (.tup ds) with
  | none => rw [q.none hk e]; rfl
  | some d => obtain ⟨b, u, v, h, _⟩ := q.get hk d e; rw [h]; rfl
theorem TR.put {K : Kx} {H : Hp} {ds : List D} {b : Addr} {d : D} {v : V} {u : Value} (hk : D.keys ds = true) (hd : D.dep (.tup ds) ≤ 8) (hb : Rep K H (.tup ds) (.ref b)) (hr : Rep K H d v) (hu : RelV v u) :
    ∀ {r : List (D × D)} {t : List (NestedKey × Addr × Value)}, TR K H r t → (t.map (·.1)).Nodup → TR K H (dset r (.tup ds) d) (storedH t (nkey (.tup ds)) b u)
  | _, _, .nil, _ => .cons hk hd hb hr hu .nil
  | _, _, .cons (ds := es) (b := b') (u := u') (s := t) h1 h2 h3 h4 h5 r, nd => by
    have nd' := List.nodup_cons.mp (show (nkey (.tup es) :: t.map (·.1)).Nodup from nd)
    rw [dset]
    by_cases hq : D.tup es = D.tup ds
    · rw [if_pos hq]
      have ek : nkey (.tup es) = nkey (.tup ds) := by rw [hq]
      have e1 : t.map (putAt (nkey (.tup ds)) u) = t := by
        have h0 : ∀ p ∈ t, putAt (nkey (.tup ds)) u p = p := fun p hp => if_neg fun z => nd'.1 (List.mem_map.mpr ⟨p, hp, z.trans ek.symm⟩)
        calc t.map (putAt (nkey (.tup ds)) u) = t.map id := List.map_congr_left h0
          _ = t := List.map_id t
      have e2 : storedH ((nkey (.tup es), b', u') :: t) (nkey (.tup ds)) b u = (nkey (.tup es), b', u) :: t := by
        unfold storedH
        rw [atKey_pos (p := (nkey (.tup es), b', u')) ek]
        show List.map (putAt (nkey (.tup ds)) u) ((nkey (.tup es), b', u') :: t) = _
        rw [List.map_cons, e1]
        congr 1
        exact if_pos ek
      rw [e2]
      exact .cons h1 h2 h3 hr hu r
    · rw [if_neg hq]
      have nk := nkey_ne h1 hk hq
      have e2 : storedH ((nkey (.tup es), b', u') :: t) (nkey (.tup ds)) b u = (nkey (.tup es), b', u') :: storedH t (nkey (.tup ds)) b u := by
        unfold storedH
        rw [atKey_neg (p := (nkey (.tup es), b', u')) nk, List.map_cons]
        have e3 : putAt (nkey (.tup ds)) u (nkey (.tup es), b', u') = (nkey (.tup es), b', u') := if_neg nk
        rw [e3]
        split <;> rfl
      rw [e2]
      exact .cons h1 h2 h3 h4 h5 (TR.put hk hd hb hr hu r nd'.2)
section
variable {X : Cx} {pins : List (Addr × Obj)} {σ : L2.St} {H : Hp} {s : Shared} {a : Addr} {st : Obj} {xs : List (NestedKey × Addr × Value)} {kvs : List (D × D)}
theorem tkey_of (I : Inv X pins σ H s) {ds : List D} {b : Addr} (h1 : D.keys ds = true) (h2 : D.dep (.tup ds) ≤ 8) (h3 : Rep X.x H (.tup ds) (.ref b)) : (nestedKind X.prog X.w).is s.heap (nkey (.tup ds)) b := by
  have hk : D.key (.tup ds) = true := by rw [D.key]; exact h1
  exact ⟨nest_of I (.tup ds) (.ref b) (.ref b) hk h3 rfl, by rw [nkey_depth _ hk]; exact h2⟩
theorem pinT_ok (I : Inv X pins σ H s) (e : H a = some (.ext (PinT X.x a st xs))) (t : TR X.x H kvs xs) :
    s.heap.get? a = some st ∧ xs.length ≤ sizeLine ∧ (a == sysModules) = false ∧ s.heap.DictOfH (nestedKind X.prog X.w) a xs := by
  obtain ⟨⟨h1, h2, h3, h4, es, ep, h5, h6, h7⟩, _⟩ := I.hok a _ e
  refine ⟨h1, h2, h3, st, es, ep, h1, h4, h5, h6, ?_, h7⟩
  clear h6 h7 h2 e
  have all : ∀ {kvs : List (D × D)} {xs : List (NestedKey × Addr × Value)}, TR X.x H kvs xs → ∀ x ∈ xs, (nestedKind X.prog X.w).is s.heap x.1 x.2.1 := by
    intro kvs xs t
    induction t with
    | nil => intro x hx; exact absurd hx List.not_mem_nil
    | cons h1 h2 h3 h4 h5 r ih =>
      intro x hx
      rcases List.mem_cons.mp hx with rfl | hx
      · exact tkey_of I h1 h2 h3
      · exact ih x hx
  exact all t
theorem pinT_stay (h1 h2 : Heap) (p : PinT X.x a st xs h1) (k : ∀ o, h1.get? a = some o → h2.get? a = some o) : PinT X.x a st xs h2 := by
  obtain ⟨q1, r⟩ := p
  exact ⟨k _ q1, r⟩
/-- a dict written by the library's rule is pinned again -/
theorem pinT_write {φ : Heap → Prop} {h' : Heap} {tk : Nat} {ys : List (NestedKey × Addr × Value)} (I : Inv X pins σ H s) (e : H a = some (.ext φ)) (hs : Heap.SameBut a s.heap h') (dd : h'.DictOfH (nestedKind X.prog X.w) a ys) (hz : ys.length ≤ sizeLine) (hm : (a == sysModules) = false) :
    ∃ st', Inv X pins σ (L2.upd H a (.ext (PinT X.x a st' ys))) { s with heap := h', toks := tk } := by
  obtain ⟨o, es, ep, h1, h2, h3, h4, h5, h6⟩ := dd
  refine ⟨o, d_write (t' := tk) I (by rw [e]; exact True.intro) hs ⟨o, h1⟩ ?_⟩
  exact ⟨⟨h1, hz, hm, h2, es, ep, h3, h4, h6⟩, ⟨o, h1⟩, fun h1 h2 p k => pinT_stay h1 h2 p k⟩
theorem room_in1 {A : Around} (hu : A.units + 64 < cLine) : (nestedKind X.prog X.w).room A.in1 := by
  show A.units + 1 + 8 < cLine
  omega
end
theorem SR.setT {K : Kx} {S : Store} {H : Hp} {p : Addr} {kvs : List (D × D)} {st : Obj} {xs : List (NestedKey × Addr × Value)} {φ : Heap → Prop} (s : SR K S H) (h : H p = some (.ext φ)) (r : TR K H kvs xs) :
    SR K (upd S p (.dic kvs st)) (L2.upd H p (.ext (PinT K p st xs))) := fun a o e => by
  have sy : Stay H (L2.upd H p (.ext (PinT K p st xs))) := stay_any h (fun _ z => nomatch z) (fun _ _ z => nomatch z)
  by_cases ha : a = p
  · subst ha
    rw [upd_same] at e; cases e
    exact DicOk.t L2.upd_same (r.stay sy)
  · rw [upd_ne ha] at e
    exact (s a o e).stay sy fun u q => by rw [L2.upd_ne ha]; exact q
theorem SR.newT {K : Kx} {S : Store} {H : Hp} {p : Addr} {kvs : List (D × D)} {st : Obj} {xs : List (NestedKey × Addr × Value)} (s : SR K S H) (h : H p = none) (r : TR K H kvs xs) :
    SR K (upd S p (.dic kvs st)) (L2.upd H p (.ext (PinT K p st xs))) := fun a o e => by
  by_cases ha : a = p
  · subst ha
    rw [upd_same] at e; cases e
    exact DicOk.t L2.upd_same (r.stay (.of_ext (ext_upd h)))
  · rw [upd_ne ha] at e
    exact (s a o e).stay (.of_ext (ext_upd h)) fun u => ext_upd h a u
theorem KR.sca {K : Kx} {H : Hp} : ∀ {r : List (D × D)} {t : List (Key × V)}, KR K H r t → r.all (·.1.sca) = true
  | _, _, .nil => rfl
  | _, _, .cons (k := k) _ r => by rw [List.all_cons, KR.sca r, Bool.and_true]; exact sca_keyD k
theorem TR.tpk {K : Kx} {H : Hp} : ∀ {r : List (D × D)} {t : List (NestedKey × Addr × Value)}, TR K H r t → r.all (·.1.tpk) = true
  | _, _, .nil => rfl
  | _, _, .cons h1 _ _ _ _ r => by rw [List.all_cons, TR.tpk r, Bool.and_true]; exact h1
theorem TR.at {K : Kx} {H : Hp} : ∀ {r : List (D × D)} {t : List (NestedKey × Addr × Value)} {i : Nat} {p : D × D}, TR K H r t → r[i]? = some p → ∃ k b u, t[i]? = some (k, b, u) ∧ Rep K H p.1 (.ref b)
  | _, _, _, _, .nil, e => by simp at e
  | _, _, 0, _, .cons _ _ h _ _ _, e => by simp at e; subst e; exact ⟨_, _, _, rfl, h⟩
  | _, _, i + 1, _, .cons _ _ _ _ _ r, e => by
    obtain ⟨k, b, u, h1, h2⟩ := TR.at (i := i) r (by simpa using e)
    exact ⟨k, b, u, by simpa using h1, h2⟩
/-- a dict at a, whatever its keys -/
def IsDic (K : Kx) (H : Hp) (a : Addr) : Prop := (∃ st kv, H a = some (.ext (PinK K a st kv))) ∨ ∃ st xs, H a = some (.ext (PinT K a st xs))
theorem SR.isDic {K : Kx} {S : Store} {H : Hp} (s : SR K S H) {a : Addr} {kvs : List (D × D)} {st : Obj} (h : S a = some (.dic kvs st)) : IsDic K H a := by
  cases (show DicOk K H a kvs st from s a _ h) with
  | k h1 h2 => exact .inl ⟨_, _, h1⟩
  | t h1 h2 => exact .inr ⟨_, _, h1⟩
theorem isDic_at {X : Cx} {pins : List (Addr × Obj)} {σ : L2.St} {H : Hp} {s : Shared} {a : Addr} (I : Inv X pins σ H s) (d : IsDic X.x H a) : s.TypeIs (.ref a) "dict" ∧ ∀ b, Value.ref a = .ref b → ∃ ob, s.heap.get? b = some ob ∧ ob.dict = none := by
  rcases d with ⟨st, kv, e⟩ | ⟨st, xs, e⟩
  · exact ⟨pin_typeIs I e, pin_noDict I e⟩
  · obtain ⟨⟨h1, h2, h3, h4, _⟩, _⟩ := I.hok a _ e
    exact ⟨⟨st, h1, h4.1⟩, fun b q => by cases q; exact ⟨st, h1, h4.2.1⟩⟩
/-! ### dict(pairs), keys that are tuples -/
section
variable {X : Cx} {pins : List (Addr × Obj)} {σ : L2.St} {H : Hp} {s : Shared}
theorem pairsT_of (I : Inv X pins σ H s) : ∀ {xs : List D} {ws : List V} {kvs : List (D × D)}, Reps X.x H xs ws → prs xs = some kvs → kvs.all okT = true →
    ∃ (ps : List Addr) (ts : List (NestedKey × Addr × Value)), ws = ps.map V.ref ∧ TR X.x H kvs ts ∧ ps.length = ts.length ∧ ∀ (j : Nat) (k : NestedKey) (b : Addr) (u : Value), ts[j]? = some (k, b, u) → ∃ p, ps[j]? = some p ∧ IsTup s.heap p #[Value.ref b, u]
  | [], _, _, .nil, e, _ => by cases e; exact ⟨[], [], rfl, .nil, rfl, fun j k b u e => by simp at e⟩
  | x :: xs, v :: vs, kvs, .cons h r, e, hs => by
    unfold prs at e
    split at e
    · rename_i q; cases q
    · rename_i k d xs' q
      cases q
      cases q2 : prs xs with
      | none => rw [q2] at e; cases e
      | some ps' =>
        rw [q2] at e
        cases e
        rw [List.all_cons, Bool.and_eq_true] at hs
        obtain ⟨ps, ts, e1, e2, e3, e4⟩ := pairsT_of I r q2 hs.2
        have hk := hs.1
        unfold okT at hk
        rw [Bool.and_eq_true, decide_eq_true_eq] at hk
        cases k <;> first | (cases hk.1; done) | skip
        rename_i ds
        cases h with
        | @tup a ws _ hq rs =>
          cases rs with
          | cons r1 r2 =>
            cases r2 with
            | cons r2 r3 =>
              cases r3
              cases r1 with
              | @tup b ks _ hqk rsk =>
                obtain ⟨its, rv, ht, _⟩ := I.tuple hq
                obtain ⟨u0, u, ei, ru0, ru⟩ := vals2 rv
                subst ei
                cases (show u0 = Value.ref b from ru0)
                refine ⟨a :: ps, (nkey (.tup ds), b, u) :: ts, by rw [e1]; rfl, .cons hk.1 hk.2 (.tup hqk rsk) r2 ru e2, by rw [List.length_cons, List.length_cons, e3], fun j k b' u' e => ?_⟩
                cases j with
                | zero =>
                  simp at e
                  obtain ⟨_, rfl, rfl⟩ := e
                  exact ⟨a, rfl, ht⟩
                | succ j =>
                  obtain ⟨p, g1, g2⟩ := e4 j k b' u' (by simpa using e)
                  exact ⟨p, by simpa using g1, g2⟩
    · cases e
theorem TR.merge {K : Kx} : ∀ {m : List (D × D)} {n : List (NestedKey × Addr × Value)}, TR K H m n → ∀ {r : List (D × D)} {t : List (NestedKey × Addr × Value)}, TR K H r t → (t.map (·.1)).Nodup → TR K H (dmerge r m) (storedAllH t n)
  | _, _, .nil, _, _, q, _ => q
  | _, _, .cons (ds := ds) (b := b) (u := u) h1 h2 h3 h4 h5 m, r, t, q, nd => by
    show TR K H (dmerge (dset r _ _) _) (storedAllH (storedH t (nkey (.tup ds)) b u) _)
    refine TR.merge m (TR.put h1 h2 h3 h4 h5 q nd) ?_
    unfold storedH
    split
    · have e : ((t.map (putAt (nkey (.tup ds)) u)).map (·.1)) = t.map (·.1) := by
        rw [List.map_map]
        refine List.map_congr_left fun p _ => ?_
        show (putAt _ u p).1 = p.1
        unfold putAt
        split <;> rfl
      rw [e]; exact nd
    · rename_i h
      rw [List.map_append, List.nodup_append]
      refine ⟨nd, by simp, fun x hx y hy e => ?_⟩
      have hy' : y = nkey (.tup ds) := by simpa using hy
      obtain ⟨p, hp, hp2⟩ := List.mem_map.mp hx
      refine h ?_
      unfold atKey
      rw [Option.isSome_map, List.find?_isSome]
      exact ⟨p, hp, decide_eq_true (by rw [hp2, e, hy'])⟩
end
theorem call_pairsT {X : Cx} {pins : List (Addr × Obj)} {σ : L2.St} {H : Hp} {s : Shared} {a : Addr} {ps : List Addr} {ts : List (NestedKey × Addr × Value)} {kvs : List (D × D)} {Q : VK} (hcalm : X.calm = true) (hu : X.A.units + 64 < cLine) (I : Inv X pins σ H s)
    (hq : SqL X.K H a (ps.map V.ref)) (tr : TR X.x H kvs ts) (hl : ps.length = ts.length) (hp : ∀ (j : Nat) (k : NestedKey) (b : Addr) (u : Value), ts[j]? = some (k, b, u) → ∃ p, ps[j]? = some p ∧ IsTup s.heap p #[Value.ref b, u])
    (hres : ∀ p st, H p = none → Q (.ref p) (L2.upd H p (.ext (PinT X.x p st (storedAllH [] ts))))) : wpAny (model X.prog X.w) X.A (call (.type "dict") [.ref a]) (EP X pins σ Q) X.xe s := by
  obtain ⟨its, rv, pl, hz⟩ := I.list hq
  have ei := refs_at rv
  subst ei
  rw [List.length_map] at hz
  obtain ⟨o, n, ho, hc, hd, hdat⟩ := pl
  let psV : List (Value × Value) := ts.map fun t => (Value.ref t.2.1, t.2.2)
  let Ts : Nat → Addr := fun j => ps.getD j 0
  have hlen : psV.length = ps.length := by rw [List.length_map, hl]
  have items : PairItems s.heap (ps.map Value.ref).toArray Ts psV := by
    refine ⟨by simp [hlen], fun j k v e => ?_⟩
    rw [List.getElem?_map] at e
    cases q : ts[j]? with
    | none => rw [q] at e; cases e
    | some t =>
      rw [q] at e
      obtain ⟨kk, b, u⟩ := t
      cases e
      obtain ⟨p, g1, o2, h1, h2, m, h3⟩ := hp j kk b u q
      have eT : Ts j = p := by
        show ps.getD j 0 = p
        rw [List.getD_eq_getElem?_getD, g1]
        rfl
      rw [eT]
      exact ⟨by simp [g1], .inl ⟨o2, h1, h2, m, h3⟩⟩
  have ks : ∀ x ∈ ts, (nestedKind X.prog X.w).is s.heap x.1 x.2.1 := by
    clear hp hres items hlen hl
    induction tr with
    | nil => intro x hx; exact absurd hx List.not_mem_nil
    | cons h1 h2 h3 h4 h5 r ih =>
      intro x hx
      rcases List.mem_cons.mp hx with rfl | hx
      · exact tkey_of I h1 h2 h3
      · exact ih x hx
  refine call_dict_pairsH (knd := nestedKind X.prog X.w) (ps := ts) (PairArg.list a (ps.map Value.ref).toArray Ts psV) (I.ok.hd hcalm) (show X.A.units + 1 + 1 + 8 < cLine by omega) ⟨⟨o, n, ho, hc, hd, hdat⟩, items⟩ ⟨by rw [hlen, hl], fun i key v e => ?_⟩ (fun h' hk x hx => ?_) (by rw [hlen]; exact hz) fun h' tk hd' hk => ?_
  · have e' : psV[i]? = some (key, v) := e
    rw [List.getElem?_map] at e'
    cases q : ts[i]? with
    | none => rw [q] at e'; cases e'
    | some t =>
      rw [q] at e'
      obtain ⟨kk, b, u⟩ := t
      cases e'
      exact ⟨kk, b, rfl, rfl⟩
  · obtain ⟨h1, h2⟩ := ks x hx
    refine ⟨NestedIs.at (fun b ob vs m hb _ => hk b ob (Nat.ne_of_lt (Heap.lt_size hb)) List.not_mem_nil hb) _ _ h1, h2⟩
  · have hm : (s.heap.objs.size == sysModules) = false := beq_eq_false_iff_ne.mpr (Nat.ne_of_gt I.big)
    have tm := TR.merge tr (.nil) List.nodup_nil
    obtain ⟨o', es, ep, g1, g2, g3, g4, g5, g6⟩ := hd'
    have hsz : (storedAllH ([] : List (NestedKey × Addr × Value)) ts).length ≤ sizeLine := by
      have key : ∀ (l m : List (NestedKey × Addr × Value)), (storedAllH m l).length ≤ m.length + l.length := by
        intro l
        induction l with
        | nil => intro m; exact Nat.le_refl _
        | cons p r ih =>
          intro m
          have h1 := ih (storedH m p.1 p.2.1 p.2.2)
          have h2 : (storedH m p.1 p.2.1 p.2.2).length ≤ m.length + 1 := by
            unfold storedH
            split
            · rw [List.length_map]; omega
            · rw [List.length_append]; exact Nat.le_refl _
          show (storedAllH (storedH m p.1 p.2.1 p.2.2) r).length ≤ _
          rw [List.length_cons]
          omega
      have := key ts []
      rw [List.length_nil, Nat.zero_add, ← hl] at this
      omega
    have I2 : Inv X pins σ (L2.upd H s.heap.objs.size (.ext (PinT X.x s.heap.objs.size o' (storedAllH [] ts)))) { s with heap := h', toks := tk } :=
      I.laid (t' := tk) (fun b ob e => hk b ob List.not_mem_nil e) (Nat.le_refl _) ⟨⟨g1, hsz, hm, g2, es, ep, g3, g4, g6⟩, ⟨o', g1⟩, fun h1 h2 p k => pinT_stay h1 h2 p k⟩
    exact ⟨.ref s.heap.objs.size, _, I2, rfl, hres _ o' (I.hok.fresh (Nat.le_refl _))⟩
end Mn

/-! SetN: sets of tuples of texts, whole numbers, None and such tuples. -/
namespace Mn
open PySem PySem.Spec PyProof.Rows L2
/-- the tuple at b has the key y -/
abbrev NT (P : Program) (w : World) (h : Heap) (y : NestedKey) (b : Addr) : Prop := (nestedKind P w).is h y b
section
variable {P : Program} {w : World} {A : Around} {E : Value → Shared → Prop} {s : Shared}
/-! ### questions asked of a key -/
mutual
theorem cls_key : ∀ (y : NestedKey) (v : Value) (n : Nat) (s : Shared), NestedIs s.heap y v → y.depth ≤ n → ∀ (A : Around) (E : Value → Shared → Prop) (Q : Bool → Shared → Prop), Q false s → wpAny (model P w) A (ofAClassStatement n v) Q E s
  | .none, _, n, s, x, _, A, E, Q, q => by cases x; cases n <;> exact wpAny_pure q
  | .num i, _, n, s, x, _, A, E, Q, q => by cases x <;> cases n <;> exact wpAny_pure q
  | .text z, _, n, s, x, _, A, E, Q, q => by cases x; cases n <;> exact wpAny_pure q
  | .tup ks, _, n, s, x, hn, A, E, Q, q => by
    cases x with
    | @tup a o vs m _ hg hc hd hk =>
      simp only [NestedKey.depth] at hn
      cases n with
      | zero => omega
      | succ n =>
        have ty : s.TypeIs (.ref a) "tuple" := ⟨o, hg, hc⟩
        have all := cls_keys ks _ n s hk (by omega)
        unfold ofAClassStatement
        refine wpAny_bind (wpAny_typeOf ty ?_)
        dsimp only
        have e : (("tuple" : String) == "tuple") = true := by decide
        simp only [e, if_true, Bool.not_true, Bool.false_eq_true, if_false]
        try refine wpAny_bind (wpAny_pure ?_)
        try simp only [Bool.not_true, Bool.false_eq_true, if_false]
        refine wpAny_bind (m := seqItems? (.ref a)) (wpAny_seqItems hg hd ?_)
        dsimp only
        refine wpAny_bind ?_
        show wpAny _ _ (forIn vs _ _) _ _ s
        rw [← Array.forIn_toList]
        refine wpAny_forIn_list _ (fun rest r s' => r.1 = none ∧ s' = s ∧ ∀ v ∈ rest, v ∈ vs.toList) _ ?_ ?_ _ _ ⟨rfl, rfl, fun v hv => hv⟩
        · rintro v rest r s' ⟨hr, rfl, sub⟩
          refine wpAny_bind (all v (sub v List.mem_cons_self) _ _ _ ?_)
          simp only [Bool.false_eq_true, if_false]
          exact wpAny_pure ⟨rfl, rfl, fun u hu => sub u (List.mem_cons_of_mem _ hu)⟩
        · rintro ⟨r1, r2⟩ s' ⟨hr, rfl, _⟩
          simp only at hr
          subst hr
          exact wpAny_pure q
theorem cls_keys : ∀ (ks : List NestedKey) (vs : List Value) (n : Nat) (s : Shared), NestedAll s.heap ks vs → NestedKey.depthAll ks ≤ n → ∀ v ∈ vs, ∀ (A : Around) (E : Value → Shared → Prop) (Q : Bool → Shared → Prop), Q false s → wpAny (model P w) A (ofAClassStatement n v) Q E s
  | [], _, n, s, x, _, v, hv => by cases x; cases hv
  | k :: ks, _, n, s, x, hn, v, hv => by
    cases x with
    | cons x1 x2 =>
      simp only [NestedKey.depthAll] at hn
      rcases List.mem_cons.mp hv with rfl | hv
      · exact cls_key k _ n s x1 (by omega)
      · exact cls_keys ks _ n s x2 (by omega) v hv
end
mutual
theorem hbv_key : ∀ (y : NestedKey) (v : Value) (n : Nat) (s : Shared), NestedIs s.heap y v → y.depth ≤ n → ∀ (A : Around) (E : Value → Shared → Prop) (Q : Bool → Shared → Prop), (∀ b, Q b s) → wpAny (model P w) A (hashByValue n v) Q E s
  | .none, _, n, s, x, _, A, E, Q, q => by cases x; cases n <;> exact wpAny_pure (q _)
  | .num i, _, n, s, x, _, A, E, Q, q => by cases x <;> cases n <;> exact wpAny_pure (q _)
  | .text z, _, n, s, x, _, A, E, Q, q => by cases x; cases n <;> exact wpAny_pure (q _)
  | .tup ks, _, n, s, x, hn, A, E, Q, q => by
    cases x with
    | @tup a o vs m _ hg hc hd hk =>
      simp only [NestedKey.depth] at hn
      cases n with
      | zero => omega
      | succ n =>
        have ty : s.TypeIs (.ref a) "tuple" := ⟨o, hg, hc⟩
        have all := hbv_keys ks _ n s hk (by omega)
        unfold hashByValue
        refine wpAny_bind (wpAny_specialOf ty F.slot_tuple_hash.lookup ?_)
        refine wpAny_bind (m := seqItems? (.ref a)) (wpAny_seqItems hg hd ?_)
        refine wpAny_bind ?_
        show wpAny _ _ (forIn vs _ _) _ _ s
        rw [← Array.forIn_toList]
        refine wpAny_forIn_list _ (fun rest r s' => r.1 = none ∧ s' = s ∧ ∀ v ∈ rest, v ∈ vs.toList) _ ?_ ?_ _ _ ⟨rfl, rfl, fun v hv => hv⟩
        · rintro v rest r s' ⟨hr, rfl, sub⟩
          refine wpAny_bind (all v (sub v List.mem_cons_self) _ _ _ fun b => ?_)
          cases b
          · simp only [Bool.not_false, if_true]
            exact wpAny_pure (wpAny_pure (q _))
          · simp only [Bool.not_true, Bool.false_eq_true, if_false]
            exact wpAny_pure ⟨rfl, rfl, fun u hu => sub u (List.mem_cons_of_mem _ hu)⟩
        · rintro ⟨r1, r2⟩ s' ⟨hr, rfl, _⟩
          simp only at hr
          subst hr
          exact wpAny_pure (q _)
theorem hbv_keys : ∀ (ks : List NestedKey) (vs : List Value) (n : Nat) (s : Shared), NestedAll s.heap ks vs → NestedKey.depthAll ks ≤ n → ∀ v ∈ vs, ∀ (A : Around) (E : Value → Shared → Prop) (Q : Bool → Shared → Prop), (∀ b, Q b s) → wpAny (model P w) A (hashByValue n v) Q E s
  | [], _, n, s, x, _, v, hv => by cases x; cases hv
  | k :: ks, _, n, s, x, hn, v, hv => by
    cases x with
    | cons x1 x2 =>
      simp only [NestedKey.depthAll] at hn
      rcases List.mem_cons.mp hv with rfl | hv
      · exact hbv_key k _ n s x1 (by omega)
      · exact hbv_keys ks _ n s x2 (by omega) v hv
end
/-- a search among keys shows nothing -/
theorem seen_key {y : NestedKey} {b : Addr} {Q : Bool → Shared → Prop} (hy : NT P w s.heap y b) {vs : List Value} (hv : ∀ v ∈ vs, ∃ z c, v = Value.ref c ∧ NT P w s.heap z c) (q : Q false s) : wpAny (model P w) A (searchCouldBeSeen (.ref b) vs) Q E s := by
  unfold searchCouldBeSeen
  refine wpAny_bind ?_
  refine wpAny_forIn_list _ (fun rest r s' => r.1 = none ∧ s' = s ∧ ∀ v ∈ rest, v ∈ vs) _ ?_ ?_ _ _ ⟨rfl, rfl, fun v h => h⟩
  · rintro v rest r s' ⟨hr, rfl, sub⟩
    obtain ⟨z, c, rfl, hz⟩ := hv v (sub v List.mem_cons_self)
    have more : ∀ u ∈ rest, u ∈ vs := fun u hu => sub u (List.mem_cons_of_mem _ hu)
    dsimp only
    by_cases same : (b == c || (carriedByValue (.ref b) && carriedByValue (.ref c))) = true
    · exact wp_if_pos same (wpAny_pure ⟨rfl, rfl, more⟩)
    · refine wp_if_neg same (wpAny_bind ((nestedKind P w).quiet hy ?_))
      simp only [Bool.not_true, Bool.false_eq_true, if_false]
      refine wpAny_bind ((nestedKind P w).quiet hz ?_)
      simp only [Bool.not_true, Bool.false_eq_true, if_false]
      refine wpAny_bind (cls_key y _ 8 _ hy.1 hy.2 _ _ _ ?_)
      simp only [Bool.false_eq_true, if_false]
      refine wpAny_bind (cls_key z _ 8 _ hz.1 hz.2 _ _ _ ?_)
      simp only [Bool.false_eq_true, if_false]
      exact wpAny_pure ⟨rfl, rfl, more⟩
  · rintro ⟨r1, r2⟩ s' ⟨hr, rfl, _⟩
    simp only at hr
    subst hr
    exact wpAny_pure q
/-! ### the set -/
abbrev hs (w : World) (p : Addr × NestedKey) : Int := p.2.hash w
abbrev row (w : World) (p : Addr × NestedKey) : Int × Value := (hs w p, Value.ref p.1)
structure Sn (P : Program) (w : World) (h : Heap) (a : Addr) (M : List (Addr × NestedKey)) (en : Array (Int × Value)) (ep : Nat) (tb : SetTable) : Prop where
  obj : ∃ o, h.get? a = some o ∧ o.ExactSet ∧ o.data = .set en ep tb
  rows : en.toList = M.map (row w)
  tab : TabOk tb (M.map (hs w))
  nd : (M.map (·.2)).Nodup
  is : ∀ p ∈ M, NT P w h p.2 p.1
  led : w.params.followText "set-order" = true ∨ tb.led = true
  room : M.length * 5 < tb.mask * 3
  few : M.length < 64
variable {a : Addr} {M : List (Addr × NestedKey)} {en : Array (Int × Value)} {ep : Nat} {tb : SetTable}
theorem rows_len (h : en.toList = M.map (row w)) : en.size = M.length := by
  have := congrArg List.length h
  rwa [Array.length_toList, List.length_map] at this
theorem Sn.fits (Z : Sn P w s.heap a M en ep tb) : tb.fits en.size = true := by
  have h1 := Z.tab.sz
  rw [List.length_map] at h1
  have h2 := rows_len Z.rows
  have h3 := Z.room
  unfold SetTable.fits SetTable.fill
  rw [Z.tab.dm, Bool.and_eq_true, beq_iff_eq, decide_eq_true_eq]
  show tb.place.size = en.size ∧ tb.place.size + 0 ≤ tb.mask
  omega
theorem Sn.row (Z : Sn P w s.heap a M en ep tb) {i : Nat} {p : Addr × NestedKey} (h : M[i]? = some p) : en[i]? = some (row w p) := by
  rw [← Array.getElem?_toList, Z.rows, List.getElem?_map, h]
  rfl
theorem Sn.stays (Z : Sn P w s.heap a M en ep tb) : ¬ tb.gaveWay = true := by
  unfold SetTable.gaveWay
  rw [mask_odd Z.tab.mok]
  decide
/-- the probes of a key -/
abbrev pr (tb : SetTable) (h : Int) (c : Nat) : SetTable.Probe := nth tb.mask (runAt tb.mask (SetTable.bits h % (tb.mask + 1)) (SetTable.bits h)) c
theorem pr_plain (tb : SetTable) (h : Int) (c : Nat) : (pr tb h c).dummy = none := by
  have key : ∀ (n : Nat) (p : SetTable.Probe), p.dummy = none → (nth tb.mask p n).dummy = none := by
    intro n
    induction n with
    | zero => exact fun p q => q
    | succ n ih => exact fun p q => ih (adv tb.mask p) (by unfold adv; split <;> exact q)
  exact key c _ rfl
/-- the search, from the c-th probe on; K is the first empty one -/
theorem sn_from (Z : Sn P w s.heap a M en ep tb) {b : Addr} {y : NestedKey} (hb : NT P w s.heap y b) (hu : A.units + 8 < cLine) {K : Nat} (k1 : K < 10 * SetTable.turns tb.mask)
    (k2 : way tb.mask (y.hash w) K ∉ tb.place.toList) (k3 : ∀ c, c < K → way tb.mask (y.hash w) c ∈ tb.place.toList) {Q : SetFound → Shared → Prop}
    (inn : y ∈ M.map (·.2) → Q (.there none) s) (out : y ∉ M.map (·.2) → Q (.free (way tb.mask (y.hash w) K) false) s) :
    ∀ (f c : Nat) (st : Option SetTable.Probe), st.getD (tb.probeStart (y.hash w)) = pr tb (y.hash w) c → c ≤ K → K - c < f →
      (∀ (i : Nat) p, M[i]? = some p → p.2 = y → ∃ d, c ≤ d ∧ d < K ∧ tb.place.toList[i]? = some (way tb.mask (y.hash w) d)) →
      wpAny (model P w) A (setSearchFrom a (.ref b) (y.hash w) true f st) Q E s
  | 0, c, st, _, _, hf, _ => absurd hf (Nat.not_lt_zero _)
  | f + 1, c, st, hst, hc, hf, re => by
    obtain ⟨o, o1, o2, o3⟩ := Z.obj
    generalize hH : y.hash w = H at *
    rw [setSearchFrom_succ]
    refine wpAny_bind (wpAny_setState_of o1 o3 Z.fits ?_)
    dsimp only
    refine wp_if_neg Z.stays ?_
    try refine wpAny_bind (wpAny_pure ?_)
    have sh : ∀ q, nth tb.mask (pr tb H c) q = pr tb H (c + q) := fun q => (nth_add tb.mask c _ q).symm
    have jj : ∀ q, (nth tb.mask (pr tb H c) q).j = way tb.mask H (c + q) := fun q => congrArg SetTable.Probe.j (sh q)
    have last : c + (K - c) = K := by omega
    have spec := go_spec tb Z.tab.ris Z.tab.dm (fun i => (en[i]?.map (·.1)).getD 0) H (10 * SetTable.turns tb.mask) (K - c) _ (pr_plain tb H c) (by omega)
      (fun q hq => by rw [jj]; exact k3 (c + q) (by omega)) (by rw [jj, last]; exact k2)
    have at_ : ∀ (i : Nat) p, M[i]? = some p → (fun i => (en[i]?.map (·.1)).getD 0) i = hs w p := fun i p hp => by
      show (en[i]?.map (·.1)).getD 0 = _
      rw [Z.row hp]
      rfl
    rcases spec with ⟨q, i, hq, hi, hh, hno, hp⟩ | ⟨hno, hp⟩
    · have hp' : tb.probe (fun i => (en[i]?.map (·.1)).getD 0) H (st.getD (tb.probeStart H)) = some (.candidate (way tb.mask H (c + q)) i (pr tb H (c + (q + 1)))) := by
        rw [hst, ← jj, ← sh]
        exact hp
      rw [hp']
      dsimp only
      rw [jj] at hi
      have il : i < M.length := by
        have h1 : i < tb.place.toList.length := (List.getElem?_eq_some_iff.mp hi).1
        have h2 := Z.tab.sz
        rw [List.length_map] at h2
        rw [Array.length_toList] at h1
        omega
      obtain ⟨p, hM⟩ : ∃ p, M[i]? = some p := ⟨_, List.getElem?_eq_getElem il⟩
      have pm : p ∈ M := List.mem_of_getElem? hM
      have rest : wpAny (model P w) A (searchRest a (.ref b) H true f en tb (way tb.mask H (c + q)) i (pr tb H (c + (q + 1)))) Q E s := by
        unfold searchRest
        rw [Z.row hM]
        dsimp only
        refine wpAny_bind (wpAny_holding ((nestedKind P w).eqBool hu (Z.is p pm) hb ?_))
        refine wpAny_bind (wpAny_setState_of o1 o3 Z.fits ?_)
        dsimp only
        by_cases e : p.2 = y
        · refine wp_if_pos (by simp [e]) ?_
          exact wpAny_pure (inn (List.mem_map.mpr ⟨p, pm, e⟩))
        · refine wp_if_neg (by simp [e]) ?_
          try refine wpAny_bind (wpAny_pure ?_)
          rw [sameMem]
          dsimp only
          have sl : tb.slot (way tb.mask H (c + q)) = .live i := slot_live Z.tab.ris hi
          simp only [if_true, sl, Z.row hM]
          refine wpAny_bind (wpAny_isSame_ref_self (wpAny_bind (wpAny_pure ?_)))
          simp only [if_true]
          refine wp_if_neg (by simp [e]) ?_
          subst hH
          refine sn_from Z hb hu k1 k2 k3 inn out f (c + (q + 1)) _ rfl (by omega) (by omega) fun i0 p0 h0 e0 => ?_
          obtain ⟨d, d1, d2, d3⟩ := re i0 p0 h0 e0
          refine ⟨d, ?_, d2, d3⟩
          rcases Nat.lt_trichotomy d (c + q) with z | z | z
          · refine absurd ((at_ i0 p0 h0).trans (congrArg (NestedKey.hash w) e0)) (hno (d - c) i0 (by omega) ?_)
            rw [jj, show c + (d - c) = d by omega]
            exact d3
          · subst z
            have sl2 := slot_live Z.tab.ris d3
            rw [sl] at sl2
            injection sl2 with e2
            rw [← e2, hM] at h0
            exact absurd ((congrArg Prod.snd (Option.some.inj h0)).trans e0) e
          · omega
      by_cases hl : tb.led = true
      · refine wp_if_neg (by simp [hl]) ?_
        try refine wpAny_bind (wpAny_pure ?_)
        exact rest
      · refine wp_if_pos (by simp [hl]) ?_
        refine wpAny_bind (seen_key hb (fun v hv => ?_) ?_)
        · obtain ⟨e, he, ee⟩ := List.mem_map.mp hv
          have he1 : e ∈ en.toList := by
            have : e ∈ en ∧ e.1 = H := by simpa using he
            simpa using this.1
          rw [Z.rows] at he1
          obtain ⟨p2, hp2, e2⟩ := List.mem_map.mp he1
          exact ⟨p2.2, p2.1, by rw [← ee, ← e2], Z.is p2 hp2⟩
        · refine wp_if_neg (by decide) ?_
          try refine wpAny_bind (wpAny_pure ?_)
          exact rest
    · have hp' : tb.probe (fun i => (en[i]?.map (·.1)).getD 0) H (st.getD (tb.probeStart H)) = some (.empty (way tb.mask H K) none) := by
        have e2 : way tb.mask H K = (nth tb.mask (pr tb H c) (K - c)).j := by rw [jj, last]
        rw [hst, e2]
        exact hp
      rw [hp']
      dsimp only
      refine wpAny_pure (out fun hm => ?_)
      obtain ⟨p0, h0, e0⟩ := List.mem_map.mp hm
      obtain ⟨i0, h00⟩ := List.mem_iff_getElem?.mp h0
      obtain ⟨d, d1, d2, d3⟩ := re i0 p0 h00 e0
      refine absurd ((at_ i0 p0 h00).trans ((congrArg (NestedKey.hash w) e0).trans hH)) (hno (d - c) i0 (by omega) ?_)
      rw [jj, show c + (d - c) = d by omega]
      exact d3
end
end Mn

/-! SetN2: set(xs) of tuples of texts, whole numbers, None and such tuples: what it holds. -/
namespace Mn
open PySem PySem.Spec PyProof.Rows L2
section
variable {P : Program} {w : World} {A : Around} {E : Value → Shared → Prop} {s : Shared} {a : Addr} {M : List (Addr × NestedKey)} {en : Array (Int × Value)} {ep : Nat} {tb : SetTable}
/-- a key is looked for, to be put in -/
theorem sn_search (Z : Sn P w s.heap a M en ep tb) {b : Addr} {y : NestedKey} (hb : NT P w s.heap y b) (hu : A.units + 8 < cLine) {Q : SetFound → Shared → Prop} (inn : y ∈ M.map (·.2) → Q (.there none) s)
    (out : ∀ K, y ∉ M.map (·.2) → way tb.mask (y.hash w) K ∉ tb.place.toList → (∀ c, c < K → way tb.mask (y.hash w) c ∈ tb.place.toList) → Q (.free (way tb.mask (y.hash w) K) false) s) :
    wpAny (model P w) A (setSearch a (.ref b) (y.hash w) true) Q E s := by
  have small : (M.map (hs w)).length ≤ tb.mask := by
    have := Z.room
    rw [List.length_map]
    omega
  obtain ⟨K, k1, k2, k3⟩ := Z.tab.first small (y.hash w)
  have turns : SetTable.turns tb.mask ≤ 142 := by
    unfold SetTable.turns
    have := Z.tab.mok
    rcases this with e | e | e <;> rw [e] <;> decide
  unfold setSearch
  refine sn_from Z hb hu k1 k2 k3 inn (fun n => out K n k2 k3) 100000 0 none rfl (Nat.zero_le K) (by omega) ?_
  intro i p hM ey
  have hh : (M.map (hs w))[i]? = some (y.hash w) := by
    rw [List.getElem?_map, hM]
    show some (p.2.hash w) = _
    rw [ey]
  have len : tb.place.toList.length = M.length := by
    rw [Array.length_toList, Z.tab.sz, List.length_map]
  have il : i < tb.place.toList.length := by
    rw [len]
    exact (List.getElem?_eq_some_iff.mp hM).1
  have pl : tb.place.toList[i]? = some tb.place.toList[i] := List.getElem?_eq_getElem il
  obtain ⟨c, c1, c2⟩ := Z.tab.before k2 hh pl
  exact ⟨c, Nat.zero_le c, c1, by rw [pl, c2]⟩
/-- a key stays one when the set is written -/
theorem nt_same {h h' : Heap} {y : NestedKey} {b : Addr} {o : Obj} {es : Array (Int × Value)} {e2 : Nat} {t : SetTable} (x : NT P w h y b) (ho : h.get? a = some o) (hd : o.data = .set es e2 t) (sb : Heap.SameBut a h h') : NT P w h' y b := by
  refine ⟨NestedIs.at (fun c u vs n hc hdat => ?_) y _ x.1, x.2⟩
  by_cases e : c = a
  · subst e
    rw [ho] at hc
    cases hc
    rw [hd] at hdat
    cases hdat
  · exact (sb.2 c e).trans hc
theorem nt_keep {h h' : Heap} {y : NestedKey} {b : Addr} (x : NT P w h y b) (k : ∀ c o, h.get? c = some o → h'.get? c = some o) : NT P w h' y b :=
  ⟨NestedIs.at (fun c u vs n hc _ => k c u hc) y _ x.1, x.2⟩
theorem nt_inj {h : Heap} {y z : NestedKey} {b : Addr} (x : NT P w h y b) (x' : NT P w h z b) : y = z := NestedIs.inj _ _ _ x.1 x'.1
theorem rows_size {l : List (Addr × NestedKey)} {es : Array (Int × Value)} (h : es.toList = l.map (row w)) : es.size = l.length := rows_len h
/-- rows taken in another order -/
theorem rows_order (h : en.toList = M.map (row w)) {order : Array Nat} (hp : order.toList.Perm (List.range M.length)) :
    ∃ N : List (Addr × NestedKey), (order.filterMap fun i => en[i]?).toList = N.map (row w) ∧ N.Perm M ∧ N.map (hs w) = order.toList.map fun i => (en.map (·.1)).getD i 0 := by
  have sz := rows_size h
  have get : ∀ i (hi : i < M.length), en[i]? = some (row w M[i]) := fun i hi => by
    rw [← Array.getElem?_toList, h, List.getElem?_map, List.getElem?_eq_getElem hi]
    rfl
  have step : ∀ l : List Nat, (∀ i ∈ l, i < M.length) → l.filterMap (fun i => en[i]?) = (l.filterMap fun i => M[i]?).map (row w) ∧ (l.filterMap fun i => M[i]?).map (hs w) = l.map fun i => (en.map (·.1)).getD i 0 := by
    intro l hl
    induction l with
    | nil => exact ⟨rfl, rfl⟩
    | cons i l ih =>
      have hi := hl i List.mem_cons_self
      obtain ⟨h1, h2⟩ := ih fun j hj => hl j (List.mem_cons_of_mem _ hj)
      have hM : M[i]? = some M[i] := List.getElem?_eq_getElem hi
      have hE : (en.map (·.1)).getD i 0 = hs w M[i] := by
        rw [Array.getD_eq_getD_getElem?, Array.getElem?_map, get i hi]
        rfl
      refine ⟨?_, ?_⟩
      · rw [List.filterMap_cons_some (get i hi), List.filterMap_cons_some hM, List.map_cons, h1]
      · rw [List.filterMap_cons_some hM, List.map_cons, List.map_cons, h2, hE]
  obtain ⟨q1, q2⟩ := step order.toList fun i hi => List.mem_range.mp (hp.mem_iff.mp hi)
  refine ⟨order.toList.filterMap fun i => M[i]?, by rw [Array.toList_filterMap]; exact q1, ?_, q2⟩
  have all : ∀ l : List (Addr × NestedKey), (List.range l.length).filterMap (fun i => l[i]?) = l := by
    intro l
    have part : ∀ n, n ≤ l.length → (List.range n).filterMap (fun i => l[i]?) = l.take n := by
      intro n
      induction n with
      | zero => intro _; rfl
      | succ n ih =>
        intro hn
        have e : l[n]? = some l[n] := List.getElem?_eq_getElem hn
        rw [List.range_succ, List.filterMap_append, ih (by omega), List.filterMap_cons_some e, List.filterMap_nil, List.take_succ, e]
        rfl
    rw [part _ (Nat.le_refl _), List.take_length]
  have := hp.filterMap fun i => M[i]?
  rwa [all M] at this
/-- the table is laid anew -/
theorem sn_relay {o : Obj} (ho : s.heap.get? a = some o) (hx : o.ExactSet) (hd : o.data = .set en ep tb) (hr : en.toList = M.map (row w)) (hz : tb.place.size = en.size) (hdm : tb.dummies = #[]) (hfit : en.size ≤ tb.mask)
    (nd : (M.map (·.2)).Nodup) (is : ∀ p ∈ M, NT P w s.heap p.2 p.1) (led : w.params.followText "set-order" = true ∨ tb.led = true) (few : M.length < 64) {want N : Nat}
    (hw : SetTable.sizeAbove want - 1 = N) (hN : MaskOk N) (hw2 : SetTable.sizeAbove want ≤ 128) (hroom : M.length * 5 < N * 3) {Q : Unit → Shared → Prop}
    (hQ : ∀ h' M' en' ep' tb', Heap.SameBut a s.heap h' → Sn P w h' a M' en' ep' tb' → M'.Perm M → Q () { s with heap := h' }) : wpAny (model P w) A (setRelay a want) Q E s := by
  have sz := rows_size hr
  have fits : tb.fits en.size = true := by
    unfold SetTable.fits SetTable.fill
    rw [hdm, Bool.and_eq_true, beq_iff_eq, decide_eq_true_eq]
    exact ⟨hz, by show tb.place.size + 0 ≤ tb.mask; omega⟩
  obtain ⟨tb', order, e, pm, T, em, el, _, _⟩ := relaid_ok tb (hs := en.map (·.1)) (wanted := want) hw hN (by rw [Array.size_map, sz]; omega)
  rw [Array.size_map, sz] at pm
  obtain ⟨M', r1, r2, r3⟩ := rows_order hr pm
  rw [← r3] at T
  have sz' : (order.filterMap fun i => en[i]?).size = en.size := by rw [rows_size r1, r2.length_eq, sz]
  rw [setRelay_eq]
  refine wpAny_bind (wpAny_setState_of ho hd fits ?_)
  dsimp only
  refine wp_if_neg (by rw [sizeLine_eq]; omega) ?_
  try refine wpAny_bind (wpAny_pure ?_)
  rw [e]
  dsimp only
  refine wpAny_bind ?_
  refine wp_if_neg (by rw [sz']; simp) ?_
  try refine wpAny_bind (wpAny_pure ?_)
  refine wpAny_pure ?_
  dsimp only
  refine wpAny_storeSet_of ho hd ?_ (by rw [sz', sz, sizeLine_eq]; omega)
  have sb : Heap.SameBut a s.heap (s.heap.update a (Obj.putSet (order.filterMap fun i => en[i]?) tb')) := Heap.SameBut.update ..
  refine hQ _ M' _ (ep + 1) tb' sb ⟨⟨_, store_at ho hd, ⟨hx.1, hx.2.1, hx.2.2⟩, rfl⟩, r1, T, (r2.map (·.2)).nodup_iff.mpr nd, fun p hp => nt_same (is p (r2.mem_iff.mp hp)) ho hd sb, by rw [el]; exact led, ?_, by rw [r2.length_eq]; exact few⟩ r2
  rw [r2.length_eq, em]
  exact hroom
/-- a key is put in -/
theorem sn_add (Z : Sn P w s.heap a M en ep tb) {b : Addr} {y : NestedKey} (hb : NT P w s.heap y b) (hu : A.units + 8 < cLine) (few : M.length + 1 < 64) {Q : Bool → Shared → Prop}
    (hQ : ∀ r h' M' en' ep' tb', Heap.SameBut a s.heap h' → Sn P w h' a M' en' ep' tb' → (y ∈ M.map (·.2) → M' = M) → (y ∉ M.map (·.2) → M'.Perm ((b, y) :: M)) → Q r { s with heap := h' }) :
    wpAny (model P w) A (setAddHashed a (.ref b) (y.hash w)) Q E s := by
  obtain ⟨o, ho, hx, hd⟩ := Z.obj
  have sz := rows_size Z.rows
  unfold setAddHashed
  refine wpAny_holding ?_
  rw [show (100000 : Nat) = 99999 + 1 from rfl, setAddHashedIn_succ]
  refine wpAny_bind (wpAny_setState_of ho hd Z.fits ?_)
  dsimp only
  refine wp_if_neg (by simp [byScan, Value.scannable]) ?_
  try refine wpAny_bind (wpAny_pure ?_)
  refine wpAny_bind (sn_search Z hb hu (fun hm => ?_) fun K hm k2 k3 => ?_)
  · exact wpAny_pure (hQ false s.heap M en ep tb (Heap.SameBut.refl a s.heap) Z (fun _ => rfl) fun n => (n hm).elim)
  · dsimp only
    refine wpAny_bind (wpAny_setState_of ho hd Z.fits ?_)
    dsimp only
    obtain ⟨q1, q2, q3, q4, q5, q6, q7, q8, q9⟩ := Z.tab.put k2 k3
    generalize hj : way tb.mask (y.hash w) K = j at *
    generalize hput : tb.put j = put at q1 q3 q4 q5 q6 q7 q8 q9 ⊢
    obtain ⟨tb1, at_⟩ := put
    dsimp only at q1 q3 q4 q5 q6 q7 q8 q9 ⊢
    subst q1
    generalize hp : SetTable.below tb.place j = p at *
    have pm : (M.take p ++ (b, y) :: M.drop p).Perm ((b, y) :: M) := put_perm M p (b, y)
    have hin : (SetTable.insertAt en p (y.hash w, Value.ref b)).toList = (M.take p ++ (b, y) :: M.drop p).map (row w) := by
      rw [SetTable.toList_insertAt, Z.rows, List.map_append, List.map_cons, List.map_take, List.map_drop]
    have hh : (M.take p ++ (b, y) :: M.drop p).map (hs w) = (M.map (hs w)).take p ++ y.hash w :: (M.map (hs w)).drop p := by
      rw [List.map_append, List.map_cons, List.map_take, List.map_drop]
    rw [← hh] at q3
    have len := pm.length_eq
    rw [List.length_cons] at len
    have nd1 : ((M.take p ++ (b, y) :: M.drop p).map (·.2)).Nodup := (pm.map (·.2)).nodup_iff.mpr (by rw [List.map_cons]; exact List.nodup_cons.mpr ⟨hm, Z.nd⟩)
    have sz1 := rows_size hin
    rw [len] at sz1
    generalize M.take p ++ (b, y) :: M.drop p = M1 at *
    generalize SetTable.insertAt en p (y.hash w, Value.ref b) = en1 at *
    -- whatever hashing by value tells
    have rest : ∀ tb2 : SetTable, tb2.place = tb1.place → tb2.dummies = tb1.dummies → tb2.mask = tb1.mask → tb2.led = tb1.led → tb2.tooFull = tb1.tooFull → TabOk tb2 (M1.map (hs w)) →
        wpAny (model P w) A (do
          storeSet a en1 tb2
          if (!false && tb2.tooFull) = true then setRelay a (SetTable.grown (en.size + 1))
          return true) Q E s := by
      intro tb2 e1 e2 e3 e4 e5 T2
      refine wpAny_bind (wpAny_storeSet_of ho hd ?_ (by rw [sz1, sizeLine_eq]; omega))
      have sb : Heap.SameBut a s.heap (s.heap.update a (Obj.putSet en1 tb2)) := Heap.SameBut.update ..
      have ho1 := store_at (es' := en1) (t' := tb2) ho hd
      generalize s.heap.update a (Obj.putSet en1 tb2) = h1 at *
      have is1 : ∀ q ∈ M1, NT P w h1 q.2 q.1 := fun q hq => by
        rcases List.mem_cons.mp (pm.mem_iff.mp hq) with z | z
        · rw [z]; exact nt_same hb ho hd sb
        · exact nt_same (Z.is q z) ho hd sb
      have led1 : w.params.followText "set-order" = true ∨ tb2.led = true := by rw [e4, q5]; exact Z.led
      have full : tb1.tooFull = decide ((M.length + 1) * 5 ≥ tb1.mask * 3) := by
        unfold SetTable.tooFull
        rw [q9, List.length_map]
      by_cases hf : tb1.tooFull = true
      · have hc : (!false && tb2.tooFull) = true := by rw [e5, hf]; rfl
        first
          | (refine wpAny_bind ?_; refine wp_if_pos hc ?_)
          | (refine wp_if_pos hc ?_; refine wpAny_bind ?_)
        rw [full, decide_eq_true_eq] at hf
        rw [sz]
        have two : (tb.mask = 7 ∧ M.length = 4) ∨ (tb.mask = 31 ∧ M.length = 18) := by
          have := Z.room
          rcases Z.tab.mok with e | e | e
          · rw [q4, e] at hf; rw [e] at this; exact .inl ⟨e, by omega⟩
          · rw [q4, e] at hf; rw [e] at this; exact .inr ⟨e, by omega⟩
          · rw [q4, e] at hf; omega
        have place : tb2.place.size = en1.size := by rw [T2.sz, List.length_map, len, sz1]
        have go : ∀ N, SetTable.sizeAbove (SetTable.grown (M.length + 1)) - 1 = N → MaskOk N → SetTable.sizeAbove (SetTable.grown (M.length + 1)) ≤ 128 → (M.length + 1) * 5 < N * 3 →
            wpAny (model P w) A (setRelay a (SetTable.grown (M.length + 1))) (fun _ s' => wpAny (model P w) A (pure true) Q E s') E { s with heap := h1 } := fun N n1 n2 n3 n4 =>
          sn_relay (s := { s with heap := h1 }) ho1 ⟨hx.1, hx.2.1, hx.2.2⟩ rfl hin place T2.dm (by rw [sz1, e3, q4]; omega) nd1 is1 led1 (by rw [len]; exact few) n1 n2 n3 (by rw [len]; exact n4)
            fun h2 M2 en2 ep2 tb3 sb2 Z2 pm2 => wpAny_pure (hQ true h2 M2 en2 ep2 tb3 (sb.trans sb2) Z2 (fun z => (hm z).elim) fun _ => pm2.trans pm)
        rcases two with ⟨_, e⟩ | ⟨_, e⟩
        · exact go 31 (by rw [e, size_20]) (.inr (.inl rfl)) (by rw [e, size_20]; decide) (by omega)
        · exact go 127 (by rw [e, size_76]) (.inr (.inr rfl)) (by rw [e, size_76]; decide) (by omega)
      · have hc : ¬ (!false && tb2.tooFull) = true := by rw [e5]; simp [hf]
        first
          | refine wp_if_neg hc ?_
          | (refine wpAny_bind ?_; refine wp_if_neg hc ?_; refine wpAny_pure ?_)
        rw [full, decide_eq_true_eq] at hf
        exact wpAny_pure (hQ true h1 M1 en1 (ep + 1) tb2 sb ⟨⟨_, ho1, ⟨hx.1, hx.2.1, hx.2.2⟩, rfl⟩, hin, T2, nd1, is1, led1, by rw [len, e3]; omega, by rw [len]; exact few⟩ (fun z => (hm z).elim) fun _ => pm)
    have plain2 : ∀ {t : SetTable}, TabOk t (M1.map (hs w)) → TabOk { t with plain := false } (M1.map (hs w)) := fun T => ⟨T.ris, T.dm, T.sz, T.mok, T.bd, T.reach⟩
    by_cases hpl : tb1.plain = true
    · first
        | (refine wpAny_bind ?_; refine wp_if_pos hpl ?_)
        | (refine wp_if_pos hpl ?_; refine wpAny_bind ?_)
      refine hbv_key y _ 8 _ hb.1 hb.2 _ _ _ fun r => ?_
      cases r with
      | true =>
        simp only [if_true]
        exact rest tb1 rfl rfl rfl rfl rfl q3
      | false =>
        simp only [Bool.false_eq_true, if_false]
        exact rest { tb1 with plain := false } rfl rfl rfl rfl rfl (plain2 q3)
    · first
        | (refine wpAny_bind ?_; refine wp_if_neg hpl (wpAny_pure ?_))
        | refine wp_if_neg hpl ?_
      try simp only [if_true]
      exact rest tb1 rfl rfl rfl rfl rfl q3
end
end Mn

/-! SetN3: set(xs) of a list, of a tuple: by what each thing put in leaves. -/
namespace Mn
open PySem PySem.Spec PyProof.Rows L2
section
variable {P : Program} {w : World} {A : Around} {E : Value → Shared → Prop} {s : Shared}
/-- how far a set is: what holds behind the first i things, of the heap alone -/
structure Fill (P : Program) (w : World) (B : Around) (S : Addr) (h0 : Heap) (items : List Value) (J : Nat → Heap → Prop) : Prop where
  keep : ∀ i h h', J i h → (∀ o, h.get? S = some o → h'.get? S = some o) → (∀ b o, h0.get? b = some o → h'.get? b = some o) → J i h'
  step : ∀ i v (s : Shared) (Q : Bool → Shared → Prop) (E : Value → Shared → Prop), items[i]? = some v → J i s.heap → (∀ b o, h0.get? b = some o → s.heap.get? b = some o) →
    (∀ r h' tk, s.toks ≤ tk → Heap.SameBut S s.heap h' → J (i + 1) h' → Q r { s with heap := h', toks := tk }) → wpAny (model P w) B (setAdd S v) Q E s
theorem fill_loop {I : Addr} {fp wr : List Addr} {G : Array GenState → Array GenState → Prop} {n : Nat} {Pv : Nat → Value → Prop} {St : Nat → Shared → Prop} {R : Result → Shared → Prop} {S : Addr} {h0 : Heap} {items : List Value} {J : Nat → Heap → Prop}
    (W : WalksS P w A.in1 I fp wr G n Pv St) (Z : Fill P w A.in1 S h0 items J) (hS : S ∉ fp) (hn : n = items.length) (hv : ∀ i v, Pv i v → items[i]? = some v) (hS0 : h0.get? S = none) (hw : ∀ b ∈ wr, h0.get? b = none) :
    ∀ (k i : Nat) (s : Shared), n - i = k → i ≤ n → St i s → (∀ b o, h0.get? b = some o → s.heap.get? b = some o) → J i s.heap →
      (∀ s', Moved (S :: wr) G s s' → J n s'.heap → (∀ b o, h0.get? b = some o → s'.heap.get? b = some o) → R (.ok (.ret .none)) s') →
      codeAny (model P w) A (.builtin "set.update.loop" ⟨[.ref S, .ref I], []⟩) R s := by
  have sw : S ∉ wr := fun h => hS (W.sub _ h)
  have up : ∀ b ∈ wr, b ∈ S :: wr := fun b hb => List.mem_cons_of_mem _ hb
  have old : ∀ {s s' : Shared}, Moved wr G s s' → (∀ b o, h0.get? b = some o → s.heap.get? b = some o) → ∀ b o, h0.get? b = some o → s'.heap.get? b = some o := fun m q b o e =>
    m.heap b o (fun hb => by rw [hw b hb] at e; cases e) (q b o e)
  intro k
  induction k with
  | zero =>
    intro i s hk hi st hold hj hR
    cases (show i = n by omega)
    refine codeAny_builtin F.entry_set_update_loop ?_
    rw [Around.under_plainId F.plain_set_update_loop _]
    show wpAny _ A.in1 (pyNext (.ref I) >>= _) _ _ s
    refine wpAny_bind (W.done s _ _ st fun s' m => ?_)
    show wpAny _ A.in1 (ret Value.none) _ _ s'
    have hold' := old m hold
    exact wpAny_pure (hR s' (m.mono up) (Z.keep _ _ _ hj (fun o e => m.heap S o sw e) hold') hold')
  | succ k ih =>
    intro i s hk hi st hold hj hR
    have hlt : i < n := by omega
    refine codeAny_builtin F.entry_set_update_loop ?_
    rw [Around.under_plainId F.plain_set_update_loop _]
    show wpAny _ A.in1 (pyNext (.ref I) >>= _) _ _ s
    refine wpAny_bind (W.item i s _ _ hlt st fun v s' hp st' m => ?_)
    have hold' := old m hold
    have hj' := Z.keep _ _ _ hj (fun o e => m.heap S o sw e) hold'
    show wpAny _ A.in1 (holding [v] (setAdd S v) >>= _) _ _ s'
    refine wpAny_bind (wpAny_holding (Z.step i v s' _ _ (hv i v hp) hj' hold' fun r h' tk ht sb hj2 => ?_))
    have hold2 : ∀ b o, h0.get? b = some o → h'.get? b = some o := fun b o e => (sb.2 b (fun z => by rw [z, hS0] at e; cases e)).trans (hold' b o e)
    refine wpAny_pure ⟨plainId_quiet F.plain_set_update_loop _, ih (i + 1) _ (by omega) hlt (W.frame _ s' _ _ st' ht fun b hb o e => ?_) hold2 hj2 fun s'' m2 hj3 hold3 => ?_⟩
    · rw [sb.2 b (fun h : b = S => hS (by rw [← h]; exact hb))]; exact e
    · refine hR s'' (Moved.trans W.gtrans ((m.mono up).then_heap ht fun b o hb e => ?_) m2) hj3 hold3
      rw [sb.2 b (fun h : b = S => hb (by rw [h]; exact List.mem_cons_self))]; exact e
abbrev set0 (w : World) : Obj := { cls := .type "set", dict := none, data := .set #[] 0 (.fresh 0 0 (!w.params.followText "set-order")) }
set_option maxHeartbeats 3200000 in
/-- set(xs): a list, a tuple -/
theorem call_fill {l : Addr} {items : Array Value} {J : Nat → Heap → Prop} {Q : Value → Shared → Prop} (hh : A.handled = none) (hl : s.heap.IsList l items ∨ IsTup s.heap l items)
    (hF : Fill P w A.in1.in1.in1 s.heap.objs.size s.heap items.toList J) (h0 : ∀ h, h.get? s.heap.objs.size = some (set0 w) → (∀ b o, s.heap.get? b = some o → h.get? b = some o) → J 0 h)
    (hQ : ∀ (h' : Heap) (tk : Nat), J items.size h' → (∀ b o, s.heap.get? b = some o → h'.get? b = some o) → Q (.ref s.heap.objs.size) { s with heap := h', toks := tk }) :
    wpAny (model P w) A (call (.type "set") [.ref l]) Q E s := by
  obtain ⟨c, tl, hmro⟩ := PySem.F.called_set.mro
  have hmade := PySem.F.called_set.made
  have hsub := PySem.F.called_set.sub
  refine wpAny_call (codeAny_of_tree ?_)
  show wpAny _ _ (callAny (.type "set") _) _ _ _
  refine wpAny_pure ⟨Code.quiet_builtin _ (by decide +kernel), codeAny_builtin PySem.F.entry_type_call ?_⟩
  rw [Around.under_plain (weight_type_call_type "set" [.ref l] []) rfl]
  have h1 := PySem.F.called_set.notType
  have h2 := PySem.F.called_set.canCreate
  have hct := PySem.F.typeCall_set_1 (.ref l)
  repeat (any_goals (first | assumption | wp_step))
  refine codeAny_mono (code_set_led1 (.ref l) (E := E) (Q₁ := fun obj s₁ => obj = .ref s.heap.objs.size ∧ s₁ = { s with heap := s.heap.push (set0 w) }) ⟨rfl, rfl⟩) fun r s₁ hr => ?_
  cases r with
  | error e => exact hr
  | ok fl =>
    cases fl with
    | ret obj =>
      obtain ⟨rfl, rfl⟩ := hr
      have hS : (s.heap.push (set0 w)).get? s.heap.objs.size = some (set0 w) := Heap.get?_push_size _ rfl
      have hT : Shared.TypeIs { s with heap := s.heap.push (set0 w) } (.ref s.heap.objs.size) "set" := ⟨_, hS, rfl⟩
      have hli := PySem.F.called_set.init.lookup
      have hbi := PySem.F.called_set.init.bind (.ref s.heap.objs.size)
      repeat (any_goals (first | assumption | wp_step))
      refine codeAny_mono (codeAny_call_builtin (R := wants (fun r s₂ => r = .none ∧ ∃ h' tk, s₂ = { s with heap := h', toks := tk } ∧ J items.size h' ∧
          (∀ b o, s.heap.get? b = some o → h'.get? b = some o)) E) PySem.F.called_set.init.plain PySem.F.entry_set_init (check_set_init_1 hT ?_)) fun r₂ s₂ hr₂ => ?_
      · have hlS : l < s.heap.objs.size := by
          rcases hl with ⟨o, ho, _⟩ | ⟨o, ho, _⟩ <;> exact Heap.lt_size ho
        have hh3 : A.in1.in1.in1.handled = none := by simp [hh]
        have hneI : l ≠ (s.heap.push (set0 w)).objs.size := by
          rw [Heap.size_push]; exact Nat.ne_of_lt (Nat.lt_succ_of_lt hlS)
        have hSf : s.heap.objs.size ∉ [(s.heap.push (set0 w)).objs.size, l] := by
          rw [Heap.size_push]
          simp only [List.mem_cons, List.not_mem_nil, or_false, not_or]
          exact ⟨Nat.ne_of_lt (Nat.lt_succ_self _), Nat.ne_of_gt hlS⟩
        have gone : ∀ b, s.heap.objs.size ≤ b → s.heap.get? b = none := fun b hb => by
          cases q : s.heap.get? b with
          | none => rfl
          | some o => exact absurd (Nat.lt_of_lt_of_le (Heap.lt_size q) hb) (Nat.lt_irrefl _)
        have fin : ∀ s' : Shared, s'.gens = s.gens → s'.drawn = s.drawn → s'.os = s.os → J items.size s'.heap → (∀ b o, s.heap.get? b = some o → s'.heap.get? b = some o) →
            ∃ h' tk, s' = { s with heap := h', toks := tk } ∧ J items.size h' ∧ (∀ b o, s.heap.get? b = some o → h'.get? b = some o) := by
          intro s' g d o hj hk
          obtain ⟨h', g2, d2, tk, os⟩ := s'
          cases g
          cases d
          cases o
          exact ⟨h', tk, rfl, hj, hk⟩
        rcases hl with hl | hl
        · obtain ⟨ol, hol, hcl, nl, hdl⟩ := hl
          obtain ⟨ocls, odict, odata, oslots⟩ := ol
          simp only at hcl hdl
          subst hcl; subst hdl
          have hol' : (s.heap.push (set0 w)).get? l = some { cls := .type "list", dict := odict, data := .seq items nl, slots := oslots } := Heap.get?_push_of_some _ hol
          have hsls := PySem.F.sub_list_set
          have hslf := PySem.F.sub_list_frozenset
          have hne : (Value.type "list" == Value.type "dict") = false := by decide
          have hl1 : (s.heap.push (set0 w)).IsList l items := ⟨_, hol', rfl, nl, rfl⟩
          unfold Builtin.«set.__init__» noKeywords Builtin.Frozenset.updateFrom
          generalize hPI : pyIter = PI
          wp_walk
          subst hPI
          refine wpAny_pyIter_list hl1 ?_
          refine wpAny_bind (wpAny_runValue ?_)
          refine fill_loop ((Walks.list hh3 _ l hneI items).toS) hF hSf (by rw [Array.length_toList]) (fun i v hv => by rw [Array.getElem?_toList]; exact hv) (gone _ (Nat.le_refl _)) (fun b hb => gone b (by
              rw [List.mem_singleton.mp hb, Heap.size_push]; exact Nat.le_succ _)) (items.size - 0) 0 _ (by omega) (Nat.zero_le _)
            ⟨⟨_, Heap.get?_push_size _ rfl, rfl, rfl⟩, (hl1.push _)⟩ (fun b o e => Heap.get?_push_of_some _ (Heap.get?_push_of_some _ e)) (h0 _ (Heap.get?_push_of_some _ hS) fun b o e => Heap.get?_push_of_some _ (Heap.get?_push_of_some _ e)) ?_
          intro s' hm hj hk
          show wpAny _ _ _ _ _ _
          refine wpAny_pure ?_
          show wpAny _ _ (ret Value.none) _ _ _
          exact wpAny_pure ⟨rfl, fin s' hm.gens hm.drawn hm.os hj hk⟩
        · obtain ⟨ol, hol, hcl, nl, hdl⟩ := hl
          obtain ⟨ocls, odict, odata, oslots⟩ := ol
          simp only at hcl hdl
          subst hcl; subst hdl
          have hol' : (s.heap.push (set0 w)).get? l = some { cls := .type "tuple", dict := odict, data := .seq items nl, slots := oslots } := Heap.get?_push_of_some _ hol
          have hsls := PySem.F.sub_tuple_set
          have hslf := PySem.F.sub_tuple_frozenset
          have hne : (Value.type "tuple" == Value.type "dict") = false := by decide
          have hl1 : IsTup (s.heap.push (set0 w)) l items := ⟨_, hol', rfl, nl, rfl⟩
          unfold Builtin.«set.__init__» noKeywords Builtin.Frozenset.updateFrom
          generalize hPI : pyIter = PI
          wp_walk
          subst hPI
          refine wpAny_pyIter_tuple hl1 ?_
          refine wpAny_bind (wpAny_runValue ?_)
          refine fill_loop ((Walks.tuple hh3 _ l hneI items).toS) hF hSf (by rw [Array.length_toList]) (fun i v hv => by rw [Array.getElem?_toList]; exact hv) (gone _ (Nat.le_refl _)) (fun b hb => gone b (by
              rw [List.mem_singleton.mp hb, Heap.size_push]; exact Nat.le_succ _)) (items.size - 0) 0 _ (by omega) (Nat.zero_le _)
            ⟨⟨_, Heap.get?_push_size _ rfl, rfl, rfl⟩, (hl1.push _)⟩ (fun b o e => Heap.get?_push_of_some _ (Heap.get?_push_of_some _ e)) (h0 _ (Heap.get?_push_of_some _ hS) fun b o e => Heap.get?_push_of_some _ (Heap.get?_push_of_some _ e)) ?_
          intro s' hm hj hk
          show wpAny _ _ _ _ _ _
          refine wpAny_pure ?_
          show wpAny _ _ (ret Value.none) _ _ _
          exact wpAny_pure ⟨rfl, fin s' hm.gens hm.drawn hm.os hj hk⟩
      · cases r₂ with
        | error e => exact hr₂
        | ok fl₂ =>
          cases fl₂ with
          | ret r =>
            obtain ⟨rfl, h', tk, rfl, hj, hk⟩ := hr₂
            repeat (any_goals (first | assumption | wp_step))
            exact hQ h' tk hj hk
          | _ => exact hr₂.elim
    | _ => exact hr.elim
end
end Mn

/-! SetN4: set(xs), len(set(xs)) by values. -/
namespace Mn
open PySem PySem.Spec PyProof.Rows L2
section
variable {P : Program} {w : World} {A : Around} {E : Value → Shared → Prop} {s : Shared}
/-- what is held of the first things -/
structure Gt (ks : List (Addr × NestedKey)) (i : Nat) (M : List (Addr × NestedKey)) : Prop where
  sub : ∀ p ∈ M, p ∈ ks.take i
  all : ∀ p ∈ ks.take i, p.2 ∈ M.map (·.2)
  len : M.length ≤ i
theorem take_one {α : Type} {l : List α} {i : Nat} {x : α} (h : l[i]? = some x) : l.take (i + 1) = l.take i ++ [x] := by
  rw [List.take_succ, h]
  rfl
theorem Gt.go {ks M M' : List (Addr × NestedKey)} {i : Nat} {x : Addr × NestedKey} (g : Gt ks i M) (h : ks[i]? = some x) (h1 : x.2 ∈ M.map (·.2) → M' = M) (h2 : x.2 ∉ M.map (·.2) → M'.Perm (x :: M)) : Gt ks (i + 1) M' := by
  by_cases c : x.2 ∈ M.map (·.2)
  · rw [h1 c]
    refine ⟨fun p hp => ?_, fun p hp => ?_, Nat.le_succ_of_le g.len⟩
    · rw [take_one h]; exact List.mem_append_left _ (g.sub p hp)
    · rw [take_one h] at hp
      rcases List.mem_append.mp hp with z | z
      · exact g.all p z
      · rw [List.mem_singleton.mp z]; exact c
  · have pm := h2 c
    refine ⟨fun p hp => ?_, fun p hp => ?_, by rw [pm.length_eq]; exact Nat.succ_le_succ g.len⟩
    · rw [take_one h]
      rcases List.mem_cons.mp (pm.mem_iff.mp hp) with z | z
      · rw [z]; exact List.mem_append_right _ (List.mem_singleton.mpr rfl)
      · exact List.mem_append_left _ (g.sub p z)
    · refine (pm.map (·.2)).mem_iff.mpr ?_
      rw [List.map_cons]
      rw [take_one h] at hp
      rcases List.mem_append.mp hp with z | z
      · exact List.mem_cons_of_mem _ (g.all p z)
      · rw [List.mem_singleton.mp z]; exact List.mem_cons_self
theorem sn_fresh {h : Heap} {a : Addr} (ho : h.get? a = some (set0 w)) : Sn P w h a [] #[] 0 (.fresh 0 0 (!w.params.followText "set-order")) where
  obj := ⟨_, ho, ⟨rfl, rfl, rfl⟩, rfl⟩
  rows := rfl
  tab := ⟨List.Pairwise.nil, rfl, rfl, .inl rfl, (fun x hx => by cases hx), fun i h j hi => by cases hi⟩
  nd := List.nodup_nil
  is := fun p hp => by cases hp
  led := by
    show _ ∨ (!w.params.followText "set-order") = true
    cases w.params.followText "set-order"
    · exact .inr rfl
    · exact .inl rfl
  room := by
    show 0 * 5 < 7 * 3
    decide
  few := by
    show 0 < 64
    decide
theorem Sn.keep {h h' : Heap} {a : Addr} {M : List (Addr × NestedKey)} {en : Array (Int × Value)} {ep : Nat} {tb : SetTable} (Z : Sn P w h a M en ep tb) (ha : ∀ o, h.get? a = some o → h'.get? a = some o) (ht : ∀ p ∈ M, NT P w h' p.2 p.1) : Sn P w h' a M en ep tb := by
  obtain ⟨o, ho, r⟩ := Z.obj
  exact ⟨⟨o, ha o ho, r⟩, Z.rows, Z.tab, Z.nd, ht, Z.led, Z.room, Z.few⟩
/-- tuples, put in one by one -/
theorem fill_tup {S : Addr} {h0 : Heap} {ks : List (Addr × NestedKey)} (hk : ∀ p ∈ ks, NT P w h0 p.2 p.1) (hl : ks.length < 64) (hu : A.units + 8 < cLine) :
    Fill P w A S h0 (ks.map fun p => Value.ref p.1) fun i h => ∃ M en ep tb, Sn P w h S M en ep tb ∧ Gt ks i M where
  keep := fun i h h' ⟨M, en, ep, tb, Z, g⟩ k1 k2 => ⟨M, en, ep, tb, Z.keep k1 fun p hp => nt_keep (hk p (List.mem_of_mem_take (g.sub p hp))) k2, g⟩
  step := fun i v s Q E hv ⟨M, en, ep, tb, Z, g⟩ k2 hQ => by
    rw [List.getElem?_map] at hv
    obtain ⟨p, hp, rfl⟩ := Option.map_eq_some_iff.mp hv
    have hn : NT P w s.heap p.2 p.1 := nt_keep (hk p (List.mem_of_getElem? hp)) k2
    have hi : i < ks.length := (List.getElem?_eq_some_iff.mp hp).1
    unfold setAdd
    refine wpAny_holding (wpAny_bind ((nestedKind P w).pyHash hu hn ?_))
    refine sn_add (s := { s with toks := s.toks + (nestedKind P w).draws p.2 }) Z hn hu (by have := g.len; omega) fun r h' M' en' ep' tb' sb Z' c1 c2 => ?_
    exact hQ r h' _ (Nat.le_add_right _ _) sb ⟨M', en', ep', tb', Z', g.go hp c1 c2⟩
/-- whole numbers, texts, put in one by one -/
def memK (k : Key) (l : List Key) : Bool := l.any fun x => decide (x = k)
theorem memK_iff {k : Key} {l : List Key} : memK k l = true ↔ k ∈ l := by
  unfold memK
  rw [List.any_eq_true]
  exact ⟨fun ⟨x, h1, h2⟩ => by rw [← of_decide_eq_true h2]; exact h1, fun h => ⟨k, h, decide_eq_true rfl⟩⟩
def ddK : List Key → List Key
  | [] => []
  | x :: r => if memK x (ddK r) = true then ddK r else x :: ddK r
theorem ddK_mem : ∀ (l : List Key) (x : Key), x ∈ ddK l ↔ x ∈ l
  | [], _ => Iff.rfl
  | y :: l, x => by
    rw [ddK]
    split
    · rename_i hy
      rw [List.mem_cons, ddK_mem l]
      exact ⟨.inr, fun q => q.elim (fun e => by rw [e]; exact (ddK_mem l y).mp (memK_iff.mp hy)) id⟩
    · rw [List.mem_cons, List.mem_cons, ddK_mem l]
theorem ddK_nodup : ∀ l : List Key, (ddK l).Nodup
  | [] => List.nodup_nil
  | y :: l => by
    rw [ddK]
    split
    · exact ddK_nodup l
    · rename_i hy
      exact List.nodup_cons.mpr ⟨fun q => hy (memK_iff.mpr q), ddK_nodup l⟩
theorem fill_key {S : Addr} {h0 : Heap} {ks : List Key} {vs : List Value} (hk : ∀ (i : Nat) (v : Value), vs[i]? = some v → ∃ k, ks[i]? = some k ∧ (mixKind P w).is k v = true ∧ v.scannable = true) (hl : ks.length < 64) (he : vs.length = ks.length) :
    Fill P w A S h0 vs fun i h => ∃ n, h.SetOf (mixKind P w) S (fun k => memK k (ks.take i)) n ∧ n ≤ i ∧ n = (ddK (ks.take i).reverse).length where
  keep := fun i h h' ⟨n, ⟨o, es, ep, t, ho, r⟩, g⟩ k1 k2 => ⟨n, ⟨o, es, ep, t, k1 o ho, r⟩, g⟩
  step := fun i v s Q E hv ⟨n, Z, g1, g2⟩ k2 hQ => by
    obtain ⟨k, hk1, hk2, hk3⟩ := hk i v hv
    have hi : i < ks.length := (List.getElem?_eq_some_iff.mp hk1).1
    have et : ks.take (i + 1) = ks.take i ++ [k] := take_one hk1
    unfold setAdd
    refine wpAny_holding (wpAny_bind ((mixKind P w).pyHash hk2 ?_))
    refine wpAny_setAddHashed_of (s := { s with toks := s.toks + 1 }) hk2 hk3 Z (by unfold scanBound; omega) fun h' sb Z' => ?_
    refine hQ _ h' _ (Nat.le_succ _) sb ⟨_, ?_, ?_, rfl⟩
    · have e1 : (fun k' => memK k' (ks.take i) || decide (k' = k)) = fun k' => memK k' (ks.take (i + 1)) := by
        funext k'
        rw [et]
        unfold memK
        rw [List.any_append, List.any_cons, List.any_nil, Bool.or_false]
        congr 1
        exact decide_eq_decide.mpr ⟨Eq.symm, Eq.symm⟩
      have e2 : (if memK k (ks.take i) = true then n else n + 1) = (ddK (ks.take (i + 1)).reverse).length := by
        rw [et, List.reverse_append, List.reverse_singleton, List.singleton_append, ddK]
        by_cases q : memK k (ks.take i) = true
        · rw [if_pos q, if_pos (memK_iff.mpr ((ddK_mem _ _).mpr (List.mem_reverse.mpr (memK_iff.mp q)))), g2]
        · rw [if_neg q, if_neg (fun z => q (memK_iff.mpr (List.mem_reverse.mp ((ddK_mem _ _).mp (memK_iff.mp z))))), List.length_cons, g2]
      rw [← e2, ← e1]
      exact Z'
    · rw [et, List.reverse_append, List.reverse_singleton, List.singleton_append, ddK]
      split
      · omega
      · rw [List.length_cons]; omega
end
/-! ### over the layer -/
def Sn0 (P : Program) (w : World) (h : Heap) (a : Addr) (M : List (Addr × NestedKey)) : Prop := ∃ (en : Array (Int × Value)) (ep : Nat) (tb : SetTable), (∃ o, h.get? a = some o ∧ o.ExactSet ∧ o.data = .set en ep tb) ∧ en.toList = M.map (row w) ∧ TabOk tb (M.map (hs w)) ∧ (M.map (·.2)).Nodup ∧
  (w.params.followText "set-order" = true ∨ tb.led = true) ∧ M.length * 5 < tb.mask * 3 ∧ M.length < 64
def SnO (P : Program) (w : World) (a : Addr) (M : List (Addr × NestedKey)) : HO := .ext fun h => Sn0 P w h a M
theorem snO_new {P : Program} {w : World} {H : Hp} {h : Heap} {a : Addr} {M : List (Addr × NestedKey)} (R : Sn0 P w h a M) : ObjOk P w H h a (SnO P w a M) := by
  have ⟨en, ep, tb, ⟨o, ho, r⟩, q⟩ := R
  refine ⟨R, ⟨o, ho⟩, fun h1 h2 p k => ?_⟩
  obtain ⟨en', ep', tb', ⟨o', ho', r'⟩, q'⟩ := p
  exact ⟨en', ep', tb', ⟨o', k o' ho', r'⟩, q'⟩
section
variable {X : Cx}
theorem refs_valsN : ∀ {ks : List (Addr × NestedKey)} {us : List Value}, Vals (ks.map fun p => V.ref p.1) us → us = ks.map fun p => Value.ref p.1
  | [], _, .nil => rfl
  | p :: ks, _, .cons r t => by
    cases r
    rw [refs_valsN t]
    rfl
/-- set(xs): tuples -/
def rSetN (X : Cx) : List V → Hp → VK → Prop := fun xs H Q => ∃ (l : Addr) (ks : List (Addr × NestedKey)), xs = [V.ref l] ∧ (SqL X.K H l (ks.map fun p => V.ref p.1) ∨ SqT X.K H l (ks.map fun p => V.ref p.1)) ∧
  (∀ (pins : List (Addr × Obj)) (σ : L2.St) (s : Shared), L2.Inv X pins σ H s → ∀ p ∈ ks, NT X.prog X.w s.heap p.2 p.1) ∧ ks.length < 64 ∧
  ∀ a M, H a = none → Gt ks ks.length M → (M.map (·.2)).Nodup → Q (.ref a) (L2.upd H a (SnO X.prog X.w a M))
theorem cr_setN (hc : X.calm = true) (hu : X.A.units + 64 < cLine) : CallR X (.type "set") (rSetN X) := by
  intro pins s σ H xs us Q I r h
  obtain ⟨l, ks, rfl, hl, hk, hf, q⟩ := h
  rw [Vals.ref1 r]
  have nts := hk pins σ s I
  have hn : H s.heap.objs.size = none := I.hok.fresh (Nat.le_refl _)
  have go : ∀ its : List Value, its = ks.map (fun p => Value.ref p.1) → (s.heap.IsList l its.toArray ∨ IsTup s.heap l its.toArray) → wpAny (model X.prog X.w) X.A (call (.type "set") [.ref l]) (EP X pins σ Q) X.xe s := by
    intro its hits pl
    subst hits
    refine call_fill (I.ok.hd hc) pl (fill_tup (A := X.A.in1.in1.in1) (S := s.heap.objs.size) nts hf (by show X.A.units + 1 + 1 + 1 + 8 < cLine; omega)) (fun h e _ => ⟨[], #[], 0, _, sn_fresh e, ⟨(fun p hp => by cases hp), (fun p hp => by cases hp), Nat.le_refl _⟩⟩) fun h' tk ⟨M, en, ep, tb, Z, g⟩ k => ?_
    have e : (ks.map fun p => Value.ref p.1).toArray.size = ks.length := by rw [List.size_toArray, List.length_map]
    rw [e] at g
    refine ⟨.ref s.heap.objs.size, L2.upd H s.heap.objs.size (SnO X.prog X.w s.heap.objs.size M), I.laid (t' := tk) k (Nat.le_refl _) (snO_new ⟨en, ep, tb, Z.obj, Z.rows, Z.tab, Z.nd, Z.led, Z.room, Z.few⟩), rfl, q _ M hn g Z.nd⟩
  rcases hl with hl | hl
  · obtain ⟨its, rv, pl, _⟩ := I.list hl
    exact go its (refs_valsN rv) (.inl pl.isList)
  · obtain ⟨its, rv, pl, _⟩ := I.tuple hl
    exact go its (refs_valsN rv) (.inr pl)
/-- len(s): tuples -/
theorem cr_lenN : CallR X (.builtin "len") (fun xs H Q => ∃ a M, xs = [V.ref a] ∧ H a = some (SnO X.prog X.w a M) ∧ Q (.int M.length) H) := by
  intro pins s σ H xs us Q I r h
  obtain ⟨a, M, rfl, ha, q⟩ := h
  rw [Vals.ref1 r]
  obtain ⟨en, ep, tb, ⟨o, ho, hx, hd⟩, hr, T, nd, led, room, few⟩ := (I.hok a _ ha).1
  have sz := rows_size hr
  have fits : tb.fits en.size = true := by
    unfold SetTable.fits SetTable.fill
    have h1 := T.sz
    rw [List.length_map] at h1
    rw [T.dm, Bool.and_eq_true, beq_iff_eq, decide_eq_true_eq]
    exact ⟨by rw [h1, sz], by show tb.place.size + 0 ≤ tb.mask; omega⟩
  exact call_len_set ho hx hd fits (by omega) ⟨.int M.length, H, I.tok _, ⟨_, by rw [sz]⟩, q⟩
/-- set(xs): whole numbers, texts -/
def rSetK (X : Cx) : List V → Hp → VK → Prop := fun xs H Q => ∃ (l : Addr) (ks : List Key), xs = [V.ref l] ∧ (SqL X.K H l (ks.map kV) ∨ SqT X.K H l (ks.map kV)) ∧ ks.length < 64 ∧
  ∀ a, H a = none → Q (.ref a) (L2.upd H a (SetK X.prog X.w a (fun k => memK k ks) (ddK ks.reverse).length))
theorem keys_vals : ∀ {ks : List Key} {us : List Value}, Vals (ks.map kV) us → us.length = ks.length ∧ ∀ (i : Nat) (v : Value), us[i]? = some v → ∃ k, ks[i]? = some k ∧ (mixKind X.prog X.w).is k v = true ∧ v.scannable = true
  | [], _, .nil => ⟨rfl, fun i v h => by cases h⟩
  | k :: ks, _, .cons r t => by
    obtain ⟨h1, h2⟩ := keys_vals t
    refine ⟨by rw [List.length_cons, List.length_cons, h1], fun i v h => ?_⟩
    cases i with
    | zero =>
      cases h
      refine ⟨k, rfl, ?_, key_scan r⟩
      rw [mixKind_is]
      cases k with
      | inl i =>
        have ⟨t, e⟩ := r
        rw [e]
        simp [keyIs, Value.isInt]
      | inr x =>
        have ⟨t, e⟩ := r
        rw [e]
        simp [keyIs, Value.isStrOf]
    | succ i => exact h2 i v h
theorem cr_setK (hc : X.calm = true) : CallR X (.type "set") (rSetK X) := by
  intro pins s σ H xs us Q I r h
  obtain ⟨l, ks, rfl, hl, hf, q⟩ := h
  rw [Vals.ref1 r]
  have hn : H s.heap.objs.size = none := I.hok.fresh (Nat.le_refl _)
  have go : ∀ its : List Value, Vals (ks.map kV) its → (s.heap.IsList l its.toArray ∨ IsTup s.heap l its.toArray) → wpAny (model X.prog X.w) X.A (call (.type "set") [.ref l]) (EP X pins σ Q) X.xe s := by
    intro its hv pl
    obtain ⟨h1, h2⟩ := keys_vals (X := X) hv
    refine call_fill (I.ok.hd hc) pl (fill_key (A := X.A.in1.in1.in1) (S := s.heap.objs.size) (ks := ks) h2 hf h1) (fun h e _ => ⟨0, ?_, Nat.le_refl _, rfl⟩) fun h' tk ⟨n, Z, g1, g2⟩ k => ?_
    · refine ⟨_, #[], 0, _, e, ⟨rfl, rfl, rfl⟩, rfl, (fun x hx => by cases hx), fun k => ?_, by show 0 < scanBound; decide, rfl, rfl⟩
      constructor
      · intro q
        rw [List.take_zero] at q
        cases q
      · rintro ⟨e, he, _⟩; cases he
    have e : its.toArray.size = ks.length := by rw [List.size_toArray, h1]
    rw [e, List.take_length] at Z g2
    subst g2
    exact ⟨.ref s.heap.objs.size, L2.upd H s.heap.objs.size (SetK X.prog X.w s.heap.objs.size _ _), I.laid (t' := tk) k (Nat.le_refl _) (setK_new Z), rfl, q _ hn⟩
  rcases hl with hl | hl
  · obtain ⟨its, rv, pl, _⟩ := I.list hl
    exact go its rv (.inl pl.isList)
  · obtain ⟨its, rv, pl, _⟩ := I.tuple hl
    exact go its rv (.inr pl)
theorem cr_lenK : CallR X (.builtin "len") (fun xs H Q => ∃ a S n, xs = [V.ref a] ∧ H a = some (SetK X.prog X.w a S n) ∧ n < 64 ∧ Q (.int n) H) := by
  intro pins s σ H xs us Q I r h
  obtain ⟨a, S, n, rfl, ha, hn, q⟩ := h
  rw [Vals.ref1 r]
  obtain ⟨o, es, ep, t, ho, hx, hd, _, _, _, hf, hz⟩ := setK_get I ha
  exact call_len_set ho hx hd hf (by omega) ⟨.int n, H, I.tok _, ⟨_, by rw [hz]⟩, q⟩
end
end Mn

/-! Sim2: operations by values. -/
namespace Mn
open PySem PySem.Spec PyProof.Rows L2
section
variable {X : Cx}
theorem Bear.here {K : Kx} {S : Store} {H : Hp} {Q0 : KD} {Q : VK} (b : Bear K S H Q0 Q) (s : SR K S H) {d : D} {v : V} (q : Q0 d S) (r : Rep K H d v) : Q v H := b d S v H q .refl s r
theorem Bear.tup {K : Kx} {S : Store} {H : Hp} {Q0 : KD} {Q : VK} (b : Bear K S H Q0 Q) (s : SR K S H) {ds : List D} {vs : List V} (q : Q0 (.tup ds) S) (r : Reps K H ds vs) : ∀ p, H p = none → Q (.ref p) (L2.upd H p (.tup vs)) :=
  fun p n => b _ S _ _ q (.ext (ext_upd n)) (s.ext (ext_upd n)) (.tup (.inl (.inl L2.upd_same)) (r.stay (.of_ext (ext_upd n))))
theorem Bear.lst {K : Kx} {S : Store} {H : Hp} {Q0 : KD} {Q : VK} (b : Bear K S H Q0 Q) (s : SR K S H) {ds : List D} {vs : List V} (q : newL ds S Q0) (r : Reps K H ds vs) : ∀ p, H p = none → Q (.ref p) (L2.upd H p (.lst vs)) :=
  fun p n => b _ _ _ _ (q p (s.fresh n)) (.new n) (s.new n r) (.obj p)
theorem SR.lst {K : Kx} {S : Store} {H : Hp} (s : SR K S H) {a : Addr} {xs : List D} (h : S a = some (.lst xs)) : ∃ vs, H a = some (.lst vs) ∧ Reps K H xs vs := s a _ h

theorem mulW {i j : Int} (h : MulOk i j) : CMulW i j := by
  obtain ⟨a, b, ha, hb, h0, h1, h2⟩ := h
  exact wide_mul ha hb h0 h1 h2
theorem divW {i j : Int} (h : DivOk j) : CDivW i j := wide_div h.1 h.2 (by decide) (by decide)

theorem op_addL : OpR X (binaryOp .Add) (L22 X.x sAdd) := by
  intro pins s σ H v u vv uu Q I rv ru h
  obtain ⟨x, y, S, Q0, rx, ry, hs, hf, hb⟩ := h
  unfold sAdd at hf
  split at hf
  · cases rx; cases ry
    exact op_add pins s σ H _ _ vv uu Q I rv ru ⟨_, _, rfl, rfl, hb.here hs hf (.int _)⟩
  · cases rx; cases ry
    exact op_add_str pins s σ H _ _ vv uu Q I rv ru ⟨_, _, rfl, rfl, hf.1, hb.here hs hf.2 (.str _)⟩
  · cases rx with
    | tup h1 r1 => cases ry with
      | tup h2 r2 =>
        refine op_catA pins s σ H _ _ vv uu Q I rv ru ⟨_, _, _, _, rfl, rfl, h1, h2, by rw [← r1.length, ← r2.length, ← List.length_append]; exact hf.1, fun e => ?_, fun e0 e => ?_, fun _ _ => hb.tup hs hf.2 (r1.append r2)⟩
        · subst e
          cases r1
          exact hb.here hs hf.2 (.tup h2 r2)
        · subst e
          cases r2
          have hf2 := hf.2
          rw [List.append_nil] at hf2
          exact hb.here hs hf2 (.tup h1 r1)
  · cases rx; cases ry
    rename_i a b _ _
    split at hf
    · rename_i xs ys e1 e2
      obtain ⟨vs, h1, r1⟩ := hs.lst e1
      obtain ⟨ws, h2, r2⟩ := hs.lst e2
      exact op_cat pins s σ H _ _ vv uu Q I rv ru ⟨_, _, _, _, rfl, rfl, h1, h2, by rw [← r1.length, ← r2.length, ← List.length_append]; exact hf.1, hb.lst hs hf.2 (r1.append r2)⟩
    · exact hf.elim
  · exact hf.elim
theorem op_subL : OpR X (binaryOp .Sub) (L22 X.x (s2 .sub)) := by
  intro pins s σ H v u vv uu Q I rv ru h
  obtain ⟨x, y, S, Q0, rx, ry, hs, hf, hb⟩ := h
  cases rx <;> cases ry <;> first | exact False.elim hf | skip
  exact op_sub pins s σ H _ _ vv uu Q I rv ru ⟨_, _, rfl, rfl, hb.here hs hf (.int _)⟩
/-- a text times a whole number -/
theorem rep_fold (x : Array Nat) : ∀ (n : Nat) (a : Array Nat), (List.replicate n x).foldl (· ++ ·) a = a ++ ((List.replicate n x.toList).flatten).toArray
  | 0, a => by simp
  | n + 1, a => by
    rw [List.replicate_succ, List.foldl_cons, rep_fold x n, List.replicate_succ, List.flatten_cons]
    apply Array.toList_inj.mp
    simp
theorem op_mulS : OpR X (binaryOp .Mult) (fun x y H Q => ∃ z k, x = .str z ∧ y = .int k ∧ -(2 ^ 62) ≤ k ∧ k < 2 ^ 62 ∧ z.length * k.toNat ≤ sizeLine ∧ Q (.str (repS z k.toNat)) H) := by
  intro pins s σ H x y v u Q I rx ry h
  obtain ⟨z, k, rfl, rfl, k0, k1, hz, q⟩ := h
  obtain ⟨t, rfl⟩ := rx
  obtain ⟨t', rfl⟩ := ry
  have sz := sizeLine_eq
  have a : decide (k < -(2 ^ 63 : Int)) = false := decide_eq_false (by omega)
  have b : decide (k ≥ (2 ^ 63 : Int)) = false := decide_eq_false (by omega)
  refine PySem.P.mul_str (by rw [a, b]; rfl) (fun h1 h2 h3 => ?_) (fun h1 h2 => ?_) ?_
  · have h4 : (z.length : Int) * k ≤ 16777216 := by
      have e : ((z.length * k.toNat : Nat) : Int) = (z.length : Int) * k := by rw [Int.natCast_mul, Int.toNat_of_nonneg (by omega)]
      rw [← e]
      omega
    have h5 : (z.length : Int) ≤ (2 ^ 63 - 1) / k := (Int.le_ediv_iff_mul_le (by omega)).mpr (by omega)
    omega
  · show decide _ = false
    exact decide_eq_false (by omega)
  · by_cases h1 : k < 1
    · rw [if_pos h1]
      refine ⟨by decide, .str (Str.empty), H, I.tok _, ⟨_, rfl⟩, ?_⟩
      have : repS z k.toNat = Str.empty := by
        rw [show k.toNat = 0 by omega]
        rfl
      rw [← this]
      exact q
    · rw [if_neg h1]
      by_cases h2 : (k == 1 || z.length == 0) = true
      · rw [if_pos h2]
        have : repS z k.toNat = z := by
          rw [Bool.or_eq_true, beq_iff_eq, beq_iff_eq] at h2
          obtain ⟨⟨l⟩⟩ := z
          rcases h2 with h2 | h2
          · rw [h2]
            unfold repS
            simp
          · have : l = [] := List.eq_nil_of_length_eq_zero h2
            subst this
            unfold repS
            simp
        rw [this] at q
        exact ⟨.str z, H, I, ⟨_, rfl⟩, q⟩
      · rw [if_neg h2]
        have e : (⟨(List.replicate k.toNat z.cps).foldl (· ++ ·) #[]⟩ : Str) = repS z k.toNat := by
          rw [rep_fold]
          unfold repS
          simp
        rw [e]
        refine ⟨?_, .str (repS z k.toNat), H, I.tok _, ⟨_, rfl⟩, q⟩
        have : (repS z k.toNat).length = z.length * k.toNat := by
          unfold repS
          show (List.flatten _).toArray.size = _
          rw [List.size_toArray, List.length_flatten, List.map_replicate, List.sum_replicate_nat, Nat.mul_comm]
          rfl
        omega
theorem reps_rep {K : Kx} {H : Hp} {ds : List D} {vs : List V} (r : Reps K H ds vs) : ∀ n : Nat, Reps K H (List.replicate n ds).flatten (List.replicate n vs).flatten
  | 0 => .nil
  | n + 1 => by
    rw [List.replicate_succ, List.replicate_succ, List.flatten_cons, List.flatten_cons]
    exact r.append (reps_rep r n)
theorem op_mulL : OpR X (binaryOp .Mult) (L22 X.x (s2 .mul)) := by
  intro pins s σ H v u vv uu Q I rv ru h
  obtain ⟨x, y, S, Q0, rx, ry, hs, hf, hb⟩ := h
  unfold s2 at hf
  simp only at hf
  unfold sMul at hf
  split at hf
  · cases rx; cases ry
    exact op_mulW pins s σ H _ _ vv uu Q I rv ru ⟨_, _, rfl, rfl, mulW hf.1, hb.here hs hf.2 (.int _)⟩
  · cases rx; cases ry
    exact op_mulS pins s σ H _ _ vv uu Q I rv ru ⟨_, _, rfl, rfl, hf.1.1, hf.1.2.1, hf.1.2.2, hb.here hs hf.2 (.str _)⟩
  · cases ry
    cases rx with
    | tup h1 r1 =>
      refine op_repT pins s σ H _ _ vv uu Q I rv ru ⟨_, _, _, rfl, rfl, h1, ?_, hf.1.2.1, hf.1.2.2.1, by rw [← r1.length]; exact hf.1.2.2.2, hb.tup hs hf.2 (reps_rep r1 _)⟩
      intro e
      subst e
      cases r1
      exact hf.1.1 rfl
  · cases rx; cases ry
    split at hf
    · rename_i xs e1
      obtain ⟨vs, h1, r1⟩ := hs.lst e1
      exact op_rep pins s σ H _ _ vv uu Q I rv ru ⟨_, _, _, rfl, rfl, h1, by have := hf.1.1; omega, by have := hf.1.2.1; omega, by rw [← r1.length]; exact hf.1.2.2, hb.lst hs hf.2 (reps_rep r1 _)⟩
    · exact hf.elim
  · exact hf.elim
theorem op_fdivL : OpR X (binaryOp .FloorDiv) (L22 X.x (s2 .fdiv)) := by
  intro pins s σ H v u vv uu Q I rv ru h
  obtain ⟨x, y, S, Q0, rx, ry, hs, hf, hb⟩ := h
  cases rx <;> cases ry <;> first | exact False.elim hf | skip
  exact op_fdivW pins s σ H _ _ vv uu Q I rv ru ⟨_, _, rfl, rfl, divW hf.1, hb.here hs hf.2 (.int _)⟩
theorem op_modL : OpR X (binaryOp .Mod) (L22 X.x (s2 .mod)) := by
  intro pins s σ H v u vv uu Q I rv ru h
  obtain ⟨x, y, S, Q0, rx, ry, hs, hf, hb⟩ := h
  cases rx <;> cases ry <;> first | exact False.elim hf | skip
  rename_i i j
  have h0 : 0 < j := hf.1
  exact op_modN pins s σ H _ _ vv uu Q I rv ru ⟨_, _, rfl, rfl, by omega, by
    show Q (.int (i.fmod j)) H
    rw [Int.fmod_eq_emod_of_nonneg i (by omega)]
    exact hb.here hs hf.2 (.int _)⟩
theorem op_powL : OpR X (binaryOp .Pow) (L22 X.x (s2 .pow)) := by
  intro pins s σ H v u vv uu Q I rv ru h
  obtain ⟨x, y, S, Q0, rx, ry, hs, hf, hb⟩ := h
  cases rx <;> cases ry <;> first | exact False.elim hf | skip
  exact op_pow pins s σ H _ _ vv uu Q I rv ru ⟨_, _, rfl, rfl, hf.1, hb.here hs hf.2 (.int _)⟩

/-! ### equality -/
mutual
theorem dp_of {H : Hp} : ∀ (d : D) (v : V) (p : PyData), Rep X.x H d v → py0 d = some p → Dp X.K H v p
  | .non, _, _, r, e => by cases r; simp [py0] at e; subst e; exact .non
  | .bl b, _, _, r, e => by cases r; simp [py0] at e; subst e; exact .bl b
  | .int i, _, _, r, e => by cases r; simp [py0] at e; subst e; exact .int i
  | .str x, _, _, r, e => by cases r; simp [py0] at e; subst e; exact .str x
  | .tup xs, _, _, r, e => by
    cases r with
    | tup h rs =>
      rw [py0] at e
      split at e
      · rename_i ds q
        cases e
        exact .tup h (dps_of xs _ ds rs q)
      · cases e
  | .rol xs, _, _, r, e => by
    cases r with
    | rol h rs =>
      rw [py0] at e
      split at e
      · rename_i ds q
        cases e
        exact .lst h.l (dps_of xs _ ds rs q)
      · cases e
  | .kdc _ _, _, _, r, e => by simp [py0] at e
  | .obj _, _, _, r, e => by simp [py0] at e
theorem dps_of {H : Hp} : ∀ (ds : List D) (vs : List V) (ps : List PyData), Reps X.x H ds vs → py0s ds = some ps → DpAll X.K H vs ps
  | [], _, _, r, e => by cases r; simp [py0s] at e; subst e; exact .nil
  | d :: ds, _, _, r, e => by
    cases r with
    | cons h rs =>
      rw [py0s] at e
      split at e
      · rename_i p ps q1 q2
        cases e
        exact .cons (dp_of d _ p h q1) (dps_of ds _ ps rs q2)
      · cases e
end
theorem dp1_of {S : Store} {H : Hp} (hs : SR X.x S H) (d : D) (v : V) (p : PyData) (r : Rep X.x H d v) (e : py1 S d = some p) : Dp X.K H v p := by
  cases d with
  | obj a =>
    cases r
    unfold py1 at e
    simp only at e
    split at e
    · rename_i xs q
      split at e
      · rename_i ds q2
        cases e
        obtain ⟨vs, h1, r1⟩ := hs.lst q
        exact .lst (.inl (.inl h1)) (dps_of xs vs ds r1 q2)
      · cases e
    · cases e
  | _ => exact dp_of _ v p r e
theorem op_eqL (hu : X.A.units + 64 < cLine) : OpR X (compareOp .Eq) (L22 X.x (sEq false)) := by
  intro pins s σ H v u vv uu Q I rv ru h
  obtain ⟨x, y, S, Q0, rx, ry, hs, ⟨d, e, h1, h2, h3, h4, h5⟩, hb⟩ := h
  exact op_eqD hu pins s σ H _ _ vv uu Q I rv ru ⟨d, e, dp1_of hs x v d rx h1, dp1_of hs y u e ry h2, h3, h4, hb.here hs h5 (.bl _)⟩
theorem op_neL (hu : X.A.units + 64 < cLine) : OpR X (compareOp .NotEq) (L22 X.x (sEq true)) := by
  intro pins s σ H v u vv uu Q I rv ru h
  obtain ⟨x, y, S, Q0, rx, ry, hs, ⟨d, e, h1, h2, h3, h4, h5⟩, hb⟩ := h
  exact op_neD hu pins s σ H _ _ vv uu Q I rv ru ⟨d, e, dp1_of hs x v d rx h1, dp1_of hs y u e ry h2, h3, h4, hb.here hs h5 (.bl _)⟩

/-! ### order -/
theorem op_ltL : OpR X (compareOp .Lt) (L22 X.x (sOrd .lt)) := by
  intro pins s σ H v u vv uu Q I rv ru h
  obtain ⟨x, y, S, Q0, rx, ry, hs, hf, hb⟩ := h
  unfold sOrd at hf
  split at hf
  · cases rx; cases ry; exact op_lt pins s σ H _ _ vv uu Q I rv ru ⟨_, _, rfl, rfl, hb.here hs hf (.bl _)⟩
  · cases rx; cases ry; exact op_lt_str pins s σ H _ _ vv uu Q I rv ru ⟨_, _, rfl, rfl, hb.here hs hf (.bl _)⟩
  · exact hf.elim
theorem op_leL : OpR X (compareOp .LtE) (L22 X.x (sOrd .le)) := by
  intro pins s σ H v u vv uu Q I rv ru h
  obtain ⟨x, y, S, Q0, rx, ry, hs, hf, hb⟩ := h
  unfold sOrd at hf
  split at hf
  · cases rx; cases ry; exact op_le pins s σ H _ _ vv uu Q I rv ru ⟨_, _, rfl, rfl, hb.here hs hf (.bl _)⟩
  · cases rx; cases ry; exact op_le_str pins s σ H _ _ vv uu Q I rv ru ⟨_, _, rfl, rfl, hb.here hs hf (.bl _)⟩
  · exact hf.elim
theorem op_gtL : OpR X (compareOp .Gt) (L22 X.x (sOrd .gt)) := by
  intro pins s σ H v u vv uu Q I rv ru h
  obtain ⟨x, y, S, Q0, rx, ry, hs, hf, hb⟩ := h
  unfold sOrd at hf
  split at hf
  · cases rx; cases ry; exact op_gt pins s σ H _ _ vv uu Q I rv ru ⟨_, _, rfl, rfl, hb.here hs hf (.bl _)⟩
  · cases rx; cases ry; exact op_gt_str pins s σ H _ _ vv uu Q I rv ru ⟨_, _, rfl, rfl, hb.here hs hf (.bl _)⟩
  · exact hf.elim
theorem op_geL : OpR X (compareOp .GtE) (L22 X.x (sOrd .ge)) := by
  intro pins s σ H v u vv uu Q I rv ru h
  obtain ⟨x, y, S, Q0, rx, ry, hs, hf, hb⟩ := h
  unfold sOrd at hf
  split at hf
  · cases rx; cases ry; exact op_ge pins s σ H _ _ vv uu Q I rv ru ⟨_, _, rfl, rfl, hb.here hs hf (.bl _)⟩
  · cases rx; cases ry; exact op_ge_str pins s σ H _ _ vv uu Q I rv ru ⟨_, _, rfl, rfl, hb.here hs hf (.bl _)⟩
  · exact hf.elim

/-! ### an item -/
theorem esr_find {K : Kx} {H : Hp} {z : Str} : ∀ {l : List DictEntry} {ks : List Str} {us : List V} {ds : List D}, EsR l ks us → Reps K H ds us →
    (∀ d, dget (kdPairs ks ds) (.str z) = some d → ∃ e v, l.find? (·.key.isStr z) = some e ∧ RelV v e.val ∧ Rep K H d v) ∧ (dget (kdPairs ks ds) (.str z) = none → l.find? (·.key.isStr z) = none)
  | _, _, _, _, .nil, .nil => ⟨fun d h => by simp [kdPairs, dget] at h, fun _ => rfl⟩
  | e :: l, x :: ks, u :: us, d :: ds, .cons (t := t) h1 h2 h3, .cons r rs => by
    obtain ⟨i1, i2⟩ := esr_find (z := z) h3 rs
    have hk : e.key.isStr z = decide (x = z) := by
      rw [h1, PySem.W.isStr_of]
      show (x == z) = decide (x = z)
      by_cases q : x = z
      · subst q; simp
      · rw [decide_eq_false q]; exact beq_eq_false_iff_ne.mpr q
    rw [List.find?_cons, hk]
    by_cases q : x = z
    · subst q
      rw [decide_eq_true rfl]
      show (∀ d', dget ((.str x, d) :: kdPairs ks ds) (.str x) = some d' → _) ∧ _
      refine ⟨fun d' h => ?_, fun h => ?_⟩
      · rw [dget, if_pos rfl] at h
        cases h
        exact ⟨e, u, rfl, h2, r⟩
      · have h : dget ((.str x, d) :: kdPairs ks ds) (.str x) = none := h
        rw [dget, if_pos rfl] at h
        cases h
    · rw [decide_eq_false q]
      have e0 : dget (kdPairs (x :: ks) (d :: ds)) (.str z) = dget (kdPairs ks ds) (.str z) := by
        show dget ((.str x, d) :: kdPairs ks ds) (.str z) = _
        rw [dget, if_neg fun h => q (D.str.inj h)]
      rw [e0]
      exact ⟨i1, i2⟩
theorem esr_lit {l : List DictEntry} {ks : List Str} {us : List V} (h : EsR l ks us) : l.any (·.refKey) = false := by
  induction h with
  | nil => rfl
  | cons h1 _ _ ih =>
    rw [List.any_cons, ih, Bool.or_false]
    unfold DictEntry.refKey
    rw [h1]
theorem kd_some {K : Kx} {H : Hp} {a : Addr} {es : Array DictEntry} {n : Nat} {ks : List Str} {us : List V} {ds : List D} {z : Str} {d : D} (h : KDict K.K K.w a es n) (e : EsR es.toList ks us) (r : Reps K H ds us) (g : dget (kdPairs ks ds) (.str z) = some d) :
    ∃ u v, PySem.W.nsIn K.K a z = some (some u) ∧ RelV v u ∧ Rep K H d v := by
  obtain ⟨e', v, h1, h2, h3⟩ := (esr_find e r).1 d g
  refine ⟨e'.val, v, ?_, h2, h3⟩
  unfold PySem.W.nsIn
  rw [h.at_]
  show (match es.toList.find? (·.key.isStr z) with | some e => some (some e.val) | none => _) = _
  rw [h1]
theorem kd_none {K : Kx} {H : Hp} {a : Addr} {es : Array DictEntry} {n : Nat} {ks : List Str} {us : List V} {ds : List D} {z : Str} (h : KDict K.K K.w a es n) (e : EsR es.toList ks us) (r : Reps K H ds us) (g : dget (kdPairs ks ds) (.str z) = none) :
    PySem.W.nsIn K.K a z = some none := by
  have h1 := (esr_find e r).2 g
  unfold PySem.W.nsIn
  rw [h.at_]
  show (match es.toList.find? (·.key.isStr z) with | some e => some (some e.val) | none => _) = _
  rw [h1]
  show (if es.toList.any (·.refKey) then none else some none) = _
  rw [esr_lit e]
  rfl
theorem ix_L (hu : X.A.units + 64 < cLine) : IxR X (L22 X.x sIdx) := by
  intro value slice pins s σ H v u vv uu Q I rv ru h hsl
  obtain ⟨x, y, S, Q0, rx, ry, hs, hf, hb⟩ := h
  unfold sIdx at hf
  split at hf
  · cases ry
    cases rx with
    | tup h r =>
      split at hf
      · rename_i d e
        obtain ⟨w, e2, rw⟩ := atI_rep r e
        exact ix_tup value slice pins s σ H _ _ vv uu Q I rv ru ⟨_, _, _, _, rfl, rfl, h, e2, hb.here hs hf rw⟩ hsl
      · exact hf.elim
  · cases ry
    cases rx with
    | rol h r =>
      split at hf
      · rename_i d e
        obtain ⟨w, e2, rw⟩ := atI_rep r e
        exact ix_list value slice pins s σ H _ _ vv uu Q I rv ru ⟨_, _, _, _, rfl, rfl, h.l, e2, hb.here hs hf rw⟩ hsl
      · exact hf.elim
  · cases rx; cases ry
    obtain ⟨hz, hf⟩ := hf
    split at hf
    · rename_i c e
      exact ix_str value slice pins s σ H _ _ vv uu Q I rv ru ⟨_, _, _, rfl, rfl, hz, e, hb.here hs hf (.str _)⟩ hsl
    · exact hf.elim
  · cases ry
    cases rx with
    | kdc D1 E1 R1 =>
      split at hf
      · rename_i d g
        obtain ⟨u0, v0, e1, e2, e3⟩ := kd_some D1 E1 R1 g
        cases (show vv = Value.ref _ from rv)
        obtain ⟨t, rfl⟩ := (show ∃ t, uu = Value.str _ t from ru)
        exact tail_any (kd_type D1 I) PySem.F.slot_dict_getitem.lookup (wpAny_getItem_of (PySem.strKind_is X.prog X.w _ t) (PySem.W.mapOf_K (prog := X.prog) I.kIn D1.at_ D1.lit) (PySem.W.find_K D1.at_ e1) ⟨v0, H, I.tok _, e2, hb.here hs hf e3⟩) hsl
      · exact hf.elim
  · cases rx
    split at hf
    · rename_i xs e
      split at hf
      · cases ry
        split at hf
        · rename_i d e1
          obtain ⟨vs, h1, r1⟩ := hs.lst e
          obtain ⟨w, e2, rw⟩ := atI_rep r1 e1
          exact ix_list value slice pins s σ H _ _ vv uu Q I rv ru ⟨_, _, _, _, rfl, rfl, .inl (.inl h1), e2, hb.here hs hf rw⟩ hsl
        · exact hf.elim
      · exact hf.elim
    · rename_i kvs st e
      obtain ⟨hk, hf⟩ := hf
      split at hf
      · rename_i d e1
        rcases okK_key hk with ⟨k, rfl, hk2⟩ | ⟨ds, rfl, k1, k2, hk2⟩
        · obtain ⟨kv, h1, h2⟩ := hs.dic e hk2
          obtain ⟨z, e2, rz⟩ := h2.get k d e1
          exact ix_D value slice pins s σ H _ _ vv uu Q I rv ru ⟨_, st, kv, k, z, rfl, keyD_rep ry, h1, e2, hb.here hs hf rz⟩ hsl
        · obtain ⟨xs, h1, h2⟩ := hs.dicT e hk2
          obtain ⟨b, w, z, g1, g2, g3⟩ := h2.get k1 d e1
          obtain ⟨_, hz, hm, dd⟩ := pinT_ok I h1 h2
          cases ry with
          | tup hq rs =>
            have key := tkey_of I k1 k2 (.tup hq rs)
            cases (show vv = Value.ref _ from rv)
            cases (show uu = Value.ref _ from ru)
            exact tail_any dd.typeIs PySem.F.slot_dict_getitem.lookup (wpAny_getItem_heap (room_in1 hu) key dd g1 ⟨z, H, I.tok _, g2, hb.here hs hf g3⟩) hsl
      · exact hf.elim
    · exact hf.elim
  · exact hf.elim

/-! ### in -/
theorem eqV_flat {K : Kx} {H : Hp} {x y : D} {v u : V} (rx : Rep K H x v) (ry : Rep K H y u) (hx : x.flat = true) (hy : y.flat = true) : eqV u v = decide (y = x) := by
  cases rx with
  | non => cases ry with
    | non => rfl
    | int j => rfl
    | str j => rfl
    | _ => cases hy
  | int i => cases ry with
    | non => rfl
    | int j =>
      show (j == i) = _
      by_cases e : j = i
      · subst e
        rw [decide_eq_true rfl, beq_self_eq_true]
      · rw [decide_eq_false (fun z => e (D.int.inj z))]
        exact beq_eq_false_iff_ne.mpr e
    | str j => rfl
    | _ => cases hy
  | str i => cases ry with
    | non => rfl
    | int j => rfl
    | str j =>
      show (j == i) = _
      by_cases e : j = i
      · subst e
        rw [decide_eq_true rfl, beq_self_eq_true]
      · rw [decide_eq_false (fun z => e (D.str.inj z))]
        exact beq_eq_false_iff_ne.mpr e
    | _ => cases hy
  | _ => cases hx
theorem flatV_flat {K : Kx} {H : Hp} {x : D} {v : V} (rx : Rep K H x v) (hx : x.flat = true) : flatV v = true := by
  cases rx <;> first | rfl | cases hx
theorem all_flat {K : Kx} {H : Hp} : ∀ {xs : List D} {vs : List V}, Reps K H xs vs → xs.all D.flat = true → vs.all flatV = true
  | _, _, .nil, _ => rfl
  | _, _, .cons h r, e => by
    rw [List.all_cons, Bool.and_eq_true] at e ⊢
    exact ⟨flatV_flat h e.1, all_flat r e.2⟩
theorem inV_flat {K : Kx} {H : Hp} {x : D} {v : V} (rx : Rep K H x v) (hx : x.flat = true) : ∀ {xs : List D} {vs : List V}, Reps K H xs vs → xs.all D.flat = true → inV v vs = decide (x ∈ xs)
  | _, _, .nil, _ => (decide_eq_false (List.not_mem_nil)).symm
  | d :: ds, w :: ws, .cons h r, e => by
    rw [List.all_cons, Bool.and_eq_true] at e
    have ih := inV_flat rx hx r e.2
    show (eqV w v || inV v ws) = _
    rw [ih, eqV_flat rx h hx e.1]
    by_cases h1 : d = x
    · rw [decide_eq_true h1, Bool.true_or, h1]
      exact (decide_eq_true List.mem_cons_self).symm
    · rw [decide_eq_false h1, Bool.false_or]
      by_cases h2 : x ∈ ds
      · rw [decide_eq_true h2]
        exact (decide_eq_true (List.mem_cons_of_mem _ h2)).symm
      · rw [decide_eq_false h2]
        exact (decide_eq_false fun z => (List.mem_cons.mp z).elim (fun q => h1 q.symm) h2).symm
theorem str_one {c : Str} {n : Nat} (e : c.cps.toList = [n]) : c = ⟨#[n]⟩ := by
  obtain ⟨⟨l⟩⟩ := c
  have e1 : l = [n] := e
  rw [e1]
theorem op_inL (hu : X.A.units + 65 < cLine) (neg : Bool) : OpR X (compareOp (if neg then .NotIn else .In)) (L22 X.x (sIn neg)) := by
  intro pins s σ H v u vv uu Q I rv ru h
  obtain ⟨x, y, S, Q0, rx, ry, hs, hf, hb⟩ := h
  have seq : ∀ {a : Addr} {xs : List D} {vs : List V}, uu = .ref a → (SqL X.K H a vs ∨ SqT X.K H a vs) → Reps X.x H xs vs → inL neg x xs S Q0 → wpAny (model X.prog X.w) X.A (compareOp (if neg then .NotIn else .In) vv uu) (EP X pins σ Q) X.xe s := by
    intro a xs vs hu hq r ⟨h1, h2, h3⟩
    subst hu
    have e := inV_flat rx h1 r h2
    cases neg with
    | false => exact op_in_seq pins s σ H _ (.ref a) vv _ Q I rv rfl ⟨_, _, rfl, hq, flatV_flat rx h1, all_flat r h2, by rw [e]; exact hb.here hs h3 (.bl _)⟩
    | true => exact op_notIn_seq pins s σ H _ (.ref a) vv _ Q I rv rfl ⟨_, _, rfl, hq, flatV_flat rx h1, all_flat r h2, by rw [e]; exact hb.here hs h3 (.bl _)⟩
  unfold sIn at hf
  split at hf
  · cases ry
    split at hf
    · rename_i kvs st e
      obtain ⟨hk, hf⟩ := hf
      rcases okK_key hk with ⟨k, rfl, hk2⟩ | ⟨ds, rfl, k1, k2, hk2⟩
      · obtain ⟨kv, h1, h2⟩ := hs.dic e hk2
        refine op_inD neg pins s σ H _ _ vv uu Q I rv ru ⟨_, st, kv, k, rfl, keyD_rep rx, h1, ?_⟩
        have e1 := h2.isSome k
        have e2 : (dget kvs (keyD k)).isNone = (valV kv k).isNone := by
          rw [← Option.not_isSome, ← Option.not_isSome, e1]
        rw [← e1, ← e2]
        exact hb.here hs hf (.bl _)
      · obtain ⟨xs, h1, h2⟩ := hs.dicT e hk2
        obtain ⟨_, hz, hm, dd⟩ := pinT_ok I h1 h2
        cases rx with
        | tup hq rs =>
          have key := tkey_of I k1 k2 (.tup hq rs)
          cases (show vv = Value.ref _ from rv)
          cases (show uu = Value.ref _ from ru)
          have e1 := h2.isSome k1
          have hu : X.A.units + 64 < cLine := by omega
          cases neg with
          | false =>
            refine wpAny_in_heap (room_in1 hu) key hm dd ?_
            rw [← e1]
            exact ⟨.bl _, H, I.tok _, rfl, hb.here hs hf (.bl _)⟩
          | true =>
            refine wpAny_notIn_heap (room_in1 hu) key hm dd ?_
            rw [← e1]
            refine ⟨.bl _, H, I.tok _, rfl, ?_⟩
            rw [Option.not_isSome]
            exact hb.here hs hf (.bl _)
    · rename_i xs e
      obtain ⟨vs, h1, r1⟩ := hs.lst e
      rcases hf with hf | ⟨d, ds, p1, p2, p3, p4, hf⟩
      · exact seq ru (.inl (.inl (.inl h1))) r1 hf
      · cases neg with
        | false => exact L2.op_inD hu pins s σ H _ _ vv uu Q I rv ru ⟨d, ds, dp_of x _ d rx p1, .lst (.inl (.inl h1)) (dps_of xs vs ds r1 p2), p3, p4, hb.here hs hf (.bl _)⟩
        | true => exact L2.op_notInD hu pins s σ H _ _ vv uu Q I rv ru ⟨d, ds, dp_of x _ d rx p1, .lst (.inl (.inl h1)) (dps_of xs vs ds r1 p2), p3, p4, hb.here hs hf (.bl _)⟩
    · exact hf.elim
  · split at hf
    · cases rx
      cases ry with
      | kdc D1 E1 R1 =>
        rename_i ks ds _ k _ _ _ _
        cases g : dget (kdPairs ks ds) (.str k) with
        | some d =>
          rw [g] at hf
          obtain ⟨u0, v0, e1, _, _⟩ := kd_some D1 E1 R1 g
          cases neg with
          | false => exact op_in_kd D1 pins s σ H _ _ vv uu Q I rv ru ⟨_, _, rfl, rfl, e1, hb.here hs hf (.bl _)⟩
          | true => exact op_notIn_kd D1 pins s σ H _ _ vv uu Q I rv ru ⟨_, _, rfl, rfl, e1, hb.here hs hf (.bl _)⟩
        | none =>
          rw [g] at hf
          have e1 := kd_none D1 E1 R1 g
          cases neg with
          | false => exact op_in_kd D1 pins s σ H _ _ vv uu Q I rv ru ⟨_, _, rfl, rfl, e1, hb.here hs hf (.bl _)⟩
          | true => exact op_notIn_kd D1 pins s σ H _ _ vv uu Q I rv ru ⟨_, _, rfl, rfl, e1, hb.here hs hf (.bl _)⟩
    · exact hf.elim
  · cases ry with
    | rol h r => exact seq ru (.inl h.l) r hf
  · cases ry with
    | tup h r => exact seq ru (.inr h) r hf
  · cases ry
    split at hf
    · cases rx
      split at hf
      · rename_i z x n e
        have e2 := str_one e
        subst e2
        cases neg with
        | false => exact op_in_sign pins s σ H _ _ vv uu Q I rv ru ⟨n, _, rfl, rfl, hb.here hs hf (.bl _)⟩
        | true => exact op_notIn_sign pins s σ H _ _ vv uu Q I rv ru ⟨n, _, rfl, rfl, hb.here hs hf (.bl _)⟩
      · exact hf.elim
    · exact hf.elim
  · exact hf.elim
end
end Mn

/-! Sim3: built-ins, methods, slices, truth by values. -/
namespace Mn
open PySem PySem.Spec PyProof.Rows L2
section
variable {X : Cx}
theorem lsOf_sql {K : Kx} {S : Store} {H : Hp} (hs : SR K S H) {x : D} {v : V} {xs : List D} (r : Rep K H x v) (e : lsOf S x = some xs) : ∃ a vs, v = .ref a ∧ SqL K.K H a vs ∧ Reps K H xs vs := by
  cases r with
  | rol h rs => cases e; exact ⟨_, _, rfl, h.l, rs⟩
  | obj a =>
    unfold lsOf at e
    simp only at e
    split at e
    · rename_i ys q
      cases e
      obtain ⟨vs, h1, r1⟩ := hs.lst q
      exact ⟨_, _, rfl, .inl (.inl h1), r1⟩
    · cases e
  | _ => cases e
theorem call_lenL : CallR X (.builtin "len") (Ln X.x (sBi .len)) := by
  intro pins s σ H vs us Q I rv h
  obtain ⟨xs, S, Q0, rx, hs, hf, hb⟩ := h
  unfold sBi at hf
  split at hf <;> first | exact hf.elim | (rename_i q; cases q; done) | (rename_i q _; cases q; done) | skip
  · cases rx with | cons r r' => cases r'; cases r; exact call_len_str pins s σ H _ us Q I rv ⟨_, rfl, hf.1, hb.here hs hf.2 (.int _)⟩
  · cases rx with | cons r r' => cases r'; cases r with | tup h rs => exact call_len_seq pins s σ H _ us Q I rv ⟨_, _, rfl, .inr h, by rw [← rs.length]; exact hb.here hs hf (.int _)⟩
  · cases rx with | cons r r' => cases r'; cases r with | rol h rs => exact call_len_seq pins s σ H _ us Q I rv ⟨_, _, rfl, .inl h.l, by rw [← rs.length]; exact hb.here hs hf (.int _)⟩
  · cases rx with
    | cons r r' =>
      cases r'; cases r
      split at hf
      · rename_i xs e
        obtain ⟨ws, h1, r1⟩ := hs.lst e
        exact call_len_seq pins s σ H _ us Q I rv ⟨_, _, rfl, .inl (.inl (.inl h1)), by rw [← r1.length]; exact hb.here hs hf (.int _)⟩
      · rename_i e
        obtain ⟨kv, h1, h2⟩ := hs.dic e hf.1
        exact call_lenD pins s σ H _ us Q I rv ⟨_, _, kv, rfl, h1, by rw [← h2.length]; exact hb.here hs hf.2 (.int _)⟩
      · exact hf.elim
theorem Bear.newD {K : Kx} {S : Store} {H : Hp} {Q0 : KD} {Q : VK} (b : Bear K S H Q0 Q) (s : SR K S H) {kvs : List (D × D)} {kv : List (Key × V)} (q : newD kvs S Q0) (r : KR K H kvs kv) : ∀ p st, H p = none → Q (.ref p) (L2.upd H p (.ext (PinK K p st kv))) :=
  fun p st n => b _ _ _ _ (q p st (s.fresh n)) (.new n) (s.newD n r) (.obj p)
theorem call_dictL (hc : X.calm = true) (hu : X.A.units + 64 < cLine) : CallR X (.type "dict") (Ln X.x (sBi .dict)) := by
  intro pins s σ H vs us Q I rv h
  obtain ⟨xs, S, Q0, rx, hs, hf, hb⟩ := h
  unfold sBi at hf
  split at hf <;> first | exact hf.elim | (rename_i q; cases q; done) | (rename_i q _; cases q; done) | skip
  cases rx with
  | cons r r' =>
    cases r'; cases r
    split at hf
    · rename_i xs e
      split at hf
      · rename_i kvs q
        obtain ⟨ws, h1, r1⟩ := hs.lst e
        rcases hf.1 with hf1 | hf1
        case inr =>
          obtain ⟨ps, ts, e1, e2, e3, e4⟩ := pairsT_of I r1 q hf1
          rw [e1] at h1
          obtain ⟨u, rfl, ru⟩ := Vals.one rv
          cases (show u = Value.ref _ from ru)
          exact call_pairsT hc hu I (.inl (.inl h1)) e2 e3 e4 fun p st hn => hb _ _ _ _ (hf.2 p st (hs.fresh hn)) (.new hn) (hs.newT hn (TR.merge e2 .nil List.nodup_nil)) (.obj p)
        obtain ⟨ps, kv, e1, e2, e3⟩ := prs_rep r1 q hf1
        rw [e1] at h1
        exact call_pairsD hc pins s σ H _ us Q I rv ⟨_, ps, kv, rfl, .inl (.inl h1), e2, hb.newD hs hf.2 (KR.merge e3 .nil List.nodup_nil)⟩
      · exact hf.elim
    · rename_i e
      obtain ⟨kv, h1, h2⟩ := hs.dic e hf.1
      exact call_copyD pins s σ H _ us Q I rv ⟨_, _, kv, rfl, h1, hb.newD hs hf.2 h2⟩
    · exact hf.elim
theorem call_absL : CallR X (.builtin "abs") (Ln X.x (sBi .abs)) := by
  intro pins s σ H vs us Q I rv h
  obtain ⟨xs, S, Q0, rx, hs, hf, hb⟩ := h
  unfold sBi at hf
  split at hf <;> first | exact hf.elim | (rename_i q; cases q; done) | (rename_i q _; cases q; done) | skip
  cases rx with | cons r r' => cases r'; cases r; exact call_abs pins s σ H _ us Q I rv ⟨_, rfl, hb.here hs hf (.int _)⟩
theorem call_intL : CallR X (.type "int") (Ln X.x (sBi .int)) := by
  intro pins s σ H vs us Q I rv h
  obtain ⟨xs, S, Q0, rx, hs, hf, hb⟩ := h
  unfold sBi at hf
  split at hf <;> first | exact hf.elim | (rename_i q; cases q; done) | (rename_i q _; cases q; done) | skip
  · cases rx with | cons r r' => cases r'; cases r; exact call_int1 pins s σ H _ us Q I rv (.inl ⟨_, rfl, hb.here hs hf (.int _)⟩)
  · cases rx with | cons r r' => cases r'; cases r; exact call_int1 pins s σ H _ us Q I rv (.inr ⟨_, rfl, hb.here hs hf (.int _)⟩)
theorem call_listL : CallR X (.type "list") (Ln X.x (sBi .list)) := by
  intro pins s σ H vs us Q I rv h
  obtain ⟨xs, S, Q0, rx, hs, hf, hb⟩ := h
  unfold sBi at hf
  split at hf <;> first | exact hf.elim | (rename_i q; cases q; done) | (rename_i q _; cases q; done) | skip
  · cases rx with | cons r r' => cases r'; cases r with | tup h rs => exact call_list_of pins s σ H _ us Q I rv ⟨_, _, rfl, .inr h, hb.lst hs hf rs⟩
  · cases rx with
    | cons r r' =>
      cases r'
      unfold wList at hf
      split at hf
      · rename_i e
        obtain ⟨a, ws, rfl, h1, r1⟩ := lsOf_sql hs r e
        exact call_list_of pins s σ H _ us Q I rv ⟨_, _, rfl, .inl h1, hb.lst hs hf r1⟩
      · exact hf.elim
theorem call_tupleL : CallR X (.type "tuple") (Ln X.x (sBi .tuple)) := by
  intro pins s σ H vs us Q I rv h
  obtain ⟨xs, S, Q0, rx, hs, hf, hb⟩ := h
  unfold sBi at hf
  split at hf <;> first | exact hf.elim | (rename_i q; cases q; done) | (rename_i q _; cases q; done) | skip
  · cases rx with | cons r r' => cases r'; cases r with | tup h rs => exact call_tuple_of pins s σ H _ us Q I rv ⟨_, _, rfl, .inr ⟨h, hb.here hs hf (.tup h rs)⟩⟩
  · cases rx with
    | cons r r' =>
      cases r'
      unfold wList at hf
      split at hf
      · rename_i e
        obtain ⟨a, ws, rfl, h1, r1⟩ := lsOf_sql hs r e
        exact call_tuple_of pins s σ H _ us Q I rv ⟨_, _, rfl, .inl ⟨h1, hb.tup hs hf r1⟩⟩
      · exact hf.elim
theorem bls_rep {K : Kx} {H : Hp} : ∀ {xs : List D} {vs : List V} {bs : List Bool}, Reps K H xs vs → bls xs = some bs → vs = bs.map V.bl
  | [], _, bs, .nil, e => by cases e; rfl
  | x :: xs, v :: vs, bs, .cons h r, e => by
    cases x with
    | bl b =>
      cases h
      rw [bls] at e
      split at e
      · rename_i cs q
        cases e
        rw [bls_rep r q]
        rfl
      · cases e
    | _ => cases e
theorem wholes_rep {K : Kx} {H : Hp} : ∀ {xs : List D} {vs : List V} {bs : List Int}, Reps K H xs vs → wholes xs = some bs → vs = bs.map V.int
  | [], _, bs, .nil, e => by cases e; rfl
  | x :: xs, v :: vs, bs, .cons h r, e => by
    cases x with
    | int b =>
      cases h
      rw [wholes] at e
      split at e
      · rename_i cs q
        cases e
        rw [wholes_rep r q]
        rfl
      · cases e
    | _ => cases e
theorem call_allL (hc : X.calm = true) : CallR X (.builtin "all") (Ln X.x (sBi .all)) := by
  intro pins s σ H vs us Q I rv h
  obtain ⟨xs, S, Q0, rx, hs, hf, hb⟩ := h
  unfold sBi at hf
  split at hf <;> first | exact hf.elim | (rename_i q; cases q; done) | (rename_i q _; cases q; done) | skip
  cases rx with
  | cons r r' =>
    cases r'
    unfold wList at hf
    split at hf
    · rename_i e
      split at hf
      · rename_i bs q
        obtain ⟨a, ws, rfl, h1, r1⟩ := lsOf_sql hs r e
        rw [bls_rep r1 q] at h1
        exact cr_all hc pins s σ H _ us Q I rv ⟨_, _, rfl, h1, hb.here hs hf (.bl _)⟩
      · exact hf.elim
    · exact hf.elim
theorem call_anyL (hc : X.calm = true) : CallR X (.builtin "any") (Ln X.x (sBi .any)) := by
  intro pins s σ H vs us Q I rv h
  obtain ⟨xs, S, Q0, rx, hs, hf, hb⟩ := h
  unfold sBi at hf
  split at hf <;> first | exact hf.elim | (rename_i q; cases q; done) | (rename_i q _; cases q; done) | skip
  cases rx with
  | cons r r' =>
    cases r'
    unfold wList at hf
    split at hf
    · rename_i e
      split at hf
      · rename_i bs q
        obtain ⟨a, ws, rfl, h1, r1⟩ := lsOf_sql hs r e
        rw [bls_rep r1 q] at h1
        exact cr_any hc pins s σ H _ us Q I rv ⟨_, _, rfl, h1, hb.here hs hf (.bl _)⟩
      · exact hf.elim
    · exact hf.elim
theorem call_sumL (hc : X.calm = true) : CallR X (.builtin "sum") (Ln X.x (sBi .sum)) := by
  intro pins s σ H vs us Q I rv h
  obtain ⟨xs, S, Q0, rx, hs, hf, hb⟩ := h
  unfold sBi at hf
  split at hf <;> first | exact hf.elim | (rename_i q; cases q; done) | (rename_i q _; cases q; done) | skip
  cases rx with
  | cons r r' =>
    cases r'
    unfold wList at hf
    split at hf
    · rename_i e
      split at hf
      · rename_i bs q
        obtain ⟨a, ws, rfl, h1, r1⟩ := lsOf_sql hs r e
        rw [wholes_rep r1 q] at h1
        exact cr_sum hc pins s σ H _ us Q I rv ⟨_, _, rfl, h1, hb.here hs hf (.int _)⟩
      · exact hf.elim
    · exact hf.elim
theorem strs_rep {K : Kx} {H : Hp} : ∀ {xs : List D} {vs : List V} {bs : List Str}, Reps K H xs vs → strsD xs = some bs → vs = bs.map V.str
  | [], _, bs, .nil, e => by cases e; rfl
  | x :: xs, v :: vs, bs, .cons h r, e => by
    cases x with
    | str b =>
      cases h
      rw [strsD] at e
      split at e
      · rename_i cs q
        cases e
        rw [strs_rep r q]
        rfl
      · cases e
    | _ => cases e
theorem strs_map {bs : List Str} : ∀ {xs : List D}, strsD xs = some bs → xs = bs.map D.str := by
  intro xs
  induction xs generalizing bs with
  | nil => intro e; cases e; rfl
  | cons x xs ih =>
    intro e
    cases x with
    | str b =>
      rw [strsD] at e
      split at e
      · rename_i cs q
        cases e
        rw [ih q]
        rfl
      · cases e
    | _ => cases e
theorem reps_strs {K : Kx} {H : Hp} : ∀ l : List Str, Reps K H (l.map D.str) (l.map V.str)
  | [] => .nil
  | x :: l => .cons (.str x) (reps_strs l)
theorem reps_ints {K : Kx} {H : Hp} : ∀ l : List Int, Reps K H (l.map D.int) (l.map V.int)
  | [] => .nil
  | x :: l => .cons (.int x) (reps_ints l)
theorem KR.keysS {K : Kx} {H : Hp} : ∀ {r : List (D × D)} {t : List (Key × V)} {ks : List Str}, KR K H r t → r.map (·.1) = ks.map D.str → t.map (·.1) = ks.map Sum.inr
  | _, _, ks, .nil, e => by cases ks <;> first | rfl | cases e
  | _, _, ks, .cons (k := k) _ r, e => by
    cases ks with
    | nil => cases e
    | cons y ys =>
      rw [List.map_cons, List.map_cons] at e
      obtain ⟨e1, e2⟩ := List.cons.inj e
      have e3 : k = Sum.inr y := by
        cases k with
        | inl i => cases e1
        | inr z => cases e1; rfl
      rw [List.map_cons, List.map_cons, KR.keysS r e2, e3]
theorem sorted_dicL (hc : X.calm = true) {pins : List (Addr × Obj)} {s : Shared} {σ : L2.St} {S : Store} {H : Hp} {a : Addr} {st : Obj} {kv : List (Key × V)} {us : List Value} {ks : List Str} {Q0 : KD} {Q : VK} (I : Inv X pins σ H s) (hs : SR X.x S H)
    (h1 : H a = some (.ext (PinK X.x a st kv))) (rv : Vals [.ref a] us) (em : kv.map (·.1) = ks.map Sum.inr) (hl : ks.length < 64) (hf : ∀ ys : List Str, ys.Perm ks → PyProof.Rows.sortedS ys = true → newL (ys.map D.str) S Q0) (hb : Bear X.x S H Q0 Q) :
    wpAny (model X.prog X.w) X.A (call (.builtin "sorted") us) (EP X pins σ Q) X.xe s := by
  refine thn (call_sortedD hc pins s σ (L2.upd H a (.frz st (.dK kv))) _ us (fun v H' => ∃ (ys : List Str) (p : Addr), v = .ref p ∧ ys.Perm ks ∧ sortedS ys = true ∧ L2.upd H a (.frz st (.dK kv)) p = none ∧ H' = L2.upd (L2.upd H a (.frz st (.dK kv))) p (.lst (ys.map V.str))) (frzD I h1) rv
    ⟨a, kv, ks, rfl, .inr ⟨st, L2.upd_same⟩, em, hl, fun ys p hp hsr hn => ⟨ys, p, rfl, hp, hsr, hn, rfl⟩⟩) fun w s' ⟨v, H', I', rw', ys, p, e1, hp, hsr, hn, e2⟩ => ?_
  subst e1
  subst e2
  have hpa : p ≠ a := fun z => by rw [z, L2.upd_same] at hn; cases hn
  have hn' : H p = none := by rw [L2.upd_ne hpa] at hn; exact hn
  rw [upd_comm hpa] at I'
  have e3 : L2.upd H p (.lst (ys.map V.str)) a = some (.ext (PinK X.x a st kv)) := by rw [L2.upd_ne hpa.symm]; exact h1
  exact ⟨_, _, thawD' (I.nofrz h1 True.intro) e3 I', rw', hb.lst hs (hf ys hp hsr) (reps_strs ys) p hn'⟩
theorem call_sortedL (hc : X.calm = true) : CallR X (.builtin "sorted") (Ln X.x (sBi .sorted)) := by
  intro pins s σ H vs us Q I rv h
  obtain ⟨xs, S, Q0, rx, hs, hf, hb⟩ := h
  unfold sBi at hf
  split at hf <;> first | exact hf.elim | (rename_i q; cases q; done) | (rename_i q _; cases q; done) | skip
  cases rx with
  | cons r r' =>
    cases r'; cases r
    split at hf
    · rename_i xs e
      obtain ⟨ws, h1, r1⟩ := hs.lst e
      obtain ⟨h64, hf⟩ := hf
      rw [r1.length] at h64
      split at hf
      · rename_i ks q
        rw [strs_rep r1 q] at h1 h64
        exact cr_sortedS pins s σ H _ us Q I rv ⟨_, ks, rfl, .inl (.inl h1), by simpa using h64, fun ys p hp hsr hn => hb.lst hs (hf ys hp hsr) (reps_strs ys) p hn⟩
      · split at hf
        · rename_i ns q
          rw [wholes_rep r1 q] at h1 h64
          exact cr_sorted pins s σ H _ us Q I rv ⟨_, ns, rfl, .inl (.inl h1), by simpa using h64, fun ys p hp hsr hn => hb.lst hs (hf ys hp hsr) (reps_ints ys) p hn⟩
        · exact hf.elim
    · rename_i kvs st e
      obtain ⟨h64, hf⟩ := hf
      split at hf
      · rename_i ks q
        have em := strs_map q
        have hsc : kvs.all (·.1.sca) = true := by
          rw [List.all_eq_true]
          intro p hp
          have : p.1 ∈ ks.map D.str := by rw [← em]; exact List.mem_map_of_mem hp
          obtain ⟨z, _, hz⟩ := List.mem_map.mp this
          rw [← hz]
          rfl
        obtain ⟨kv, h1, h2⟩ := hs.dic e hsc
        have hl : ks.length < 64 := by
          have : (kvs.map (·.1)).length = ks.length := by rw [em, List.length_map]
          omega
        exact sorted_dicL hc I hs h1 rv (h2.keysS em) hl hf hb
      · exact hf.elim
    · exact hf.elim
theorem call_min2L (hc : X.calm = true) : CallR X (.builtin "min") (Ln X.x (sBi .min2)) := by
  intro pins s σ H vs us Q I rv h
  obtain ⟨xs, S, Q0, rx, hs, hf, hb⟩ := h
  unfold sBi at hf
  split at hf <;> first | exact hf.elim | (rename_i q; cases q; done) | (rename_i q _; cases q; done) | skip
  cases rx with | cons r r' => cases r' with | cons r1 r2 => cases r2; cases r; cases r1; exact call_min2 hc pins s σ H _ us Q I rv ⟨_, _, rfl, hb.here hs hf (.int _)⟩
theorem call_max2L (hc : X.calm = true) : CallR X (.builtin "max") (Ln X.x (sBi .max2)) := by
  intro pins s σ H vs us Q I rv h
  obtain ⟨xs, S, Q0, rx, hs, hf, hb⟩ := h
  unfold sBi at hf
  split at hf <;> first | exact hf.elim | (rename_i q; cases q; done) | (rename_i q _; cases q; done) | skip
  cases rx with | cons r r' => cases r' with | cons r1 r2 => cases r2; cases r; cases r1; exact call_max2 hc pins s σ H _ us Q I rv ⟨_, _, rfl, hb.here hs hf (.int _)⟩

/-! ### methods of lists -/
def Lm (K : Kx) (f : D → List D → Store → KD → Prop) : V → List V → Hp → VK → Prop := fun v vs H Q => ∃ x xs S Q0, Rep K H x v ∧ Reps K H xs vs ∧ SR K S H ∧ f x xs S Q0 ∧ Bear K S H Q0 Q
theorem Bear.set {K : Kx} {S : Store} {H : Hp} {Q0 : KD} {Q : VK} (b : Bear K S H Q0 Q) (s : SR K S H) {a : Addr} {xs ys : List D} {vs ws : List V} (h1 : S a = some (.lst xs)) (h2 : H a = some (.lst vs)) (q : Q0 .non (upd S a (.lst ys))) (r : Reps K H ys ws) : Q .non (L2.upd H a (.lst ws)) :=
  b _ _ _ _ q (.setL h1) (s.setL h2 r) .non
theorem mt_appendL : MtM X "list.append" (Lm X.x (sMt .append)) := by
  intro pins s σ H v vs vv us Q I rv rvs h
  obtain ⟨x, xs, S, Q0, rx, rxs, hs, hf, hb⟩ := h
  unfold sMt at hf
  split at hf <;> first | exact hf.elim | (rename_i q; cases q; done) | (rename_i q _; cases q; done) | skip
  cases rx
  cases rxs with
  | cons r r' =>
    cases r'
    split at hf
    · rename_i e
      obtain ⟨ws, h1, r1⟩ := hs.lst e
      exact mt_append pins s σ H _ _ vv us Q I rv rvs ⟨_, _, _, rfl, rfl, h1, by rw [← r1.length]; exact hf.1, hb.set hs e h1 hf.2 (r1.append (.cons r .nil))⟩
    · exact hf.elim
theorem mt_popL : MtM X "list.pop" (Lm X.x (sMt .pop)) := by
  intro pins s σ H v vs vv us Q I rv rvs h
  obtain ⟨x, xs, S, Q0, rx, rxs, hs, hf, hb⟩ := h
  unfold sMt at hf
  split at hf <;> first | exact hf.elim | (rename_i q; cases q; done) | (rename_i q _; cases q; done) | skip
  cases rx
  cases rxs
  split at hf
  · rename_i ys e
    obtain ⟨y, ey, hf⟩ := hf
    obtain ⟨ws, h1, r1⟩ := hs.lst e
    obtain ⟨z, ez, rz⟩ := r1.get ey
    refine mt_pop pins s σ H _ _ vv us Q I rv rvs ⟨_, ws, z, rfl, rfl, h1, by rw [← r1.length]; exact ez, ?_⟩
    have rd : Reps X.x H ys.dropLast ws.dropLast := by
      rw [List.dropLast_eq_take, List.dropLast_eq_take, r1.length]
      exact r1.take _
    have st := stay_set (o := .lst ws.dropLast) h1
    exact hb _ _ _ _ hf (Fm.setL e) (hs.setL h1 rd) (rz.stay st)
  · exact hf.elim
theorem mt_indexL (hu : X.A.units + 65 < cLine) : MtM X "list.index" (Lm X.x (sMt .index)) := by
  intro pins s σ H v vs vv us Q I rv rvs h
  obtain ⟨x, xs, S, Q0, rx, rxs, hs, hf, hb⟩ := h
  unfold sMt at hf
  split at hf <;> first | exact hf.elim | (rename_i q; cases q; done) | (rename_i q _; cases q; done) | skip
  cases rx
  split at hf
  · rename_i ys e
    obtain ⟨d, ds, j, z, p1, p2, p3, p4, p5, p6, p7, hf⟩ := hf
    obtain ⟨ws, h1, r1⟩ := hs.lst e
    cases rxs with
    | cons r r' =>
      cases r'
      exact L2.mt_indexD hu pins s σ H _ _ vv us Q I rv rvs ⟨_, _, d, ds, j, z, rfl, rfl, .lst (.inl (.inl h1)) (dps_of ys ws ds r1 p2), dp_of _ _ d r p1, p4, p3, p5, p6, p7, hb.here hs hf (.int _)⟩
  · exact hf.elim
theorem mt_extendL : MtM X "list.extend" (Lm X.x (sMt .extend)) := by
  intro pins s σ H v vs vv us Q I rv rvs h
  obtain ⟨x, xs, S, Q0, rx, rxs, hs, hf, hb⟩ := h
  unfold sMt at hf
  split at hf <;> first | exact hf.elim | (rename_i q; cases q; done) | (rename_i q _; cases q; done) | skip
  cases rx
  cases rxs with
  | cons r r' =>
    cases r'
    cases r
    split at hf
    · rename_i e1 e2
      obtain ⟨ws, h1, r1⟩ := hs.lst e1
      obtain ⟨zs, h2, r2⟩ := hs.lst e2
      exact mt_extend pins s σ H _ _ vv us Q I rv rvs ⟨_, _, _, _, rfl, rfl, h1, h2, by rw [← r1.length, ← r2.length, ← List.length_append]; exact hf.1, hb.set hs e1 h1 hf.2 (r1.append r2)⟩
    · exact hf.elim
/-- o[i] = v -/
def Ls (K : Kx) : TSet := fun o i v H Q => ∃ x k d S Q0, Rep K H x o ∧ Rep K H k i ∧ Rep K H d v ∧ SR K S H ∧ sSet x k d S Q0 ∧ ∀ S' H', Q0 S' → Fm S H S' H' → SR K S' H' → Q H'
theorem set_L (hu : X.A.units + 64 < cLine) : PSet X (Ls X.x) := by
  intro pins s σ H o i v ov iv u Q I ro ri rv h
  obtain ⟨x, k, d, S, Q0, rx, rk, rd, hs, hf, hb⟩ := h
  unfold sSet at hf
  split at hf
  · cases rx
    split at hf
    · rename_i xs e
      split at hf
      · cases rk
        rename_i j
        obtain ⟨h0, h1, hq⟩ := hf
        obtain ⟨ws, h2, r1⟩ := hs.lst e
        refine set_list pins s σ H _ _ _ ov iv u Q I ro ri rv ⟨_, ws, j, j.toNat, rfl, rfl, h2, ?_, hb _ _ hq (.setL e) (hs.setL h2 (Reps.set rd _ r1))⟩
        unfold ixN
        rw [if_pos h0, if_pos (by rw [← r1.length]; exact h1)]
      · exact hf.elim
    · rename_i kvs st e
      obtain ⟨hk, hl, hq⟩ := hf
      rcases okK_key hk with ⟨k, rfl, hk2⟩ | ⟨ds, rfl, k1, k2, hk2⟩
      case inr =>
        obtain ⟨xs, h1, h2⟩ := hs.dicT e hk2
        obtain ⟨_, hz, hm, dd⟩ := pinT_ok I h1 h2
        cases rk with
        | @tup b0 _ _ hq0 rs =>
          have rkk : Rep X.x H (.tup ds) (.ref b0) := .tup hq0 rs
          have key := tkey_of I k1 k2 rkk
          cases (show ov = Value.ref _ from ro)
          cases (show iv = Value.ref _ from ri)
          have nd : (xs.map (·.1)).Nodup := dd.choose_spec.choose_spec.choose_spec.2.2.2.2.2
          refine wpAny_setItem_heap (hsz := hz) (room_in1 hu) key dd fun h' dd' hsb => ?_
          have hl2 : (storedH xs (nkey (.tup ds)) b0 u).length ≤ sizeLine := by
            have l1 := h2.length
            have l2 : (storedH xs (nkey (.tup ds)) b0 u).length ≤ xs.length + 1 := by
              unfold storedH
              split
              · rw [List.length_map]; omega
              · rw [List.length_append]; exact Nat.le_refl _
            omega
          obtain ⟨st', I2⟩ := pinT_write (tk := s.toks + (nestedKind X.prog X.w).draws (nkey (.tup ds))) I h1 hsb dd' hl2 hm
          exact ⟨_, I2, hb _ _ (hq st') (.setL e) (hs.setT h1 (TR.put k1 k2 rkk rd rv h2 nd))⟩
      obtain ⟨kv, h1, h2⟩ := hs.dic e hk2
      exact set_D (by omega) pins s σ H _ _ _ ov iv u Q I ro ri rv ⟨_, st, kv, k, rfl, keyD_rep rk, h1, by rw [← h2.length]; exact hl, fun st' => hb _ _ (hq st') (.setL e) (hs.setD h1 (KR.nodup_set rd h2 (pin_nodup I h1)))⟩
    · exact hf.elim
  · exact hf.elim
theorem mt_getL (hu : X.A.units + 64 < cLine) : MtM X "dict.get" (Lm X.x (sMt .get)) := by
  intro pins s σ H v vs vv us Q I rv rvs h
  obtain ⟨x, xs, S, Q0, rx, rxs, hs, hf, hb⟩ := h
  have key : ∀ {kvs : List (D × D)}, dcOf S x = some kvs → ∃ a st, v = .ref a ∧ S a = some (.dic kvs st) := by
    intro kvs e
    cases rx with
    | obj a =>
      unfold dcOf at e
      simp only at e
      split at e
      · rename_i q
        cases e
        exact ⟨a, _, rfl, q⟩
      · cases e
    | _ => cases e
  unfold sMt at hf
  split at hf <;> first | exact hf.elim | (rename_i q; cases q; done) | (rename_i q _; cases q; done) | skip
  · rename_i ks ds k _
    cases rxs with
    | cons r r' =>
      cases r'
      obtain ⟨u, rfl, ry⟩ := Vals.one rvs
      cases r
      obtain ⟨t, rfl⟩ := (show ∃ t, u = Value.str k t from ry)
      cases rx with
      | kdc D1 E1 R1 =>
        cases (show vv = Value.ref _ from rv)
        refine call_meetsIn PySem.F.slot_dict_get (kd_type D1 I) PySem.F.entry_dict_get (PySem.F.args_dict_get_2 _ _) (meets_dict_get (PySem.strKind X.prog X.w) _ (PySem.strKind_is X.prog X.w k t) D1.low) ⟨_, PySem.W.mapOf_K (prog := X.prog) I.kIn D1.at_ D1.lit, ?_⟩
        cases g : dget (kdPairs ks ds) (.str k) with
        | some d =>
          rw [g] at hf
          obtain ⟨u0, v0, e1, e2, e3⟩ := kd_some D1 E1 R1 g
          rw [PySem.W.find_K D1.at_ e1]
          exact ⟨v0, H, I.tok _, e2, hb.here hs hf e3⟩
        | none =>
          rw [g] at hf
          rw [PySem.W.find_K D1.at_ (kd_none D1 E1 R1 g)]
          exact ⟨.non, H, I.tok _, rfl, hb.here hs hf .non⟩
  · rename_i ks ds k x _
    cases rxs with
    | cons r r' =>
      cases r' with
      | cons r2 r3 =>
        cases r3
        obtain ⟨u, y, rfl, ry, ry2⟩ := Vals.two rvs
        cases r
        obtain ⟨t, rfl⟩ := (show ∃ t, u = Value.str k t from ry)
        cases rx with
        | kdc D1 E1 R1 =>
          cases (show vv = Value.ref _ from rv)
          refine call_meetsIn PySem.F.slot_dict_get (kd_type D1 I) PySem.F.entry_dict_get (PySem.F.args_dict_get_3 _ _ _) (meets_dict_get_default (PySem.strKind X.prog X.w) _ (PySem.strKind_is X.prog X.w k t) D1.low y) ⟨_, PySem.W.mapOf_K (prog := X.prog) I.kIn D1.at_ D1.lit, ?_⟩
          cases g : dget (kdPairs ks ds) (.str k) with
          | some d =>
            rw [g] at hf
            obtain ⟨u0, v0, e1, e2, e3⟩ := kd_some D1 E1 R1 g
            rw [PySem.W.find_K D1.at_ e1]
            exact ⟨v0, H, I.tok _, e2, hb.here hs hf e3⟩
          | none =>
            rw [g] at hf
            rw [PySem.W.find_K D1.at_ (kd_none D1 E1 R1 g)]
            exact ⟨_, H, I.tok _, ry2, hb.here hs hf r2⟩
  · split at hf
    · rename_i e
      obtain ⟨a, st, rfl, eS⟩ := key e
      obtain ⟨hk, hf⟩ := hf
      cases rxs with
      | cons r r' =>
        cases r'
        rcases okK_key hk with ⟨k, rfl, hk2⟩ | ⟨ds, rfl, k1, k2, hk2⟩
        · obtain ⟨kv, h1, h2⟩ := hs.dic eS hk2
          have ek := keyD_rep r
          subst ek
          exact mt_getD pins s σ H _ _ vv us Q I rv rvs ⟨a, st, kv, k, rfl, h1, .inl ⟨rfl, hb.here hs hf (h2.getD k .non)⟩⟩
        · obtain ⟨ys, h1, h2⟩ := hs.dicT eS hk2
          obtain ⟨_, hz, hm, dd⟩ := pinT_ok I h1 h2
          obtain ⟨u, rfl, ry⟩ := Vals.one rvs
          cases r with
          | tup hq rs =>
            have kk := tkey_of I k1 k2 (.tup hq rs)
            cases (show vv = Value.ref _ from rv)
            cases (show u = Value.ref _ from ry)
            refine call_meetsIn PySem.F.slot_dict_get dd.typeIs PySem.F.entry_dict_get (PySem.F.args_dict_get_2 _ _) (meetsH_dict_get (nestedKind X.prog X.w) a _ hm) ⟨room_in1 hu, _, ys, kk, dd, ?_⟩
            cases e1 : dget _ (D.tup ds) with
            | none =>
              rw [h2.none k1 e1]
              rw [e1] at hf
              exact ⟨.non, H, I.tok _, rfl, hb.here hs hf .non⟩
            | some d =>
              obtain ⟨b, w, z, g1, g2, g3⟩ := h2.get k1 d e1
              rw [g1]
              rw [e1] at hf
              exact ⟨z, H, I.tok _, g2, hb.here hs hf g3⟩
    · exact hf.elim
  · split at hf
    · rename_i e
      obtain ⟨a, st, rfl, eS⟩ := key e
      obtain ⟨hk, hf⟩ := hf
      cases rxs with
      | cons r r' =>
        cases r' with
        | cons r2 r3 =>
          cases r3
          rcases okK_key hk with ⟨k, rfl, hk2⟩ | ⟨ds, rfl, k1, k2, hk2⟩
          · obtain ⟨kv, h1, h2⟩ := hs.dic eS hk2
            have ek := keyD_rep r
            subst ek
            exact mt_getD pins s σ H _ _ vv us Q I rv rvs ⟨a, st, kv, k, rfl, h1, .inr ⟨_, rfl, hb.here hs hf (h2.getD k r2)⟩⟩
          · obtain ⟨ys, h1, h2⟩ := hs.dicT eS hk2
            obtain ⟨_, hz, hm, dd⟩ := pinT_ok I h1 h2
            obtain ⟨u, y, rfl, ry, ry2⟩ := Vals.two rvs
            cases r with
            | tup hq rs =>
              have kk := tkey_of I k1 k2 (.tup hq rs)
              cases (show vv = Value.ref _ from rv)
              cases (show u = Value.ref _ from ry)
              refine call_meetsIn PySem.F.slot_dict_get dd.typeIs PySem.F.entry_dict_get (PySem.F.args_dict_get_3 _ _ _) (meetsH_dict_get_default (nestedKind X.prog X.w) a _ hm y) ⟨room_in1 hu, _, ys, kk, dd, ?_⟩
              cases e1 : dget _ (D.tup ds) with
              | none =>
                rw [h2.none k1 e1]
                rw [e1] at hf
                exact ⟨_, H, I.tok _, ry2, hb.here hs hf r2⟩
              | some d =>
                obtain ⟨b, w, z, g1, g2, g3⟩ := h2.get k1 d e1
                rw [g1]
                rw [e1] at hf
                exact ⟨z, H, I.tok _, g2, hb.here hs hf g3⟩
    · exact hf.elim

/-! ### slices -/
def Lsl (K : Kx) : V → Option Int → Option Int → Hp → VK → Prop := fun v lo hi H Q => ∃ x S Q0, Rep K H x v ∧ SR K S H ∧ sSlc x lo hi S Q0 ∧ Bear K S H Q0 Q
theorem cut_whole {α : Type} {xs : List α} {lo hi : Option Int} (h : HT.sIx xs.length 0 lo = 0 ∧ HT.sIx xs.length xs.length hi = xs.length) : cut xs lo hi = xs := by
  unfold cut
  rw [h.1, h.2, List.drop_zero, Nat.sub_zero, List.take_length]
theorem sl_L : SlR X (Lsl X.x) := by
  intro pins s σ H v vv vl vu lo hi sl Q I rv hsl pl pu h
  obtain ⟨x, S, Q0, rx, hs, hf, hb⟩ := h
  unfold sSlc at hf
  split at hf
  · cases rx
    exact sl_str pins s σ H _ vv vl vu _ _ sl Q I rv hsl pl pu ⟨_, rfl, hf.1, hb.here hs hf.2 (.str _)⟩
  · cases rx with
    | tup h r =>
      refine sl_tupA pins s σ H _ vv vl vu _ _ sl Q I rv hsl pl pu ⟨_, _, rfl, h, fun hw => ?_, fun _ => hb.tup hs hf (r.cutD _ _)⟩
      rw [← r.length] at hw
      rw [cut_whole hw] at hf
      exact hb.here hs hf (.tup h r)
  · cases rx with
    | rol h r => exact sl_list pins s σ H _ vv vl vu _ _ sl Q I rv hsl pl pu ⟨_, _, rfl, h.l, hb.lst hs hf (r.cutD _ _)⟩
  · cases rx
    split at hf
    · rename_i e
      obtain ⟨ws, h1, r1⟩ := hs.lst e
      exact sl_list pins s σ H _ vv vl vu _ _ sl Q I rv hsl pl pu ⟨_, _, rfl, .inl (.inl h1), hb.lst hs hf (r1.cutD _ _)⟩
    · exact hf.elim
  · exact hf.elim

/-! ### truth -/
theorem nilB {K : Kx} {H : Hp} {xs : List D} {vs : List V} (r : Reps K H xs vs) : xs.isEmpty = vs.isEmpty := by cases r <;> rfl
theorem tru_L {S : Store} {H : Hp} {x : D} {v : V} {b : Bool} (r : Rep X.x H x v) (hs : SR X.x S H) (h : truth S x = some b) : TruV X.K v H b := by
  cases r with
  | non => cases h; rfl
  | bl c => cases h; rfl
  | int i => cases h; rfl
  | str z =>
    have h : (if z.length ≤ sizeLine then some ((z.length : Int) != 0) else none) = some b := h
    split at h
    · rename_i hz
      cases h
      exact ⟨hz, rfl⟩
    · cases h
  | tup hq rs => cases h; exact .inr (.inl ⟨_, hq, by rw [nilB rs]⟩)
  | rol hq rs => cases h; exact .inl ⟨_, hq.l, by rw [nilB rs]⟩
  | kdc _ _ _ => cases h
  | obj a =>
    unfold truth at h
    simp only at h
    split at h
    · rename_i e
      cases h
      obtain ⟨ws, h1, r1⟩ := hs.lst e
      exact .inl ⟨_, .inl (.inl h1), by rw [nilB r1]⟩
    · cases h
theorem truthy_L {pins : List (Addr × Obj)} {s : Shared} {σ : L2.St} {S : Store} {H : Hp} {x : D} {v : V} {u : Value} {b : Bool} {Q : Bool → Hp → Prop} (I : Inv X pins σ H s) (ru : RelV v u) (r : Rep X.x H x v) (hs : SR X.x S H) (h : truth S x = some b) (q : Q b H) :
    wpAny (model X.prog X.w) X.A (truthy u) (TP X pins σ Q) X.xe s := tru_ok pins s σ H v u Q I ru ⟨b, tru_L r hs h, q⟩
end
end Mn

/-! SetN5: sorted(set(xs)) of tuples. -/
namespace Mn
open PySem PySem.Spec PyProof.Rows L2 PySem.W
/-- a row that is another one's image, turned about -/
theorem perm_lift {α β : Type} {g : α → β} : ∀ {vs : List β} {M : List α}, vs.Perm (M.map g) → ∃ L : List α, vs = L.map g ∧ L.Perm M
  | [], M, h => by
    have := h.length_eq
    rw [List.length_nil, List.length_map] at this
    cases M with
    | nil => exact ⟨[], rfl, .refl _⟩
    | cons _ _ => cases this
  | v :: vs, M, h => by
    obtain ⟨p, hp, rfl⟩ := List.mem_map.mp (h.mem_iff.mp List.mem_cons_self)
    obtain ⟨A, B, rfl⟩ := List.append_of_mem hp
    have pm : (A ++ p :: B).Perm (p :: (A ++ B)) := List.perm_middle
    have h2 : vs.Perm ((A ++ B).map g) := by
      have := h.trans (pm.map g)
      rw [List.map_cons] at this
      exact this.cons_inv
    obtain ⟨L, e, hL⟩ := perm_lift h2
    exact ⟨p :: L, by rw [List.map_cons, ← e], (hL.cons p).trans pm.symm⟩
abbrev nk (p : Addr × D) : Addr × NestedKey := (p.1, nkey p.2)
section
variable {X : Cx}
theorem each_refs : ∀ (L : List (Addr × D)), EachIs (fun (v : Value) (b : Addr × D) => v = Value.ref b.1) (L.map fun p => Value.ref p.1) L
  | [] => .nil
  | p :: L => .cons rfl (each_refs L)
theorem each_eq : ∀ {out : List Value} {L : List (Addr × D)}, EachIs (fun (v : Value) (b : Addr × D) => v = Value.ref b.1) out L → out = L.map fun p => Value.ref p.1
  | _, _, .nil => rfl
  | _, _, .cons h t => by rw [h, each_eq t]; rfl
theorem vals_refs' : ∀ (L : List (Addr × D)), Vals (L.map fun p => V.ref p.1) (L.map fun p => Value.ref p.1)
  | [] => .nil
  | p :: L => .cons rfl (vals_refs' L)
theorem py_reps : ∀ {ds : List D} {ps : List PyData}, py0s ds = some ps → ps = ds.map pyD
  | [], ps, h => by cases h; rfl
  | d :: ds, ps, h => by
    rw [py0s] at h
    split at h <;> cases h
    rename_i p qs e1 e2
    rw [List.map_cons, ← py_reps e2]
    unfold pyD
    rw [e1]
    rfl
theorem py_mem : ∀ {ds : List D} {ps : List PyData}, py0s ds = some ps → ∀ d ∈ ds, py0 d = some (pyD d)
  | [], ps, h, d, hd => by cases hd
  | e :: ds, ps, h, d, hd => by
    rw [py0s] at h
    split at h <;> cases h
    rename_i p qs e1 e2
    rcases List.mem_cons.mp hd with rfl | hd
    · unfold pyD; rw [e1]; rfl
    · exact py_mem e2 d hd
set_option maxHeartbeats 4000000 in
/-- sorted(s), tuples -/
theorem cr_sortedN (hc : X.calm = true) (hu : X.A.units + 70 < cLine) : CallR X (.builtin "sorted") (fun vs H Q => ∃ (a : Addr) (M : List (Addr × D)), vs = [V.ref a] ∧ H a = some (SnO X.prog X.w a (M.map nk)) ∧ (∀ p ∈ M, Rep X.x H p.2 (.ref p.1)) ∧ (∀ p ∈ M, py0 p.2 = some (pyD p.2)) ∧
    (∀ p ∈ M, (pyD p.2).depth ≤ 60) ∧ AllAlike (M.map fun p => pyD p.2) ∧ Sortable (M.map fun p => pyD p.2) ∧
    ∀ (L : List (Addr × D)) (p : Addr), L.Perm M → L.Pairwise (fun q r => leP q.2 r.2 = true) → H p = none → Q (.ref p) (L2.upd H p (.lst (L.map fun q => V.ref q.1)))) := by
  intro pins s σ H vs us Q I r h
  obtain ⟨a, M, rfl, ha, hrep, hpy, hdep, hal, hsr, q⟩ := h
  rw [Vals.ref1 r]
  obtain ⟨en, ep, tb, ⟨o, ho, hx, hd⟩, hr, T, nd, led, room, few⟩ := (I.hok a _ ha).1
  have sz := rows_size hr
  have fits : tb.fits en.size = true := by
    unfold SetTable.fits SetTable.fill
    have h1 := T.sz
    rw [List.length_map] at h1
    rw [T.dm, Bool.and_eq_true, beq_iff_eq, decide_eq_true_eq]
    exact ⟨by rw [h1, sz], by show tb.place.size + 0 ≤ tb.mask; omega⟩
  rw [List.length_map] at few
  refine Calls.call_function_entry kind_sorted plain_sorted entry_sorted (args_sorted1 _) ?_
  unfold Builtin.«sorted»
  refine wpAny_bind (m := checkCount "sorted" 1 1 _) (wpAny_pure ?_)
  refine wpAny_bind (collect_set (A := X.A.in1) (I.ok.hd hc) ⟨o, ho, hx.1, hd⟩ fits (by unfold scanBound; rw [sz, List.length_map]; omega) T.ris led fun s1 vs k1 hz g1 o1 pm => ?_)
  have hes : en.toList.map (·.2) = M.map fun p => Value.ref p.1 := by
    rw [hr, List.map_map, List.map_map]
    rfl
  rw [hes] at pm
  obtain ⟨L0, rfl, pL⟩ := perm_lift pm
  have l0 : L0.length < 64 := by rw [pL.length_eq]; exact few
  refine wpAny_bind (wpAny_newList ?_ (by rw [List.length_map, sizeLine_eq]; omega))
  have hoL : (s1.heap.push (seqObj "list" (L0.map fun p => Value.ref p.1).toArray 0)).get? s1.heap.objs.size = some (seqObj "list" (L0.map fun p => Value.ref p.1).toArray 0) := Heap.get?_push_size _ rfl
  have er : EachIs (fun (v : Value) (b : Addr × D) => ∃ as, Reads (sortingHeap (s1.heap.push (seqObj "list" (L0.map fun p => Value.ref p.1).toArray 0)) s1.heap.objs.size (L0.map fun p => Value.ref p.1)) v (pyD b.2) as) (L0.map fun p => Value.ref p.1) L0 := by
    have key : ∀ L : List (Addr × D), (∀ p ∈ L, p ∈ M) → EachIs (fun (v : Value) (b : Addr × D) => ∃ as, Reads (sortingHeap (s1.heap.push (seqObj "list" (L0.map fun p => Value.ref p.1).toArray 0)) s1.heap.objs.size (L0.map fun p => Value.ref p.1)) v (pyD b.2) as) (L.map fun p => Value.ref p.1) L := by
      intro L
      induction L with
      | nil => intro _; exact .nil
      | cons p L ih =>
        intro hp
        refine .cons ?_ (ih fun q hq => hp q (List.mem_cons_of_mem _ hq))
        have pM := hp p List.mem_cons_self
        obtain ⟨as, rd⟩ := Dp.reads I _ _ (Value.ref p.1) (dp_of _ _ _ (hrep p pM) (hpy p pM)) rfl
        refine ⟨as, PyProof.Rows.Reads.keeps (fun b u e => ?_) rd⟩
        have e1 := k1 b u e
        have hlt := Heap.lt_size e1
        exact sortingHeap_old (Nat.ne_of_lt hlt) (Heap.get?_push_of_some _ e1)
    exact key L0 fun p hp => pL.mem_iff.mp hp
  have hal0 : AllAlike (L0.map fun p => pyD p.2) := fun d hd d' hd' => hal d ((pL.map _).mem_iff.mp hd) d' ((pL.map _).mem_iff.mp hd')
  have hsr0 : Sortable (L0.map fun p => pyD p.2) := by
    rcases hsr with h | h
    · exact .inl fun d hd => h d ((pL.map _).mem_iff.mp hd)
    · exact .inr fun d hd => h d ((pL.map _).mem_iff.mp hd)
  have hu0 : ∀ b : Addr × D, b ∈ L0 → X.A.in1.units + 1 + (pyD b.2).depth < cLine := fun b hb => by
    have := hdep b (pL.mem_iff.mp hb)
    show X.A.units + 1 + 1 + _ < cLine
    omega
  refine wpAny_bind (wpAny_holding (wpAny_call_entry slot_list_sort ⟨_, hoL, rfl⟩ entry_list_sort
    (list_sort_vals (κ := dataKind (sortingHeap (s1.heap.push (seqObj "list" (L0.map fun p => Value.ref p.1).toArray 0)) s1.heap.objs.size (L0.map fun p => Value.ref p.1)) (L0.map fun p => pyD p.2)) hoL
      (SortsAt.data (s := { s1 with heap := sortingHeap (s1.heap.push (seqObj "list" (L0.map fun p => Value.ref p.1).toArray 0)) s1.heap.objs.size (L0.map fun p => Value.ref p.1) }) (each_map (R := fun v d => ∃ as, Reads _ v d as) (fun p : Addr × D => pyD p.2) er) hal0 hsr0 (bound_map hu0)) (by rw [List.length_map, sizeLine_eq]; omega) ⟨.none, rfl, ?_⟩) (args_list_sort _)))
  have es := sortVals_data false (each_refs L0) er hal0
  generalize sortVals _ false _ _ = out at es ⊢
  have e1 := each_eq es
  subst e1
  have pm2 : (L0.mergeSort (dataLe false fun p : Addr × D => pyD p.2)).Perm L0 := List.mergeSort_perm ..
  have tot := sortLe_total (listOrd itemOrd) false fun p : Addr × D => keyToks (pyD p.2)
  have pw : (L0.mergeSort (dataLe false fun p : Addr × D => pyD p.2)).Pairwise fun q r => leP q.2 r.2 = true := by
    have := List.pairwise_mergeSort (le := dataLe false fun p : Addr × D => pyD p.2) (fun a b c h1 h2 => tot.trans a b c h1 h2) (fun a b => by rw [Bool.or_eq_true]; exact tot.total a b) L0
    exact this.imp fun h => h
  generalize L0.mergeSort (dataLe false fun p : Addr × D => pyD p.2) = L1 at *
  obtain ⟨c, hcL⟩ := sortedHeap_at (vs := L0.map fun p => Value.ref p.1) (out := (L1.map fun p => Value.ref p.1).toArray) hoL
  have hp : s.heap.objs.size ≤ s1.heap.objs.size := hz
  have hn : H s1.heap.objs.size = none := I.hok.fresh hp
  have keep : ∀ b u, s.heap.get? b = some u → (sortedHeap (s1.heap.push (seqObj "list" (L0.map fun p => Value.ref p.1).toArray 0)) s1.heap.objs.size (L0.map fun p => Value.ref p.1) (L1.map fun p => Value.ref p.1).toArray).get? b = some u := fun b u e => by
    have e1 := k1 b u e
    have hlt := Heap.lt_size e1
    rw [sortedHeap_old (Nat.ne_of_lt hlt) (by rw [size_push']; exact Nat.lt_succ_of_lt hlt)]
    exact Heap.get?_push_of_some _ e1
  refine wpAny_pure ⟨_, rfl, ?_⟩
  have hlen : (L1.map fun q => V.ref q.1).length ≤ sizeLine := by rw [List.length_map, pm2.length_eq, sizeLine_eq]; omega
  have J : L2.Inv X pins σ (L2.upd H s1.heap.objs.size (.lst (L1.map fun q => V.ref q.1))) { s with heap := sortedHeap (s1.heap.push (seqObj "list" (L0.map fun p => Value.ref p.1).toArray 0)) s1.heap.objs.size (L0.map fun p => Value.ref p.1) (L1.map fun p => Value.ref p.1).toArray, gens := s1.gens, drawn := s1.drawn, toks := s1.toks } :=
    I.call (ch := []) (Un.laid keep hp hn) (I.hok.laid keep hp ⟨hlen, _, c, vals_refs' L1, hcL⟩) (by rw [g1]; exact I.bare) (fun _ z => nomatch z)
  obtain ⟨h1, g2, d2, t2, o2⟩ := s1
  cases o1
  exact ⟨.ref _, _, J, rfl, q L1 _ (pm2.trans pL) pw hn⟩
end
end Mn

/-! Sim4: expressions, part by part. -/
namespace Mn
open PySem PySem.Spec PyProof.Rows L2

/-- what is known of the text around -/
structure SC where
  N : List Str
  names : List (Str × NameKind)
  /-- names that may be stored -/
  raw : List (Str × NameKind)
  fns : List (Str × Nat)
  cs : List (Str × D)
def visB (names : List (Str × NameKind)) (x : Str) : Bool := match names.lookup x with
  | some .local => true
  | some .cell => true
  | some .free => true
  | _ => false
def locB (names : List (Str × NameKind)) (x : Str) : Bool := match names.lookup x with
  | some .local => true
  | some .cell => true
  | _ => false
def gliB (names : List (Str × NameKind)) (x : Str) : Bool := match names.lookup x with
  | some .globalImplicit => true
  | _ => false
def odd (x : Str) : Bool := (x == ("__debug__" : Str)) || (x == ("__classdict__" : Str)) || (x == ("__name__" : Str))
def blkN (scope : Scope) (names : List (Str × NameKind)) : List (Str × NameKind) :=
  scope.names.map fun (n, k) => if (k == NameKind.free && true && names.lookup n == some .cell) = true then (n, NameKind.cell) else (n, k)

/-- the built-ins that are used -/
def bnames : List Str := ["len", "abs", "list", "tuple", "range", "sorted", "all", "any", "min", "max", "str", "int", "dict", "sum", "enumerate", "zip", "isinstance", "set", "bool"]

/-- an exception: its class, its attributes -/
def isX (K : Kx) (H : Hp) (cls : Value) (d : Option Addr) (cn : Str) (fs : List (Str × D)) : Prop :=
  cls = .ref (He.ga K.K cn) ∧ ((d = none ∧ fs = []) ∨ ∃ (dx : Addr) (fv : List (Str × V)), d = some dx ∧ H dx = some (.xd fv) ∧ fv.map (·.1) = fs.map (·.1) ∧ Reps K H (fs.map (·.2)) (fv.map (·.2)))
def LW (K : Kx) (A : Anc) (ex : EX) : WX := fun cls d σ H => ∃ env S cn fs, ER K H env σ ∧ SR K S H ∧ Fm A.1 A.2 S H ∧ isX K H cls d cn fs ∧ ex cn fs env S
/-- a def's promise -/
def LSp (K : Kx) (np : Nat) (w : List D → Store → KD → XP → Prop) : Sp := fun vs H Q E => vs.length = np ∧
  ∃ ds S Q0 R0, Reps K H ds vs ∧ SR K S H ∧ w ds S Q0 R0 ∧ Bear K S H Q0 Q ∧ ∀ cn fs S' cls d H', R0 cn fs S' → Fm S H S' H' → SR K S' H' → isX K H' cls d cn fs → E cls d H'

structure Cok (n : Nat) (T : Nat → Option FD) (c : SC) (X : Cx) (A : Anc) (ex : EX) : Prop where
  calm : X.calm = true
  nN : X.N = c.N
  nd : X.N.Nodup
  sn : X.env.scope.names = c.names
  sk : X.env.scope.kind = .function
  as : ∀ x, locB c.raw x = true → Loc X.env.scope x ∧ (X.fn x = true ∨ X.env.scope.names.lookup x = some .local)
  room : Room n X.A
  bl : ∀ x, x ∈ bnames → X.mg x = none
  fn : ∀ x f, (x, f) ∈ c.fns → ∃ fa fdd ps np, X.mg x = some (.ref fa) ∧ PySem.W.keepIn X.K (.ref fa) = true ∧ Binds X.K fdd ps [] ∧ (∀ fd, T f = some fd → fd.np = np) ∧
    FnOk X.prog X.w X.K X.mg X.base (L2.CX X.prog X.w) n fa fdd ps (LSp X.x np (callN T n f))
  con : ∀ x d, (x, d) ∈ c.cs → ∃ v u, X.mg x = some u ∧ RelV v u ∧ ∀ H, Rep X.x H d v
  tk : Takes X (LW X.x A ex)
  hp : PassesOwn (model X.prog X.w) X.A X.env X.xe

/-! ### arguments -/
def starB : Expr → Bool
  | .Starred _ _ => true
  | _ => false
theorem star_cons {e : Expr} {es : List Expr} {env : PySem.Env} (h : starB e = false) : starEach (e :: es) env = (false, eval e env) :: starEach es env := by
  cases e <;> first | rfl | cases h
theorem star_none {env : PySem.Env} {pos : Pos} : ∀ {es : List Expr}, (∀ e ∈ es, starB e = false) → (backTo pos (starEach es env)).any (·.1) = false
  | [], _ => rfl
  | e :: es, h => by
    rw [star_cons (h e List.mem_cons_self)]
    show (false || (backTo pos (starEach es env)).any (·.1)) = false
    rw [star_none (fun x hx => h x (List.mem_cons_of_mem _ hx))]
    rfl

section
variable {n : Nat} {T : Nat → Option FD} {c : SC} {X : Cx} {A : Anc} {ex : EX} {pos : Pos} {a b e : Expr} {es : List Expr} {wa wb wc : Env → Store → KD → Prop} {ws : Env → Store → (List D → Store → Prop) → Prop}

theorem s_var (k : Cok n T c X A ex) {i : Nat} {x : Str} (h1 : c.N[i]? = some x) (h2 : visB c.names x = true) (h3 : odd x = false) :
    PE X (.Name x pos) (LE X.x A fun env S Q => ∃ d, env[i]? = some (some d) ∧ Q d S) := by
  have hv : Vis X.env.scope x := by
    unfold visB at h2
    unfold Vis
    rw [k.sn]
    split at h2 <;> simp_all
  unfold odd at h3
  simp only [Bool.or_eq_false_iff] at h3
  refine pe_of (pe_var (by rw [k.nN]; exact h1) hv h3.1.1 h3.1.2) fun σ H Q ⟨env, S, Q0, he, hs, hf, ⟨d, e, hq⟩, hb⟩ => ?_
  obtain ⟨v, e2, r⟩ := he.2 i d e
  exact ⟨v, e2, hb.here hs hq r⟩
theorem s_cst {d : D} {v : V} {t : TE} (h : PE X e t) (ht : ∀ σ H Q, Q v H → t σ H Q) (r : ∀ H, Rep X.x H d v) : PE X e (LE X.x A fun _ S Q => Q d S) :=
  pe_of h fun σ H Q ⟨env, S, Q0, he, hs, hf, hq, hb⟩ => ht σ H Q (hb.here hs hq (r H))
theorem kind_gl (k : Cok n T c X A ex) {x : Str} (h : gliB c.names x = true) : Gl X x := by
  show X.env.scope.names.lookup x = some .globalImplicit
  rw [k.sn]
  unfold gliB at h
  split at h <;> simp_all
theorem s_glb (k : Cok n T c X A ex) {x : Str} {d : D} (h1 : (x, d) ∈ c.cs) (h2 : gliB c.names x = true) (h3 : odd x = false) : PE X (.Name x pos) (LE X.x A fun _ S Q => Q d S) := by
  obtain ⟨v, u, hm, r, hr⟩ := k.con x d h1
  unfold odd at h3
  simp only [Bool.or_eq_false_iff] at h3
  exact s_cst (pe_glob (kind_gl k h2) hm r h3.1.1) (fun _ _ _ q => q) hr
theorem s_nil : PA X [] (LA X.x A fun _ S Q => Q [] S) :=
  pa_of pa_nil fun σ H Q ⟨env, S, Q0, he, hs, hf, hq, hb⟩ => hb [] S [] H hq .refl hs .nil
theorem s_cons (hst : starB e = false) (he : PE X e (LE X.x A wa)) (hes : PA X es (LA X.x A ws)) :
    PA X (e :: es) (LA X.x A fun env S Q => wa env S fun d S1 => ws env S1 fun ds S2 => Q (d :: ds) S2) := by
  refine pa_of (pa_cons he hes (star_cons hst)) fun σ H Q ⟨env, S, Q0, h1, hs, hf, hw, hb⟩ => ?_
  refine ⟨env, S, _, h1, hs, hf, hw, fun d S1 v H1 q1 f1 s1 r1 => ?_⟩
  refine ⟨env, S1, _, h1.stay (f1.stay hs), s1, hf.trans f1, q1, fun ds S2 vs H2 q2 f2 s2 r2 => ?_⟩
  exact hb (d :: ds) S2 (v :: vs) H2 q2 (f1.trans f2) s2 (.cons (r1.stay (f2.stay s1)) r2)
theorem s_tup {x1 : Nat} (h : PA X es (LA X.x A ws)) : PE X (.Tuple es x1 pos) (LE X.x A fun env S Q => ws env S fun ds S1 => ds.length ≤ sizeLine ∧ Q (.tup ds) S1) := by
  refine pe_of (pe_tup h) fun σ H Q ⟨env, S, Q0, h1, hs, hf, hw, hb⟩ => ?_
  refine ⟨env, S, _, h1, hs, hf, hw, fun ds S1 vs H1 ⟨q1, q2⟩ f1 s1 r1 => ⟨by rw [← r1.length]; exact q1, (hb.at f1).tup s1 q2 r1⟩⟩
theorem s_lst (h : PA X es (LA X.x A ws)) : PE X (.List es pos) (LE X.x A fun env S Q => ws env S fun ds S1 => ds.length ≤ sizeLine ∧ newL ds S1 Q) := by
  refine pe_of (pe_lst h) fun σ H Q ⟨env, S, Q0, h1, hs, hf, hw, hb⟩ => ?_
  refine ⟨env, S, _, h1, hs, hf, hw, fun ds S1 vs H1 ⟨q1, q2⟩ f1 s1 r1 => ⟨by rw [← r1.length]; exact q1, (hb.at f1).lst s1 q2 r1⟩⟩

/-! ### operators -/
def binOp : O2 → Operator → Bool
  | .add, .Add => true
  | .sub, .Sub => true
  | .mul, .Mult => true
  | .fdiv, .FloorDiv => true
  | .mod, .Mod => true
  | .pow, .Pow => true
  | _, _ => false
def cmpOp : O2 → CmpOp → Bool
  | .eq, .Eq => true
  | .ne, .NotEq => true
  | .lt, .Lt => true
  | .le, .LtE => true
  | .gt, .Gt => true
  | .ge, .GtE => true
  | .isin, .In => true
  | .notin, .NotIn => true
  | .is, .Is => true
  | .isnt, .IsNot => true
  | _, _ => false
theorem r_bin {o : O2} {op : Operator} (h : binOp o op = true) : OpR X (binaryOp op) (L22 X.x (s2 o)) := by
  cases o <;> cases op <;> first | cases h | skip
  · exact op_addL
  · exact op_subL
  · exact op_mulL
  · exact op_fdivL
  · exact op_modL
  · exact op_powL
theorem units65 {k : Nat} {A : Around} (r : Room k A) : A.units + 65 < cLine := by
  have := r.un
  omega
theorem op_isL : OpR X (compareOp .Is) (L22 X.x (s2 .is)) := by
  intro pins s σ H v u vv uu Q I rv ru h
  obtain ⟨x, y, S, Q0, rx, ry, hs, hf, hb⟩ := h
  unfold s2 at hf
  split at hf <;> first | exact hf.elim | (rename_i q; cases q; done) | (rename_i q _; cases q; done) | skip
  cases rx
  cases ry
  exact op_isBl pins s σ H _ _ vv uu Q I rv ru ⟨_, _, rfl, rfl, hb.here hs hf (.bl _)⟩
theorem op_isntL : OpR X (compareOp .IsNot) (L22 X.x (s2 .isnt)) := by
  intro pins s σ H v u vv uu Q I rv ru h
  obtain ⟨x, y, S, Q0, rx, ry, hs, hf, hb⟩ := h
  unfold s2 at hf
  split at hf <;> first | exact hf.elim | (rename_i q; cases q; done) | (rename_i q _; cases q; done) | skip
  cases rx
  cases ry
  exact op_notBl pins s σ H _ _ vv uu Q I rv ru ⟨_, _, rfl, rfl, hb.here hs hf (.bl _)⟩
theorem units70 {k : Nat} {A : Around} (r : Room k A) : A.units + 70 < cLine := by
  have := r.un
  omega
theorem r_cmp (hu : X.A.units + 65 < cLine) {o : O2} {op : CmpOp} (h : cmpOp o op = true) : OpR X (compareOp op) (L22 X.x (s2 o)) := by
  cases o <;> cases op <;> first | cases h | skip
  · exact op_eqL (by omega)
  · exact op_neL (by omega)
  · exact op_ltL
  · exact op_leL
  · exact op_gtL
  · exact op_geL
  · exact op_inL hu false
  · exact op_inL hu true
  · exact op_isL
  · exact op_isntL
theorem s_bin {o : O2} {op : Operator} (h : binOp o op = true) (ha : PE X a (LE X.x A wa)) (hb : PE X b (LE X.x A wb)) :
    PE X (.BinOp a op b pos) (LE X.x A fun env S Q => wa env S fun x S1 => wb env S1 fun y S2 => s2 o x y S2 Q) := pe_of (pe_op (r_bin h) ha hb) fun _ _ _ q => tOp_L q
theorem s_cmp (k : Cok n T c X A ex) {o : O2} {op : CmpOp} (h : cmpOp o op = true) (hm : behindInMarks op b = false) (ha : PE X a (LE X.x A wa)) (hb : PE X b (LE X.x A wb)) :
    PE X (.Compare a [op] [b] pos) (LE X.x A fun env S Q => wa env S fun x S1 => wb env S1 fun y S2 => s2 o x y S2 Q) := pe_of (pe_cmpR (r_cmp (units65 k.room) h) ha hb hm) fun _ _ _ q => tOp_L q
def slcB : Expr → Bool
  | .Slice _ _ _ _ => true
  | _ => false
theorem plain_ix (h : slcB b = false) : PlainIx b := by
  intro o i
  cases b <;> first | rfl | cases h
theorem s_idx (hu : X.A.units + 64 < cLine) (h : slcB b = false) (ha : PE X a (LE X.x A wa)) (hb : PE X b (LE X.x A wb)) :
    PE X (.Subscript a b pos) (LE X.x A fun env S Q => wa env S fun x S1 => wb env S1 fun y S2 => s2 .idx x y S2 Q) := pe_of (pe_ix (ix_L hu) ha hb (plain_ix h)) fun _ _ _ q => tOp_L q
theorem un_negL : UnR X (unaryOp .USub) (L1 X.x (s1 .neg)) := by
  intro pins s σ H v vv Q I rv h
  obtain ⟨x, S, Q0, rx, hs, hf, hb⟩ := h
  cases rx <;> first | exact False.elim hf | skip
  exact un_neg pins s σ H _ vv Q I rv ⟨_, rfl, hb.here hs hf (.int _)⟩
theorem s_neg (ha : PE X a (LE X.x A wa)) : PE X (.UnaryOp .USub a pos) (LE X.x A fun env S Q => wa env S fun x S1 => s1 .neg x S1 Q) := pe_of (pe_un un_negL ha) fun _ _ _ q => tUn_L q
theorem non_iff {H : Hp} {d : D} {v : V} (r : Rep X.x H d v) : decide (v = .non) = decide (d = .non) := by
  cases r <;> first | rfl | (rw [decide_eq_false (fun z => nomatch z), decide_eq_false (fun z => nomatch z)])
theorem s_isN {j : Nat} {p : Pos} (ha : PE X a (LE X.x A wa)) : PE X (.Compare a [.Is] [.Constant .none j p] pos) (LE X.x A fun env S Q => wa env S fun x S1 => s1 .isN x S1 Q) := by
  refine pe_of (pe_cmp (pc_isN ha)) fun σ H Q ⟨env, S, Q0, h1, hs, hf, hw, hb⟩ => ?_
  refine ⟨env, S, _, h1, hs, hf, hw, fun d S1 v H1 q f1 s1 r => ?_⟩
  show Q (.bl (decide (v = .non))) H1
  rw [non_iff r]
  exact (hb.at f1).here s1 q (.bl _)
theorem s_notN {j : Nat} {p : Pos} (ha : PE X a (LE X.x A wa)) : PE X (.Compare a [.IsNot] [.Constant .none j p] pos) (LE X.x A fun env S Q => wa env S fun x S1 => s1 .notN x S1 Q) := by
  refine pe_of (pe_cmp (pc_notN ha)) fun σ H Q ⟨env, S, Q0, h1, hs, hf, hw, hb⟩ => ?_
  refine ⟨env, S, _, h1, hs, hf, hw, fun d S1 v H1 q f1 s1 r => ?_⟩
  show Q (.bl (!decide (v = .non))) H1
  rw [non_iff r]
  exact (hb.at f1).here s1 q (.bl _)

/-! ### and, or, not, if -/
theorem s_not (ha : PE X a (LE X.x A wa)) : PE X (.UnaryOp .Not a pos) (LE X.x A fun env S Q => wa env S fun d S1 => ∃ b, truth S1 d = some b ∧ Q (.bl (!b)) S1) := by
  refine pe_of (pe_notT ha) fun σ H Q ⟨env, S, Q0, h1, hs, hf, hw, hb⟩ => ?_
  exact ⟨env, S, _, h1, hs, hf, hw, fun d S1 v H1 ⟨b, e, q⟩ f1 s1 r => ⟨b, tru_L r s1 e, (hb.at f1).here s1 q (.bl _)⟩⟩
theorem s_and {y : Expr} {rest : List Expr} (ha : PE X a (LE X.x A wa)) (hb : PE X (.BoolOp .And (y :: rest) pos) (LE X.x A wb)) :
    PE X (.BoolOp .And (a :: y :: rest) pos) (LE X.x A fun env S Q => wa env S fun x S1 => ∃ t, truth S1 x = some t ∧ if t = true then wb env S1 Q else Q x S1) := by
  refine pe_of (pe_andT ha hb) fun σ H Q ⟨env, S, Q0, h1, hs, hf, hw, hq⟩ => ?_
  refine ⟨env, S, _, h1, hs, hf, hw, fun d S1 v H1 ⟨t, e, q⟩ f1 s1 r => ⟨t, tru_L r s1 e, ?_⟩⟩
  cases t with
  | true => exact ⟨env, S1, Q0, h1.stay (f1.stay hs), s1, hf.trans f1, q, hq.at f1⟩
  | false => exact (hq.at f1).here s1 q r
theorem s_or {y : Expr} {rest : List Expr} (ha : PE X a (LE X.x A wa)) (hb : PE X (.BoolOp .Or (y :: rest) pos) (LE X.x A wb)) :
    PE X (.BoolOp .Or (a :: y :: rest) pos) (LE X.x A fun env S Q => wa env S fun x S1 => ∃ t, truth S1 x = some t ∧ if t = true then Q x S1 else wb env S1 Q) := by
  refine pe_of (pe_orT ha hb) fun σ H Q ⟨env, S, Q0, h1, hs, hf, hw, hq⟩ => ?_
  refine ⟨env, S, _, h1, hs, hf, hw, fun d S1 v H1 ⟨t, e, q⟩ f1 s1 r => ⟨t, tru_L r s1 e, ?_⟩⟩
  cases t with
  | false => exact ⟨env, S1, Q0, h1.stay (f1.stay hs), s1, hf.trans f1, q, hq.at f1⟩
  | true => exact (hq.at f1).here s1 q r
/-- a value whose truth is wanted -/
def LV (K : Kx) (A : Anc) (w : Env → Store → KD → Prop) : TT := fun σ H Q =>
  ∃ env S Q0, ER K H env σ ∧ SR K S H ∧ Fm A.1 A.2 S H ∧ w env S Q0 ∧ ∀ d S' H', Q0 d S' → Fm S H S' H' → SR K S' H' → ∃ b, truth S' d = some b ∧ Q b H'
/-- a value's truth wanted -/
abbrev tst (w : Env → Store → KD → Prop) : Env → Store → (Bool → Store → Prop) → Prop := fun env S Q => w env S fun d S1 => ∃ b, truth S1 d = some b ∧ Q b S1
theorem LV_tst {σ : L2.St} {H : Hp} {Q : Bool → Hp → Prop} (h : LT X.x A (tst wa) σ H Q) : LV X.x A wa σ H Q := by
  obtain ⟨env, S, Q0, h1, hs, hf, hw, hq⟩ := h
  exact ⟨env, S, _, h1, hs, hf, hw, fun d S' H' ⟨b, e, q⟩ f s => ⟨b, e, hq b S' H' q f s⟩⟩
theorem s_ife {d : Expr} (hc : PT X d (LV X.x A wc)) (ha : PE X a (LE X.x A wa)) (hb : PE X b (LE X.x A wb)) :
    PE X (.IfExp d a b pos) (LE X.x A fun env S Q => wc env S fun x S1 => ∃ t, truth S1 x = some t ∧ if t = true then wa env S1 Q else wb env S1 Q) := by
  refine pe_of (pe_ifExp hc ha hb) fun σ H Q ⟨env, S, Q0, h1, hs, hf, hw, hq⟩ => ?_
  refine ⟨env, S, _, h1, hs, hf, hw, fun x S1 H1 ⟨t, e, q⟩ f1 s1 => ⟨t, e, ?_⟩⟩
  cases t with
  | true => exact ⟨env, S1, Q0, h1.stay (f1.stay hs), s1, hf.trans f1, q, hq.at f1⟩
  | false => exact ⟨env, S1, Q0, h1.stay (f1.stay hs), s1, hf.trans f1, q, hq.at f1⟩

/-! ### tests -/
theorem t_plain (ha : PE X a (LE X.x A wa)) (h : ∀ whole, isTrue a X.env whole = (do let v ← whole; standAt a.pos; holding [v] (truthy v))) : PT X a (LV X.x A wa) := by
  refine pt_of (pt_truth ha h) fun σ H Q ⟨env, S, Q0, h1, hs, hf, hw, hb⟩ => ?_
  refine ⟨env, S, _, h1, hs, hf, hw, fun d S1 v H1 q f1 s1 r => ?_⟩
  obtain ⟨b, e, q2⟩ := hb d S1 H1 q f1 s1
  exact ⟨b, tru_L r s1 e, q2⟩
theorem inL_bl {neg : Bool} {x : D} {xs : List D} {S : Store} {Q : KD} (w : inL neg x xs S Q) : inL neg x xs S fun d S1 => (∃ b, d = .bl b) ∧ Q d S1 := ⟨w.1, w.2.1, ⟨_, rfl⟩, w.2.2⟩
theorem inD_bl {neg : Bool} {x : D} {xs : List (D × D)} {S : Store} {Q : KD} (w : inD neg x xs S Q) : inD neg x xs S fun d S1 => (∃ b, d = .bl b) ∧ Q d S1 := ⟨w.1, ⟨_, rfl⟩, w.2⟩
theorem sIn_bl {neg : Bool} {x y : D} {S : Store} {Q : KD} (w : sIn neg x y S Q) : sIn neg x y S fun d S1 => (∃ b, d = .bl b) ∧ Q d S1 := by
  cases y with
  | tup xs => exact inL_bl (show inL neg x xs S Q from w)
  | rol xs => exact inL_bl (show inL neg x xs S Q from w)
  | kdc ks vs => cases x <;> first | exact ⟨⟨_, rfl⟩, w⟩ | exact w
  | obj a =>
    unfold sIn at w ⊢
    simp only at w ⊢
    cases e : S a with
    | none => rw [e] at w; exact w
    | some o =>
      rw [e] at w
      cases o with
      | lst xs =>
        rcases (show inA neg x xs S Q from w) with w | ⟨d, ds, a1, a2, a3, a4, w⟩
        · exact .inl (inL_bl w)
        · exact .inr ⟨d, ds, a1, a2, a3, a4, ⟨_, rfl⟩, w⟩
      | dic kvs st => exact inD_bl (show inD neg x kvs S Q from w)
      | ins c dx fs => exact w
  | str z =>
    unfold sIn at w ⊢
    simp only at w ⊢
    cases x with
    | str c =>
      simp only at w ⊢
      cases e : c.cps.toList with
      | nil => rw [e] at w; exact w
      | cons n r =>
        rw [e] at w
        cases r with
        | nil => exact ⟨⟨_, rfl⟩, w⟩
        | cons _ _ => exact w
    | _ => exact w
  | _ => exact w
theorem sOrd_bl {o : O2} {x y : D} {S : Store} {Q : KD} (w : sOrd o x y S Q) : sOrd o x y S fun d S1 => (∃ b, d = .bl b) ∧ Q d S1 := by
  cases x <;> cases y <;> first | exact ⟨⟨_, rfl⟩, w⟩ | exact w
theorem sEq_bl {neg : Bool} {x y : D} {S : Store} {Q : KD} (w : sEq neg x y S Q) : sEq neg x y S fun d S1 => (∃ b, d = .bl b) ∧ Q d S1 := by
  obtain ⟨d, e, h1, h2, h3, h4, h5⟩ := w
  exact ⟨d, e, h1, h2, h3, h4, ⟨_, rfl⟩, h5⟩
theorem s2_bl {o : O2} {op : CmpOp} (h : cmpOp o op = true) {x y : D} {S : Store} {Q : KD} (w : s2 o x y S Q) : s2 o x y S fun d S1 => (∃ b, d = .bl b) ∧ Q d S1 := by
  cases o <;> first | (cases op <;> cases h; done) | skip
  · exact sEq_bl (show sEq false x y S Q from w)
  · exact sEq_bl (show sEq true x y S Q from w)
  · exact sOrd_bl (show sOrd .lt x y S Q from w)
  · exact sOrd_bl (show sOrd .le x y S Q from w)
  · exact sOrd_bl (show sOrd .gt x y S Q from w)
  · exact sOrd_bl (show sOrd .ge x y S Q from w)
  · exact sIn_bl (show sIn false x y S Q from w)
  · exact sIn_bl (show sIn true x y S Q from w)
  · unfold s2 at w ⊢
    split at w <;> first | exact w.elim | (rename_i q; cases q; done) | (rename_i q _; cases q; done) | skip
    exact ⟨⟨_, rfl⟩, w⟩
  · unfold s2 at w ⊢
    split at w <;> first | exact w.elim | (rename_i q; cases q; done) | (rename_i q _; cases q; done) | skip
    exact ⟨⟨_, rfl⟩, w⟩
theorem t_cmp (k : Cok n T c X A ex) {o : O2} {op : CmpOp} (h : cmpOp o op = true) (hm : behindInMarks op b = false) (ha : PE X a (LE X.x A wa)) (hb : PE X b (LE X.x A wb)) :
    PT X (.Compare a [op] [b] pos) (LV X.x A fun env S Q => wa env S fun x S1 => wb env S1 fun y S2 => s2 o x y S2 Q) := by
  refine pt_of (pt_cmpR (r_cmp (units65 k.room) h) ha hb hm) fun σ H Q ⟨env, S, Q0, h1, hs, hf, hw, hq⟩ => ?_
  show tOp _ _ _ σ H _
  refine ⟨env, S, _, h1, hs, hf, hw, fun x S1 v H1 w1 f1 s1 r1 => ?_⟩
  refine ⟨env, S1, _, h1.stay (f1.stay hs), s1, hf.trans f1, w1, fun y S2 u H2 w2 f2 s2 r2 => ?_⟩
  refine ⟨x, y, S2, _, r1.stay (f2.stay s1), r2, s2, s2_bl h w2, fun d S3 v3 H3 ⟨⟨t, e⟩, q⟩ f3 s3 r3 => ?_⟩
  subst e
  cases r3
  obtain ⟨t2, e2, q2⟩ := hq _ _ _ q ((f1.trans f2).trans f3) s3
  cases e2
  exact ⟨t, rfl, q2⟩
theorem t_isN {j : Nat} {p : Pos} (ha : PE X a (LE X.x A wa)) : PT X (.Compare a [.Is] [.Constant .none j p] pos) (LV X.x A fun env S Q => wa env S fun x S1 => s1 .isN x S1 Q) := by
  refine pt_of (pt_cmp (pc_isN ha)) fun σ H Q ⟨env, S, Q0, h1, hs, hf, hw, hq⟩ => ?_
  refine ⟨env, S, _, h1, hs, hf, hw, fun d S1 v H1 q f1 s1 r => ?_⟩
  obtain ⟨t2, e2, q2⟩ := hq _ _ _ q f1 s1
  cases e2
  exact ⟨_, by rw [non_iff r], q2⟩
theorem t_notN {j : Nat} {p : Pos} (ha : PE X a (LE X.x A wa)) : PT X (.Compare a [.IsNot] [.Constant .none j p] pos) (LV X.x A fun env S Q => wa env S fun x S1 => s1 .notN x S1 Q) := by
  refine pt_of (pt_cmp (pc_notN ha)) fun σ H Q ⟨env, S, Q0, h1, hs, hf, hw, hq⟩ => ?_
  refine ⟨env, S, _, h1, hs, hf, hw, fun d S1 v H1 q f1 s1 r => ?_⟩
  obtain ⟨t2, e2, q2⟩ := hq _ _ _ q f1 s1
  cases e2
  exact ⟨_, by rw [non_iff r], q2⟩
/-- a o b p c, as a value -/
abbrev chnW (o p : O2) (wa wb wc : Env → Store → KD → Prop) : Env → Store → KD → Prop := fun env S Q =>
  wa env S fun x S1 => wb env S1 fun y S2 => s2 o x y S2 fun z S3 => ∃ k, z = .bl k ∧ if k = true then wc env S3 fun u S4 => s2 p y u S4 fun w S5 => ∃ j, w = .bl j ∧ Q (.bl j) S5 else Q (.bl false) S3
theorem chn_L {o p : O2} {σ : L2.St} {H : Hp} {Q : VK} {env : Env} {S : Store} {Q0 : KD} (h1 : ER X.x H env σ) (hs : SR X.x S H) (hf : Fm A.1 A.2 S H) (hw : chnW o p wa wb wc env S Q0)
    (hq : ∀ b S' H', Q0 (.bl b) S' → Fm S H S' H' → SR X.x S' H' → Q (.bl b) H') : tChain (L22 X.x (s2 o)) (L22 X.x (s2 p)) (LE X.x A wa) (LE X.x A wb) (LE X.x A wc) σ H Q := by
  refine ⟨env, S, _, h1, hs, hf, hw, fun x S1 v H1 w1 f1 s1 r1 => ?_⟩
  refine ⟨env, S1, _, h1.stay (f1.stay hs), s1, hf.trans f1, w1, fun y S2 u H2 w2 f2 s2' r2 => ?_⟩
  refine ⟨x, y, S2, _, r1.stay (f2.stay s1), r2, s2', w2, fun z S3 vz H3 ⟨kb, e, q⟩ f3 s3 r3 => ?_⟩
  subst e
  cases r3
  refine ⟨kb, rfl, ?_⟩
  cases kb with
  | false => exact hq _ _ _ q ((f1.trans f2).trans f3) s3
  | true =>
    refine ⟨env, S3, _, ((h1.stay (f1.stay hs)).stay (f2.stay s1)).stay (f3.stay s2'), s3, ((hf.trans f1).trans f2).trans f3, q, fun t S4 vt H4 w4 f4 s4 r4 => ?_⟩
    refine ⟨y, t, S4, _, (r2.stay (f3.stay s2')).stay (f4.stay s3), r4, s4, w4, fun z5 S5 v5 H5 ⟨j, e5, q5⟩ f5 s5 r5 => ?_⟩
    subst e5
    cases r5
    exact hq _ _ _ q5 ((((f1.trans f2).trans f3).trans f4).trans f5) s5
theorem s_chn (k : Cok n T c X A ex) {d : Expr} {o p : O2} {op op' : CmpOp} (h : cmpOp o op = true) (h' : cmpOp p op' = true) (hm : lastMarks [op, op'] [b, d] = false) (ha : PE X a (LE X.x A wa)) (hb : PE X b (LE X.x A wb)) (hd : PE X d (LE X.x A wc)) :
    PE X (.Compare a [op, op'] [b, d] pos) (LE X.x A (chnW o p wa wb wc)) :=
  pe_of (pe_chain (r_cmp (units65 k.room) h) (r_cmp (units65 k.room) h') ha hb hd hm) fun _ _ _ ⟨env, S, Q0, h1, hs, hf, hw, hq⟩ => chn_L h1 hs hf hw fun b S' H' q f s => hq _ _ _ _ q f s (.bl b)
theorem t_chn (k : Cok n T c X A ex) {d : Expr} {o p : O2} {op op' : CmpOp} (h : cmpOp o op = true) (h' : cmpOp p op' = true) (hm : lastMarks [op, op'] [b, d] = false) (ha : PE X a (LE X.x A wa)) (hb : PE X b (LE X.x A wb)) (hd : PE X d (LE X.x A wc)) :
    PT X (.Compare a [op, op'] [b, d] pos) (LV X.x A (chnW o p wa wb wc)) := by
  refine pt_of (pt_chain (r_cmp (units65 k.room) h) (r_cmp (units65 k.room) h') ha hb hd hm) fun σ H Q ⟨env, S, Q0, h1, hs, hf, hw, hq⟩ => ?_
  refine chn_L h1 hs hf hw fun b S' H' q f s => ?_
  obtain ⟨t2, e2, q2⟩ := hq _ _ _ q f s
  cases e2
  exact ⟨_, rfl, q2⟩
theorem t_and {y : Expr} {rest : List Expr} (ha : PT X a (LV X.x A wa)) (hb : PW X (.BoolOp .And (y :: rest) pos) (LV X.x A wb)) :
    PW X (.BoolOp .And (a :: y :: rest) pos) (LV X.x A fun env S Q => wa env S fun x S1 => ∃ t, truth S1 x = some t ∧ if t = true then wb env S1 Q else Q x S1) := by
  refine ⟨fun whole pins s σ H Q I ⟨env, S, Q0, h1, hs, hf, hw, hq⟩ => (pw_and ha hb).run whole pins s σ H Q I ?_⟩
  refine ⟨env, S, _, h1, hs, hf, hw, fun x S1 H1 ⟨t, e, q⟩ f1 s1 => ⟨t, e, ?_⟩⟩
  cases t with
  | true => exact ⟨env, S1, Q0, h1.stay (f1.stay hs), s1, hf.trans f1, q, fun d S2 H2 q2 f2 s2 => hq d S2 H2 q2 (f1.trans f2) s2⟩
  | false =>
    obtain ⟨b, e2, q2⟩ := hq _ _ _ q f1 s1
    rw [e] at e2
    cases e2
    exact q2
theorem t_or {y : Expr} {rest : List Expr} (ha : PT X a (LV X.x A wa)) (hb : PW X (.BoolOp .Or (y :: rest) pos) (LV X.x A wb)) :
    PW X (.BoolOp .Or (a :: y :: rest) pos) (LV X.x A fun env S Q => wa env S fun x S1 => ∃ t, truth S1 x = some t ∧ if t = true then Q x S1 else wb env S1 Q) := by
  refine ⟨fun whole pins s σ H Q I ⟨env, S, Q0, h1, hs, hf, hw, hq⟩ => (pw_or ha hb).run whole pins s σ H Q I ?_⟩
  refine ⟨env, S, _, h1, hs, hf, hw, fun x S1 H1 ⟨t, e, q⟩ f1 s1 => ⟨t, e, ?_⟩⟩
  cases t with
  | false => exact ⟨env, S1, Q0, h1.stay (f1.stay hs), s1, hf.trans f1, q, fun d S2 H2 q2 f2 s2 => hq d S2 H2 q2 (f1.trans f2) s2⟩
  | true =>
    obtain ⟨b, e2, q2⟩ := hq _ _ _ q f1 s1
    rw [e] at e2
    cases e2
    exact q2
theorem t_not (ha : PT X a (LV X.x A wa)) : PT X (.UnaryOp .Not a pos) (LV X.x A fun env S Q => wa env S fun d S1 => ∃ b, truth S1 d = some b ∧ Q (.bl (!b)) S1) := by
  refine pt_of (pt_not ha) fun σ H Q ⟨env, S, Q0, h1, hs, hf, hw, hq⟩ => ?_
  refine ⟨env, S, _, h1, hs, hf, hw, fun x S1 H1 ⟨t, e, q⟩ f1 s1 => ⟨t, e, ?_⟩⟩
  obtain ⟨b, e2, q2⟩ := hq _ _ _ q f1 s1
  cases e2
  exact q2
/-- a BoolOp's test doesn't ask what the whole is -/
theorem pw_of {op : BoolOp} {t : TT} {xs : List Expr} (h : PT X (.BoolOp op xs pos) t) : PW X (.BoolOp op xs pos) t := ⟨fun whole pins s σ H Q I w => h.run pins s σ H Q I w⟩
end
end Mn

/-! Sim5: calls. -/
namespace Mn
open PySem PySem.Spec PyProof.Rows L2
section
variable {n : Nat} {T : Nat → Option FD} {c : SC} {X : Cx} {A : Anc} {ex : EX} {pos : Pos} {a b e : Expr} {es : List Expr} {wa wb wc : Env → Store → KD → Prop} {ws : Env → Store → (List D → Store → Prop) → Prop}

/-! ### isinstance -/
def tyS : Ty → String
  | .bool => "bool"
  | .int => "int"
  | .str => "str"
  | .tuple => "tuple"
  | .list => "list"
  | .dict => "dict"
def tyS' : Option Ty → String
  | some t => tyS t
  | none => "NoneType"
def tyN (t : Ty) : Str := Str.ofString (tyS t)
theorem kit_all : ∀ (a : Option Ty) (b : Ty), kitB (tyS' a) (tyS b) = some (isTy a b) := by
  intro a b
  cases b <;> (cases a with
    | none => decide +kernel
    | some a => cases a <;> decide +kernel)
theorem tyx_of {S : Store} {H : Hp} (hs : SR X.x S H) {d : D} {v : V} {y : Option Ty} (r : Rep X.x H d v) (h : tyD S d = some y) : TyX X.K H v (.type (tyS' y)) := by
  cases r with
  | non => cases h; exact .base .non
  | bl b => cases h; exact .base (.bl b)
  | int i => cases h; exact .base (.int i)
  | str z => cases h; exact .base (.str z)
  | tup hq rs =>
    cases h
    rcases hq with (hq | ⟨o, hq⟩) | ⟨o, its, m, hk, hc, _⟩
    · exact .base (.tup hq)
    · exact .fTuple hq
    · exact .kTuple hk hc
  | rol hq rs =>
    cases h
    rcases hq with ⟨o, hq⟩ | ⟨o, its, m, hk, hc, _⟩
    · exact .base (.frz hq)
    · exact .kList hk hc
  | kdc _ _ _ => cases h
  | obj a =>
    unfold tyD at h
    simp only at h
    split at h
    · rename_i e
      cases h
      obtain ⟨vs, h1, _⟩ := hs.lst e
      exact .base (.lst h1)
    · cases h
theorem boot_ty (t : Ty) : bootBuiltins (tyN t) = some (.type (tyS t)) := by cases t <;> decide +kernel
theorem s_isi (k : Cok n T c X A ex) {t : Ty} {p1 p2 : Pos} (h1 : gliB c.names "isinstance" = true) (h2 : gliB c.names (tyN t) = true) (hst : starB a = false) (ha : PE X a (LE X.x A wa)) :
    PE X (.Call (.Name "isinstance" p1) [a, .Name (tyN t) p2] [] pos) (LE X.x A fun env S Q => wa env S fun x S1 => match tyD S1 x with
      | some y => Q (.bl (isTy y t)) S1
      | none => False) := by
  have m1 : X.mg "isinstance" = none := k.bl _ (by decide)
  have m2 : X.mg (tyN t) = none := k.bl _ (by cases t <;> decide)
  have nm : (tyN t) ≠ "__name__" ∧ ((tyN t) == ("__debug__" : Str)) = false := by cases t <;> exact ⟨by decide, by decide⟩
  have hb : PE X (.Name (tyN t) p2) (tC (.ty (tyS t))) := pe_bltn (kind_gl k h2) m2 (boot_ty t) rfl nm.1 nm.2
  refine pe_of (pe_callB call_isi (kind_gl k h1) m1 (by decide +kernel) (pa_cons ha (pa_cons hb pa_nil (star_cons rfl)) (star_cons hst)) (he := star_cons hst) (hpl := by rfl)) fun σ H Q ⟨env, S, Q0, h1, hs, hf, hw, hq⟩ => ?_
  refine ⟨env, S, _, h1, hs, hf, hw, fun x S1 v H1 w1 f1 s1 r1 => ?_⟩
  split at w1
  · rename_i y e
    exact ⟨v, _, _, _, _, rfl, .ty _, tyx_of s1 r1 e, kit_ty (kit_all y t), (hq.at f1).here s1 w1 (.bl _)⟩
  · exact w1.elim

/-! ### built-ins by name -/
inductive BiR (X : Cx) : Bi → Str → Value → Prop
  | len : BiR X .len "len" (.builtin "len")
  | abs : BiR X .abs "abs" (.builtin "abs")
  | list : BiR X .list "list" (.type "list")
  | tuple : BiR X .tuple "tuple" (.type "tuple")
  | all : BiR X .all "all" (.builtin "all")
  | any : BiR X .any "any" (.builtin "any")
  | min2 : BiR X .min2 "min" (.builtin "min")
  | max2 : BiR X .max2 "max" (.builtin "max")
  | sum : BiR X .sum "sum" (.builtin "sum")
def biOk : Bi → Str → Bool
  | .len, x => x == "len"
  | .abs, x => x == "abs"
  | .list, x => x == "list"
  | .tuple, x => x == "tuple"
  | .all, x => x == "all"
  | .any, x => x == "any"
  | .min2, x => x == "min"
  | .max2, x => x == "max"
  | .sum, x => x == "sum"
  | .dict, x => x == "dict"
  | .sorted, x => x == "sorted"
  | .int, x => x == "int"
  | _, _ => false
theorem s_bi (k : Cok n T c X A ex) {bi : Bi} {x : Str} {p1 : Pos} (h : biOk bi x = true) (h1 : gliB c.names x = true) (hst : ∀ y ∈ e :: es, starB y = false) (ha : PA X (e :: es) (LA X.x A ws)) :
    PE X (.Call (.Name x p1) (e :: es) [] pos) (LE X.x A fun env S Q => ws env S fun ds S1 => sBi bi ds S1 Q) := by
  have he : starEach (e :: es) X.env = (false, eval e X.env) :: starEach es X.env := star_cons (hst e List.mem_cons_self)
  have hp : (backTo pos (starEach es X.env)).any (·.1) = false := star_none fun y hy => hst y (List.mem_cons_of_mem _ hy)
  cases bi <;> first | (cases h; done) | skip
  all_goals
    have hx := beq_iff_eq.mp h
    subst hx
  · exact pe_of (pe_callB call_lenL (kind_gl k h1) (k.bl _ (by decide)) boot_len ha (he := he) (hpl := hp)) fun _ _ _ q => tCB_L q
  · exact pe_of (pe_callB call_absL (kind_gl k h1) (k.bl _ (by decide)) (by decide +kernel) ha (he := he) (hpl := hp)) fun _ _ _ q => tCB_L q
  · exact pe_of (pe_callTy call_listL (kind_gl k h1) (k.bl _ (by decide)) (by decide +kernel) ha (he := he) (hpl := hp)) fun _ _ _ q => tCB_L q
  · exact pe_of (pe_callTy call_tupleL (kind_gl k h1) (k.bl _ (by decide)) (by decide +kernel) ha (he := he) (hpl := hp)) fun _ _ _ q => tCB_L q
  · exact pe_of (pe_callB (call_sortedL k.calm) (kind_gl k h1) (k.bl _ (by decide)) (by decide +kernel) ha (he := he) (hpl := hp)) fun _ _ _ q => tCB_L q
  · exact pe_of (pe_callB (call_allL k.calm) (kind_gl k h1) (k.bl _ (by decide)) (by decide +kernel) ha (he := he) (hpl := hp)) fun _ _ _ q => tCB_L q
  · exact pe_of (pe_callB (call_anyL k.calm) (kind_gl k h1) (k.bl _ (by decide)) (by decide +kernel) ha (he := he) (hpl := hp)) fun _ _ _ q => tCB_L q
  · exact pe_of (pe_callB (call_min2L k.calm) (kind_gl k h1) (k.bl _ (by decide)) (by decide +kernel) ha (he := he) (hpl := hp)) fun _ _ _ q => tCB_L q
  · exact pe_of (pe_callB (call_max2L k.calm) (kind_gl k h1) (k.bl _ (by decide)) (by decide +kernel) ha (he := he) (hpl := hp)) fun _ _ _ q => tCB_L q
  · exact pe_of (pe_callTy call_intL (kind_gl k h1) (k.bl _ (by decide)) (by decide +kernel) ha (he := he) (hpl := hp)) fun _ _ _ q => tCB_L q
  · exact pe_of (pe_callTy (call_dictL k.calm k.room.units) (kind_gl k h1) (k.bl _ (by decide)) (by decide +kernel) ha (he := he) (hpl := hp)) fun _ _ _ q => tCB_L q
  · exact pe_of (pe_callB (call_sumL k.calm) (kind_gl k h1) (k.bl _ (by decide)) (by decide +kernel) ha (he := he) (hpl := hp)) fun _ _ _ q => tCB_L q

/-! ### slices -/
def LO (K : Kx) (A : Anc) (w : Env → Store → (Option Int → Store → Prop) → Prop) : TO := fun σ H Q =>
  ∃ env S Q0, ER K H env σ ∧ SR K S H ∧ Fm A.1 A.2 S H ∧ w env S Q0 ∧ ∀ i S' H', Q0 i S' → Fm S H S' H' → SR K S' H' → Q i H'
theorem po_of {o : Option Expr} {t t' : TO} (h : PO X o t) (i : ∀ σ H Q, t' σ H Q → t σ H Q) : PO X o t' := ⟨fun pins s σ H Q I w => h.run pins s σ H Q I (i σ H Q w)⟩
theorem o_none : PO X none (LO X.x A fun _ S Q => Q none S) := po_of po_none fun σ H Q ⟨env, S, Q0, h1, hs, hf, hw, hq⟩ => hq none S H hw .refl hs
theorem o_some (ha : PE X a (LE X.x A wa)) : PO X (some a) (LO X.x A fun env S Q => wa env S fun d S1 => ∃ i, d = .int i ∧ Q (some i) S1) := by
  refine po_of (po_some ha) fun σ H Q ⟨env, S, Q0, h1, hs, hf, hw, hq⟩ => ?_
  refine ⟨env, S, _, h1, hs, hf, hw, fun d S1 v H1 ⟨i, e, q⟩ f1 s1 r => ?_⟩
  subst e
  cases r
  exact ⟨i, rfl, hq _ _ _ q f1 s1⟩
theorem s_slc {lo hi : Option Expr} {p2 : Pos} {wl wh : Env → Store → (Option Int → Store → Prop) → Prop} (ha : PE X a (LE X.x A wa)) (hl : PO X lo (LO X.x A wl)) (hh : PO X hi (LO X.x A wh)) :
    PE X (.Subscript a (.Slice lo hi none p2) pos) (LE X.x A fun env S Q => wa env S fun x S1 => wl env S1 fun l S2 => wh env S2 fun h S3 => sSlc x l h S3 Q) := by
  refine pe_of (pe_slice sl_L ha hl hh) fun σ H Q ⟨env, S, Q0, h1, hs, hf, hw, hq⟩ => ?_
  refine ⟨env, S, _, h1, hs, hf, hw, fun x S1 v H1 w1 f1 s1 r1 => ?_⟩
  refine ⟨env, S1, _, h1.stay (f1.stay hs), s1, hf.trans f1, w1, fun l S2 H2 w2 f2 s2 => ?_⟩
  refine ⟨env, S2, _, (h1.stay (f1.stay hs)).stay (f2.stay s1), s2, (hf.trans f1).trans f2, w2, fun h S3 H3 w3 f3 s3 => ?_⟩
  exact ⟨x, S3, Q0, (r1.stay (f2.stay s1)).stay (f3.stay s2), s3, w3, ((hq.at f1).at f2).at f3⟩

/-! ### methods -/
theorem base_plain {o : Expr} {m : Str} {env : PySem.Env} {wh : Sem Value} (h : ∀ x p q, o ≠ .Call (.Name x p) [] [] q) : attributeBase o m env wh = wh := by
  unfold attributeBase
  split
  · rename_i x p q
    exact absurd rfl (h x p q)
  · rfl
def callNB : Expr → Bool
  | .Call (.Name _ _) [] [] _ => true
  | _ => false
theorem callNB_ne {o : Expr} (h : callNB o = false) : ∀ x p q, o ≠ .Call (.Name x p) [] [] q := fun x p q z => by subst z; cases h
theorem tyL_of {S : Store} {H : Hp} (hs : SR X.x S H) {p : Addr} {xs : List D} (h : S p = some (.lst xs)) : tyV X.K "list" (.ref p) H := by
  obtain ⟨vs, h1, _⟩ := hs.lst h
  exact .inl ⟨rfl, _, .inl (.inl h1)⟩
theorem few_of (cpos : Pos) {env : PySem.Env} (hst : ∀ y ∈ e :: es, starB y = false) (hl : (e :: es).length < 30) :
    ((backTo cpos (starEach (e :: es) env)).all (fun x => !x.1) && (backToKw cpos (keywordEach [] env)).all (fun x => x.1.isSome)
      && decide ((e :: es).length + ([] : List Keyword).length + (if ([] : List Keyword).isEmpty then 0 else 1) < 30)) = true := by
  have h1 : ∀ xs : List Expr, (∀ y ∈ xs, starB y = false) → (backTo cpos (starEach xs env)).all (fun x => !x.1) = true := by
    intro xs
    induction xs with
    | nil => intro _; rfl
    | cons y ys ih =>
      intro h
      rw [star_cons (h y List.mem_cons_self)]
      exact ih fun z hz => h z (List.mem_cons_of_mem _ hz)
  rw [h1 _ hst]
  have h2 : (e :: es).length + ([] : List Keyword).length + (if ([] : List Keyword).isEmpty then 0 else 1) < 30 := hl
  rw [decide_eq_true h2]
  rfl
theorem mtPre_lst {m : Mt} {x : D} {S : Store} (hm : m = .append ∨ m = .extend ∨ m = .pop ∨ m = .index) (h : mtPre m x S) : ∃ a xs, x = .obj a ∧ S a = some (.lst xs) := by
  rcases hm with rfl | rfl | rfl | rfl <;>
  · cases x <;> first | exact False.elim h | skip
    rename_i a
    unfold mtPre at h
    simp only at h
    split at h
    · rename_i xs e
      exact ⟨a, xs, rfl, e⟩
    · exact h.elim
/-- a method of lists, its receiver a list of the store already ahead of the arguments -/
theorem tBM_L {m : Mt} {σ : L2.St} {H : Hp} {Q : VK} (hm : m = .append ∨ m = .extend ∨ m = .pop ∨ m = .index)
    (h : LE X.x A (fun env S Q => wa env S fun x S1 => mtPre m x S1 ∧ ws env S1 fun ds S2 => sMt m x ds S2 Q) σ H Q) : tBM X.K "list" (Lm X.x (sMt m)) (LE X.x A wa) (LA X.x A ws) σ H Q := by
  obtain ⟨env, S, Q0, h1, hs, hf, hw, hq⟩ := h
  refine ⟨env, S, _, h1, hs, hf, hw, fun x S1 v H1 ⟨hp, w1⟩ f1 s1 r1 => ?_⟩
  obtain ⟨p, xs, ex, ep⟩ := mtPre_lst hm hp
  subst ex
  cases r1
  refine ⟨tyL_of s1 ep, env, S1, _, h1.stay (f1.stay hs), s1, hf.trans f1, w1, fun ds S2 vs H2 w2 f2 s2 r2 => ?_⟩
  exact ⟨.obj p, ds, S2, Q0, .obj p, r2, s2, w2, (hq.at f1).at f2⟩
/-- a dict of the store, of the module -/
def IsDicX (X : Cx) (H : Hp) (a : Addr) : Prop := IsDic X.x H a ∨ ∃ es n, KDict X.K X.w a es n
theorem isDicX_at {pins : List (Addr × Obj)} {σ : L2.St} {H : Hp} {s : Shared} {a : Addr} (I : L2.Inv X pins σ H s) (d : IsDicX X H a) : s.TypeIs (.ref a) "dict" ∧ ∀ b, Value.ref a = .ref b → ∃ ob, s.heap.get? b = some ob ∧ ob.dict = none := by
  rcases d with d | ⟨es, n, D1⟩
  · exact isDic_at I d
  · exact ⟨kd_type D1 I, fun b e => by cases e; exact ⟨_, I.kIn _ _ D1.at_, rfl⟩⟩
/-- a method of dicts -/
def tBMD (X : Cx) (r : V → List V → Hp → VK → Prop) (to : TE) (t : TA) : TE := fun σ H Q => to σ H fun x H1 => (∃ a, x = .ref a ∧ IsDicX X H1 a) ∧ t σ H1 fun xs H2 => r x xs H2 Q
theorem pe_bmD {o : Expr} {to : TE} {t : TA} {name : Str} {apos cpos : Pos} {id : String} {r : V → List V → Hp → VK → Prop} (slot : Slot "dict" name id) (hty : typeOf (.builtin id) = pure (.type "method_descriptor")) (hm : MtM X id r) (ho : PE X o to) (ha : PA X (e :: es) t)
    (hbase : attributeBase o name X.env (eval o X.env) = eval o X.env)
    (hfew : ((backTo cpos (starEach (e :: es) X.env)).all (fun x => !x.1) && (backToKw cpos (keywordEach [] X.env)).all (fun x => x.1.isSome)
      && decide ((e :: es).length + ([] : List Keyword).length + (if ([] : List Keyword).isEmpty then 0 else 1) < 30)) = true)
    (hline : (apos.endLine == cpos.line) = true) (hs : starEach (e :: es) X.env = (false, eval e X.env) :: starEach es X.env) (hplain : (backTo cpos (starEach es X.env)).any (·.1) = false) :
    PE X (.Call (.Attribute o name apos) (e :: es) [] cpos) (tBMD X r to t) := by
  refine ⟨fun pins s σ H Q I h => ?_⟩
  refine wpAny_Call_method_late hbase hfew hline rfl (thn (ho.run pins s σ H _ I h) fun v s1 ⟨x, H1, I1, r1, ⟨a, ex, he⟩, q1⟩ => ?_)
  subst ex
  obtain rfl : v = Value.ref a := r1
  refine ⟨"dict", id, PySem.F.plainAttrs_dict, slot, hty, (isDicX_at I1 he).1, (isDicX_at I1 he).2, ?_⟩
  have hA := ha.run cpos pins s1 σ H1 _ I1 q1
  rw [hs] at hA ⊢
  refine Calls.callWith_builtin (by show (false || (backTo cpos (starEach es X.env)).any (·.1)) = false; rw [hplain] <;> rfl) (Calls.evalArgs_plain ?_)
  exact thn hA fun us s2 ⟨vs, H2, I2, r2, q2⟩ => hm pins s2 σ H2 _ vs _ us Q I2 (show RelV (.ref a) (Value.ref a) from rfl) r2 q2
theorem mtPre_get {x : D} {S : Store} (h : mtPre .get x S) : (∃ a kvs st, x = .obj a ∧ S a = some (.dic kvs st)) ∨ ∃ ks vs, x = .kdc ks vs := by
  cases x <;> first | exact False.elim h | skip
  · exact .inr ⟨_, _, rfl⟩
  · rename_i a
    unfold mtPre at h
    simp only at h
    split at h
    · rename_i kvs st e
      exact .inl ⟨a, kvs, st, rfl, e⟩
    · exact h.elim
theorem tBMD_L {σ : L2.St} {H : Hp} {Q : VK}
    (h : LE X.x A (fun env S Q => wa env S fun x S1 => mtPre .get x S1 ∧ ws env S1 fun ds S2 => sMt .get x ds S2 Q) σ H Q) : tBMD X (Lm X.x (sMt .get)) (LE X.x A wa) (LA X.x A ws) σ H Q := by
  obtain ⟨env, S, Q0, h1, hs, hf, hw, hq⟩ := h
  refine ⟨env, S, _, h1, hs, hf, hw, fun x S1 v H1 ⟨hp, w1⟩ f1 s1 r1 => ?_⟩
  rcases mtPre_get hp with ⟨p, kvs, st, ex, ep⟩ | ⟨ks, vs, ex⟩
  · subst ex
    cases r1
    refine ⟨⟨p, rfl, .inl (s1.isDic ep)⟩, env, S1, _, h1.stay (f1.stay hs), s1, hf.trans f1, w1, fun ds S2 vs H2 w2 f2 s2 r2 => ?_⟩
    exact ⟨.obj p, ds, S2, Q0, .obj p, r2, s2, w2, (hq.at f1).at f2⟩
  · subst ex
    cases r1 with
    | kdc D1 E1 R1 =>
      refine ⟨⟨_, rfl, .inr ⟨_, _, D1⟩⟩, env, S1, _, h1.stay (f1.stay hs), s1, hf.trans f1, w1, fun ds S2 vs H2 w2 f2 s2 r2 => ?_⟩
      exact ⟨_, ds, S2, Q0, .kdc D1 E1 (Reps.stay (f2.stay s1) R1), r2, s2, w2, (hq.at f1).at f2⟩
def mtOk : Mt → Str → Bool
  | .append, x => x == "append"
  | .extend, x => x == "extend"
  | .get, x => x == "get"
  | .index, x => x == "index"
  | _, _ => false
theorem s_mth (k : Cok n T c X A ex) {m : Mt} {x : Str} {ap : Pos} (h : mtOk m x = true) (hb : callNB a = false) (hl : (ap.endLine == pos.line) = true) (hn : (e :: es).length < 30) (hst : ∀ y ∈ e :: es, starB y = false) (hr : PE X a (LE X.x A wa)) (ha : PA X (e :: es) (LA X.x A ws)) :
    PE X (.Call (.Attribute a x ap) (e :: es) [] pos) (LE X.x A fun env S Q => wa env S fun x S1 => mtPre m x S1 ∧ ws env S1 fun ds S2 => sMt m x ds S2 Q) := by
  have he : starEach (e :: es) X.env = (false, eval e X.env) :: starEach es X.env := star_cons (hst e List.mem_cons_self)
  have hp : (backTo pos (starEach es X.env)).any (·.1) = false := star_none fun y hy => hst y (List.mem_cons_of_mem _ hy)
  cases m <;> first | (cases h; done) | skip
  all_goals
    have hx := beq_iff_eq.mp h
    subst hx
  · exact pe_of (pe_bm PySem.F.plainAttrs_list PySem.F.slot_list_append PySem.F.type_list_append mt_appendL hr ha (hbase := base_plain (callNB_ne hb)) (hfew := few_of pos hst hn) (hline := hl) (hs := he) (hplain := hp)) fun _ _ _ q => tBM_L (.inl rfl) q
  · exact pe_of (pe_bm PySem.F.plainAttrs_list PySem.F.slot_list_extend PySem.F.type_list_extend mt_extendL hr ha (hbase := base_plain (callNB_ne hb)) (hfew := few_of pos hst hn) (hline := hl) (hs := he) (hplain := hp)) fun _ _ _ q => tBM_L (.inr (.inl rfl)) q
  · exact pe_of (pe_bmD PySem.F.slot_dict_get PySem.F.type_dict_get (mt_getL k.room.units) hr ha (hbase := base_plain (callNB_ne hb)) (hfew := few_of pos hst hn) (hline := hl) (hs := he) (hplain := hp)) fun _ _ _ q => tBMD_L q
  · exact pe_of (pe_bm PySem.F.plainAttrs_list PySem.F.slot_list_index PySem.F.type_list_index (mt_indexL (units65 k.room)) hr ha (hbase := base_plain (callNB_ne hb)) (hfew := few_of pos hst hn) (hline := hl) (hs := he) (hplain := hp)) fun _ _ _ q => tBM_L (.inr (.inr (.inr rfl))) q
/-- a method without arguments -/
def mt0Ok : Mt → Str → Bool
  | .pop, x => x == "pop"
  | _, _ => false
theorem s_mth0 (k : Cok n T c X A ex) {m : Mt} {x : Str} {ap : Pos} (h : mt0Ok m x = true) (hb : callNB a = false) (hl : (ap.endLine == pos.line) = true) (hr : PE X a (LE X.x A wa)) :
    PE X (.Call (.Attribute a x ap) [] [] pos) (LE X.x A fun env S Q => wa env S fun x S1 => mtPre m x S1 ∧ sMt m x [] S1 Q) := by
  cases m <;> first | (cases h; done) | skip
  have hx := beq_iff_eq.mp h
  subst hx
  refine pe_of (pe_bm0 PySem.F.plainAttrs_list PySem.F.slot_list_pop PySem.F.type_list_pop mt_popL hr (hbase := base_plain (callNB_ne hb)) (hline := hl)) fun σ H Q ⟨env, S, Q0, h1, hs, hf, hw, hq⟩ => ?_
  refine ⟨env, S, _, h1, hs, hf, hw, fun x S1 v H1 ⟨hp, w1⟩ f1 s1 r1 => ?_⟩
  obtain ⟨p, xs, ex, ep⟩ := mtPre_lst (.inr (.inr (.inl rfl))) hp
  subst ex
  cases r1
  exact ⟨tyL_of s1 ep, .obj p, [], S1, Q0, .obj p, .nil, s1, w1, hq.at f1⟩

/-! ### {k: v, ..} -/
def flatP : List (V × V) → List V
  | [] => []
  | p :: r => p.1 :: p.2 :: flatP r
def inter : List (Option Expr) → List Expr → List Expr
  | some k :: ks, v :: vs => k :: v :: inter ks vs
  | _, _ => []
def LPs (K : Kx) (A : Anc) (w : Env → Store → (List D → Store → Prop) → Prop) : L2.St → Hp → (List (V × V) → Hp → Prop) → Prop := fun σ H Q =>
  ∃ env S Q0, ER K H env σ ∧ SR K S H ∧ Fm A.1 A.2 S H ∧ w env S Q0 ∧ ∀ ds S' ps H', Q0 ds S' → Fm S H S' H' → SR K S' H' → Reps K H' ds (flatP ps) → Q ps H'
theorem SR.putD {K : Kx} {S : Store} {H : Hp} {p : Addr} {kvs : List (D × D)} {st : Obj} {kv : List (Key × V)} {u : HO} (s : SR K S H) (h : H p = some u) (n1 : ∀ xs, u ≠ .tup xs) (n2 : ∀ ob w, u ≠ .frz ob w) (r : KR K H kvs kv) :
    SR K (upd S p (.dic kvs st)) (L2.upd H p (.ext (PinK K p st kv))) := fun a o e => by
  have sy : Stay H (L2.upd H p (.ext (PinK K p st kv))) := stay_any h n1 n2
  by_cases ha : a = p
  · subst ha
    rw [upd_same] at e; cases e
    exact DicOk.k L2.upd_same (r.stay sy)
  · rw [upd_ne ha] at e
    exact (s a o e).stay sy fun u q => by rw [L2.upd_ne ha]; exact q
theorem pairs_rep {K : Kx} {H : Hp} : ∀ {ps : List (V × V)} {ds : List D} {dk : List (D × D)}, Reps K H ds (flatP ps) → pairsOf ds = some dk → dk.all (·.1.sca) = true →
    ∃ kvs : List (Key × V), ps = kvs.map (fun kv => (kV kv.1, kv.2)) ∧ KR K H dk kvs
  | [], _, _, .nil, e, _ => by cases e; exact ⟨[], rfl, .nil⟩
  | p :: r, _, dk, .cons (d := d) h1 (.cons (d := d2) (ds := ds) h2 r2), e, hs => by
    rw [pairsOf] at e
    cases q : pairsOf ds with
    | none => rw [q] at e; cases e
    | some m =>
      rw [q] at e
      cases e
      rw [List.all_cons, Bool.and_eq_true] at hs
      obtain ⟨kvs, e1, e2⟩ := pairs_rep r2 q hs.2
      obtain ⟨k, hk⟩ := sca_key hs.1
      simp only at hk
      subst hk
      have ek := keyD_rep h1
      refine ⟨(k, p.2) :: kvs, ?_, .cons h2 e2⟩
      rw [List.map_cons, ← e1, ← ek]
theorem s_dct {keys : List (Option Expr)} {values : List Expr} {trs : List (TE × TE)} (h : PPs X pos keys values trs) (hall : keys.all (·.isSome) = true) (hl : keys.length = values.length) (h0 : keys ≠ []) (h15 : keys.length ≤ 15)
    (hsim : ∀ σ H Q, LPs X.x A ws σ H Q → tPairs trs σ H Q) :
    PE X (.Dict keys values pos) (LE X.x A fun env S Q => ws env S fun ds S1 => match pairsOf ds with
      | some kvs => kvs.length ≤ 15 ∧ kvs.all (·.1.sca) = true ∧ newD (dmerge [] kvs) S1 Q
      | none => False) := by
  refine ⟨fun pins s σ H Q I ⟨env, S, Q0, h1, hs, hf, hw, hb⟩ => ?_⟩
  refine thn ((pe_disp h hall hl h0 h15).run pins s σ H (fun v H' => ∃ (p : Addr) (H2 : Hp) (S2 : Store) (kvs : List (Key × V)) (dk : List (D × D)), v = .ref p ∧ H p = none ∧ H2 p = some (.dK []) ∧ S2 p = none ∧ H' = L2.upd H2 p (.dK (mergeK [] kvs)) ∧ KR X.x H2 dk kvs ∧ newD (dmerge [] dk) S2 Q0 ∧ Fm S (L2.upd H p (.dK [])) S2 H2 ∧ SR X.x S2 H2) I fun p hn => ?_)
    fun w' s' ⟨v, H', I', rw', p, H2, S2, kvs, dk, e1, hn, e2, e3, e4, kr, nd, f2, s2⟩ => ?_
  · have ex := ext_upd (o := HO.dK []) hn
    refine hsim _ _ _ ⟨env, S, _, h1.stay (.of_ext ex), hs.ext ex, hf.trans (.ext ex), hw, fun ds S' ps H' q f s2 r => ?_⟩
    have fp := f p _ L2.upd_same (hs.fresh hn)
    split at q
    · rename_i dk e
      obtain ⟨kvs, g1, g2⟩ := pairs_rep r e q.2.1
      refine ⟨fp.1, kvs, g1, by rw [← g2.length]; exact q.1, p, H', S', kvs, dk, rfl, hn, fp.1, fp.2, rfl, g2, q.2.2, f, s2⟩
    · exact q.elim
  · subst e1
    subst e4
    obtain ⟨st', I2⟩ := pin I' L2.upd_same
    rw [L2.upd_upd] at I2
    have km := KR.merge kr .nil List.nodup_nil
    refine ⟨_, _, I2, rw', hb _ _ _ _ (nd p st' e3) (fun q o g n => ?_) (s2.putD e2 (fun _ z => nomatch z) (fun _ _ z => nomatch z) km) (.obj p)⟩
    have hne : q ≠ p := fun z => by rw [z, hn] at g; cases g
    have := f2 q o (by rw [L2.upd_ne hne]; exact g) n
    exact ⟨by rw [L2.upd_ne hne]; exact this.1, by rw [upd_ne hne]; exact this.2⟩
/-! ### {} -/
theorem s_dct0 : PE X (.Dict [] [] pos) (LE X.x A fun _ S Q => (0 : Nat) ≤ 15 ∧ true = true ∧ newD [] S Q) := by
  refine ⟨fun pins s σ H Q I ⟨env, S, Q0, h1, hs, hf, hw, hb⟩ => ?_⟩
  refine thn (pe_dnewK.run pins s σ H (fun v H' => ∃ p, v = .ref p ∧ H p = none ∧ H' = L2.upd H p (.dK [])) I fun p hn => ⟨p, rfl, hn, rfl⟩) fun w' s' ⟨v, H', I', rw', p, e1, hn, e2⟩ => ?_
  subst e1
  subst e2
  obtain ⟨st', I2⟩ := pin I' L2.upd_same
  rw [L2.upd_upd] at I2
  exact ⟨_, _, I2, rw', hb.newD hs hw.2.2 .nil p st' hn⟩

/-! ### a def of the text -/
theorem s_call (k : Cok n T c X A ex) {f : Nat} {x : Str} {p1 : Pos} (h1 : (x, f) ∈ c.fns) (h2 : gliB c.names x = true) (h3 : odd x = false) (hst : ∀ y ∈ e :: es, starB y = false) (ha : PA X (e :: es) (LA X.x A ws)) :
    PE X (.Call (.Name x p1) (e :: es) [] pos) (LE X.x A fun env S Q => ws env S fun ds S1 => callN T n f ds S1 Q fun c fs S' => ex c fs env S') := by
  have he : starEach (e :: es) X.env = (false, eval e X.env) :: starEach es X.env := star_cons (hst e List.mem_cons_self)
  have hp : (backTo pos (starEach es X.env)).any (·.1) = false := star_none fun y hy => hst y (List.mem_cons_of_mem _ hy)
  unfold odd at h3
  simp only [Bool.or_eq_false_iff] at h3
  obtain ⟨fa, fdd, ps, np, hm, hk, hb, hT, F⟩ := k.fn x f h1
  refine pe_of (pe_callS F k.room (kind_gl k h2) hm hk hb (fun σ => passAt k.tk σ) ha h3.1.1 (he := he) (hpl := hp)) fun σ H Q ⟨env, S, Q0, e1, hs, hf, hw, hq⟩ => ?_
  refine ⟨env, S, _, e1, hs, hf, hw, fun ds S1 vs H1 w1 f1 s1 r1 => ⟨?_, ds, S1, Q0, _, r1, s1, w1, hq.at f1, fun cn fs S' cls d H' q f2 s2 x2 => ?_⟩⟩
  · cases n with
    | zero => exact w1.elim
    | succ n =>
      obtain ⟨fd, h4, h5, _⟩ := w1
      rw [← r1.length, h5, hT fd h4]
  · exact ⟨env, S', cn, fs, (e1.stay (f1.stay hs)).stay (f2.stay s1), s2, (hf.trans f1).trans f2, x2, q⟩
end
end Mn

/-! SimR: [::-1], list(d.items()). -/
namespace Mn
open PySem PySem.Spec PyProof.Rows L2
section
variable {prog : Program} {w : World} {A : Around} {E : Value → Shared → Prop} {s : Shared}
theorem rev_applied {sl : Addr} {vs : Value} {n : Nat} {Q : Int × Int × Nat → Shared → Prop} (hs : s.heap.IsSliceOf sl .none .none vs) (ps : IsPart vs (some (-1)))
    (h : Q ((n : Int) - 1, -1, n) s) : wpAny (model prog w) A (Builtin.Slice.sliceApplied (.ref sl) (pure (n : Int))) Q E s := by
  obtain ⟨os, hos, hcs, hds⟩ := id hs
  unfold Builtin.Slice.sliceApplied Builtin.Slice.sliceFields
  refine wpAny_bind (wpAny_bind (wpAny_field hos hds (x := .none) rfl (wpAny_bind (wpAny_field hos hds (x := .none) rfl (wpAny_bind (wpAny_field hos hds (x := vs) rfl (wpAny_pure ?_)))))))
  refine wpAny_bind (HT.slicePart_ ps ?_)
  show wpAny _ _ (if ((-1 : Int) == 0) = true then _ else _) _ _ s
  rw [if_neg (by decide)]
  refine wpAny_bind (slicePart_none (wpAny_bind (slicePart_none (wpAny_bind (wpAny_pure ?_)))))
  have e : Builtin.Slice.slicePlaces ((n : Int) - 1) (-1) (-1) = n := by
    unfold Builtin.Slice.slicePlaces
    rw [if_neg (by decide)]
    split
    · have : ((n : Int) - 1 - -1 - 1) / (-(-1)) = (n : Int) - 1 := by
        rw [show (-(-1) : Int) = 1 from rfl, Int.ediv_one]
        omega
      rw [this]
      omega
    · omega
  show wpAny _ _ (pure ((n : Int) - 1, (-1 : Int), Builtin.Slice.slicePlaces ((n : Int) - 1) (-1) (-1))) _ _ s
  rw [e]
  exact wpAny_pure h
theorem fm_map {α β : Type} {f : α → Option β} {g : α → β} : ∀ {l : List α}, (∀ m ∈ l, f m = some (g m)) → l.filterMap f = l.map g
  | [], _ => rfl
  | x :: l, h => by
    rw [List.filterMap_cons, h x List.mem_cons_self, List.map_cons, fm_map fun m hm => h m (List.mem_cons_of_mem _ hm)]
theorem rev_pick (xs : Array Value) : ((List.range xs.size).filterMap fun (m : Nat) => xs[(((xs.size : Int) - 1) + (m : Int) * (-1)).toNat]?).toArray = xs.toList.reverse.toArray := by
  apply Array.toList_inj.mp
  show (List.range xs.size).filterMap _ = xs.toList.reverse
  apply List.ext_getElem?
  intro i
  have e : (List.range xs.size).filterMap (fun (m : Nat) => xs[(((xs.size : Int) - 1) + (m : Int) * (-1)).toNat]?) = (List.range xs.size).map fun m => xs.toList.getD (xs.size - 1 - m) .none := by
    refine fm_map fun m hm => ?_
    have hm := List.mem_range.mp hm
    have : (((xs.size : Int) - 1) + (m : Int) * (-1)).toNat = xs.size - 1 - m := by omega
    rw [this]
    show xs[xs.size - 1 - m]? = some (xs.toList.getD (xs.size - 1 - m) .none)
    rw [List.getD_eq_getElem?_getD, Array.getElem?_toList, Array.getElem?_eq_getElem (by omega)]
    rfl
  rw [e, List.getElem?_map]
  by_cases hi : i < xs.size
  · rw [List.getElem?_range hi, List.getElem?_reverse (by rw [Array.length_toList]; exact hi), Array.length_toList]
    show some (xs.toList.getD (xs.size - 1 - i) .none) = _
    rw [List.getD_eq_getElem?_getD, List.getElem?_eq_getElem (by rw [Array.length_toList]; omega)]
    rfl
  · rw [List.getElem?_eq_none (by rw [List.length_range]; omega), List.getElem?_eq_none (by rw [List.length_reverse, Array.length_toList]; omega)]
    rfl
theorem getItem_tuple_rev {t sl : Addr} {items : Array Value} {vs : Value} {Q : Value → Shared → Prop} (ht : IsTup s.heap t items) (hs : s.heap.IsSliceOf sl .none .none vs) (ps : IsPart vs (some (-1)))
    (h : Q (.ref s.heap.objs.size) { s with heap := s.heap.push { cls := .type "tuple", data := .seq items.toList.reverse.toArray } })
    (hsz : items.size ≤ sizeLine) : wpAny (model prog w) A (getItem (.ref t) (.ref sl)) Q E s := by
  have htake : sizeOk (.seq items.toList.reverse.toArray) := by
    show items.toList.reverse.toArray.size ≤ sizeLine
    rw [List.size_toArray, List.length_reverse, Array.length_toList]
    exact hsz
  obtain ⟨os, hos, hcs, hds⟩ := id hs
  have hTs : s.TypeIs (.ref sl) "slice" := ⟨os, hos, hcs⟩
  unfold getItem
  try with_reducible refine wpAny_holding ?_
  first | refine wpAny_bind (wpAny_pure ?_) | skip
  refine wpAny_bind (wpAny_sequenceKey ht.typeIs (by decide) ?_)
  refine wpAny_bind (wpAny_callSpecial?_slot (name := Str.ofString "__getitem__") ht.typeIs PyProof.Rows.slot_tuple_getitem
    (wpAny_call_entry PyProof.Rows.slot_tuple_getitem ht.typeIs entry_tuple_getitem ?_ (args_tuple_getitem _ _)))
  show wpAny _ _ (Builtin.Tuple.tupleItemsOf (.ref t) >>= _) _ _ s
  refine wpAny_bind (tupleItemsOf_ ht ?_)
  refine wpAny_bind (wpAny_typeOf hTs ?_)
  rw [if_pos (by decide)]
  refine wpAny_bind (rev_applied hs ps ?_)
  have hno : ¬ (((((items.size : Nat) : Int) - 1) == 0 && (-1 : Int) == 1 && items.size == items.size) = true) := by
    intro q
    rw [Bool.and_eq_true, Bool.and_eq_true] at q
    exact absurd q.1.2 (by decide)
  show wpAny _ _ (if ((((items.size : Nat) : Int) - 1) == 0 && (-1 : Int) == 1 && items.size == items.size) = true then _ else _) _ _ s
  rw [if_neg hno, rev_pick]
  first
    | exact wpAny_bind (m := Builtin.Tuple.tupleExact _) (wpAny_newObj_type (wpAny_pure ⟨_, rfl, wpAny_pure h⟩) htake)
    | exact wpAny_bind (m := Builtin.Tuple.tupleExact _) (wpAny_newObj_type (wpAny_bind (wpAny_pure (wpAny_pure ⟨_, rfl, wpAny_pure h⟩))) htake)
    | exact wpAny_bind (wpAny_bind (m := Builtin.Tuple.tupleExact _) (wpAny_newObj_type (wpAny_pure (wpAny_pure ⟨_, rfl, wpAny_pure h⟩)) htake))
    | exact wpAny_bind (wpAny_bind (m := Builtin.Tuple.tupleExact _) (wpAny_newObj_type (wpAny_pure ⟨_, rfl, wpAny_pure h⟩) htake))
end
section
variable {X : Cx} {e : Expr} {te : TE} {k : Nat} {p1 p2 p3 pos : Pos}
def tRevA (K : PySem.W.Frag) (te : TE) : TE := fun σ H Q => te σ H fun x H1 => ∃ a xs, x = .ref a ∧ ((SqL K H1 a xs ∧ ∀ p, H1 p = none → Q (.ref p) (L2.upd H1 p (.lst xs.reverse))) ∨ (SqT K H1 a xs ∧ ∀ p, H1 p = none → Q (.ref p) (L2.upd H1 p (.tup xs.reverse))))
theorem pe_revA (he : PE X e te) : PE X (.Subscript e (.Slice none none (some (.UnaryOp .USub (.Constant (.int 1) k p1) p2)) p3) pos) (tRevA X.K te) := by
  refine ⟨fun pins s σ H Q I h => ?_⟩
  refine Subscript_ (thn (he.run pins s σ H _ I h) fun v s1 ⟨x, H1, I1, r1, q1⟩ => ?_)
  obtain ⟨a, xs, ex, q1⟩ := q1
  subst ex
  cases r1
  have hst : PO X (some (.UnaryOp .USub (.Constant (.int 1) k p1) p2)) (tPart (tUn (rU fun i => .int (-i)) (tC (.int 1)))) := po_some (pe_un un_neg pe_int)
  refine wpAny_Slice (thn (po_none.run pins s1 σ H1 (fun o H2 => o = none ∧ H2 = H1) I1 ⟨rfl, rfl⟩) fun vl s2 ⟨l, H2, I2, pl, el, e2⟩ => ?_)
  subst el e2
  refine thn (po_none.run pins s2 σ H2 (fun o H3 => o = none ∧ H3 = H2) I2 ⟨rfl, rfl⟩) fun vu s3 ⟨u, H3, I3, pu, eu, e3⟩ => ?_
  subst eu e3
  refine thn (hst.run pins s3 σ H3 (fun o H4 => o = some (-1) ∧ H4 = H3) I3 ⟨1, rfl, -1, rfl, rfl, rfl⟩) fun vs s4 ⟨o, H4, I4, ps, eo, e4⟩ => ?_
  subst eo e4
  have I5 : Inv X pins σ H4 { s4 with heap := s4.heap.push { cls := .type "slice", data := .fields #[vl, vu, vs] } } := I4.kept (t' := s4.toks) fun b ob q => Heap.get?_push_of_some _ q
  rcases q1 with ⟨hx, q⟩ | ⟨hx, q⟩
  · obtain ⟨its, r, ht, hz⟩ := I5.list hx
    have hlen := r.length
    show wpAny (model X.prog X.w) X.A (subscriptTail e (.Slice none none (some (.UnaryOp .USub (.Constant (.int 1) k p1) p2)) p3) (.ref a) (.ref s4.heap.objs.size)) (EP X pins σ Q) X.xe { s4 with heap := s4.heap.push { cls := .type "slice", data := .fields #[vl, vu, vs] } }
    refine tail_any (ops := [.ref a, .ref s4.heap.objs.size]) ht.isList.typeIs (PySem.slot_list_getitem.lookup) ?_ (by with_unfolding_all rfl)
    refine wpAny_getItem_list_slice ht.isList (Heap.IsSliceOf.new _ vl vu vs) pl pu ps (by decide) ?_ (by rw [List.size_toArray]; omega)
    rw [PySem.W.krv_pick]
    refine ⟨.ref _, _, I5.laid (t' := s4.toks) (o := .lst xs.reverse) (fun b ob q => Heap.get?_push_of_some _ q) (Nat.le_refl _) ?_, rfl, q _ (I5.hok.fresh (Nat.le_refl _))⟩
    exact ⟨by rw [List.length_reverse]; exact hz, _, 0, r.reverse, Heap.get?_push_size _ rfl⟩
  · obtain ⟨its, r, ht, hz⟩ := I5.tuple hx
    have hlen := r.length
    cases pl
    cases pu
    show wpAny (model X.prog X.w) X.A (subscriptTail e (.Slice none none (some (.UnaryOp .USub (.Constant (.int 1) k p1) p2)) p3) (.ref a) (.ref s4.heap.objs.size)) (EP X pins σ Q) X.xe { s4 with heap := s4.heap.push { cls := .type "slice", data := .fields #[.none, .none, vs] } }
    refine tail_any (ops := [.ref a, .ref s4.heap.objs.size]) ht.typeIs (PyProof.Rows.slot_tuple_getitem.lookup) ?_ (by with_unfolding_all rfl)
    refine getItem_tuple_rev ht (Heap.IsSliceOf.new _ .none .none vs) ps ?_ (by rw [List.size_toArray]; omega)
    refine ⟨.ref _, _, I5.laid (t' := s4.toks) (o := .tup xs.reverse) (fun b ob q => Heap.get?_push_of_some _ q) (Nat.le_refl _) ?_, rfl, q _ (I5.hok.fresh (Nat.le_refl _))⟩
    exact ⟨by rw [List.length_reverse]; exact hz, _, r.reverse, IsTup.new _ _⟩
end
theorem Reps.rev {K : Kx} {H : Hp} : ∀ {ds : List D} {vs : List V}, Reps K H ds vs → Reps K H ds.reverse vs.reverse
  | _, _, .nil => .nil
  | _, _, .cons r rs => by
    rw [List.reverse_cons, List.reverse_cons]
    exact rs.rev.append (.cons r .nil)
section
variable {n : Nat} {T : Nat → Option FD} {c : SC} {X : Cx} {A : Anc} {ex : EX} {a : Expr} {wa : Env → Store → KD → Prop} {k : Nat} {p1 p2 p3 pos : Pos}
theorem s_rev (ha : PE X a (LE X.x A wa)) : PE X (.Subscript a (.Slice none none (some (.UnaryOp .USub (.Constant (.int 1) k p1) p2)) p3) pos) (LE X.x A fun env S Q => wa env S fun x S1 => sRev x S1 Q) := by
  refine pe_of (pe_revA ha) fun σ H Q ⟨env, S, Q0, h1, hs, hf, hw, hq⟩ => ?_
  refine ⟨env, S, _, h1, hs, hf, hw, fun x S1 v H1 w f1 s1 r1 => ?_⟩
  have hb := hq.at f1
  unfold sRev at w
  split at w
  · cases r1 with
    | tup h r => exact ⟨_, _, rfl, .inr ⟨h, hb.tup s1 w r.rev⟩⟩
  · cases r1 with
    | rol h r => exact ⟨_, _, rfl, .inl ⟨h.l, hb.lst s1 w r.rev⟩⟩
  · cases r1
    split at w
    · rename_i xs e
      obtain ⟨vs, h, r⟩ := s1.lst e
      exact ⟨_, _, rfl, .inl ⟨.inl (.inl h), hb.lst s1 w r.rev⟩⟩
    · exact w.elim
  · exact w.elim
end
/-! ### list(d.items()) -/
section
variable {X : Cx} {e : Expr} {te : TE} {p apos cpos pos : Pos}
def tItmsP (X : Cx) (te : TE) : TE := fun σ H Q => te σ H fun x H1 => ∃ (d : Addr) (st : Obj) (kvs : List (Key × V)), x = .ref d ∧ H1 d = some (.ext (PinK X.x d st kvs)) ∧
  ∀ (H' : Hp) (p : Addr) (ts : List Addr), (∀ b o, H1 b = some o → H' b = some o) → H1 p = none → H' p = some (.lst (ts.map V.ref)) → Paired (fun (t : Addr) (q : Key × V) => H' t = some (.tup [kV q.1, q.2])) ts kvs → Q (.ref p) H'
theorem pe_itmsP (hc : X.calm = true) (he : PE X e te) (hg : Gl X "list") (hm : X.mg "list" = none) (hv : bootBuiltins "list" = some (.type "list")) (hbase : attributeBase e "items" X.env (eval e X.env) = eval e X.env) (hline : (apos.endLine == cpos.line) = true) :
    PE X (.Call (.Name "list" p) [.Call (.Attribute e "items" apos) [] [] cpos] [] pos) (tItmsP X te) := by
  have hs : starEach [.Call (.Attribute e "items" apos) [] [] cpos] X.env = (false, eval (.Call (.Attribute e "items" apos) [] [] cpos) X.env) :: starEach [] X.env := rfl
  refine ⟨fun pins s σ H Q I hq => ?_⟩
  refine wpAny_Call_Name_kw (ld_blt I hg hm hv ?_)
  refine PyProof.Rows.callWith_type1 ?_ hs rfl
  rw [hs]
  show wpAny _ _ (spliced ((false, eval (.Call (.Attribute e "items" apos) [] [] cpos) X.env) :: backTo pos (starEach [] X.env))) _ _ s
  refine Calls.spliced_cons ?_
  refine wpAny_Call_method (T := "dict") (id := "dict.items") hbase rfl hline F.plainAttrs_dict F.slot_dict_items F.type_dict_items (thn (he.run pins s σ H _ I hq) fun u s1 ⟨x, H1, I1, rx, d, st, kvs, ex, hd, q⟩ => ?_)
  subst ex
  obtain rfl : u = Value.ref d := rx
  obtain ⟨_, hz, hs0, vs, kv, hdo⟩ := pin_ok I1 hd
  obtain ⟨ep, hat⟩ := hdo.dictAt
  have lk : kvs.length = vs.length := Paired.length kv
  have I2 : Inv X pins σ H1 { s1 with heap := s1.heap.push { cls := .type "dict_items", data := .fields #[.ref d] } } := I1.kept (t' := s1.toks) fun b ob q => Heap.get?_push_of_some _ q
  refine ⟨hdo.typeIs, hdo.mapOf.noDict, ?_⟩
  show wpAny _ _ (callWith cpos (.builtin "dict.items") [.ref d] [] []) _ X.xe s1
  refine method_meetsIn F.slot_dict_items F.entry_dict_items rfl (PySem.evalArgs_none ⟨rfl, hdo.typeIs, F.args_dict_items_1 _, _, meets_dict_items (mixKind X.prog X.w) d hs0, ⟨vs, hdo⟩, ?_⟩)
  refine Calls.spliced_nil ?_
  refine PySem.W.kdx_call (knd := mixKind X.prog X.w) (kvs := vs) (ep := ep) (I1.ok.hd hc) ⟨_, Heap.get?_push_size _ rfl, rfl, rfl⟩ (hat.push _) (by omega) fun h' tk acc c as hk hS hl hG hacc => ?_
  obtain ⟨H', k1, k2, k3, k4, k5, k6, J⟩ := LiI.items_laid (tk := tk) I2 hz kv hk hS hl hG hacc
  exact ⟨.ref _, H', J, rfl, q H' _ as k1 k2 k5 k6⟩
end
theorem itms_reps {K : Kx} {H : Hp} : ∀ {kvs : List (D × D)} {kv : List (Key × V)} {ts : List Addr}, KR K H kvs kv → Paired (fun (t : Addr) (q : Key × V) => H t = some (.tup [kV q.1, q.2])) ts kv → Reps K H (kvs.map fun p => .tup [p.1, p.2]) (ts.map V.ref)
  | [], _, _, .nil, .nil => .nil
  | _ :: _, _, _, .cons (k := k) r rs, .cons h hs => .cons (.tup (.inl (.inl h)) (.cons (keyD_kV K H k) (.cons r .nil))) (itms_reps rs hs)
section
variable {n : Nat} {T : Nat → Option FD} {c : SC} {X : Cx} {A : Anc} {ex : EX} {a : Expr} {wa : Env → Store → KD → Prop} {p1 apos cpos pos : Pos}
theorem s_itms (k : Cok n T c X A ex) (h1 : gliB c.names "list" = true) (hb : callNB a = false) (hl : (apos.endLine == cpos.line) = true) (ha : PE X a (LE X.x A wa)) :
    PE X (.Call (.Name "list" p1) [.Call (.Attribute a "items" apos) [] [] cpos] [] pos) (LE X.x A fun env S Q => wa env S fun x S1 => sItms x S1 Q) := by
  refine pe_of (pe_itmsP k.calm ha (kind_gl k h1) (k.bl _ (by decide)) (by decide +kernel) (base_plain (callNB_ne hb)) hl) fun σ H Q ⟨env, S, Q0, h1, hs, hf, hw, hq⟩ => ?_
  refine ⟨env, S, _, h1, hs, hf, hw, fun x S1 v H1 w f1 s1 r1 => ?_⟩
  have hb := hq.at f1
  unfold sItms at w
  split at w
  · cases r1
    rename_i d _ _
    split at w
    · rename_i kvs st e
      obtain ⟨w1, w2⟩ := w
      obtain ⟨kv, e1, r⟩ := s1.dic e w1
      refine ⟨_, st, kv, rfl, e1, fun H' p ts k1 k2 k3 k4 => ?_⟩
      have st' : Stay H1 H' := .of_ext k1
      refine hb _ _ _ _ (w2 p (s1.fresh k2)) (fun q o hq hn => ⟨k1 q o hq, by rw [upd_ne (L2.ne_of_none hq k2)]; exact hn⟩) (fun b o hbo => ?_) (.obj p)
      by_cases hbp : b = p
      · subst hbp
        rw [upd_same] at hbo
        cases hbo
        exact ⟨_, k3, itms_reps (r.stay st') k4⟩
      · rw [upd_ne hbp] at hbo
        exact (s1 b o hbo).stay st' fun u => k1 b u
    · exact w.elim
  · exact w.elim
end
/-! ### list(range(n)) -/
section
variable {X : Cx}
def nV (k : Nat) : V := .int (k : Int)
def rRange1 : List V → Hp → VK → Prop := fun vs H Q => ∃ i, vs = [V.int i] ∧ ∀ p, H p = none → Q (.ref p) (L2.upd H p (.rng 0 i))
theorem cr_range1 : CallR X (.type "range") rRange1 := by
  intro pins s σ H vs us Q I r h
  obtain ⟨i, rfl, q⟩ := h
  obtain ⟨u1, rfl, ri⟩ := Vals.one r
  obtain ⟨t, rfl⟩ := ri
  refine call_range_1 ⟨.ref s.heap.objs.size, L2.upd H s.heap.objs.size (.rng 0 i), I.laid (t' := s.toks + 2) (fun b o e => Heap.get?_push_of_some _ e) (Nat.le_refl _) ?_, rfl, q _ (I.hok.fresh (Nat.le_refl _))⟩
  exact ⟨_, _, _, Heap.get?_push_size _ rfl⟩
def rListRng : List V → Hp → VK → Prop := fun vs H Q => ∃ a i, vs = [V.ref a] ∧ H a = some (.rng 0 i) ∧ 0 ≤ i ∧ i ≤ 10000 ∧ ∀ p, H p = none → Q (.ref p) (L2.upd H p (.lst ((List.range i.toNat).map nV)))
theorem rng_vals : ∀ (acc : List Value) (lo : Nat), (∀ (i : Nat) v, acc[i]? = some v → ∃ t, v = .int ((lo : Int) + (i : Int)) t) → Vals ((List.range' lo acc.length).map nV) acc
  | [], _, _ => .nil
  | v :: r, lo, h => by
    rw [List.length_cons, List.range'_succ, List.map_cons]
    obtain ⟨t, e⟩ := h 0 v rfl
    refine .cons ⟨t, by rw [e]; simp⟩ (rng_vals r (lo + 1) fun i w hw => ?_)
    obtain ⟨t', e'⟩ := h (i + 1) w hw
    exact ⟨t', by rw [e']; congr 1; omega⟩
theorem cr_listRng (hc : X.calm = true) : CallR X (.type "list") rListRng := by
  intro pins s σ H vs us Q I r h
  obtain ⟨a, i, rfl, hH, h0, h1, q⟩ := h
  obtain ⟨u1, rfl, ri⟩ := Vals.one r
  cases (show u1 = Value.ref a from ri)
  obtain ⟨t, u, v, ho⟩ := I.hok a _ hH
  refine call_list_range (n := i.toNat) (I.ok.hd hc) ho ?_ ?_ (by omega) fun h' tk acc c hk hD hI => ?_
  · have hr1 : Builtin.Range.rangeSize 0 i 1 = i := by
      rw [rangeSize_one]
      split <;> omega
    unfold Builtin.Range.small
    rw [hr1]
    have f : ∀ j : Int, -1 ≤ j → j ≤ 20000 → Builtin.Range.rangeFitsLong j = true := fun j a b => by
      unfold Builtin.Range.rangeFitsLong
      rw [Bool.and_eq_true, decide_eq_true_eq, decide_eq_true_eq]
      omega
    rw [f 0 (by omega) (by omega), f i (by omega) (by omega), f 1 (by omega) (by omega)]
    rw [if_pos (by decide), f (i + (1 - 1)) (by omega) (by omega)]
    simp
  · rw [rangeSize_one]
    split <;> omega
  · have hv := rng_vals acc.toList 0 fun j w hj => by
      obtain ⟨t', e'⟩ := hI.2 j w (by rw [← hj, Array.getElem?_toList])
      exact ⟨t', by rw [e']; congr 1; omega⟩
    rw [Array.length_toList, hI.1, ← List.range_eq_range'] at hv
    refine ⟨.ref _, _, I.laid (t' := tk) (o := .lst ((List.range i.toNat).map nV)) hk (Nat.le_refl _) ?_, rfl, q _ (I.hok.fresh (Nat.le_refl _))⟩
    exact ⟨by rw [List.length_map, List.length_range, sizeLine_eq]; omega, acc.toList, c, hv, by rw [Array.toArray_toList]; exact hD⟩
end
theorem rngD_reps {K : Kx} {H : Hp} {n : Nat} : Reps K H (rngD 0 n) ((List.range n).map nV) := by
  have key : ∀ (n : Nat) (lo : Nat), Reps K H (rngD (lo : Int) n) ((List.range' lo n).map nV) := by
    intro n
    induction n with
    | zero => intro lo; exact .nil
    | succ n ih => intro lo; rw [rngD, List.range'_succ, List.map_cons]; exact .cons (.int _) (ih (lo + 1))
  rw [List.range_eq_range']
  exact key n 0
section
variable {n : Nat} {T : Nat → Option FD} {c : SC} {X : Cx} {A : Anc} {ex : EX} {a : Expr} {wa : Env → Store → KD → Prop} {p1 p2 cpos pos : Pos}
theorem s_lrng (k : Cok n T c X A ex) (h1 : gliB c.names "list" = true) (h2 : gliB c.names "range" = true) (hst : starB a = false) (ha : PE X a (LE X.x A wa)) :
    PE X (.Call (.Name "list" p1) [.Call (.Name "range" p2) [a] [] cpos] [] pos) (LE X.x A fun env S Q => wa env S fun x S1 => sLrng x S1 Q) := by
  have hin := pe_callTy (pos := cpos) (p := p2) (cr_range1 (X := X)) (kind_gl k h2) (k.bl _ (by decide)) (by decide +kernel) (pa_cons ha pa_nil (star_cons hst)) (he := star_cons hst) (hpl := rfl)
  have hs : starEach [Expr.Call (.Name "range" p2) [a] [] cpos] X.env = (false, eval (Expr.Call (.Name "range" p2) [a] [] cpos) X.env) :: starEach [] X.env := star_cons rfl
  refine pe_of (pe_callTy (cr_listRng k.calm) (kind_gl k h1) (k.bl _ (by decide)) (by decide +kernel) (pa_cons hin pa_nil hs) (he := hs) (hpl := rfl)) fun σ H Q ⟨env, S, Q0, h1, hs, hf, hw, hq⟩ => ?_
  refine ⟨env, S, _, h1, hs, hf, hw, fun x S1 v H1 w f1 s1 r1 => ?_⟩
  have hb := hq.at f1
  unfold sLrng at w
  split at w
  · cases r1
    rename_i i
    obtain ⟨⟨i0, i1⟩, w⟩ := w
    refine ⟨i, rfl, fun p hp => ⟨p, i, rfl, L2.upd_same, i0, i1, fun q hq' => ?_⟩⟩
    have e1 : ∀ a u, H1 a = some u → L2.upd H1 p (.rng 0 i) a = some u := ext_upd hp
    have s2 := s1.ext e1
    exact (hb.at (.ext e1)).lst s2 w rngD_reps q hq'
  · exact w.elim
end
end Mn

/-! SimEn: enumerate of a tuple. -/
namespace Mn
open PySem PySem.Spec PyProof.Rows L2
set_option maxHeartbeats 1000000 in
theorem newE {v : Value} {o : Obj} {H : Heap → Prop} (B : Begins v o H) :
    Meets (Builtin.«enumerate.__new__» ⟨[.type "enumerate", v], []⟩) (fun _ R s => H s.heap ∧ R (.ok (.ret (.ref (s.heap.push o).objs.size)))
      { s with heap := (s.heap.push o).push { cls := .type "enumerate", data := .fields #[.none, .bool false, .ref s.heap.objs.size, rawInt 0, .none, .none] } }) :=
  .of_wp fun prog w A R s h => by
    obtain ⟨hp, g, d, tk, os⟩ := s
    obtain ⟨h1, h⟩ := h
    have hsub := sub_enumerate
    have q1 : ∀ {A' : Around} {E Q : Value → Shared → Prop}, Q (.ref hp.objs.size) ⟨hp.push o, g, d, tk, os⟩ → wpAny (model prog w) A' (pyIter v) Q E ⟨hp, g, d, tk, os⟩ := fun q => B.iter prog w _ _ ⟨hp, g, d, tk, os⟩ _ h1 q
    wp_walk using q1
    refine wpAny_stack_any fun st => wpAny_pure ?_
    split
    · rename_i c _ _ _ _ _
      cases (c == Value.type "enumerate") <;>
      · wp_walk using q1
        exact ⟨_, rfl, h⟩
    · wp_walk using q1
      exact ⟨_, rfl, h⟩
theorem callE {prog : Program} {w : World} {A : Around} {E : Value → Shared → Prop} {s : Shared} {v : Value} {o : Obj} {H : Heap → Prop} {Q : Value → Shared → Prop} (B : Begins v o H) (h1 : H s.heap)
    (h : ∀ h', IsEnum h' (s.heap.objs.size + 1) s.heap.objs.size 0 .none → h'.get? s.heap.objs.size = some o → (∀ b o, s.heap.get? b = some o → h'.get? b = some o) → Q (.ref (s.heap.objs.size + 1)) { s with heap := h' }) :
    wpAny (model prog w) A (call (.type "enumerate") [v]) Q E s := by
  refine callType_new F.called_enumerate (by decide) (F.typeCall_enumerate_1 _) (F.newCall_enumerate_1 _) (fun obj => F.args_object_init_2 obj _) F.entry_enumerate_new (newE B) ⟨h1, ?_⟩
  have hz : (s.heap.push o).objs.size = s.heap.objs.size + 1 := Heap.size_push ..
  show _ ∧ _
  rw [hz]
  have he : IsEnum ((s.heap.push o).push { cls := .type "enumerate", data := .fields #[.none, .bool false, .ref s.heap.objs.size, rawInt 0, .none, .none] }) (s.heap.objs.size + 1) s.heap.objs.size 0 .none := by
    have q := Heap.get?_push_size (s.heap.push o) (o := { cls := .type "enumerate", data := .fields #[.none, .bool false, .ref s.heap.objs.size, rawInt 0, .none, .none] }) rfl
    rw [hz] at q
    exact q
  exact ⟨⟨_, he, rfl⟩, h _ he (Heap.get?_push_of_some _ (Heap.get?_push_size _ B.free)) fun b u x => Heap.get?_push_of_some _ (Heap.get?_push_of_some _ x)⟩
/-- a tuple's things with their numbers, in new pairs -/
def IteT (K : PySem.W.Frag) (a : Addr) : L2.It where
  go := fun i H => ∃ (xs : List V) (x : V), SqT K H a xs ∧ xs[i]? = some x
  yld := fun i H v H' => ∃ T x, v = .ref T ∧ H T = none ∧ H' = L2.upd H T (.tup [.int (i : Nat), x]) ∧ ∀ xs, SqT K H a xs → xs[i]? = some x
  stop := fun i H => ∃ xs : List V, SqT K H a xs ∧ xs.length = i
theorem sqt_lt {X : Cx} {pins : List (Addr × Obj)} {σ : L2.St} {H : Hp} {s : Shared} {a : Addr} {xs : List V} (I : Inv X pins σ H s) (h : SqT X.K H a xs) : ∃ o, s.heap.get? a = some o := by
  obtain ⟨its, _, ⟨o, ho, _⟩, _⟩ := I.tuple h
  exact ⟨o, ho⟩
theorem turn_enumT {P : Program} {w : World} {K : PySem.W.Frag} {elts : List Expr} {kk : Nat} {tpos : Pos} (a e it : Addr) (items : Array Value) (hna : a ≠ it) (hne : e ≠ it) :
    Turn P w K (.Tuple elts kk tpos) (IteT K a) [e, it] e (fun i h => (∃ old, IsEnum h e it ((i : Nat) : Int) old) ∧ h.IsTupleIter it a i) where
  mem := List.mem_cons_self
  obj := fun i h st b hb => by
    obtain ⟨⟨old, he⟩, ⟨o, ho, hc, hd⟩⟩ := st
    rcases List.mem_cons.mp hb with z | z
    · subst z
      exact ⟨_, he, fun v q => by cases q⟩
    · rw [List.mem_singleton.mp z]
      exact ⟨o, ho, fun v q => by rw [hd] at q; cases q⟩
  keep := fun i h h' st k => ⟨let ⟨old, he⟩ := st.1; ⟨old, k e List.mem_cons_self _ he⟩, st.2.at fun o q => k it (List.mem_cons_of_mem _ (List.mem_singleton.mpr rfl)) o q⟩
  item := by
    intro X hP hw hK hc i pins s σ H E I hf st hg
    subst hP hw hK
    obtain ⟨⟨old, he⟩, hit⟩ := st
    obtain ⟨xs, x, hq, hx⟩ := hg
    obtain ⟨its, rv, p, hz⟩ := I.tuple hq
    obtain ⟨u, hu, ru⟩ := rv.get hx
    have hil : it < s.heap.objs.size := let ⟨_, q, _⟩ := hit; Heap.lt_size q
    have hel : e < s.heap.objs.size := Heap.lt_size he
    have hi : i < its.length := (List.getElem?_eq_some_iff.mp hu).1
    have Dr := Draws.tuple (prog := X.prog) (w := X.w) (A := X.A.in1) (I.ok.hd hc) it a hna its.toArray
    by_cases hea : e = a
    · exfalso
      obtain ⟨o, ho, hcl, _⟩ := p
      have q := he
      rw [hea] at q
      rw [← Option.some.inj (ho.symm.trans q).symm] at hcl
      have z : Value.type "enumerate" = Value.type "tuple" := hcl
      injection z with z
      exact absurd z (by decide)
    refine wpAny_pyNext_enum_itemD Dr he ⟨hit, p⟩ (by simpa using hi) hne (by simp [hne, hea]) fun y h' tk hy ho hit' hT hsz hk => ?_
    have hy : its.toArray[i]? = some y := hy
    have eu : y = u := by
      rw [List.getElem?_toArray, hu] at hy
      exact (Option.some.inj hy).symm
    subst eu
    refine ⟨_, rfl, wpAny_letOwnedTupleGo_enum (s := { s with heap := h', toks := tk + 1 }) ho fun h2 he' sb => ?_⟩
    have hT2 : h2.get? s.heap.objs.size = some { cls := .type "tuple", data := .seq #[.int i tk, y] } := (sb.2 _ (Nat.ne_of_gt hel)).trans hT
    have new : ObjOk X.prog X.w (L2.upd H s.heap.objs.size (.tup [.int (i : Nat), x])) h2 s.heap.objs.size (.tup [.int (i : Nat), x]) := ⟨by show 2 ≤ sizeLine; decide, [.int i tk, y], .cons ⟨_, rfl⟩ (.cons ru .nil), ⟨_, hT2, rfl, _, rfl⟩⟩
    have I1 : Inv X pins σ (L2.upd H s.heap.objs.size (.tup [.int (i : Nat), x])) { s with heap := h2, toks := tk + 1 } :=
      I.turnedNew (ch := [e, it]) (fun b ob hb q => (sb.2 b (fun z => hb (by simp [z]))).trans (hk b ob (fun z => hb (by simp [z])) (fun z => hb (by simp [z])) q)) hf (Nat.le_refl _) new
    refine ⟨.ref s.heap.objs.size, _, I1, rfl, ⟨_, x, rfl, I.hok.fresh (Nat.le_refl _), rfl, fun ys hys => by rw [I.tuple_inj hys hq]; exact hx⟩, ⟨⟨y, ?_⟩, hit'.1.at fun o q => (sb.2 it (Ne.symm hne)).trans q⟩, fun b hb => ?_⟩
    · have e1 : ((i + 1 : Nat) : Int) = (i : Int) + 1 := by omega
      rw [e1]
      exact he'
    · have hb' : b < s.heap.objs.size := by
        rcases List.mem_cons.mp hb with z | z
        · rw [z]; exact hel
        · rw [List.mem_singleton.mp z]; exact hil
      rw [L2.upd_ne (Nat.ne_of_lt hb')]
      exact (hf b hb).1
  done := by
    intro X hP hw hK hc i pins s σ H E I hf st hg
    subst hP hw hK
    obtain ⟨⟨old, he⟩, hit⟩ := st
    obtain ⟨xs, hq, hx⟩ := hg
    obtain ⟨its, rv, p, hz⟩ := I.tuple hq
    obtain ⟨f0, f1, f2, f3, f4, f5⟩ := hf it (by simp)
    have Dr := Draws.tuple (prog := X.prog) (w := X.w) (A := X.A.in1) (I.ok.hd hc) it a hna its.toArray
    have hn : its.toArray.size = i := by rw [List.size_toArray, ← rv.length]; exact hx
    exact wpAny_pyNext_enum_endD Dr he (by rw [hn]; exact ⟨hit, p⟩) fun h' eb => ⟨rfl, I.turned (t' := s.toks) (fun b o hb q => eb b o hb q) f0 f1 f3 f4 f5⟩
  self := fun A i s Q E st h => let ⟨⟨_, he⟩, _⟩ := st; wpAny_pyIter_enum he h
end Mn

/-! SimZ: list(zip(a, b)) of lists and tuples. -/
namespace Mn
open PySem PySem.Spec PyProof.Rows L2
section
variable {prog : Program} {w : World} {A : Around} {E : Value → Shared → Prop} {s : Shared} {z TI TO i1 i2 T : Addr} {fa fb : List Addr} {na nb i : Nat} {Pa Pb : Nat → Value → Prop} {Sa Sb : Nat → Heap → Prop} {fl : Bool} {oT : Obj}
/-- a turn of a zip whose last pair T is kept by somebody -/
theorem zk_item {Q : Value → Shared → Prop} (sp : ZipSep2 z TI TO i1 i2 fa fb) (Da : Draws prog w A i1 fa na Pa Sa) (Db : Draws prog w A i2 fb nb Pb Sb)
    (hz : IsZipHeld s.heap z TI TO T fl) (hT : s.heap.get? T = some oT) (hI : IsTupOf2 s.heap TI (.ref i1) (.ref i2)) (sa : Sa i s.heap) (sb : Sb i s.heap) (la : i < na) (lb : i < nb)
    (hQ : ∀ x y k tk, Pa i x → Pb i y → IsZipHeld k z TI TO T true → Sa (i + 1) k → Sb (i + 1) k → IsTupOf2 k s.heap.objs.size x y → (∀ c o, c ≠ z → c ≠ i1 → c ≠ i2 → s.heap.get? c = some o → k.get? c = some o) →
      Q (.ref s.heap.objs.size) { s with heap := k, toks := tk }) :
    wpAny (model prog w) A (Builtin.«zip.__next__» ⟨[.ref z], []⟩) (fun fin s' => ∃ v, fin = .done (.ret v) ∧ Q v s') E s := by
  obtain ⟨hp, g, d, tk0, os⟩ := s
  refine wpAny_bind (m := field (.ref z) 2) (wpAny_field hz rfl (x := .bool false) rfl ?_)
  refine wpAny_bind (m := field (.ref z) 3) (wpAny_field hz rfl (x := .ref TI) rfl ?_)
  refine wpAny_bind (wpAny_seqItems hI rfl ?_)
  refine wpAny_bind (m := Builtin.SmallTypes.ownedTupleIsFree (.ref z)) (wpAny_tupleHeld_zip hz hT fun p0 hz0 b0 => ?_)
  replace b0 : Heap.SameBut z hp p0 := b0
  simp only [Bool.false_eq_true, if_false]
  refine wpAny_bind ?_
  rw [← Array.forIn_toList]
  simp only [List.forIn_cons, List.forIn_nil]
  refine wpAny_bind (wpAny_bind (wpAny_holding ?_))
  show wpAny _ _ (Builtin.SmallTypes.nextOf (.ref i1) >>= _) _ _ ⟨p0, g, d, tk0, os⟩
  refine wpAny_bind (Da.item i _ _ _ la (Da.over sa b0 sp.zf1) fun x p1 t1 hx sa1 b1 => wpAny_pure ?_)
  replace b1 : Heap.SameBut i1 p0 p1 := b1
  refine wpAny_pure ?_
  refine wpAny_bind (wpAny_bind (wpAny_holding ?_))
  show wpAny _ _ (Builtin.SmallTypes.nextOf (.ref i2) >>= _) _ _ ⟨p1, g, d, t1, os⟩
  refine wpAny_bind (Db.item i _ _ _ lb (Db.over (Db.over sb b0 sp.zf2) b1 sp.sep1_2) fun y p2 t2 hy sb1 b2 => wpAny_pure ?_)
  replace b2 : Heap.SameBut i2 p1 p2 := b2
  refine wpAny_pure (wpAny_pure ?_)
  show wpAny _ _ (newTuple [x, y] >>= _) _ _ ⟨p2, g, d, t2, os⟩
  refine wpAny_bind (wpAny_newTuple ?_)
  have e : p2.objs.size = hp.objs.size := by rw [b2.1, b1.1, b0.1]
  have z2 : IsZipHeld p2 z TI TO T true := b2.extBut _ _ sp.zi2 (b1.extBut _ _ sp.zi1 hz0)
  have up : ∀ c o, p2.get? c = some o → (p2.push { cls := .type "tuple", data := .seq #[x, y] }).get? c = some o := fun c o q => Heap.get?_push_of_some _ q
  have new : IsTupOf2 (p2.push { cls := .type "tuple", data := .seq #[x, y] }) p2.objs.size x y := Heap.get?_push_size _ rfl
  rw [e] at new
  refine wpAny_pure ⟨_, rfl, ?_⟩
  show Q (.ref p2.objs.size) ⟨_, g, d, t2, os⟩
  rw [e]
  exact hQ x y _ t2 hx hy (up _ _ z2) (Da.frame _ _ _ (Da.over sa1 b2 sp.sep2_1) fun b _ o q => up b o q) (Db.frame _ _ _ sb1 fun b _ o q => up b o q) new fun c o h0 h1 h2 q => up c o (b2.extBut _ _ h2 (b1.extBut _ _ h1 (b0.extBut _ _ h0 q)))
theorem zk_done {Q : Fin → Shared → Prop} (sp : ZipSep2 z TI TO i1 i2 fa fb) (Da : Draws prog w A i1 fa na Pa Sa) (Db : Draws prog w A i2 fb nb Pb Sb)
    (hz : IsZipHeld s.heap z TI TO T fl) (hT : s.heap.get? T = some oT) (hI : IsTupOf2 s.heap TI (.ref i1) (.ref i2)) (sa : Sa i s.heap) (sb : Sb i s.heap) (la : i ≤ na) (lb : i ≤ nb) (le : i = na ∨ i = nb)
    (hE : ∀ k tk e, (∀ c o, c ≠ z → c ≠ i1 → c ≠ i2 → s.heap.get? c = some o → k.get? c = some o) → (∃ o, k.get? e = some o ∧ o.cls = .type "StopIteration") → E (.ref e) { s with heap := k, toks := tk }) :
    wpAny (model prog w) A (Builtin.«zip.__next__» ⟨[.ref z], []⟩) Q E s := by
  obtain ⟨hp, g, d, tk0, os⟩ := s
  refine wpAny_bind (m := field (.ref z) 2) (wpAny_field hz rfl (x := .bool false) rfl ?_)
  refine wpAny_bind (m := field (.ref z) 3) (wpAny_field hz rfl (x := .ref TI) rfl ?_)
  refine wpAny_bind (wpAny_seqItems hI rfl ?_)
  refine wpAny_bind (m := Builtin.SmallTypes.ownedTupleIsFree (.ref z)) (wpAny_tupleHeld_zip hz hT fun p0 hz0 b0 => ?_)
  replace b0 : Heap.SameBut z hp p0 := b0
  simp only [Bool.false_eq_true, if_false]
  refine wpAny_bind ?_
  rw [← Array.forIn_toList]
  simp only [List.forIn_cons, List.forIn_nil]
  refine wpAny_bind (wpAny_bind (wpAny_holding ?_))
  show wpAny _ _ (Builtin.SmallTypes.nextOf (.ref i1) >>= _) _ _ ⟨p0, g, d, tk0, os⟩
  by_cases l1 : i < na
  · have eb : i = nb := by omega
    refine wpAny_bind (Da.item i _ _ _ l1 (Da.over sa b0 sp.zf1) fun x p1 t1 hx sa1 b1 => wpAny_pure ?_)
    replace b1 : Heap.SameBut i1 p0 p1 := b1
    refine wpAny_pure ?_
    refine wpAny_bind (wpAny_bind (wpAny_holding ?_))
    show wpAny _ _ (Builtin.SmallTypes.nextOf (.ref i2) >>= _) _ _ ⟨p1, g, d, t1, os⟩
    refine wpAny_bind (Db.done ⟨p1, g, d, t1, os⟩ _ _ (by rw [← eb]; exact Db.over (Db.over sb b0 sp.zf2) b1 sp.sep1_2) fun p2 e b2 he => ?_)
    replace b2 : Heap.ExtBut i2 p1 p2 := b2
    exact hE p2 t1 e (fun c o h0 h1 h2 q => b2 _ _ h2 (b1.extBut _ _ h1 (b0.extBut _ _ h0 q))) he
  · have ea : i = na := by omega
    refine wpAny_bind (Da.done ⟨p0, g, d, tk0, os⟩ _ _ (by rw [← ea]; exact Da.over sa b0 sp.zf1) fun p1 e b1 he => ?_)
    replace b1 : Heap.ExtBut i1 p0 p1 := b1
    exact hE p1 tk0 e (fun c o h0 h1 _ q => b1 _ _ h1 (b0.extBut _ _ h0 q)) he
end
/-- a zip ahead of turn i, while the list at S grows -/
structure Zs (Sa Sb : Nat → Heap → Prop) (S z TI TO i1 i2 : Addr) (i : Nat) (h : Heap) : Prop where
  ins : IsTupOf2 h TI (.ref i1) (.ref i2)
  out : ∃ a b, IsTupOf2 h TO a b
  sa : Sa i h
  sb : Sb i h
  st : IsZip h z TI TO .none ∨ ∃ T fl o, IsZipHeld h z TI TO T fl ∧ h.get? T = some o ∧ T ≠ z ∧ T ≠ TO ∧ T ≠ i1 ∧ T ≠ i2 ∧ T ≠ S
/-- the pairs kept so far -/
structure Zp (Pa Pb : Nat → Value → Prop) (lo : Addr) (h : Heap) (as : List Addr) (ps : List (Value × Value)) : Prop where
  len : as.length = ps.length
  rise : as.Pairwise (· < ·)
  above : ∀ a ∈ as, lo < a
  at_ : ∀ (j : Nat) (a : Addr) (p : Value × Value), as[j]? = some a → ps[j]? = some p → IsTupOf2 h a p.1 p.2
  val : ∀ (j : Nat) (p : Value × Value), ps[j]? = some p → Pa j p.1 ∧ Pb j p.2
section
variable {prog : Program} {w : World} {A : Around} {E : Value → Shared → Prop} {s : Shared} {S z TI TO i1 i2 : Addr} {fa fb : List Addr} {na nb i : Nat} {Pa Pb : Nat → Value → Prop} {Sa Sb : Nat → Heap → Prop}
theorem zs_item {Q : Option Value → Shared → Prop} (sp : ZipSep2 z TI TO i1 i2 fa fb) (Da : Draws prog w A.in1 i1 fa na Pa Sa) (Db : Draws prog w A.in1 i2 fb nb Pb Sb)
    (hs : Zs Sa Sb S z TI TO i1 i2 i s.heap) (hS : S < s.heap.objs.size) (la : i < na) (lb : i < nb)
    (hQ : ∀ x y k tk, Pa i x → Pb i y → Zs Sa Sb S z TI TO i1 i2 (i + 1) k → IsTupOf2 k s.heap.objs.size x y → (∀ c o, c ≠ z → c ≠ TO → c ≠ i1 → c ≠ i2 → s.heap.get? c = some o → k.get? c = some o) →
      Q (some (.ref s.heap.objs.size)) { s with heap := k, toks := tk }) : wpAny (model prog w) A (pyNext (.ref z)) Q E s := by
  obtain ⟨hI, ⟨a, b, hO⟩, sa, sb, st⟩ := hs
  have l1 : i1 < s.heap.objs.size := by obtain ⟨_, e⟩ := Da.live _ _ sa; exact Heap.lt_size e
  have l2 : i2 < s.heap.objs.size := by obtain ⟨_, e⟩ := Db.live _ _ sb; exact Heap.lt_size e
  have lO : TO < s.heap.objs.size := Heap.lt_size hO
  rcases st with hz | ⟨T, fl, o, hz, hT, t1, t2, t3, t4, t5⟩
  · have lz : z < s.heap.objs.size := Heap.lt_size hz
    refine wpAny_pyNext_zipD2_item sp Da Db hz hI hO sa sb la lb fun x y k tk hx hy hz' hO' sa' sb' new _ keep => ?_
    refine hQ x y k tk hx hy ⟨keep _ _ sp.TIz sp.TITO sp.TIi1 sp.TIi2 hI, ⟨_, _, hO'⟩, sa', sb', .inr ⟨_, false, _, hz', new, ?_⟩⟩ new keep
    exact ⟨Nat.ne_of_gt lz, Nat.ne_of_gt lO, Nat.ne_of_gt l1, Nat.ne_of_gt l2, Nat.ne_of_gt hS⟩
  · have hTy : s.TypeIs (.ref z) "zip" := ⟨_, hz, rfl⟩
    unfold pyNext
    refine wpAny_bind (wpAny_attempt (wpAny_callSpecial?_slot (name := Str.ofString "__next__") hTy F.slot_zip_next (wpAny_call_entry F.slot_zip_next hTy F.entry_zip_next ?_ (F.args_zip_next_1 _))))
    refine zk_item sp Da Db hz hT hI sa sb la lb fun x y k tk hx hy hz' sa' sb' new keep => wpAny_pure ?_
    exact hQ x y k tk hx hy ⟨keep _ _ sp.TIz sp.TIi1 sp.TIi2 hI, ⟨a, b, keep _ _ sp.TOz sp.Ti1 sp.Ti2 hO⟩, sa', sb', .inr ⟨T, true, o, hz', keep _ _ t1 t3 t4 hT, t1, t2, t3, t4, t5⟩⟩ new fun c o h0 _ h1 h2 e => keep c o h0 h1 h2 e
theorem zs_done {Q : Option Value → Shared → Prop} (sp : ZipSep2 z TI TO i1 i2 fa fb) (Da : Draws prog w A.in1 i1 fa na Pa Sa) (Db : Draws prog w A.in1 i2 fb nb Pb Sb)
    (hs : Zs Sa Sb S z TI TO i1 i2 i s.heap) (la : i ≤ na) (lb : i ≤ nb) (le : i = na ∨ i = nb)
    (hQ : ∀ k tk, (∀ c o, c ≠ z → c ≠ TO → c ≠ i1 → c ≠ i2 → s.heap.get? c = some o → k.get? c = some o) → Q none { s with heap := k, toks := tk }) : wpAny (model prog w) A (pyNext (.ref z)) Q E s := by
  obtain ⟨hI, ⟨a, b, hO⟩, sa, sb, st⟩ := hs
  rcases st with hz | ⟨T, fl, o, hz, hT, t1, t2, t3, t4, t5⟩
  · exact wpAny_pyNext_zipD2_end sp Da Db hz hI hO sa sb la lb le hQ
  · have hTy : s.TypeIs (.ref z) "zip" := ⟨_, hz, rfl⟩
    unfold pyNext
    refine wpAny_bind (wpAny_attempt (wpAny_callSpecial?_slot (name := Str.ofString "__next__") hTy F.slot_zip_next (wpAny_call_entry F.slot_zip_next hTy F.entry_zip_next ?_ (F.args_zip_next_1 _))))
    refine zk_done sp Da Db hz hT hI sa sb la lb le fun k tk e keep he => ?_
    obtain ⟨o2, h2, c2⟩ := he
    refine wpAny_bind (wpAny_isInstance (T := "StopIteration") (b := true) ⟨o2, h2, c2⟩ isSubtype_stop ?_)
    exact wpAny_pure (hQ _ _ fun c o h0 _ h1 h2 e => keep c o h0 h1 h2 e)
theorem Zs.over {h k : Heap} (hs : Zs Sa Sb S z TI TO i1 i2 i h) (Da : Draws prog w A i1 fa na Pa Sa) (Db : Draws prog w A i2 fb nb Pb Sb) (n1 : TI ≠ S) (n2 : TO ≠ S) (n3 : z ≠ S) (na' : S ∉ fa) (nb' : S ∉ fb)
    (hk : ∀ b o, b ≠ S → h.get? b = some o → k.get? b = some o) : Zs Sa Sb S z TI TO i1 i2 i k :=
  ⟨hk _ _ n1 hs.ins, hs.out.imp fun _ => Exists.imp fun _ e => hk _ _ n2 e, Da.frame _ _ _ hs.sa fun b hb o e => hk b o (fun q => na' (q ▸ hb)) e, Db.frame _ _ _ hs.sb fun b hb o e => hk b o (fun q => nb' (q ▸ hb)) e,
    hs.st.elim (fun e => .inl (hk _ _ n3 e)) fun ⟨T, fl, o, e, eT, t1, t2, t3, t4, t5⟩ => .inr ⟨T, fl, o, hk _ _ n3 e, hk _ _ t5 eT, t1, t2, t3, t4, t5⟩⟩
/-- the list at S takes all pairs -/
theorem zs_loop {R : Result → Shared → Prop} {res : Value} {h0 : Heap} (sp : ZipSep2 z TI TO i1 i2 fa fb) (Da : Draws prog w A.in1.in1 i1 fa na Pa Sa) (Db : Draws prog w A.in1.in1 i2 fb nb Pb Sb)
    (n1 : TI ≠ S) (n2 : TO ≠ S) (n3 : z ≠ S) (na' : S ∉ fa) (nb' : S ∉ fb) (hn : min na nb ≤ sizeLine) (hzS : z < S) (hOS : TO < S) (h1S : i1 < S) (h2S : i2 < S)
    (hR : ∀ k tk acc c as ps, (∀ b o, b ≠ S → b ≠ z → b ≠ TO → b ≠ i1 → b ≠ i2 → h0.get? b = some o → k.get? b = some o) → k.get? S = some { cls := .type "list", dict := none, data := .seq acc c, slots := #[] } → ps.length = min na nb → Zp Pa Pb S k as ps →
      acc.toList = as.map Value.ref → R (.ok (.ret res)) { s with heap := k, toks := tk }) :
    ∀ (m i : Nat) (h : Heap) (tk c : Nat) (acc : Array Value) (as : List Addr) (ps : List (Value × Value)), min na nb - i = m → i ≤ min na nb → Zs Sa Sb S z TI TO i1 i2 i h → ps.length = i → Zp Pa Pb S h as ps →
      (∀ b o, b ≠ S → b ≠ z → b ≠ TO → b ≠ i1 → b ≠ i2 → h0.get? b = some o → h.get? b = some o) → h.get? S = some { cls := .type "list", dict := none, data := .seq acc c, slots := #[] } → acc.toList = as.map Value.ref →
      codeAny (model prog w) A (.builtin "list.extend.loop" ⟨[.ref S, .ref z, res], []⟩) R { s with heap := h, toks := tk } := by
  intro m
  induction m with
  | zero =>
    intro i h tk c acc as ps hm hi st hl hp hk hS ha
    refine codeAny_builtin PySem.F.entry_extend_loop ?_
    rw [Around.under_plainId PySem.F.plain_extend_loop _]
    refine wpAny_bind (m := pyNext (.ref z)) (zs_done (s := { s with heap := h, toks := tk }) (A := A.in1) sp Da Db st (by omega) (by omega) (by omega) fun k tk2 keep => ?_)
    refine wpAny_pure (hR k tk2 acc c as ps (fun b o q0 q1 q2 q3 q4 e => keep b o q1 q2 q3 q4 (hk b o q0 q1 q2 q3 q4 e)) (keep S _ n3.symm n2.symm (Nat.ne_of_gt h1S) (Nat.ne_of_gt h2S) hS) (by omega) ⟨hp.len, hp.rise, hp.above, fun j a p e1 e2 => ?_, hp.val⟩ ha)
    have hb := hp.above a (List.mem_of_getElem? e1)
    exact keep a _ (Nat.ne_of_gt (Nat.lt_trans hzS hb)) (Nat.ne_of_gt (Nat.lt_trans hOS hb)) (Nat.ne_of_gt (Nat.lt_trans h1S hb)) (Nat.ne_of_gt (Nat.lt_trans h2S hb)) (hp.at_ j a p e1 e2)
  | succ m ih =>
    intro i h tk c acc as ps hm hi st hl hp hk hS ha
    have hal : as.length = i := by rw [hp.len, hl]
    have hsz : acc.size = i := by rw [← Array.length_toList, ha, List.length_map, hal]
    have hSl : S < h.objs.size := Heap.lt_size hS
    refine codeAny_builtin PySem.F.entry_extend_loop ?_
    rw [Around.under_plainId PySem.F.plain_extend_loop _]
    refine wpAny_bind (m := pyNext (.ref z)) (zs_item (s := { s with heap := h, toks := tk }) (A := A.in1) sp Da Db st hSl (by omega) (by omega) fun x y k tk2 hx hy st2 new keep => ?_)
    dsimp only at new keep ⊢
    have hS2 := keep S _ n3.symm n2.symm (Nat.ne_of_gt h1S) (Nat.ne_of_gt h2S) hS
    generalize hN : h.objs.size = N at *
    have up : ∀ b o, b ≠ S → k.get? b = some o → (k.update S (Obj.mapSeq (·.push (Value.ref N)))).get? b = some o := fun b o hb e => (Heap.get?_update_other _ _ (Ne.symm hb)).trans e
    show wpAny _ A.in1 (updateSeq S (·.push (Value.ref N)) >>= _) _ _ _
    refine wpAny_bind ?_
    refine wpAny_updateSeq hS2 rfl (wpAny_pure ⟨plainId_quiet PySem.F.plain_extend_loop _, ih (i + 1) _ tk2 _ (acc.push (Value.ref N)) (as ++ [N]) (ps ++ [(x, y)]) (by omega) (by omega) (st2.over Da Db n1 n2 n3 na' nb' up) (by rw [List.length_append, hl]; rfl) ⟨?_, ?_, ?_, ?_, ?_⟩
      (fun b o q0 q1 q2 q3 q4 e => up b o q0 (keep b o q1 q2 q3 q4 (hk b o q0 q1 q2 q3 q4 e))) (Heap.get?_update_self _ hS2 rfl) (by rw [Array.toList_push, ha, List.map_append]; rfl)⟩) (by rw [hsz]; omega) (by show (acc.push (Value.ref N)).size ≤ sizeLine + 1; rw [Array.size_push, hsz]; omega)
    · rw [List.length_append, List.length_append, hp.len]; rfl
    · refine List.pairwise_append.mpr ⟨hp.rise, List.pairwise_singleton _ _, fun a e b hb => ?_⟩
      rw [List.mem_singleton.mp hb, ← hN]
      obtain ⟨j, e1⟩ := List.mem_iff_getElem?.mp e
      have jl : j < ps.length := by rw [← hp.len]; exact (List.getElem?_eq_some_iff.mp e1).1
      exact Heap.lt_size (hp.at_ j a _ e1 (List.getElem?_eq_getElem jl))
    · intro a e
      rcases List.mem_append.mp e with e | e
      · exact hp.above a e
      · rw [List.mem_singleton.mp e]; exact hSl
    · intro j a p e1 e2
      by_cases hj : j < as.length
      · rw [List.getElem?_append_left hj] at e1
        rw [List.getElem?_append_left (by rw [← hp.len]; exact hj)] at e2
        have hb := hp.above a (List.mem_of_getElem? e1)
        exact up a _ (Nat.ne_of_gt hb) (keep a _ (Nat.ne_of_gt (Nat.lt_trans hzS hb)) (Nat.ne_of_gt (Nat.lt_trans hOS hb)) (Nat.ne_of_gt (Nat.lt_trans h1S hb)) (Nat.ne_of_gt (Nat.lt_trans h2S hb)) (hp.at_ j a p e1 e2))
      · rw [List.getElem?_append_right (by omega)] at e1
        rw [List.getElem?_append_right (by rw [← hp.len]; omega)] at e2
        have hj0 : j - as.length = 0 := by
          cases h : j - as.length with
          | zero => rfl
          | succ n => rw [h] at e1; simp at e1
        rw [hj0] at e1
        rw [← hp.len, hj0] at e2
        cases e1
        cases e2
        exact up _ _ (Nat.ne_of_gt hSl) new
    · intro j p e
      by_cases hj : j < ps.length
      · rw [List.getElem?_append_left hj] at e
        exact hp.val j p e
      · rw [List.getElem?_append_right (by omega)] at e
        have hj0 : j - ps.length = 0 := by
          cases h : j - ps.length with
          | zero => rfl
          | succ n => rw [h] at e; simp at e
        rw [hj0] at e
        cases e
        have : j = i := by omega
        subst this
        exact ⟨hx, hy⟩
end
theorem zip_nolen : typeLookup (.type "zip") "__len__" = pure none := by rw [typeLookup_type, builtinLookup_eq_fast]; kernel_rfl
theorem zip_nohint : typeLookup (.type "zip") "__length_hint__" = pure none := by rw [typeLookup_type, builtinLookup_eq_fast]; kernel_rfl
/-- a fresh zip -/
structure Zf (prog : Program) (w : World) (z TI TO i1 i2 : Addr) (fa fb : List Addr) (na nb : Nat) (Pa Pb : Nat → Value → Prop) (Sa Sb : Nat → Heap → Prop) (h : Heap) : Prop where
  sp : ZipSep2 z TI TO i1 i2 fa fb
  Da : ∀ A : Around, A.handled = none → Draws prog w A i1 fa na Pa Sa
  Db : ∀ A : Around, A.handled = none → Draws prog w A i2 fb nb Pb Sb
  zz : IsZip h z TI TO .none
  ins : IsTupOf2 h TI (.ref i1) (.ref i2)
  out : IsTupOf2 h TO .none .none
  sa : Sa 0 h
  sb : Sb 0 h
  la : ∀ b ∈ fa, b < h.objs.size
  lb : ∀ b ∈ fb, b < h.objs.size
  few : min na nb ≤ sizeLine
section
variable {prog : Program} {w : World} {A : Around} {E : Value → Shared → Prop} {s : Shared} {S z TI TO i1 i2 : Addr} {fa fb : List Addr} {na nb : Nat} {Pa Pb : Nat → Value → Prop} {Sa Sb : Nat → Heap → Prop}
theorem Zf.up {h k : Heap} (Z : Zf prog w z TI TO i1 i2 fa fb na nb Pa Pb Sa Sb h) (hh : A.handled = none) (hk : ∀ b o, b ≠ S → h.get? b = some o → k.get? b = some o) (hS : h.objs.size ≤ S) (hl : h.objs.size ≤ k.objs.size) : Zf prog w z TI TO i1 i2 fa fb na nb Pa Pb Sa Sb k :=
  have q : ∀ b, b < h.objs.size → b ≠ S := fun b hb e => Nat.lt_irrefl _ (Nat.lt_of_lt_of_le (e ▸ hb) hS)
  have r : ∀ b o, h.get? b = some o → k.get? b = some o := fun b o e => hk b o (q b (Heap.lt_size e)) e
  ⟨Z.sp, Z.Da, Z.Db, r _ _ Z.zz, r _ _ Z.ins, r _ _ Z.out, (Z.Da A hh).frame _ _ _ Z.sa fun b _ o e => r b o e, (Z.Db A hh).frame _ _ _ Z.sb fun b _ o e => r b o e, fun b hb => Nat.lt_of_lt_of_le (Z.la b hb) hl, fun b hb => Nat.lt_of_lt_of_le (Z.lb b hb) hl, Z.few⟩
theorem zl_extend {R : Result → Shared → Prop} {res : Value} {c0 : Nat} (hh : A.handled = none) (Z : Zf prog w z TI TO i1 i2 fa fb na nb Pa Pb Sa Sb s.heap) (hzS : z < S) (hIS : TI < S) (hOS : TO < S) (hfa : S ∉ fa) (hfb : S ∉ fb) (h1S : i1 < S) (h2S : i2 < S)
    (hS : s.heap.get? S = some { cls := .type "list", data := .seq #[] c0 })
    (hR : ∀ k tk acc c as ps, (∀ b o, b ≠ S → b ≠ z → b ≠ TO → b ≠ i1 → b ≠ i2 → s.heap.get? b = some o → k.get? b = some o) → k.get? S = some { cls := .type "list", dict := none, data := .seq acc c, slots := #[] } → ps.length = min na nb → Zp Pa Pb S k as ps →
      acc.toList = as.map Value.ref → R (.ok (.ret res)) { s with heap := k, toks := tk }) :
    wpAny (model prog w) A.in1 (Builtin.List.listExtendWith (.ref S) (.ref z) res)
      (fun fin s' => match fin with | .done f => R (.ok f) s' | .again c' => c'.quiet = true ∧ codeAny (model prog w) A c' R s') (fun e s' => R (.error e) s') s := by
  have hTy : s.TypeIs (.ref z) "zip" := ⟨_, Z.zz, rfl⟩
  have start : ∀ (h : Heap) (c1 tk : Nat), (∀ b o, b ≠ S → s.heap.get? b = some o → h.get? b = some o) → h.get? S = some { cls := .type "list", data := .seq #[] c1 } →
      codeAny (model prog w) A (.builtin "list.extend.loop" ⟨[.ref S, .ref z, res], []⟩) R { s with heap := h, toks := tk } := by
    intro h c1 tk hk h1
    have zs : Zs Sa Sb S z TI TO i1 i2 0 s.heap := ⟨Z.ins, ⟨_, _, Z.out⟩, Z.sa, Z.sb, .inl Z.zz⟩
    exact zs_loop (h0 := s.heap) Z.sp (Z.Da _ hh) (Z.Db _ hh) (Nat.ne_of_lt hIS) (Nat.ne_of_lt hOS) (Nat.ne_of_lt hzS) hfa hfb Z.few hzS hOS h1S h2S hR (min na nb) 0 h tk c1 #[] [] [] (Nat.sub_zero _) (Nat.zero_le _)
      (zs.over (Z.Da A hh) (Z.Db A hh) (Nat.ne_of_lt hIS) (Nat.ne_of_lt hOS) (Nat.ne_of_lt hzS) hfa hfb hk) rfl ⟨rfl, .nil, (fun _ e => absurd e List.not_mem_nil), (fun j a p e => by simp at e), (fun j p e => by simp at e)⟩ (fun b o q _ _ _ _ e => hk b o q e) h1 rfl
  unfold Builtin.List.listExtendWith
  refine wpAny_bind (wpAny_typeOf hTy ?_)
  have q1 : Builtin.List.listSameRef (.ref S) (.ref z) = false := by simp [Builtin.List.listSameRef, Nat.ne_of_gt hzS]
  have q2 : (Value.type "zip" == Value.type "list") = false := by decide
  have q3 : (Value.type "zip" == Value.type "tuple") = false := by decide
  simp only [q1, q2, q3, Bool.or_false, Bool.false_eq_true, if_false]
  refine wpAny_bind (wpAny_pyIter_zip Z.zz ?_)
  refine wpAny_bind (wpAny_holding ?_)
  unfold Builtin.List.listLengthHint
  refine wpAny_bind (wpAny_specialOf hTy zip_nolen ?_)
  show wpAny _ A.in1 (specialOf (Value.ref z) (Str.ofString "__length_hint__") >>= _) _ _ _
  refine wpAny_bind (wpAny_specialOf hTy zip_nohint ?_)
  refine wpAny_pure ?_
  show wpAny _ A.in1 (rule "list.extend.makes-room" >>= fun _ => Builtin.List.listTouch (.ref S) >>= fun _ => again (.builtin "list.extend.loop" ⟨[.ref S, .ref z, res], []⟩)) _ _ _
  refine wpAny_bind (wpAny_rule ?_)
  refine wpAny_bind ?_
  show wpAny _ A.in1 (updateSeq S (·.push .none) >>= fun _ => updateSeq S (·.pop)) _ _ _
  refine wpAny_bind (wpAny_updateSeq hS rfl ?_)
  have g2 := Heap.get?_update_self (Obj.mapSeq (·.push Value.none)) hS rfl
  refine wpAny_updateSeq (hz := by seq_fits) g2 rfl ?_
  have g3 := Heap.get?_update_self (Obj.mapSeq (·.pop)) g2 rfl
  exact wpAny_pure ⟨plainId_quiet PySem.F.plain_extend_loop _, start _ _ _ (fun b o hb e => (Heap.get?_update_other _ _ (Ne.symm hb)).trans ((Heap.get?_update_other _ _ (Ne.symm hb)).trans e)) g3⟩
/-- list(z), z a fresh zip -/
theorem zl_call {Q : Value → Shared → Prop} (hh : A.handled = none) (Z : Zf prog w z TI TO i1 i2 fa fb na nb Pa Pb Sa Sb s.heap)
    (hQ : ∀ k tk acc c as ps, (∀ b o, b ≠ z → b ≠ TO → b ≠ i1 → b ≠ i2 → s.heap.get? b = some o → k.get? b = some o) → k.get? s.heap.objs.size = some { cls := .type "list", dict := none, data := .seq acc c, slots := #[] } → ps.length = min na nb →
      Zp Pa Pb s.heap.objs.size k as ps → acc.toList = as.map Value.ref → Q (.ref s.heap.objs.size) { s with heap := k, toks := tk }) :
    wpAny (model prog w) A (call (.type "list") [.ref z]) Q E s := by
  have hz : z < s.heap.objs.size := Heap.lt_size Z.zz
  have hI : TI < s.heap.objs.size := Heap.lt_size Z.ins
  have hO : TO < s.heap.objs.size := Heap.lt_size Z.out
  have h1 : i1 < s.heap.objs.size := Z.la _ Z.sp.mem1
  have h2 : i2 < s.heap.objs.size := Z.lb _ Z.sp.mem2
  refine callType_codes (Q₁ := fun obj s1 => obj = .ref s.heap.objs.size ∧ s1 = { s with heap := s.heap.push { cls := .type "list", data := .seq #[] } }) PySem.F.called_list (PySem.F.typeCall_list_1 _) PySem.F.entry_list_init
    (code_list_new _ ⟨rfl, rfl⟩) fun obj s1 e => ?_
  obtain ⟨rfl, rfl⟩ := e
  have g1 : (s.heap.push { cls := .type "list", data := .seq #[] }).get? s.heap.objs.size = some { cls := .type "list", data := .seq #[] } := Heap.get?_push_size _ rfl
  refine ⟨⟨_, g1, rfl⟩, PySem.F.args_list_init_2 _ _, ?_⟩
  show wpAny _ _ (do let old ← Builtin.List.listItems (.ref s.heap.objs.size); Builtin.List.listUpdate (.ref s.heap.objs.size) (fun _ => #[]); letGo old.toList.reverse; Builtin.List.listExtendWith (.ref s.heap.objs.size) (.ref z) .none) _ _ _
  refine wpAny_bind ?_
  unfold Builtin.List.listItems
  refine wpAny_bind (wpAny_seqItems g1 rfl (wpAny_pure ?_))
  show wpAny _ _ (updateSeq s.heap.objs.size (fun _ => #[]) >>= fun _ => letGo (#[] : Array Value).toList.reverse >>= fun _ => Builtin.List.listExtendWith (.ref s.heap.objs.size) (.ref z) .none) _ _ _
  refine wpAny_bind (wpAny_updateSeq g1 rfl ?_)
  have g2 := Heap.get?_update_self (Obj.mapSeq (fun _ => (#[] : Array Value))) g1 rfl
  have up : ∀ b o, b ≠ s.heap.objs.size → s.heap.get? b = some o → ((s.heap.push { cls := .type "list", data := .seq #[] }).update s.heap.objs.size (Obj.mapSeq (fun _ => (#[] : Array Value)))).get? b = some o :=
    fun b o hb e => (Heap.get?_update_other _ _ (Ne.symm hb)).trans (Heap.get?_push_of_some _ e)
  refine wpAny_bind (wpAny_letGo ?_)
  refine zl_extend (A := A.in1) hh (Z.up (S := s.heap.objs.size) hh up (Nat.le_refl _) (Nat.le_of_lt (Heap.lt_size g2))) hz hI hO (fun q => Nat.lt_irrefl _ (Z.la _ q)) (fun q => Nat.lt_irrefl _ (Z.lb _ q)) h1 h2 g2 fun k tk acc c as ps hk hS hl hp ha => ?_
  refine ⟨rfl, hQ k tk acc c as ps (fun b o q1 q2 q3 q4 e => ?_) hS hl hp ha⟩
  have hb : b ≠ s.heap.objs.size := Nat.ne_of_lt (Heap.lt_size e)
  exact hk b o hb q1 q2 q3 q4 (up b o hb e)
end
/-! ### the pairs are laid -/
def putP : Hp → List Addr → List (V × V) → Hp
  | H, a :: as, p :: ps => putP (L2.upd H a (.tup [p.1, p.2])) as ps
  | H, _, _ => H
theorem putP_off {b : Addr} : ∀ (as : List Addr) (ps : List (V × V)) (H : Hp), b ∉ as → putP H as ps b = H b
  | [], _, _, _ => rfl
  | _ :: _, [], _, _ => rfl
  | a :: as, p :: ps, H, h => by
    have h' : b ≠ a ∧ b ∉ as := ⟨fun e => h (e ▸ List.mem_cons_self), fun e => h (List.mem_cons_of_mem _ e)⟩
    rw [putP, putP_off as ps _ h'.2, L2.upd_ne h'.1]
theorem putP_at : ∀ (as : List Addr) (ps : List (V × V)) (H : Hp), as.length = ps.length → as.Nodup → Paired (fun (t : Addr) (p : V × V) => putP H as ps t = some (.tup [p.1, p.2])) as ps
  | [], [], _, _, _ => .nil
  | [], _ :: _, _, h, _ => nomatch h
  | _ :: _, [], _, h, _ => nomatch h
  | a :: as, p :: ps, H, h, hn => by
    obtain ⟨n1, n2⟩ := List.nodup_cons.mp hn
    exact .cons (by rw [putP, putP_off as ps _ n1, L2.upd_same]) (putP_at as ps _ (by simpa using h) n2)
theorem paired_ix' {α β : Type} {F : α → β → Prop} : ∀ {xs : List α} {ys : List β}, Paired F xs ys → ∀ {x : α}, x ∈ xs → ∃ (j : Nat) (y : β), xs[j]? = some x ∧ ys[j]? = some y ∧ F x y
  | _, _, .cons h t, x, hx => by
    rcases List.mem_cons.mp hx with rfl | hx
    · exact ⟨0, _, rfl, rfl, h⟩
    · obtain ⟨j, y, e1, e2, e3⟩ := paired_ix' t hx
      exact ⟨j + 1, y, e1, e2, e3⟩
theorem paired_at {α β : Type} {F : α → β → Prop} : ∀ {xs : List α} {ys : List β}, Paired F xs ys → ∀ {i : Nat} {y : β}, ys[i]? = some y → ∃ x, xs[i]? = some x ∧ F x y
  | _, _, .nil, i, x, h => by cases h
  | _, _, .cons r t, 0, x, h => by cases h; exact ⟨_, rfl, r⟩
  | _, _, .cons r t, i + 1, x, h => paired_at t h
theorem refs_vals : ∀ as : List Addr, Vals (as.map V.ref) (as.map Value.ref)
  | [] => .nil
  | _ :: as => .cons rfl (refs_vals as)
section
variable {X : Cx} {pins : List (Addr × Obj)} {σ : L2.St} {H : Hp} {s : Shared}
theorem zl_laid {k : Heap} {tk : Nat} {S : Addr} {Pa Pb : Nat → Value → Prop} {acc : Array Value} {c : Nat} {as : List Addr} {us : List (Value × Value)} {ps : List (V × V)} (I : Inv X pins σ H s) (hS0 : s.heap.objs.size ≤ S) (few : us.length ≤ sizeLine)
    (rl : Paired (fun (p : V × V) (u : Value × Value) => RelV p.1 u.1 ∧ RelV p.2 u.2) ps us) (hk : ∀ b o, s.heap.get? b = some o → k.get? b = some o) (hS : k.get? S = some { cls := .type "list", dict := none, data := .seq acc c, slots := #[] })
    (hp : Zp Pa Pb S k as us) (ha : acc.toList = as.map Value.ref) :
    ∃ H' : Hp, (∀ b o, H b = some o → H' b = some o) ∧ H S = none ∧ H' S = some (.lst (as.map V.ref)) ∧ Paired (fun (t : Addr) (q : V × V) => H' t = some (.tup [q.1, q.2])) as ps ∧ Inv X pins σ H' { s with heap := k, toks := tk } := by
  have lr : ps.length = us.length := Paired.length rl
  have Sn : S ∉ as := fun q => Nat.lt_irrefl _ (hp.above _ q)
  have nd : as.Nodup := hp.rise.imp fun q => Nat.ne_of_lt q
  have new : ∀ t ∈ as, H t = none := fun t q => I.hok.fresh (Nat.le_trans hS0 (Nat.le_of_lt (hp.above t q)))
  have newS : H S = none := I.hok.fresh hS0
  let G : Hp := putP (L2.upd H S (.lst (as.map V.ref))) as ps
  have at_ : Paired (fun (t : Addr) (q : V × V) => G t = some (.tup [q.1, q.2])) as ps := putP_at as ps _ (by rw [hp.len, lr]) nd
  have off : ∀ b, b ∉ as → b ≠ S → G b = H b := fun b q1 q2 => (putP_off as ps _ q1).trans (L2.upd_ne q2)
  have eS : G S = some (.lst (as.map V.ref)) := (putP_off as ps _ Sn).trans L2.upd_same
  have kp : ∀ b u, H b = some u → G b = some u := fun b u e => (off b (fun q => by rw [new b q] at e; cases e) fun q => by rw [q, newS] at e; cases e).trans e
  refine ⟨G, kp, newS, eS, at_, ?_⟩
  refine I.call' (ch := []) rfl ⟨fun b o q _ _ _ => hk b o q, fun b o q _ _ _ => ⟨o.slots, hk b o q⟩, fun b o q n _ => ?_, fun b o q _ => ⟨o, hk b o q⟩, fun b xs q => kp b _ q, fun b o u q => kp b _ q, fun b xs q => ⟨#[], by rw [kp b _ q]; simp⟩⟩ (fun b u q => ?_) I.bare fun b e => by simp at e
  · have lt := Heap.lt_size q
    rw [off b (fun e => Nat.lt_irrefl _ (Nat.lt_trans (Nat.lt_of_lt_of_le lt hS0) (hp.above b e))) (fun e => Nat.lt_irrefl _ (Nat.lt_of_lt_of_le (e ▸ lt) hS0))]
    exact n
  · by_cases hb : b ∈ as
    · obtain ⟨j, p, e1, e2, e3⟩ := paired_ix' at_ hb
      rw [e3] at q
      cases q
      obtain ⟨u, f1, r1, r2⟩ : ∃ u, us[j]? = some u ∧ RelV p.1 u.1 ∧ RelV p.2 u.2 := by
        have jl : j < us.length := by rw [← lr]; exact (List.getElem?_eq_some_iff.mp e2).1
        obtain ⟨p', e4, r⟩ := paired_at rl (List.getElem?_eq_getElem jl)
        rw [e2] at e4
        cases e4
        exact ⟨_, List.getElem?_eq_getElem jl, r.1, r.2⟩
      have f3 := hp.at_ j b u e1 f1
      exact ⟨by show 2 ≤ sizeLine; decide, [u.1, u.2], .cons r1 (.cons r2 .nil), ⟨_, f3, rfl, _, rfl⟩⟩
    · by_cases hb2 : b = S
      · rw [hb2] at q ⊢
        rw [eS] at q
        cases q
        refine ⟨by rw [List.length_map, hp.len]; exact few, acc.toList, c, by rw [ha]; exact refs_vals as, ?_⟩
        rw [Array.toArray_toList]
        exact hS
      · rw [off b hb hb2] at q
        exact (I.hok b u q).stay (fun d v _ y => hk d v y) (fun d y => kp d _ y) fun d xs y => kp d _ y
end
/-- what iter() of a value draws -/
def Src (prog : Program) (w : World) (v : Value) (h : Heap) (us : List Value) : Prop := ∃ (a : Addr) (o : Obj) (Hh : Heap → Prop) (St : Addr → Nat → Heap → Prop), a < h.objs.size ∧ Begins v o Hh ∧ Hh h ∧
  (∀ (A : Around) (it : Addr), A.handled = none → a ≠ it → Draws prog w A it [it, a] us.length (fun i u => us[i]? = some u) (St it)) ∧ ∀ (it : Addr) (k : Heap), k.get? it = some o → Hh k → St it 0 k
theorem src_list {prog : Program} {w : World} {h : Heap} {a : Addr} {us : List Value} (hl : h.IsList a us.toArray) : Src prog w (.ref a) h us := by
  refine ⟨a, _, _, fun it i k => k.IsListIter it a i ∧ k.IsList a us.toArray, (by obtain ⟨o, ho, _⟩ := id hl; exact Heap.lt_size ho), begins_list a us.toArray, hl, fun A it hh hn => ?_, fun it k e q => ⟨⟨_, e, rfl, rfl⟩, q⟩⟩
  have := Draws.list (prog := prog) (w := w) hh it a hn us.toArray
  simpa using this
theorem src_tup {prog : Program} {w : World} {h : Heap} {a : Addr} {us : List Value} (hl : h.IsTuple a us.toArray) : Src prog w (.ref a) h us := by
  refine ⟨a, _, _, fun it i k => k.IsTupleIter it a i ∧ k.IsTuple a us.toArray, (by obtain ⟨o, ho, _⟩ := id hl; exact Heap.lt_size ho), begins_tuple a us.toArray, hl, fun A it hh hn => ?_, fun it k e q => ⟨⟨_, e, rfl, rfl⟩, q⟩⟩
  have := Draws.tuple (prog := prog) (w := w) hh it a hn us.toArray
  simpa using this
section
variable {prog : Program} {w : World} {A : Around} {E : Value → Shared → Prop} {s : Shared}
/-- list(zip(v1, v2)) -/
theorem zl_both {v1 v2 : Value} {us1 us2 : List Value} {Q : Value → Shared → Prop} (hh : A.handled = none) (a1 : Src prog w v1 s.heap us1) (a2 : Src prog w v2 s.heap us2) (few : min us1.length us2.length ≤ sizeLine)
    (hQ : ∀ k tk S acc c as, s.heap.objs.size ≤ S → (∀ b o, s.heap.get? b = some o → k.get? b = some o) → k.get? S = some { cls := .type "list", dict := none, data := .seq acc c, slots := #[] } →
      Zp (fun i u => us1[i]? = some u) (fun i u => us2[i]? = some u) S k as (us1.zip us2) → acc.toList = as.map Value.ref → Q (.ref S) { s with heap := k, toks := tk }) :
    wpAny (model prog w) A (call (.type "zip") [v1, v2]) (fun v s1 => wpAny (model prog w) A (call (.type "list") [v]) Q E s1) E s := by
  obtain ⟨b1, o1, H1, S1, l1, B1, h1, D1, g1⟩ := a1
  obtain ⟨b2, o2, H2, S2, l2, B2, h2, D2, g2⟩ := a2
  refine zip_begins2 B1 B2 h1 h2 fun k kz kI kO k1 k2 ksz kk => ?_
  have sp := zip_sep2 (N := s.heap.objs.size) (fp1 := [b1]) (fp2 := [b2]) (fun b hb => by rw [List.mem_singleton.mp hb]; exact l1) (fun b hb => by rw [List.mem_singleton.mp hb]; exact l2)
  have l2' : b2 < s.heap.objs.size + 1 := Nat.lt_succ_of_lt l2
  have far : ∀ (n j : Nat), j < 5 → n + j < n + 5 := fun n j h => Nat.add_lt_add_left h n
  have near : ∀ (b n j : Nat), b < n → b ≠ n + j := fun b n j h => Nat.ne_of_lt (Nat.lt_of_lt_of_le h (Nat.le_add_right n j))
  refine zl_call (s := { s with heap := k }) hh (Pa := fun i u => us1[i]? = some u) (Pb := fun i u => us2[i]? = some u) (na := us1.length) (nb := us2.length)
    ⟨sp, fun A' q => D1 A' _ q (Nat.ne_of_lt l1), fun A' q => D2 A' _ q (Nat.ne_of_lt l2'), kz, kI, kO, g1 _ _ k1 (B1.keeps _ _ h1 kk), g2 _ _ k2 (B2.keeps _ _ h2 kk), ?_, ?_, few⟩ fun k' tk acc c as ps hk hS hl hp ha => ?_
  · intro b hb
    show b < k.objs.size
    rw [ksz]
    rcases List.mem_cons.mp hb with e | hb
    · rw [e]; exact far _ 0 (by decide)
    · rw [List.mem_singleton.mp hb]; exact Nat.lt_of_lt_of_le l1 (Nat.le_add_right _ _)
  · intro b hb
    show b < k.objs.size
    rw [ksz]
    rcases List.mem_cons.mp hb with e | hb
    · rw [e]; exact far _ 1 (by decide)
    · rw [List.mem_singleton.mp hb]; exact Nat.lt_of_lt_of_le l2 (Nat.le_add_right _ _)
  · have e : ps = us1.zip us2 := by
      apply List.ext_getElem?
      intro j
      by_cases hj : j < ps.length
      · have q := hp.val j _ (List.getElem?_eq_getElem hj)
        rw [List.getElem?_eq_getElem hj, List.getElem?_zip_eq_some.mpr ⟨q.1, q.2⟩]
      · rw [List.getElem?_eq_none (by omega), List.getElem?_eq_none (by rw [List.length_zip]; omega)]
    rw [e] at hp
    refine hQ k' tk _ acc c as (by show s.heap.objs.size ≤ k.objs.size; omega) (fun b o q => ?_) hS hp ha
    have lt := Heap.lt_size q
    exact hk b o (near _ _ 4 lt) (near _ _ 3 lt) (near _ _ 0 lt) (near _ _ 1 lt) (kk b o q)
end
def tLzip (K : PySem.W.Frag) (ta : TA) : TE := fun σ H Q => ta σ H fun vs H1 => ∃ (a b : Addr) (xs ys : List V), vs = [.ref a, .ref b] ∧ (SqL K H1 a xs ∨ SqT K H1 a xs) ∧ (SqL K H1 b ys ∨ SqT K H1 b ys) ∧
  ∀ (H' : Hp) (p : Addr) (ts : List Addr), (∀ b o, H1 b = some o → H' b = some o) → H1 p = none → H' p = some (.lst (ts.map V.ref)) → Paired (fun (t : Addr) (q : V × V) => H' t = some (.tup [q.1, q.2])) ts (xs.zip ys) → Q (.ref p) H'
theorem zip_rel : ∀ {xs ys : List V} {us ws : List Value}, Vals xs us → Vals ys ws → Paired (fun (p : V × V) (u : Value × Value) => RelV p.1 u.1 ∧ RelV p.2 u.2) (xs.zip ys) (us.zip ws)
  | _, _, _, _, .nil, _ => by simp only [List.zip_nil_left]; exact .nil
  | _, _, _, _, .cons _ _, .nil => by simp only [List.zip_nil_right]; exact .nil
  | _, _, _, _, .cons r rs, .cons q qs => .cons ⟨r, q⟩ (zip_rel rs qs)
section
variable {X : Cx} {e e2 : Expr} {ta : TA} {p p2 pos2 pos : Pos} {pins : List (Addr × Obj)} {σ : L2.St} {H : Hp} {s : Shared}
theorem src_of (I : Inv X pins σ H s) {a : Addr} {xs : List V} (h : SqL X.K H a xs ∨ SqT X.K H a xs) : ∃ us, Vals xs us ∧ us.length ≤ sizeLine ∧ Src X.prog X.w (.ref a) s.heap us := by
  rcases h with h | h
  · obtain ⟨us, r, q, hz⟩ := I.list h
    exact ⟨us, r, by rw [← r.length]; exact hz, src_list q.isList⟩
  · obtain ⟨us, r, q, hz⟩ := I.tuple h
    exact ⟨us, r, by rw [← r.length]; exact hz, src_tup (show s.heap.IsTuple a us.toArray from q)⟩
theorem pe_lzip (hc : X.calm = true) (hg : Gl X "zip") (hm : X.mg "zip" = none) (hg2 : Gl X "list") (hm2 : X.mg "list" = none) (hv : bootBuiltins "list" = some (.type "list")) (ha : PA X [e, e2] ta)
    (hs : starEach [e, e2] X.env = (false, eval e X.env) :: starEach [e2] X.env) (hpl : (backTo pos2 (starEach [e2] X.env)).any (·.1) = false) :
    PE X (.Call (.Name "list" p) [.Call (.Name "zip" p2) [e, e2] [] pos2] [] pos) (tLzip X.K ta) := by
  have hs2 : starEach [.Call (.Name "zip" p2) [e, e2] [] pos2] X.env = (false, eval (.Call (.Name "zip" p2) [e, e2] [] pos2) X.env) :: starEach [] X.env := star_cons rfl
  refine ⟨fun pins s σ H Q I hq => ?_⟩
  refine wpAny_Call_Name_kw (ld_blt I hg2 hm2 hv ?_)
  refine PyProof.Rows.callWith_type1 ?_ hs2 rfl
  rw [hs2]
  show wpAny _ _ (spliced ((false, eval (.Call (.Name "zip" p2) [e, e2] [] pos2) X.env) :: backTo pos (starEach [] X.env))) _ _ s
  refine Calls.spliced_cons ?_
  refine Call_ (ld_blt I hg hm PyProof.Rows.boot_zip (PyProof.Rows.callWith_type1 (thn (ha.run pos2 pins s σ H _ I hq) fun us s1 ⟨vs, H1, I1, r1, q1⟩ => ?_) hs hpl))
  obtain ⟨a, b, xs, ys, ex, ha1, hb1, q⟩ := q1
  subst ex
  obtain ⟨us1, v1, z1, c1⟩ := src_of I1 ha1
  obtain ⟨us2, v2, z2, c2⟩ := src_of I1 hb1
  cases r1 with
  | cons r rr =>
    cases rr with
    | cons r' rr =>
      cases rr
      cases r
      cases r'
      refine wpAny_mono (zl_both (A := X.A) (E := X.xe) (Q := EP X pins σ Q) (I1.ok.hd hc) c1 c2 (by omega) fun k tk S acc c as hS hk hl hp hacc => ?_) (fun v s2 h => Calls.spliced_nil h) fun _ _ h => h
      obtain ⟨H', k1, k2, k3, k4, J⟩ := zl_laid (tk := tk) I1 hS (by rw [List.length_zip]; omega) (zip_rel v1 v2) hk hl hp hacc
      exact ⟨.ref _, H', J, rfl, q H' _ as k1 k2 k3 k4⟩
end
theorem lzip_reps {K : Kx} {H : Hp} : ∀ {xs ys : List D} {vs ws : List V} {ts : List Addr}, Reps K H xs vs → Reps K H ys ws → Paired (fun (t : Addr) (q : V × V) => H t = some (.tup [q.1, q.2])) ts (vs.zip ws) → Reps K H (zipD xs ys) (ts.map V.ref)
  | _, _, _, _, _, .nil, _, p => by
    rw [List.zip_nil_left] at p
    cases p
    simp only [zipD]
    exact .nil
  | _, _, _, _, _, .cons _ _, .nil, p => by
    rw [List.zip_nil_right] at p
    cases p
    simp only [zipD]
    exact .nil
  | _, _, _, _, _, .cons r rs, .cons q qs, .cons h hs => by
    rw [zipD]
    exact .cons (.tup (.inl (.inl h)) (.cons r (.cons q .nil))) (lzip_reps rs qs hs)
theorem sq_of {K : Kx} {S : Store} {H : Hp} {d : D} {v : V} {r : List D × (Store → Prop)} (s1 : SR K S H) (r1 : Rep K H d v) (e : itL d S = some r) : ∃ a vs, v = .ref a ∧ (SqL K.K H a vs ∨ SqT K.K H a vs) ∧ Reps K H r.1 vs := by
  unfold itL at e
  split at e
  · cases e
    cases r1 with
    | tup h rs => exact ⟨_, _, rfl, .inr h, rs⟩
  · cases e
    cases r1 with
    | rol h rs => exact ⟨_, _, rfl, .inl h.l, rs⟩
  · cases r1
    split at e
    · rename_i xs q
      cases e
      obtain ⟨vs, h, rs⟩ := s1.lst q
      exact ⟨_, vs, rfl, .inl (.inl (.inl h)), rs⟩
    · cases e
  · cases e
/-! ### zip of a list and a tuple, whichever -/
def SqK (k : Bool) (K : PySem.W.Frag) (H : Hp) (a : Addr) (xs : List V) : Prop := if k = true then SqL K H a xs else SqT K H a xs
def IsK (k : Bool) (h : Heap) (a : Addr) (us : List Value) : Prop := if k = true then h.IsList a us.toArray else h.IsTuple a us.toArray
def IkK (k : Bool) (h : Heap) (it a : Addr) (i : Nat) : Prop := if k = true then h.IsListIter it a i else h.IsTupleIter it a i
def ItzM (K : PySem.W.Frag) (ka kb : Bool) (a b : Addr) : L2.It :=
  ⟨fun i H => ∃ (xs ys : List V) (x y : V), SqK ka K H a xs ∧ SqK kb K H b ys ∧ xs[i]? = some x ∧ ys[i]? = some y,
    fun i H v H' => ∃ T x y, v = .ref T ∧ H T = none ∧ H' = L2.upd H T (.tup [x, y]) ∧ (∀ xs, SqK ka K H a xs → xs[i]? = some x) ∧ ∀ ys, SqK kb K H b ys → ys[i]? = some y,
    fun i H => ∃ xs ys : List V, SqK ka K H a xs ∧ SqK kb K H b ys ∧ min xs.length ys.length = i⟩
theorem IkK.to {k : Bool} {h h' : Heap} {it a : Addr} {i : Nat} (x : IkK k h it a i) (hk : ∀ o, h.get? it = some o → h'.get? it = some o) : IkK k h' it a i := by
  unfold IkK at x ⊢
  cases k
  · exact Heap.IsTupleIter.at (h := h) x hk
  · exact Heap.IsListIter.at (h := h) x hk
theorem IkK.ob {k : Bool} {h : Heap} {it a : Addr} {i : Nat} (x : IkK k h it a i) : ∃ o, h.get? it = some o ∧ ∀ v, o.data ≠ .cell v := by
  unfold IkK at x
  cases k
  · obtain ⟨o, e, _, d⟩ := (show h.IsTupleIter it a i from x)
    exact ⟨o, e, fun v q => by rw [d] at q; cases q⟩
  · obtain ⟨o, e, _, d⟩ := (show h.IsListIter it a i from x)
    exact ⟨o, e, fun v q => by rw [d] at q; cases q⟩
theorem drawsK {prog : Program} {w : World} {A : Around} (k : Bool) (hh : A.handled = none) {it a : Addr} (hn : a ≠ it) (us : List Value) :
    Draws prog w A it [it, a] us.length (fun i u => us[i]? = some u) (fun i h => IkK k h it a i ∧ IsK k h a us) := by
  cases k
  · have := Draws.tuple (prog := prog) (w := w) hh it a hn us.toArray
    simpa [IkK, IsK] using this
  · have := Draws.list (prog := prog) (w := w) hh it a hn us.toArray
    simpa [IkK, IsK] using this
section
variable {X : Cx} {pins : List (Addr × Obj)} {σ : L2.St} {H : Hp} {s : Shared}
theorem sqK_us (I : Inv X pins σ H s) {k : Bool} {a : Addr} {xs : List V} (h : SqK k X.K H a xs) : ∃ us, Vals xs us ∧ IsK k s.heap a us := by
  unfold SqK at h
  cases k
  · obtain ⟨us, r, q, _⟩ := I.tuple (show SqT X.K H a xs from h)
    exact ⟨us, r, q⟩
  · obtain ⟨us, r, q, _⟩ := I.list (show SqL X.K H a xs from h)
    exact ⟨us, r, q.isList⟩
theorem sqK_one (I : Inv X pins σ H s) {k : Bool} {a : Addr} {xs ys : List V} (h : SqK k X.K H a xs) (h' : SqK k X.K H a ys) : xs = ys := by
  unfold SqK at h h'
  cases k
  · exact I.tuple_inj (show SqT X.K H a xs from h) h'
  · exact I.list_inj (show SqL X.K H a xs from h) h'
theorem turn_zipM {P : Program} {w : World} {K : PySem.W.Frag} {elts : List Expr} {kk : Nat} {tpos : Pos} {ka kb : Bool} {a b z TI TO i1 i2 : Addr} (sp : ZipSep2 z TI TO i1 i2 [i1, a] [i2, b]) (n1 : a ≠ i1) (n2 : b ≠ i2) :
    Turn P w K (.Tuple elts kk tpos) (ItzM K ka kb a b) [z, TI, TO, i1, i2] z (fun i h => IsZip h z TI TO .none ∧ IsTupOf2 h TI (.ref i1) (.ref i2) ∧ (∃ x y, IsTupOf2 h TO x y) ∧ IkK ka h i1 a i ∧ IkK kb h i2 b i) where
  mem := List.mem_cons_self
  obj := fun i h ⟨hz, hI, ⟨x, y, hO⟩, h1, h2⟩ c hc => by
    have e : c = z ∨ c = TI ∨ c = TO ∨ c = i1 ∨ c = i2 := by simpa using hc
    rcases e with rfl | rfl | rfl | rfl | rfl
    · exact ⟨_, hz, fun v q => nomatch q⟩
    · exact ⟨_, hI, fun v q => nomatch q⟩
    · exact ⟨_, hO, fun v q => nomatch q⟩
    · exact h1.ob
    · exact h2.ob
  keep := fun i h h' ⟨hz, hI, ⟨x, y, hO⟩, h1, h2⟩ k => ⟨k z (by simp) _ hz, k TI (by simp) _ hI, ⟨x, y, k TO (by simp) _ hO⟩, h1.to fun o q => k i1 (by simp) o q, h2.to fun o q => k i2 (by simp) o q⟩
  item := by
    intro X hP hw hK hc i pins s σ H E I hf st hg
    subst hP hw hK
    obtain ⟨hz, hI, ⟨x0, y0, hO⟩, h1, h2⟩ := st
    obtain ⟨xs, ys, x, y, qx, qy, hx, hy⟩ := hg
    obtain ⟨us, r1, u1⟩ := sqK_us I qx
    obtain ⟨ws, r2, u2⟩ := sqK_us I qy
    obtain ⟨u, hu, ru⟩ := r1.get hx
    obtain ⟨v, hv, rv⟩ := r2.get hy
    have lz : z < s.heap.objs.size := Heap.lt_size hz
    have l1 : i < us.length := (List.getElem?_eq_some_iff.mp hu).1
    have l2 : i < ws.length := (List.getElem?_eq_some_iff.mp hv).1
    refine wpAny_pyNext_zipD2_item sp (drawsK (A := X.A.in1) ka (show X.A.in1.handled = none from I.ok.hd hc) n1 us) (drawsK (A := X.A.in1) kb (show X.A.in1.handled = none from I.ok.hd hc) n2 ws) hz hI hO ⟨h1, u1⟩ ⟨h2, u2⟩ l1 l2 fun u' v' k tk e1 e2 z' O' s1 s2 new _ keep => ?_
    rw [hu] at e1
    cases e1
    rw [hv] at e2
    cases e2
    refine ⟨_, rfl, wpAny_letOwnedTupleGo_zip (s := { s with heap := k, toks := tk }) z' fun k2 z2 sb => ?_⟩
    have new2 : k2.get? s.heap.objs.size = some { cls := .type "tuple", data := .seq #[u, v] } := (sb.2 _ (Nat.ne_of_gt lz)).trans new
    have ok : ObjOk X.prog X.w (L2.upd H s.heap.objs.size (.tup [x, y])) k2 s.heap.objs.size (.tup [x, y]) := ⟨by show 2 ≤ sizeLine; decide, [u, v], .cons ru (.cons rv .nil), ⟨_, new2, rfl, _, rfl⟩⟩
    have kp : ∀ c o, c ∉ [z, TI, TO, i1, i2] → s.heap.get? c = some o → k2.get? c = some o := fun c o hb q => (sb.2 c (fun e => hb (by simp [e]))).trans (keep c o (fun e => hb (by simp [e])) (fun e => hb (by simp [e])) (fun e => hb (by simp [e])) (fun e => hb (by simp [e])) q)
    have J : Inv X pins σ (L2.upd H s.heap.objs.size (.tup [x, y])) { s with heap := k2, toks := tk } := I.turnedNew (t' := tk) (ch := [z, TI, TO, i1, i2]) kp hf (Nat.le_refl _) ok
    refine ⟨.ref s.heap.objs.size, _, J, rfl, ⟨_, x, y, rfl, I.hok.fresh (Nat.le_refl _), rfl, fun l hl => by rw [sqK_one I hl qx]; exact hx, fun l hl => by rw [sqK_one I hl qy]; exact hy⟩, ⟨z2, ?_, ⟨u, v, ?_⟩, ?_, ?_⟩, fun c hcm => ?_⟩
    · exact (sb.2 _ sp.TIz).trans (keep _ _ sp.TIz sp.TITO sp.TIi1 sp.TIi2 hI)
    · exact (sb.2 _ sp.TOz).trans O'
    · exact s1.1.to fun o q => (sb.2 _ sp.zi1.symm).trans q
    · exact s2.1.to fun o q => (sb.2 _ sp.zi2.symm).trans q
    · have lt : c < s.heap.objs.size := by
        have e : c = z ∨ c = TI ∨ c = TO ∨ c = i1 ∨ c = i2 := by simpa using hcm
        rcases e with rfl | rfl | rfl | rfl | rfl
        · exact lz
        · exact Heap.lt_size hI
        · exact Heap.lt_size hO
        · obtain ⟨_, e, _⟩ := h1.ob; exact Heap.lt_size e
        · obtain ⟨_, e, _⟩ := h2.ob; exact Heap.lt_size e
      rw [L2.upd_ne (Nat.ne_of_lt lt)]
      exact (hf c hcm).1
  done := by
    intro X hP hw hK hc i pins s σ H E I hf st hg
    subst hP hw hK
    obtain ⟨hz, hI, ⟨x0, y0, hO⟩, h1, h2⟩ := st
    obtain ⟨xs, ys, qx, qy, he⟩ := hg
    obtain ⟨us, r1, u1⟩ := sqK_us I qx
    obtain ⟨ws, r2, u2⟩ := sqK_us I qy
    have e1 := r1.length
    have e2 := r2.length
    refine wpAny_pyNext_zipD2_end sp (drawsK (A := X.A.in1) ka (show X.A.in1.handled = none from I.ok.hd hc) n1 us) (drawsK (A := X.A.in1) kb (show X.A.in1.handled = none from I.ok.hd hc) n2 ws) hz hI hO ⟨h1, u1⟩ ⟨h2, u2⟩ (by omega) (by omega) (by omega) fun k tk keep => ⟨rfl, ?_⟩
    exact I.turnedL (t' := tk) (ch := [z, TI, TO, i1, i2]) (fun c o hb q => keep c o (fun e => hb (by simp [e])) (fun e => hb (by simp [e])) (fun e => hb (by simp [e])) (fun e => hb (by simp [e])) q) hf
  self := fun A i s Q E st h => wpAny_pyIter_zip st.1 h
end
def iZipM (K : PySem.W.Frag) (ta : TA) : TI := fun σ H R => ta σ H fun vs H1 => ∃ a b ka kb xs ys, vs = [.ref a, .ref b] ∧ SqK ka K H1 a xs ∧ SqK kb K H1 b ys ∧ R (ItzM K ka kb a b) H1
theorem srcK {prog : Program} {w : World} {h : Heap} {a : Addr} (k : Bool) {us : List Value} (hl : IsK k h a us) : ∃ (o : Obj) (Hh : Heap → Prop), a < h.objs.size ∧ Begins (.ref a) o Hh ∧ Hh h ∧ ∀ (it : Addr) (g : Heap), g.get? it = some o → IkK k g it a 0 := by
  unfold IsK at hl
  cases k
  · exact ⟨_, _, (by obtain ⟨o, ho, _⟩ := id (show h.IsTuple a us.toArray from hl); exact Heap.lt_size ho), begins_tuple a us.toArray, hl, fun it g e => ⟨_, e, rfl, rfl⟩⟩
  · exact ⟨_, _, (by obtain ⟨o, ho, _⟩ := id (show h.IsList a us.toArray from hl); exact Heap.lt_size ho), begins_list a us.toArray, hl, fun it g e => ⟨_, e, rfl, rfl⟩⟩
theorem pi_zipM {X : Cx} {e e2 : Expr} {ta : TA} {p pos tpos : Pos} {elts : List Expr} {kk : Nat} (hg : Gl X "zip") (hm : X.mg "zip" = none) (ha : PA X [e, e2] ta)
    (hs : starEach [e, e2] X.env = (false, eval e X.env) :: starEach [e2] X.env) (hpl : (backTo pos (starEach [e2] X.env)).any (·.1) = false) :
    PI X (.Tuple elts kk tpos) (.Call (.Name "zip" p) [e, e2] [] pos) (iZipM X.K ta) := by
  refine ⟨fun pins s σ H R I h => ?_⟩
  refine Call_ (ld_blt I hg hm PyProof.Rows.boot_zip (PyProof.Rows.callWith_type1 (thn (ha.run pos pins s σ H _ I h) fun us s1 ⟨vs, H1, I1, r1, q1⟩ => ?_) hs hpl))
  obtain ⟨a, b, ka, kb, xs, ys, ex, qa, qb, q⟩ := q1
  subst ex
  cases r1 with
  | cons r rr =>
    cases rr with
    | cons r' rr =>
      cases rr
      cases r
      cases r'
      obtain ⟨us, _, u1⟩ := sqK_us I1 qa
      obtain ⟨ws, _, u2⟩ := sqK_us I1 qb
      obtain ⟨o1, H1', l1, B1, g1, b1⟩ := srcK (prog := X.prog) (w := X.w) ka u1
      obtain ⟨o2, H2', l2, B2, g2, b2⟩ := srcK (prog := X.prog) (w := X.w) kb u2
      have sp := zip_sep2 (N := s1.heap.objs.size) (fp1 := [a]) (fp2 := [b]) (fun c hb => by rw [List.mem_singleton.mp hb]; exact l1) (fun c hb => by rw [List.mem_singleton.mp hb]; exact l2)
      refine zip_begins2 B1 B2 g1 g2 fun k kz kI kO k1 k2 ksz kk => wpAny_pyIter_zip kz ?_
      have I2 : Inv X pins σ H1 { s1 with heap := k } := I1.kept (t' := s1.toks) kk
      refine ⟨s1.heap.objs.size + 4, [s1.heap.objs.size + 4, s1.heap.objs.size + 2, s1.heap.objs.size + 3, s1.heap.objs.size, s1.heap.objs.size + 1], _, _, H1, rfl, I2,
        turn_zipM (ka := ka) (kb := kb) sp (Nat.ne_of_lt l1) (Nat.ne_of_lt (Nat.lt_succ_of_lt l2)), ⟨kz, kI, ⟨_, _, kO⟩, b1 _ _ k1, b2 _ _ k2⟩, fun c hc => ?_, q⟩
      have le : s1.heap.objs.size ≤ c := by
        have e : c = s1.heap.objs.size + 4 ∨ c = s1.heap.objs.size + 2 ∨ c = s1.heap.objs.size + 3 ∨ c = s1.heap.objs.size ∨ c = s1.heap.objs.size + 1 := by simpa using hc
        rcases e with z | z | z | z | z <;> rw [z]
        · exact Nat.le_add_right _ _
        · exact Nat.le_add_right _ _
        · exact Nat.le_add_right _ _
        · exact Nat.le_refl _
        · exact Nat.le_add_right _ _
      exact I1.fpOk le (I1.hok.fresh le)
end Mn

/-! SimS: len(set(x)), sorted(set(x)). -/
namespace Mn
open PySem PySem.Spec PyProof.Rows L2 PySem.W
section
variable {X : Cx}
/-- the thing that is made a set -/
theorem seq_vals {S : Store} {H : Hp} (hs : SR X.x S H) {x : D} {v : V} {xs : List D} (r : Rep X.x H x v) (e : seqOf S x = some xs) : ∃ a ws, v = .ref a ∧ (SqL X.K H a ws ∨ SqT X.K H a ws) ∧ Reps X.x H xs ws := by
  unfold seqOf at e
  split at e
  · cases e
    cases r with
    | tup h1 h2 => exact ⟨_, _, rfl, .inr h1, h2⟩
  · split at e
    · cases e
      rename_i h
      cases r
      obtain ⟨ws, h1, r1⟩ := hs.lst h
      exact ⟨_, ws, rfl, .inl (.inl (.inl h1)), r1⟩
    · cases e
  · cases e
/-- keys by their things -/
theorem sca_keys {H : Hp} : ∀ {xs : List D} {ws : List V}, Reps X.x H xs ws → xs.all D.sca = true → ∃ ks : List Key, ws = ks.map kV ∧ xs = ks.map keyD
  | [], _, .nil, _ => ⟨[], rfl, rfl⟩
  | x :: xs, _, .cons (v := v) r t, h => by
    rw [List.all_cons, Bool.and_eq_true] at h
    obtain ⟨ks, e1, e2⟩ := sca_keys t h.2
    cases x <;> first | (cases h.1; done) | skip
    · cases r; exact ⟨.inl _ :: ks, by rw [e1]; rfl, by rw [e2]; rfl⟩
    · cases r; exact ⟨.inr _ :: ks, by rw [e1]; rfl, by rw [e2]; rfl⟩
theorem keyD_inj2 {k l : Key} (h : keyD k = keyD l) : k = l := by
  cases k <;> cases l <;> cases h <;> rfl
theorem nodup_same {α : Type} [DecidableEq α] {l m : List α} (h1 : l.Nodup) (h2 : m.Nodup) (h : ∀ x, x ∈ l ↔ x ∈ m) : l.length = m.length :=
  ((List.perm_ext_iff_of_nodup h1 h2).mpr h).length_eq
theorem dd_mem : ∀ (l : List D) (x : D), x ∈ dd l ↔ x ∈ l
  | [], _ => Iff.rfl
  | y :: l, x => by
    rw [dd]
    split
    · rename_i hy
      rw [List.mem_cons, dd_mem l]
      exact ⟨.inr, fun q => q.elim (fun e => by rw [e]; exact (dd_mem l y).mp hy) id⟩
    · rw [List.mem_cons, List.mem_cons, dd_mem l]
theorem dd_nodup : ∀ l : List D, (dd l).Nodup
  | [] => List.nodup_nil
  | y :: l => by
    rw [dd]
    split
    · exact dd_nodup l
    · rename_i hy
      exact List.nodup_cons.mpr ⟨hy, dd_nodup l⟩
theorem ddK_len {ks : List Key} : (ddK ks.reverse).length = (dd (ks.map keyD)).length := by
  have h1 : ((ddK ks.reverse).map keyD).Nodup := (List.pairwise_map.mpr ((ddK_nodup _).imp fun h e => h (keyD_inj2 e)))
  have := nodup_same h1 (dd_nodup (ks.map keyD)) fun x => by
    rw [dd_mem, List.mem_map, List.mem_map]
    constructor
    · rintro ⟨k, hk, e⟩; exact ⟨k, List.mem_reverse.mp ((ddK_mem _ _).mp hk), e⟩
    · rintro ⟨k, hk, e⟩; exact ⟨k, (ddK_mem _ _).mpr (List.mem_reverse.mpr hk), e⟩
  rw [List.length_map] at this
  exact this
/-- tuples by their addresses -/
theorem tup_adr {H : Hp} : ∀ {xs : List D} {ws : List V}, Reps X.x H xs ws → xs.all okTk = true → ∃ ms : List (Addr × D), ws = ms.map (fun p => V.ref p.1) ∧ xs = ms.map (·.2) ∧ ∀ p ∈ ms, Rep X.x H p.2 (.ref p.1)
  | [], _, .nil, _ => ⟨[], rfl, rfl, fun p hp => by cases hp⟩
  | x :: xs, _, .cons (v := v) r t, h => by
    rw [List.all_cons, Bool.and_eq_true] at h
    obtain ⟨ms, e1, e2, e3⟩ := tup_adr t h.2
    have ht : x.tpk = true := by
      have := h.1
      unfold okTk at this
      rw [Bool.and_eq_true] at this
      exact this.1
    cases x <;> first | (cases ht; done) | skip
    cases r with
    | tup q1 q2 =>
      exact ⟨(_, _) :: ms, by rw [e1]; rfl, by rw [e2]; rfl, fun p hp => by
        rcases List.mem_cons.mp hp with rfl | hp
        · exact .tup q1 q2
        · exact e3 p hp⟩
theorem okTk_nt {pins : List (Addr × Obj)} {σ : L2.St} {H : Hp} {s : Shared} (I : L2.Inv X pins σ H s) {d : D} {a : Addr} (h : okTk d = true) (r : Rep X.x H d (.ref a)) : NT X.prog X.w s.heap (nkey d) a := by
  unfold okTk at h
  rw [Bool.and_eq_true, decide_eq_true_eq] at h
  cases d <;> first | (cases h.1; done) | skip
  exact tkey_of I h.1 h.2 r
/-- set(x) -/
def rSetB (X : Cx) : List V → Hp → VK → Prop := fun xs H Q => rSetN X xs H Q ∨ rSetK X xs H Q
theorem cr_setB (hc : X.calm = true) (hu : X.A.units + 64 < cLine) : CallR X (.type "set") (rSetB X) := by
  intro pins s σ H xs us Q I r h
  rcases h with h | h
  · exact cr_setN hc hu pins s σ H xs us Q I r h
  · exact cr_setK hc pins s σ H xs us Q I r h
def rLenB (X : Cx) : List V → Hp → VK → Prop := fun xs H Q => (∃ a M, xs = [V.ref a] ∧ H a = some (SnO X.prog X.w a M) ∧ Q (.int M.length) H) ∨ ∃ a S n, xs = [V.ref a] ∧ H a = some (SetK X.prog X.w a S n) ∧ n < 64 ∧ Q (.int n) H
theorem cr_lenB : CallR X (.builtin "len") (rLenB X) := by
  intro pins s σ H xs us Q I r h
  rcases h with h | h
  · exact cr_lenN pins s σ H xs us Q I r h
  · exact cr_lenK pins s σ H xs us Q I r h
/-- what the set holds, by the things themselves -/
theorem gt_lift {ms : List (Addr × D)} {M : List (Addr × NestedKey)} (hk : ∀ p ∈ ms, okTk p.2 = true) (g : Gt (ms.map nk) (ms.map nk).length M) (nd : (M.map (·.2)).Nodup) :
    ∃ L : List (Addr × D), M = L.map nk ∧ (∀ p ∈ L, p ∈ ms) ∧ (L.map (·.2)).Perm (dd (ms.map (·.2))) := by
  have sub : ∀ p ∈ M, p ∈ ms.map nk := fun p hp => by have := g.sub p hp; rwa [List.take_length] at this
  have all : ∀ p ∈ ms.map nk, p.2 ∈ M.map (·.2) := fun p hp => g.all p (by rw [List.take_length]; exact hp)
  have lift : ∀ M : List (Addr × NestedKey), (∀ p ∈ M, p ∈ ms.map nk) → ∃ L : List (Addr × D), M = L.map nk ∧ ∀ p ∈ L, p ∈ ms := by
    intro M
    induction M with
    | nil => intro _; exact ⟨[], rfl, fun p hp => by cases hp⟩
    | cons q M ih =>
      intro h
      obtain ⟨L, e, hL⟩ := ih fun p hp => h p (List.mem_cons_of_mem _ hp)
      obtain ⟨p, hp, e2⟩ := List.mem_map.mp (h q List.mem_cons_self)
      exact ⟨p :: L, by rw [List.map_cons, ← e, e2], fun r hr => by
        rcases List.mem_cons.mp hr with rfl | hr
        · exact hp
        · exact hL r hr⟩
  obtain ⟨L, e, hL⟩ := lift M sub
  refine ⟨L, e, hL, ?_⟩
  have inj : ∀ p ∈ ms, ∀ q ∈ ms, nkey p.2 = nkey q.2 → p.2 = q.2 := fun p hp q hq e => by
    have h1 := hk p hp
    have h2 := hk q hq
    unfold okTk at h1 h2
    rw [Bool.and_eq_true] at h1 h2
    have k1 : D.key p.2 = true := by cases h : p.2 <;> rw [h] at h1 <;> first | (cases h1.1; done) | exact h1.1
    have k2 : D.key q.2 = true := by cases h : q.2 <;> rw [h] at h2 <;> first | (cases h2.1; done) | exact h2.1
    exact nkey_inj _ _ k1 k2 e
  have nd2 : (L.map (·.2)).Nodup := by
    rw [e, List.map_map] at nd
    have nd3 : (L.map fun p => nkey p.2).Nodup := nd
    rw [List.Nodup, List.pairwise_map] at nd3 ⊢
    exact nd3.imp fun h e => h (by rw [e])
  refine (List.perm_ext_iff_of_nodup nd2 (dd_nodup _)).mpr fun d => ?_
  rw [dd_mem, List.mem_map, List.mem_map]
  constructor
  · rintro ⟨p, hp, e⟩; exact ⟨p, hL p hp, e⟩
  · rintro ⟨p, hp, rfl⟩
    obtain ⟨q, hq, e3⟩ := List.mem_map.mp (all (nk p) (List.mem_map_of_mem hp))
    rw [e] at hq
    obtain ⟨r, hr, rfl⟩ := List.mem_map.mp hq
    exact ⟨r, hr, inj r (hL r hr) p hp e3⟩
end
section
variable {n : Nat} {T : Nat → Option FD} {c : SC} {X : Cx} {A : Anc} {ex : EX} {pos cpos p1 p2 : Pos} {a : Expr} {wa : Env → Store → KD → Prop}
theorem s_lset (k : Cok n T c X A ex) (h1 : gliB c.names "len" = true) (h2 : gliB c.names "set" = true) (hst : starB a = false) (ha : PE X a (LE X.x A wa)) :
    PE X (.Call (.Name "len" p1) [.Call (.Name "set" p2) [a] [] cpos] [] pos) (LE X.x A fun env S Q => wa env S fun x S1 => sLset x S1 Q) := by
  have hin := pe_callTy (pos := cpos) (p := p2) (cr_setB (X := X) k.calm k.room.units) (kind_gl k h2) (k.bl _ (by decide)) (by decide +kernel) (pa_cons ha pa_nil (star_cons hst)) (he := star_cons hst) (hpl := rfl)
  have hs : starEach [Expr.Call (.Name "set" p2) [a] [] cpos] X.env = (false, eval (Expr.Call (.Name "set" p2) [a] [] cpos) X.env) :: starEach [] X.env := star_cons rfl
  refine pe_of (pe_callB cr_lenB (kind_gl k h1) (k.bl _ (by decide)) boot_len (pa_cons hin pa_nil hs) (he := hs) (hpl := rfl)) fun σ H Q ⟨env, S, Q0, h1, hs, hf, hw, hq⟩ => ?_
  refine ⟨env, S, _, h1, hs, hf, hw, fun x S1 v H1 w f1 s1 r1 => ?_⟩
  have hb := hq.at f1
  obtain ⟨xs, e, h64, hk, w⟩ := w
  obtain ⟨b, ws, rfl, hl, rs⟩ := seq_vals s1 r1 e
  have len := rs.length
  rcases hk with hk | hk
  · obtain ⟨ks, rfl, rfl⟩ := sca_keys rs hk
    rw [List.length_map] at h64
    refine .inr ⟨b, ks, rfl, hl, h64, fun p hp => .inr ⟨p, _, _, rfl, L2.upd_same, ?_, ?_⟩⟩
    · have : (ddK ks.reverse).length ≤ ks.length := by
        have h : ∀ l : List Key, (ddK l).length ≤ l.length := by
          intro l
          induction l with
          | nil => exact Nat.le_refl _
          | cons y l ih => rw [ddK]; split <;> (first | (rw [List.length_cons]; omega) | (rw [List.length_cons, List.length_cons]; omega))
        have := h ks.reverse
        rwa [List.length_reverse] at this
      omega
    · rw [ddK_len]
      exact hb _ S1 _ _ w (.ext (ext_upd hp)) (s1.ext (ext_upd hp)) (.int _)
  · obtain ⟨ms, rfl, rfl, rm⟩ := tup_adr rs hk
    rw [List.length_map] at h64
    have hk2 : ∀ p ∈ ms, okTk p.2 = true := fun p hp => List.all_eq_true.mp hk _ (List.mem_map_of_mem hp)
    refine .inl ⟨b, ms.map nk, rfl, ?_, fun pins σ s I p hp => ?_, by rw [List.length_map]; exact h64, fun p M hp g nd => .inl ⟨p, M, rfl, L2.upd_same, ?_⟩⟩
    · rw [List.map_map]
      exact hl
    · obtain ⟨q, hq, rfl⟩ := List.mem_map.mp hp
      exact okTk_nt I (hk2 q hq) (rm q hq)
    · obtain ⟨L, rfl, _, pm⟩ := gt_lift hk2 g nd
      have e : (L.map nk).length = (dd (ms.map (·.2))).length := by rw [List.length_map, ← pm.length_eq, List.length_map]
      rw [e]
      exact hb _ S1 _ _ w (.ext (ext_upd hp)) (s1.ext (ext_upd hp)) (.int _)
theorem py_dep : (∀ d : D, D.key d = true → ∃ p, py0 d = some p ∧ p.depth = D.dep d) := by
  intro d
  refine D.rec (motive_1 := fun d => D.key d = true → ∃ p, py0 d = some p ∧ p.depth = D.dep d) (motive_2 := fun ds => D.keys ds = true → ∃ ps, py0s ds = some ps ∧ PyData.depthAll ps = D.deps ds) ?_ ?_ ?_ ?_ ?_ ?_ ?_ ?_ ?_ ?_ d
  · intro _; exact ⟨_, rfl, rfl⟩
  · intro b h; cases h
  · intro i _; exact ⟨_, rfl, rfl⟩
  · intro x _; exact ⟨_, rfl, rfl⟩
  · intro xs ih h
    obtain ⟨ps, h1, h2⟩ := ih h
    exact ⟨.tuple ps, by rw [py0, h1], by rw [PyData.depth, D.dep, h2]⟩
  · intro xs ih h; cases h
  · intro ks vs ih h; cases h
  · intro a h; cases h
  · intro _; exact ⟨[], rfl, rfl⟩
  · intro x xs ih1 ih2 h
    rw [D.keys, Bool.and_eq_true] at h
    obtain ⟨p, h1, h2⟩ := ih1 h.1
    obtain ⟨ps, h3, h4⟩ := ih2 h.2
    exact ⟨p :: ps, by rw [py0s, h1, h3], by rw [PyData.depthAll, D.deps, h2, h4]⟩
theorem s_sset (k : Cok n T c X A ex) (hu : X.A.units + 70 < cLine) (h1 : gliB c.names "sorted" = true) (h2 : gliB c.names "set" = true) (hst : starB a = false) (ha : PE X a (LE X.x A wa)) :
    PE X (.Call (.Name "sorted" p1) [.Call (.Name "set" p2) [a] [] cpos] [] pos) (LE X.x A fun env S Q => wa env S fun x S1 => sSset x S1 Q) := by
  have hin := pe_callTy (pos := cpos) (p := p2) (cr_setB (X := X) k.calm k.room.units) (kind_gl k h2) (k.bl _ (by decide)) (by decide +kernel) (pa_cons ha pa_nil (star_cons hst)) (he := star_cons hst) (hpl := rfl)
  have hs : starEach [Expr.Call (.Name "set" p2) [a] [] cpos] X.env = (false, eval (Expr.Call (.Name "set" p2) [a] [] cpos) X.env) :: starEach [] X.env := star_cons rfl
  refine pe_of (pe_callB (cr_sortedN k.calm hu) (kind_gl k h1) (k.bl _ (by decide)) (by decide +kernel) (pa_cons hin pa_nil hs) (he := hs) (hpl := rfl)) fun σ H Q ⟨env, S, Q0, h1, hs, hf, hw, hq⟩ => ?_
  refine ⟨env, S, _, h1, hs, hf, hw, fun x S1 v H1 w f1 s1 r1 => ?_⟩
  have hb := hq.at f1
  obtain ⟨xs, e, h64, hk, hal, hsr, w⟩ := w
  obtain ⟨b, ws, rfl, hl, rs⟩ := seq_vals s1 r1 e
  obtain ⟨ms, rfl, rfl, rm⟩ := tup_adr rs hk
  rw [List.length_map] at h64
  have hk2 : ∀ p ∈ ms, okTk p.2 = true := fun p hp => List.all_eq_true.mp hk _ (List.mem_map_of_mem hp)
  have hpy : ∀ p ∈ ms, py0 p.2 = some (pyD p.2) ∧ (pyD p.2).depth ≤ 60 := fun p hp => by
    have h := hk2 p hp
    unfold okTk at h
    rw [Bool.and_eq_true, decide_eq_true_eq] at h
    have hkey : D.key p.2 = true := by cases hd : p.2 <;> rw [hd] at h <;> first | (cases h.1; done) | exact h.1
    obtain ⟨q, e1, e2⟩ := py_dep p.2 hkey
    unfold pyD
    rw [e1]
    exact ⟨rfl, by show q.depth ≤ 60; omega⟩
  refine .inl ⟨b, ms.map nk, rfl, ?_, fun pins σ s I p hp => ?_, by rw [List.length_map]; exact h64, fun p M hp g nd => ?_⟩
  · rw [List.map_map]
    exact hl
  · obtain ⟨q, hq, rfl⟩ := List.mem_map.mp hp
    exact okTk_nt I (hk2 q hq) (rm q hq)
  · obtain ⟨L, rfl, sub, pm⟩ := gt_lift hk2 g nd
    have ext : ∀ b u, H1 b = some u → L2.upd H1 p (SnO X.prog X.w p (L.map nk)) b = some u := ext_upd hp
    have sL : ∀ d ∈ L.map (fun p => pyD p.2), d ∈ (ms.map (·.2)).map pyD := fun d hd => by
      obtain ⟨q, hq, rfl⟩ := List.mem_map.mp hd
      exact List.mem_map_of_mem (List.mem_map_of_mem (sub q hq))
    refine ⟨p, L, rfl, L2.upd_same, fun q hq => (rm q (sub q hq)).stay (.of_ext ext), fun q hq => (hpy q (sub q hq)).1, fun q hq => (hpy q (sub q hq)).2, fun d hd d' hd' => hal d (sL d hd) d' (sL d' hd'), ?_, fun L' p' pm' pw hn => ?_⟩
    · rcases hsr with h | h
      · exact .inl fun d hd => h d (sL d hd)
      · exact .inr fun d hd => h d (sL d hd)
    · have s2 := s1.ext ext
      have rL : ∀ l : List (Addr × D), (∀ q ∈ l, q ∈ ms) → Reps X.x (L2.upd H1 p (SnO X.prog X.w p (L.map nk))) (l.map (·.2)) (l.map fun q => V.ref q.1) := by
        intro l
        induction l with
        | nil => intro _; exact .nil
        | cons q l ih => intro h; exact .cons ((rm q (h q List.mem_cons_self)).stay (.of_ext ext)) (ih fun r hr => h r (List.mem_cons_of_mem _ hr))
      refine (hb.at (.ext ext)).lst s2 (w (L'.map (·.2)) ((pm'.map (·.2)).trans pm) ?_) (rL L' fun q hq => sub q (pm'.mem_iff.mp hq)) p' hn
      exact List.pairwise_map.mpr pw
end
end Mn

/-! Sim6: targets, what is gone through, comprehensions. -/
namespace Mn
open PySem PySem.Spec PyProof.Rows L2

/-! ### targets -/
theorem wipe_set {σ : L2.St} {i : Nat} {y : Option V} : ∀ {vs : List Nat}, (i ∈ vs → L2.wipe (σ.set i y) vs = L2.wipe σ vs) ∧ (i ∉ vs → L2.wipe (σ.set i y) vs = (L2.wipe σ vs).set i y)
  | [] => ⟨fun h => (by cases h), fun _ => rfl⟩
  | v :: vs => by
    have ih := @wipe_set σ i y vs
    refine ⟨fun h => ?_, fun h => ?_⟩
    · show (L2.wipe (σ.set i y) vs).set v none = (L2.wipe σ vs).set v none
      by_cases hi : i ∈ vs
      · rw [ih.1 hi]
      · rw [ih.2 hi]
        rcases List.mem_cons.mp h with e | h
        · rw [e, List.set_set]
        · exact absurd h hi
    · show (L2.wipe (σ.set i y) vs).set v none = ((L2.wipe σ vs).set v none).set i y
      rw [ih.2 (fun z => h (List.mem_cons_of_mem _ z)), List.set_comm]
      exact fun z => h (by rw [z]; exact List.mem_cons_self)
mutual
def G.sl : G → List Nat
  | .nm i => [i]
  | .tp gs => Gs.sl gs
def Gs.sl : Gs → List Nat
  | .nil => []
  | .cons g gs => G.sl g ++ Gs.sl gs
end
def LG (K : Kx) (g : G) : TG := fun v σ H Q => ∃ d env Q0, ER K H env σ ∧ Rep K H d v ∧ wG g d env Q0 ∧
  ∀ env' σ', Q0 env' → ER K H env' σ' → (∀ vs, (∀ i ∈ G.sl g, i ∈ vs) → L2.wipe σ' vs = L2.wipe σ vs) → Q σ' H
def LGs (K : Kx) (gs : Gs) : TGs := fun vs σ H Q => ∃ ds env Q0, ER K H env σ ∧ Reps K H ds vs ∧ wGs gs ds env Q0 ∧
  ∀ env' σ', Q0 env' → ER K H env' σ' → (∀ vs, (∀ i ∈ Gs.sl gs, i ∈ vs) → L2.wipe σ' vs = L2.wipe σ vs) → Q σ' H
section
variable {X : Cx} {e : Expr} {es : List Expr}
theorem pg_of {t t' : TG} (h : PG X e t) (i : ∀ v σ H Q, t' v σ H Q → t v σ H Q) : PG X e t' := ⟨fun pins s σ H v u Q I r w => h.run pins s σ H v u Q I r (i v σ H Q w)⟩
theorem pgs_of {t t' : TGs} (h : PGs X es t) (i : ∀ v σ H Q, t' v σ H Q → t v σ H Q) : PGs X es t' := ⟨fun pins s σ H v u Q I r w => h.run pins s σ H v u Q I r (i v σ H Q w)⟩
theorem assign_cons {env : PySem.Env} (h : starB e = false) : assignEach (e :: es) env = (false, assign e env) :: assignEach es env := by
  cases e <;> first | rfl | cases h
theorem assign_len {env : PySem.Env} : ∀ {es : List Expr}, (∀ y ∈ es, starB y = false) → (assignEach es env).length = es.length
  | [], _ => rfl
  | e :: es, h => by rw [assign_cons (h e List.mem_cons_self), List.length_cons, List.length_cons, assign_len fun y hy => h y (List.mem_cons_of_mem _ hy)]
theorem assign_none {env : PySem.Env} : ∀ {es : List Expr}, (∀ y ∈ es, starB y = false) → (assignEach es env).findIdx? (·.1) = none
  | [], _ => rfl
  | e :: es, h => by
    rw [assign_cons (h e List.mem_cons_self), List.findIdx?_cons, assign_none fun y hy => h y (List.mem_cons_of_mem _ hy)]
    rfl
theorem g_nm {i : Nat} {x : Str} {p : Pos} (hN : X.N.Nodup) (hi : X.N[i]? = some x) (hx : Loc X.env.scope x) (hf : X.fn x = true ∨ X.env.scope.names.lookup x = some .local) : PG X (.Name x p) (LG X.x (.nm i)) := by
  refine pg_of (pg_name hN hi hx hf) fun v σ H Q ⟨d, env, Q0, he, r, w, hq⟩ => ?_
  exact hq _ _ w (he.set r i) fun vs h => wipe_set.1 (h i (by simp [G.sl]))
theorem gs_nil : PGs X [] (LGs X.x .nil) := by
  refine pgs_of pgs_nil fun vs σ H Q ⟨ds, env, Q0, he, r, w, hq⟩ => ?_
  cases r with
  | nil => exact ⟨rfl, hq _ _ w he fun _ _ => rfl⟩
  | cons _ _ => exact w.elim
theorem gs_cons {g : G} {gs : Gs} (hst : starB e = false) (h1 : PG X e (LG X.x g)) (h2 : PGs X es (LGs X.x gs)) : PGs X (e :: es) (LGs X.x (.cons g gs)) := by
  refine pgs_of (pgs_cons h1 h2 (by rw [assign_cons hst]; rfl)) fun vs σ H Q ⟨ds, env, Q0, he, r, w, hq⟩ => ?_
  cases r with
  | nil => exact w.elim
  | cons r rs =>
    refine ⟨_, _, rfl, _, env, _, he, r, w, fun env1 σ1 w1 e1 p1 => ?_⟩
    refine ⟨_, env1, _, e1, rs, w1, fun env2 σ2 w2 e2 p2 => hq env2 σ2 w2 e2 fun vs h => ?_⟩
    rw [p2 vs fun i hi => h i (by simp [Gs.sl, hi]), p1 vs fun i hi => h i (by simp [Gs.sl, hi])]
theorem g_tp {gs : Gs} {k : Nat} {p : Pos} (hc : X.calm = true) (hst : ∀ y ∈ es, starB y = false) (hl : ∀ ds env Q, wGs gs ds env Q → ds.length = es.length) (h : PGs X es (LGs X.x gs)) : PG X (.Tuple es k p) (LG X.x (.tp gs)) := by
  refine pg_of (pg_tup (n := es.length) hc h (assign_len hst) (assign_none hst)) fun v σ H Q ⟨d, env, Q0, he, r, w, hq⟩ => ?_
  cases r with
  | tup hs rs => exact ⟨_, _, rfl, hs, by rw [← rs.length]; exact hl _ _ _ w, _, env, Q0, he, rs, w, hq⟩
  | _ => exact w.elim
end
mutual
theorem wG_ex : ∀ (g : G) (d : D) (env : Env) (Q : Env → Prop), wG g d env Q → ∃ env', Q env'
  | .nm i, d, env, Q, w => ⟨_, w⟩
  | .tp gs, .tup xs, env, Q, w => wGs_ex gs xs env Q w
  | .tp _, .non, _, _, w => w.elim
  | .tp _, .bl _, _, _, w => w.elim
  | .tp _, .int _, _, _, w => w.elim
  | .tp _, .str _, _, _, w => w.elim
  | .tp _, .rol _, _, _, w => w.elim
  | .tp _, .kdc _ _, _, _, w => w.elim
  | .tp _, .obj _, _, _, w => w.elim
theorem wGs_ex : ∀ (gs : Gs) (ds : List D) (env : Env) (Q : Env → Prop), wGs gs ds env Q → ∃ env', Q env'
  | .nil, [], env, Q, w => ⟨_, w⟩
  | .nil, _ :: _, _, _, w => w.elim
  | .cons _ _, [], _, _, w => w.elim
  | .cons g gs, d :: ds, env, Q, w => by
    obtain ⟨env1, w1⟩ := wG_ex g d env _ w
    exact wGs_ex gs ds env1 Q w1
end
def Gs.len : Gs → Nat
  | .nil => 0
  | .cons _ gs => gs.len + 1
theorem wGs_len : ∀ (gs : Gs) (ds : List D) (env : Env) (Q : Env → Prop), wGs gs ds env Q → ds.length = gs.len
  | .nil, [], _, _, _ => rfl
  | .nil, _ :: _, _, _, w => w.elim
  | .cons _ _, [], _, _, w => w.elim
  | .cons g gs, d :: ds, env, Q, w => by
    obtain ⟨env1, w1⟩ := wG_ex g d env _ w
    rw [List.length_cons, wGs_len gs ds env1 Q w1, Gs.len]

/-! ### what is gone through -/
def ItOk (K : Kx) (items : List D) (guard : Store → Prop) (S : Store) (H : Hp) (J : L2.It) : Prop :=
  ∀ (i : Nat) (S' : Store) (H' : Hp), Fm S H S' H' → SR K S' H' → guard S' →
    (∀ d, items[i]? = some d → J.go i H' ∧ ∀ x H2, J.yld i H' x H2 → (∀ p o, H' p = some o → H2 p = some o) ∧ Rep K H2 d x) ∧ (items.length = i → J.stop i H')
def LI (K : Kx) (A : Anc) (w : Env → Store → (List D → (Store → Prop) → Store → Prop) → Prop) : TI := fun σ H R =>
  ∃ env S Q0, ER K H env σ ∧ SR K S H ∧ Fm A.1 A.2 S H ∧ w env S Q0 ∧ ∀ items guard S' J H', Q0 items guard S' → Fm S H S' H' → SR K S' H' → guard S' → ItOk K items guard S' H' J → R J H'
section
variable {n : Nat} {T : Nat → Option FD} {c : SC} {X : Cx} {A : Anc} {ex : EX} {pos : Pos} {tg a b e : Expr} {es : List Expr} {wa wb wc : Env → Store → KD → Prop} {ws : Env → Store → (List D → Store → Prop) → Prop}
theorem it_list {K : Kx} {xs : List D} {p : Addr} {S : Store} {H : Hp} (g : ∀ S' H', Fm S H S' H' → SR K S' H' → lsOf S' (.obj p) = some xs → True) : ItOk K xs (fun S' => S' p = some (.lst xs)) S H (Itl K.K p) := by
  intro i S' H' f s h
  obtain ⟨vs, h1, r1⟩ := s.lst h
  have hq : SqL K.K H' p vs := .inl (.inl h1)
  refine ⟨fun d e => ?_, fun hi => ⟨vs, hq, by rw [← r1.length]; exact Nat.le_of_eq hi⟩⟩
  obtain ⟨v, e2, r2⟩ := r1.get e
  refine ⟨⟨vs, v, hq, e2⟩, fun x H2 ⟨e3, y⟩ => ?_⟩
  subst e3
  have := y vs hq
  rw [e2] at this
  cases this
  exact ⟨fun _ _ z => z, r2⟩
theorem it_rol {K : Kx} {xs : List D} {vs : List V} {p : Addr} {S : Store} {H : Hp} (s0 : SR K S H) (h0 : SqR K H p vs) (r0 : Reps K H xs vs) : ItOk K xs (fun _ => True) S H (Itl K.K p) := by
  intro i S' H' f s _
  have st := f.stay s0
  have hq : SqL K.K H' p vs := (st.sqr h0).l
  have r1 := r0.stay st
  refine ⟨fun d e => ?_, fun hi => ⟨vs, hq, by rw [← r1.length]; exact Nat.le_of_eq hi⟩⟩
  obtain ⟨v, e2, r2⟩ := r1.get e
  refine ⟨⟨vs, v, hq, e2⟩, fun x H2 ⟨e3, y⟩ => ?_⟩
  subst e3
  have := y vs hq
  rw [e2] at this
  cases this
  exact ⟨fun _ _ z => z, r2⟩
theorem it_tup {K : Kx} {xs : List D} {vs : List V} {p : Addr} {S : Store} {H : Hp} (s0 : SR K S H) (h0 : SqT K.K H p vs) (r0 : Reps K H xs vs) : ItOk K xs (fun _ => True) S H (Itt K.K p) := by
  intro i S' H' f s _
  have st := f.stay s0
  have hq : SqT K.K H' p vs := st.sqt h0
  have r1 := r0.stay st
  refine ⟨fun d e => ?_, fun hi => ⟨vs, hq, by rw [← r1.length]; exact Nat.le_of_eq hi⟩⟩
  obtain ⟨v, e2, r2⟩ := r1.get e
  refine ⟨⟨vs, v, hq, e2⟩, fun x H2 ⟨e3, y⟩ => ?_⟩
  subst e3
  have := y vs hq
  rw [e2] at this
  cases this
  exact ⟨fun _ _ z => z, r2⟩
theorem rngD_get : ∀ (m : Nat) (lo : Int) (i : Nat), (rngD lo m)[i]? = if i < m then some (.int (lo + i)) else none
  | 0, lo, i => by simp [rngD]
  | m + 1, lo, 0 => by simp [rngD]
  | m + 1, lo, i + 1 => by
    rw [rngD, List.getElem?_cons_succ, rngD_get m (lo + 1) i]
    have e : lo + 1 + (i : Int) = lo + ((i + 1 : Nat) : Int) := by omega
    rw [e]
    by_cases h : i < m
    · rw [if_pos h, if_pos (by omega)]
    · rw [if_neg h, if_neg (by omega)]
theorem rngD_len : ∀ (m : Nat) (lo : Int), (rngD lo m).length = m
  | 0, _ => rfl
  | m + 1, lo => by rw [rngD, List.length_cons, rngD_len m]
theorem it_rng {K : Kx} {lo : Int} {m : Nat} {S : Store} {H : Hp} : ItOk K (rngD lo m) (fun _ => True) S H (Itr lo m) := by
  intro i S' H' f s _
  refine ⟨fun d e => ?_, fun hi => by rw [rngD_len] at hi; exact Nat.le_of_eq hi⟩
  rw [rngD_get] at e
  by_cases h : i < m
  · rw [if_pos h] at e
    cases e
    refine ⟨h, fun x H2 ⟨e1, e2⟩ => ?_⟩
    subst e1
    subst e2
    exact ⟨fun _ _ z => z, .int _⟩
  · rw [if_neg h] at e; cases e
theorem it_str {K : Kx} {x : Str} {S : Store} {H : Hp} : ItOk K (x.cps.toList.map fun c => .str ⟨#[c]⟩) (fun _ => True) S H (Its x) := by
  intro i S' H' f s _
  refine ⟨fun d e => ?_, fun hi => by rw [List.length_map, Array.length_toList] at hi; exact Nat.le_of_eq hi⟩
  rw [List.getElem?_map, Array.getElem?_toList] at e
  cases h : x.cps[i]? with
  | none => rw [h] at e; cases e
  | some c =>
    rw [h] at e
    cases e
    refine ⟨(Array.getElem?_eq_some_iff.mp h).1, fun y H2 ⟨e1, c', e2, e3⟩ => ?_⟩
    subst e1
    subst e3
    rw [h] at e2
    cases e2
    exact ⟨fun _ _ z => z, .str _⟩
/-- the keys of a pinned dict -/
def ItkD (K : Kx) (d : Addr) (o : Obj) : L2.It where
  go := fun i H => ∃ kv, H d = some (.ext (PinK K d o kv)) ∧ i < kv.length
  yld := fun i H x H' => H' = H ∧ ∀ kv, H d = some (.ext (PinK K d o kv)) → ∃ k v, kv[i]? = some (k, v) ∧ x = kV k
  stop := fun i H => ∃ kv, H d = some (.ext (PinK K d o kv)) ∧ kv.length ≤ i
theorem pairs_det {P : Program} {w : World} : ∀ {es : List DictEntry} {vs vs2 : List (Key × Value)}, Pairs (mixKind P w) es vs → Pairs (mixKind P w) es vs2 → vs = vs2
  | _, _, _, .nil, .nil => rfl
  | _, _, _, .cons (kv := p) h1 h2 r, .cons (kv := q) g1 g2 r' => by
    rw [pairs_det r r']
    have e1 := (mixKind P w).inj _ _ _ h1 g1
    have e2 : p.2 = q.2 := h2.symm.trans g2
    rw [show p = q from Prod.ext e1 e2]
theorem kv_det {kv kv2 : List (Key × V)} {vs : List (Key × Value)} (r : KV kv vs) (q : KV kv2 vs) : kv = kv2 := by
  unfold KV at r q
  induction r generalizing kv2 with
  | nil => cases q; rfl
  | cons h t ih =>
    cases q with
    | cons h' t' =>
      rw [ih t']
      rw [show _ = _ from Prod.ext (h.1.trans h'.1.symm) (h.2.inj h'.2)]
theorem pin_agree {K : Kx} {a : Addr} {st : Obj} {kv kv2 : List (Key × V)} {h : Heap} (p : PinK K a st kv h) (q : PinK K a st kv2 h) : kv = kv2 := by
  obtain ⟨_, _, _, vs, r, o, es, ep, e1, _, e2, _, pr, _⟩ := p
  obtain ⟨_, _, _, vs2, r2, o2, es2, ep2, f1, _, f2, _, pr2, _⟩ := q
  rw [e1] at f1
  cases f1
  obtain ⟨rfl, rfl⟩ := dict_ep e2 f2
  have := pairs_det pr pr2
  subst this
  exact kv_det r r2
theorem pin_raw {pins : List (Addr × Obj)} {X : Cx} {σ : L2.St} {H : Hp} {s : Shared} {d : Addr} {o : Obj} {kv : List (Key × V)} (I : Inv X pins σ H s) (h : H d = some (.ext (PinK X.x d o kv))) :
    (d == sysModules) = false ∧ s.heap.get? d = some o ∧ o.ExactDict ∧ ∃ (es : Array DictEntry) (ep : Nat) (vs : List (Key × Value)), o.data = .dict es ep ∧ es.size = kv.length ∧ KV kv vs ∧ Heap.DictAt (mixKind X.prog X.w) s.heap d vs ep := by
  obtain ⟨hs, hgd, hx, es, ep, vs, hdt, hsz, q, hm⟩ := (frzD I h).frzK L2.upd_same
  exact ⟨hs, hgd, hx, es, ep, vs, hdt, hsz, q, hm⟩
theorem turn_keysD {P : Program} {w : World} {K : PySem.W.Frag} {d : Addr} {o : Obj} {es : Array DictEntry} {ep : Nat} (it : Addr) (hod : o.data = .dict es ep) :
    Turn P w K tg (ItkD ⟨K, P, w⟩ d o) [it] it (fun i h => h.IsKeyIter it d i es.size ep) where
  mem := by simp
  obj := fun i h st b hb => by
    have e : b = it := by simpa using hb
    subst e
    obtain ⟨oi, e, c, dd⟩ := st
    exact ⟨oi, e, fun v z => by rw [dd] at z; cases z⟩
  keep := fun i h h' st k => st.at fun oi e => k it (by simp) oi e
  item := by
    intro X hP hw hK hc i pins s σ H E I hf st hg
    subst hP hw hK
    obtain ⟨kv, hd, hi⟩ := hg
    obtain ⟨f0, f1, f2, f3, f4, f5⟩ := hf it (by simp)
    obtain ⟨hs, hgd, hxx, es', ep', vs, hdt, hsz, kvr, hm⟩ := pin_raw I hd
    obtain ⟨ee, eep⟩ := dict_ep hod hdt
    subst ee eep
    obtain ⟨⟨k, v⟩, hkv⟩ : ∃ p, kv[i]? = some p := ⟨kv[i], List.getElem?_eq_getElem hi⟩
    obtain ⟨u, hu, ru⟩ := kv_get kvr hkv
    have hl : es'.size = vs.length := hsz.trans (Paired.length kvr)
    rw [hl] at st
    refine wpAny_pyNext_dict_item st hm hu fun key h' hkey st' sb => ?_
    have I1 : Inv X pins σ H { s with heap := h' } := I.turned (t' := s.toks) (fun b ob hb e => (sb.2 b hb).trans e) f0 f1 f3 f4 f5
    obtain ⟨oi, e, c, dd⟩ := id st'
    refine ⟨key, rfl, go_of (s := { s with heap := h' }) e c dd (by decide) ⟨kV k, H, I1, relV_key (show keyIs k key = true from hkey), ⟨rfl, fun kv2 h2 => ?_⟩, ?_, fun b hb => (hf b hb).1⟩⟩
    · rw [pin_agree (I.hok d _ h2).1 (I.hok d _ hd).1]
      exact ⟨k, v, hkv, rfl⟩
    · show h'.IsKeyIter it d (i + 1) es'.size _
      rw [hl]
      exact st'
  done := by
    intro X hP hw hK hc i pins s σ H E I hf st hg
    subst hP hw hK
    obtain ⟨kv, hd, hi⟩ := hg
    obtain ⟨f0, f1, f2, f3, f4, f5⟩ := hf it (by simp)
    obtain ⟨hs, hgd, hxx, es', ep', vs, hdt, hsz, kvr, hm⟩ := pin_raw I hd
    obtain ⟨rfl, rfl⟩ := dict_ep hod hdt
    exact next_key_end (I.ok.hd hc) st hgd hdt rfl (by omega) fun h' eb => ⟨rfl, I.turned (t' := s.toks) (fun b ob hb e => eb b ob hb e) f0 f1 f3 f4 f5⟩
  self := fun A i s Q E st h => wpAny_pyIter_keyiter st h
theorem KR.at {K : Kx} {H : Hp} : ∀ {r : List (D × D)} {t : List (Key × V)} {i : Nat} {p : D × D}, KR K H r t → r[i]? = some p → ∃ k v, t[i]? = some (k, v) ∧ p.1 = keyD k ∧ Rep K H p.2 v
  | _, _, _, _, .nil, e => by simp at e
  | _, _, 0, _, .cons h _, e => by simp at e; subst e; exact ⟨_, _, rfl, rfl, h⟩
  | _, _, i + 1, _, .cons _ r, e => by
    obtain ⟨k, v, h1, h2⟩ := KR.at (i := i) r (by simpa using e)
    exact ⟨k, v, by simpa using h1, h2⟩
theorem it_keysD {K : Kx} {kvs : List (D × D)} {p : Addr} {st : Obj} {S : Store} {H : Hp} (hsc : kvs.all (·.1.sca) = true) : ItOk K (kvs.map (·.1)) (fun S' => S' p = some (.dic kvs st)) S H (ItkD K p st) := by
  intro i S' H' f s h
  obtain ⟨kv, h1, r1⟩ := s.dic h hsc
  refine ⟨fun d e => ?_, fun hi => ⟨kv, h1, by rw [← r1.length, ← hi, List.length_map]; exact Nat.le_refl _⟩⟩
  rw [List.getElem?_map] at e
  cases h2 : kvs[i]? with
  | none => rw [h2] at e; cases e
  | some q =>
    rw [h2] at e
    cases e
    obtain ⟨k, v, e2, e3, _⟩ := r1.at h2
    have hi : i < kv.length := (List.getElem?_eq_some_iff.mp e2).1
    refine ⟨⟨kv, h1, hi⟩, fun x H2 ⟨e4, y⟩ => ?_⟩
    subst e4
    obtain ⟨k', v', e5, e6⟩ := y kv h1
    rw [e2] at e5
    cases e5
    subst e6
    exact ⟨fun _ _ z => z, by show Rep K H2 q.fst _; rw [e3]; exact keyD_kV K _ _⟩
/-- the keys of a pinned dict, tuples -/
def ItkT (K : Kx) (d : Addr) (o : Obj) : L2.It where
  go := fun i H => ∃ xs, H d = some (.ext (PinT K d o xs)) ∧ i < xs.length
  yld := fun i H x H' => H' = H ∧ ∀ xs, H d = some (.ext (PinT K d o xs)) → ∃ k b u, xs[i]? = some (k, b, u) ∧ x = .ref b
  stop := fun i H => ∃ xs, H d = some (.ext (PinT K d o xs)) ∧ xs.length ≤ i
theorem pinT_raw {pins : List (Addr × Obj)} {X : Cx} {σ : L2.St} {H : Hp} {s : Shared} {d : Addr} {o : Obj} {es : Array DictEntry} {ep : Nat} {xs : List (NestedKey × Addr × Value)} (I : Inv X pins σ H s) (h : H d = some (.ext (PinT X.x d o xs))) (hod : o.data = .dict es ep) :
    (d == sysModules) = false ∧ s.heap.get? d = some o ∧ o.ExactDict ∧ es.size = xs.length ∧ ∀ (i : Nat) (k : NestedKey) (b : Addr) (u : Value), xs[i]? = some (k, b, u) → ∃ en : DictEntry, es[i]? = some en ∧ en.key = Value.ref b := by
  obtain ⟨⟨h1, h2, h3, h4, es', ep', h5, h6, h7⟩, _⟩ := I.hok d _ h
  obtain ⟨ee, eep⟩ := dict_ep hod h5
  subst ee eep
  refine ⟨h3, h1, h4, size_of_entries h6, fun i k b u e => ?_⟩
  have q := entry_at h6 i
  rw [e] at q
  exact ⟨_, q, rfl⟩
theorem turn_keysU {P : Program} {w : World} {K : PySem.W.Frag} {d : Addr} {o : Obj} {es : Array DictEntry} {ep : Nat} (it : Addr) (hod : o.data = .dict es ep) :
    Turn P w K tg (ItkT ⟨K, P, w⟩ d o) [it] it (fun i h => h.IsKeyIter it d i es.size ep) where
  mem := by simp
  obj := fun i h st b hb => by
    have e : b = it := by simpa using hb
    subst e
    obtain ⟨oi, e, c, dd⟩ := st
    exact ⟨oi, e, fun v z => by rw [dd] at z; cases z⟩
  keep := fun i h h' st k => st.at fun oi e => k it (by simp) oi e
  item := by
    intro X hP hw hK hc i pins s σ H E I hf st hg
    subst hP hw hK
    obtain ⟨xs, hd, hi⟩ := hg
    obtain ⟨f0, f1, f2, f3, f4, f5⟩ := hf it (by simp)
    obtain ⟨hs, hgd, hx, hsz, ent⟩ := pinT_raw I hd hod
    obtain ⟨⟨k, b, u⟩, hkv⟩ : ∃ p, xs[i]? = some p := ⟨xs[i], List.getElem?_eq_getElem hi⟩
    obtain ⟨en, hen, hkey⟩ := ent i k b u hkv
    refine next_key_item st hgd hod rfl hen fun h' st' sb => ?_
    have I1 : Inv X pins σ H { s with heap := h' } := I.turned (t' := s.toks) (fun b ob hb e => (sb.2 b hb).trans e) f0 f1 f3 f4 f5
    obtain ⟨oi, e, c, dd⟩ := id st'
    refine ⟨en.key, rfl, go_of (s := { s with heap := h' }) e c dd (by decide) ⟨.ref b, H, I1, hkey, ⟨rfl, fun ys h2 => ?_⟩, st', fun b hb => (hf b hb).1⟩⟩
    obtain ⟨_, _, _, hsz2, ent2⟩ := pinT_raw I h2 hod
    have hi2 : i < ys.length := by omega
    obtain ⟨⟨k2, b2, u2⟩, hkv2⟩ : ∃ p, ys[i]? = some p := ⟨ys[i], List.getElem?_eq_getElem hi2⟩
    obtain ⟨en2, hen2, hkey2⟩ := ent2 i k2 b2 u2 hkv2
    rw [hen] at hen2
    cases hen2
    rw [hkey] at hkey2
    cases hkey2
    exact ⟨k2, b, u2, hkv2, rfl⟩
  done := by
    intro X hP hw hK hc i pins s σ H E I hf st hg
    subst hP hw hK
    obtain ⟨xs, hd, hi⟩ := hg
    obtain ⟨f0, f1, f2, f3, f4, f5⟩ := hf it (by simp)
    obtain ⟨hs, hgd, hx, hsz, ent⟩ := pinT_raw I hd hod
    exact next_key_end (I.ok.hd hc) st hgd hod rfl (by omega) fun h' eb => ⟨rfl, I.turned (t' := s.toks) (fun b ob hb e => eb b ob hb e) f0 f1 f3 f4 f5⟩
  self := fun A i s Q E st h => wpAny_pyIter_keyiter st h
theorem it_keysT {K : Kx} {kvs : List (D × D)} {p : Addr} {st : Obj} {S : Store} {H : Hp} (hsc : kvs.all (·.1.tpk) = true) : ItOk K (kvs.map (·.1)) (fun S' => S' p = some (.dic kvs st)) S H (ItkT K p st) := by
  intro i S' H' f s h
  obtain ⟨xs, h1, r1⟩ := s.dicT h hsc
  refine ⟨fun d e => ?_, fun hi => ⟨xs, h1, by rw [← r1.length, ← hi, List.length_map]; exact Nat.le_refl _⟩⟩
  rw [List.getElem?_map] at e
  cases h2 : kvs[i]? with
  | none => rw [h2] at e; cases e
  | some q =>
    rw [h2] at e
    cases e
    obtain ⟨k, b, u, e2, e3⟩ := r1.at h2
    have hi : i < xs.length := (List.getElem?_eq_some_iff.mp e2).1
    refine ⟨⟨xs, h1, hi⟩, fun x H2 ⟨e4, y⟩ => ?_⟩
    subst e4
    obtain ⟨k', b', u', e5, e6⟩ := y xs h1
    rw [e2] at e5
    cases e5
    subst e6
    exact ⟨fun _ _ z => z, e3⟩
theorem pi_val (ha : PE X a (LE X.x A wa)) : PI X tg a (LI X.x A fun env S Q => wa env S fun d S1 => ∃ r, iters d S1 = some r ∧ Q r.1 r.2 S1) := by
  refine ⟨fun pins s σ H R I ⟨env, S, Q0, he, hs, hf, hw, hq⟩ => ?_⟩
  refine thn (ha.run pins s σ H (fun v H1 => ∃ d S1, (∃ r, iters d S1 = some r ∧ Q0 r.1 r.2 S1) ∧ Fm S H S1 H1 ∧ SR X.x S1 H1 ∧ Rep X.x H1 d v) I ⟨env, S, _, he, hs, hf, hw, fun d S1 v H1 w f1 s1 r1 => ⟨d, S1, w, f1, s1, r1⟩⟩) fun u s1 ⟨v, H1, I1, ru, d, S1, ⟨r, e1, w⟩, f1, sr, rd⟩ => ?_
  cases rd with
  | tup h rs =>
    cases e1
    cases ru
    obtain ⟨its, rv, p, hz⟩ := I1.tuple h
    refine wpAny_pyIter_tuple p ?_
    exact pi_one I1 _ (turn_tuple _ _) ⟨_, Heap.get?_push_size _ rfl, rfl, rfl⟩ (hq _ _ S1 _ H1 w f1 sr trivial (it_tup sr h rs))
  | rol h rs =>
    cases e1
    cases ru
    obtain ⟨its, rv, p, hz⟩ := I1.list h.l
    refine wpAny_pyIter_list p.isList ?_
    exact pi_one I1 _ (turn_list _ _) ⟨_, Heap.get?_push_size _ rfl, rfl, rfl⟩ (hq _ _ S1 _ H1 w f1 sr trivial (it_rol sr h rs))
  | str x =>
    cases e1
    obtain ⟨t, rfl⟩ := ru
    have q := hq _ _ S1 _ H1 w f1 sr trivial (it_str (K := X.x) (x := x))
    cases hx : x.cps.all (· < 128)
    · exact wpAny_pyIter_wide hx (pi_one (tk := s1.toks) I1 _ (turn_str _ x t "str_iterator" (.inr rfl)) ⟨_, Heap.get?_push_size _ rfl, rfl, rfl⟩ q)
    · exact wpAny_pyIter_ascii hx (pi_one (tk := s1.toks) I1 _ (turn_str _ x t "str_ascii_iterator" (.inl rfl)) ⟨_, Heap.get?_push_size _ rfl, rfl, rfl⟩ q)
  | obj p =>
    cases ru
    unfold iters at e1
    simp only at e1
    split at e1
    · rename_i xs e
      cases e1
      obtain ⟨vs, h1, r1⟩ := sr.lst e
      obtain ⟨its, rv, pl, hz⟩ := I1.list (.inl (.inl h1))
      refine wpAny_pyIter_list pl.isList ?_
      exact pi_one I1 _ (turn_list _ _) ⟨_, Heap.get?_push_size _ rfl, rfl, rfl⟩ (hq _ _ S1 _ H1 w f1 sr e (it_list fun _ _ _ _ _ => trivial))
    · rename_i kvs st e
      cases e1
      cases (show DicOk X.x H1 p kvs st from sr p _ e) with
      | k h1 r1 =>
        obtain ⟨hd, ho, hx, es, ep, vs, hdt, hsz, kvr, hm⟩ := pin_raw I1 h1
        refine iter_keys hd ho hx hdt ?_
        exact pi_one I1 _ (turn_keysD _ hdt) ⟨_, Heap.get?_push_size _ rfl, rfl, rfl⟩ (hq _ _ S1 _ H1 w f1 sr e (it_keysD r1.sca))
      | t h1 r1 =>
        obtain ⟨⟨_, _, _, _, es, ep, hdt, _⟩, _⟩ := I1.hok p _ h1
        obtain ⟨hd, ho, hx, hsz, ent⟩ := pinT_raw I1 h1 hdt
        refine iter_keys hd ho hx hdt ?_
        exact pi_one I1 _ (turn_keysU _ hdt) ⟨_, Heap.get?_push_size _ rfl, rfl, rfl⟩ (hq _ _ S1 _ H1 w f1 sr e (it_keysT r1.tpk))
    · cases e1
  | _ => cases e1
def one1 (q : D → Store → Prop) : List D → Store → Prop
  | [d], S => q d S
  | _, _ => False
def one2 (q : D → D → Store → Prop) : List D → Store → Prop
  | [d, e], S => q d e S
  | _, _ => False
theorem pi_rng (k : Cok n T c X A ex) {p1 : Pos} (h1 : gliB c.names "range" = true) (hst : starB a = false) (ha : PE X a (LE X.x A wa)) :
    PI X tg (.Call (.Name "range" p1) [a] [] pos) (LI X.x A fun env S Q => wa env S fun d S1 => match d with
      | .int n => (-(2 ^ 62) ≤ n ∧ n < 2 ^ 62) ∧ Q (rngD 0 n.toNat) (fun _ => True) S1
      | _ => False) := by
  have m1 : X.mg "range" = none := k.bl _ (by decide)
  refine ⟨fun pins s σ H R I ⟨env, S, Q0, he, hs, hf, hw, hq⟩ => (pi_range1 (kind_gl k h1) m1 (s_cons hst ha s_nil) (star_cons hst)).run pins s σ H R I ?_⟩
  refine ⟨env, S, one1 _, he, hs, hf, hw, fun ds S1 vs H1 w f1 s1 r1 => ?_⟩
  cases r1 with
  | nil => exact w.elim
  | cons r r' =>
    cases r' with
    | nil =>
      have w := w
      unfold one1 at w
      simp only at w
      split at w
      · cases r; exact ⟨_, rfl, w.1.1, w.1.2, hq _ _ S1 _ H1 w.2 f1 s1 trivial it_rng⟩
      · exact w.elim
    | cons _ _ => exact w.elim
theorem pi_rng2 (k : Cok n T c X A ex) {p1 : Pos} (h1 : gliB c.names "range" = true) (hst : starB a = false) (hst2 : starB b = false) (ha : PE X a (LE X.x A wa)) (hb : PE X b (LE X.x A wb)) :
    PI X tg (.Call (.Name "range" p1) [a, b] [] pos) (LI X.x A fun env S Q => wa env S fun d S1 => wb env S1 fun e S2 => match d, e with
      | .int m, .int n => (-(2 ^ 62) ≤ m ∧ m < 2 ^ 62 ∧ -(2 ^ 62) ≤ n ∧ n < 2 ^ 62) ∧ Q (rngD m (n - m).toNat) (fun _ => True) S2
      | _, _ => False) := by
  have m1 : X.mg "range" = none := k.bl _ (by decide)
  have hx : starEach [a, b] X.env = [(false, eval a X.env), (false, eval b X.env)] := by rw [star_cons hst, star_cons hst2]; rfl
  refine ⟨fun pins s σ H R I ⟨env, S, Q0, he, hs, hf, hw, hq⟩ => (pi_range2 (kind_gl k h1) m1 (s_cons hst ha (s_cons hst2 hb s_nil)) hx (star_cons hst2)).run pins s σ H R I ?_⟩
  refine ⟨env, S, one2 _, he, hs, hf, hw, fun ds S1 vs H1 w f1 s1 r1 => ?_⟩
  cases r1 with
  | nil => exact w.elim
  | cons r r' =>
    cases r' with
    | nil => exact w.elim
    | cons r2 r3 =>
      cases r3 with
      | nil =>
        have w := w
        unfold one2 at w
        simp only at w
        split at w
        · cases r; cases r2; exact ⟨_, _, rfl, w.1, hq _ _ S1 _ H1 w.2 f1 s1 trivial it_rng⟩
        · exact w.elim
      | cons _ _ => exact w.elim
/-- three arguments -/
def one3 (Q : List D → (Store → Prop) → Store → Prop) : List D → Store → Prop
  | [d, e, f], S => ∃ i j k n, d = .int i ∧ e = .int j ∧ f = .int k ∧ RgC i j k n ∧ Q (rngS i k n) (fun _ => True) S
  | _, _ => False
theorem rngS_get : ∀ (n : Nat) (lo c : Int) (i : Nat), (rngS lo c n)[i]? = if i < n then some (.int (lo + (i : Nat) * c)) else none
  | 0, lo, c, i => by simp [rngS]
  | n + 1, lo, c, 0 => by simp [rngS]
  | n + 1, lo, c, i + 1 => by
    rw [rngS, List.getElem?_cons_succ, rngS_get n (lo + c) c i]
    by_cases h : i < n
    · rw [if_pos h, if_pos (by omega)]
      congr 2
      rw [Int.add_assoc]
      congr 1
      rw [show ((i + 1 : Nat) : Int) = (i : Int) + 1 from rfl, Int.add_mul, Int.one_mul, Int.add_comm]
    · rw [if_neg h, if_neg (by omega)]
theorem rngS_len : ∀ (m : Nat) (lo c : Int), (rngS lo c m).length = m
  | 0, _, _ => rfl
  | m + 1, lo, c => by rw [rngS, List.length_cons, rngS_len m]
theorem it_rngS {K : Kx} {lo c : Int} {m : Nat} {S : Store} {H : Hp} : ItOk K (rngS lo c m) (fun _ => True) S H (Itc lo c m) := by
  intro i S' H' f s _
  refine ⟨fun d e => ?_, fun hi => by rw [rngS_len] at hi; exact Nat.le_of_eq hi⟩
  rw [rngS_get] at e
  by_cases h : i < m
  · rw [if_pos h] at e
    cases e
    refine ⟨h, fun x H2 ⟨e1, e2⟩ => ?_⟩
    subst e1
    subst e2
    exact ⟨fun _ _ z => z, .int _⟩
  · rw [if_neg h] at e; cases e
theorem pi_rng3 (k : Cok n T c X A ex) {d : Expr} {p1 : Pos} (h1 : gliB c.names "range" = true) (hst : starB a = false) (hst2 : starB b = false) (hst3 : starB d = false) (ha : PE X a (LE X.x A wa)) (hb : PE X b (LE X.x A wb)) (hd : PE X d (LE X.x A wc)) :
    PI X tg (.Call (.Name "range" p1) [a, b, d] [] pos) (LI X.x A fun env S Q => wa env S fun x S1 => wb env S1 fun y S2 => wc env S2 fun z S3 => ∃ i j k n, x = .int i ∧ y = .int j ∧ z = .int k ∧ RgC i j k n ∧ Q (rngS i k n) (fun _ => True) S3) := by
  have m1 : X.mg "range" = none := k.bl _ (by decide)
  have hx : starEach [a, b, d] X.env = (false, eval a X.env) :: starEach [b, d] X.env := star_cons hst
  refine ⟨fun pins s σ H R I ⟨env, S, Q0, he, hs, hf, hw, hq⟩ => (pi_range3 (kind_gl k h1) m1 (s_cons hst ha (s_cons hst2 hb (s_cons hst3 hd s_nil))) hx (star_none fun y hy => by
    rcases List.mem_cons.mp hy with rfl | hy
    · exact hst2
    · rw [List.mem_singleton.mp hy]; exact hst3)).run pins s σ H R I ?_⟩
  refine ⟨env, S, one3 Q0, he, hs, hf, hw, fun ds S1 vs H1 w f1 s1 r1 => ?_⟩
  cases r1 with
  | nil => exact w.elim
  | cons r r' =>
    cases r' with
    | nil => exact w.elim
    | cons r2 r3 =>
      cases r3 with
      | nil => exact w.elim
      | cons r4 r5 =>
        cases r5 with
        | nil =>
          obtain ⟨i, j, k, n, rfl, rfl, rfl, hr, w⟩ := w
          cases r; cases r2; cases r4
          exact ⟨i, j, k, n, rfl, hr, hq _ _ S1 _ H1 w f1 s1 trivial it_rngS⟩
        | cons _ _ => exact w.elim
theorem enumD_get : ∀ (xs : List D) (k i : Nat), (enumD k xs)[i]? = xs[i]?.map fun x => .tup [.int ((k + i : Nat) : Int), x]
  | [], _, _ => by simp [enumD]
  | x :: xs, k, 0 => by simp [enumD]
  | x :: xs, k, i + 1 => by
    rw [enumD, List.getElem?_cons_succ, List.getElem?_cons_succ, enumD_get xs (k + 1) i]
    have e : k + 1 + i = k + (i + 1) := by omega
    rw [e]
theorem enumD_len : ∀ (xs : List D) (k : Nat), (enumD k xs).length = xs.length
  | [], _ => rfl
  | x :: xs, k => by rw [enumD, List.length_cons, List.length_cons, enumD_len xs]
theorem rep_pair {K : Kx} {H : Hp} {t : Addr} {x y : D} {v u : V} (h : H t = none) (r : Rep K H x v) (q : Rep K H y u) : Rep K (L2.upd H t (.tup [v, u])) (.tup [x, y]) (.ref t) :=
  .tup (.inl (.inl L2.upd_same)) (.cons (r.stay (.of_ext (ext_upd h))) (.cons (q.stay (.of_ext (ext_upd h))) .nil))
theorem it_enumL {K : Kx} {xs : List D} {p : Addr} {guard : Store → Prop} {S : Store} {H : Hp} (g : ∀ S' H', Fm S H S' H' → SR K S' H' → guard S' → ∃ vs, SqL K.K H' p vs ∧ Reps K H' xs vs) : ItOk K (enumD 0 xs) guard S H (Ite K.K p) := by
  intro i S' H' f s h
  obtain ⟨vs, hq, r1⟩ := g S' H' f s h
  refine ⟨fun d e => ?_, fun hi => ⟨vs, hq, by rw [enumD_len, r1.length] at hi; exact Nat.le_of_eq hi⟩⟩
  rw [enumD_get] at e
  cases h2 : xs[i]? with
  | none => rw [h2] at e; cases e
  | some z =>
    rw [h2] at e
    cases e
    obtain ⟨v, e2, r2⟩ := r1.get h2
    refine ⟨⟨vs, v, hq, e2⟩, fun x H2 ⟨t, y, e3, e4, e5, e6⟩ => ?_⟩
    subst e3
    subst e5
    have := e6 vs hq
    rw [e2] at this
    cases this
    refine ⟨ext_upd e4, ?_⟩
    rw [Nat.zero_add]
    exact rep_pair e4 (.int _) r2
theorem zipD_get : ∀ (xs ys : List D) (i : Nat), (zipD xs ys)[i]? = (match xs[i]?, ys[i]? with | some x, some y => some (.tup [x, y]) | _, _ => none)
  | [], ys, i => by simp [zipD]
  | x :: xs, [], i => by cases i <;> simp [zipD]
  | x :: xs, y :: ys, 0 => by simp [zipD]
  | x :: xs, y :: ys, i + 1 => by
    rw [zipD, List.getElem?_cons_succ, List.getElem?_cons_succ, List.getElem?_cons_succ, zipD_get xs ys i]
theorem zipD_len : ∀ (xs ys : List D), (zipD xs ys).length = min xs.length ys.length
  | [], ys => by simp [zipD]
  | x :: xs, [] => by simp [zipD]
  | x :: xs, y :: ys => by rw [zipD, List.length_cons, List.length_cons, List.length_cons, zipD_len xs ys]; omega
theorem it_zipM {K : Kx} {xs ys : List D} {p q : Addr} {ka kb : Bool} {guard : Store → Prop} {S : Store} {H : Hp} (g : ∀ S' H', Fm S H S' H' → SR K S' H' → guard S' → ∃ vs ws, SqK ka K.K H' p vs ∧ Reps K H' xs vs ∧ SqK kb K.K H' q ws ∧ Reps K H' ys ws) : ItOk K (zipD xs ys) guard S H (ItzM K.K ka kb p q) := by
  intro i S' H' f s h
  obtain ⟨vs, ws, hq, r1, hq', r1'⟩ := g S' H' f s h
  refine ⟨fun d e => ?_, fun hi => ⟨vs, ws, hq, hq', by rw [zipD_len, r1.length, r1'.length] at hi; exact hi⟩⟩
  rw [zipD_get] at e
  cases h2 : xs[i]? with
  | none => rw [h2] at e; cases e
  | some z => cases h3 : ys[i]? with
    | none => rw [h2, h3] at e; cases e
    | some z' =>
      rw [h2, h3] at e
      cases e
      obtain ⟨v, e2, r2⟩ := r1.get h2
      obtain ⟨v', e2', r2'⟩ := r1'.get h3
      refine ⟨⟨vs, ws, v, v', hq, hq', e2, e2'⟩, fun x H2 ⟨t, y, y', e3, e4, e5, e6, e7⟩ => ?_⟩
      subst e3
      subst e5
      have := e6 vs hq
      rw [e2] at this
      cases this
      have := e7 ws hq'
      rw [e2'] at this
      cases this
      exact ⟨ext_upd e4, rep_pair e4 r2 r2'⟩
theorem pi_zipL (k : Cok n T c X A ex) {p1 tp : Pos} {ts : List Expr} {kk : Nat} (h1 : gliB c.names "zip" = true) (hst : starB a = false) (hst2 : starB b = false) (ha : PE X a (LE X.x A wa)) (hb : PE X b (LE X.x A wb)) :
    PI X (.Tuple ts kk tp) (.Call (.Name "zip" p1) [a, b] [] pos) (LI X.x A fun env S Q => wa env S fun x S1 => wb env S1 fun y S2 => ∃ r, itZ x y S2 = some r ∧ Q r.1 r.2 S2) := by
  have m1 : X.mg "zip" = none := k.bl _ (by decide)
  refine ⟨fun pins s σ H R I ⟨env, S, Q0, he, hs, hf, hw, hq⟩ => (pi_zipM (kind_gl k h1) m1 (s_cons hst ha (s_cons hst2 hb s_nil)) (star_cons hst) (star_none (by simpa using hst2))).run pins s σ H R I ?_⟩
  refine ⟨env, S, one2 _, he, hs, hf, hw, fun ds S1 vs H1 w f1 s1 r1 => ?_⟩
  cases r1 with
  | nil => exact w.elim
  | cons r r' =>
    cases r' with
    | nil => exact w.elim
    | cons r2 r3 =>
      cases r3 with
      | cons _ _ => exact w.elim
      | nil =>
        obtain ⟨z, e, w⟩ := w
        unfold itZ at e
        split at e
        · cases e
          cases r with
          | tup h rs => cases r2 with
            | tup h' rs' => exact ⟨_, _, false, false, _, _, rfl, h, h', hq _ _ S1 _ H1 w f1 s1 trivial (it_zipM fun S' H' f s _ => ⟨_, _, (f.stay s1).sqt h, rs.stay (f.stay s1), (f.stay s1).sqt h', rs'.stay (f.stay s1)⟩)⟩
        · cases r; cases r2
          split at e
          · rename_i e1 e2
            cases e
            obtain ⟨vs, h1, r1⟩ := s1.lst e1
            obtain ⟨ws, h2, r2⟩ := s1.lst e2
            refine ⟨_, _, true, true, vs, ws, rfl, .inl (.inl h1), .inl (.inl h2), hq _ _ S1 _ H1 w f1 s1 ⟨e1, e2⟩ (it_zipM fun S' H' f s g => ?_)⟩
            obtain ⟨vs, h1, r1⟩ := s.lst g.1
            obtain ⟨ws, h2, r2⟩ := s.lst g.2
            exact ⟨vs, ws, .inl (.inl h1), r1, .inl (.inl h2), r2⟩
          · cases e
        · cases r2
          split at e
          · rename_i e2
            cases e
            cases r with
            | tup h rs =>
              obtain ⟨ws, h2, r2⟩ := s1.lst e2
              refine ⟨_, _, false, true, _, ws, rfl, h, .inl (.inl h2), hq _ _ S1 _ H1 w f1 s1 e2 (it_zipM fun S' H' f s g => ?_)⟩
              obtain ⟨ws, h2, r2⟩ := s.lst g
              exact ⟨_, ws, (f.stay s1).sqt h, rs.stay (f.stay s1), .inl (.inl h2), r2⟩
          · cases e
        · cases r
          split at e
          · rename_i e1
            cases e
            cases r2 with
            | tup h rs =>
              obtain ⟨vs, h1, r1⟩ := s1.lst e1
              refine ⟨_, _, true, false, vs, _, rfl, .inl (.inl h1), h, hq _ _ S1 _ H1 w f1 s1 e1 (it_zipM fun S' H' f s g => ?_)⟩
              obtain ⟨vs, h1, r1⟩ := s.lst g
              exact ⟨vs, _, .inl (.inl h1), r1, (f.stay s1).sqt h, rs.stay (f.stay s1)⟩
          · cases e
        · cases e
section
variable {n : Nat} {T : Nat → Option FD} {c : SC} {X : Cx} {A : Anc} {ex : EX} {a b : Expr} {wa wb : Env → Store → KD → Prop} {p1 p2 cpos pos : Pos}
theorem s_lzip (k : Cok n T c X A ex) (h1 : gliB c.names "list" = true) (h2 : gliB c.names "zip" = true) (hst : starB a = false) (hst2 : starB b = false) (ha : PE X a (LE X.x A wa)) (hb : PE X b (LE X.x A wb)) :
    PE X (.Call (.Name "list" p1) [.Call (.Name "zip" p2) [a, b] [] cpos] [] pos) (LE X.x A fun env S Q => wa env S fun x S1 => wb env S1 fun y S2 => sLzip x y S2 Q) := by
  refine pe_of (pe_lzip k.calm (kind_gl k h2) (k.bl _ (by decide)) (kind_gl k h1) (k.bl _ (by decide)) (by decide +kernel) (s_cons hst ha (s_cons hst2 hb s_nil)) (star_cons hst) (star_none (by simpa using hst2))) fun σ H Q ⟨env, S, Q0, he, hs, hf, hw, hq⟩ => ?_
  refine ⟨env, S, one2 _, he, hs, hf, hw, fun ds S1 vs H1 w f1 s1 r1 => ?_⟩
  cases r1 with
  | nil => exact w.elim
  | cons r r' =>
    cases r' with
    | nil => exact w.elim
    | cons r2 r3 =>
      cases r3 with
      | cons _ _ => exact w.elim
      | nil =>
        obtain ⟨x, e1, y, e2, w⟩ := w
        obtain ⟨a1, vs, rfl, q1, t1⟩ := sq_of s1 r e1
        obtain ⟨b1, ws, rfl, q2, t2⟩ := sq_of s1 r2 e2
        refine ⟨a1, b1, vs, ws, rfl, q1, q2, fun H' p ts k1 k2 k3 k4 => ?_⟩
        have hbq := hq.at f1
        have st' : Stay H1 H' := .of_ext k1
        refine hbq _ _ _ _ (w p (s1.fresh k2)) (fun q o hq hn => ⟨k1 q o hq, by rw [upd_ne (L2.ne_of_none hq k2)]; exact hn⟩) (fun b o hbo => ?_) (.obj p)
        by_cases hbp : b = p
        · subst hbp
          rw [upd_same] at hbo
          cases hbo
          exact ⟨_, k3, lzip_reps (t1.stay st') (t2.stay st') k4⟩
        · rw [upd_ne hbp] at hbo
          exact (s1 b o hbo).stay st' fun u => k1 b u
end
theorem it_enumT {K : Kx} {xs : List D} {vs : List V} {p : Addr} {S : Store} {H : Hp} (s0 : SR K S H) (h0 : SqT K.K H p vs) (r0 : Reps K H xs vs) : ItOk K (enumD 0 xs) (fun _ => True) S H (IteT K.K p) := by
  intro i S' H' f s h
  have st := f.stay s0
  have hq := st.sqt h0
  have r1 := r0.stay st
  refine ⟨fun d e => ?_, fun hi => ⟨vs, hq, by rw [enumD_len, r1.length] at hi; exact hi⟩⟩
  rw [enumD_get] at e
  cases h2 : xs[i]? with
  | none => rw [h2] at e; cases e
  | some z =>
    rw [h2] at e
    cases e
    obtain ⟨v, e2, r2⟩ := r1.get h2
    refine ⟨⟨vs, v, hq, e2⟩, fun x H2 ⟨t, y, e3, e4, e5, e6⟩ => ?_⟩
    subst e3
    subst e5
    have := e6 vs hq
    rw [e2] at this
    cases this
    refine ⟨ext_upd e4, ?_⟩
    rw [Nat.zero_add]
    exact rep_pair e4 (.int _) r2
theorem pi_enm (k : Cok n T c X A ex) {p1 tp : Pos} {ts : List Expr} {kk : Nat} (h1 : gliB c.names "enumerate" = true) (hst : starB a = false) (ha : PE X a (LE X.x A wa)) :
    PI X (.Tuple ts kk tp) (.Call (.Name "enumerate" p1) [a] [] pos) (LI X.x A fun env S Q => wa env S fun d S1 => ∃ r, itL d S1 = some r ∧ Q (enumD 0 r.1) r.2 S1) := by
  have m1 : X.mg "enumerate" = none := k.bl _ (by decide)
  refine ⟨fun pins s σ H R I ⟨env, S, Q0, he, hs, hf, hw, hq⟩ => ?_⟩
  have pa : PA X [a] (LA X.x A fun env S Q => wa env S fun d S1 => Q [d] S1) := s_cons hst ha s_nil
  refine Call_ (ld_blt I (kind_gl k h1) m1 boot_enumerate (PyProof.Rows.callWith_type1 (thn (pa.run pos pins s σ H (fun vs H1 => ∃ v d S1, vs = [v] ∧ (∃ r, itL d S1 = some r ∧ Q0 (enumD 0 r.1) r.2 S1) ∧ Fm S H S1 H1 ∧ SR X.x S1 H1 ∧ Rep X.x H1 d v) I
    ⟨env, S, one1 _, he, hs, hf, hw, fun ds S1 vs H1 w f1 s1 r1 => ?_⟩) fun us s1 ⟨vs, H1, I1, rv, v, d, S1, ev, ⟨r, e1, w⟩, f1, sr, rd⟩ => ?_) (star_cons hst) rfl))
  · cases r1 with
    | nil => exact w.elim
    | cons r r' =>
      cases r' with
      | cons _ _ => exact w.elim
      | nil => exact ⟨_, _, S1, rfl, w, f1, s1, r⟩
  subst ev
  obtain ⟨u, rfl, ru⟩ := rv.one
  have lst : ∀ {p : Addr} {ws : List V} {xs : List D} {guard : Store → Prop}, u = .ref p → SqL X.K H1 p ws → Q0 (enumD 0 xs) guard S1 → guard S1 → (∀ S' H', Fm S1 H1 S' H' → SR X.x S' H' → guard S' → ∃ vs, SqL X.K H' p vs ∧ Reps X.x H' xs vs) →
      wpAny (model X.prog X.w) X.A (call (.type "enumerate") [u]) (fun v s2 => wpAny (model X.prog X.w) X.A (pyIter v) (PIE X pins σ (.Tuple ts kk tp) R) X.xe s2) X.xe s1 := by
    intro p ws xs guard eu hq1 w1 hg g
    subst eu
    obtain ⟨its, _, pl, _⟩ := I1.list hq1
    refine call_enumerate_list pl.isList fun h' he' hit hsz hk => wpAny_pyIter_enum he' ?_
    refine ⟨s1.heap.objs.size + 1, [s1.heap.objs.size + 1, s1.heap.objs.size], _, _, H1, rfl, I1.kept (t' := s1.toks) hk, turn_enum p (s1.heap.objs.size + 1) s1.heap.objs.size, ⟨⟨.none, he'⟩, hit, Nat.succ_ne_self _⟩, fun b hb => ?_, hq _ _ S1 _ H1 w1 f1 sr hg (it_enumL g)⟩
    have hle : s1.heap.objs.size ≤ b := by
      rcases List.mem_cons.mp hb with z | z
      · rw [z]; exact Nat.le_succ _
      · rw [List.mem_singleton.mp z]; exact Nat.le_refl _
    exact I1.fpOk hle (I1.hok.fresh hle)
  cases rd with
  | rol h rs =>
    cases e1
    exact lst ru h.l w trivial fun S' H' f s _ => ⟨_, ((f.stay sr).sqr h).l, rs.stay (f.stay sr)⟩
  | tup h rs =>
    cases e1
    cases ru
    obtain ⟨its, rv', p, _⟩ := I1.tuple h
    refine callE (begins_tuple _ its.toArray) p fun h' he' hit hk => wpAny_pyIter_enum he' ?_
    obtain ⟨oa, hoa, _⟩ := id p
    have hna : _ < s1.heap.objs.size := Heap.lt_size hoa
    refine ⟨s1.heap.objs.size + 1, [s1.heap.objs.size + 1, s1.heap.objs.size], _, _, H1, rfl, I1.kept (t' := s1.toks) hk, turn_enumT _ (s1.heap.objs.size + 1) s1.heap.objs.size its.toArray (Nat.ne_of_lt hna) (Nat.succ_ne_self _), ⟨⟨.none, he'⟩, ⟨_, hit, rfl, rfl⟩⟩, fun b hb => ?_, hq _ _ S1 _ H1 w f1 sr trivial (it_enumT sr h rs)⟩
    have hle : s1.heap.objs.size ≤ b := by
      rcases List.mem_cons.mp hb with z | z
      · rw [z]; exact Nat.le_succ _
      · rw [List.mem_singleton.mp z]; exact Nat.le_refl _
    exact I1.fpOk hle (I1.hok.fresh hle)
  | obj p =>
    unfold itL at e1
    simp only at e1
    split at e1
    · rename_i xs e
      cases e1
      obtain ⟨ws, h1, r1⟩ := sr.lst e
      exact lst ru (.inl (.inl h1)) w e fun S' H' f s g => by
        obtain ⟨zs, h2, r2⟩ := s.lst g
        exact ⟨zs, .inl (.inl h2), r2⟩
    · cases e1
  | _ => cases e1
end
end Mn

/-! Sim7: comprehensions, statements. -/
namespace Mn
open PySem PySem.Spec PyProof.Rows L2
section
variable {n : Nat} {T : Nat → Option FD} {c : SC} {X : Cx} {A : Anc} {ex : EX} {pos : Pos} {tg a b e : Expr} {es : List Expr} {wa wb wc : Env → Store → KD → Prop} {ws : Env → Store → (List D → Store → Prop) → Prop}

theorem SR.off {K : Kx} {S : Store} {H : Hp} {p : Addr} {ys : List V} {o : HO} (s : SR K S H) (hn : S p = none) (h : H p = some (.lst ys)) : SR K S (L2.upd H p o) := fun q m e => by
  have hne : q ≠ p := fun z => by subst z; rw [hn] at e; cases e
  exact (s q m e).stay (stay_set h) fun u hu => by rw [L2.upd_ne hne]; exact hu
theorem comp_L {wi : Env → Store → (List D → (Store → Prop) → Store → Prop) → Prop} {g : G} {wt : Env → Store → (Bool → Store → Prop) → Prop} {we : Env → Store → KD → Prop} {vs : List Nat} (hsl : ∀ i ∈ G.sl g, i ∈ vs) {σ : L2.St} {H : Hp} {Q : VK}
    (h : LE X.x A (fun env S Q => wi env S fun items guard S1 => wComp (wG g) wt we guard (wipe env vs) (fun acc S' => newL acc S' Q) items [] S1) σ H Q) :
    tLc (LI X.x A wi) (LG X.x g) (LT X.x A wt) (LE X.x A we) vs σ H Q := by
  obtain ⟨env, S, Q0, h1, hs, hf, hw, hq⟩ := h
  refine ⟨env, S, _, h1, hs, hf, hw, fun items guard S1 J H1 w f1 s1 hgd ok D hD => ?_⟩
  have nD1 : S1 D = none := s1.fresh hD
  refine ⟨fun i m Hc => ∃ accD accV Sc, i ≤ items.length ∧ m = items.length - i ∧ Fm S1 H1 Sc Hc ∧ SR X.x Sc Hc ∧ Sc D = none ∧ Hc D = some (.lst accV) ∧ Reps X.x Hc accD accV ∧ wComp (wG g) wt we guard (wipe env vs) (fun acc S' => newL acc S' Q0) (items.drop i) accD Sc,
    ⟨items.length, [], [], S1, Nat.zero_le _, rfl, .ext (ext_upd hD), s1.ext (ext_upd hD), nD1, L2.upd_same, .nil, by rw [List.drop_zero]; exact w⟩, ?_⟩
  rintro i m Hc ⟨accD, accV, Sc, hi, rfl, fc, sc, nD, eD, ra, wc⟩
  by_cases hlt : i < items.length
  · rw [List.drop_eq_getElem_cons hlt] at wc
    obtain ⟨gd, wc⟩ := wc
    obtain ⟨go, yl⟩ := (ok i Sc Hc fc sc gd).1 items[i] (List.getElem?_eq_getElem hlt)
    refine .inr ⟨go, fun Hn => ∃ accD accV Sc, Fm S1 H1 Sc Hn ∧ SR X.x Sc Hn ∧ Sc D = none ∧ Hn D = some (.lst accV) ∧ Reps X.x Hn accD accV ∧ wComp (wG g) wt we guard (wipe env vs) (fun acc S' => newL acc S' Q0) (items.drop (i + 1)) accD Sc,
      fun Hn ⟨aD, aV, Sn, z1, z2, z3, z4, z5, z6⟩ => ⟨items.length - (i + 1), by omega, aD, aV, Sn, hlt, rfl, z1, z2, z3, z4, z5, z6⟩, fun x H2 y => ?_⟩
    obtain ⟨ex2, rx⟩ := yl x H2 y
    have f2 : Fm Sc Hc Sc H2 := .ext ex2
    have s2 := sc.ext ex2
    have fA2 : Fm A.1 A.2 Sc H2 := ((hf.trans f1).trans fc).trans f2
    have e2 : ER X.x H2 (wipe env vs) (L2.wipe σ vs) := ((((h1.stay (f1.stay hs)).stay (fc.stay s1)).stay (f2.stay sc))).wipe vs
    refine ⟨_, wipe env vs, _, e2, rx, wc, fun env' σ' w2 e3 hsame => ⟨?_, ?_⟩⟩
    · rw [hsame vs hsl]
      have := hsame vs hsl
      clear this
      have idem : ∀ us : List Nat, (∀ v ∈ us, v ∈ vs) → ∀ τ : L2.St, τ = L2.wipe σ vs → L2.wipe τ us = τ := by
        intro us
        induction us with
        | nil => intro _ τ _; rfl
        | cons u us ih =>
          intro hu τ ht
          show (L2.wipe τ us).set u none = τ
          rw [ih (fun v hv => hu v (List.mem_cons_of_mem _ hv)) τ ht, ht]
          have hmem := hu u List.mem_cons_self
          have : ∀ ws : List Nat, u ∈ ws → (L2.wipe σ ws).set u none = L2.wipe σ ws := by
            intro ws
            induction ws with
            | nil => intro z; cases z
            | cons w ws ihw =>
              intro z
              show ((L2.wipe σ ws).set w none).set u none = (L2.wipe σ ws).set w none
              by_cases huw : u = w
              · subst huw; rw [List.set_set]
              · rw [List.set_comm _ _ (Ne.symm huw)]
                rcases List.mem_cons.mp z with q | q
                · exact absurd q huw
                · rw [ihw q]
          exact this vs hmem
      exact idem vs (fun _ hv => hv) _ rfl
    · refine ⟨env', Sc, _, e3, s2, fA2, w2, fun b S3 H3 w3 f3 s3 => ?_⟩
      have eD2 : H2 D = some (.lst accV) := ex2 _ _ eD
      obtain ⟨eD3, nD3⟩ := f3 D _ eD2 nD
      cases b with
      | false =>
        simp only [Bool.false_eq_true, if_false] at w3 ⊢
        exact ⟨accD, accV, S3, (fc.trans f2).trans f3, s3, nD3, eD3, (ra.stay (f2.stay sc)).stay (f3.stay s2), w3⟩
      | true =>
        simp only [if_true] at w3 ⊢
        refine ⟨env', S3, _, e3.stay (f3.stay s2), s3, fA2.trans f3, w3, fun d S4 v H4 w4 f4 s4 r4 => ?_⟩
        obtain ⟨eD4, nD4⟩ := f4 D _ eD3 nD3
        have ra4 := ((ra.stay (f2.stay sc)).stay (f3.stay s2)).stay (f4.stay s3)
        refine ⟨accV, eD4, by rw [← ra.length]; exact w4.1, accD ++ [d], accV ++ [v], S4, fun p o hp hn => ?_, s4.off nD4 eD4, nD4, L2.upd_same, (ra4.append (.cons r4 .nil)).stay (stay_set eD4), w4.2⟩
        have hpD : p ≠ D := fun z => by subst z; rw [hD] at hp; cases hp
        rw [L2.upd_ne hpD]
        exact (((fc.trans f2).trans f3).trans f4) p o hp hn
  · have hl : i = items.length := by omega
    rw [List.drop_of_length_le (by omega)] at wc
    obtain ⟨gd, wc⟩ := wc
    refine .inl ⟨(ok i Sc Hc fc sc gd).2 hl.symm, hq _ _ _ _ (wc D nD) (fun p o hp hn => ?_) (fun q m hm => ?_) (.obj D)⟩
    · obtain ⟨hp1, hn1⟩ := f1 p o hp hn
      obtain ⟨hp2, hn2⟩ := fc p o hp1 hn1
      have hpD : p ≠ D := fun z => by subst z; rw [hD] at hp1; cases hp1
      exact ⟨hp2, by rw [upd_ne hpD]; exact hn2⟩
    · by_cases hqD : q = D
      · subst hqD
        rw [upd_same] at hm
        cases hm
        exact ⟨accV, eD, ra⟩
      · rw [upd_ne hqD] at hm
        exact sc q m hm
def setB : Expr → Bool
  | .Set _ _ _ => true
  | _ => false
theorem folded_plain {i : Expr} {env : PySem.Env} (h : setB i = false) : ∀ x, foldedSetIterable i env x = pure x := by
  intro x
  cases i <;> first | rfl | cases h

/-! ### statements -/
structure Bend (K : Kx) (ex : EX) (S₀ : Store) (H₀ : Hp) (DM : Ends) (Dh : L2.Ends) : Prop where
  nx : ∀ env S σ H, DM.nx env S → ER K H env σ → Fm S₀ H₀ S H → SR K S H → Dh.nx σ H
  rt : ∀ d S v H, DM.rt d S → Fm S₀ H₀ S H → SR K S H → Rep K H d v → Dh.rt v H
  bk : ∀ env S σ H, DM.bk env S → ER K H env σ → Fm S₀ H₀ S H → SR K S H → Dh.bk σ H
  ct : ∀ env S σ H, DM.ct env S → ER K H env σ → Fm S₀ H₀ S H → SR K S H → Dh.ct σ H
  ex : DM.ex = ex
theorem Bend.at {K : Kx} {S S1 : Store} {H H1 : Hp} {DM : Ends} {Dh : L2.Ends} (b : Bend K ex S H DM Dh) (f : Fm S H S1 H1) : Bend K ex S1 H1 DM Dh :=
  ⟨fun e S' σ H' q r f' s => b.nx e S' σ H' q r (f.trans f') s, fun d S' v H' q f' s r => b.rt d S' v H' q (f.trans f') s r, fun e S' σ H' q r f' s => b.bk e S' σ H' q r (f.trans f') s, fun e S' σ H' q r f' s => b.ct e S' σ H' q r (f.trans f') s, b.ex⟩
def LS (K : Kx) (A : Anc) (ex : EX) (w : Ends → Env → Store → Prop) : TS := fun Dh σ H => ∃ DM env S, Bend K ex S H DM Dh ∧ ER K H env σ ∧ SR K S H ∧ Fm A.1 A.2 S H ∧ w DM env S
theorem z_nil : PSs X [] (LS X.x A ex fun K env S => K.nx env S) := pss_of pss_nil fun Dh σ H ⟨DM, env, S, hb, h1, hs, hf, hw⟩ => hb.nx env S σ H hw h1 .refl hs
theorem z_cons {st : Stmt} {r : List Stmt} {w1 w2 : Ends → Env → Store → Prop} (ha : PS X st (LS X.x A ex w1)) (hb : PSs X r (LS X.x A ex w2)) :
    PSs X (st :: r) (LS X.x A ex fun K env S => w1 { K with nx := fun env' S' => w2 K env' S' } env S) := by
  refine pss_of (pss_cons ha hb) fun Dh σ H ⟨DM, env, S, hb, h1, hs, hf, hw⟩ => ?_
  exact ⟨{ DM with nx := fun env' S' => w2 DM env' S' }, env, S, ⟨fun env' S' σ' H' q e f s => ⟨DM, env', S', hb.at f, e, s, hf.trans f, q⟩, hb.rt, hb.bk, hb.ct, hb.ex⟩, h1, hs, hf, hw⟩
theorem z_ret (ha : PE X a (LE X.x A wa)) : PS X (.Return (some a) pos) (LS X.x A ex fun K env S => wa env S K.rt) :=
  ps_of (ps_ret ha) fun Dh σ H ⟨DM, env, S, hb, h1, hs, hf, hw⟩ => ⟨env, S, _, h1, hs, hf, hw, fun d S' v H' q f s r => hb.rt d S' v H' q f s r⟩
theorem z_retN : PS X (.Return none pos) (LS X.x A ex fun K env S => K.rt .non S) :=
  ps_of ps_retN fun Dh σ H ⟨DM, env, S, hb, h1, hs, hf, hw⟩ => hb.rt .non S .non H hw .refl hs .non
theorem z_doc {x j p} : PS X (.Expr (.Constant (.str x) j p) pos) (LS X.x A ex fun K env S => K.nx env S) :=
  ps_of ps_doc fun Dh σ H ⟨DM, env, S, hb, h1, hs, hf, hw⟩ => hb.nx env S σ H hw h1 .refl hs
theorem z_pass : PS X (.Pass pos) (LS X.x A ex fun K env S => K.nx env S) := ps_of ps_pass fun Dh σ H ⟨DM, env, S, hb, h1, hs, hf, hw⟩ => hb.nx env S σ H hw h1 .refl hs
theorem z_brk : PS X (.Break pos) (LS X.x A ex fun K env S => K.bk env S) := ps_of ps_break fun Dh σ H ⟨DM, env, S, hb, h1, hs, hf, hw⟩ => hb.bk env S σ H hw h1 .refl hs
theorem z_cont : PS X (.Continue pos) (LS X.x A ex fun K env S => K.ct env S) := ps_of ps_continue fun Dh σ H ⟨DM, env, S, hb, h1, hs, hf, hw⟩ => hb.ct env S σ H hw h1 .refl hs
theorem z_rse {st : Stmt} : PS X st (LS X.x A ex fun K env S => False) := ps_of ⟨fun pins s σ H D I h => h.elim⟩ fun Dh σ H ⟨DM, env, S, hb, h1, hs, hf, hw⟩ => (show False from hw)
def cmpB : Expr → Bool
  | .ListComp _ _ _ _ => true
  | .SetComp _ _ _ _ => true
  | .DictComp _ _ _ _ _ => true
  | _ => false
theorem swaps_no {t : Option Expr} {l : Nat} {env : PySem.Env} (h : cmpB e = false) : swapsWith e t l env = pure false := by
  cases e <;> first | rfl | cases h
theorem z_exp (hc : cmpB a = false) (ha : PE X a (LE X.x A wa)) : PS X (.Expr a pos) (LS X.x A ex fun K env S => wa env S fun _ S1 => K.nx env S1) :=
  ps_of (ps_expr ha (swaps_no hc)) fun Dh σ H ⟨DM, env, S, hb, h1, hs, hf, hw⟩ => ⟨env, S, _, h1, hs, hf, hw, fun d S' v H' q f s r => hb.nx env S' σ H' q (h1.stay (f.stay hs)) f s⟩
theorem z_ife {d : Expr} {s1 s2 : List Stmt} {w1 w2 : Ends → Env → Store → Prop} (hc : PT X d (LV X.x A wc)) (ha : PSs X s1 (LS X.x A ex w1)) (hb : PSs X s2 (LS X.x A ex w2)) :
    PS X (.If d s1 s2 pos) (LS X.x A ex fun K env S => wc env S fun x S1 => ∃ t, truth S1 x = some t ∧ if t = true then w1 K env S1 else w2 K env S1) := by
  refine ps_of (ps_if hc ha hb) fun Dh σ H ⟨DM, env, S, hb, h1, hs, hf, hw⟩ => ?_
  refine ⟨env, S, _, h1, hs, hf, hw, fun x S1 H1 ⟨t, e, q⟩ f s => ⟨t, e, ?_⟩⟩
  cases t with
  | true => exact ⟨DM, env, S1, hb.at f, h1.stay (f.stay hs), s, hf.trans f, q⟩
  | false => exact ⟨DM, env, S1, hb.at f, h1.stay (f.stay hs), s, hf.trans f, q⟩
theorem tAsg_L {g : G} {Dh : L2.Ends} {σ : L2.St} {H : Hp} (h : LS X.x A ex (fun K env S => wa env S fun d S1 => wG g d env fun env' => K.nx env' S1) Dh σ H) : tAsg (LE X.x A wa) (LG X.x g) Dh σ H := by
  obtain ⟨DM, env, S, hb, h1, hs, hf, hw⟩ := h
  refine ⟨env, S, _, h1, hs, hf, hw, fun d S' v H' q f s r => ?_⟩
  exact ⟨d, env, _, h1.stay (f.stay hs), r, q, fun env' σ' q' e' _ => hb.nx env' S' σ' H' q' e' f s⟩
theorem tAsgN_L {i : Nat} {Dh : L2.Ends} {σ : L2.St} {H : Hp} (h : LS X.x A ex (fun K env S => wa env S fun d S1 => wG (.nm i) d env fun env' => K.nx env' S1) Dh σ H) : tAsg (LE X.x A wa) (gName i) Dh σ H := by
  obtain ⟨DM, env, S, hb, h1, hs, hf, hw⟩ := h
  refine ⟨env, S, _, h1, hs, hf, hw, fun d S' v H' q f s r => ?_⟩
  exact hb.nx _ S' _ H' q ((h1.stay (f.stay hs)).set r i) f s
def tupB : Expr → Bool
  | .Tuple _ _ _ => true
  | _ => false
theorem z_setT {g : G} {ts : List Expr} {kk : Nat} {tp : Pos} (h1 : tupB a = false) (hg : PG X (.Tuple ts kk tp) (LG X.x g)) (ha : PE X a (LE X.x A wa)) :
    PS X (.Assign [.Tuple ts kk tp] a pos) (LS X.x A ex fun K env S => wa env S fun d S1 => wG g d env fun env' => K.nx env' S1) :=
  ps_of (ps_asg ha hg (by cases a <;> rfl) (by cases a <;> first | rfl | cases h1) rfl) fun _ _ _ q => tAsg_L q
theorem z_unl {gs : Gs} {es : List Expr} {kk : Nat} {tp : Pos} (h1 : tupB a = false) (hc : X.calm = true) (hst : ∀ y ∈ es, starB y = false) (hl : ∀ ds env Q, wGs gs ds env Q → ds.length = es.length) (hg : PGs X es (LGs X.x gs)) (ha : PE X a (LE X.x A wa)) :
    PS X (.Assign [.Tuple es kk tp] a pos) (LS X.x A ex fun K env S => wa env S fun d S1 => ∃ xs, lsOf S1 d = some xs ∧ wG (.tp gs) (.tup xs) env fun env' => K.nx env' S1) := by
  refine ps_of (ps_asg ha (pg_unl (n := es.length) hc hg (assign_len hst) (assign_none hst)) (by cases a <;> rfl) (by cases a <;> first | rfl | cases h1) rfl) fun Dh σ H ⟨DM, env, S, hb, h1, hs, hf, hw⟩ => ⟨env, S, _, h1, hs, hf, hw, fun d S' v H' q f s r => ?_⟩
  obtain ⟨xs, e, w⟩ := q
  obtain ⟨a', vs, rfl, hq, rs⟩ := lsOf_sql s r e
  exact ⟨a', vs, rfl, hq, by rw [← rs.length]; exact hl _ _ _ w, xs, env, _, h1.stay (f.stay hs), rs, w, fun env' σ' q' e' _ => hb.nx env' S' σ' H' q' e' f s⟩
theorem z_setN {i : Nat} {x : Str} {p : Pos} (hN : X.N.Nodup) (hi : X.N[i]? = some x) (hx : Loc X.env.scope x) (hf : X.fn x = true ∨ X.env.scope.names.lookup x = some .local) (hc : swapsWith a (some (.Name x p)) pos.line X.env = pure false) (ha : PE X a (LE X.x A wa)) :
    PS X (.Assign [.Name x p] a pos) (LS X.x A ex fun K env S => wa env S fun d S1 => wG (.nm i) d env fun env' => K.nx env' S1) :=
  ps_of (ps_set hN hi hx ha hc hf) fun _ _ _ q => tAsgN_L q
theorem z_sub (hu : X.A.units + 64 < cLine) {o i : Expr} {p : Pos} {wo wi : Env → Store → KD → Prop} (hsl : slcB i = false) (hc : cmpB a = false) (ha : PE X a (LE X.x A wa)) (ho : PE X o (LE X.x A wo)) (hi : PE X i (LE X.x A wi)) :
    PS X (.Assign [.Subscript o i p] a pos) (LS X.x A ex fun K env S => wa env S fun v S1 => wo env S1 fun x S2 => wi env S2 fun k S3 => sSet x k v S3 fun S4 => K.nx env S4) := by
  refine ps_of (ps_asg ha (pg_sub ho hi (set_L hu) (fun v => by cases i <;> first | rfl | cases hsl)) (by cases a <;> first | rfl | cases hc) (by cases a <;> rfl) rfl) fun Dh σ H ⟨DM, env, S, hb, h1, hs, hf, hw⟩ => ?_
  refine ⟨env, S, _, h1, hs, hf, hw, fun d S1 v H1 q f s r => ?_⟩
  have e1 := h1.stay (f.stay hs)
  refine ⟨env, S1, _, e1, s, hf.trans f, q, fun x S2 o H2 q2 f2 s2 r2 => ?_⟩
  have e2 := e1.stay (f2.stay s)
  refine ⟨env, S2, _, e2, s2, (hf.trans f).trans f2, q2, fun kk S3 i H3 q3 f3 s3 r3 => ?_⟩
  refine ⟨x, kk, d, S3, _, r2.stay (f3.stay s2), r3, (r.stay (f2.stay s)).stay (f3.stay s2), s3, q3, fun S4 H4 q4 f4 s4 => ?_⟩
  exact hb.nx env S4 σ H4 q4 ((e2.stay (f3.stay s2)).stay (f4.stay s3)) (((f.trans f2).trans f3).trans f4) s4
/-- a, b = x, y -/
theorem z_par {i j : Nat} {x y : Str} {px py pt : Pos} {kt k2 : Nat} {pt2 : Pos} (hc : X.calm = true) (hN : X.N.Nodup) (hi : X.N[i]? = some x) (hj : X.N[j]? = some y) (hij : i ≠ j) (hx : X.env.scope.names.lookup x = some .local) (hy : X.env.scope.names.lookup y = some .local)
    (hw : swappedStores [.Tuple [.Name x px, .Name y py] kt pt] (.Tuple [a, b] k2 pt2) X.env = pure (some [x, y])) (h1 : starB a = false) (h2 : starB b = false) (ha : PE X a (LE X.x A wa)) (hb : PE X b (LE X.x A wb)) :
    PS X (.Assign [.Tuple [.Name x px, .Name y py] kt pt] (.Tuple [a, b] k2 pt2) pos) (LS X.x A ex fun K env S => wa env S fun u S1 => wb env S1 fun v S2 => K.nx ((env.set i (some u)).set j (some v)) S2) := by
  refine ps_of (ps_par hc hN hi hj hij hx hy (s_cons h1 ha (s_cons h2 hb s_nil)) hw) fun Dh σ H ⟨DM, env, S, hb, e1, hs, hf, hw⟩ => ?_
  refine ⟨env, S, one2 _, e1, hs, hf, hw, fun ds S1 vs H1 w f s r => ?_⟩
  cases r with
  | nil => exact w.elim
  | cons r r' =>
    cases r' with
    | nil => exact w.elim
    | cons r2 r3 =>
      cases r3 with
      | nil => exact ⟨_, _, rfl, hb.nx _ S1 _ H1 w (((e1.stay (f.stay hs)).set r i).set r2 j) f s⟩
      | cons _ _ => exact w.elim
theorem ip_L : PIp X .Add (L22 X.x sAug) := by
  intro pins s σ H x y v u Q I r1 r2 h
  obtain ⟨dx, dy, S, Q0, rx, ry, hs, hf, hb⟩ := h
  cases rx <;> cases ry <;> first | exact False.elim hf | skip
  exact ip_add pins s σ H _ _ v u Q I r1 r2 ⟨_, _, rfl, rfl, hb.here hs hf (.int _)⟩
theorem z_aug {i : Nat} {x : Str} {p : Pos} (hN : X.N.Nodup) (hi : X.N[i]? = some x) (hx : Loc X.env.scope x) (hf : X.fn x = true ∨ X.env.scope.names.lookup x = some .local) (ha : PE X a (LE X.x A wa)) :
    PS X (.AugAssign (.Name x p) .Add a pos) (LS X.x A ex fun K env S => ∃ x, env[i]? = some (some x) ∧ wa env S fun y S1 => sAug x y S1 fun z S2 => K.nx (env.set i (some z)) S2) := by
  refine ps_of (ps_aug hN hi hx ha ip_L hf) fun Dh σ H ⟨DM, env, S, hb, h1, hs, hf, d, e, hw⟩ => ?_
  obtain ⟨v, e2, r⟩ := h1.2 i d e
  refine ⟨v, e2, env, S, _, h1, hs, hf, hw, fun y S1 u H1 q f s r1 => ?_⟩
  refine ⟨d, y, S1, _, r.stay (f.stay hs), r1, s, q, fun z S2 w H2 q2 f2 s2 r2 => ?_⟩
  exact hb.nx _ S2 _ H2 q2 (((h1.stay (f.stay hs)).stay (f2.stay s)).set r2 i) (f.trans f2) s2

/-! ### loops -/
theorem z_for {it : Expr} {g : G} {body : List Stmt} {wi : Env → Store → (List D → (Store → Prop) → Store → Prop) → Prop} {wb : Ends → Env → Store → Prop} (hp : PassesOwn (model X.prog X.w) X.A X.env X.xe) (hc : X.calm = true) (hse : setB it = false)
    (hi : PI X tg it (LI X.x A wi)) (hg : PG X tg (LG X.x g)) (hb : PSs X body (LS X.x A ex wb)) :
    PS X (.For tg it body [] pos) (LS X.x A ex fun K env S => wi env S fun items guard S1 => wFor (wG g) wb guard K items env S1) := by
  refine ps_of (ps_for hp hc hi hg hb (folded_plain hse)) fun Dh σ H ⟨DM, env, S, hb, h1, hs, hf, hw⟩ => ?_
  refine ⟨env, S, _, h1, hs, hf, hw, fun items guard S1 J H1 w f1 s1 hgd ok => ?_⟩
  refine ⟨fun i m σ' Hc => ∃ env' Sc, i ≤ items.length ∧ m = items.length - i ∧ ER X.x Hc env' σ' ∧ Fm S1 H1 Sc Hc ∧ SR X.x Sc Hc ∧ wFor (wG g) wb guard DM (items.drop i) env' Sc,
    ⟨items.length, env, S1, Nat.zero_le _, rfl, h1.stay (f1.stay hs), .refl, s1, by rw [List.drop_zero]; exact w⟩, ?_⟩
  rintro i m σ' Hc ⟨env', Sc, hi, rfl, e1, fc, sc, wc⟩
  have hb1 := hb.at (f1.trans fc)
  by_cases hlt : i < items.length
  · rw [List.drop_eq_getElem_cons hlt] at wc
    obtain ⟨gd, wc⟩ := wc
    obtain ⟨go, yl⟩ := (ok i Sc Hc fc sc gd).1 items[i] (List.getElem?_eq_getElem hlt)
    refine .inr ⟨go, fun σn Hn => ∃ env' Sc, ER X.x Hn env' σn ∧ Fm S1 H1 Sc Hn ∧ SR X.x Sc Hn ∧ wFor (wG g) wb guard DM (items.drop (i + 1)) env' Sc,
      fun σn Hn ⟨en, Sn, z1, z2, z4, z5⟩ => ⟨items.length - (i + 1), by omega, en, Sn, hlt, rfl, z1, z2, z4, z5⟩, fun x H2 y => ?_⟩
    obtain ⟨ex2, rx⟩ := yl x H2 y
    have f2 : Fm Sc Hc Sc H2 := .ext ex2
    have s2 := sc.ext ex2
    refine ⟨_, env', _, e1.stay (f2.stay sc), rx, wc, fun env2 σ2 w2 e2 _ => ?_⟩
    have hb2 := hb1.at f2
    refine ⟨_, env2, Sc, ?_, e2, s2, ((hf.trans f1).trans fc).trans f2, w2⟩
    exact ⟨fun en Sn σn Hn q e f s => ⟨en, Sn, e, (fc.trans f2).trans f, s, q⟩, hb2.rt, fun en Sn σn Hn q e f s => hb2.nx en Sn σn Hn q e f s, fun en Sn σn Hn q e f s => ⟨en, Sn, e, (fc.trans f2).trans f, s, q⟩, hb2.ex⟩
  · have hl : i = items.length := by omega
    rw [List.drop_of_length_le (by omega)] at wc
    obtain ⟨gd, wc⟩ := wc
    exact .inl ⟨(ok i Sc Hc fc sc gd).2 hl.symm, hb1.nx _ _ _ _ wc e1 .refl sc⟩
theorem z_whl {d : Expr} {body : List Stmt} {wb : Ends → Env → Store → Prop} (hp : PassesOwn (model X.prog X.w) X.A X.env X.xe) (hc : PT X d (LV X.x A wc)) (hb : PSs X body (LS X.x A ex wb)) :
    PS X (.While d body [] pos) (LS X.x A ex fun K env S => ∃ m, wWhl (tst wc) wb K m env S) := by
  refine ps_of (ps_while hp hc hb) fun Dh σ H ⟨DM, env, S, hb, h1, hs, hf, m, hw⟩ => ?_
  refine ⟨fun m σ' Hc => ∃ env' Sc, ER X.x Hc env' σ' ∧ Fm S H Sc Hc ∧ SR X.x Sc Hc ∧ wWhl (tst wc) wb DM m env' Sc, ⟨m, env, S, h1, .refl, hs, hw⟩, ?_⟩
  rintro m σ' Hc ⟨env', Sc, e1, fc, sc, wc'⟩
  cases m with
  | zero => exact wc'.elim
  | succ m =>
    refine ⟨env', Sc, _, e1, sc, hf.trans fc, wc', fun x S1 H1 ⟨t, e, q⟩ f1 s1 => ⟨t, e, ?_⟩⟩
    have e2 := e1.stay (f1.stay sc)
    have hb1 := hb.at (fc.trans f1)
    cases t with
    | false =>
      simp only [Bool.false_eq_true, if_false] at q ⊢
      exact hb1.nx _ _ _ _ q e2 .refl s1
    | true =>
      simp only [if_true] at q ⊢
      refine ⟨fun σn Hn => ∃ en Sn, ER X.x Hn en σn ∧ Fm S H Sn Hn ∧ SR X.x Sn Hn ∧ wWhl (tst wc) wb DM m en Sn, fun σn Hn w => ⟨m, Nat.lt_succ_self m, w⟩, _, env', S1, ?_, e2, s1, (hf.trans fc).trans f1, q⟩
      exact ⟨fun en Sn σn Hn q e f s => ⟨en, Sn, e, (fc.trans f1).trans f, s, q⟩, hb1.rt, fun en Sn σn Hn q e f s => hb1.nx en Sn σn Hn q e f s, fun en Sn σn Hn q e f s => ⟨en, Sn, e, (fc.trans f1).trans f, s, q⟩, hb1.ex⟩
end
end Mn

/-! Sim8: the check, and what it gives. -/
namespace Mn
open PySem PySem.Spec PyProof.Rows L2

/-! ### the check -/
def cstB : D → Const → Bool
  | .non, .none => true
  | .bl a, .bool b => a == b
  | .int i, .int j => i == j
  | .str x, .str y => decide (x = y)
  | _, _ => false
def starsB (es : List Expr) : Bool := es.all fun e => !starB e
mutual
def chkG : G → SC → Expr → Bool
  | .nm i, c, .Name x _ => decide (c.N[i]? = some x) && locB c.raw x
  | .tp gs, c, .Tuple es _ _ => starsB es && chkGs gs c es
  | _, _, _ => false
def chkGs : Gs → SC → List Expr → Bool
  | .nil, _, [] => true
  | .cons g gs, c, e :: es => chkG g c e && chkGs gs c es
  | _, _, _ => false
end
def scOf (c : SC) : Scope := { kind := .function, names := c.names, isGenerator := false, isCoroutine := false }
def isNameB (e : Expr) (x : Str) : Bool := match e with
  | .Name y _ => decide (y = x)
  | _ => false
mutual
def chkE : E → SC → Expr → Bool
  | .var i, c, .Name x _ => decide (c.N[i]? = some x) && visB c.names x && !odd x
  | .cst d, _, .Constant k _ _ => cstB d k
  | .glb x d, c, .Name y _ => decide (x = y) && decide ((x, d) ∈ c.cs) && gliB c.names x && !odd x
  | .tup es, c, .Tuple xs _ _ => chkEs es c xs
  | .lst es, c, .List xs _ => chkEs es c xs
  | .dct .nil, _, .Dict [] [] _ => true
  | .dct es, c, .Dict (k :: ks) vs _ => (k :: ks).all (·.isSome) && decide ((k :: ks).length = vs.length) && decide ((k :: ks).length ≤ 15) && chkEs es c (inter (k :: ks) vs)
  | .o1 .neg a, c, .UnaryOp .USub x _ => chkE a c x
  | .o1 .isN a, c, .Compare x [.Is] [.Constant .none _ _] _ => chkE a c x
  | .o1 .notN a, c, .Compare x [.IsNot] [.Constant .none _ _] _ => chkE a c x
  | .o2 o a b, c, .BinOp x op y _ => binOp o op && chkE a c x && chkE b c y
  | .o2 o a b, c, .Compare x [op] [y] _ => cmpOp o op && !behindInMarks op y && chkE a c x && chkE b c y
  | .o2 o a b, c, .Subscript x y _ => decide (o = .idx) && !slcB y && chkE a c x && chkE b c y
  | .slc a lo hi, c, .Subscript x (.Slice l h none _) _ => chkE a c x && chkO lo c l && chkO hi c h
  | .rev a, c, .Subscript x (.Slice none none (some (.UnaryOp .USub (.Constant (.int 1) _ _) _)) _) _ => chkE a c x
  | .itms a, c, .Call (.Name f _) [.Call (.Attribute x nm ap) [] [] cp] [] _ => decide (f = "list") && decide (nm = "items") && gliB c.names "list" && !callNB x && (ap.endLine == cp.line) && chkE a c x
  | .lrng a, c, .Call (.Name f _) [.Call (.Name g _) [x] [] _] [] _ => decide (f = "list") && decide (g = "range") && gliB c.names "list" && gliB c.names "range" && !starB x && chkE a c x
  | .lset a, c, .Call (.Name f _) [.Call (.Name g _) [x] [] _] [] _ => decide (f = "len") && decide (g = "set") && gliB c.names "len" && gliB c.names "set" && !starB x && chkE a c x
  | .sset a, c, .Call (.Name f _) [.Call (.Name g _) [x] [] _] [] _ => decide (f = "sorted") && decide (g = "set") && gliB c.names "sorted" && gliB c.names "set" && !starB x && chkE a c x
  | .lzip a b, c, .Call (.Name f _) [.Call (.Name g _) [x, y] [] _] [] _ => decide (f = "list") && decide (g = "zip") && gliB c.names "list" && gliB c.names "zip" && !starB x && !starB y && chkE a c x && chkE b c y
  | .chn o p a b d, c, .Compare x [op, op'] [y, z] _ => cmpOp o op && cmpOp p op' && !lastMarks [op, op'] [y, z] && chkE a c x && chkE b c y && chkE d c z
  | .isi a t, c, .Call (.Name f _) [x, .Name y _] [] _ => decide (f = "isinstance") && decide (y = tyN t) && gliB c.names "isinstance" && gliB c.names (tyN t) && !starB x && chkE a c x
  | .not a, c, .UnaryOp .Not x _ => chkE a c x
  | .and a b, c, .BoolOp .And (x :: y :: r) p => chkE a c x && (if r.isEmpty then chkE b c y else chkE b c (.BoolOp .And (y :: r) p))
  | .or a b, c, .BoolOp .Or (x :: y :: r) p => chkE a c x && (if r.isEmpty then chkE b c y else chkE b c (.BoolOp .Or (y :: r) p))
  | .ife d a b, c, .IfExp x y z _ => noIf d && chkE d c x && chkE a c y && chkE b c z
  | .call f es, c, .Call (.Name x _) (y :: ys) [] _ => decide ((x, f) ∈ c.fns) && gliB c.names x && !odd x && starsB (y :: ys) && chkEs es c (y :: ys)
  | .bi b es, c, .Call (.Name x _) (y :: ys) [] _ => biOk b x && gliB c.names x && starsB (y :: ys) && chkEs es c (y :: ys)
  | .mth m o .nil, c, .Call (.Attribute x nm ap) [] [] p => mt0Ok m nm && !callNB x && (ap.endLine == p.line) && chkE o c x
  | .mth m o es, c, .Call (.Attribute x nm ap) (y :: ys) [] p => mtOk m nm && !callNB x && (ap.endLine == p.line) && decide ((y :: ys).length < 30) && starsB (y :: ys) && chkE o c x && chkEs es c (y :: ys)
  | .comp elt g own it d, c, .ListComp x [⟨tg, iter, ifs, 0⟩] scope _ =>
      blkC c.N (scOf c) scope own && (G.sl g).all (fun i => (own.map (·.2)).contains i) && chkG g { c with names := blkN scope c.names, raw := scope.names } tg && !setB iter && chkI it c tg iter
        && chkC d { c with names := blkN scope c.names, raw := scope.names } ifs && chkE elt { c with names := blkN scope c.names, raw := scope.names } x
  | _, _, _ => false
def chkEs : Es → SC → List Expr → Bool
  | .nil, _, [] => true
  | .cons e es, c, x :: xs => !starB x && chkE e c x && chkEs es c xs
  | _, _, _ => false
def chkO : OE → SC → Option Expr → Bool
  | .no, _, none => true
  | .so e, c, some x => chkE e c x
  | _, _, _ => false
def chkC : OE → SC → List Expr → Bool
  | .no, _, [] => true
  | .so e, c, [x] => noIf e && chkE e c x
  | _, _, _ => false
def chkI : It → SC → Expr → Expr → Bool
  | .e a, c, _, x => chkE a c x
  | .rng a, c, _, .Call (.Name f _) [x] [] _ => decide (f = "range") && gliB c.names "range" && !starB x && chkE a c x
  | .rng2 a b, c, _, .Call (.Name f _) [x, y] [] _ => decide (f = "range") && gliB c.names "range" && !starB x && !starB y && chkE a c x && chkE b c y
  | .rng3 a b d, c, _, .Call (.Name f _) [x, y, z] [] _ => decide (f = "range") && gliB c.names "range" && !starB x && !starB y && !starB z && chkE a c x && chkE b c y && chkE d c z
  | .enm a, c, .Tuple _ _ _, .Call (.Name f _) [x] [] _ => decide (f = "enumerate") && gliB c.names "enumerate" && !starB x && chkE a c x
  | .zip a b, c, .Tuple _ _ _, .Call (.Name f _) [x, y] [] _ => decide (f = "zip") && gliB c.names "zip" && !starB x && !starB y && chkE a c x && chkE b c y
  | _, _, _, _ => false
def noIf : E → Bool
  | .ife _ _ _ => false
  | .not a => noIf a
  | .and a b => noIf a && noIf b
  | .or a b => noIf a && noIf b
  | _ => true
end

theorem loc_of {names : List (Str × NameKind)} {x : Str} (h : locB names x = true) : names.lookup x = some .local ∨ names.lookup x = some .cell := by
  unfold locB at h
  split at h
  · exact .inl (by assumption)
  · exact .inr (by assumption)
  · cases h
theorem look_map {f : Str × NameKind → Str × NameKind} {x : Str} {k : NameKind} (h1 : ∀ p, (f p).1 = p.1) (h2 : ∀ y, f (y, k) = (y, k)) : ∀ {l : List (Str × NameKind)}, l.lookup x = some k → (l.map f).lookup x = some k
  | [], h => by cases h
  | (n, k') :: r, h => by
    have ih := @look_map f x k h1 h2 r
    rw [List.map_cons]
    by_cases e : x = n
    · subst e
      rw [List.lookup_cons_self] at h
      cases h
      rw [h2]
      exact List.lookup_cons_self
    · have hb : (x == n) = false := beq_eq_false_iff_ne.mpr e
      have hr : r.lookup x = some k := by
        rw [List.lookup_cons, hb] at h
        exact h
      have hf : (x == (f (n, k')).1) = false := by rw [h1]; exact hb
      rw [List.lookup_cons, hf]
      exact ih hr
theorem look_blk {scope : Scope} {ns : List (Str × NameKind)} {x : Str} {l : List (Str × NameKind)} {k : NameKind} (hk : k ≠ .free) (h : l.lookup x = some k) :
    (l.map fun (n, k) => if (k == NameKind.free && true && ns.lookup n == some .cell) = true then (n, NameKind.cell) else (n, k)).lookup x = some k := by
  refine look_map (fun p => ?_) (fun y => ?_) h
  · obtain ⟨a, b⟩ := p
    simp only
    split <;> rfl
  · have e : (k == NameKind.free) = false := by cases k <;> first | rfl | exact absurd rfl hk
    simp only [e, Bool.false_and, Bool.false_eq_true, if_false]
section
variable {n : Nat} {T : Nat → Option FD} {c : SC} {X : Cx} {A : Anc} {ex : EX}
theorem Cok.blk (k : Cok n T c X A ex) {scope : Scope} (hk : scope.kind = .function) (s : Shared) (H : Hp) (C : Addr) (cl : List (Str × Addr)) (fp : List Addr) :
    Cok n T { c with names := blkN scope c.names, raw := scope.names } (X.blk s H scope (compEnvC scope cl C X.env) fp) A (fun _ _ _ _ => False) := by
  have hn : (relabel scope X.env).names = blkN scope c.names := by
    unfold relabel blkN
    simp only [k.sk, Env.kindOf, k.sn]
    rfl
  refine ⟨k.calm, k.nN, k.nd, hn, hk, fun x hx => ?_, k.room, k.bl, k.fn, k.con, ?_, PassesOwn.never⟩
  · rcases loc_of hx with e | e
    · have e2 : (relabel scope X.env).names.lookup x = some .local := by rw [hn]; exact look_blk (scope := scope) (by decide) e
      exact ⟨.inl e2, .inr e2⟩
    · have e2 : (relabel scope X.env).names.lookup x = some .cell := by rw [hn]; exact look_blk (scope := scope) (by decide) e
      refine ⟨.inr e2, .inl ?_⟩
      show (scope.names.lookup x == some .cell) = true
      rw [e]; rfl
  · exact Takes.imp takes0 fun cls d σ H ⟨_, _, _, _, _, _, _, _, h⟩ => h
theorem blk_ok (k : Cok n T c X A ex) {scope : Scope} {own : List (Str × Nat)} (h : blkC c.N (scOf c) scope own = true) : BlkOk X.N X.env.scope scope own := by
  have b := blkOk_by h
  refine ⟨b.kind, b.uniq, by rw [k.nN]; exact b.ix, by rw [k.sn]; exact b.free, by rw [k.nN]; exact b.own⟩
theorem blk_kind {N : List Str} {sc scope : Scope} {own : List (Str × Nat)} (h : blkC N sc scope own = true) : scope.kind = .function := (blkOk_by h).kind
theorem stars_of {es : List Expr} (h : starsB es = true) : ∀ y ∈ es, starB y = false := fun y hy => by
  have := List.all_eq_true.mp h y hy
  simpa using this
mutual
theorem simG (k : Cok n T c X A ex) : ∀ (g : G) (e : Expr), chkG g c e = true → PG X e (LG X.x g)
  | .nm i, e, h => by
    cases e <;> first | (simp [chkG] at h; done) | skip
    rw [chkG, Bool.and_eq_true, decide_eq_true_eq] at h
    obtain ⟨q1, q2⟩ := k.as _ h.2
    exact g_nm k.nd (by rw [k.nN]; exact h.1) q1 q2
  | .tp gs, e, h => by
    have ih := simGs k gs
    cases e <;> first | (simp [chkG] at h; done) | skip
    rename_i es kk p
    rw [chkG, Bool.and_eq_true] at h
    obtain ⟨q1, q2⟩ := ih _ h.2
    exact g_tp k.calm (stars_of h.1) (fun ds env Q w => by rw [q1]; exact wGs_len gs ds env Q w) (q2 (stars_of h.1))
theorem simGs (k : Cok n T c X A ex) : ∀ (gs : Gs) (es : List Expr), chkGs gs c es = true → es.length = gs.len ∧ ((∀ y ∈ es, starB y = false) → PGs X es (LGs X.x gs))
  | .nil, es, h => by
    cases es with
    | nil => exact ⟨rfl, fun _ => gs_nil⟩
    | cons _ _ => simp [chkGs] at h
  | .cons g gs, es, h => by
    cases es with
    | nil => simp [chkGs] at h
    | cons e es =>
      rw [chkGs, Bool.and_eq_true] at h
      obtain ⟨q1, q2⟩ := simGs k gs es h.2
      exact ⟨by rw [List.length_cons, q1, Gs.len], fun hs => gs_cons (hs e List.mem_cons_self) (simG k g e h.1) (q2 fun y hy => hs y (List.mem_cons_of_mem _ hy))⟩
end

/-- what an expression's check gives -/
def P (n : Nat) (T : Nat → Option FD) (e : E) : Prop := ∀ (c : SC) (pe : Expr), chkE e c pe = true → ∀ (X : Cx) (A : Anc) (ex : EX), Cok n T c X A ex →
  PE X pe (LE X.x A (wE (callN T n) ex e)) ∧ (noIf e = true → PT X pe (LV X.x A (wE (callN T n) ex e)))
def Pes (n : Nat) (T : Nat → Option FD) (es : Es) : Prop := ∀ (c : SC) (ps : List Expr), chkEs es c ps = true → ∀ (X : Cx) (A : Anc) (ex : EX), Cok n T c X A ex → PA X ps (LA X.x A (wEs (callN T n) ex es))
def Pps (n : Nat) (T : Nat → Option FD) (es : Es) : Prop := ∀ (c : SC) (keys : List (Option Expr)) (values : List Expr), chkEs es c (inter keys values) = true → keys.all (·.isSome) = true → keys.length = values.length → ∀ (X : Cx) (A : Anc) (ex : EX) (pos : Pos), Cok n T c X A ex →
  ∃ trs, PPs X pos keys values trs ∧ ∀ σ H Q, LPs X.x A (wEs (callN T n) ex es) σ H Q → tPairs trs σ H Q
def Po (n : Nat) (T : Nat → Option FD) (o : OE) : Prop := (∀ (c : SC) (po : Option Expr), chkO o c po = true → ∀ (X : Cx) (A : Anc) (ex : EX), Cok n T c X A ex → PO X po (LO X.x A (wO (callN T n) ex o))) ∧
  ∀ (c : SC) (ifs : List Expr), chkC o c ifs = true → ∀ (X : Cx) (A : Anc), Cok n T c X A (fun _ _ _ _ => False) → PTs X ifs (LT X.x A (wC (callN T n) o))
def Pi (n : Nat) (T : Nat → Option FD) (it : It) : Prop := ∀ (c : SC) (tg pi : Expr), chkI it c tg pi = true → ∀ (X : Cx) (A : Anc) (ex : EX), Cok n T c X A ex → PI X tg pi (LI X.x A (wI (callN T n) ex it))
theorem P.plain {X : Cx} {A : Anc} {w : Env → Store → KD → Prop} {pe : Expr} {b : Prop} (h : PE X pe (LE X.x A w)) (hp : ∀ whole, isTrue pe X.env whole = (do let v ← whole; standAt pe.pos; holding [v] (truthy v))) :
    PE X pe (LE X.x A w) ∧ (b → PT X pe (LV X.x A w)) := ⟨h, fun _ => t_plain h hp⟩
theorem cst_ok {X : Cx} {A : Anc} {d : D} {k : Const} {j : Nat} {p : Pos} (h : cstB d k = true) : PE X (.Constant k j p) (LE X.x A fun _ S Q => Q d S) := by
  cases d <;> cases k <;> first | (cases h; done) | skip
  · exact s_cst pe_non (fun _ _ _ q => q) fun _ => .non
  · have e := beq_iff_eq.mp h
    subst e
    exact s_cst pe_bl (fun _ _ _ q => q) fun _ => .bl _
  · have e := beq_iff_eq.mp h
    subst e
    exact s_cst pe_int (fun _ _ _ q => q) fun _ => .int _
  · have e := of_decide_eq_true h
    subst e
    exact s_cst pe_str (fun _ _ _ q => q) fun _ => .str _
mutual
theorem simE (n : Nat) (T : Nat → Option FD) : ∀ e : E, P n T e
  | .var i => by
    intro c pe h X A ex k
    cases pe <;> first | (simp [chkE] at h; done) | skip
    simp only [chkE, Bool.and_eq_true, decide_eq_true_eq, Bool.not_eq_true'] at h
    exact P.plain (s_var k h.1.1 h.1.2 h.2) fun _ => rfl
  | .cst d => by
    intro c pe h X A ex k
    cases pe <;> first | (simp [chkE] at h; done) | skip
    exact P.plain (cst_ok h) fun _ => rfl
  | .glb x d => by
    intro c pe h X A ex k
    cases pe <;> first | (simp [chkE] at h; done) | skip
    simp only [chkE, Bool.and_eq_true, decide_eq_true_eq, Bool.not_eq_true'] at h
    obtain ⟨⟨⟨h1, h2⟩, h3⟩, h4⟩ := h
    subst h1
    exact P.plain (s_glb k h2 h3 h4) fun _ => rfl
  | .tup es => by
    have ih := simEs n T es
    intro c pe h X A ex k
    cases pe <;> first | (simp [chkE] at h; done) | skip
    exact P.plain (s_tup (ih c _ h X A ex k)) fun _ => rfl
  | .lst es => by
    have ih := simEs n T es
    intro c pe h X A ex k
    cases pe <;> first | (simp [chkE] at h; done) | skip
    exact P.plain (s_lst (ih c _ h X A ex k)) fun _ => rfl
  | .dct es => by
    have ih := simPs n T es
    intro c pe h X A ex k
    have i1 := fun ks vs p q1 q2 q3 => ih c ks vs q1 q2 q3 X A ex p k
    unfold chkE at h
    split at h <;> first | (cases h; done) | (rename_i q; cases q; done) | skip
    · rename_i q
      cases q
      exact P.plain s_dct0 fun _ => rfl
    · rename_i q
      cases q
      simp only [Bool.and_eq_true, decide_eq_true_eq] at h
      obtain ⟨⟨⟨g1, g2⟩, g3⟩, g4⟩ := h
      obtain ⟨trs, h5, h6⟩ := i1 _ _ _ g4 g1 g2
      exact P.plain (s_dct h5 g1 g2 (by simp) g3 h6) fun _ => rfl
  | .fld o f => by
    intro c pe h X A ex k
    cases pe <;> (simp [chkE] at h; done)
  | .rev a => by
    have ih := simE n T a
    intro c pe h X A ex k
    have i1 := fun p q => (ih c p q X A ex k).1
    unfold chkE at h
    split at h <;> first | (cases h; done) | (rename_i q; cases q; done) | skip
    rename_i q
    cases q
    exact P.plain (s_rev (i1 _ h)) fun _ => rfl
  | .lrng a => by
    have ih := simE n T a
    intro c pe h X A ex k
    have i1 := fun p q => (ih c p q X A ex k).1
    unfold chkE at h
    split at h <;> first | (cases h; done) | (rename_i q; cases q; done) | skip
    rename_i q
    cases q
    simp only [Bool.and_eq_true, decide_eq_true_eq, Bool.not_eq_true'] at h
    obtain ⟨⟨⟨⟨⟨h1, h2⟩, h3⟩, h4⟩, h5⟩, h6⟩ := h
    subst h1
    subst h2
    exact P.plain (s_lrng k h3 h4 h5 (i1 _ h6)) fun _ => rfl
  | .lset a => by
    have ih := simE n T a
    intro c pe h X A ex k
    have i1 := fun p q => (ih c p q X A ex k).1
    unfold chkE at h
    split at h <;> first | (cases h; done) | (rename_i q; cases q; done) | skip
    rename_i q
    cases q
    simp only [Bool.and_eq_true, decide_eq_true_eq, Bool.not_eq_true'] at h
    obtain ⟨⟨⟨⟨⟨h1, h2⟩, h3⟩, h4⟩, h5⟩, h6⟩ := h
    subst h1
    subst h2
    exact P.plain (s_lset k h3 h4 h5 (i1 _ h6)) fun _ => rfl
  | .sset a => by
    have ih := simE n T a
    intro c pe h X A ex k
    have i1 := fun p q => (ih c p q X A ex k).1
    unfold chkE at h
    split at h <;> first | (cases h; done) | (rename_i q; cases q; done) | skip
    rename_i q
    cases q
    simp only [Bool.and_eq_true, decide_eq_true_eq, Bool.not_eq_true'] at h
    obtain ⟨⟨⟨⟨⟨h1, h2⟩, h3⟩, h4⟩, h5⟩, h6⟩ := h
    subst h1
    subst h2
    exact P.plain (s_sset k (units70 k.room) h3 h4 h5 (i1 _ h6)) fun _ => rfl
  | .lzip a b => by
    have ih := simE n T a
    have jh := simE n T b
    intro c pe h X A ex k
    have i1 := fun p q => (ih c p q X A ex k).1
    have i2 := fun p q => (jh c p q X A ex k).1
    unfold chkE at h
    split at h <;> first | (cases h; done) | (rename_i q; cases q; done) | skip
    rename_i q
    cases q
    simp only [Bool.and_eq_true, decide_eq_true_eq, Bool.not_eq_true'] at h
    obtain ⟨⟨⟨⟨⟨⟨⟨h1, h2⟩, h3⟩, h4⟩, h5⟩, h6⟩, h7⟩, h8⟩ := h
    subst h1
    subst h2
    exact P.plain (s_lzip k h3 h4 h5 h6 (i1 _ h7) (i2 _ h8)) fun _ => rfl
  | .itms a => by
    have ih := simE n T a
    intro c pe h X A ex k
    have i1 := fun p q => (ih c p q X A ex k).1
    unfold chkE at h
    split at h <;> first | (cases h; done) | (rename_i q; cases q; done) | skip
    rename_i q
    cases q
    simp only [Bool.and_eq_true, decide_eq_true_eq, Bool.not_eq_true'] at h
    obtain ⟨⟨⟨⟨⟨h1, h2⟩, h3⟩, h4⟩, h5⟩, h6⟩ := h
    subst h1
    subst h2
    exact P.plain (s_itms k h3 h4 h5 (i1 _ h6)) fun _ => rfl
  | .o1 o a => by
    have ih := simE n T a
    intro c pe h X A ex k
    have i1 := fun p q => (ih c p q X A ex k).1
    cases o <;> unfold chkE at h <;> split at h <;> first | (cases h; done) | (rename_i q; cases q; done) | skip
    all_goals
      rename_i q
      cases q
    · exact P.plain (s_neg (i1 _ h)) fun _ => rfl
    · exact ⟨s_isN (i1 _ h), fun _ => t_isN (i1 _ h)⟩
    · exact ⟨s_notN (i1 _ h), fun _ => t_notN (i1 _ h)⟩
  | .o2 o a b => by
    have ih := simE n T a
    have ih2 := simE n T b
    intro c pe h X A ex k
    have i1 := fun p q => (ih c p q X A ex k).1
    have i2 := fun p q => (ih2 c p q X A ex k).1
    unfold chkE at h
    split at h <;> first | (cases h; done) | (rename_i q; cases q; done) | skip
    all_goals
      rename_i q
      cases q
      simp only [Bool.and_eq_true, Bool.not_eq_true', decide_eq_true_eq] at h
    · exact P.plain (s_bin h.1.1 (i1 _ h.1.2) (i2 _ h.2)) fun _ => rfl
    · exact ⟨s_cmp k h.1.1.1 h.1.1.2 (i1 _ h.1.2) (i2 _ h.2), fun _ => t_cmp k h.1.1.1 h.1.1.2 (i1 _ h.1.2) (i2 _ h.2)⟩
    · obtain ⟨⟨⟨h0, h1⟩, h2⟩, h3⟩ := h
      subst h0
      exact P.plain (s_idx k.room.units h1 (i1 _ h2) (i2 _ h3)) fun _ => rfl
  | .slc a lo hi => by
    have ih := simE n T a
    have ih2 := simO n T lo
    have ih3 := simO n T hi
    intro c pe h X A ex k
    have i1 := fun p q => (ih c p q X A ex k).1
    have i2 := fun p q => ih2.1 c p q X A ex k
    have i3 := fun p q => ih3.1 c p q X A ex k
    unfold chkE at h
    split at h <;> first | (cases h; done) | (rename_i q; cases q; done) | skip
    rename_i q
    cases q
    simp only [Bool.and_eq_true] at h
    exact P.plain (s_slc (i1 _ h.1.1) (i2 _ h.1.2) (i3 _ h.2)) fun _ => rfl
  | .chn o p a b d => by
    have ih := simE n T a
    have ih2 := simE n T b
    have ih3 := simE n T d
    intro c pe h X A ex k
    have i1 := fun p q => (ih c p q X A ex k).1
    have i2 := fun p q => (ih2 c p q X A ex k).1
    have i3 := fun p q => (ih3 c p q X A ex k).1
    unfold chkE at h
    split at h <;> first | (cases h; done) | (rename_i q; cases q; done) | skip
    rename_i q
    cases q
    simp only [Bool.and_eq_true, Bool.not_eq_true'] at h
    obtain ⟨⟨⟨⟨⟨h1, h2⟩, h3⟩, h4⟩, h5⟩, h6⟩ := h
    exact ⟨s_chn k h1 h2 h3 (i1 _ h4) (i2 _ h5) (i3 _ h6), fun _ => t_chn k h1 h2 h3 (i1 _ h4) (i2 _ h5) (i3 _ h6)⟩
  | .isi a t => by
    have ih := simE n T a
    intro c pe h X A ex k
    have i1 := fun p q => (ih c p q X A ex k).1
    unfold chkE at h
    split at h <;> first | (cases h; done) | (rename_i q; cases q; done) | skip
    rename_i q
    cases q
    simp only [Bool.and_eq_true, Bool.not_eq_true', decide_eq_true_eq] at h
    obtain ⟨⟨⟨⟨⟨h1, h2⟩, h3⟩, h4⟩, h5⟩, h6⟩ := h
    subst h1
    subst h2
    exact P.plain (s_isi k h3 h4 h5 (i1 _ h6)) fun _ => rfl
  | .not a => by
    have ih := simE n T a
    intro c pe h X A ex k
    have i1 := fun p q => ih c p q X A ex k
    unfold chkE at h
    split at h <;> first | (cases h; done) | (rename_i q; cases q; done) | skip
    rename_i q
    cases q
    exact ⟨s_not (i1 _ h).1, fun hn => t_not ((i1 _ h).2 (by rw [noIf] at hn; exact hn))⟩
  | .and a b => by
    have ih := simE n T a
    have ih2 := simE n T b
    intro c pe h X A ex k
    have i1 := fun p q => ih c p q X A ex k
    have i2 := fun p q => ih2 c p q X A ex k
    unfold chkE at h
    split at h <;> first | (cases h; done) | (rename_i q; cases q; done) | skip
    rename_i q
    cases q
    rw [Bool.and_eq_true] at h
    obtain ⟨h1, h2⟩ := h
    split at h2
    · rename_i hr
      rw [List.isEmpty_iff] at hr
      subst hr
      refine ⟨s_and (i1 _ h1).1 (pe_one (i2 _ h2).1), fun hn => ?_⟩
      rw [noIf, Bool.and_eq_true] at hn
      exact (t_and ((i1 _ h1).2 hn.1) (pw_and1 ((i2 _ h2).2 hn.2))).pt
    · refine ⟨s_and (i1 _ h1).1 (i2 _ h2).1, fun hn => ?_⟩
      rw [noIf, Bool.and_eq_true] at hn
      exact (t_and ((i1 _ h1).2 hn.1) (pw_of ((i2 _ h2).2 hn.2))).pt
  | .or a b => by
    have ih := simE n T a
    have ih2 := simE n T b
    intro c pe h X A ex k
    have i1 := fun p q => ih c p q X A ex k
    have i2 := fun p q => ih2 c p q X A ex k
    unfold chkE at h
    split at h <;> first | (cases h; done) | (rename_i q; cases q; done) | skip
    rename_i q
    cases q
    rw [Bool.and_eq_true] at h
    obtain ⟨h1, h2⟩ := h
    split at h2
    · rename_i hr
      rw [List.isEmpty_iff] at hr
      subst hr
      refine ⟨s_or (i1 _ h1).1 (pe_one (i2 _ h2).1), fun hn => ?_⟩
      rw [noIf, Bool.and_eq_true] at hn
      exact (t_or ((i1 _ h1).2 hn.1) (pw_or1 ((i2 _ h2).2 hn.2))).pt
    · refine ⟨s_or (i1 _ h1).1 (i2 _ h2).1, fun hn => ?_⟩
      rw [noIf, Bool.and_eq_true] at hn
      exact (t_or ((i1 _ h1).2 hn.1) (pw_of ((i2 _ h2).2 hn.2))).pt
  | .ife d a b => by
    have ih := simE n T d
    have ih2 := simE n T a
    have ih3 := simE n T b
    intro c pe h X A ex k
    have i1 := fun p q => (ih c p q X A ex k).2
    have i2 := fun p q => (ih2 c p q X A ex k).1
    have i3 := fun p q => (ih3 c p q X A ex k).1
    unfold chkE at h
    split at h <;> first | (cases h; done) | (rename_i q; cases q; done) | skip
    rename_i q
    cases q
    simp only [Bool.and_eq_true] at h
    exact ⟨s_ife (i1 _ h.1.1.2 h.1.1.1) (i2 _ h.1.2) (i3 _ h.2), fun hn => by cases hn⟩
  | .call f es => by
    have ih := simEs n T es
    intro c pe h X A ex k
    have i1 := fun p q => ih c p q X A ex k
    unfold chkE at h
    split at h <;> first | (cases h; done) | (rename_i q; cases q; done) | skip
    rename_i q
    cases q
    simp only [Bool.and_eq_true, Bool.not_eq_true', decide_eq_true_eq] at h
    obtain ⟨⟨⟨⟨h1, h2⟩, h3⟩, h4⟩, h5⟩ := h
    exact P.plain (s_call k h1 h2 h3 (stars_of h4) (i1 _ h5)) fun _ => rfl
  | .bi b es => by
    have ih := simEs n T es
    intro c pe h X A ex k
    have i1 := fun p q => ih c p q X A ex k
    unfold chkE at h
    split at h <;> first | (cases h; done) | (rename_i q; cases q; done) | skip
    rename_i q
    cases q
    simp only [Bool.and_eq_true] at h
    obtain ⟨⟨⟨h1, h2⟩, h3⟩, h4⟩ := h
    exact P.plain (s_bi k h1 h2 (stars_of h3) (i1 _ h4)) fun _ => rfl
  | .mth m o es => by
    have ih := simE n T o
    have ih2 := simEs n T es
    intro c pe h X A ex k
    have i1 := fun p q => (ih c p q X A ex k).1
    have i2 := fun p q => ih2 c p q X A ex k
    unfold chkE at h
    split at h <;> first | (cases h; done) | (rename_i q; cases q; done) | (rename_i q _; cases q; done) | skip
    · rename_i q
      cases q
      simp only [Bool.and_eq_true, Bool.not_eq_true', decide_eq_true_eq] at h
      obtain ⟨⟨⟨h1, h2⟩, h3⟩, h4⟩ := h
      refine P.plain (pe_of (s_mth0 k h1 h2 h3 (i1 _ h4)) fun σ H Q q => ?_) fun _ => rfl
      simpa only [wE, wEs] using q
    · rename_i q
      cases q
      simp only [Bool.and_eq_true, Bool.not_eq_true', decide_eq_true_eq] at h
      obtain ⟨⟨⟨⟨⟨⟨h1, h2⟩, h3⟩, h4⟩, h5⟩, h6⟩, h7⟩ := h
      exact P.plain (s_mth k h1 h2 h3 h4 (stars_of h5) (i1 _ h6) (i2 _ h7)) fun _ => rfl
  | .comp elt g own it d => by
    have ih := simE n T elt
    have ih2 := simI n T it
    have ih3 := simO n T d
    intro c pe h X A ex k
    have i2 := fun t p q => ih2 c t p q X A ex k
    unfold chkE at h
    split at h <;> first | (cases h; done) | (rename_i q; cases q; done) | skip
    rename_i q
    cases q
    simp only [Bool.and_eq_true, Bool.not_eq_true'] at h
    obtain ⟨⟨⟨⟨⟨⟨h1, h2⟩, h3⟩, h4⟩, h5⟩, h6⟩, h7⟩ := h
    have kb := fun s H C cl fp => k.blk (blk_kind h1) s H C cl fp
    have hsl : ∀ i ∈ G.sl g, i ∈ own.map (·.2) := fun i hi => by
      have := List.all_eq_true.mp h2 i hi
      simpa using this
    refine P.plain ?_ fun _ => rfl
    exact pe_of (pe_lc k.calm k.nd (i2 _ _ h5) (blk_ok k h1) (fun s H C cl fp => simG (kb s H C cl fp) g _ h3) (fun s H C cl fp => ih3.2 _ _ h6 _ A (kb s H C cl fp)) (fun s H C cl fp => (ih _ _ h7 _ A _ (kb s H C cl fp)).1) (folded_plain h4))
      fun σ H Q q => comp_L hsl q
theorem simPs (n : Nat) (T : Nat → Option FD) : ∀ es : Es, Pps n T es
  | .nil => by
    intro c keys values h h1 h2 X A ex pos k
    cases keys with
    | nil =>
      cases values with
      | nil => exact ⟨[], pps_nil, fun σ H Q ⟨env, S, Q0, e1, hs, hf, hw, hq⟩ => hq [] S [] H hw .refl hs .nil⟩
      | cons _ _ => cases h2
    | cons a ks =>
      cases a with
      | none => cases h1
      | some a =>
        cases values with
        | nil => cases h2
        | cons v vs => simp [inter, chkEs] at h
  | .cons e .nil => by
    intro c keys values h h1 h2 X A ex pos k
    cases keys with
    | nil => simp [inter, chkEs] at h
    | cons a ks =>
      cases a with
      | none => cases h1
      | some a =>
        cases values with
        | nil => cases h2
        | cons v vs => simp [inter, chkEs] at h
  | .cons e1 (.cons e2 r) => by
    have i1 := simE n T e1
    have i2 := simE n T e2
    have i3 := simPs n T r
    intro c keys values h h1 h2 X A ex pos k
    cases keys with
    | nil => simp [inter, chkEs] at h
    | cons a ks =>
      cases a with
      | none => cases h1
      | some a =>
        cases values with
        | nil => cases h2
        | cons v vs =>
          simp only [inter, chkEs, Bool.and_eq_true] at h
          obtain ⟨⟨_, c1⟩, ⟨_, c2⟩, c3⟩ := h
          rw [List.all_cons, Bool.and_eq_true] at h1
          obtain ⟨trs, g1, g2⟩ := i3 c ks vs c3 h1.2 (by simpa using h2) X A ex pos k
          refine ⟨_, pps_cons (i1 c a c1 X A ex k).1 (i2 c v c2 X A ex k).1 g1, fun σ H Q ⟨env, S, Q0, w1, hs, hf, hw, hq⟩ => ?_⟩
          refine ⟨env, S, _, w1, hs, hf, hw, fun d S1 x H1 q f1 s1 r1 => ?_⟩
          refine ⟨env, S1, _, w1.stay (f1.stay hs), s1, hf.trans f1, q, fun d2 S2 y H2 q2 f2 s2 r2 => ?_⟩
          refine g2 _ _ _ ⟨env, S2, _, (w1.stay (f1.stay hs)).stay (f2.stay s1), s2, (hf.trans f1).trans f2, q2, fun ds S3 ps H3 q3 f3 s3 r3 => ?_⟩
          exact hq (d :: d2 :: ds) S3 ((x, y) :: ps) H3 q3 ((f1.trans f2).trans f3) s3 (.cons ((r1.stay (f2.stay s1)).stay (f3.stay s2)) (.cons (r2.stay (f3.stay s2)) r3))
theorem simEs (n : Nat) (T : Nat → Option FD) : ∀ es : Es, Pes n T es
  | .nil => by
    intro c ps h X A ex k
    cases ps <;> first | (simp [chkEs] at h; done) | skip
    exact s_nil
  | .cons e es => by
    have ih := simE n T e
    have ih2 := simEs n T es
    intro c ps h X A ex k
    cases ps <;> first | (simp [chkEs] at h; done) | skip
    simp only [chkEs, Bool.and_eq_true, Bool.not_eq_true'] at h
    exact s_cons h.1.1 (ih c _ h.1.2 X A ex k).1 (ih2 c _ h.2 X A ex k)
theorem simO (n : Nat) (T : Nat → Option FD) : ∀ o : OE, Po n T o
  | .no => by
    refine ⟨fun c po h X A ex k => ?_, fun c ifs h X A k => ?_⟩
    · cases po <;> first | (simp [chkO] at h; done) | skip
      exact o_none
    · cases ifs <;> first | (simp [chkC] at h; done) | skip
      exact ⟨fun pins s σ H Q I ⟨env, S, Q0, h1, hs, hf, hw, hq⟩ => pts_nil.run pins s σ H Q I (hq _ _ _ hw .refl hs)⟩
  | .so e => by
    have ih := simE n T e
    refine ⟨fun c po h X A ex k => ?_, fun c ifs h X A k => ?_⟩
    · cases po <;> first | (simp [chkO] at h; done) | skip
      exact o_some (ih c _ h X A ex k).1
    · unfold chkC at h
      split at h <;> first | (cases h; done) | (rename_i q; cases q; done) | skip
      rename_i q
      cases q
      rw [Bool.and_eq_true] at h
      exact pts_one (pt_of ((ih _ _ h.2 X A _ k).2 h.1) fun σ H Q w => LV_tst w)
theorem simI (n : Nat) (T : Nat → Option FD) : ∀ it : It, Pi n T it
  | .e a => by
    have ih := simE n T a
    intro c tg pi h X A ex k
    exact pi_val (ih c _ (by rw [chkI] at h; exact h) X A ex k).1
  | .rng a => by
    have ih := simE n T a
    intro c tg pi h X A ex k
    have i1 := fun p q => (ih c p q X A ex k).1
    unfold chkI at h
    split at h <;> first | (cases h; done) | (rename_i q; cases q; done) | skip
    rename_i q
    cases q
    simp only [Bool.and_eq_true, Bool.not_eq_true', decide_eq_true_eq] at h
    obtain ⟨⟨⟨h1, h2⟩, h3⟩, h4⟩ := h
    subst h1
    exact pi_rng k h2 h3 (i1 _ h4)
  | .rng2 a b => by
    have ih := simE n T a
    have ih2 := simE n T b
    intro c tg pi h X A ex k
    have i1 := fun p q => (ih c p q X A ex k).1
    have i2 := fun p q => (ih2 c p q X A ex k).1
    unfold chkI at h
    split at h <;> first | (cases h; done) | (rename_i q; cases q; done) | skip
    rename_i q
    cases q
    simp only [Bool.and_eq_true, Bool.not_eq_true', decide_eq_true_eq] at h
    obtain ⟨⟨⟨⟨⟨h1, h2⟩, h3⟩, h4⟩, h5⟩, h6⟩ := h
    subst h1
    exact pi_rng2 k h2 h3 h4 (i1 _ h5) (i2 _ h6)
  | .rng3 a b d => by
    have ih := simE n T a
    have ih2 := simE n T b
    have ih3 := simE n T d
    intro c tg pi h X A ex k
    have i1 := fun p q => (ih c p q X A ex k).1
    have i2 := fun p q => (ih2 c p q X A ex k).1
    have i3 := fun p q => (ih3 c p q X A ex k).1
    unfold chkI at h
    split at h <;> first | (cases h; done) | (rename_i q; cases q; done) | skip
    rename_i q
    cases q
    simp only [Bool.and_eq_true, Bool.not_eq_true', decide_eq_true_eq] at h
    obtain ⟨⟨⟨⟨⟨⟨⟨h1, h2⟩, h3⟩, h4⟩, h5⟩, h6⟩, h7⟩, h8⟩ := h
    subst h1
    exact pi_rng3 k h2 h3 h4 h5 (i1 _ h6) (i2 _ h7) (i3 _ h8)
  | .enm a => by
    have ih := simE n T a
    intro c tg pi h X A ex k
    have i1 := fun p q => (ih c p q X A ex k).1
    unfold chkI at h
    split at h <;> first | (cases h; done) | (rename_i q; cases q; done) | skip
    rename_i q
    cases q
    simp only [Bool.and_eq_true, Bool.not_eq_true', decide_eq_true_eq] at h
    obtain ⟨⟨⟨h1, h2⟩, h3⟩, h4⟩ := h
    subst h1
    exact pi_enm k h2 h3 (i1 _ h4)
  | .zip a b => by
    have ih := simE n T a
    have ih2 := simE n T b
    intro c tg pi h X A ex k
    have i1 := fun p q => (ih c p q X A ex k).1
    have i2 := fun p q => (ih2 c p q X A ex k).1
    unfold chkI at h
    split at h <;> first | (cases h; done) | (rename_i q; cases q; done) | skip
    rename_i q
    cases q
    simp only [Bool.and_eq_true, Bool.not_eq_true', decide_eq_true_eq] at h
    obtain ⟨⟨⟨⟨⟨h1, h2⟩, h3⟩, h4⟩, h5⟩, h6⟩ := h
    subst h1
    exact pi_zipL k h2 h3 h4 (i1 _ h5) (i2 _ h6)
end
end
end Mn

/-! Sim9: statements, defs. -/
namespace Mn
open PySem PySem.Spec PyProof.Rows L2

/-- whether a comprehension's list is stored where it is made -/
def swB (names : List (Str × NameKind)) (e : Expr) (x : Str) (p : Pos) : Bool := match e with
  | .ListComp _ _ scope q => (match names.lookup x with | some .local => true | _ => false) && (p.line == q.line) && !(scope.names.any fun (n, k) => n == x && (k == .local || k == .cell))
  | .SetComp _ _ _ _ => true
  | .DictComp _ _ _ _ _ => true
  | _ => false
def locOnly (names : List (Str × NameKind)) (x : Str) : Bool := match names.lookup x with
  | some .local => true
  | _ => false
mutual
def chkS : St → SC → Stmt → Bool
  | .set g e, c, .Assign [t] v p => chkE e c v && (match t with
    | .Name x q => (match g with
      | .nm i => decide (c.N[i]? = some x) && locB c.raw x && (!swB c.names v x q || isCmp e)
      | _ => false)
    | .Tuple _ _ _ => !tupB v && chkG g c t
    | _ => false)
  | .unl gs e, c, .Assign [.Tuple es kk tp] v p => chkE e c v && !tupB v && (es.all fun y => !starB y) && chkGs gs c es
  | .par i j a b, c, .Assign [.Tuple [.Name x px, .Name y py] _ _] (.Tuple [u, v] _ _) _ => decide (c.N[i]? = some x) && decide (c.N[j]? = some y) && decide (i ≠ j) && locOnly c.names x && locOnly c.names y && decide (x ≠ y) && (px.line == py.line)
      && !(foldedForSure 8 u && foldedForSure 8 v) && !(constantsAlone 8 u && constantsAlone 8 v) && !starB u && !starB v && chkE a c u && chkE b c v
  | .sub o i e, c, .Assign [.Subscript x y _] v _ => !slcB y && !cmpB v && chkE e c v && chkE o c x && chkE i c y
  | .aug i e, c, .AugAssign (.Name x _) .Add v _ => decide (c.N[i]? = some x) && locB c.raw x && chkE e c v
  | .ife d a b, c, .If x y z _ => noIf d && chkE d c x && chkSs a c y && chkSs b c z
  | .for_ g it b, c, .For t x y [] _ => !setB x && chkG g c t && chkI it c t x && chkSs b c y
  | .whl d b, c, .While x y [] _ => noIf d && chkE d c x && chkSs b c y
  | .ret e, c, .Return (some v) _ => chkE e c v
  | .retN, _, .Return none _ => true
  | .exp e, c, .Expr v _ => !cmpB v && chkE e c v
  | .doc, _, .Expr (.Constant (.str _) _ _) _ => true
  | .pass, _, .Pass _ => true
  | .brk, _, .Break _ => true
  | .cont, _, .Continue _ => true
  | .rse, _, .Raise _ _ _ => true
  | _, _, _ => false
def chkSs : Ss → SC → List Stmt → Bool
  | .nil, _, [] => true
  | .cons s r, c, x :: xs => chkS s c x && chkSs r c xs
  | _, _, _ => false
def isCmp : E → Bool
  | .comp _ _ _ _ _ => true
  | _ => false
end
section
variable {n : Nat} {T : Nat → Option FD} {c : SC} {X : Cx} {A : Anc} {ex : EX}
theorem swaps_eq (k : Cok n T c X A ex) {e : Expr} {x : Str} {p : Pos} {l : Nat} (h : swB c.names e x p = false) : swapsWith e (some (.Name x p)) l X.env = pure false := by
  cases e <;> first | rfl | (cases h; done) | skip
  rename_i elt gs scope q
  have ky : X.env.kindOf x = c.names.lookup x := by show X.env.scope.names.lookup x = _; rw [k.sn]
  have hb : X.env.blockKind = .function := by unfold Env.blockKind; rw [k.sk]; rfl
  have hb2 : (X.env.blockKind == ScopeKind.function) = true := by rw [hb]; rfl
  have hp : (Expr.ListComp elt gs scope q).pos = q := rfl
  unfold swB at h
  simp only at h
  have key : (X.env.blockKind == .function && X.env.kindOf x == some .local && p.line == q.line && !(scope.names.any fun (n, k) => n == x && (k == .local || k == .cell))) = false := by
    rw [hb2, ky, Bool.true_and]
    rw [← h]
    congr 2
    cases c.names.lookup x with
    | none => rfl
    | some z => cases z <;> rfl
  unfold swapsWith
  simp only [hp]
  rw [key]
theorem swaps_t (k : Cok n T c X A ex) {elt : Expr} {gs : List Comprehension} {scope : Scope} {q : Pos} {x : Str} {p : Pos} {l : Nat} (h : swB c.names (.ListComp elt gs scope q) x p = true) : X.env.scope.names.lookup x = some .local ∧ swapsWith (.ListComp elt gs scope q) (some (.Name x p)) l X.env = pure true := by
  unfold swB at h
  simp only [Bool.and_eq_true, Bool.not_eq_true'] at h
  obtain ⟨⟨h1, h2⟩, h3⟩ := h
  have hl : X.env.scope.names.lookup x = some .local := by
    rw [k.sn]
    split at h1
    · assumption
    · cases h1
  exact ⟨hl, sw_true k.sk hl h2 h3⟩
theorem ls_ex {st : Stmt} {w : Ends → Env → Store → Prop} (h : PS X st (LS X.x A ex fun K env S => w { K with ex := ex } env S)) : PS X st (LS X.x A ex w) :=
  ps_of h fun Dh σ H ⟨DM, env, S, hb, h1, hs, hf, hw⟩ => ⟨DM, env, S, hb, h1, hs, hf, by
    have e : ({ DM with ex := ex } : Ends) = DM := by
      cases DM
      have := hb.ex
      simp only at this
      subst this
      rfl
    show w { DM with ex := ex } env S
    rw [e]
    exact hw⟩
theorem swapped_yes (k : Cok n T c X A ex) {x y : Str} {px py pt pt2 : Pos} {kt k2 : Nat} {u v : Expr} (h1 : c.names.lookup x = some .local) (h2 : c.names.lookup y = some .local) (h3 : x ≠ y) (h4 : (px.line == py.line) = true)
    (h5 : (foldedForSure 8 u && foldedForSure 8 v) = false) (h6 : (constantsAlone 8 u && constantsAlone 8 v) = false) (h7 : starB u = false) (h8 : starB v = false) :
    swappedStores [.Tuple [.Name x px, .Name y py] kt pt] (.Tuple [u, v] k2 pt2) X.env = pure (some [x, y]) := by
  have kx : X.env.kindOf x = some .local := by show X.env.scope.names.lookup x = _; rw [k.sn]; exact h1
  have ky : X.env.kindOf y = some .local := by show X.env.scope.names.lookup y = _; rw [k.sn]; exact h2
  have hb : X.env.blockKind = .function := by unfold Env.blockKind; rw [k.sk]; rfl
  have e4 : px.line = py.line := beq_iff_eq.mp h4
  have su : (match u with | .Starred .. => true | _ => false) = false := by cases u <;> first | rfl | cases h7
  have sv : (match v with | .Starred .. => true | _ => false) = false := by cases v <;> first | rfl | cases h8
  unfold swappedStores
  simp only [List.length_cons, List.length_nil, hb, List.any_cons, List.any_nil, su, sv, List.head?_cons, Option.map_some, Expr.pos, Option.getD_some, List.filterMap_cons, List.filterMap_nil, kx, ky, e4, List.all_cons, List.all_nil, Bool.and_true, h5, h6]
  have hne : (y == x) = false := beq_eq_false_iff_ne.mpr (Ne.symm h3)
  have hne2 : (x == y) = false := beq_eq_false_iff_ne.mpr h3
  simp [List.eraseDups_cons, hne, hne2]
  intro hh
  rcases hh with hh | hh
  · cases u <;> first | (cases hh; done) | (cases h7; done)
  · cases v <;> first | (cases hh; done) | (cases h8; done)
theorem loc_only {names : List (Str × NameKind)} {x : Str} (h : locOnly names x = true) : names.lookup x = some .local := by
  unfold locOnly at h
  split at h
  · assumption
  · cases h
def Pst (n : Nat) (T : Nat → Option FD) (s : St) : Prop := ∀ (c : SC) (ps : Stmt), chkS s c ps = true → ∀ (X : Cx) (A : Anc) (ex : EX), Cok n T c X A ex → PS X ps (LS X.x A ex (wS (callN T n) s))
def Pss (n : Nat) (T : Nat → Option FD) (s : Ss) : Prop := ∀ (c : SC) (ps : List Stmt), chkSs s c ps = true → ∀ (X : Cx) (A : Anc) (ex : EX), Cok n T c X A ex → PSs X ps (LS X.x A ex (wSs (callN T n) s))
mutual
theorem simS (n : Nat) (T : Nat → Option FD) : ∀ s : St, Pst n T s
  | .set g e => by
    have ih := simE n T e
    intro c ps h X A ex k
    obtain ⟨c0, hc0⟩ : ∃ c0, c0 = c := ⟨c, rfl⟩
    refine ls_ex ?_
    unfold chkS at h
    split at h <;> first | (cases h; done) | (rename_i q; cases q; done) | skip
    rename_i c' t v p q
    cases q
    rw [Bool.and_eq_true] at h
    obtain ⟨h1, h2⟩ := h
    have i1 := (ih _ _ h1 X A ex k).1
    split at h2
    · split at h2
      · rename_i i
        simp only [Bool.and_eq_true, decide_eq_true_eq] at h2
        obtain ⟨⟨h3, h4⟩, h5⟩ := h2
        obtain ⟨q1, q2⟩ := k.as _ h4
        rename_i x py _
        cases hsw : swB c0.names v x py with
        | false =>
          rw [hc0] at hsw
          exact z_setN k.nd (by rw [k.nN]; exact h3) q1 q2 (swaps_eq k hsw) i1
        | true =>
          rw [hc0] at hsw
          rw [hsw] at h5
          cases e <;> first | (cases h5; done) | skip
          rename_i elt g own it d
          unfold chkE at h1
          split at h1 <;> first | (cases h1; done) | (rename_i q; cases q; done) | skip
          rename_i q
          cases q
          simp only [Bool.and_eq_true, Bool.not_eq_true'] at h1
          obtain ⟨⟨⟨⟨⟨⟨a1, a2⟩, a3⟩, a4⟩, a5⟩, a6⟩, a7⟩ := h1
          have kb := fun s H C cl fp => k.blk (blk_kind a1) s H C cl fp
          have hsl : ∀ i ∈ G.sl g, i ∈ own.map (·.2) := fun i hi => by
            have := List.all_eq_true.mp a2 i hi
            simpa using this
          obtain ⟨hl, ht⟩ := swaps_t (l := p.line) k hsw
          refine ps_of (ps_setLc (wi := LI X.x A (wI (callN T n) ex it)) (g := LG X.x g) (tt := LT X.x A (wC (callN T n) d)) (te := LE X.x A (wE (callN T n) (fun _ _ _ _ => False) elt)) k.calm k.nd (by rw [k.nN]; exact h3) hl ht (simI n T it _ _ _ a5 X A ex k) (blk_ok k a1) (fun s H C cl fp => simG (kb s H C cl fp) g _ a3) (fun s H C cl fp => (simO n T d).2 _ _ a6 _ A (kb s H C cl fp)) (fun s H C cl fp => (simE n T elt _ _ a7 _ A _ (kb s H C cl fp)).1) (folded_plain a4)) ?_
          intro Dh σ H ⟨DM, env, S, hb, h1, hs, hf, hw⟩
          refine comp_L (wt := wC (callN T n) d) (we := wE (callN T n) (fun _ _ _ _ => False) elt) (wi := wI (callN T n) ex it) hsl ⟨env, S, _, h1, hs, hf, hw, fun dd S' v' H' q f s r => ?_⟩
          exact hb.nx _ S' _ H' q ((h1.stay (f.stay hs)).set r i) f s
      · cases h2
    · simp only [Bool.and_eq_true, Bool.not_eq_true'] at h2
      exact z_setT h2.1 (simG k g _ h2.2) i1
    · cases h2
  | .unl gs e => by
    have ih := simE n T e
    intro c ps h X A ex k
    refine ls_ex ?_
    unfold chkS at h
    split at h <;> first | (cases h; done) | (rename_i q; cases q; done) | skip
    rename_i q
    cases q
    simp only [Bool.and_eq_true, Bool.not_eq_true', List.all_eq_true] at h
    obtain ⟨⟨⟨h1, h2⟩, h3⟩, h4⟩ := h
    obtain ⟨q1, q2⟩ := simGs k gs _ h4
    exact z_unl h2 k.calm h3 (fun ds env Q w => by rw [q1]; exact wGs_len gs ds env Q w) (q2 h3) (ih _ _ h1 X A ex k).1
  | .par i j a b => by
    have ih := simE n T a
    have ih2 := simE n T b
    intro c ps h X A ex k
    refine ls_ex ?_
    unfold chkS at h
    split at h <;> first | (cases h; done) | (rename_i q; cases q; done) | skip
    rename_i q
    cases q
    simp only [Bool.and_eq_true, Bool.not_eq_true', decide_eq_true_eq] at h
    obtain ⟨⟨⟨⟨⟨⟨⟨⟨⟨⟨⟨⟨h1, h2⟩, h3⟩, h4⟩, h5⟩, h6⟩, h7⟩, h8⟩, h9⟩, h10⟩, h11⟩, h12⟩, h13⟩ := h
    exact z_par k.calm k.nd (by rw [k.nN]; exact h1) (by rw [k.nN]; exact h2) h3 (by rw [k.sn]; exact loc_only h4) (by rw [k.sn]; exact loc_only h5) (swapped_yes k (loc_only h4) (loc_only h5) h6 h7 h8 h9 h10 h11) h10 h11 (ih _ _ h12 X A ex k).1 (ih2 _ _ h13 X A ex k).1
  | .sub o i e => by
    have ih := simE n T o
    have ih2 := simE n T i
    have ih3 := simE n T e
    intro c ps h X A ex k
    refine ls_ex ?_
    unfold chkS at h
    split at h <;> first | (cases h; done) | (rename_i q; cases q; done) | skip
    rename_i q
    cases q
    simp only [Bool.and_eq_true, Bool.not_eq_true'] at h
    obtain ⟨⟨⟨⟨h1, h2⟩, h3⟩, h4⟩, h5⟩ := h
    exact z_sub k.room.units h1 h2 (ih3 _ _ h3 X A ex k).1 (ih _ _ h4 X A ex k).1 (ih2 _ _ h5 X A ex k).1
  | .fset o f e => by
    intro c ps h X A ex k
    cases ps <;> (simp [chkS] at h; done)
  | .aug i e => by
    have ih := simE n T e
    intro c ps h X A ex k
    refine ls_ex ?_
    unfold chkS at h
    split at h <;> first | (cases h; done) | (rename_i q; cases q; done) | skip
    rename_i q
    cases q
    simp only [Bool.and_eq_true, decide_eq_true_eq] at h
    obtain ⟨⟨h1, h2⟩, h3⟩ := h
    obtain ⟨q1, q2⟩ := k.as _ h2
    exact z_aug k.nd (by rw [k.nN]; exact h1) q1 q2 (ih _ _ h3 X A ex k).1
  | .ife d a b => by
    have ih := simE n T d
    have ih2 := simSs n T a
    have ih3 := simSs n T b
    intro c ps h X A ex k
    refine ls_ex ?_
    have i2 := fun p q => ih2 c p q X A ex k
    have i3 := fun p q => ih3 c p q X A ex k
    unfold chkS at h
    split at h <;> first | (cases h; done) | (rename_i q; cases q; done) | skip
    rename_i q
    cases q
    simp only [Bool.and_eq_true] at h
    obtain ⟨⟨⟨h1, h2⟩, h3⟩, h4⟩ := h
    refine ps_of (z_ife ((ih _ _ h2 X A ex k).2 h1) (i2 _ h3) (i3 _ h4)) fun Dh σ H ⟨DM, env, S, hb, e1, hs, hf, hw⟩ => ⟨DM, env, S, hb, e1, hs, hf, ?_⟩
    have e := hb.ex
    cases DM
    simp only at e
    subst e
    exact hw
  | .for_ g it b => by
    have ih2 := simSs n T b
    intro c ps h X A ex k
    refine ls_ex ?_
    have i2 := fun p q => ih2 c p q X A ex k
    unfold chkS at h
    split at h <;> first | (cases h; done) | (rename_i q; cases q; done) | skip
    rename_i q
    cases q
    simp only [Bool.and_eq_true, Bool.not_eq_true'] at h
    obtain ⟨⟨⟨h1, h2⟩, h3⟩, h4⟩ := h
    refine ps_of (z_for k.hp k.calm h1 (simI n T it _ _ _ h3 X A ex k) (simG k g _ h2) (i2 _ h4)) fun Dh σ H ⟨DM, env, S, hb, e1, hs, hf, hw⟩ => ⟨DM, env, S, hb, e1, hs, hf, ?_⟩
    have e := hb.ex
    cases DM
    simp only at e
    subst e
    exact hw
  | .whl d b => by
    have ih := simE n T d
    have ih2 := simSs n T b
    intro c ps h X A ex k
    refine ls_ex ?_
    have i2 := fun p q => ih2 c p q X A ex k
    unfold chkS at h
    split at h <;> first | (cases h; done) | (rename_i q; cases q; done) | skip
    rename_i q
    cases q
    simp only [Bool.and_eq_true] at h
    obtain ⟨⟨h1, h2⟩, h3⟩ := h
    refine ps_of (z_whl k.hp ((ih _ _ h2 X A ex k).2 h1) (i2 _ h3)) fun Dh σ H ⟨DM, env, S, hb, e1, hs, hf, hw⟩ => ⟨DM, env, S, hb, e1, hs, hf, ?_⟩
    have e := hb.ex
    cases DM
    simp only at e
    subst e
    exact hw
  | .ret e => by
    have ih := simE n T e
    intro c ps h X A ex k
    refine ls_ex ?_
    unfold chkS at h
    split at h <;> first | (cases h; done) | (rename_i q; cases q; done) | skip
    rename_i q
    cases q
    exact z_ret (ih _ _ h X A ex k).1
  | .retN => by
    intro c ps h X A ex k
    unfold chkS at h
    split at h <;> first | (cases h; done) | (rename_i q; cases q; done) | skip
    exact z_retN
  | .exp e => by
    have ih := simE n T e
    intro c ps h X A ex k
    refine ls_ex ?_
    unfold chkS at h
    split at h <;> first | (cases h; done) | (rename_i q; cases q; done) | skip
    rename_i q
    cases q
    simp only [Bool.and_eq_true, Bool.not_eq_true'] at h
    exact z_exp h.1 (ih _ _ h.2 X A ex k).1
  | .doc => by
    intro c ps h X A ex k
    unfold chkS at h
    split at h <;> first | (cases h; done) | (rename_i q; cases q; done) | skip
    exact z_doc
  | .pass => by
    intro c ps h X A ex k
    unfold chkS at h
    split at h <;> first | (cases h; done) | (rename_i q; cases q; done) | skip
    exact z_pass
  | .brk => by
    intro c ps h X A ex k
    unfold chkS at h
    split at h <;> first | (cases h; done) | (rename_i q; cases q; done) | skip
    exact z_brk
  | .cont => by
    intro c ps h X A ex k
    unfold chkS at h
    split at h <;> first | (cases h; done) | (rename_i q; cases q; done) | skip
    exact z_cont
  | .rse => by
    intro c ps h X A ex k
    unfold chkS at h
    split at h <;> first | (cases h; done) | (rename_i q; cases q; done) | skip
    exact z_rse
theorem simSs (n : Nat) (T : Nat → Option FD) : ∀ s : Ss, Pss n T s
  | .nil => by
    intro c ps h X A ex k
    cases ps <;> first | (simp [chkSs] at h; done) | skip
    exact z_nil
  | .cons s r => by
    have ih := simS n T s
    have ih2 := simSs n T r
    intro c ps h X A ex k
    cases ps <;> first | (simp [chkSs] at h; done) | skip
    rw [chkSs, Bool.and_eq_true] at h
    exact z_cons (w1 := wS (callN T n) s) (w2 := wSs (callN T n) r) (ih _ _ h.1 X A ex k) (ih2 _ _ h.2 X A ex k)
end
end
end Mn

/-! Sim10: the defs of a text, the law. -/
namespace Mn
open PySem PySem.Spec PyProof.Rows L2
theorem look_zip : ∀ {ps : List Str} {us : List Value}, us.length = ps.length → ∀ n ∈ ps, ((ps.zip us).lookup n).isNone = false
  | [], _, _, n, h => by cases h
  | p :: ps, [], h, _, _ => by cases h
  | p :: ps, u :: us, h, n, hn => by
    rw [List.zip_cons_cons, List.lookup_cons]
    by_cases e : n = p
    · subst e; rw [beq_self_eq_true]; rfl
    · rw [beq_eq_false_iff_ne.mpr e]
      exact look_zip (by simpa using h) n ((List.mem_cons.mp hn).resolve_left e)
theorem fm_zip : ∀ {ps : List Str} {us : List Value} (pre : List (Str × Value)), us.length = ps.length → ps.Nodup → (∀ n ∈ ps, pre.lookup n = none) → ps.filterMap (fun n => ((pre ++ ps.zip us).lookup n).map (n, ·)) = ps.zip us
  | [], _, _, _, _, _ => by simp
  | p :: ps, [], _, h, _, _ => by cases h
  | p :: ps, u :: us, pre, h, nd, hp => by
    have h1 : (pre ++ (p, u) :: ps.zip us).lookup p = some u := by
      rw [List.lookup_append, hp p List.mem_cons_self]
      simp [List.lookup_cons]
    have nd' := List.nodup_cons.mp nd
    have ih := fm_zip (ps := ps) (us := us) (pre ++ [(p, u)]) (by simpa using h) nd'.2 (fun n hn => by
      rw [List.lookup_append, hp n (List.mem_cons_of_mem _ hn)]
      have : (n == p) = false := beq_eq_false_iff_ne.mpr fun z => nd'.1 (z ▸ hn)
      simp [List.lookup_cons, this])
    rw [List.zip_cons_cons, List.filterMap_cons, h1]
    simp only [Option.map_some]
    rw [List.append_assoc, List.singleton_append] at ih
    rw [ih]
def plainArgs (p : Arguments) (ps : List Str) : Bool := p.posonlyargs.isEmpty && p.vararg.isNone && p.kwonlyargs.isEmpty && p.kwarg.isNone && decide (p.args.map (·.arg) = ps)
theorem bind_plain {name qual : Str} {params : Arguments} {body : List Stmt} {scope : Scope} {kV doc pm cdv ct : Value} {an : Option Addr} {ps : List Str} {us : List Value} (h : plainArgs params ps = true) (nd : ps.Nodup) (hl : us.length = ps.length) :
    bindArgs (PySem.W.fnOf name qual params body scope .none kV doc pm an cdv ct) ⟨us, []⟩ = pure (ps.zip us) := by
  obtain ⟨po, ar, va, ko, kd, kw, df⟩ := params
  unfold plainArgs at h
  simp only [Bool.and_eq_true, List.isEmpty_iff, Option.isNone_iff_eq_none, decide_eq_true_eq] at h
  obtain ⟨⟨⟨⟨h1, h2⟩, h3⟩, h4⟩, h5⟩ := h
  subst h1 h2 h3 h4
  have hm : (ps.take ps.length).filter (fun n => ((ps.zip us).lookup n).isNone) = [] := by
    rw [List.take_length, List.filter_eq_nil_iff]
    intro n hn
    rw [look_zip hl n hn]
    decide
  have hf := fm_zip (ps := ps) (us := us) [] hl nd (fun _ _ => rfl)
  rw [List.nil_append] at hf
  unfold bindArgs PySem.W.fnOf
  simp only [List.map_nil, List.nil_append, h5, List.append_nil, List.forIn_nil, hl, gt_iff_lt, Nat.lt_irrefl, decide_false, Bool.false_and]
  have e1 : seqItems? Value.none = (pure none : Sem (Option (Array Value))) := rfl
  have pb : ∀ {α β : Type} (a : α) (f : α → Sem β), (pure a >>= f) = f a := fun _ _ => rfl
  have em : (#[] : Array Value).toList = [] := rfl
  simp only [e1, pb, Option.getD_none, em, List.drop_nil, List.length_nil, Nat.sub_zero, Nat.zero_sub, Bool.false_eq_true, if_false, hm, List.isEmpty_nil, Bool.not_true, List.zip_nil_right, List.forIn_nil, hf]

/-- one def of the text: its name, its number, its datum of the head, its names, its Mn def -/
structure Row where
  x : Str
  id : Nat
  d : He.DefD
  ps : List Str
  N : List Str
  fd : FD
def rowSC (fns : List (Str × Nat)) (cs : List (Str × D)) (r : Row) : SC := ⟨r.N, r.d.scope.names, r.d.scope.names, fns, cs⟩
def scopeB (N ps : List Str) (sc : Scope) : Bool :=
  (match sc.kind with | .function => true | _ => false) && !sc.isCoroutine && !sc.isGenerator && decide N.Nodup && decide (N.take ps.length = ps) && ps.all (locB sc.names) && sc.names.all fun y => match y.2 with | .free => false | _ => true
def rowB (fns : List (Str × Nat)) (cs : List (Str × D)) (r : Row) : Bool :=
  decide (r.d.at_ = (r.x, none)) && decide (r.d.name = r.x) && decide (r.d.qual = r.x) && r.d.dfl.isEmpty && r.d.kwd.isEmpty && plainArgs r.d.params r.ps && scopeB r.N r.ps r.d.scope && (r.fd.np == r.ps.length) && (r.fd.ns == r.N.length) && chkSs r.fd.body (rowSC fns cs r) r.d.body
theorem fnScope_of {N ps : List Str} {sc : Scope} (h : scopeB N ps sc = true) : FnScope N ps sc := by
  unfold scopeB at h
  simp only [Bool.and_eq_true, Bool.not_eq_true', decide_eq_true_eq] at h
  obtain ⟨⟨⟨⟨⟨⟨h1, h2⟩, h3⟩, h4⟩, h5⟩, h6⟩, h7⟩ := h
  refine ⟨?_, h2, h3, h4, h5, fun x hx => loc_of (List.all_eq_true.mp h6 x hx), fun y hy => ?_⟩
  · split at h1
    · assumption
    · cases h1
  · have := List.all_eq_true.mp h7 y hy
    intro z
    rw [z] at this
    cases this
/-- what is known where the defs run -/
structure Env1 (P : Program) (w : World) (K : PySem.W.Frag) (mg : Str → Option Value) (rows : List Row) (T : Nat → Option FD) (cs : List (Str × D)) : Prop where
  f : ∀ r ∈ rows, ∃ fd, FunD K r.d.name r.d.qual r.d.params r.d.body r.d.scope [] [] (He.fAd K r.d.at_) fd
  g : ∀ r ∈ rows, mg r.x = some (.ref (He.ga K r.x))
  bl : ∀ x, x ∈ bnames → mg x = none
  t : ∀ r ∈ rows, T r.id = some r.fd
  b : ∀ r ∈ rows, rowB (rows.map fun r => (r.x, r.id)) cs r = true
  con : ∀ x d, (x, d) ∈ cs → ∃ v u, mg x = some u ∧ RelV v u ∧ ∀ H, Rep ⟨K, P, w⟩ H d v
section
variable {P : Program} {w : World} {K : PySem.W.Frag} {mg : Str → Option Value} {base : Heap} {rows : List Row} {T : Nat → Option FD} {cs : List (Str × D)}
theorem er_start {H : Hp} {ds : List D} {vs : List V} {N : List Str} (r : Reps ⟨K, P, w⟩ H ds vs) : ER ⟨K, P, w⟩ H (ds.map some ++ List.replicate (N.length - ds.length) none) (L2.start N vs) := by
  refine ⟨by unfold L2.start; simp [r.length], fun i d e => ?_⟩
  unfold L2.start
  by_cases hi : i < ds.length
  · rw [List.getElem?_append_left (by simpa using hi)] at e
    rw [List.getElem?_map] at e
    cases h : ds[i]? with
    | none => rw [h] at e; cases e
    | some d' =>
      rw [h] at e
      cases e
      obtain ⟨v, h1, h2⟩ := r.get h
      refine ⟨v, ?_, h2⟩
      rw [List.getElem?_append_left (by rw [List.length_map, ← r.length]; exact hi), List.getElem?_map, h1]
      rfl
  · rw [List.getElem?_append_right (by simpa using hi)] at e
    rw [List.getElem?_replicate] at e
    split at e <;> cases e
theorem ps_nodup {N ps : List Str} {sc : Scope} (S : FnScope N ps sc) : ps.Nodup := by
  rw [← S.pre]
  exact List.Nodup.sublist (List.take_sublist _ _) S.nd
/-- each def keeps its promise, to any depth -/
theorem all_ok (En : Env1 P w K mg rows T cs) : ∀ (n : Nat) (r : Row), r ∈ rows → ∃ fd, FunD K r.d.name r.d.qual r.d.params r.d.body r.d.scope [] [] (He.fAd K r.d.at_) fd ∧ Binds K fd r.ps [] ∧
    FnOk P w K mg base (L2.CX P w) n (He.fAd K r.d.at_) fd r.ps (LSp ⟨K, P, w⟩ r.fd.np (callN T n r.id)) := by
  intro n
  induction n with
  | zero =>
    intro r hr
    obtain ⟨fd, F⟩ := En.f r hr
    have hb := En.b r hr
    unfold rowB at hb
    simp only [Bool.and_eq_true, beq_iff_eq] at hb
    exact ⟨fd, F, F.bindsN fun _ _ _ _ _ _ us hl => bind_plain hb.1.1.1.1.2 (ps_nodup (fnScope_of hb.1.1.1.2)) hl, ⟨fun vs H Q E h => by rw [h.1]; exact hb.1.1.2, fun A outer s H args us vs Q E _ _ _ _ h => (by
      obtain ⟨_, ds, S, Q0, R0, _, _, h, _⟩ := h
      exact h.elim)⟩⟩
  | succ n ih =>
    intro r hr
    obtain ⟨fd, F⟩ := En.f r hr
    have hb := En.b r hr
    have hb' := hb
    unfold rowB at hb
    simp only [Bool.and_eq_true, beq_iff_eq] at hb
    have sc := fnScope_of hb.1.1.1.2
    refine ⟨fd, F, F.bindsN fun _ _ _ _ _ _ us hl => bind_plain hb.1.1.1.1.2 (ps_nodup sc) hl, F.ok sc (fun vs H Q E h => by rw [h.1]; exact hb.1.1.2) fun cdv A outer s H vs Q E hr2 hsp => ?_⟩
    obtain ⟨hlen, ds, S, Q0, R0, rds, hs, ⟨fd', ht, hl, hw⟩, hb1, hx⟩ := hsp
    rw [En.t r hr] at ht
    cases ht
    have k : Cok n T (rowSC (rows.map fun r => (r.x, r.id)) cs r) (cxOf (L2.CX P w) P w K mg base r.N r.d.qual r.d.scope (He.fAd K r.d.at_) cdv A outer s H E) (S, H) (fun c fs _ S' => R0 c fs S') := by
      refine ⟨rfl, rfl, sc.nd, rfl, sc.kind, fun x hx => ⟨loc_of hx, .inl rfl⟩, hr2, En.bl, fun x f hf => ?_, En.con, ?_, ?_⟩
      · obtain ⟨r2, hr2, e⟩ := List.mem_map.mp hf
        cases e
        obtain ⟨fd2, F2, B2, O2⟩ := ih r2 hr2
        have hb2 := En.b r2 hr2
        unfold rowB at hb2
        simp only [Bool.and_eq_true, decide_eq_true_eq] at hb2
        have ha : He.fAd K r2.d.at_ = He.ga K r2.x := by rw [hb2.1.1.1.1.1.1.1.1.1]; rfl
        refine ⟨He.fAd K r2.d.at_, fd2, r2.ps, r2.fd.np, by rw [ha]; exact En.g r2 hr2, F2.kp, B2, fun fd h => ?_, O2⟩
        rw [En.t r2 hr2] at h
        cases h
        rfl
      · refine Takes.imp (takes_of (E := E) rfl rfl rfl rfl) fun cls d σ H' ⟨env, S', cn, fs, _, s', f', x', q⟩ => ?_
        exact hx cn fs S' cls d H' q f' s' x'
      · exact passes_of rfl
    refine ⟨_, simSs n T r.fd.body _ _ hb.2 _ _ _ k, ?_⟩
    refine ⟨{ nx := fun _ S' => Q0 .non S', rt := Q0, bk := fun _ _ => False, ct := fun _ _ => False, ex := fun c fs _ S' => R0 c fs S' }, _, S, ⟨fun env' S' σ' H' q _ f s => hb1 _ _ _ _ q f s .non, fun d S' v H' q f s r => hb1 _ _ _ _ q f s r, fun _ _ _ _ q => q.elim, fun _ _ _ _ q => q.elim, rfl⟩, er_start rds, hs, .refl, ?_⟩
    rw [← hb.1.2]
    exact hw
end
end Mn

/-! Sim11: the head's facts, the law's end. -/
namespace Mn
open PySem PySem.Spec PyProof.Rows L2
/-! ### constants of the module -/
mutual
def repB (K : PySem.W.Frag) : D → Value → Bool
  | .non, .none => true
  | .bl b, .bool c => b == c
  | .int i, .int j _ => i == j
  | .str x, .str y _ => decide (x = y)
  | .tup ds, .ref a => match K.lookup a with
    | some ⟨.type c, _, .seq its _, _⟩ => decide (c = "tuple") && decide (its.size ≤ sizeLine) && repsB K ds its.toList
    | _ => false
  | _, _ => false
def repsB (K : PySem.W.Frag) : List D → List Value → Bool
  | [], [] => true
  | d :: ds, v :: vs => repB K d v && repsB K ds vs
  | _, _ => false
end
mutual
theorem repB_ok {P : Program} {w : World} {K : PySem.W.Frag} : ∀ (d : D) (u : Value), repB K d u = true → ∃ v, RelV v u ∧ ∀ H, Rep ⟨K, P, w⟩ H d v
  | .non, u, h => by cases u <;> first | (simp [repB] at h; done) | exact ⟨.non, rfl, fun _ => .non⟩
  | .bl b, u, h => by
    cases u <;> first | (simp [repB] at h; done) | skip
    rw [repB, beq_iff_eq] at h
    subst h
    exact ⟨.bl b, rfl, fun _ => .bl b⟩
  | .int i, u, h => by
    cases u <;> first | (simp [repB] at h; done) | skip
    rw [repB, beq_iff_eq] at h
    subst h
    exact ⟨.int i, ⟨_, rfl⟩, fun _ => .int i⟩
  | .str x, u, h => by
    cases u <;> first | (simp [repB] at h; done) | skip
    rw [repB, decide_eq_true_eq] at h
    subst h
    exact ⟨.str x, ⟨_, rfl⟩, fun _ => .str x⟩
  | .tup ds, u, h => by
    have ih := repsB_ok (P := P) (w := w) (K := K) ds
    cases u <;> first | (simp [repB] at h; done) | skip
    rename_i a
    rw [repB] at h
    split at h
    · rename_i c dd its m sl e
      simp only [Bool.and_eq_true, decide_eq_true_eq] at h
      obtain ⟨⟨h1, h2⟩, h3⟩ := h
      subst h1
      obtain ⟨vs, r1, r2⟩ := ih its.toList h3
      exact ⟨.ref a, rfl, fun H => .tup (.inr ⟨_, its, m, e, rfl, rfl, h2, r1⟩) (r2 H)⟩
    · cases h
  | .rol _, u, h => by cases u <;> simp [repB] at h
  | .kdc _ _, u, h => by cases u <;> simp [repB] at h
  | .obj _, u, h => by cases u <;> simp [repB] at h
theorem repsB_ok {P : Program} {w : World} {K : PySem.W.Frag} : ∀ (ds : List D) (us : List Value), repsB K ds us = true → ∃ vs, Vals vs us ∧ ∀ H, Reps ⟨K, P, w⟩ H ds vs
  | [], us, h => by
    cases us with
    | nil => exact ⟨[], .nil, fun _ => .nil⟩
    | cons _ _ => simp [repsB] at h
  | d :: ds, us, h => by
    cases us with
    | nil => simp [repsB] at h
    | cons u us =>
      rw [repsB, Bool.and_eq_true] at h
      obtain ⟨v, r1, r2⟩ := repB_ok d u h.1
      obtain ⟨vs, q1, q2⟩ := repsB_ok ds us h.2
      exact ⟨v :: vs, .cons r1 q1, fun H => .cons (r2 H) (q2 H)⟩
end
/-- the entries of a dict of the module -/
def esB (K : PySem.W.Frag) : List DictEntry → List Str → List D → Bool
  | [], [], [] => true
  | e :: r, x :: ks, d :: ds => (match e.key with
    | .str y _ => decide (y = x)
    | _ => false) && repB K d e.val && esB K r ks ds
  | _, _, _ => false
theorem esB_ok {P : Program} {w : World} {K : PySem.W.Frag} : ∀ {l : List DictEntry} {ks : List Str} {ds : List D}, esB K l ks ds = true → ∃ us, EsR l ks us ∧ ∀ H, Reps ⟨K, P, w⟩ H ds us
  | [], [], [], _ => ⟨[], .nil, fun _ => .nil⟩
  | [], [], _ :: _, h => by simp [esB] at h
  | [], _ :: _, _, h => by simp [esB] at h
  | _ :: _, [], _, h => by simp [esB] at h
  | _ :: _, _ :: _, [], h => by simp [esB] at h
  | e :: r, x :: ks, d :: ds, h => by
    rw [esB, Bool.and_eq_true, Bool.and_eq_true] at h
    obtain ⟨⟨h1, h2⟩, h3⟩ := h
    obtain ⟨v, r1, r2⟩ := repB_ok (P := P) (w := w) d e.val h2
    obtain ⟨us, q1, q2⟩ := esB_ok (P := P) (w := w) h3
    split at h1
    · rename_i y t ek
      have e1 : y = x := of_decide_eq_true h1
      subst e1
      exact ⟨v :: us, .cons ek r1 q1, fun H => .cons (r2 H) (q2 H)⟩
    · cases h1
/-- the dicts among the constants: their names, their keys -/
def kdcs : List (Str × D) → List (Str × List Str)
  | [] => []
  | (x, .kdc ks _) :: r => (x, ks) :: kdcs r
  | _ :: r => kdcs r
theorem kdcs_mem {x : Str} {ks : List Str} {ds : List D} : ∀ {cs : List (Str × D)}, (x, .kdc ks ds) ∈ cs → (x, ks) ∈ kdcs cs
  | [], h => by cases h
  | (y, d) :: r, h => by
    rcases List.mem_cons.mp h with e | h
    · cases e
      exact List.mem_cons_self
    · have := kdcs_mem h
      cases d <;> first | exact this | exact List.mem_cons_of_mem _ this
def tabsM (cs : List (Str × D)) : List He.Tab := (kdcs cs).map fun q => (fun K => He.ga K q.1, q.2)
def conB (K : PySem.W.Frag) (c : Str × D) : Bool := match PySem.W.nsIn K mainGlobals c.1 with
  | some (some u) => (match c.2 with
    | .kdc ks ds => (match u with
      | .ref a => (match K.lookup a with
        | some ⟨_, _, .dict es _, _⟩ => esB K es.toList ks ds
        | _ => false)
      | _ => false)
    | d => repB K d u)
  | _ => false
theorem conB_ok {P : Program} {w : World} {K : PySem.W.Frag} {h : Heap} {mg : Str → Option Value} (X : K.In h) (G : h.Ns mainGlobals mg) {c : Str × D} (kd : ∀ ks ds, c.2 = .kdc ks ds → ∃ es n, KDict K w (He.ga K c.1) es n) (e : conB K c = true) :
    ∃ v u, mg c.1 = some u ∧ RelV v u ∧ ∀ H, Rep ⟨K, P, w⟩ H c.2 v := by
  unfold conB at e
  split at e
  · rename_i u q
    obtain ⟨x, d⟩ := c
    cases d with
    | kdc ks ds =>
      obtain ⟨es, n, D1⟩ := kd ks ds rfl
      cases u with
      | ref a =>
        have ea : He.ga K x = a := by
          unfold He.ga
          have q' : PySem.W.nsIn K mainGlobals x = some (some (.ref a)) := q
          rw [q']
        have ea' : He.ga K (x, D.kdc ks ds).1 = a := ea
        rw [ea'] at D1
        have e' : (match K.lookup a with
          | some ⟨_, _, .dict es _, _⟩ => esB K es.toList ks ds
          | _ => false) = true := e
        rw [D1.at_] at e'
        obtain ⟨us, q1, q2⟩ := esB_ok (P := P) (w := w) e'
        exact ⟨.ref a, .ref a, PySem.W.mg_of X G q, rfl, fun H => .kdc D1 q1 (q2 H)⟩
      | _ => cases e
    | non => obtain ⟨v, r1, r2⟩ := repB_ok (P := P) (w := w) _ u e; exact ⟨v, u, PySem.W.mg_of X G q, r1, r2⟩
    | bl _ => obtain ⟨v, r1, r2⟩ := repB_ok (P := P) (w := w) _ u e; exact ⟨v, u, PySem.W.mg_of X G q, r1, r2⟩
    | int _ => obtain ⟨v, r1, r2⟩ := repB_ok (P := P) (w := w) _ u e; exact ⟨v, u, PySem.W.mg_of X G q, r1, r2⟩
    | str _ => obtain ⟨v, r1, r2⟩ := repB_ok (P := P) (w := w) _ u e; exact ⟨v, u, PySem.W.mg_of X G q, r1, r2⟩
    | tup _ => obtain ⟨v, r1, r2⟩ := repB_ok (P := P) (w := w) _ u e; exact ⟨v, u, PySem.W.mg_of X G q, r1, r2⟩
    | rol _ => obtain ⟨v, r1, r2⟩ := repB_ok (P := P) (w := w) _ u e; exact ⟨v, u, PySem.W.mg_of X G q, r1, r2⟩
    | obj _ => obtain ⟨v, r1, r2⟩ := repB_ok (P := P) (w := w) _ u e; exact ⟨v, u, PySem.W.mg_of X G q, r1, r2⟩
  · cases e
/-! ### the Hook -/
abbrev AlM : Type := He.AlT × Bool
def obsM (fa : List He.Fa) (fn : List He.DefD) (cs : List (Str × D)) (K : PySem.W.Frag) : AlM := (He.obsT fa fn (tabsM cs) K, cs.all (conB K))
def valM (fn : List He.DefD) (cs : List (Str × D)) (w : World) : AlM := (He.valT fn (tabsM cs) w, true)
def obsMG (n : Nat) (fa : List He.Fa) (fn : List He.DefD) (cs : List (Str × D)) (g : Addr → Option Obj) : AlM := obsM fa fn cs (He.frG g (He.asD g n))
def SaysM (fa : List He.Fa) (fn : List He.DefD) (cs : List (Str × D)) (w : World) (K : PySem.W.Frag) : Prop := obsM fa fn cs K = valM fn cs w
def hookM (n : Nat) (fa : List He.Fa) (fn : List He.DefD) (cs : List (Str × D)) : PySem.W.Hook where
  α := AlM
  obs := fun s => obsMG n fa fn cs s.heap.get?
  val := fun w => valM fn cs w
  says := fun w h => ∃ K : PySem.W.Frag, K.In h ∧ SaysM fa fn cs w K
  of := fun _ _ e => ⟨_, He.frG_in, e⟩
  keeps := fun _ _ _ ⟨K, hK, c⟩ k => ⟨K, PySem.W.Frag.In.keeps hK k, c⟩
theorem obsMG_eq {n : Nat} {fa : List He.Fa} {fn : List He.DefD} {cs : List (Str × D)} {g : Addr → Option Obj} {s : Shared} (h : ∀ a, g a = s.heap.get? a) : obsMG n fa fn cs g = (hookM n fa fn cs).obs s := by
  have e : g = s.heap.get? := funext h
  subst e
  rfl
/-- what the head looks at, for some rows -/
def rowFa (rows : List Row) : List He.Fa := rows.map (fun r => He.Fa.glo r.x) ++ bnames.map He.Fa.free
theorem env1_of {P : Program} {w : World} {K : PySem.W.Frag} {h : Heap} {mg : Str → Option Value} {rows : List Row} {T : Nat → Option FD} {cs : List (Str × D)} (X : K.In h) (G : h.Ns mainGlobals mg) (c : SaysM (rowFa rows) (rows.map (·.d)) cs w K)
    (t : ∀ r ∈ rows, T r.id = some r.fd) (b : ∀ r ∈ rows, rowB (rows.map fun r => (r.x, r.id)) cs r = true) : Env1 P w K mg rows T cs := by
  have ct : He.SaysT (rowFa rows) (rows.map (·.d)) (tabsM cs) w K := congrArg (fun z : AlM => z.1) c
  have cd : He.SaysD (rowFa rows) (rows.map (·.d)) K := ct.d
  have cc : cs.all (conB K) = true := congrArg (fun z : AlM => z.2) c
  have fact : ∀ f ∈ rowFa rows, f.ok K = true := fun f hf => by
    obtain ⟨i, hi, e⟩ := List.mem_iff_getElem.mp hf
    exact cd.fact i (f := f) (by rw [List.getElem?_eq_getElem hi, e])
  refine ⟨fun r hr => ?_, fun r hr => ?_, fun x hx => ?_, t, b, fun x d hd => ?_⟩
  · have hm : r.d ∈ rows.map (·.d) := List.mem_map_of_mem hr
    obtain ⟨i, hi, e⟩ := List.mem_iff_getElem.mp hm
    obtain ⟨fd, F⟩ := cd.def_ i (d := r.d) (by rw [List.getElem?_eq_getElem hi, e])
    have hb := b r hr
    unfold rowB at hb
    simp only [Bool.and_eq_true, List.isEmpty_iff] at hb
    have e1 : r.d.dvs K = [] := by unfold He.DefD.dvs; rw [hb.1.1.1.1.1.1.2]; rfl
    have e2 : r.d.kws K = [] := by unfold He.DefD.kws; rw [hb.1.1.1.1.1.2]; rfl
    rw [e1, e2] at F
    exact ⟨fd, F⟩
  · exact He.glo_ok X G (fact _ (List.mem_append_left _ (List.mem_map_of_mem hr)))
  · exact He.free_ok X G (fact _ (List.mem_append_right _ (List.mem_map_of_mem hx)))
  · refine conB_ok X G (c := (x, d)) (fun ks ds e => ?_) (List.all_eq_true.mp cc _ hd)
    have e : d = .kdc ks ds := e
    subst e
    obtain ⟨i, hi, ei⟩ := List.mem_iff_getElem.mp (kdcs_mem hd)
    exact ct.tab i (t := (fun K => He.ga K x, ks)) (by unfold tabsM; rw [List.getElem?_map, List.getElem?_eq_getElem hi, ei]; rfl)
theorem cx_ends {P : Program} {w : World} {outer : List PySem.Env} {H : Hp} {s s' : Shared} {e : Value} (h : L2.CX P w outer H s (fun _ _ _ => False) e s') : False := by
  obtain ⟨_, _, _, _, _, _, _, _, _, _, _, _, z⟩ := h
  exact z
theorem funD_one {K : PySem.W.Frag} {x qual : Str} {params : Arguments} {body : List Stmt} {scope : Scope} {dvs : List V} {kws : List (Str × V)} {f : Addr} {fd fd2 : FuncData} (F : FunD K x qual params body scope dvs kws f fd) (G : FunD K x qual params body scope dvs kws f fd2) : fd = fd2 := by
  obtain ⟨oc, od, dV, kV, doc, pm, an, cdv, ct, osl, e, lk, _⟩ := F.ex
  obtain ⟨oc', od', dV', kV', doc', pm', an', cdv', ct', osl', e', lk', _⟩ := G.ex
  have := Option.some.inj (lk.symm.trans lk')
  injection this with _ _ h _
  injection h
/-- THE LAW: what Mn's law answers is what the law answers -/
theorem law_end {l : PySem.W.OpenLaw} {m k : Nat} {q : Program} {loose : List Str} {XP : (Str → Option Value) → Heap → Prop} {d : DefRec} {x : Str} {rows : List Row} {T : Nat → Option FD} {cs : List (Str × D)} {r0 : Row}
    (hn : l.most = some 63) (hdf : d.params.defaults = []) (hr : Room k callerA) (hr0 : r0 ∈ rows) (hx : r0.x = d.name) (hps : r0.ps = [x])
    (t : ∀ r ∈ rows, T r.id = some r.fd) (b : ∀ r ∈ rows, rowB (rows.map fun r => (r.x, r.id)) cs r = true)
    (main : ∀ ns : List Int, ns.length ≤ 63 → (∀ i ∈ ns, Builtin.Int.intBits i ≤ 1048576) → callN T k r0.id [.rol (ns.map D.int)] (fun _ => none) (fun v _ => v = .bl true) (fun _ _ _ => False)) :
    PySem.W.WalkO q loose XP (hookM m (rowFa rows) (rows.map (·.d)) cs).says l.row.toRowW d [] (fun f vs => PySem.call f vs) := by
  refine Att.attach_callB hn hdf fun w s₀ s₁ mg mb fa o pm cd doc a vs ns G Y ho hd hcd hmg hobj hints hlen hbits hg => ?_
  obtain ⟨K, KX, c⟩ := Y
  have En : Env1 l.prog w K mg rows T cs := env1_of KX G.T.g c t b
  have hb0 := b r0 hr0
  unfold rowB at hb0
  simp only [Bool.and_eq_true, decide_eq_true_eq, beq_iff_eq] at hb0
  have efa : fa = He.fAd K r0.d.at_ := by
    have e1 := En.g r0 hr0
    have e2 : He.fAd K r0.d.at_ = He.ga K r0.x := by rw [hb0.1.1.1.1.1.1.1.1.1]; rfl
    rw [e2, hx]
    rw [hx, hmg] at e1
    exact Value.ref.inj (Option.some.inj e1)
  subst efa
  obtain ⟨fd, F, B, _⟩ := all_ok (base := s₁.heap) En k r0 hr0
  have sc := fnScope_of hb0.1.1.1.2
  refine law_call (CX := L2.CX l.prog w) (sp := LSp ⟨K, l.prog, w⟩ r0.fd.np (callN T k r0.id)) (x := x) (fd := fd) KX G.T.g G.T.b G.T.builtins G.T.nolimit hg hobj hints (Nat.le_trans hlen (by rw [sizeLine_eq]; decide)) hr (fun base hK hG => ?_) (fun s u => ?_) (fun H hO hS => ?_) fun H e s' => cx_ends
  · obtain ⟨fd2, F2, _, O2⟩ := all_ok (base := base) En k r0 hr0
    rw [funD_one F F2, ← hps]
    exact O2
  · have q := F.bindsA (ps := r0.ps) (fun _ _ _ _ _ _ us hl => bind_plain hb0.1.1.1.1.2 (ps_nodup sc) hl) s [u] (by rw [hps]; rfl)
    rw [hps] at q
    exact q
  · have hq : SqR ⟨K, l.prog, w⟩ H a (ns.map V.int) := by
      rcases hS with (hS | ⟨ob, hS⟩) | hS
      · rcases hO a with z | ⟨ob, xs, z⟩
        · rw [z] at hS; cases hS
        · rw [z] at hS; cases hS
      · exact .inl ⟨ob, hS⟩
      · exact .inr hS
    have rs : ∀ l_1 : List Int, Reps ⟨K, l.prog, w⟩ H (l_1.map D.int) (l_1.map V.int) := by
      intro l
      induction l with
      | nil => exact .nil
      | cons i l ih => exact .cons (.int i) ih
    have h0 : SR ⟨K, l.prog, w⟩ (fun _ => none) H := fun a o e => by cases e
    refine ⟨by rw [hb0.1.1.2, hps]; rfl, [.rol (ns.map D.int)], fun _ => none, fun v _ => v = .bl true, fun _ _ _ => False, .cons (.rol hq (rs ns)) .nil, h0, main ns hlen hbits, fun v S' u H' e _ _ r => ?_, fun _ _ _ _ _ _ q _ _ _ => q.elim⟩
    subst e
    cases r
    rfl
end Mn

/-! Wp: rules for weakest preconditions: rewriting. -/
namespace Mn
open PySem

/-- a def run -/
def run (Γ : Cl) (fd : FD) (ds : List D) (S : Store) (Q : KD) (R : XP) : Prop := ds.length = fd.np ∧
  wSs Γ fd.body { nx := fun _ S' => Q .non S', rt := Q, bk := fun _ _ => False, ct := fun _ _ => False, ex := fun c fs _ S' => R c fs S' } (ds.map some ++ List.replicate (fd.ns - ds.length) none) S
theorem callN_eq {T : Nat → Option FD} {n f : Nat} {fd : FD} (h : T f = some fd) : callN T (n + 1) f = run (callN T n) fd := by
  funext ds S Q R
  apply propext
  constructor
  · rintro ⟨fd', h1, h2, h3⟩
    rw [h] at h1
    cases h1
    exact ⟨h2, h3⟩
  · rintro ⟨h2, h3⟩
    exact ⟨fd, h, h2, h3⟩

theorem wSs_nil {Γ : Cl} {K : Ends} {env : Env} {S : Store} : wSs Γ .nil K env S = K.nx env S := by rw [wSs]
theorem wSs_cons {Γ : Cl} {s : St} {r : Ss} {K : Ends} {env : Env} {S : Store} : wSs Γ (.cons s r) K env S = wS Γ s { K with nx := fun env' S' => wSs Γ r K env' S' } env S := by rw [wSs]
/-- a statement behind which J holds, whatever comes -/
theorem wS_join {Γ : Cl} {s : St} {r : Ss} {K : Ends} {env : Env} {S : Store} (J : Env → Store → Prop) (h1 : ∀ N : Env → Store → Prop, (∀ e S', J e S' → N e S') → wS Γ s { K with nx := N } env S)
    (h2 : ∀ e S', J e S' → wSs Γ r K e S') : wSs Γ (.cons s r) K env S := by
  rw [wSs_cons]
  exact h1 _ h2
theorem wG_nm {i : Nat} {d : D} {env : Env} {Q : Env → Prop} : wG (.nm i) d env Q = Q (env.set i (some d)) := by rw [wG]
theorem wG_tp {gs : Gs} {xs : List D} {env : Env} {Q : Env → Prop} : wG (.tp gs) (.tup xs) env Q = wGs gs xs env Q := by rw [wG]
theorem wGs_nil {env : Env} {Q : Env → Prop} : wGs .nil [] env Q = Q env := by rw [wGs]
theorem wGs_cons {g : G} {gs : Gs} {x : D} {xs : List D} {env : Env} {Q : Env → Prop} : wGs (.cons g gs) (x :: xs) env Q = wG g x env fun env' => wGs gs xs env' Q := by rw [wGs]
/-- a whole number's -/
def rngW (d : D) (f : Int → Prop) : Prop := match d with
  | .int n => f n
  | _ => False
theorem rngW_int {n : Int} {f : Int → Prop} : rngW (.int n) f = f n := rfl
section
variable {Γ : Cl} {ex : EX} {a b : E} {env : Env} {S : Store} {Q : List D → (Store → Prop) → Store → Prop}
theorem wI_e : wI Γ ex (.e a) env S Q = wE Γ ex a env S fun d S1 => ∃ r, iters d S1 = some r ∧ Q r.1 r.2 S1 := by rw [wI]
theorem wI_rng : wI Γ ex (.rng a) env S Q = wE Γ ex a env S fun d S1 => rngW d fun n => (-(2 ^ 62) ≤ n ∧ n < 2 ^ 62) ∧ Q (rngD 0 n.toNat) (fun _ => True) S1 := by
  rw [wI]
  congr
theorem wI_rng2 : wI Γ ex (.rng2 a b) env S Q = wE Γ ex a env S fun d S1 => wE Γ ex b env S1 fun e S2 => rngW d fun m => rngW e fun n => (-(2 ^ 62) ≤ m ∧ m < 2 ^ 62 ∧ -(2 ^ 62) ≤ n ∧ n < 2 ^ 62) ∧ Q (rngD m (n - m).toNat) (fun _ => True) S2 := by
  rw [wI]
  congr
  funext d S1
  congr
  funext e S2
  cases d <;> first | rfl | (cases e <;> rfl)
theorem wI_enm : wI Γ ex (.enm a) env S Q = wE Γ ex a env S fun d S1 => ∃ r, itL d S1 = some r ∧ Q (enumD 0 r.1) r.2 S1 := by rw [wI]
theorem wI_zip : wI Γ ex (.zip a b) env S Q = wE Γ ex a env S fun x S1 => wE Γ ex b env S1 fun y S2 => ∃ r, itZ x y S2 = some r ∧ Q r.1 r.2 S2 := by rw [wI]
end
/-! ### what stands at an address -/
def oL (o : Option MO) (f : List D → Prop) : Prop := match o with
  | some (.lst xs) => f xs
  | _ => False
def oLD (o : Option MO) (f : List D → Prop) (g : List (D × D) → Obj → Prop) : Prop := match o with
  | some (.lst xs) => f xs
  | some (.dic kvs st) => g kvs st
  | _ => False
def oM (o : Option MO) (f : MO → Prop) : Prop := match o with
  | some o => f o
  | none => False
theorem oM_some {o : MO} {f : MO → Prop} : oM (some o) f = f o := rfl
/-- what a thing holds at k -/
def look : MO → D → Option D
  | .lst xs, .int i => L2.atI xs i
  | .dic kvs _, k => if okK k kvs = true then dget kvs k else none
  | _, _ => none
theorem look_lst {xs : List D} {i : Int} : look (.lst xs) (.int i) = L2.atI xs i := rfl
theorem look_dic {kvs : List (D × D)} {st : Obj} {k : D} : look (.dic kvs st) k = if okK k kvs = true then dget kvs k else none := rfl
def lenO : MO → Option Nat
  | .lst xs => some xs.length
  | .dic kvs _ => if kvs.all (·.1.sca) = true then some kvs.length else none
  | _ => none
theorem lenO_lst {xs : List D} : lenO (.lst xs) = some xs.length := rfl
theorem lenO_dic {kvs : List (D × D)} {st : Obj} : lenO (.dic kvs st) = if kvs.all (·.1.sca) = true then some kvs.length else none := rfl
/-- a thing written at k -/
def setIn (o : MO) (k v : D) (q : MO → Prop) : Prop := match o, k with
  | .lst xs, .int i => 0 ≤ i ∧ i < xs.length ∧ q (.lst (xs.set i.toNat v))
  | .dic kvs _, k => okK k kvs = true ∧ kvs.length < sizeLine ∧ ∀ st, q (.dic (dset kvs k v) st)
  | _, _ => False
theorem setIn_lst {xs : List D} {i : Int} {v : D} {q : MO → Prop} : setIn (.lst xs) (.int i) v q = (0 ≤ i ∧ i < xs.length ∧ q (.lst (xs.set i.toNat v))) := rfl
theorem setIn_dic {kvs : List (D × D)} {st : Obj} {k v : D} {q : MO → Prop} : setIn (.dic kvs st) k v q = (okK k kvs = true ∧ kvs.length < sizeLine ∧ ∀ st, q (.dic (dset kvs k v) st)) := rfl
def oV (o : Option D) (f : D → Prop) : Prop := match o with
  | some v => f v
  | none => False
theorem oL_lst {xs : List D} {f : List D → Prop} : oL (some (.lst xs)) f = f xs := rfl
theorem oLD_lst {xs : List D} {f : List D → Prop} {g : List (D × D) → Obj → Prop} : oLD (some (.lst xs)) f g = f xs := rfl
theorem oLD_dic {kvs : List (D × D)} {st : Obj} {f : List D → Prop} {g : List (D × D) → Obj → Prop} : oLD (some (.dic kvs st)) f g = g kvs st := rfl
theorem oV_some {v : D} {f : D → Prop} : oV (some v) f = f v := rfl

section
variable {i j : Int} {x y : Str} {xs ys : List D} {a b : Addr} {d e : D} {S : Store} {Q : KD} {neg : Bool}
theorem s1_neg : s1 .neg (.int i) S Q = Q (.int (-i)) S := rfl
theorem s1_isN : s1 .isN d S Q = Q (.bl (decide (d = .non))) S := by cases d <;> rfl
theorem s1_notN : s1 .notN d S Q = Q (.bl (!decide (d = .non))) S := by cases d <;> rfl
theorem s2_add : s2 .add d e S Q = sAdd d e S Q := rfl
theorem s2_idx : s2 .idx d e S Q = sIdx d e S Q := rfl
theorem s2_eq : s2 .eq d e S Q = sEq false d e S Q := rfl
theorem s2_ne : s2 .ne d e S Q = sEq true d e S Q := rfl
theorem s2_lt : s2 .lt d e S Q = sOrd .lt d e S Q := rfl
theorem s2_le : s2 .le d e S Q = sOrd .le d e S Q := rfl
theorem s2_gt : s2 .gt d e S Q = sOrd .gt d e S Q := rfl
theorem s2_ge : s2 .ge d e S Q = sOrd .ge d e S Q := rfl
theorem s2_in : s2 .isin d e S Q = sIn false d e S Q := rfl
theorem s2_notin : s2 .notin d e S Q = sIn true d e S Q := rfl
theorem s2_sub : s2 .sub (.int i) (.int j) S Q = Q (.int (i - j)) S := rfl
theorem s2_mul : s2 .mul (.int i) (.int j) S Q = (MulOk i j ∧ Q (.int (i * j)) S) := rfl
theorem s2_mulS : s2 .mul (.str x) (.int j) S Q = ((-(2 ^ 62) ≤ j ∧ j < 2 ^ 62 ∧ x.length * j.toNat ≤ sizeLine) ∧ Q (.str (repS x j.toNat)) S) := rfl
theorem s2_mulT : s2 .mul (.tup xs) (.int j) S Q = ((xs ≠ [] ∧ 2 ≤ j ∧ j ≤ 1000 ∧ xs.length ≤ 1000) ∧ Q (.tup (List.replicate j.toNat xs).flatten) S) := rfl
theorem s2_mulO : s2 .mul (.obj a) (.int j) S Q = oL (S a) fun xs => (-(2 ^ 62) ≤ j ∧ j < 2 ^ 62 ∧ xs.length * j.toNat ≤ sizeLine) ∧ newL (List.replicate j.toNat xs).flatten S Q := by
  unfold s2 sMul
  simp only
  cases S a with
  | none => rfl
  | some o => cases o <;> rfl
theorem rev_t : sRev (.tup xs) S Q = Q (.tup xs.reverse) S := rfl
theorem rev_r : sRev (.rol xs) S Q = newL xs.reverse S Q := rfl
theorem rev_o : sRev (.obj a) S Q = oL (S a) fun xs => newL xs.reverse S Q := by
  unfold sRev
  simp only
  cases S a with
  | none => rfl
  | some o => cases o <;> rfl
theorem bi_int_i : sBi .int [.int i] S Q = Q (.int i) S := rfl
theorem bi_int_b {b : Bool} : sBi .int [.bl b] S Q = Q (.int (if b then 1 else 0)) S := rfl
theorem s2_fdiv : s2 .fdiv (.int i) (.int j) S Q = (DivOk j ∧ Q (.int (i / j)) S) := rfl
theorem s2_mod : s2 .mod (.int i) (.int j) S Q = (0 < j ∧ Q (.int (i % j)) S) := rfl
theorem s2_pow : s2 .pow (.int i) (.int j) S Q = (PowOk i j ∧ Q (.int (i ^ j.toNat)) S) := rfl
theorem sAdd_ii : sAdd (.int i) (.int j) S Q = Q (.int (i + j)) S := rfl
theorem sAdd_ss : sAdd (.str x) (.str y) S Q = (x.length + y.length ≤ sizeLine ∧ Q (.str (x ++ y)) S) := rfl
theorem sAdd_tt : sAdd (.tup xs) (.tup ys) S Q = ((xs ++ ys).length ≤ sizeLine ∧ Q (.tup (xs ++ ys)) S) := rfl
theorem sAdd_oo : sAdd (.obj a) (.obj b) S Q = oL (S a) fun xs => oL (S b) fun ys => (xs ++ ys).length ≤ sizeLine ∧ newL (xs ++ ys) S Q := by
  unfold sAdd
  simp only
  cases h1 : S a with
  | none => rfl
  | some o =>
    cases o with
    | lst xs =>
      cases h2 : S b with
      | none => rfl
      | some o => cases o <;> rfl
    | _ => rfl
theorem sAug_ii : sAug (.int i) (.int j) S Q = Q (.int (i + j)) S := rfl
theorem sOrd_lt : sOrd .lt (.int i) (.int j) S Q = Q (.bl (decide (i < j))) S := rfl
theorem sOrd_le : sOrd .le (.int i) (.int j) S Q = Q (.bl (decide (i ≤ j))) S := rfl
theorem sOrd_gt : sOrd .gt (.int i) (.int j) S Q = Q (.bl (decide (j < i))) S := rfl
theorem sOrd_ge : sOrd .ge (.int i) (.int j) S Q = Q (.bl (decide (j ≤ i))) S := rfl
theorem sIdx_t : sIdx (.tup xs) (.int i) S Q = oV (L2.atI xs i) fun v => Q v S := by
  unfold sIdx
  simp only
  cases L2.atI xs i <;> rfl
theorem sIdx_r : sIdx (.rol xs) (.int i) S Q = oV (L2.atI xs i) fun v => Q v S := by
  unfold sIdx
  simp only
  cases L2.atI xs i <;> rfl
def oC (o : Option Nat) (f : Nat → Prop) : Prop := match o with
  | some v => f v
  | none => False
theorem oC_some {v : Nat} {f : Nat → Prop} : oC (some v) f = f v := rfl
theorem sIdx_s : sIdx (.str x) (.int i) S Q = (x.length ≤ sizeLine ∧ oC (L2.atI x.cps.toList i) fun c => Q (.str ⟨#[c]⟩) S) := by
  unfold sIdx
  simp only
  cases L2.atI x.cps.toList i <;> rfl
theorem sIdx_o {k : D} : sIdx (.obj a) k S Q = oM (S a) fun o => oV (look o k) fun v => Q v S := by
  unfold sIdx oM
  simp only
  cases S a with
  | none => rfl
  | some o =>
    cases o with
    | lst xs =>
      cases k with
      | int i =>
        show _ = oV (L2.atI xs i) _
        simp only
        cases L2.atI xs i <;> rfl
      | _ => rfl
    | dic kvs st =>
      show _ = oV (if okK k kvs = true then dget kvs k else none) _
      simp only
      by_cases h : okK k kvs = true
      · rw [if_pos h]
        simp only [h, true_and]
        cases dget kvs k <;> rfl
      · rw [if_neg h]
        exact propext ⟨fun w => (h w.1).elim, fun w => w.elim⟩
    | _ => rfl
/-! truth -/
theorem truth_bl {c : Bool} : truth S (.bl c) = some c := rfl
theorem truth_int : truth S (.int i) = some (i != 0) := rfl
theorem truth_non : truth S .non = some false := rfl
theorem truth_tup : truth S (.tup xs) = some (!xs.isEmpty) := rfl
/-! len, abs .. -/
theorem bi_len_s : sBi .len [.str x] S Q = (x.length ≤ sizeLine ∧ Q (.int x.length) S) := rfl
theorem bi_len_t : sBi .len [.tup xs] S Q = Q (.int xs.length) S := rfl
theorem bi_len_r : sBi .len [.rol xs] S Q = Q (.int xs.length) S := rfl
theorem bi_len_o : sBi .len [.obj a] S Q = oM (S a) fun o => oC (lenO o) fun n => Q (.int n) S := by
  unfold sBi
  simp only
  cases S a with
  | none => rfl
  | some o =>
    cases o with
    | dic kvs st =>
      show (kvs.all (·.1.sca) = true ∧ _) = oC (if kvs.all (·.1.sca) = true then some kvs.length else none) _
      by_cases h : kvs.all (·.1.sca) = true
      · rw [if_pos h]
        exact propext ⟨fun w => w.2, fun w => ⟨h, w⟩⟩
      · rw [if_neg h]
        exact propext ⟨fun w => (h w.1).elim, fun w => w.elim⟩
    | _ => rfl
theorem bi_abs : sBi .abs [.int i] S Q = Q (.int (if i < 0 then -i else i)) S := rfl
theorem bi_list_t : sBi .list [.tup xs] S Q = newL xs S Q := rfl
theorem bi_list_r : sBi .list [.rol xs] S Q = newL xs S Q := rfl
theorem bi_list_o : sBi .list [.obj a] S Q = oL (S a) fun xs => newL xs S Q := by
  show wList (fun xs => newL xs S Q) (lsOf S (.obj a)) = _
  unfold lsOf
  simp only
  cases S a with
  | none => rfl
  | some o => cases o <;> rfl
theorem bi_tuple_t : sBi .tuple [.tup xs] S Q = Q (.tup xs) S := rfl
theorem bi_tuple_r : sBi .tuple [.rol xs] S Q = Q (.tup xs) S := rfl
theorem bi_tuple_o : sBi .tuple [.obj a] S Q = oL (S a) fun xs => Q (.tup xs) S := by
  show wList (fun xs => Q (.tup xs) S) (lsOf S (.obj a)) = _
  unfold lsOf
  simp only
  cases S a with
  | none => rfl
  | some o => cases o <;> rfl
theorem bi_min2 : sBi .min2 [.int i, .int j] S Q = Q (.int (if j < i then j else i)) S := rfl
theorem bi_max2 : sBi .max2 [.int i, .int j] S Q = Q (.int (if j > i then j else i)) S := rfl
def oDic (S : Store) (Q : KD) (o : Option MO) : Prop := match o with
  | some (.lst xs) => (match prs xs with
    | some kvs => (kvs.all (·.1.sca) = true ∨ kvs.all okT = true) ∧ newD (dmerge [] kvs) S Q
    | none => False)
  | some (.dic kvs _) => kvs.all (·.1.sca) = true ∧ newD kvs S Q
  | _ => False
theorem bi_dict : sBi .dict [.obj a] S Q = oDic S Q (S a) := by
  unfold sBi oDic
  simp only
  all_goals (cases S a with
  | none => rfl
  | some o => cases o <;> rfl)
theorem oDic_dic {kvs : List (D × D)} {st : Obj} : oDic S Q (some (.dic kvs st)) = (kvs.all (·.1.sca) = true ∧ newD kvs S Q) := rfl
theorem mt_append : sMt .append (.obj a) [d] S Q = oL (S a) fun xs => xs.length < sizeLine ∧ Q .non (upd S a (.lst (xs ++ [d]))) := by
  unfold sMt
  simp only
  cases S a with
  | none => rfl
  | some o => cases o <;> rfl
theorem pre_append : mtPre .append (.obj a) S = oL (S a) fun _ => True := by
  unfold mtPre
  simp only
  cases S a with
  | none => rfl
  | some o => cases o <;> rfl
theorem mt_extend : sMt .extend (.obj a) [.obj b] S Q = oL (S a) fun xs => oL (S b) fun ys => (xs ++ ys).length ≤ sizeLine ∧ Q .non (upd S a (.lst (xs ++ ys))) := by
  unfold sMt
  simp only
  cases S a with
  | none => rfl
  | some o =>
    cases o with
    | lst xs => cases S b with
      | none => rfl
      | some o => cases o <;> rfl
    | _ => rfl
theorem pre_extend : mtPre .extend (.obj a) S = oL (S a) fun _ => True := by
  unfold mtPre
  simp only
  cases S a with
  | none => rfl
  | some o => cases o <;> rfl
theorem set_o {k v : D} {Q : Store → Prop} : sSet (.obj a) k v S Q = oM (S a) fun o => setIn o k v fun o' => Q (upd S a o') := by
  unfold sSet oM
  simp only
  cases S a with
  | none => rfl
  | some o =>
    cases o with
    | lst xs => cases k <;> rfl
    | dic kvs st => rfl
    | _ => rfl
theorem slc_s {lo hi : Option Int} : sSlc (.str x) lo hi S Q = (x.length ≤ sizeLine ∧ Q (.str (L2.cutS x lo hi)) S) := rfl
theorem slc_t {lo hi : Option Int} : sSlc (.tup xs) lo hi S Q = Q (.tup (cut xs lo hi)) S := rfl
theorem slc_r {lo hi : Option Int} : sSlc (.rol xs) lo hi S Q = newL (cut xs lo hi) S Q := rfl
theorem slc_o {lo hi : Option Int} : sSlc (.obj a) lo hi S Q = oL (S a) fun xs => newL (cut xs lo hi) S Q := by
  unfold sSlc
  simp only
  cases S a with
  | none => rfl
  | some o => cases o <;> rfl
/-- what is of a class -/
def oTy (o : Option (Option Ty)) (f : Option Ty → Prop) : Prop := match o with
  | some y => f y
  | none => False
theorem tyD_bl {c : Bool} : tyD S (.bl c) = some (some .bool) := rfl
theorem tyD_int : tyD S (.int i) = some (some .int) := rfl
theorem tyD_str : tyD S (.str x) = some (some .str) := rfl
theorem tyD_tup : tyD S (.tup xs) = some (some .tuple) := rfl
theorem tyD_rol : tyD S (.rol xs) = some (some .list) := rfl
theorem tyD_non : tyD S .non = some none := rfl
theorem tyD_obj : tyD S (.obj a) = match S a with
    | some (.lst _) => some (some .list)
    | _ => none := rfl
/-! iters -/
theorem iters_t : iters (.tup xs) S = some (xs, fun _ => True) := rfl
theorem iters_r : iters (.rol xs) S = some (xs, fun _ => True) := rfl
theorem iters_s : iters (.str x) S = some (x.cps.toList.map fun c => .str ⟨#[c]⟩, fun _ => True) := rfl
def itO (a : Addr) : Option MO → Option (List D × (Store → Prop))
  | some (.lst xs) => some (xs, fun S' => S' a = some (.lst xs))
  | some (.dic kvs st) => some (kvs.map (·.1), fun S' => S' a = some (.dic kvs st))
  | _ => none
theorem iters_o : iters (.obj a) S = itO a (S a) := by
  unfold iters
  simp only
  cases S a with
  | none => rfl
  | some o => cases o <;> rfl
theorem itO_lst : itO a (some (.lst xs)) = some (xs, fun S' => S' a = some (.lst xs)) := rfl
theorem itO_dic {kvs : List (D × D)} {st : Obj} : itO a (some (.dic kvs st)) = some (kvs.map (·.1), fun S' => S' a = some (.dic kvs st)) := rfl
theorem itL_t : itL (.tup xs) S = some (xs, fun _ => True) := rfl
end

/-! ### places -/
theorem atI_0 {α : Type} {x : α} {r : List α} : L2.atI (x :: r) 0 = some x := by
  unfold L2.atI L2.ixN
  rw [if_pos (by decide), if_pos (by rw [List.length_cons]; omega)]
  rfl
theorem atI_1 {α : Type} {x y : α} {r : List α} : L2.atI (x :: y :: r) 1 = some y := by
  unfold L2.atI L2.ixN
  rw [if_pos (by decide), if_pos (by rw [List.length_cons, List.length_cons]; omega)]
  rfl
theorem atI_2 {α : Type} {x y z : α} {r : List α} : L2.atI (x :: y :: z :: r) 2 = some z := by
  unfold L2.atI L2.ixN
  rw [if_pos (by decide), if_pos (by rw [List.length_cons, List.length_cons, List.length_cons]; omega)]
  rfl
theorem atI_3 {α : Type} {x y z w : α} {r : List α} : L2.atI (x :: y :: z :: w :: r) 3 = some w := by
  unfold L2.atI L2.ixN
  rw [if_pos (by decide), if_pos (by rw [List.length_cons, List.length_cons, List.length_cons, List.length_cons]; omega)]
  rfl
theorem atI_in {α : Type} {xs : List α} {i : Int} (h0 : 0 ≤ i) (h1 : i < xs.length) : L2.atI xs i = some (xs[i.toNat]'(by omega)) := by
  unfold L2.atI L2.ixN
  rw [if_pos h0, if_pos h1]
  show xs[i.toNat]? = _
  rw [List.getElem?_eq_getElem]
theorem atI_mem {α : Type} {xs : List α} {i : Int} {v : α} (h : L2.atI xs i = some v) : v ∈ xs := by
  unfold L2.atI at h
  cases q : L2.ixN xs.length i with
  | none => rw [q] at h; cases h
  | some j =>
    rw [q] at h
    exact List.mem_of_getElem? (show xs[j]? = some v from h)
theorem atI_ok {α : Type} {xs : List α} {i : Int} (h0 : 0 ≤ i) (h1 : i < xs.length) : ∃ v, L2.atI xs i = some v ∧ v ∈ xs := ⟨_, atI_in h0 h1, List.getElem_mem _⟩
theorem atI_map {α β : Type} {xs : List α} {f : α → β} {i : Int} : L2.atI (xs.map f) i = (L2.atI xs i).map f := by
  unfold L2.atI
  rw [List.length_map]
  cases L2.ixN xs.length i with
  | none => rfl
  | some j => show (xs.map f)[j]? = _; rw [List.getElem?_map]; rfl

/-! ### equality of data -/
mutual
/-- data without truths; texts of right signs -/
def D.dat : D → Bool
  | .non => true
  | .int _ => true
  | .str x => x.cps.all (· < 0x110000)
  | .tup xs => D.dats xs
  | .rol xs => D.dats xs
  | _ => false
def D.dats : List D → Bool
  | [] => true
  | x :: xs => D.dat x && D.dats xs
end
mutual
def D.dpt : D → Nat
  | .tup xs => D.dpts xs + 1
  | .rol xs => D.dpts xs + 1
  | _ => 0
def D.dpts : List D → Nat
  | [] => 0
  | x :: xs => max (D.dpt x) (D.dpts xs)
end
mutual
theorem dat_py : ∀ d : D, d.dat = true → ∃ p, py0 d = some p ∧ p.canLay0 = true ∧ p.depth = d.dpt
  | .non, _ => ⟨_, rfl, rfl, rfl⟩
  | .int i, _ => ⟨_, rfl, rfl, rfl⟩
  | .str x, h => ⟨_, rfl, by rw [PyData.canLay0]; exact h, rfl⟩
  | .tup xs, h => by
    obtain ⟨ps, h1, h2, h3⟩ := dats_py xs (by rw [D.dat] at h; exact h)
    exact ⟨.tuple ps, by rw [py0, h1], by rw [PyData.canLay0]; exact h2, by rw [PyData.depth, D.dpt, h3]⟩
  | .rol xs, h => by
    obtain ⟨ps, h1, h2, h3⟩ := dats_py xs (by rw [D.dat] at h; exact h)
    exact ⟨.list ps, by rw [py0, h1], by rw [PyData.canLay0]; exact h2, by rw [PyData.depth, D.dpt, h3]⟩
  | .bl _, h => by simp [D.dat] at h
  | .kdc _ _, h => by simp [D.dat] at h
  | .obj _, h => by simp [D.dat] at h
theorem dats_py : ∀ ds : List D, D.dats ds = true → ∃ ps, py0s ds = some ps ∧ PyData.canLayAll0 ps = true ∧ PyData.depthAll ps = D.dpts ds
  | [], _ => ⟨[], rfl, rfl, rfl⟩
  | d :: ds, h => by
    rw [D.dats, Bool.and_eq_true] at h
    obtain ⟨p, h1, h2, h3⟩ := dat_py d h.1
    obtain ⟨ps, h4, h5, h6⟩ := dats_py ds h.2
    exact ⟨p :: ps, by rw [py0s, h1, h4], by rw [PyData.canLayAll0, h2, h5]; rfl, by rw [PyData.depthAll, D.dpts, h3, h6]⟩
end
mutual
theorem dat_eqv : ∀ (d e : D) (p q : PyData), d.dat = true → e.dat = true → py0 d = some p → py0 e = some q → PyData.eqv p q = decide (d = e)
  | .non, e, p, q, hd, he, h1, h2 => by
    cases h1
    cases e <;> first | (simp [D.dat] at he; done) | (simp [py0] at h2; subst h2; simp [PyData.eqv]; done) | (simp only [py0] at h2; split at h2 <;> cases h2; simp [PyData.eqv])
  | .int i, e, p, q, hd, he, h1, h2 => by
    cases h1
    cases e <;> first | (simp [D.dat] at he; done) | (simp [py0] at h2; subst h2; simp [PyData.eqv]; done) | (simp only [py0] at h2; split at h2 <;> cases h2; simp [PyData.eqv]) | (simp [py0] at h2; subst h2; rw [PyData.eqv]; exact Bool.eq_iff_iff.mpr (by simp))
  | .str x, e, p, q, hd, he, h1, h2 => by
    cases h1
    cases e <;> first | (simp [D.dat] at he; done) | (simp [py0] at h2; subst h2; simp [PyData.eqv]; done) | (simp only [py0] at h2; split at h2 <;> cases h2; simp [PyData.eqv]) | (simp [py0] at h2; subst h2; rw [PyData.eqv]; exact Bool.eq_iff_iff.mpr (by simp))
  | .tup xs, e, p, q, hd, he, h1, h2 => by
    rw [D.dat] at hd
    rw [py0] at h1
    split at h1 <;> cases h1
    rename_i ps e1
    cases e with
    | tup ys =>
      rw [D.dat] at he
      rw [py0] at h2
      split at h2 <;> cases h2
      rename_i qs e2
      rw [PyData.eqv, dats_eqv xs ys ps qs hd he e1 e2]
      exact Bool.eq_iff_iff.mpr (by simp)
    | rol ys => simp only [py0] at h2; split at h2 <;> cases h2; simp [PyData.eqv]
    | non => simp [py0] at h2; subst h2; simp [PyData.eqv]
    | int j => simp [py0] at h2; subst h2; simp [PyData.eqv]
    | str j => simp [py0] at h2; subst h2; simp [PyData.eqv]
    | _ => simp [D.dat] at he
  | .rol xs, e, p, q, hd, he, h1, h2 => by
    rw [D.dat] at hd
    rw [py0] at h1
    split at h1 <;> cases h1
    rename_i ps e1
    cases e with
    | rol ys =>
      rw [D.dat] at he
      rw [py0] at h2
      split at h2 <;> cases h2
      rename_i qs e2
      rw [PyData.eqv, dats_eqv xs ys ps qs hd he e1 e2]
      exact Bool.eq_iff_iff.mpr (by simp)
    | tup ys => simp only [py0] at h2; split at h2 <;> cases h2; simp [PyData.eqv]
    | non => simp [py0] at h2; subst h2; simp [PyData.eqv]
    | int j => simp [py0] at h2; subst h2; simp [PyData.eqv]
    | str j => simp [py0] at h2; subst h2; simp [PyData.eqv]
    | _ => simp [D.dat] at he
  | .bl _, _, _, _, hd, _, _, _ => by simp [D.dat] at hd
  | .kdc _ _, _, _, _, hd, _, _, _ => by simp [D.dat] at hd
  | .obj _, _, _, _, hd, _, _, _ => by simp [D.dat] at hd
theorem dats_eqv : ∀ (d e : List D) (p q : List PyData), D.dats d = true → D.dats e = true → py0s d = some p → py0s e = some q → PyData.eqvAll p q = decide (d = e)
  | [], e, p, q, hd, he, h1, h2 => by
    cases h1
    cases e with
    | nil => cases h2; simp [PyData.eqvAll]
    | cons y ys =>
      rw [py0s] at h2
      split at h2 <;> cases h2
      simp [PyData.eqvAll]
  | x :: xs, e, p, q, hd, he, h1, h2 => by
    rw [D.dats, Bool.and_eq_true] at hd
    rw [py0s] at h1
    split at h1 <;> cases h1
    rename_i p ps e1 e2
    cases e with
    | nil => cases h2; simp [PyData.eqvAll]
    | cons y ys =>
      rw [D.dats, Bool.and_eq_true] at he
      rw [py0s] at h2
      split at h2 <;> cases h2
      rename_i q qs e3 e4
      rw [PyData.eqvAll, dat_eqv x y p q hd.1 he.1 e1 e3, dats_eqv xs ys ps qs hd.2 he.2 e2 e4]
      exact Bool.eq_iff_iff.mpr (by simp)
end
/-- fit for == -/
def D.eqOk (d : D) : Bool := d.dat && decide (d.dpt ≤ 64)
theorem eqOk_int {i : Int} : (D.int i).eqOk = true := by rfl
theorem eqOk_non : D.non.eqOk = true := by rfl
theorem eqOk_shaped {d : D} (h : d.eqOk = true) : ∃ p, py0 d = some p ∧ SeqAt.shaped p = true := by
  unfold D.eqOk at h
  rw [Bool.and_eq_true, decide_eq_true_eq] at h
  obtain ⟨p, h1, h2, h3⟩ := dat_py d h.1
  exact ⟨p, h1, by unfold SeqAt.shaped; rw [h2, h3, decide_eq_true h.2]; rfl⟩
theorem py1_dat {S : Store} {d : D} (h : d.dat = true) : py1 S d = py0 d := by
  cases d <;> first | rfl | (simp [D.dat] at h)
theorem sEq_d {neg : Bool} {x y : D} {S : Store} {Q : KD} (hx : x.eqOk = true) (hy : y.eqOk = true) : sEq neg x y S Q = Q (.bl (if neg then !decide (x = y) else decide (x = y))) S := by
  have dx : x.dat = true := by unfold D.eqOk at hx; rw [Bool.and_eq_true] at hx; exact hx.1
  have dy : y.dat = true := by unfold D.eqOk at hy; rw [Bool.and_eq_true] at hy; exact hy.1
  obtain ⟨p, h1, h2⟩ := eqOk_shaped hx
  obtain ⟨q, h3, h4⟩ := eqOk_shaped hy
  have e := dat_eqv x y p q dx dy h1 h3
  unfold sEq
  apply propext
  constructor
  · rintro ⟨p', q', e1, e2, _, _, w⟩
    rw [py1_dat dx, h1] at e1
    rw [py1_dat dy, h3] at e2
    cases e1
    cases e2
    rw [e] at w
    exact w
  · intro w
    exact ⟨p, q, by rw [py1_dat dx]; exact h1, by rw [py1_dat dy]; exact h3, h2, h4, by rw [e]; exact w⟩
theorem sEq_b {neg : Bool} {x y : Bool} {S : Store} {Q : KD} : sEq neg (.bl x) (.bl y) S Q = Q (.bl (if neg then !(x == y) else x == y)) S := by
  unfold sEq
  apply propext
  constructor
  · rintro ⟨p', q', e1, e2, _, _, w⟩
    cases e1
    cases e2
    simpa [PyData.eqv] using w
  · intro w
    exact ⟨.bool x, .bool y, rfl, rfl, rfl, rfl, by simpa [PyData.eqv] using w⟩
theorem sEq_lists {neg : Bool} {a b : Addr} {xs ys : List D} {S : Store} {Q : KD} (ha : S a = some (.lst xs)) (hb : S b = some (.lst ys)) (hx : (D.rol xs).eqOk = true) (hy : (D.rol ys).eqOk = true)
    (h : Q (.bl (if neg then !decide (xs = ys) else decide (xs = ys))) S) : sEq neg (.obj a) (.obj b) S Q := by
  have dx : (D.rol xs).dat = true := by unfold D.eqOk at hx; rw [Bool.and_eq_true] at hx; exact hx.1
  have dy : (D.rol ys).dat = true := by unfold D.eqOk at hy; rw [Bool.and_eq_true] at hy; exact hy.1
  obtain ⟨p, h1, h2⟩ := eqOk_shaped hx
  obtain ⟨q, h3, h4⟩ := eqOk_shaped hy
  have e := dat_eqv _ _ p q dx dy h1 h3
  have e2 : decide (D.rol xs = D.rol ys) = decide (xs = ys) := by simp
  refine ⟨p, q, ?_, ?_, h2, h4, by rw [e, e2]; exact h⟩
  · unfold py1
    simp only [ha]
    rw [py0] at h1
    exact h1
  · unfold py1
    simp only [hb]
    rw [py0] at h3
    exact h3
/-! ### loops -/
theorem wFor_ind {tg : D → Env → (Env → Prop) → Prop} {body : Ends → Env → Store → Prop} {guard : Store → Prop} {K : Ends} (J : List D → Env → Store → Prop)
    (h0 : ∀ env S, J [] env S → guard S ∧ K.nx env S)
    (hs : ∀ x r env S, J (x :: r) env S → guard S ∧ ∀ N : Env → Store → Prop, (∀ e S', J r e S' → N e S') → tg x env fun env' => body { K with nx := N, ct := N, bk := K.nx } env' S) :
    ∀ items env S, J items env S → wFor tg body guard K items env S
  | [], env, S, h => by rw [wFor]; exact h0 env S h
  | x :: r, env, S, h => by
    rw [wFor]
    obtain ⟨h1, h2⟩ := hs x r env S h
    exact ⟨h1, h2 _ fun e S' q => wFor_ind J h0 hs r e S' q⟩
theorem wComp_ind {tg : D → Env → (Env → Prop) → Prop} {test : Env → Store → (Bool → Store → Prop) → Prop} {elt : Env → Store → KD → Prop} {guard : Store → Prop} {env : Env} {Q : List D → Store → Prop} (J : List D → List D → Store → Prop)
    (h0 : ∀ acc S, J [] acc S → guard S ∧ Q acc S)
    (hs : ∀ x r acc S, J (x :: r) acc S → guard S ∧ ∀ N : List D → Store → Prop, (∀ acc' S', J r acc' S' → N acc' S') →
      tg x env fun env' => test env' S fun b S1 => if b = true then elt env' S1 fun d S2 => acc.length < sizeLine ∧ N (acc ++ [d]) S2 else N acc S1) :
    ∀ items acc S, J items acc S → wComp tg test elt guard env Q items acc S
  | [], acc, S, h => by rw [wComp]; exact h0 acc S h
  | x :: r, acc, S, h => by
    rw [wComp]
    obtain ⟨h1, h2⟩ := hs x r acc S h
    exact ⟨h1, h2 (fun acc' S' => wComp tg test elt guard env Q r acc' S') fun e S' q => wComp_ind J h0 hs r e S' q⟩
theorem wWhl_ind {test : Env → Store → (Bool → Store → Prop) → Prop} {body : Ends → Env → Store → Prop} {K : Ends} (J : Nat → Env → Store → Prop)
    (hs : ∀ n env S, J n env S → ∀ N : Env → Store → Prop, (∀ e S', (∃ m, m < n ∧ J m e S') → N e S') → test env S fun b S1 => if b = true then body { K with nx := N, ct := N, bk := K.nx } env S1 else K.nx env S1) :
    ∀ n env S, J n env S → ∃ k, wWhl test body K k env S := by
  have key : ∀ k n env S, n < k → J n env S → wWhl test body K k env S := by
    intro k
    induction k with
    | zero => intro n env S h; omega
    | succ k ih =>
      intro n env S hn hj
      rw [wWhl]
      exact hs n env S hj _ fun e S' ⟨m, hm, hj'⟩ => ih m e S' (by omega) hj'
  exact fun n env S h => ⟨n + 1, key (n + 1) n env S (by omega) h⟩
theorem rng_len : ∀ (m : Nat) (lo : Int), (rngD lo m).length = m
  | 0, _ => rfl
  | m + 1, lo => by rw [rngD, List.length_cons, rng_len m]
theorem nodup_map {α : Type} {f : Nat → α} {n : Nat} (h : ∀ i j, i < n → j < n → f i = f j → i = j) : ((List.range n).map f).Nodup := by
  rw [List.Nodup, List.pairwise_map]
  refine List.Pairwise.imp_of_mem (fun {i j} hi hj q e => q (h i j (by simpa using hi) (by simpa using hj) e)) (show (List.range n).Pairwise (· ≠ ·) from List.nodup_range)
end Mn

/-! Drw: the script's draws: the defs that all laws share, what they tell. -/
namespace Mn
open PySem
/-- _law_script -/
def fd__law_drawn : FD := ⟨1, 1,
    (.cons (.ret (.lst (.cons (.cst (.int 0)) (.cons (.bi .list (.cons (.slc (.var 0) .no (.so (.cst (.int 63)))) .nil)) (.cons (.cst (.int 0)) .nil)))))
    .nil)⟩
/-- _law_state, _law_cells, _law_tour, _law_cell, _law_mixed -/
def fd__law_load : FD := ⟨1, 5,
    (.cons (.set (.nm 1) (.o2 .idx (.var 0) (.cst (.int 1))))
    (.cons (.set (.nm 2) (.o2 .idx (.var 0) (.cst (.int 2))))
    (.cons (.sub (.var 0) (.cst (.int 2)) (.o2 .add (.var 2) (.cst (.int 1))))
    (.cons (.set (.nm 3) (.cst (.int 0)))
    (.cons (.ife (.o2 .ne (.var 1) (.lst .nil)) (.cons (.set (.nm 3) (.o2 .idx (.var 1) (.o2 .mod (.var 2) (.bi .len (.cons (.var 1) .nil)))))
    .nil) .nil)
    (.cons (.ife (.and (.o2 .lt (.var 2) (.bi .len (.cons (.var 1) .nil))) (.o2 .ge (.bi .abs (.cons (.var 3) .nil)) (.o2 .pow (.cst (.int 10)) (.cst (.int 18))))) (.cons (.sub (.var 0) (.cst (.int 0)) (.bi .abs (.cons (.var 3) .nil)))
    .nil) (.cons (.set (.nm 4) (.o2 .mod (.o2 .mul (.o2 .add (.o2 .add (.o2 .mod (.var 3) (.cst (.int 2305843009213693951))) (.o2 .mul (.o2 .mul (.cst (.int 7919)) (.var 2)) (.var 2))) (.cst (.int 11))) (.cst (.int 48271))) (.cst (.int 2305843009213693951))))
    (.cons (.set (.nm 4) (.o2 .mod (.o2 .mul (.var 4) (.var 4)) (.cst (.int 2305843009213693921))))
    (.cons (.sub (.var 0) (.cst (.int 0)) (.o2 .add (.o2 .mod (.o2 .add (.o2 .add (.o2 .mul (.var 4) (.cst (.int 69621))) (.var 2)) (.cst (.int 104729))) (.cst (.int 2305843009213693951))) (.o2 .pow (.cst (.int 10)) (.cst (.int 9)))))
    .nil))))
    .nil))))))⟩
/-- _law_state, _law_many, _law_found -/
def fd__law_next : FD := ⟨2, 3,
    (.cons (.ife (.o2 .lt (.o2 .idx (.var 0) (.cst (.int 0))) (.var 1)) (.cons (.exp (.call 3 (.cons (.var 0) .nil)))
    .nil) .nil)
    (.cons (.set (.nm 2) (.o2 .mod (.o2 .idx (.var 0) (.cst (.int 0))) (.var 1)))
    (.cons (.sub (.var 0) (.cst (.int 0)) (.o2 .fdiv (.o2 .idx (.var 0) (.cst (.int 0))) (.var 1)))
    (.cons (.ret (.var 2))
    .nil))))⟩
/-- _law_state, _law_some -/
def fd__law_of : FD := ⟨2, 2,
    (.cons (.ret (.o2 .idx (.var 1) (.call 4 (.cons (.var 0) (.cons (.bi .len (.cons (.var 1) .nil)) .nil)))))
    .nil)⟩

local macro_rules
  | `(tactic| array_get_dec) => `(tactic| ((try simp only [wG_nm, wG_tp, wGs_nil, wGs_cons, wipe, List.set_cons_zero, List.set_cons_succ]); (try rw [wSs_cons]); simp only [wS, wT, wE, wEs, wO, wC, wI_e, wI_rng, wI_rng2, wI_enm, wI_zip, rngW_int, iters_t, iters_r, iters_s, iters_o, itO_lst, itO_dic, itL_t, wG_nm, wG_tp, wGs_nil, wGs_cons, wipe, List.map_cons, List.map_nil, List.length_cons, List.length_nil, List.replicate_succ, List.replicate_zero, List.cons_append, List.nil_append, Nat.zero_add, Nat.reduceAdd, Nat.reduceSub, List.getElem?_cons_zero, List.getElem?_cons_succ, List.set_cons_zero, List.set_cons_succ, Option.some.injEq, exists_eq_left', s1_neg, s1_isN, s1_notN, s2_add, s2_idx, s2_eq, s2_ne, s2_lt, s2_le, s2_gt, s2_ge, s2_in, s2_notin, s2_sub, s2_mul, s2_fdiv, s2_mod, s2_pow, sAdd_ii, sAdd_ss, sAdd_tt, sAdd_oo, sAug_ii, sOrd_lt, sOrd_le, sOrd_gt, sOrd_ge, sIdx_t, sIdx_r, sIdx_s, sIdx_o, look_lst, look_dic, lenO_lst, lenO_dic, setIn_lst, setIn_dic, oM_some, truth_bl, truth_int, truth_non, truth_tup, bi_len_s, bi_len_t, bi_len_r, bi_len_o, bi_abs, bi_list_t, bi_list_r, bi_list_o, bi_tuple_t, bi_tuple_r, bi_tuple_o, bi_min2, bi_max2, bi_dict, mt_append, pre_append, mt_extend, pre_extend, set_o, wSs_nil, slc_s, slc_t, slc_r, slc_o, tyD_bl, tyD_int, tyD_str, tyD_tup, tyD_rol, tyD_non, isTy, sEq_b, eqOk_int, eqOk_non, sEq_d, oL_lst, oLD_lst, oLD_dic, oV_some, oC_some, Option.map_some, Option.getD_some, atI_0, atI_1, atI_2, atI_3, upd_same, D.int.injEq, D.str.injEq, D.bl.injEq, true_and, and_true, decide_eq_true_eq, reduceIte, Bool.false_eq_true, Bool.not_eq_true', Bool.not_true, Bool.not_false, reduceCtorEq, decide_true, decide_false, Bool.or_false, Bool.or_true, Bool.true_or, Bool.false_or, Bool.and_true, Bool.and_false, Bool.true_and, Bool.false_and, eq_self, beq_self_eq_true, decide_eq_false_iff_not, Int.toNat_zero, Int.reduceToNat, Int.reduceLT, Int.reduceLE, Int.cast_ofNat_Int, *]))
/-- all but a stays -/
def Kp (a : Addr) (S S' : Store) : Prop := ∀ q o, q ≠ a → S q = some o → S' q = some o
/-- the draws' state at a, m draws left -/
def Stt (a cl : Addr) (S : Store) (m : Nat) : Prop := ∃ (n : Int) (t : Int) (cells : List Int), S a = some (.lst [.int n, .obj cl, .int t]) ∧ S cl = some (.lst (cells.map D.int)) ∧ cl ≠ a ∧ 0 ≤ n ∧ 0 ≤ t ∧ t + m ≤ 2 ^ 64 ∧ cells.length ≤ 63
abbrev C1 := List D → Store → KD → XP → Prop
def Sp_load (c : C1) : Prop := ∀ a cl S m Q R, Stt a cl S (m + 1) → (∀ S', Stt a cl S' m → Kp a S S' → Q .non S') → c [.obj a] S Q R
def Sp_next (c : C1) : Prop := ∀ a cl S m (k : Int) Q R, Stt a cl S (m + 1) → 0 < k → k < 2 ^ 64 → (∀ r S', 0 ≤ r → r < k → Stt a cl S' m → Kp a S S' → Q (.int r) S') → c [.obj a, .int k] S Q R

theorem Kp.refl {a : Addr} {S : Store} : Kp a S S := fun _ _ _ h => h
theorem Kp.trans {a : Addr} {S S1 S2 : Store} (h : Kp a S S1) (h' : Kp a S1 S2) : Kp a S S2 := fun q o n e => h' q o n (h q o n e)
theorem Kp.upd {a : Addr} {S S1 : Store} {o : MO} (h : Kp a S S1) : Kp a S (upd S1 a o) := fun q o n e => by rw [upd_ne n]; exact h q o n e
theorem Kp.new {a p : Addr} {S S1 : Store} {o : MO} (h : Kp a S S1) (hp : S1 p = none) : Kp a S (Mn.upd S1 p o) := fun q o n e => by
  have := h q o n e
  rw [upd_ne (fun z => by rw [z, hp] at this; cases this)]
  exact this
theorem Stt.new {a cl p : Addr} {S : Store} {o : MO} {m : Nat} (h : Stt a cl S m) (hp : S p = none) : Stt a cl (Mn.upd S p o) m := by
  obtain ⟨n, t, cells, h1, h2, r⟩ := h
  exact ⟨n, t, cells, by rw [upd_ne (fun z => by rw [z, hp] at h1; cases h1)]; exact h1, by rw [upd_ne (fun z => by rw [z, hp] at h2; cases h2)]; exact h2, r⟩
theorem Stt.own {a cl p : Addr} {S : Store} {o : MO} {m : Nat} (h : Stt a cl S m) (h1 : p ≠ a) (h2 : p ≠ cl) : Stt a cl (Mn.upd S p o) m := by
  obtain ⟨n, t, cells, e1, e2, r⟩ := h
  exact ⟨n, t, cells, by rw [upd_ne h1.symm]; exact e1, by rw [upd_ne h2.symm]; exact e2, r⟩
theorem Stt.ne {a cl p : Addr} {S : Store} {m : Nat} (h : Stt a cl S m) (hp : S p = none) : p ≠ a ∧ p ≠ cl := by
  obtain ⟨n, t, cells, e1, e2, r⟩ := h
  exact ⟨fun z => (by rw [z, e1] at hp; cases hp), fun z => (by rw [z, e2] at hp; cases hp)⟩
theorem Kp.own {a p : Addr} {S S1 : Store} {o : MO} (h : Kp a S S1) (hp : S p = none) : Kp a S (Mn.upd S1 p o) := fun q o n e => by
  rw [upd_ne (fun z => by rw [z, hp] at e; cases e)]
  exact h q o n e
/-- a new list -/
theorem newL_ok {a cl : Addr} {S0 S : Store} {m : Nat} {xs : List D} {Q : KD} (h : Stt a cl S m) (k : Kp a S0 S)
    (f : ∀ p S', S p = none → p ≠ a → p ≠ cl → S' p = some (.lst xs) → Stt a cl S' m → Kp a S0 S' → Kp a S S' → Q (.obj p) S') : newL xs S Q := fun p hp =>
  f p _ hp (h.ne hp).1 (h.ne hp).2 upd_same (h.new hp) (k.new hp) (Kp.new .refl hp)
theorem Stt.le {a cl : Addr} {S : Store} {m m' : Nat} (h : Stt a cl S m) (l : m' ≤ m) : Stt a cl S m' := by
  obtain ⟨n, t, cells, h1, h2, h3, h4, h5, h6, h7⟩ := h
  exact ⟨n, t, cells, h1, h2, h3, h4, h5, by omega, h7⟩
theorem Kp.fresh {a cl b : Addr} {S S1 : Store} {m : Nat} (h : Kp a S S1) (s : Stt a cl S1 m) (e : S1 b = none) : S b = none := by
  cases q : S b with
  | none => rfl
  | some o =>
    by_cases hb : b = a
    · obtain ⟨_, _, _, h1, _⟩ := s
      rw [← hb, e] at h1
      cases h1
    · rw [h b o hb q] at e
      cases e
theorem divOk {k : Int} (h : 0 < k) (h2 : k < 2 ^ 64) : DivOk k := ⟨h, Nat.lt_of_lt_of_le (m := 2 ^ 64) (by omega) (Nat.pow_le_pow_right (by decide) (by decide))⟩
theorem next_body {Γ : Cl} (h : Sp_load (Γ 3)) : Sp_next (run Γ fd__law_next) := by
  intro a cl S m k Q R hS hk hk2 hQ
  refine ⟨rfl, ?_⟩
  unfold fd__law_next
  refine wS_join (fun e S1 => e = [some (.obj a), some (.int k), none] ∧ Stt a cl S1 m ∧ Kp a S S1) (fun N hN => ?_) ?_
  · have hS' := hS
    obtain ⟨n, t, cells, h1, h2, h3, h4, h5, h6, h7⟩ := hS'
    array_get_dec
    split
    · array_get_dec
      exact h a cl S m _ _ hS fun S' h' kp => hN _ _ ⟨rfl, h', kp⟩
    · exact hN _ _ ⟨rfl, hS.le (by omega), .refl⟩
  · rintro e S1 ⟨rfl, ⟨n, t, cells, h1, h2, h3, h4, h5, h6, h7⟩, kp⟩
    array_get_dec
    array_get_dec
    array_get_dec
    exact ⟨divOk hk hk2, hQ _ _ (Int.emod_nonneg _ (by omega)) (Int.emod_lt_of_pos _ hk) ⟨n / k, t, cells, upd_same, by rw [upd_ne h3]; exact h2, h3, Int.ediv_nonneg h4 (by omega), h5, h6, h7⟩ kp.upd⟩
def Sp_of (c : C1) : Prop := ∀ a cl S m xs x Q R, Stt a cl S (m + 1) → (∃ vs, (x = .tup vs ∨ (∃ b, x = .obj b ∧ b ≠ a ∧ S b = some (.lst vs))) ∧ vs = xs) → 0 < xs.length → xs.length < 2 ^ 32 → (∀ v S', v ∈ xs → Stt a cl S' m → Kp a S S' → Q v S') → c [.obj a, x] S Q R
theorem of_body {Γ : Cl} (h : Sp_next (Γ 4)) : Sp_of (run Γ fd__law_of) := by
  intro a cl S m xs x Q R hS ⟨vs, hx, e⟩ h0 hl hQ
  subst e
  refine ⟨rfl, ?_⟩
  unfold fd__law_of
  rcases hx with rfl | ⟨b, rfl, hb, hxs⟩
  · array_get_dec
    refine h a cl S m _ _ _ hS (by omega) (by omega) fun r S' h1 h2 h3 h4 => ?_
    obtain ⟨v, e, hv⟩ := atI_ok h1 h2
    array_get_dec
  · array_get_dec
    refine h a cl S m _ _ _ hS (by omega) (by omega) fun r S' h1 h2 h3 h4 => ?_
    obtain ⟨v, e, hv⟩ := atI_ok h1 h2
    have := h4 b _ hb hxs
    array_get_dec
def Sp_drawn (c : C1) : Prop := ∀ (ns : List Int) m Q R, m ≤ 2 ^ 64 → (∀ a cl S', Stt a cl S' m → Q (.obj a) S') → c [.rol (ns.map D.int)] (fun _ => none) Q R
theorem mulOk {i j : Int} (h1 : -2 ^ 200 < i) (h2 : i < 2 ^ 200) (h3 : -2 ^ 200 < j) (h4 : j < 2 ^ 200) : MulOk i j := ⟨200, 200, by omega, by omega, by decide, by decide, by decide⟩
theorem eqOk_ints {cells : List Int} : (D.rol (cells.map D.int)).eqOk = true := by
  have h1 : ∀ l : List Int, D.dats (l.map D.int) = true := by
    intro l
    induction l with
    | nil => rfl
    | cons x l ih => rw [List.map_cons, D.dats, ih]; rfl
  have h2 : ∀ l : List Int, D.dpts (l.map D.int) = 0 := by
    intro l
    induction l with
    | nil => rfl
    | cons x l ih => rw [List.map_cons, D.dpts, ih]; rfl
  unfold D.eqOk
  rw [D.dat, D.dpt, h1, h2]
  rfl
theorem load_body {Γ : Cl} : Sp_load (run Γ fd__law_load) := by
  intro a cl S m Q R ⟨n, t, cells, h1, h2, h3, h4, h5, h6, h7⟩ hQ
  refine ⟨rfl, ?_⟩
  unfold fd__law_load
  array_get_dec
  array_get_dec
  array_get_dec
  array_get_dec
  refine wS_join (fun e S1 => ∃ c : Int, e = [some (.obj a), some (.obj cl), some (.int t), some (.int c), none] ∧ S1 a = some (.lst [.int n, .obj cl, .int (t + 1)]) ∧ S1 cl = some (.lst (cells.map D.int)) ∧ Kp a S S1) (fun N hN => ?_) ?_
  · array_get_dec
    refine ⟨by decide, fun p hp => ?_⟩
    have ha : p ≠ a := fun z => by rw [z, upd_same] at hp; cases hp
    have hcc : p ≠ cl := fun z => by rw [z, upd_ne h3, h2] at hp; cases hp
    have e1 : upd (upd S a (.lst [.int n, .obj cl, .int (t + 1)])) p (.lst []) cl = some (.lst (cells.map D.int)) := by rw [upd_ne hcc.symm, upd_ne h3]; exact h2
    have e2 : upd (upd S a (.lst [.int n, .obj cl, .int (t + 1)])) p (.lst []) a = some (.lst [.int n, .obj cl, .int (t + 1)]) := by rw [upd_ne ha.symm]; exact upd_same
    have kp : Kp a S (upd (upd S a (.lst [.int n, .obj cl, .int (t + 1)])) p (.lst [])) := (Kp.upd .refl).new hp
    refine sEq_lists e1 upd_same eqOk_ints rfl ?_
    array_get_dec
    split
    · rename_i hne
      have hl : 0 < cells.length := by
        cases cells with
        | nil => simp at hne
        | cons _ _ => simp
      refine ⟨by rw [List.length_map]; omega, ?_⟩
      obtain ⟨v, e, hv⟩ := atI_ok (xs := cells.map D.int) (i := t % ((cells.map D.int).length : Nat)) (Int.emod_nonneg _ (by rw [List.length_map]; omega)) (Int.emod_lt_of_pos _ (by rw [List.length_map]; omega))
      obtain ⟨c, _, rfl⟩ := List.mem_map.mp hv
      rw [e]
      exact hN _ _ ⟨c, rfl, e2, e1, kp⟩
    · exact hN _ _ ⟨0, rfl, e2, e1, kp⟩
  · rintro e S1 ⟨c, rfl, g1, g2, kp⟩
    have fin : ∀ r : Int, 0 ≤ r → Q .non (upd S1 a (.lst [.int r, .obj cl, .int (t + 1)])) := fun r hr => hQ _ ⟨r, t + 1, cells, upd_same, by rw [upd_ne h3]; exact g2, h3, hr, by omega, by omega, h7⟩ kp.upd
    have A0 : 0 ≤ (if c < 0 then -c else c) := by split <;> omega
    have T0 : t ≤ 2 ^ 64 := by omega
    have T1 : 0 ≤ 7919 * t * t := Int.mul_nonneg (by omega) h5
    have T2 : 7919 * t * t ≤ (7919 * 2 ^ 64) * 2 ^ 64 := Int.mul_le_mul (by omega) T0 h5 (by omega)
    have C0 := Int.emod_nonneg c (b := 2305843009213693951) (by decide)
    have C1 := Int.emod_lt_of_pos c (b := 2305843009213693951) (by decide)
    generalize hA : (if c < 0 then -c else c) = A at *
    array_get_dec
    split
    · refine ⟨⟨by decide, by decide, by decide⟩, ?_⟩
      split
      · array_get_dec
      · array_get_dec
        refine ⟨mulOk (by omega) (by omega) (by omega) (by omega), mulOk (by omega) (by omega) (by omega) (by omega), mulOk (by omega) (by omega) (by omega) (by omega), ?_⟩
        have X0 := Int.emod_nonneg ((c % 2305843009213693951 + 7919 * t * t + 11) * 48271) (b := 2305843009213693951) (by decide)
        have X1 := Int.emod_lt_of_pos ((c % 2305843009213693951 + 7919 * t * t + 11) * 48271) (b := 2305843009213693951) (by decide)
        generalize (c % 2305843009213693951 + 7919 * t * t + 11) * 48271 % 2305843009213693951 = x at *
        array_get_dec
        refine ⟨mulOk (by omega) (by omega) (by omega) (by omega), ?_⟩
        have Y0 := Int.emod_nonneg (x * x) (b := 2305843009213693921) (by decide)
        have Y1 := Int.emod_lt_of_pos (x * x) (b := 2305843009213693921) (by decide)
        generalize x * x % 2305843009213693921 = y at *
        array_get_dec
        refine ⟨mulOk (by omega) (by omega) (by omega) (by omega), ⟨by decide, by decide, by decide⟩, fin _ ?_⟩
        have Z0 := Int.emod_nonneg (y * 69621 + t + 104729) (b := 2305843009213693951) (by decide)
        have Z1 : (0 : Int) ≤ 10 ^ Int.toNat 9 := by decide
        first | omega | exact Int.add_nonneg Z0 Z1 | trace_state
    · array_get_dec
      refine ⟨mulOk (by omega) (by omega) (by omega) (by omega), mulOk (by omega) (by omega) (by omega) (by omega), mulOk (by omega) (by omega) (by omega) (by omega), ?_⟩
      have X0 := Int.emod_nonneg ((c % 2305843009213693951 + 7919 * t * t + 11) * 48271) (b := 2305843009213693951) (by decide)
      have X1 := Int.emod_lt_of_pos ((c % 2305843009213693951 + 7919 * t * t + 11) * 48271) (b := 2305843009213693951) (by decide)
      generalize (c % 2305843009213693951 + 7919 * t * t + 11) * 48271 % 2305843009213693951 = x at *
      array_get_dec
      refine ⟨mulOk (by omega) (by omega) (by omega) (by omega), ?_⟩
      have Y0 := Int.emod_nonneg (x * x) (b := 2305843009213693921) (by decide)
      have Y1 := Int.emod_lt_of_pos (x * x) (b := 2305843009213693921) (by decide)
      generalize x * x % 2305843009213693921 = y at *
      array_get_dec
      refine ⟨mulOk (by omega) (by omega) (by omega) (by omega), ⟨by decide, by decide, by decide⟩, fin _ ?_⟩
      have Z0 := Int.emod_nonneg (y * 69621 + t + 104729) (b := 2305843009213693951) (by decide)
      have Z1 : (0 : Int) ≤ 10 ^ Int.toNat 9 := by decide
      first | omega | exact Int.add_nonneg Z0 Z1 | trace_state
theorem cut_map {ns : List Int} {k : Nat} : cut (ns.map D.int) none (some (k : Int)) = (ns.take k).map D.int := by
  have hl : HT.sIx (ns.map D.int).length (ns.map D.int).length (some (k : Int)) = min k ns.length := by
    rw [HT.sIx_nat, List.length_map]
  unfold cut
  rw [hl, HT.sIx_none, List.drop_zero, Nat.sub_zero, ← List.map_take]
  congr 1
  rw [List.take_eq_take_iff, Nat.min_assoc, Nat.min_self]
theorem drawn_body {Γ : Cl} : Sp_drawn (run Γ fd__law_drawn) := by
  intro ns m Q R hm hQ
  refine ⟨rfl, ?_⟩
  unfold fd__law_drawn
  array_get_dec
  rw [show (63 : Int) = ((63 : Nat) : Int) from rfl, cut_map]
  intro p hp
  array_get_dec
  intro c hc
  refine ⟨by rw [sizeLine_eq]; decide, fun a ha => hQ a _ _ ⟨0, 0, ns.take 63, upd_same, ?_, ?_, by decide, by decide, by omega, by rw [List.length_take]; omega⟩⟩
  · rw [upd_ne (fun z => by rw [← z, upd_same] at ha; cases ha)]
    exact upd_same
  · exact fun z => by rw [← z, upd_same] at ha; cases ha
/-! ### at a depth -/
section
variable {T : Nat → Option FD}
theorem load_at (h : T 3 = some fd__law_load) (k : Nat) : Sp_load (callN T (k + 1) 3) := by rw [callN_eq h]; exact load_body
theorem next_at (h3 : T 3 = some fd__law_load) (h : T 4 = some fd__law_next) (k : Nat) : Sp_next (callN T (k + 2) 4) := by rw [callN_eq h]; exact next_body (load_at h3 k)
theorem of_at (h3 : T 3 = some fd__law_load) (h4 : T 4 = some fd__law_next) (h : T 5 = some fd__law_of) (k : Nat) : Sp_of (callN T (k + 3) 5) := by rw [callN_eq h]; exact of_body (next_at h3 h4 k)
theorem drawn_at (h : T 2 = some fd__law_drawn) (k : Nat) : Sp_drawn (callN T (k + 1) 2) := by rw [callN_eq h]; exact drawn_body
end
end Mn

/-! LibW: drawn words. -/
namespace Mn
open PySem
/-- _law_state, _law_many, _law_letters, _law_stem, _law_k, _law_at, _law_first, _law_stride: number 55 -/
def fd__law_words_v2 : FD := ⟨2, 8,
    (.cons (.set (.nm 2) (.cst (.str "abcdefghijklmnopqrstuvwxyz")))
    (.cons (.set (.nm 3) (.cst (.str "")))
    (.cons (.for_ (.nm 4) (.rng (.call 5 (.cons (.var 0) (.cons (.lst (.cons (.cst (.int 0)) (.cons (.cst (.int 1)) (.cons (.cst (.int 1)) (.cons (.cst (.int 2)) (.cons (.cst (.int 3)) (.cons (.cst (.int 6)) .nil))))))) .nil)))) (.cons (.set (.nm 3) (.o2 .add (.var 3) (.o2 .idx (.var 2) (.call 4 (.cons (.var 0) (.cons (.cst (.int 26)) .nil))))))
    .nil))
    (.cons (.set (.nm 5) (.call 4 (.cons (.var 0) (.cons (.o2 .add (.bi .len (.cons (.var 3) .nil)) (.cst (.int 1))) .nil))))
    (.cons (.set (.nm 6) (.call 4 (.cons (.var 0) (.cons (.cst (.int 26)) .nil))))
    (.cons (.set (.nm 7) (.call 5 (.cons (.var 0) (.cons (.lst (.cons (.cst (.int 1)) (.cons (.cst (.int 3)) (.cons (.cst (.int 5)) (.cons (.cst (.int 7)) (.cons (.cst (.int 9)) (.cons (.cst (.int 11)) .nil))))))) .nil))))
    (.cons (.ret (.comp (.o2 .add (.o2 .add (.slc (.var 3) .no (.so (.var 5))) (.o2 .idx (.var 2) (.o2 .mod (.o2 .add (.var 6) (.o2 .mul (.var 7) (.var 4))) (.cst (.int 26))))) (.slc (.var 3) (.so (.var 5)) .no)) (.nm 4) [("_law_k", 4)] (.rng (.var 1)) .no))
    .nil)))))))⟩
local macro_rules
  | `(tactic| array_get_dec) => `(tactic| ((try simp only [wG_nm, wG_tp, wGs_nil, wGs_cons, wipe, List.set_cons_zero, List.set_cons_succ]); (try rw [wSs_cons]); simp only [wS, wT, wE, wEs, wO, wC, wI_e, wI_rng, wI_rng2, wI_enm, wI_zip, rngW_int, iters_t, iters_r, iters_s, iters_o, itO_lst, itO_dic, itL_t, wG_nm, wG_tp, wGs_nil, wGs_cons, wipe, List.map_cons, List.map_nil, List.length_cons, List.length_nil, List.replicate_succ, List.replicate_zero, List.cons_append, List.nil_append, Nat.zero_add, Nat.reduceAdd, Nat.reduceSub, List.getElem?_cons_zero, List.getElem?_cons_succ, List.set_cons_zero, List.set_cons_succ, Option.some.injEq, exists_eq_left', s1_neg, s1_isN, s1_notN, s2_add, s2_idx, s2_eq, s2_ne, s2_lt, s2_le, s2_gt, s2_ge, s2_in, s2_notin, s2_sub, s2_mul, s2_fdiv, s2_mod, s2_pow, sAdd_ii, sAdd_ss, sAdd_tt, sAdd_oo, sAug_ii, sOrd_lt, sOrd_le, sOrd_gt, sOrd_ge, sIdx_t, sIdx_r, sIdx_s, sIdx_o, look_lst, look_dic, lenO_lst, lenO_dic, setIn_lst, setIn_dic, oM_some, truth_bl, truth_int, truth_non, truth_tup, bi_len_s, bi_len_t, bi_len_r, bi_len_o, bi_abs, bi_list_t, bi_list_r, bi_list_o, bi_tuple_t, bi_tuple_r, bi_tuple_o, bi_min2, bi_max2, bi_dict, mt_append, pre_append, mt_extend, pre_extend, set_o, wSs_nil, slc_s, slc_t, slc_r, slc_o, tyD_bl, tyD_int, tyD_str, tyD_tup, tyD_rol, tyD_non, isTy, sEq_b, eqOk_int, eqOk_non, sEq_d, oL_lst, oLD_lst, oLD_dic, oV_some, oC_some, Option.map_some, Option.getD_some, atI_0, atI_1, atI_2, atI_3, upd_same, D.int.injEq, D.str.injEq, D.bl.injEq, true_and, and_true, decide_eq_true_eq, reduceIte, Bool.false_eq_true, Bool.not_eq_true', Bool.not_true, Bool.not_false, reduceCtorEq, decide_true, decide_false, Bool.or_false, Bool.or_true, Bool.true_or, Bool.false_or, Bool.and_true, Bool.and_false, Bool.true_and, Bool.false_and, eq_self, beq_self_eq_true, decide_eq_false_iff_not, Int.toNat_zero, Int.reduceToNat, Int.reduceLT, Int.reduceLE, Int.cast_ofNat_Int, *]))


/-! ### texts -/
theorem len_app (x y : Str) : (x ++ y).length = x.length + y.length := by
  show (x.cps ++ y.cps).size = _
  rw [Array.size_append]
  rfl
theorem cps_app (x y : Str) : (x ++ y).cps.toList = x.cps.toList ++ y.cps.toList := by
  show (x.cps ++ y.cps).toList = _
  rw [Array.toList_append]
theorem len_list (x : Str) : x.length = x.cps.toList.length := by
  rw [Array.length_toList]; rfl
theorem str_ext {x y : Str} (h : x.cps.toList = y.cps.toList) : x = y := by
  obtain ⟨⟨l⟩⟩ := x
  obtain ⟨⟨k⟩⟩ := y
  have e : l = k := h
  rw [e]
/-- small letters alone -/
def lowB (w : Str) : Bool := w.cps.toList.all fun c => decide (97 ≤ c) && decide (c ≤ 122)
theorem low_app {x y : Str} (h1 : lowB x = true) (h2 : lowB y = true) : lowB (x ++ y) = true := by
  unfold lowB at *
  rw [cps_app, List.all_append, h1, h2]
  rfl
theorem low_cut {x : Str} {lo hi : Option Int} (h : lowB x = true) : lowB (L2.cutS x lo hi) = true := by
  unfold lowB at *
  rw [List.all_eq_true] at *
  intro c hc
  refine h c ?_
  unfold L2.cutS at hc
  exact List.mem_of_mem_drop (List.mem_of_mem_take (by simpa using hc))
theorem len_cut {x : Str} {lo hi : Option Int} : (L2.cutS x lo hi).length ≤ x.length := by
  rw [len_list, len_list]
  unfold L2.cutS
  simp only [List.length_take, List.length_drop]
  omega
theorem cut_two {x : Str} {i : Int} (h : 0 ≤ i) : (L2.cutS x (some i) none).length = x.length - (L2.cutS x none (some i)).length := by
  rw [len_list, len_list, len_list]
  unfold L2.cutS
  have e : ∀ n d : Nat, HT.sIx n d (some i) = min i.toNat n := fun n d => by
    show (if i < 0 then (i + (n : Int)).toNat else min i.toNat n) = _
    rw [if_neg (by omega)]
  have el : x.length = x.cps.toList.length := len_list x
  simp only [List.length_take, List.length_drop, HT.sIx_none, e, el]
  omega
theorem dat_low {w : Str} (h : lowB w = true) : (D.str w).eqOk = true := by
  unfold D.eqOk D.dat D.dpt
  rw [Bool.and_eq_true]
  refine ⟨?_, rfl⟩
  unfold lowB at h
  rw [← Array.all_toList, List.all_eq_true] at *
  intro c hc
  have := h c hc
  rw [Bool.and_eq_true, decide_eq_true_eq, decide_eq_true_eq] at this
  exact decide_eq_true (by omega)
abbrev letters : Str := "abcdefghijklmnopqrstuvwxyz"
theorem letters_at {i : Int} (h0 : 0 ≤ i) (h1 : i < 26) : ∃ c : Nat, L2.atI letters.cps.toList i = some c ∧ (c : Int) = 97 + i := by
  have key : ∀ j : _root_.Fin 26, L2.atI letters.cps.toList ((j : Nat) : Int) = some (97 + j.val) := by decide +kernel
  have := key ⟨i.toNat, by omega⟩
  refine ⟨97 + i.toNat, ?_, by omega⟩
  rw [← this]
  congr 1
  show i = ((i.toNat : Nat) : Int)
  omega
theorem low_one {c : Nat} {i : Int} (h : (c : Int) = 97 + i) (h0 : 0 ≤ i) (h1 : i < 26) : lowB ⟨#[c]⟩ = true := by
  unfold lowB
  simp only [List.all_cons, List.all_nil, Bool.and_true, Bool.and_eq_true, decide_eq_true_eq]
  omega
/-- whole numbers from j on -/
def Rem (j : Nat) (r : List D) : Prop := r = rngD j r.length
theorem Rem.start {n : Nat} : Rem 0 (rngD 0 n) := by unfold Rem; rw [rng_len]; rfl
theorem Rem.next {j : Nat} {x : D} {r : List D} (h : Rem j (x :: r)) : x = .int (j : Int) ∧ Rem (j + 1) r := by
  unfold Rem at *
  rw [List.length_cons, rngD] at h
  obtain ⟨h1, h2⟩ := List.cons.inj h
  exact ⟨h1, h2⟩
/-- a drawn word -/
def Wd (w : Str) : Prop := lowB w = true ∧ 0 < w.length ∧ w.length ≤ 7
theorem Wd.ne {w : Str} (h : Wd w) : w ≠ "" := fun z => by
  have := h.2.1
  rw [z] at this
  exact absurd this (by decide)
def Sp_words (c : C1) : Prop := ∀ a cl S m (k : Int) Q R, Stt a cl S (m + 12) → 0 ≤ k → k ≤ 26 →
  (∀ b S' (ws : List Str), S b = none → S' b = some (.lst (ws.map D.str)) → Stt a cl S' m → Kp a S S' → (ws.length : Int) = k → ws.Nodup → (∀ w ∈ ws, Wd w) → Q (.obj b) S') → c [.obj a, .int k] S Q R
theorem words_body {Γ : Cl} (hn : Sp_next (Γ 4)) (ho : Sp_of (Γ 5)) : Sp_words (run Γ fd__law_words_v2) := by
  intro a cl S m k Q R hS hk hk2 hQ
  have sz := sizeLine_eq
  refine ⟨rfl, ?_⟩
  unfold fd__law_words_v2
  array_get_dec
  array_get_dec
  refine wS_join (fun e S1 => ∃ (stem : Str) (o4 : Option D), e = [some (.obj a), some (.int k), some (.str letters), some (.str stem), o4, none, none, none] ∧ lowB stem = true ∧ stem.length ≤ 6 ∧ Stt a cl S1 (m + 4) ∧ Kp a S S1) (fun N hN => ?_) ?_
  · array_get_dec
    refine ⟨by omega, fun p hp => ?_⟩
    refine ho a _ _ (m + 11) _ _ _ _ (hS.new hp) ⟨_, .inr ⟨p, rfl, fun z => ?_, upd_same⟩, rfl⟩ (by decide) (by decide) fun v S1 hv hS1 kp => ?_
    · exact (hS.ne hp).1 z
    · have hv' : ∃ i : Int, v = .int i ∧ 0 ≤ i ∧ i ≤ 6 := by
        simp only [List.mem_cons, List.not_mem_nil, or_false] at hv
        rcases hv with rfl | rfl | rfl | rfl | rfl | rfl <;> exact ⟨_, rfl, by decide, by decide⟩
      obtain ⟨i, rfl, hi0, hi6⟩ := hv'
      array_get_dec
      refine ⟨by omega, wFor_ind (fun r e S' => ∃ (stem : Str) (o4 : Option D), e = [some (.obj a), some (.int k), some (.str letters), some (.str stem), o4, none, none, none] ∧ lowB stem = true ∧ stem.length + r.length ≤ 6 ∧ Stt a cl S' (m + 4 + r.length) ∧ Kp a S S') ?_ ?_ _ _ _ ⟨"", none, rfl, by decide, ?_, hS1.le ?_, ?_⟩⟩
      · rintro env S' ⟨stem, o4, rfl, h1, h2, h3, h4⟩
        exact ⟨trivial, hN _ _ ⟨stem, o4, rfl, h1, h2, h3, h4⟩⟩
      · rintro x r env S' ⟨stem, o4, rfl, h1, h2, h3, h4⟩
        refine ⟨trivial, fun N' hN' => ?_⟩
        rw [List.length_cons] at h2 h3
        array_get_dec
        refine hn a _ _ (m + 4 + r.length) _ _ _ (h3.le (by omega)) (by decide) (by decide) fun q S2 hq0 hq1 hS2 kp2 => ?_
        obtain ⟨c, hc, hc2⟩ := letters_at hq0 hq1
        have hlow := low_one hc2 hq0 hq1
        refine ⟨by rw [sz]; decide, ?_⟩
        rw [hc]
        refine ⟨by rw [sz]; show stem.length + 1 ≤ _; omega, hN' _ _ ⟨stem ++ ⟨#[c]⟩, some x, rfl, low_app h1 hlow, ?_, hS2, h4.trans kp2⟩⟩
        rw [len_app]
        show stem.length + 1 + _ ≤ 6
        omega
      · show 0 + _ ≤ 6
        rw [rng_len]
        omega
      · rw [rng_len]; omega
      · exact (Kp.new .refl hp).trans kp
  · rintro e S1 ⟨stem, o4, rfl, h1, h2, h3, h4⟩
    array_get_dec
    refine ⟨by omega, hn a _ _ (m + 3) _ _ _ h3 (by omega) (by omega) fun at_ S2 p0 p1 hS2 kp2 => ?_⟩
    array_get_dec
    refine hn a _ _ (m + 2) _ _ _ hS2 (by omega) (by omega) fun fi S3 f0 f1 hS3 kp3 => ?_
    array_get_dec
    refine ⟨by omega, fun p hp => ?_⟩
    refine ho a _ _ (m + 1) _ _ _ _ (hS3.new hp) ⟨_, .inr ⟨p, rfl, fun z => ?_, upd_same⟩, rfl⟩ (by decide) (by decide) fun v S4 hv hS4 kp4 => ?_
    · exact (hS3.ne hp).1 z
    have hv' : ∃ i : Int, v = .int i ∧ (i = 1 ∨ i = 3 ∨ i = 5 ∨ i = 7 ∨ i = 9 ∨ i = 11) := by
      simp only [List.mem_cons, List.not_mem_nil, or_false] at hv
      rcases hv with rfl | rfl | rfl | rfl | rfl | rfl <;> exact ⟨_, rfl, by omega⟩
    obtain ⟨st, rfl, hst⟩ := hv'
    array_get_dec
    let f : Nat → Str := fun j => (L2.cutS stem none (some at_) ++ ⟨#[(97 + (fi + st * (j : Int)) % 26).toNat]⟩) ++ L2.cutS stem (some at_) none
    have kpS : Kp a S S4 := ((h4.trans kp2).trans kp3).trans ((Kp.new .refl hp).trans kp4)
    refine ⟨by omega, wComp_ind (fun r acc S' => ∃ j : Nat, j + r.length = k.toNat ∧ Rem j r ∧ acc = (List.range j).map (fun j => D.str (f j)) ∧ Stt a cl S' m ∧ Kp a S S') ?_ ?_ _ _ _ ⟨0, by rw [rng_len]; omega, Rem.start, rfl, hS4.le (by omega), kpS⟩⟩
    · rintro acc S' ⟨j, hj, -, rfl, hS', kp'⟩
      refine ⟨trivial, fun b hb => ?_⟩
      have hjk : j = k.toNat := hj
      have key : ((List.range j).map fun j => D.str (f j)) = ((List.range j).map f).map D.str := by rw [List.map_map]; rfl
      refine hQ b _ ((List.range j).map f) (kp'.fresh hS' hb) (by rw [key]; exact upd_same) (hS'.new hb) (kp'.new hb) (by rw [List.length_map, List.length_range]; omega) ?_ ?_
      · refine nodup_map fun x y hx hy e => ?_
        have e2 : (f x).cps.toList = (f y).cps.toList := by rw [e]
        simp only [f, cps_app, List.append_assoc] at e2
        have e3 := List.append_cancel_left e2
        have e4 : (97 + (fi + st * (x : Int)) % 26).toNat = (97 + (fi + st * (y : Int)) % 26).toNat := by
          have : (97 + (fi + st * (x : Int)) % 26).toNat :: _ = (97 + (fi + st * (y : Int)) % 26).toNat :: _ := e3
          exact (List.cons.inj this).1
        rcases hst with rfl | rfl | rfl | rfl | rfl | rfl <;> omega
      · intro w hw
        obtain ⟨x, _, rfl⟩ := List.mem_map.mp hw
        have b0 := Int.emod_nonneg (fi + st * (x : Int)) (b := 26) (by decide)
        have b1 := Int.emod_lt_of_pos (fi + st * (x : Int)) (b := 26) (by decide)
        refine ⟨low_app (low_app (low_cut h1) (low_one (i := (fi + st * (x : Int)) % 26) (by omega) b0 b1)) (low_cut h1), ?_, ?_⟩
        · show 0 < (_ ++ _ : Str).length
          rw [len_app, len_app]
          show 0 < _ + 1 + _
          omega
        · show (_ ++ _ : Str).length ≤ 7
          rw [len_app, len_app, cut_two p0]
          show _ + 1 + _ ≤ 7
          have := @len_cut stem none (some at_)
          omega
    · rintro x r acc S' ⟨j, hj, hr, rfl, hS', kp'⟩
      refine ⟨trivial, fun N' hN' => ?_⟩
      rw [List.length_cons] at hj
      obtain ⟨rfl, hr'⟩ := hr.next
      have b0 := Int.emod_nonneg (fi + st * (j : Int)) (b := 26) (by decide)
      have b1 := Int.emod_lt_of_pos (fi + st * (j : Int)) (b := 26) (by decide)
      obtain ⟨c, hc, hc2⟩ := letters_at b0 b1
      have l1 := @len_cut stem none (some at_)
      have l2 := @len_cut stem (some at_) none
      array_get_dec
      have lc : Str.length ⟨#[c]⟩ = 1 := rfl
      have ll : letters.length = 26 := by decide +kernel
      refine ⟨by omega, mulOk (by omega) (by omega) (by omega) (by omega), by omega, by omega, by omega, by rw [len_app]; omega, by rw [List.length_map, List.length_range]; omega, ?_⟩
      refine hN' _ _ ⟨j + 1, by omega, hr', ?_, hS', kp'⟩
      rw [List.range_succ, List.map_append]
      have ec : (97 + (fi + st * (j : Int)) % 26).toNat = c := by omega
      show _ = _ ++ [D.str (f j)]
      simp only [f, ec]
theorem words_at {T : Nat → Option FD} (h3 : T 3 = some fd__law_load) (h4 : T 4 = some fd__law_next) (h5 : T 5 = some fd__law_of) (f : Nat) (h : T f = some fd__law_words_v2) (k : Nat) : Sp_words (callN T (k + 4) f) := by
  rw [callN_eq h]
  exact words_body (next_at h3 h4 (k + 1)) (of_at h3 h4 h5 k)
end Mn

/-! LibT: tables of plain keys and values. -/
namespace Mn
open PySem
section
variable {κ ν : Type} [DecidableEq κ]
def tabD (ek : κ → D) (ev : ν → D) (t : List (κ × ν)) : List (D × D) := t.map fun p => (ek p.1, ev p.2)
def tget (t : List (κ × ν)) (k : κ) : Option ν := match t with
  | [] => none
  | p :: r => if p.1 = k then some p.2 else tget r k
def tset (t : List (κ × ν)) (k : κ) (v : ν) : List (κ × ν) := match t with
  | [] => [(k, v)]
  | p :: r => if p.1 = k then (p.1, v) :: r else p :: tset r k v
def tmerge (t : List (κ × ν)) : List (κ × ν) → List (κ × ν)
  | [] => t
  | p :: r => tmerge (tset t p.1 p.2) r
variable {ek : κ → D} {ev : ν → D}
theorem dget_tab (inj : ∀ a b, ek a = ek b → a = b) {k : κ} : ∀ {t : List (κ × ν)}, dget (tabD ek ev t) (ek k) = (tget t k).map ev
  | [] => rfl
  | p :: r => by
    show dget ((ek p.1, ev p.2) :: tabD ek ev r) (ek k) = _
    rw [dget, tget]
    by_cases h : p.1 = k
    · rw [if_pos (by rw [h]), if_pos h]; rfl
    · rw [if_neg (fun z => h (inj _ _ z)), if_neg h]
      exact dget_tab inj
theorem dset_tab (inj : ∀ a b, ek a = ek b → a = b) {k : κ} {v : ν} : ∀ {t : List (κ × ν)}, dset (tabD ek ev t) (ek k) (ev v) = tabD ek ev (tset t k v)
  | [] => rfl
  | p :: r => by
    show dset ((ek p.1, ev p.2) :: tabD ek ev r) (ek k) (ev v) = _
    rw [dset, tset]
    by_cases h : p.1 = k
    · rw [if_pos (by rw [h]), if_pos h]; rfl
    · rw [if_neg (fun z => h (inj _ _ z)), if_neg h, dset_tab inj]; rfl
theorem dmerge_tab (inj : ∀ a b, ek a = ek b → a = b) : ∀ {m t : List (κ × ν)}, dmerge (tabD ek ev t) (tabD ek ev m) = tabD ek ev (tmerge t m)
  | [], _ => rfl
  | p :: r, t => by
    show dmerge (dset (tabD ek ev t) (ek p.1) (ev p.2)) (tabD ek ev r) = _
    rw [dset_tab inj, dmerge_tab inj]; rfl
theorem tget_set {k j : κ} {v : ν} : ∀ {t : List (κ × ν)}, tget (tset t k v) j = if k = j then some v else tget t j
  | [] => rfl
  | p :: r => by
    rw [tset]
    by_cases h : p.1 = k
    · rw [if_pos h, tget]
      by_cases e : k = j
      · rw [if_pos e, if_pos (h.trans e)]
      · rw [if_neg e, if_neg (fun z => e (h.symm.trans z)), tget, if_neg (fun z => e (h.symm.trans z))]
    · rw [if_neg h, tget, tget]
      by_cases e : p.1 = j
      · rw [if_pos e, if_pos e, if_neg (fun z => h (e.trans z.symm))]
      · rw [if_neg e, if_neg e]
        exact tget_set
theorem tset_len {k : κ} {v : ν} : ∀ {t : List (κ × ν)}, (tset t k v).length ≤ t.length + 1
  | [] => Nat.le_refl _
  | p :: r => by
    rw [tset]
    split
    · exact Nat.le_succ _
    · have := @tset_len k v r
      rw [List.length_cons, List.length_cons]
      omega
theorem tab_sca {t : List (κ × ν)} (h : ∀ k, (ek k).sca = true) : (tabD ek ev t).all (·.1.sca) = true := by
  unfold tabD
  rw [List.all_map, List.all_eq_true]
  exact fun p _ => h p.1
theorem tab_tpk {t : List (κ × ν)} (h : ∀ k, (ek k).tpk = true) : (tabD ek ev t).all (·.1.tpk) = true := by
  unfold tabD
  rw [List.all_map, List.all_eq_true]
  exact fun p _ => h p.1
theorem okK_sca {t : List (κ × ν)} {k : κ} (h : ∀ k, (ek k).sca = true) : okK (ek k) (tabD ek ev t) = true := by
  unfold okK
  rw [h, tab_sca h]
  rfl
theorem okK_tpk {t : List (κ × ν)} {k : κ} (h : ∀ k, (ek k).tpk = true) (hd : ∀ k, (ek k).dep ≤ 8) : okK (ek k) (tabD ek ev t) = true := by
  unfold okK
  rw [h, tab_tpk h, decide_eq_true (hd k), Bool.and_self, Bool.and_self, Bool.or_true]
end
/-- a pair of words as a key -/
def kPair (p : Str × Str) : D := .tup [.str p.1, .str p.2]
theorem kPair_inj : ∀ a b, kPair a = kPair b → a = b := by
  intro a b h
  obtain ⟨x, y⟩ := a
  obtain ⟨z, w⟩ := b
  unfold kPair at h
  cases h
  rfl
theorem kPair_tpk : ∀ k, (kPair k).tpk = true := fun _ => rfl
theorem kPair_dep : ∀ k, (kPair k).dep ≤ 8 := fun _ => show (1 : Nat) ≤ 8 by decide
theorem kStr_inj : ∀ a b : Str, D.str a = D.str b → a = b := fun _ _ h => D.str.inj h
theorem kStr_sca : ∀ k : Str, (D.str k).sca = true := fun _ => rfl
end Mn

/-! Gap: least ways, by rounds over the middle. -/
namespace Gap
section
variable {α : Type} [DecidableEq α]
/-- a walk from x to y, its weight, its inner places -/
inductive Wk (fs : List (α × α × Int)) : α → α → Int → List α → Prop
  | one {x y : α} {c : Int} : (x, y, c) ∈ fs → Wk fs x y c []
  | cons {x z y : α} {c w : Int} {l : List α} : (x, z, c) ∈ fs → Wk fs z y w l → Wk fs x y (c + w) (z :: l)
variable {fs : List (α × α × Int)}
theorem Wk.join {x y z : α} {w v : Int} {l k : List α} (h : Wk fs x y w l) (g : Wk fs y z v k) : Wk fs x z (w + v) (l ++ y :: k) := by
  induction h with
  | one e => exact .cons e g
  | cons e r ih =>
    have := ih g
    rw [Int.add_assoc]
    exact .cons e this
/-- the first visit to m -/
theorem Wk.first {x y m : α} {w : Int} {l : List α} (h : Wk fs x y w l) (hm : m ∈ l) : ∃ w1 l1 w2 l2, Wk fs x m w1 l1 ∧ Wk fs m y w2 l2 ∧ w = w1 + w2 ∧ l = l1 ++ m :: l2 ∧ m ∉ l1 := by
  induction h with
  | one e => cases hm
  | @cons x z y c w l e r ih =>
    by_cases hz : z = m
    · subst hz
      exact ⟨c, [], w, l, .one e, r, rfl, rfl, by simp⟩
    · obtain ⟨w1, l1, w2, l2, h1, h2, h3, h4, h5⟩ := ih ((List.mem_cons.mp hm).resolve_left fun q => hz q.symm)
      exact ⟨c + w1, z :: l1, w2, l2, .cons e h1, h2, by omega, by rw [h4]; rfl, fun q => (List.mem_cons.mp q).elim (fun q => hz q.symm) h5⟩
/-- no walk by the places of M weighs less than G tells -/
def Full (fs : List (α × α × Int)) (M : List α) (G : α → α → Option Int) : Prop := ∀ x y w l, Wk fs x y w l → (∀ z ∈ l, z ∈ M) → ∃ g, G x y = some g ∧ g ≤ w
theorem full_from {M : List α} {G : α → α → Option Int} {m : α} (hf : Full fs M G) (hm : G m m = some 0) : ∀ (n : Nat) (y : α) (w : Int) (l : List α), l.length < n → Wk fs m y w l → (∀ z ∈ l, z ∈ m :: M) → ∃ g, G m y = some g ∧ g ≤ w := by
  intro n
  induction n with
  | zero => intro y w l h; omega
  | succ n ih =>
    intro y w l hl h hz
    by_cases hin : m ∈ l
    · obtain ⟨w1, l1, w2, l2, h1, h2, h3, h4, h5⟩ := h.first hin
      have len : l2.length < n := by
        have : l.length = l1.length + (l2.length + 1) := by rw [h4]; simp
        omega
      obtain ⟨g, e, le⟩ := ih y w2 l2 len h2 fun z q => hz z (by rw [h4]; simp [q])
      have m1 : ∀ z ∈ l1, z ∈ M := fun z q => (List.mem_cons.mp (hz z (by rw [h4]; simp [q]))).resolve_left fun e => h5 (e ▸ q)
      obtain ⟨g0, e0, le0⟩ := hf m m w1 l1 h1 m1
      rw [hm] at e0
      cases e0
      exact ⟨g, e, by omega⟩
    · exact hf m y w l h fun z q => (List.mem_cons.mp (hz z q)).resolve_left fun e => hin (e ▸ q)
/-- one round -/
def stepG (m : α) (G : α → α → Option Int) (x y : α) : Option Int := match G x m, G m y with
  | some a, some b => match G x y with
    | some g => some (if g < a + b then g else a + b)
    | none => some (a + b)
  | _, _ => G x y
theorem full_step {M : List α} {G : α → α → Option Int} {m : α} (hf : Full fs M G) (hm : G m m = some 0) : Full fs (m :: M) (stepG m G) := by
  intro x y w l h hz
  by_cases hin : m ∈ l
  · obtain ⟨w1, l1, w2, l2, h1, h2, h3, h4, h5⟩ := h.first hin
    have m1 : ∀ z ∈ l1, z ∈ M := fun z q => (List.mem_cons.mp (hz z (by rw [h4]; simp [q]))).resolve_left fun e => h5 (e ▸ q)
    obtain ⟨a, e1, le1⟩ := hf x m w1 l1 h1 m1
    obtain ⟨b, e2, le2⟩ := full_from hf hm (l2.length + 1) y w2 l2 (by omega) h2 fun z q => hz z (by rw [h4]; simp [q])
    unfold stepG
    rw [e1, e2]
    cases G x y with
    | none => exact ⟨_, rfl, by omega⟩
    | some g => exact ⟨_, rfl, by split <;> omega⟩
  · obtain ⟨g, e, le⟩ := hf x y w l h fun z q => (List.mem_cons.mp (hz z q)).resolve_left fun e => hin (e ▸ q)
    unfold stepG
    rw [e]
    cases G x m with
    | none => exact ⟨g, rfl, le⟩
    | some a =>
      cases G m y with
      | none => exact ⟨g, rfl, le⟩
      | some b => exact ⟨_, rfl, by split <;> omega⟩
theorem dup_split : ∀ {l : List α}, ¬ l.Nodup → ∃ (z : α) (a b c : List α), l = a ++ z :: (b ++ z :: c)
  | [], h => absurd List.nodup_nil h
  | x :: l, h => by
    by_cases hx : x ∈ l
    · obtain ⟨b, c, e⟩ := List.append_of_mem hx
      exact ⟨x, [], b, c, by rw [e]; rfl⟩
    · have : ¬ l.Nodup := fun q => h (List.nodup_cons.mpr ⟨hx, q⟩)
      obtain ⟨z, a, b, c, e⟩ := dup_split this
      exact ⟨z, x :: a, b, c, by rw [e]; rfl⟩
theorem Wk.cut {y z : α} : ∀ {a : List α} {w : Int} {x : α} {b : List α}, Wk fs x y w (a ++ z :: b) → ∃ w1 w2, Wk fs x z w1 a ∧ Wk fs z y w2 b ∧ w = w1 + w2
  | [], w, x, b, h => by
    cases h with
    | cons e r => exact ⟨_, _, .one e, r, rfl⟩
  | q :: a, w, x, b, h => by
    cases h with
    | cons e r =>
      obtain ⟨w1, w2, h1, h2, h3⟩ := Wk.cut r
      exact ⟨_, w2, .cons e h1, h2, by rw [h3, Int.add_assoc]⟩
/-- the inner places start a fact -/
theorem Wk.inner {x y : α} {w : Int} {l : List α} (h : Wk fs x y w l) : ∀ z ∈ l, ∃ v c, (z, v, c) ∈ fs := by
  induction h with
  | one e => intro z hz; cases hz
  | cons e r ih =>
    intro z hz
    rcases List.mem_cons.mp hz with rfl | hz
    · cases r with
      | one e' => exact ⟨_, _, e'⟩
      | cons e' _ => exact ⟨_, _, e'⟩
    · exact ih z hz
theorem Wk.start {x y : α} {w : Int} {l : List α} (h : Wk fs x y w l) : ∃ v c, (x, v, c) ∈ fs := by
  cases h with
  | one e => exact ⟨_, _, e⟩
  | cons e _ => exact ⟨_, _, e⟩
/-- no round below 0: a walk may be made short -/
theorem short (hr : ∀ x w l, Wk fs x x w l → 0 ≤ w) : ∀ (n : Nat) {x y : α} {w : Int} {l : List α}, l.length < n → Wk fs x y w l → ∃ w' l', Wk fs x y w' l' ∧ w' ≤ w ∧ l'.Nodup
  | 0, _, _, _, _, h, _ => by omega
  | n + 1, x, y, w, l, hl, h => by
    by_cases hd : l.Nodup
    · exact ⟨w, l, h, Int.le_refl _, hd⟩
    · obtain ⟨z, a, b, c, e⟩ := dup_split hd
      subst e
      obtain ⟨w1, w2, h1, h2, rfl⟩ := Wk.cut h
      obtain ⟨w3, w4, h3, h4, rfl⟩ := Wk.cut h2
      have p := hr z w3 b h3
      obtain ⟨w', l', g1, g2, g3⟩ := short hr n (l := a ++ z :: c) (by simp at hl ⊢; omega) (h1.join h4)
      exact ⟨w', l', g1, by omega, g3⟩
/-- a round below 0 holds a short one -/
theorem shortRound : ∀ (n : Nat) {x : α} {w : Int} {l : List α}, l.length < n → Wk fs x x w l → w < 0 → ∃ x' w' l', Wk fs x' x' w' l' ∧ w' < 0 ∧ l'.Nodup
  | 0, _, _, _, h, _, _ => by omega
  | n + 1, x, w, l, hl, h, hw => by
    by_cases hd : l.Nodup
    · exact ⟨x, w, l, h, hw, hd⟩
    · obtain ⟨z, a, b, c, e⟩ := dup_split hd
      subst e
      obtain ⟨w1, w2, h1, h2, rfl⟩ := Wk.cut h
      obtain ⟨w3, w4, h3, h4, rfl⟩ := Wk.cut h2
      by_cases p : w3 < 0
      · exact shortRound n (by simp at hl ⊢; omega) h3 p
      · exact shortRound n (l := a ++ z :: c) (by simp at hl ⊢; omega) (h1.join h4) (by omega)
end
end Gap

/-! Wp2: rules for dicts, for sorted; stores that only grow. -/
namespace Mn
open PySem
/-- a fact that simp is not to use -/
structure Hd (P : Prop) : Prop where
  get : P
theorem pairsOf_nil : pairsOf [] = some [] := by rfl
theorem pairsOf_two {k v : D} : pairsOf [k, v] = some [(k, v)] := by rfl
theorem pairsOf_four {k v l w : D} : pairsOf [k, v, l, w] = some [(k, v), (l, w)] := by rfl
theorem dmerge_nil {t : List (D × D)} : dmerge t [] = t := by rfl
theorem dmerge_one {k v : D} : dmerge [] [(k, v)] = [(k, v)] := by rfl
def oD (o : Option MO) (f : List (D × D) → Prop) : Prop := match o with
  | some (.dic kvs _) => f kvs
  | _ => False
theorem oD_dic {kvs : List (D × D)} {st : Obj} {f : List (D × D) → Prop} : oD (some (.dic kvs st)) f = f kvs := by rfl
def oSrt (o : Option MO) (S : Store) (Q : KD) : Prop := match o with
  | some (.lst xs) => srtD xs S Q
  | some (.dic kvs _) => srtK (kvs.map (·.1)) S Q
  | _ => False
theorem oSrt_lst {xs : List D} {S : Store} {Q : KD} : oSrt (some (.lst xs)) S Q = srtD xs S Q := by rfl
theorem oSrt_dic {kvs : List (D × D)} {st : Obj} {S : Store} {Q : KD} : oSrt (some (.dic kvs st)) S Q = srtK (kvs.map (·.1)) S Q := by rfl
def oBl (o : Option (List Bool)) (f : List Bool → Prop) : Prop := match o with
  | some bs => f bs
  | none => False
theorem oBl_some {bs : List Bool} {f : List Bool → Prop} : oBl (some bs) f = f bs := by rfl
section
variable {a : Addr} {d k v x : D} {S : Store} {Q : KD} {neg : Bool}
theorem pre_get : mtPre .get (.obj a) S = oD (S a) fun _ => True := by
  unfold mtPre
  simp only
  cases S a with
  | none => rfl
  | some o => cases o <;> rfl
theorem mt_get1 : sMt .get (.obj a) [k] S Q = oD (S a) fun kvs => okK k kvs = true ∧ Q ((dget kvs k).getD .non) S := by
  unfold sMt dcOf
  simp only
  cases S a with
  | none => rfl
  | some o => cases o <;> rfl
theorem mt_get2 : sMt .get (.obj a) [k, x] S Q = oD (S a) fun kvs => okK k kvs = true ∧ Q ((dget kvs k).getD x) S := by
  unfold sMt dcOf
  simp only
  cases S a with
  | none => rfl
  | some o => cases o <;> rfl
theorem sIn_o : sIn neg x (.obj a) S Q = oLD (S a) (fun xs => inA neg x xs S Q) (fun kvs _ => inD neg x kvs S Q) := by
  unfold sIn oLD
  simp only
  cases S a with
  | none => rfl
  | some o => cases o <;> rfl
theorem sIn_t {xs : List D} : sIn neg x (.tup xs) S Q = inL neg x xs S Q := by rfl
theorem inD_in {kvs : List (D × D)} : inD false x kvs S Q = (okK x kvs = true ∧ Q (.bl (dget kvs x).isSome) S) := by rfl
theorem inD_not {kvs : List (D × D)} : inD true x kvs S Q = (okK x kvs = true ∧ Q (.bl (dget kvs x).isNone) S) := by rfl
theorem sIdx_k {ks : List Str} {vs : List D} {z : Str} : sIdx (.kdc ks vs) (.str z) S Q = oV (dget (kdPairs ks vs) (.str z)) fun v => Q v S := by
  unfold sIdx
  simp only
  cases dget (kdPairs ks vs) (.str z) <;> rfl
theorem sIn_k {ks : List Str} {vs : List D} {z : Str} : sIn neg (.str z) (.kdc ks vs) S Q = Q (.bl (if neg then (dget (kdPairs ks vs) (.str z)).isNone else (dget (kdPairs ks vs) (.str z)).isSome)) S := by rfl
theorem pre_getk {ks : List Str} {vs : List D} : mtPre .get (.kdc ks vs) S = True := by rfl
theorem mt_get1k {ks : List Str} {vs : List D} {z : Str} : sMt .get (.kdc ks vs) [.str z] S Q = Q ((dget (kdPairs ks vs) (.str z)).getD .non) S := by rfl
theorem mt_get2k {ks : List Str} {vs : List D} {z : Str} : sMt .get (.kdc ks vs) [.str z, x] S Q = Q ((dget (kdPairs ks vs) (.str z)).getD x) S := by rfl
theorem pre_pop : mtPre .pop (.obj a) S = oL (S a) fun _ => True := by
  unfold mtPre
  simp only
  cases S a with
  | none => rfl
  | some o => cases o <;> rfl
theorem mt_pop0 : sMt .pop (.obj a) [] S Q = oL (S a) fun xs => ∃ y, xs[xs.length - 1]? = some y ∧ Q y (upd S a (.lst xs.dropLast)) := by
  unfold sMt
  simp only
  cases S a with
  | none => rfl
  | some o => cases o <;> rfl
theorem pre_index : mtPre .index (.obj a) S = oL (S a) fun _ => True := by
  unfold mtPre
  simp only
  cases S a with
  | none => rfl
  | some o => cases o <;> rfl
theorem lrng_i {n : Int} : sLrng (.int n) S Q = ((0 ≤ n ∧ n ≤ 10000) ∧ newL (rngD 0 n.toNat) S Q) := by rfl
theorem bi_sorted : sBi .sorted [.obj a] S Q = oSrt (S a) S Q := by
  unfold sBi oSrt
  simp only
  all_goals (cases S a with
  | none => rfl
  | some o => cases o <;> rfl)
theorem bi_all : sBi .all [.obj a] S Q = oL (S a) fun xs => oBl (bls xs) fun bs => Q (.bl (bs.all id)) S := by
  show wList _ (lsOf S (.obj a)) = _
  unfold lsOf
  simp only
  cases S a with
  | none => rfl
  | some o => cases o with
    | lst xs =>
      show (match bls xs with | some bs => Q (.bl (bs.all id)) S | none => False) = oBl (bls xs) fun bs => Q (.bl (bs.all id)) S
      cases bls xs <;> rfl
    | _ => rfl
theorem bi_any : sBi .any [.obj a] S Q = oL (S a) fun xs => oBl (bls xs) fun bs => Q (.bl (bs.any id)) S := by
  show wList _ (lsOf S (.obj a)) = _
  unfold lsOf
  simp only
  cases S a with
  | none => rfl
  | some o => cases o with
    | lst xs =>
      show (match bls xs with | some bs => Q (.bl (bs.any id)) S | none => False) = oBl (bls xs) fun bs => Q (.bl (bs.any id)) S
      cases bls xs <;> rfl
    | _ => rfl
end
theorem bls_map : ∀ {bs : List Bool}, bls (bs.map D.bl) = some bs
  | [] => rfl
  | b :: bs => by rw [List.map_cons, bls, bls_map]
theorem strsD_map : ∀ {ks : List Str}, strsD (ks.map D.str) = some ks
  | [] => rfl
  | b :: bs => by rw [List.map_cons, strsD, strsD_map]
theorem wholes_map : ∀ {ks : List Int}, wholes (ks.map D.int) = some ks
  | [] => rfl
  | b :: bs => by rw [List.map_cons, wholes, wholes_map]
theorem srtK_map {ks : List Str} {S : Store} {Q : KD} : srtK (ks.map D.str) S Q = (ks.length < 64 ∧ ∀ ys : List Str, ys.Perm ks → PyProof.Rows.sortedS ys = true → newL (ys.map D.str) S Q) := by
  unfold srtK
  rw [strsD_map, List.length_map]
theorem getD_int {o : Option Int} {i : Int} : (o.map D.int).getD (.int i) = .int (o.getD i) := by cases o <;> rfl
theorem getD_bl {o : Option Bool} {i : Bool} : (o.map D.bl).getD (.bl i) = .bl (o.getD i) := by cases o <;> rfl
/-! tables with texts, with pairs of texts for keys -/
section
variable {ν : Type} {ev : ν → D} {x y : Str}
theorem okS {t : List (Str × ν)} : okK (.str x) (tabD D.str ev t) = true := okK_sca kStr_sca
theorem dgetS {t : List (Str × ν)} : dget (tabD D.str ev t) (.str x) = (tget t x).map ev := dget_tab kStr_inj
theorem dsetSi {t : List (Str × Int)} {i : Int} : dset (tabD D.str D.int t) (.str x) (.int i) = tabD D.str D.int (tset t x i) := dset_tab kStr_inj
theorem dsetSb {t : List (Str × Bool)} {i : Bool} : dset (tabD D.str D.bl t) (.str x) (.bl i) = tabD D.str D.bl (tset t x i) := dset_tab kStr_inj
theorem okP {t : List ((Str × Str) × ν)} : okK (.tup [.str x, .str y]) (tabD kPair ev t) = true := okK_tpk (k := (x, y)) kPair_tpk kPair_dep
theorem dgetP {t : List ((Str × Str) × ν)} : dget (tabD kPair ev t) (.tup [.str x, .str y]) = (tget t (x, y)).map ev := dget_tab (k := (x, y)) kPair_inj
theorem dsetPi {t : List ((Str × Str) × Int)} {i : Int} : dset (tabD kPair D.int t) (.tup [.str x, .str y]) (.int i) = tabD kPair D.int (tset t (x, y) i) := dset_tab (k := (x, y)) kPair_inj
end
section
variable {κ ν : Type} [DecidableEq κ] {ek : κ → D} {ev : ν → D}
theorem tab_len {t : List (κ × ν)} : (tabD ek ev t).length = t.length := List.length_map ..
theorem tab_keys {t : List (κ × ν)} : (tabD ek ev t).map (·.1) = (t.map (·.1)).map ek := by
  unfold tabD
  rw [List.map_map, List.map_map]
  rfl
theorem tset_keys {k j : κ} {v : ν} : ∀ {t : List (κ × ν)}, j ∈ (tset t k v).map (·.1) ↔ j = k ∨ j ∈ t.map (·.1)
  | [] => by simp [tset]
  | p :: r => by
    rw [tset]
    split
    · rename_i h
      simp only [List.map_cons, List.mem_cons]
      exact ⟨fun q => .inr q, fun q => q.elim (fun e => .inl (e.trans h.symm)) id⟩
    · simp only [List.map_cons, List.mem_cons, tset_keys]
      constructor
      · rintro (h | h | h)
        · exact .inr (.inl h)
        · exact .inl h
        · exact .inr (.inr h)
      · rintro (h | h | h)
        · exact .inr (.inl h)
        · exact .inl h
        · exact .inr (.inr h)
theorem tset_nodup {k : κ} {v : ν} : ∀ {t : List (κ × ν)}, (t.map (·.1)).Nodup → ((tset t k v).map (·.1)).Nodup
  | [], _ => by simp [tset]
  | p :: r, h => by
    rw [List.map_cons, List.nodup_cons] at h
    rw [tset]
    split
    · rw [List.map_cons, List.nodup_cons]
      exact h
    · rename_i hn
      rw [List.map_cons, List.nodup_cons]
      exact ⟨fun q => (tset_keys.mp q).elim hn h.1, tset_nodup h.2⟩
theorem tget_some {k : κ} : ∀ {t : List (κ × ν)}, (∃ v, tget t k = some v) ↔ k ∈ t.map (·.1)
  | [] => by simp [tget]
  | p :: r => by
    rw [tget, List.map_cons, List.mem_cons]
    split
    · rename_i h
      exact ⟨fun _ => .inl h.symm, fun _ => ⟨_, rfl⟩⟩
    · rename_i h
      rw [tget_some]
      exact ⟨.inr, fun q => q.resolve_left fun e => h e.symm⟩
end
theorem nodup_len {α : Type} [DecidableEq α] : ∀ {l k : List α}, l.Nodup → (∀ x ∈ l, x ∈ k) → l.length ≤ k.length
  | [], k, _, _ => Nat.zero_le _
  | x :: l, k, h, hs => by
    rw [List.nodup_cons] at h
    have hx := hs x (List.mem_cons_self ..)
    have := @nodup_len α _ l (k.erase x) h.2 fun y hy => (List.mem_erase_of_ne (show y ≠ x from fun e => h.1 (by rw [← e]; exact hy))).mpr (hs y (List.mem_cons_of_mem _ hy))
    rw [List.length_erase_of_mem hx] at this
    have := List.length_pos_of_mem hx
    rw [List.length_cons]
    omega
/-! ### stores that only grow -/
def Grw (S S' : Store) : Prop := ∀ q o, S q = some o → S' q = some o
theorem Grw.refl {S : Store} : Grw S S := fun _ _ h => h
theorem Grw.trans {S S1 S2 : Store} (h : Grw S S1) (h' : Grw S1 S2) : Grw S S2 := fun q o e => h' q o (h q o e)
theorem Grw.new {p : Addr} {S S1 : Store} {o : MO} (h : Grw S S1) (hp : S1 p = none) : Grw S (Mn.upd S1 p o) := fun q o e => by
  have := h q o e
  rw [upd_ne (fun z => by rw [z, hp] at this; cases this)]
  exact this
theorem Grw.own {p : Addr} {S S1 : Store} {o : MO} (h : Grw S S1) (hp : S p = none) : Grw S (Mn.upd S1 p o) := fun q o e => by
  rw [upd_ne (fun z => by rw [z, hp] at e; cases e)]
  exact h q o e
theorem Grw.fresh {b : Addr} {S S1 : Store} (h : Grw S S1) (e : S1 b = none) : S b = none := by
  cases q : S b with
  | none => rfl
  | some o => rw [h b o q] at e; cases e
theorem Grw.some {b : Addr} {S S1 : Store} {o : MO} (h : Grw S S1) (e : S b = some o) : S1 b = some o := h b o e
end Mn

/-! LibC: drawn facts. -/
namespace Mn
open PySem
/-- _law_state, _law_words_here, _law_many, _law_far, _law_found, _law_k, _law_x, _law_y, _law_word -/
def fd__law_facts : FD := ⟨4, 9,
    (.cons (.set (.nm 4) (.lst .nil))
    (.cons (.for_ (.nm 5) (.rng (.var 2)) (.cons (.set (.nm 6) (.call 5 (.cons (.var 0) (.cons (.o2 .add (.var 1) (.lst (.cons (.cst (.str "")) .nil))) .nil))))
    (.cons (.set (.nm 7) (.call 5 (.cons (.var 0) (.cons (.comp (.var 8) (.nm 8) [("_law_word", 8)] (.e (.o2 .add (.var 1) (.lst (.cons (.cst (.str "")) .nil)))) (.so (.o2 .ne (.var 8) (.var 6)))) .nil))))
    (.cons (.exp (.mth .append (.var 4) (.cons (.tup (.cons (.var 6) (.cons (.var 7) (.cons (.o2 .sub (.call 4 (.cons (.var 0) (.cons (.o2 .add (.o2 .mul (.cst (.int 2)) (.var 3)) (.cst (.int 1))) .nil))) (.var 3)) .nil)))) .nil)))
    .nil))))
    (.cons (.ret (.bi .tuple (.cons (.var 4) .nil)))
    .nil)))⟩
local macro_rules
  | `(tactic| array_get_dec) => `(tactic| ((try simp only [wG_nm, wG_tp, wGs_nil, wGs_cons, wipe, List.set_cons_zero, List.set_cons_succ]); (try rw [wSs_cons]); simp only [wS, wT, wE, wEs, wO, wC, wI_e, wI_rng, wI_rng2, wI_enm, wI_zip, rngW_int, iters_t, iters_r, iters_s, iters_o, itO_lst, itO_dic, itL_t, wG_nm, wG_tp, wGs_nil, wGs_cons, wipe, List.map_cons, List.map_nil, List.length_cons, List.length_nil, List.replicate_succ, List.replicate_zero, List.cons_append, List.nil_append, Nat.zero_add, Nat.reduceAdd, Nat.reduceSub, List.getElem?_cons_zero, List.getElem?_cons_succ, List.set_cons_zero, List.set_cons_succ, Option.some.injEq, exists_eq_left', pairsOf_nil, pairsOf_two, pairsOf_four, dmerge_nil, dmerge_one, oD_dic, oSrt_lst, oSrt_dic, oBl_some, pre_get, mt_get1, mt_get2, sIn_o, sIn_t, inD_in, inD_not, bi_sorted, bi_all, bi_any, bls_map, srtK_map, getD_int, getD_bl, okS, dgetS, dsetSi, dsetSb, okP, dgetP, dsetPi, tab_len, tab_keys, Option.isSome_map, Option.isNone_map, Option.isSome_some, Option.isSome_none, Option.isNone_some, Option.isNone_none, Option.map_none, s1_neg, s1_isN, s1_notN, s2_add, s2_idx, s2_eq, s2_ne, s2_lt, s2_le, s2_gt, s2_ge, s2_in, s2_notin, s2_sub, s2_mul, s2_fdiv, s2_mod, s2_pow, sAdd_ii, sAdd_ss, sAdd_tt, sAdd_oo, sAug_ii, sOrd_lt, sOrd_le, sOrd_gt, sOrd_ge, sIdx_t, sIdx_r, sIdx_s, sIdx_o, look_lst, look_dic, lenO_lst, lenO_dic, setIn_lst, setIn_dic, oM_some, truth_bl, truth_int, truth_non, truth_tup, bi_len_s, bi_len_t, bi_len_r, bi_len_o, bi_abs, bi_list_t, bi_list_r, bi_list_o, bi_tuple_t, bi_tuple_r, bi_tuple_o, bi_min2, bi_max2, bi_dict, mt_append, pre_append, mt_extend, pre_extend, set_o, wSs_nil, slc_s, slc_t, slc_r, slc_o, tyD_bl, tyD_int, tyD_str, tyD_tup, tyD_rol, tyD_non, isTy, sEq_b, eqOk_int, eqOk_non, sEq_d, oL_lst, oLD_lst, oLD_dic, oV_some, oC_some, Option.map_some, Option.getD_some, atI_0, atI_1, atI_2, atI_3, upd_same, D.int.injEq, D.str.injEq, D.bl.injEq, true_and, and_true, decide_eq_true_eq, reduceIte, Bool.false_eq_true, Bool.not_eq_true', Bool.not_true, Bool.not_false, reduceCtorEq, decide_true, decide_false, Bool.or_false, Bool.or_true, Bool.true_or, Bool.false_or, Bool.and_true, Bool.and_false, Bool.true_and, Bool.false_and, eq_self, beq_self_eq_true, decide_eq_false_iff_not, Int.toNat_zero, Int.reduceToNat, Int.reduceLT, Int.reduceLE, Int.cast_ofNat_Int, *]))
theorem low0 : (D.str "").eqOk = true := by decide +kernel
/-- the words and the empty text -/
def Inw (ws : List Str) (y : Str) : Prop := y = "" ∨ y ∈ ws
theorem Inw.ok {ws : List Str} {y : Str} (h : Inw ws y) (hw : ∀ w ∈ ws, Wd w) : (D.str y).eqOk = true := by
  rcases h with rfl | h
  · exact low0
  · exact dat_low (hw y h).1
theorem inw_of {ws : List Str} {d : D} (h : d ∈ ws.map D.str ++ [D.str ""]) : ∃ y, d = .str y ∧ Inw ws y := by
  rcases List.mem_append.mp h with h | h
  · obtain ⟨y, hy, rfl⟩ := List.mem_map.mp h
    exact ⟨y, rfl, .inr hy⟩
  · exact ⟨"", List.mem_singleton.mp h, .inl rfl⟩
/-- drawn facts -/
def Fc (ws : List Str) (far : Int) (d : D) : Prop := ∃ (x y : Str) (c : Int), d = .tup [.str x, .str y, .int c] ∧ (x = "" ∨ x ∈ ws) ∧ (y = "" ∨ y ∈ ws) ∧ x ≠ y ∧ -far ≤ c ∧ c ≤ far
def Sp_facts (c : C1) : Prop := ∀ a cl S m b (ws : List Str) (k far : Int) Q R, Stt a cl S (m + 3 * k.toNat) → b ≠ a → S b = some (.lst (ws.map D.str)) → (∀ w ∈ ws, Wd w) → 0 < ws.length → ws.length ≤ 26 → 0 ≤ k → k ≤ 100 → 0 < far → far < 2 ^ 62 →
  (∀ fs S', Stt a cl S' m → Kp a S S' → (fs.length : Int) = k → (∀ d ∈ fs, Fc ws far d) → Q (.tup fs) S') → c [.obj a, .obj b, .int k, .int far] S Q R
theorem facts_body {Γ : Cl} (hn : Sp_next (Γ 4)) (ho : Sp_of (Γ 5)) : Sp_facts (run Γ fd__law_facts) := by
  intro a cl S m b ws k far Q R hS hb hws hwd hl0 hl hk0 hk1 hf0 hf1 hQ
  have sz := sizeLine_eq
  refine ⟨rfl, ?_⟩
  unfold fd__law_facts
  array_get_dec
  refine ⟨by omega, fun p hp => ?_⟩
  obtain ⟨pa, pc⟩ := hS.ne hp
  have key : ∀ (S' : Store), Kp a S S' → S' b = some (.lst (ws.map D.str)) := fun S' h => h b _ hb hws
  array_get_dec
  refine ⟨by omega, wFor_ind (fun r e S' => ∃ (fs : List D) (o5 o6 o7 o8 : Option D), e = [some (.obj a), some (.obj b), some (.int k), some (.int far), some (.obj p), o5, o6, o7, o8] ∧ S' p = some (.lst fs) ∧ (∀ d ∈ fs, Fc ws far d) ∧ fs.length + r.length = k.toNat ∧ Stt a cl S' (m + 3 * r.length) ∧ Kp a S S') ?_ ?_ _ _ _
    ⟨[], none, none, none, none, rfl, upd_same, fun _ h => absurd h (List.not_mem_nil), by rw [rng_len]; exact Nat.zero_add _, by rw [rng_len]; exact hS.new hp, Kp.new .refl hp⟩⟩
  · rintro env S' ⟨fs, o5, o6, o7, o8, rfl, h1, h2, h3, h4, h5⟩
    refine ⟨trivial, ?_⟩
    array_get_dec
    exact hQ fs S' (h4.le (by omega)) h5 (by have : fs.length = k.toNat := h3; omega) h2
  · rintro x r env S' ⟨fs, o5, o6, o7, o8, rfl, h1, h2, h3, h4, h5⟩
    refine ⟨trivial, fun N hN => ?_⟩
    rw [List.length_cons] at h3 h4
    have hb' := key S' h5
    have lw : (ws.map D.str ++ [D.str ""]).length = ws.length + 1 := by simp
    array_get_dec
    refine ⟨by omega, fun p1 hp1 => ?_⟩
    have e1 := (Kp.new (o := .lst [.str ""]) .refl hp1) b _ hb hb'
    have t1 := h4.new (o := .lst [.str ""]) hp1
    have k1 := Kp.new (a := a) (o := .lst [.str ""]) .refl hp1
    have u1 : upd S' p1 (.lst [.str ""]) p1 = some (.lst [.str ""]) := upd_same
    generalize upd S' p1 (.lst [.str ""]) = S1 at *
    array_get_dec
    refine ⟨by omega, fun p2 hp2 => ?_⟩
    have t2 := t1.new (o := .lst (ws.map D.str ++ [D.str ""])) hp2
    have k2 := Kp.new (a := a) (o := .lst (ws.map D.str ++ [D.str ""])) k1 hp2
    have u2 : upd S1 p2 (.lst (ws.map D.str ++ [D.str ""])) p2 = some (.lst (ws.map D.str ++ [D.str ""])) := upd_same
    generalize upd S1 p2 (.lst (ws.map D.str ++ [D.str ""])) = S2 at *
    refine ho a _ _ (m + 3 * r.length + 2) _ _ _ _ t2 ⟨_, .inr ⟨p2, rfl, (t1.ne hp2).1, u2⟩, rfl⟩ (by omega) (by omega) fun v S3 hv t3 k3 => ?_
    obtain ⟨x1, rfl, hx1⟩ := inw_of hv
    have hx1' := hx1.ok hwd
    have kk3 := k2.trans k3
    have hb3 := kk3 b _ hb hb'
    clear hv
    array_get_dec
    refine ⟨by omega, fun p3 hp3 => ?_⟩
    have e3 := (Kp.new (o := .lst [.str ""]) .refl hp3) b _ hb hb3
    have t4 := t3.new (o := .lst [.str ""]) hp3
    have k4 := Kp.new (a := a) (o := .lst [.str ""]) kk3 hp3
    have u3 : upd S3 p3 (.lst [.str ""]) p3 = some (.lst [.str ""]) := upd_same
    generalize upd S3 p3 (.lst [.str ""]) = S4 at *
    array_get_dec
    refine ⟨by omega, fun p4 hp4 => ?_⟩
    have t5 := t4.new (o := .lst (ws.map D.str ++ [D.str ""])) hp4
    have k5 := Kp.new (a := a) (o := .lst (ws.map D.str ++ [D.str ""])) k4 hp4
    have u4 : upd S4 p4 (.lst (ws.map D.str ++ [D.str ""])) p4 = some (.lst (ws.map D.str ++ [D.str ""])) := upd_same
    generalize upd S4 p4 (.lst (ws.map D.str ++ [D.str ""])) = S5 at *
    array_get_dec
    refine wComp_ind (fun r' acc S'' => S'' = S5 ∧ (∀ d ∈ acc, ∃ y, d = .str y ∧ Inw ws y ∧ y ≠ x1) ∧ (∀ d ∈ r', ∃ y, d = .str y ∧ Inw ws y) ∧ acc.length + r'.length ≤ 27 ∧ (0 < acc.length ∨ ∃ y, D.str y ∈ r' ∧ y ≠ x1)) ?_ ?_ _ _ _ ⟨rfl, fun d h => absurd h List.not_mem_nil, fun d hd => inw_of hd, by rw [lw]; show 0 + _ ≤ _; omega, .inr ?_⟩
    · rintro acc S'' ⟨rfl, ha, -, hl1, h0⟩
      refine ⟨u4, newL_ok t5 k5 fun p5 S6 _ n5 _ u5 t6 k6 _ => ?_⟩
      have h0' : 0 < acc.length := h0.resolve_right (fun ⟨_, h, _⟩ => absurd h List.not_mem_nil)
      refine ho a _ _ (m + 3 * r.length + 1) _ _ _ _ t6 ⟨_, .inr ⟨p5, rfl, n5, u5⟩, rfl⟩ h0' (by have : acc.length + 0 ≤ 27 := hl1; omega) fun v S7 hv t7 k7 => ?_
      obtain ⟨y1, rfl, hy1, hne⟩ := ha v hv
      have kk7 := k6.trans k7
      have u7 := kk7 p _ pa h1
      clear hv ha
      array_get_dec
      refine ⟨mulOk (by omega) (by omega) (by omega) (by omega), hn a _ _ (m + 3 * r.length) _ _ _ t7 (by omega) (by omega) fun q S8 q0 q1 t8 k8 => ?_⟩
      have u8 := k8 p _ pa u7
      array_get_dec
      refine ⟨by omega, by omega, hN _ _ ⟨fs ++ [.tup [.str x1, .str y1, .int (q - far)]], some x, some (.str x1), some (.str y1), o8, rfl, upd_same, fun d hd => ?_, by rw [List.length_append]; show _ + 1 + _ = _; omega, t8.own pa pc, (h5.trans (kk7.trans k8)).own hp⟩⟩
      rcases List.mem_append.mp hd with hd | hd
      · exact h2 d hd
      · rw [List.mem_singleton] at hd
        exact ⟨x1, y1, q - far, hd, hx1, hy1, fun z => hne z.symm, by omega, by omega⟩
    · rintro d r' acc S'' ⟨rfl, ha, hr, hl1, h0⟩
      refine ⟨u4, fun N' hN' => ?_⟩
      obtain ⟨y, rfl, hy⟩ := hr d List.mem_cons_self
      have hy' := hy.ok hwd
      rw [List.length_cons] at hl1
      have hr' : ∀ d ∈ r', ∃ y, d = .str y ∧ Inw ws y := fun d hd => hr d (List.mem_cons_of_mem _ hd)
      clear hr
      array_get_dec
      split
      · rename_i hne
        refine ⟨by omega, hN' _ _ ⟨rfl, fun d hd => ?_, hr', by rw [List.length_append]; show _ + 1 + _ ≤ _; omega, .inl (by rw [List.length_append]; show 0 < _ + 1; omega)⟩⟩
        rcases List.mem_append.mp hd with hd | hd
        · exact ha d hd
        · rw [List.mem_singleton] at hd
          exact ⟨y, hd, hy, hne⟩
      · rename_i he
        refine hN' _ _ ⟨rfl, ha, hr', by omega, ?_⟩
        rcases h0 with h0 | ⟨z, hz, hz2⟩
        · exact .inl h0
        · rcases List.mem_cons.mp hz with hz | hz
          · cases hz
            exact absurd hz2 (by simpa using he)
          · exact .inr ⟨z, hz, hz2⟩
    · cases ws with
      | nil => cases hl0
      | cons w ws' =>
        by_cases hx : x1 = ""
        · exact ⟨w, by simp, fun z => (hwd w List.mem_cons_self).ne (z.trans hx)⟩
        · exact ⟨"", by simp, fun z => hx z.symm⟩
/-- the typed facts -/
def FcT (ws : List Str) (f : Str × Str × Int) : Prop := Inw ws f.1 ∧ Inw ws f.2.1 ∧ f.1 ≠ f.2.1
end Mn

/-! LibF: facts: least gaps, what follows. -/
namespace Mn
open PySem
/-- facts, found, x, y, most: number 96 -/
def fd_words_in : FD := ⟨1, 5,
    (.cons (.set (.nm 1) (.dct .nil))
    (.cons (.for_ (.tp (.cons (.nm 2) (.cons (.nm 3) (.cons (.nm 4) .nil)))) (.e (.var 0)) (.cons (.sub (.var 1) (.var 2) (.cst (.bl true)))
    (.cons (.sub (.var 1) (.var 3) (.cst (.bl true)))
    .nil)))
    (.cons (.ret (.bi .sorted (.cons (.var 1) .nil)))
    .nil)))⟩
/-- facts, words, gaps, middle, x, y, most, word, by_it: number 97 -/
def fd_least_gaps : FD := ⟨1, 9,
    (.cons (.set (.nm 1) (.call 96 (.cons (.var 0) .nil)))
    (.cons (.set (.nm 2) (.bi .dict (.cons (.comp (.tup (.cons (.tup (.cons (.var 7) (.cons (.var 7) .nil))) (.cons (.cst (.int 0)) .nil))) (.nm 7) [("word", 7)] (.e (.var 1)) .no) .nil)))
    (.cons (.for_ (.tp (.cons (.nm 4) (.cons (.nm 5) (.cons (.nm 6) .nil)))) (.e (.var 0)) (.cons (.sub (.var 2) (.tup (.cons (.var 4) (.cons (.var 5) .nil))) (.bi .min2 (.cons (.var 6) (.cons (.mth .get (.var 2) (.cons (.tup (.cons (.var 4) (.cons (.var 5) .nil))) (.cons (.var 6) .nil))) .nil))))
    .nil))
    (.cons (.for_ (.nm 3) (.e (.var 1)) (.cons (.for_ (.nm 4) (.e (.var 1)) (.cons (.for_ (.nm 5) (.e (.var 1)) (.cons (.ife (.and (.o2 .isin (.tup (.cons (.var 4) (.cons (.var 3) .nil))) (.var 2)) (.o2 .isin (.tup (.cons (.var 3) (.cons (.var 5) .nil))) (.var 2))) (.cons (.set (.nm 8) (.o2 .add (.o2 .idx (.var 2) (.tup (.cons (.var 4) (.cons (.var 3) .nil)))) (.o2 .idx (.var 2) (.tup (.cons (.var 3) (.cons (.var 5) .nil))))))
    (.cons (.sub (.var 2) (.tup (.cons (.var 4) (.cons (.var 5) .nil))) (.bi .min2 (.cons (.var 8) (.cons (.mth .get (.var 2) (.cons (.tup (.cons (.var 4) (.cons (.var 5) .nil))) (.cons (.var 8) .nil))) .nil))))
    .nil)) .nil)
    .nil))
    .nil))
    .nil))
    (.cons (.ret (.var 2))
    .nil)))))⟩
/-- gaps, two: number 98 -/
def fd_can_be : FD := ⟨1, 2,
    (.cons (.ret (.bi .all (.cons (.comp (.o2 .ge (.o2 .idx (.var 0) (.var 1)) (.cst (.int 0))) (.nm 1) [("two", 1)] (.e (.var 0)) (.so (.o2 .eq (.o2 .idx (.var 1) (.cst (.int 0))) (.o2 .idx (.var 1) (.cst (.int 1)))))) .nil)))
    .nil)⟩
/-- facts, fact, gaps, x, y, most: number 99 -/
def fd_follows : FD := ⟨2, 6,
    (.cons (.set (.nm 2) (.call 97 (.cons (.var 0) .nil)))
    (.cons (.set (.tp (.cons (.nm 3) (.cons (.nm 4) (.cons (.nm 5) .nil)))) (.var 1))
    (.cons (.ret (.or (.not (.call 98 (.cons (.var 2) .nil))) (.and (.o2 .isin (.tup (.cons (.var 3) (.cons (.var 4) .nil))) (.var 2)) (.o2 .le (.o2 .idx (.var 2) (.tup (.cons (.var 3) (.cons (.var 4) .nil)))) (.var 5)))))
    .nil)))⟩
local macro_rules
  | `(tactic| array_get_dec) => `(tactic| ((try simp only [wG_nm, wG_tp, wGs_nil, wGs_cons, wipe, List.set_cons_zero, List.set_cons_succ]); (try rw [wSs_cons]); simp only [wS, wT, wE, wEs, wO, wC, wI_e, wI_rng, wI_rng2, wI_enm, wI_zip, rngW_int, iters_t, iters_r, iters_s, iters_o, itO_lst, itO_dic, itL_t, wG_nm, wG_tp, wGs_nil, wGs_cons, wipe, List.map_cons, List.map_nil, List.length_cons, List.length_nil, List.replicate_succ, List.replicate_zero, List.cons_append, List.nil_append, Nat.zero_add, Nat.reduceAdd, Nat.reduceSub, List.getElem?_cons_zero, List.getElem?_cons_succ, List.set_cons_zero, List.set_cons_succ, Option.some.injEq, exists_eq_left', pairsOf_nil, pairsOf_two, pairsOf_four, dmerge_nil, dmerge_one, oD_dic, oSrt_lst, oSrt_dic, oBl_some, pre_get, mt_get1, mt_get2, sIn_o, sIn_t, inD_in, inD_not, bi_sorted, bi_all, bi_any, bls_map, srtK_map, getD_int, getD_bl, okS, dgetS, dsetSi, dsetSb, okP, dgetP, dsetPi, tab_len, tab_keys, Option.isSome_map, Option.isNone_map, Option.isSome_some, Option.isSome_none, Option.isNone_some, Option.isNone_none, Option.map_none, s1_neg, s1_isN, s1_notN, s2_add, s2_idx, s2_eq, s2_ne, s2_lt, s2_le, s2_gt, s2_ge, s2_in, s2_notin, s2_sub, s2_mul, s2_fdiv, s2_mod, s2_pow, sAdd_ii, sAdd_ss, sAdd_tt, sAdd_oo, sAug_ii, sOrd_lt, sOrd_le, sOrd_gt, sOrd_ge, sIdx_t, sIdx_r, sIdx_s, sIdx_o, look_lst, look_dic, lenO_lst, lenO_dic, setIn_lst, setIn_dic, oM_some, truth_bl, truth_int, truth_non, truth_tup, bi_len_s, bi_len_t, bi_len_r, bi_len_o, bi_abs, bi_list_t, bi_list_r, bi_list_o, bi_tuple_t, bi_tuple_r, bi_tuple_o, bi_min2, bi_max2, bi_dict, mt_append, pre_append, mt_extend, pre_extend, set_o, wSs_nil, slc_s, slc_t, slc_r, slc_o, tyD_bl, tyD_int, tyD_str, tyD_tup, tyD_rol, tyD_non, isTy, sEq_b, eqOk_int, eqOk_non, sEq_d, oL_lst, oLD_lst, oLD_dic, oV_some, oC_some, Option.map_some, Option.getD_some, atI_0, atI_1, atI_2, atI_3, upd_same, D.int.injEq, D.str.injEq, D.bl.injEq, true_and, and_true, decide_eq_true_eq, reduceIte, Bool.false_eq_true, Bool.not_eq_true', Bool.not_true, Bool.not_false, reduceCtorEq, decide_true, decide_false, Bool.or_false, Bool.or_true, Bool.true_or, Bool.false_or, Bool.and_true, Bool.and_false, Bool.true_and, Bool.false_and, eq_self, beq_self_eq_true, decide_eq_false_iff_not, Int.toNat_zero, Int.reduceToNat, Int.reduceLT, Int.reduceLE, Int.cast_ofNat_Int, *]))

abbrev Fc3 := Str × Str × Int
def fcD (f : Fc3) : D := .tup [.str f.1, .str f.2.1, .int f.2.2]
/-- a word of the facts -/
def Iw (fs : List Fc3) (w : Str) : Prop := ∃ f ∈ fs, f.1 = w ∨ f.2.1 = w
theorem Iw.snoc {fs : List Fc3} {f : Fc3} {w : Str} : Iw (fs ++ [f]) w ↔ w = f.1 ∨ w = f.2.1 ∨ Iw fs w := by
  unfold Iw
  constructor
  · rintro ⟨g, hg, h⟩
    rcases List.mem_append.mp hg with hg | hg
    · exact .inr (.inr ⟨g, hg, h⟩)
    · rw [List.mem_singleton.mp hg] at h
      exact h.elim (fun e => .inl e.symm) fun e => .inr (.inl e.symm)
  · rintro (h | h | ⟨g, hg, h⟩)
    · exact ⟨f, by simp, .inl h.symm⟩
    · exact ⟨f, by simp, .inr h.symm⟩
    · exact ⟨g, by simp [hg], h⟩
def Sp_words_in (c : C1) : Prop := ∀ S (fs : List Fc3) (ks : List Str) Q R, ks.length < 64 → (∀ w, Iw fs w → w ∈ ks) →
  (∀ p S' (ys : List Str), S p = none → S' p = some (.lst (ys.map D.str)) → Grw S S' → ys.Nodup → (∀ w, w ∈ ys ↔ Iw fs w) → Q (.obj p) S') → c [.tup (fs.map fcD)] S Q R
theorem words_in_body {Γ : Cl} : Sp_words_in (run Γ fd_words_in) := by
  intro S fs ks Q R hl hk hQ
  have sz := sizeLine_eq
  refine ⟨rfl, ?_⟩
  unfold fd_words_in
  array_get_dec
  refine ⟨by decide, rfl, fun p st hp => ?_⟩
  array_get_dec
  refine wFor_ind (fun r e S' => ∃ (o2 o3 o4 : Option D) (t : List (Str × Bool)) (st : Obj) (dn rs : List Fc3), e = [some (.tup (fs.map fcD)), some (.obj p), o2, o3, o4] ∧ r = rs.map fcD ∧ dn ++ rs = fs ∧
    S' p = some (.dic (tabD D.str D.bl t) st) ∧ Grw S S' ∧ (t.map (·.1)).Nodup ∧ (∀ w, w ∈ t.map (·.1) ↔ Iw dn w)) ?_ ?_ _ _ _
    ⟨none, none, none, [], st, [], fs, rfl, rfl, rfl, upd_same, Grw.refl.new hp, List.nodup_nil, fun w => ⟨fun h => absurd h List.not_mem_nil, fun ⟨_, h, _⟩ => absurd h List.not_mem_nil⟩⟩
  · rintro env S' ⟨o2, o3, o4, t, st, dn, rs, rfl, h1, h2, h3, h4, h5, h6⟩
    refine ⟨trivial, ?_⟩
    cases rs with
    | cons _ _ => cases h1
    | nil =>
      rw [List.append_nil] at h2
      subst h2
      have lt : t.length ≤ ks.length := by
        have := nodup_len h5 fun w hw => hk w ((h6 w).mp hw)
        rwa [List.length_map] at this
      clear h1
      array_get_dec
      refine ⟨by rw [List.length_map]; omega, fun ys hp1 _ q hq => ?_⟩
      refine hQ q _ ys (h4.fresh hq) upd_same (h4.new hq) (hp1.nodup_iff.mpr h5) fun w => ?_
      rw [hp1.mem_iff]
      exact h6 w
  · rintro x r env S' ⟨o2, o3, o4, t, st, dn, rs, rfl, h1, h2, h3, h4, h5, h6⟩
    refine ⟨trivial, fun N hN => ?_⟩
    cases rs with
    | nil => cases h1
    | cons f rs =>
      obtain ⟨rfl, h1'⟩ := List.cons.inj h1
      clear h1
      obtain ⟨f1, f2, f3⟩ := f
      have lk : ∀ t' : List (Str × Bool), (t'.map (·.1)).Nodup → (∀ w, w ∈ t'.map (·.1) → Iw fs w) → t'.length < 64 := fun t' g1 g2 => by
        have := nodup_len g1 fun w hw => hk w (g2 w hw)
        rw [List.length_map] at this
        omega
      have sub : ∀ w, Iw dn w → Iw fs w := fun w ⟨g, hg, h⟩ => ⟨g, by rw [← h2]; simp [hg], h⟩
      have i1 : Iw fs f1 := ⟨_, by rw [← h2]; simp; exact .inr (.inl rfl), .inl rfl⟩
      have i2 : Iw fs f2 := ⟨_, by rw [← h2]; simp; exact .inr (.inl rfl), .inr rfl⟩
      have l1 := lk t h5 fun w hw => sub w ((h6 w).mp hw)
      have n1 := tset_nodup (k := f1) (v := true) h5
      have l2 := lk (tset t f1 true) n1 fun w hw => (tset_keys.mp hw).elim (fun e => e ▸ i1) fun hw => sub w ((h6 w).mp hw)
      rw [show fcD (f1, f2, f3) = .tup [.str f1, .str f2, .int f3] from rfl]
      array_get_dec
      refine ⟨by omega, fun st1 => ?_⟩
      array_get_dec
      refine ⟨by omega, fun st2 => ?_⟩
      refine hN _ _ ⟨_, _, _, tset (tset t f1 true) f2 true, st2, dn ++ [(f1, f2, f3)], rs, rfl, h1', by rw [← h2, List.append_assoc]; rfl, upd_same, (h4.own hp).own hp, tset_nodup n1, fun w => ?_⟩
      rw [tset_keys, tset_keys, h6, Iw.snoc]
      constructor
      · rintro (h | h | h)
        · exact .inr (.inl h)
        · exact .inl h
        · exact .inr (.inr h)
      · rintro (h | h | h)
        · exact .inr (.inl h)
        · exact .inl h
        · exact .inr (.inr h)
end Mn

set_option maxHeartbeats 0
/-! LibF2: least gaps. -/
namespace Mn
open PySem Gap
local macro_rules
  | `(tactic| array_get_dec) => `(tactic| ((try simp only [wG_nm, wG_tp, wGs_nil, wGs_cons, wipe, List.set_cons_zero, List.set_cons_succ]); (try rw [wSs_cons]); simp only [wS, wT, wE, wEs, wO, wC, wI_e, wI_rng, wI_rng2, wI_enm, wI_zip, rngW_int, iters_t, iters_r, iters_s, iters_o, itO_lst, itO_dic, itL_t, wG_nm, wG_tp, wGs_nil, wGs_cons, wipe, List.map_cons, List.map_nil, List.length_cons, List.length_nil, List.replicate_succ, List.replicate_zero, List.cons_append, List.nil_append, Nat.zero_add, Nat.reduceAdd, Nat.reduceSub, Nat.reduceLeDiff, List.getElem?_cons_zero, List.getElem?_cons_succ, List.set_cons_zero, List.set_cons_succ, Option.some.injEq, exists_eq_left', pairsOf_nil, pairsOf_two, pairsOf_four, dmerge_nil, dmerge_one, oD_dic, oSrt_lst, oSrt_dic, oBl_some, pre_get, mt_get1, mt_get2, sIn_o, sIn_t, inD_in, inD_not, bi_sorted, bi_all, bi_any, bls_map, srtK_map, getD_int, getD_bl, okS, dgetS, dsetSi, dsetSb, okP, dgetP, dsetPi, tab_len, tab_keys, Option.isSome_map, Option.isNone_map, Option.isSome_some, Option.isSome_none, Option.isNone_some, Option.isNone_none, Option.map_none, s1_neg, s1_isN, s1_notN, s2_add, s2_idx, s2_eq, s2_ne, s2_lt, s2_le, s2_gt, s2_ge, s2_in, s2_notin, s2_sub, s2_mul, s2_fdiv, s2_mod, s2_pow, sAdd_ii, sAdd_ss, sAdd_tt, sAdd_oo, sAug_ii, sOrd_lt, sOrd_le, sOrd_gt, sOrd_ge, sIdx_t, sIdx_r, sIdx_s, sIdx_o, look_lst, look_dic, lenO_lst, lenO_dic, setIn_lst, setIn_dic, oM_some, truth_bl, truth_int, truth_non, truth_tup, bi_len_s, bi_len_t, bi_len_r, bi_len_o, bi_abs, bi_list_t, bi_list_r, bi_list_o, bi_tuple_t, bi_tuple_r, bi_tuple_o, bi_min2, bi_max2, bi_dict, mt_append, pre_append, mt_extend, pre_extend, set_o, wSs_nil, slc_s, slc_t, slc_r, slc_o, tyD_bl, tyD_int, tyD_str, tyD_tup, tyD_rol, tyD_non, isTy, sEq_b, eqOk_int, eqOk_non, sEq_d, oL_lst, oLD_lst, oLD_dic, oV_some, oC_some, Option.map_some, Option.getD_some, atI_0, atI_1, atI_2, atI_3, upd_same, D.int.injEq, D.str.injEq, D.bl.injEq, true_and, and_true, decide_eq_true_eq, reduceIte, Bool.false_eq_true, Bool.not_eq_true', Bool.not_true, Bool.not_false, reduceCtorEq, decide_true, decide_false, Bool.or_false, Bool.or_true, Bool.true_or, Bool.false_or, Bool.and_true, Bool.and_false, Bool.true_and, Bool.false_and, eq_self, beq_self_eq_true, decide_eq_false_iff_not, Int.toNat_zero, Int.reduceToNat, Int.reduceLT, Int.reduceLE, Int.cast_ofNat_Int, *]))

abbrev Gps := List ((Str × Str) × Int)
def mnI (o : Option Int) (b : Int) : Int := if o.getD b < b then o.getD b else b
theorem mnI_le {o : Option Int} {b : Int} : mnI o b ≤ b := by unfold mnI; split <;> omega
theorem mnI_old {o : Option Int} {b g : Int} (h : o = some g) : mnI o b ≤ g := by
  subst h
  unfold mnI
  show (if g < b then g else b) ≤ g
  split <;> omega
theorem mnI_or {o : Option Int} {b : Int} : mnI o b = b ∨ o = some (mnI o b) := by
  unfold mnI
  cases o with
  | none => left; show (if b < b then b else b) = b; split <;> rfl
  | some g =>
    show (if g < b then g else b) = b ∨ some g = some (if g < b then g else b)
    split
    · exact .inr rfl
    · exact .inl rfl
def Lt (t t' : Gps) : Prop := ∀ p v, tget t p = some v → ∃ v', v' ≤ v ∧ tget t' p = some v'
theorem Lt.refl {t : Gps} : Lt t t := fun p v h => ⟨v, Int.le_refl _, h⟩
theorem Lt.trans {t t1 t2 : Gps} (h : Lt t t1) (h' : Lt t1 t2) : Lt t t2 := fun p v e => by
  obtain ⟨v1, l1, e1⟩ := h p v e
  obtain ⟨v2, l2, e2⟩ := h' p v1 e1
  exact ⟨v2, by omega, e2⟩
def SnF (fs : List Fc3) (x y : Str) (v : Int) : Prop := (x = y ∧ v = 0) ∨ ∃ l, Wk fs x y v l
theorem SnF.join {fs : List Fc3} {x y z : Str} {v w : Int} (h : SnF fs x y v) (g : SnF fs y z w) : SnF fs x z (v + w) := by
  rcases h with ⟨rfl, rfl⟩ | ⟨l, h⟩
  · rw [Int.zero_add]; exact g
  · rcases g with ⟨rfl, rfl⟩ | ⟨k, g⟩
    · rw [Int.add_zero]; exact .inr ⟨l, h⟩
    · exact .inr ⟨_, h.join g⟩
structure Tb (fs : List Fc3) (ys : List Str) (t : Gps) : Prop where
  snd : ∀ x y v, tget t (x, y) = some v → SnF fs x y v
  kin : ∀ p ∈ t.map (·.1), p.1 ∈ ys ∧ p.2 ∈ ys
  nd : (t.map (·.1)).Nodup
  dia : ∀ w ∈ ys, ∃ v, v ≤ 0 ∧ tget t (w, w) = some v
theorem Lt.put {t : Gps} {p : Str × Str} {b : Int} : Lt t (tset t p (mnI (tget t p) b)) := fun q v h => by
  rw [tget_set]
  by_cases e : p = q
  · subst e
    rw [if_pos rfl]
    exact ⟨_, mnI_old h, rfl⟩
  · rw [if_neg e]
    exact ⟨v, Int.le_refl _, h⟩
theorem Tb.put {fs : List Fc3} {ys : List Str} {t : Gps} (h : Tb fs ys t) {x y : Str} {b : Int} (hx : x ∈ ys) (hy : y ∈ ys) (hs : SnF fs x y b) : Tb fs ys (tset t (x, y) (mnI (tget t (x, y)) b)) := by
  refine ⟨fun x' y' v e => ?_, fun p hp => ?_, tset_nodup h.nd, fun w hw => ?_⟩
  · rw [tget_set] at e
    by_cases q : (x, y) = (x', y')
    · rw [if_pos q] at e
      cases q
      rcases @mnI_or (tget t (x, y)) b with g | g
      · rw [g] at e; cases e; exact hs
      · rw [← Option.some.inj e]; exact h.snd _ _ _ g
    · rw [if_neg q] at e
      exact h.snd _ _ _ e
  · rcases tset_keys.mp hp with rfl | hp
    · exact ⟨hx, hy⟩
    · exact h.kin p hp
  · obtain ⟨v, hv, e⟩ := h.dia w hw
    obtain ⟨v', l, e'⟩ := Lt.put (p := (x, y)) (b := b) _ _ e
    exact ⟨v', by omega, e'⟩
theorem put_has {t : Gps} {p : Str × Str} {b : Int} : ∃ v, v ≤ b ∧ tget (tset t p (mnI (tget t p) b)) p = some v := ⟨_, mnI_le, by rw [tget_set, if_pos rfl]⟩
def prods (ys : List Str) : List (Str × Str) := ys.flatMap fun x => ys.map fun y => (x, y)
theorem prods_len {ys zs : List Str} : (ys.flatMap fun x => zs.map fun y => (x, y)).length = ys.length * zs.length := by
  induction ys with
  | nil => simp
  | cons y ys ih => rw [List.flatMap_cons, List.length_append, ih, List.length_map, List.length_cons, Nat.succ_mul, Nat.add_comm]
theorem Tb.len {fs : List Fc3} {ys : List Str} {t : Gps} (h : Tb fs ys t) (hl : ys.length < 64) : t.length ≤ 4096 := by
  have := nodup_len (k := prods ys) h.nd fun p hp => by
    obtain ⟨h1, h2⟩ := h.kin p hp
    unfold prods
    rw [List.mem_flatMap]
    exact ⟨p.1, h1, List.mem_map.mpr ⟨p.2, h2, rfl⟩⟩
  rw [List.length_map] at this
  unfold prods at this
  rw [prods_len] at this
  have : ys.length * ys.length ≤ 63 * 63 := Nat.mul_le_mul (by omega) (by omega)
  omega
/-- nothing below 0 at (x, x) -/
def Dz (t : Gps) : Prop := ∀ x v, tget t (x, x) = some v → 0 ≤ v
def gf (t : Gps) (x y : Str) : Option Int := tget t (x, y)
theorem Dz.of {t t' : Gps} (h : Dz t') (l : Lt t t') : Dz t := fun x v e => by
  obtain ⟨v', l1, e'⟩ := l _ _ e
  have := h x v' e'
  omega
theorem Full.mono {fs : List Fc3} {M M' : List Str} {G : Str → Str → Option Int} (h : Full fs M G) (s : ∀ z ∈ M', z ∈ M) : Full fs M' G := fun x y w l g q => h x y w l g fun z hz => s z (q z hz)
/-- a round of the middle m is done at (x, y) -/
def Stp (t0 t : Gps) (m x y : Str) : Prop := ∀ a b, tget t0 (x, m) = some a → tget t0 (m, y) = some b → ∃ v, v ≤ a + b ∧ tget t (x, y) = some v
theorem Stp.le {t0 t t' : Gps} {m x y : Str} (h : Stp t0 t m x y) (l : Lt t t') : Stp t0 t' m x y := fun a b e1 e2 => by
  obtain ⟨v, h1, h2⟩ := h a b e1 e2
  obtain ⟨v', h3, h4⟩ := l _ _ h2
  exact ⟨v', by omega, h4⟩
theorem Stp.no1 {t0 t : Gps} {m x y : Str} (l : Lt t0 t) (h : tget t (x, m) = none) : Stp t0 t m x y := fun a b e1 _ => by
  obtain ⟨v, _, e⟩ := l _ _ e1
  rw [h] at e
  cases e
theorem Stp.no2 {t0 t : Gps} {m x y : Str} (l : Lt t0 t) (h : tget t (m, y) = none) : Stp t0 t m x y := fun a b _ e1 => by
  obtain ⟨v, _, e⟩ := l _ _ e1
  rw [h] at e
  cases e
theorem Stp.of {t0 t t' : Gps} {m x y : Str} {a b : Int} (l : Lt t0 t) (ha : tget t (x, m) = some a) (hb : tget t (m, y) = some b) (h : ∃ v, v ≤ a + b ∧ tget t' (x, y) = some v) : Stp t0 t' m x y := fun a' b' e1 e2 => by
  obtain ⟨v1, h1, g1⟩ := l _ _ e1
  obtain ⟨v2, h2, g2⟩ := l _ _ e2
  rw [ha] at g1
  rw [hb] at g2
  cases g1
  cases g2
  obtain ⟨v, h3, g3⟩ := h
  exact ⟨v, by omega, g3⟩
theorem round_done {fs : List Fc3} {ys dn : List Str} {t0 t : Gps} {m : Str} (hm : m ∈ ys) (h0 : Tb fs ys t0) (hl : Lt t0 t) (hs : ∀ x ∈ ys, ∀ y ∈ ys, Stp t0 t m x y) (hf : Dz t0 → Full fs dn (gf t0)) (hz : Dz t) : Full fs (dn ++ [m]) (gf t) := by
  have z0 := hz.of hl
  obtain ⟨v, hv, e⟩ := h0.dia m hm
  have := z0 m v e
  have v0 : v = 0 := by omega
  subst v0
  have f1 := full_step (hf z0) (m := m) e
  intro x y w l hw hin
  obtain ⟨g, e1, l1⟩ := f1 x y w l hw fun z hz => (List.mem_append.mp (hin z hz)).elim (List.mem_cons_of_mem _) fun q => by rw [List.mem_singleton.mp q]; exact List.mem_cons_self
  unfold stepG gf at e1
  have old : ∀ g', tget t0 (x, y) = some g' → g' ≤ w → ∃ g, gf t x y = some g ∧ g ≤ w := fun g' e' l' => by
    obtain ⟨v', h1, h2⟩ := hl _ _ e'
    exact ⟨v', h2, by omega⟩
  have kx : ∀ {p q : Str} {v}, tget t0 (p, q) = some v → p ∈ ys ∧ q ∈ ys := fun h => h0.kin _ (tget_some.mp ⟨_, h⟩)
  cases ea : tget t0 (x, m) with
  | none => rw [ea] at e1; exact old g e1 l1
  | some a =>
    cases eb : tget t0 (m, y) with
    | none => rw [ea, eb] at e1; exact old g e1 l1
    | some b =>
      obtain ⟨v', h1, h2⟩ := hs x (kx ea).1 y (kx eb).2 a b ea eb
      rw [ea, eb] at e1
      cases eg : tget t0 (x, y) with
      | none =>
        rw [eg] at e1
        have := Option.some.inj e1
        exact ⟨v', h2, by omega⟩
      | some g' =>
        rw [eg] at e1
        have e2 := Option.some.inj e1
        by_cases c : g' < a + b
        · rw [if_pos c] at e2
          exact old g' eg (by omega)
        · rw [if_neg c] at e2
          exact ⟨v', h2, by omega⟩
theorem tset_new {t : Gps} {k : Str × Str} {v : Int} (h : k ∉ t.map (·.1)) : tset t k v = t ++ [(k, v)] := by
  induction t with
  | nil => rfl
  | cons p r ih =>
    rw [List.map_cons, List.mem_cons] at h
    rw [tset, if_neg (fun e => h (.inl e.symm)), ih (fun q => h (.inr q))]
    rfl
theorem tmerge_new : ∀ {m t : Gps}, (t.map (·.1) ++ m.map (·.1)).Nodup → tmerge t m = t ++ m
  | [], t, _ => by rw [tmerge, List.append_nil]
  | p :: r, t, h => by
    have hp : p.1 ∉ t.map (·.1) := fun q => by
      rw [List.nodup_append] at h
      exact h.2.2 _ q _ (by simp) rfl
    rw [tmerge, tset_new hp, tmerge_new, List.append_assoc]
    · rfl
    · rw [List.map_append, List.append_assoc]
      exact h
def zeros (ys : List Str) : Gps := ys.map fun w => ((w, w), 0)
theorem zeros_keys {ys : List Str} : (zeros ys).map (·.1) = ys.map fun w => (w, w) := by
  unfold zeros
  rw [List.map_map]
  rfl
theorem zeros_nd {ys : List Str} (h : ys.Nodup) : ((zeros ys).map (·.1)).Nodup := by
  rw [zeros_keys, List.Nodup, List.pairwise_map]
  exact h.imp fun n e => n (Prod.mk.inj e).1
theorem zeros_get {ys : List Str} {x y : Str} {v : Int} : tget (zeros ys) (x, y) = some v ↔ x = y ∧ v = 0 ∧ x ∈ ys := by
  induction ys with
  | nil => simp [zeros, tget]
  | cons z ys ih =>
    unfold zeros at *
    rw [List.map_cons, tget]
    split
    · rename_i h
      cases h
      constructor
      · intro h; cases h; exact ⟨rfl, rfl, List.mem_cons_self⟩
      · rintro ⟨_, rfl, _⟩; rfl
    · rename_i h
      rw [ih]
      constructor
      · rintro ⟨h1, h2, h3⟩; exact ⟨h1, h2, List.mem_cons_of_mem _ h3⟩
      · rintro ⟨h1, h2, h3⟩
        refine ⟨h1, h2, (List.mem_cons.mp h3).resolve_left fun e => h (by rw [← h1, e])⟩
theorem zeros_tb {fs : List Fc3} {ys : List Str} (h : ys.Nodup) : Tb fs ys (zeros ys) := by
  refine ⟨fun x y v e => .inl ?_, fun p hp => ?_, zeros_nd h, fun w hw => ⟨0, Int.le_refl _, zeros_get.mpr ⟨rfl, rfl, hw⟩⟩⟩
  · exact ⟨(zeros_get.mp e).1, (zeros_get.mp e).2.1⟩
  · rw [zeros_keys] at hp
    obtain ⟨w, hw, rfl⟩ := List.mem_map.mp hp
    exact ⟨hw, hw⟩
theorem prs_zeros {ys : List Str} : prs (ys.map fun w => .tup [.tup [.str w, .str w], .int 0]) = some (tabD kPair D.int (zeros ys)) := by
  induction ys with
  | nil => rfl
  | cons y ys ih => rw [List.map_cons, prs, ih]; rfl
theorem tab_okT {t : Gps} : (tabD kPair D.int t).all okT = true := by
  unfold tabD
  rw [List.all_map, List.all_eq_true]
  exact fun p _ => rfl
/-- the least gaps of the facts -/
structure Gp (fs : List Fc3) (t : Gps) : Prop where
  snd : ∀ x y v, tget t (x, y) = some v → SnF fs x y v
  cmp : Dz t → ∀ x y w l, Wk fs x y w l → ∃ v, v ≤ w ∧ tget t (x, y) = some v
  len : t.length ≤ 4096
  kin : ∀ p ∈ t.map (·.1), Iw fs p.1 ∧ Iw fs p.2
def Sp_gaps (c : C1) : Prop := ∀ S (fs : List Fc3) (ks : List Str) Q R, ks.length < 64 → (∀ w, Iw fs w → w ∈ ks) →
  (∀ p S' t st, S p = none → S' p = some (.dic (tabD kPair D.int t) st) → Grw S S' → Gp fs t → Q (.obj p) S') → c [.tup (fs.map fcD)] S Q R
theorem gaps_body {Γ : Cl} (hw : Sp_words_in (Γ 96)) : Sp_gaps (run Γ fd_least_gaps) := by
  intro S fs ks Q R hl hk hQ
  have sz := sizeLine_eq
  replace hQ := Hd.mk hQ
  refine ⟨rfl, ?_⟩
  unfold fd_least_gaps
  array_get_dec
  refine hw S fs ks _ _ hl hk fun q S1 ys nq uq g1 ynd yin => ?_
  have yl : ys.length < 64 := by
    have := nodup_len ynd fun w hw => hk w ((yin w).mp hw)
    omega
  array_get_dec
  refine wComp_ind (fun r acc S' => S1 = S' ∧ ∃ dn rs : List Str, dn ++ rs = ys ∧ r = rs.map D.str ∧ acc = dn.map fun w => .tup [.tup [.str w, .str w], .int 0]) ?_ ?_ _ _ _ ⟨rfl, [], ys, rfl, rfl, rfl⟩
  · rintro acc S' ⟨rfl, dn, rs, h1, h2, rfl⟩
    refine ⟨uq, fun u hu => ?_⟩
    cases rs with
    | cons _ _ => cases h2
    | nil =>
      rw [List.append_nil] at h1
      have h1 := h1.symm
      subst h1
      clear h2
      show sBi .dict [.obj u] _ _
      rw [bi_dict, upd_same]
      unfold oDic
      simp only [prs_zeros]
      refine ⟨.inr tab_okT, fun p st hp => ?_⟩
      have e0 : dmerge [] (tabD kPair D.int (zeros ys)) = tabD kPair D.int (zeros ys) := by
        have := dmerge_tab (ev := D.int) kPair_inj (m := zeros ys) (t := [])
        rw [tmerge_new (by simpa using zeros_nd ynd)] at this
        exact this
      rw [e0]
      have gu := (Grw.refl (S := S1)).new (o := .lst (ys.map fun w => .tup [.tup [.str w, .str w], .int 0])) hu
      have p1 := gu.fresh hp
      have g2 := gu.new (o := .dic (tabD kPair D.int (zeros ys)) st) hp
      have up : upd (upd S1 u (.lst (ys.map fun w => .tup [.tup [.str w, .str w], .int 0]))) p (.dic (tabD kPair D.int (zeros ys)) st) p = some (.dic (tabD kPair D.int (zeros ys)) st) := upd_same
      generalize upd (upd S1 u (.lst (ys.map fun w => .tup [.tup [.str w, .str w], .int 0]))) p (.dic (tabD kPair D.int (zeros ys)) st) = S2 at *
      clear hu hp gu e0
      refine wS_join (fun e S' => ∃ (o4 o5 o6 : Option D) (t : Gps) (st : Obj), e = [some (.tup (fs.map fcD)), some (.obj q), some (.obj p), none, o4, o5, o6, none, none] ∧ S' p = some (.dic (tabD kPair D.int t) st) ∧ Grw S1 S' ∧ Tb fs ys t ∧ ∀ f ∈ fs, ∃ v, v ≤ f.2.2 ∧ tget t (f.1, f.2.1) = some v) (fun N hN => ?_) ?_
      · replace hN := Hd.mk hN
        array_get_dec
        refine wFor_ind (fun r e S' => ∃ (o4 o5 o6 : Option D) (t : Gps) (st : Obj) (dn rs : List Fc3), e = [some (.tup (fs.map fcD)), some (.obj q), some (.obj p), none, o4, o5, o6, none, none] ∧ r = rs.map fcD ∧ dn ++ rs = fs ∧ S' p = some (.dic (tabD kPair D.int t) st) ∧ Grw S1 S' ∧ Tb fs ys t ∧ ∀ f ∈ dn, ∃ v, v ≤ f.2.2 ∧ tget t (f.1, f.2.1) = some v) ?_ ?_ _ _ _
          ⟨none, none, none, zeros ys, st, [], fs, rfl, rfl, rfl, up, g2, zeros_tb ynd, fun _ h => absurd h List.not_mem_nil⟩
        · rintro env S' ⟨o4, o5, o6, t, st, dn, rs, rfl, h1, h2, h3, h4, h5, h6⟩
          refine ⟨trivial, ?_⟩
          cases rs with
          | cons _ _ => cases h1
          | nil =>
            rw [List.append_nil] at h2
            have h2 := h2.symm
            subst h2
            exact hN.get _ _ ⟨o4, o5, o6, t, st, rfl, h3, h4, h5, h6⟩
        · rintro x r env S' ⟨o4, o5, o6, t, st, dn, rs, rfl, h1, h2, h3, h4, h5, h6⟩
          refine ⟨trivial, fun N' hN' => ?_⟩
          replace hN' := Hd.mk hN'
          cases rs with
          | nil => cases h1
          | cons f rs =>
            obtain ⟨rfl, h1'⟩ := List.cons.inj h1
            clear h1
            obtain ⟨f1, f2, f3⟩ := f
            have hf : (f1, f2, f3) ∈ fs := by rw [← h2]; simp
            have hx := (yin f1).mpr ⟨_, hf, .inl rfl⟩
            have hy := (yin f2).mpr ⟨_, hf, .inr rfl⟩
            have lt := h5.len yl
            rw [show fcD (f1, f2, f3) = .tup [.str f1, .str f2, .int f3] from rfl]
            array_get_dec
            refine ⟨by omega, fun st1 => ?_⟩
            refine hN'.get _ _ ⟨_, _, _, tset t (f1, f2) (mnI (tget t (f1, f2)) f3), st1, dn ++ [(f1, f2, f3)], rs, rfl, h1', by rw [← h2, List.append_assoc]; rfl, upd_same, h4.own p1, h5.put hx hy (.inr ⟨[], .one hf⟩), fun f hf' => ?_⟩
            rcases List.mem_append.mp hf' with hf' | hf'
            · obtain ⟨v, hv, e⟩ := h6 f hf'
              obtain ⟨v', hv', e'⟩ := Lt.put (p := (f1, f2)) (b := f3) _ _ e
              exact ⟨v', by omega, e'⟩
            · rw [List.mem_singleton.mp hf']
              exact put_has
      · rintro e S3 ⟨o4, o5, o6, t, st, rfl, u3, g3, b3, c3⟩
        have uq3 := g3 q _ uq
        array_get_dec
        refine wFor_ind (fun r e S' => ∃ (o3 o4 o5 o6 o8 : Option D) (t : Gps) (st : Obj) (dn rs : List Str), e = [some (.tup (fs.map fcD)), some (.obj q), some (.obj p), o3, o4, o5, o6, none, o8] ∧ r = rs.map D.str ∧ dn ++ rs = ys ∧ S' p = some (.dic (tabD kPair D.int t) st) ∧ Grw S1 S' ∧ Tb fs ys t ∧ (Dz t → Full fs dn (gf t))) ?_ ?_ _ _ _
          ⟨_, _, _, _, _, t, st, [], ys, rfl, rfl, rfl, u3, g3, b3, fun _ x y w l h hin => ?_⟩
        · rintro env S' ⟨o3, o4, o5, o6, o8, t, st, dn, rs, rfl, h1, h2, h3, h4, h5, h6⟩
          refine ⟨h4 q _ uq, ?_⟩
          cases rs with
          | cons _ _ => cases h1
          | nil =>
            rw [List.append_nil] at h2
            have h2 := h2.symm
            subst h2
            clear h1
            array_get_dec
            refine hQ.get p S' t st (g1.fresh p1) h3 (g1.trans h4) ⟨h5.snd, fun z x y w l h => ?_, h5.len yl, fun p hp => ⟨(yin _).mp (h5.kin p hp).1, (yin _).mp (h5.kin p hp).2⟩⟩
            obtain ⟨g, e, le⟩ := h6 z x y w l h fun v hv => (yin v).mpr (by obtain ⟨y', c', e'⟩ := h.inner v hv; exact ⟨_, e', .inl rfl⟩)
            exact ⟨g, le, e⟩
        · rintro x r env S' ⟨o3, o4, o5, o6, o8, t0, st, dn, rs, rfl, h1, h2, h3, h4, h5, h6⟩
          refine ⟨h4 q _ uq, fun N hN => ?_⟩
          replace hN := Hd.mk hN
          cases rs with
          | nil => cases h1
          | cons m rs =>
            obtain ⟨rfl, h1'⟩ := List.cons.inj h1
            clear h1
            have hm : m ∈ ys := by rw [← h2]; simp
            have uq' := h4 q _ uq
            array_get_dec
            refine wFor_ind (fun r e S' => ∃ (o4 o5 o8 : Option D) (t : Gps) (st : Obj) (dx rx : List Str), e = [some (.tup (fs.map fcD)), some (.obj q), some (.obj p), some (.str m), o4, o5, o6, none, o8] ∧ r = rx.map D.str ∧ dx ++ rx = ys ∧ S' p = some (.dic (tabD kPair D.int t) st) ∧ Grw S1 S' ∧ Tb fs ys t ∧ Lt t0 t ∧ ∀ x ∈ dx, ∀ y ∈ ys, Stp t0 t m x y) ?_ ?_ _ _ _
              ⟨_, _, _, t0, st, [], ys, rfl, rfl, rfl, h3, h4, h5, Lt.refl, fun _ h => absurd h List.not_mem_nil⟩
            · rintro env S2 ⟨o4, o5, o8, t, st, dx, rx, rfl, i1, i2, i3, i4, i5, i6, i7⟩
              refine ⟨i4 q _ uq, ?_⟩
              cases rx with
              | cons _ _ => cases i1
              | nil =>
                rw [List.append_nil] at i2
                have i2 := i2.symm
                subst i2
                exact hN.get _ _ ⟨_, _, _, _, _, t, st, dn ++ [m], rs, rfl, h1', by rw [← h2, List.append_assoc]; rfl, i3, i4, i5, round_done hm h5 i6 i7 h6⟩
            · rintro x r env S2 ⟨o4, o5, o8, t1, st, dx, rx, rfl, i1, i2, i3, i4, i5, i6, i7⟩
              refine ⟨i4 q _ uq, fun N2 hN2 => ?_⟩
              replace hN2 := Hd.mk hN2
              cases rx with
              | nil => cases i1
              | cons x1 rx =>
                obtain ⟨rfl, i1'⟩ := List.cons.inj i1
                clear i1
                have hx : x1 ∈ ys := by rw [← i2]; simp
                have uq2 := i4 q _ uq
                array_get_dec
                refine wFor_ind (fun r e S' => ∃ (o5 o8 : Option D) (t : Gps) (st : Obj) (dy ry : List Str), e = [some (.tup (fs.map fcD)), some (.obj q), some (.obj p), some (.str m), some (.str x1), o5, o6, none, o8] ∧ r = ry.map D.str ∧ dy ++ ry = ys ∧ S' p = some (.dic (tabD kPair D.int t) st) ∧ Grw S1 S' ∧ Tb fs ys t ∧ Lt t0 t ∧ (∀ x ∈ dx, ∀ y ∈ ys, Stp t0 t m x y) ∧ ∀ y ∈ dy, Stp t0 t m x1 y) ?_ ?_ _ _ _
                  ⟨_, _, t1, st, [], ys, rfl, rfl, rfl, i3, i4, i5, i6, i7, fun _ h => absurd h List.not_mem_nil⟩
                · rintro env S3 ⟨o5, o8, t, st, dy, ry, rfl, j1, j2, j3, j4, j5, j6, j7, j8⟩
                  refine ⟨j4 q _ uq, ?_⟩
                  cases ry with
                  | cons _ _ => cases j1
                  | nil =>
                    rw [List.append_nil] at j2
                    have j2 := j2.symm
                    subst j2
                    refine hN2.get _ _ ⟨_, _, _, t, st, dx ++ [x1], rx, rfl, i1', by rw [← i2, List.append_assoc]; rfl, j3, j4, j5, j6, fun x hx y hy => ?_⟩
                    rcases List.mem_append.mp hx with hx | hx
                    · exact j7 x hx y hy
                    · rw [List.mem_singleton.mp hx]; exact j8 y hy
                · rintro x r env S3 ⟨o5, o8, t, st, dy, ry, rfl, j1, j2, j3, j4, j5, j6, j7, j8⟩
                  refine ⟨j4 q _ uq, fun N3 hN3 => ?_⟩
                  replace hN3 := Hd.mk hN3
                  cases ry with
                  | nil => cases j1
                  | cons y1 ry =>
                    obtain ⟨rfl, j1'⟩ := List.cons.inj j1
                    clear j1
                    have hy : y1 ∈ ys := by rw [← j2]; simp
                    have lt := j5.len yl
                    have j2' : (dy ++ [y1]) ++ ry = ys := by rw [← j2, List.append_assoc]; rfl
                    have skip : Stp t0 t m x1 y1 → ∀ y ∈ dy ++ [y1], Stp t0 t m x1 y := fun s y h => (List.mem_append.mp h).elim (j8 y) fun h => by rw [List.mem_singleton.mp h]; exact s
                    cases ea : tget t (x1, m) with
                    | none =>
                      array_get_dec
                      exact hN3.get _ _ ⟨_, _, t, st, dy ++ [y1], ry, rfl, j1', j2', j3, j4, j5, j6, j7, skip (Stp.no1 j6 ea)⟩
                    | some a =>
                      cases eb : tget t (m, y1) with
                      | none =>
                        array_get_dec
                        exact hN3.get _ _ ⟨_, _, t, st, dy ++ [y1], ry, rfl, j1', j2', j3, j4, j5, j6, j7, skip (Stp.no2 j6 eb)⟩
                      | some b =>
                        array_get_dec
                        array_get_dec
                        array_get_dec
                        refine ⟨by omega, fun st1 => ?_⟩
                        have lt1 : Lt t (tset t (x1, y1) (mnI (tget t (x1, y1)) (a + b))) := Lt.put
                        refine hN3.get _ _ ⟨_, _, tset t (x1, y1) (mnI (tget t (x1, y1)) (a + b)), st1, dy ++ [y1], ry, rfl, j1', j2', upd_same, j4.own p1, j5.put hx hy ((j5.snd _ _ _ ea).join (j5.snd _ _ _ eb)), j6.trans lt1, fun x hx y hy => (j7 x hx y hy).le lt1, fun y h => ?_⟩
                        rcases List.mem_append.mp h with h | h
                        · exact (j8 y h).le lt1
                        · rw [List.mem_singleton.mp h]
                          exact Stp.of j6 ea eb put_has
        · cases h with
          | one e => obtain ⟨v, h1, h2⟩ := c3 _ e; exact ⟨v, h2, h1⟩
          | cons e r => exact absurd (hin _ List.mem_cons_self) List.not_mem_nil
  · rintro x r acc S' ⟨rfl, dn, rs, h1, h2, rfl⟩
    refine ⟨uq, fun N hN => ?_⟩
    replace hN := Hd.mk hN
    cases rs with
    | nil => cases h2
    | cons w rs =>
      obtain ⟨rfl, h2'⟩ := List.cons.inj h2
      have : dn.length + (rs.length + 1) = ys.length := by rw [← h1]; simp
      array_get_dec
      refine ⟨by rw [List.length_map]; omega, hN.get _ _ ⟨rfl, dn ++ [w], rs, by rw [← h1, List.append_assoc]; rfl, h2', by rw [List.map_append]; rfl⟩⟩
end Mn

set_option maxHeartbeats 0
/-! LibF3: what follows. -/
namespace Mn
open PySem Gap
/-- one, other, more: number 90 -/
def fd_fact_of : FD := ⟨3, 3,
    (.cons (.ret (.tup (.cons (.o2 .idx (.var 0) (.cst (.int 0))) (.cons (.o2 .idx (.var 1) (.cst (.int 0))) (.cons (.o2 .sub (.o2 .sub (.o2 .idx (.var 1) (.cst (.int 1))) (.o2 .idx (.var 0) (.cst (.int 1)))) (.var 2)) .nil)))))
    .nil)⟩
/-- facts, one, other, more: number 108 -/
def fd_is_less : FD := ⟨4, 4,
    (.cons (.ife (.o2 .ne (.o2 .idx (.var 1) (.cst (.int 0))) (.o2 .idx (.var 2) (.cst (.int 0)))) (.cons (.ret (.call 99 (.cons (.var 0) (.cons (.call 90 (.cons (.var 1) (.cons (.var 2) (.cons (.var 3) .nil)))) .nil))))
    .nil) .nil)
    (.cons (.ret (.or (.o2 .le (.o2 .add (.o2 .idx (.var 1) (.cst (.int 1))) (.var 3)) (.o2 .idx (.var 2) (.cst (.int 1)))) (.not (.call 98 (.cons (.call 97 (.cons (.var 0) .nil)) .nil)))))
    .nil))⟩
local macro_rules
  | `(tactic| array_get_dec) => `(tactic| ((try simp only [wG_nm, wG_tp, wGs_nil, wGs_cons, wipe, List.set_cons_zero, List.set_cons_succ]); (try rw [wSs_cons]); simp only [wS, wT, wE, wEs, wO, wC, wI_e, wI_rng, wI_rng2, wI_enm, wI_zip, rngW_int, iters_t, iters_r, iters_s, iters_o, itO_lst, itO_dic, itL_t, wG_nm, wG_tp, wGs_nil, wGs_cons, wipe, List.map_cons, List.map_nil, List.length_cons, List.length_nil, List.replicate_succ, List.replicate_zero, List.cons_append, List.nil_append, Nat.zero_add, Nat.reduceAdd, Nat.reduceSub, Nat.reduceLeDiff, List.getElem?_cons_zero, List.getElem?_cons_succ, List.set_cons_zero, List.set_cons_succ, Option.some.injEq, exists_eq_left', pairsOf_nil, pairsOf_two, pairsOf_four, dmerge_nil, dmerge_one, oD_dic, oSrt_lst, oSrt_dic, oBl_some, pre_get, mt_get1, mt_get2, sIn_o, sIn_t, inD_in, inD_not, bi_sorted, bi_all, bi_any, bls_map, srtK_map, getD_int, getD_bl, okS, dgetS, dsetSi, dsetSb, okP, dgetP, dsetPi, tab_len, tab_keys, Option.isSome_map, Option.isNone_map, Option.isSome_some, Option.isSome_none, Option.isNone_some, Option.isNone_none, Option.map_none, s1_neg, s1_isN, s1_notN, s2_add, s2_idx, s2_eq, s2_ne, s2_lt, s2_le, s2_gt, s2_ge, s2_in, s2_notin, s2_sub, s2_mul, s2_fdiv, s2_mod, s2_pow, sAdd_ii, sAdd_ss, sAdd_tt, sAdd_oo, sAug_ii, sOrd_lt, sOrd_le, sOrd_gt, sOrd_ge, sIdx_t, sIdx_r, sIdx_s, sIdx_o, look_lst, look_dic, lenO_lst, lenO_dic, setIn_lst, setIn_dic, oM_some, truth_bl, truth_int, truth_non, truth_tup, bi_len_s, bi_len_t, bi_len_r, bi_len_o, bi_abs, bi_list_t, bi_list_r, bi_list_o, bi_tuple_t, bi_tuple_r, bi_tuple_o, bi_min2, bi_max2, bi_dict, mt_append, pre_append, mt_extend, pre_extend, set_o, wSs_nil, slc_s, slc_t, slc_r, slc_o, tyD_bl, tyD_int, tyD_str, tyD_tup, tyD_rol, tyD_non, isTy, sEq_b, eqOk_int, eqOk_non, sEq_d, oL_lst, oLD_lst, oLD_dic, oV_some, oC_some, Option.map_some, Option.getD_some, atI_0, atI_1, atI_2, atI_3, upd_same, D.int.injEq, D.str.injEq, D.bl.injEq, true_and, and_true, decide_eq_true_eq, reduceIte, Bool.false_eq_true, Bool.not_eq_true', Bool.not_true, Bool.not_false, reduceCtorEq, decide_true, decide_false, Bool.or_false, Bool.or_true, Bool.true_or, Bool.false_or, Bool.and_true, Bool.and_false, Bool.true_and, Bool.false_and, eq_self, beq_self_eq_true, decide_eq_false_iff_not, Int.toNat_zero, Int.reduceToNat, Int.reduceLT, Int.reduceLE, Int.cast_ofNat_Int, *]))

/-- a round below 0 -/
def NegR (fs : List Fc3) : Prop := ∃ z w l, Wk fs z z w l ∧ w < 0
/-- what the facts say of x, y, c -/
def Ent (fs : List Fc3) (x y : Str) (c : Int) : Prop := NegR fs ∨ ∃ w l, Wk fs x y w l ∧ w ≤ c
theorem Gp.dz {fs : List Fc3} {t : Gps} (h : Gp fs t) : Dz t ↔ ¬ NegR fs := by
  constructor
  · rintro hz ⟨z, w, l, g, hw⟩
    obtain ⟨v, h1, h2⟩ := h.cmp hz z z w l g
    have := hz z v h2
    omega
  · intro hn x v e
    rcases h.snd x x v e with ⟨_, rfl⟩ | ⟨l, g⟩
    · exact Int.le_refl _
    · exact Int.not_lt.mp fun q => hn ⟨x, v, l, g, q⟩
/-- words that may be compared -/
def Cmpw (t : Gps) : Prop := ∀ p ∈ t.map (·.1), (D.str p.1).eqOk = true ∧ (D.str p.2).eqOk = true
def Sp_can_be (c : C1) : Prop := ∀ S p t st Q R, S p = some (.dic (tabD kPair D.int t) st) → t.length ≤ 4096 → Cmpw t →
  (∀ S' b, Grw S S' → (b = true ↔ Dz t) → Q (.bl b) S') → c [.obj p] S Q R
theorem can_be_body {Γ : Cl} : Sp_can_be (run Γ fd_can_be) := by
  intro S p t st Q R hp hl hc hQ
  replace hQ := Hd.mk hQ
  have sz := sizeLine_eq
  refine ⟨rfl, ?_⟩
  unfold fd_can_be
  array_get_dec
  refine wComp_ind (fun r acc S' => S = S' ∧ ∃ (dn rs : List (Str × Str)) (bs : List Bool), dn ++ rs = t.map (·.1) ∧ r = rs.map kPair ∧ acc = bs.map D.bl ∧ bs.length ≤ dn.length ∧ (bs.all id = true ↔ ∀ x, (x, x) ∈ dn → ∀ v, tget t (x, x) = some v → 0 ≤ v)) ?_ ?_ _ _ _ ⟨rfl, [], t.map (·.1), [], rfl, rfl, rfl, Nat.le_refl _, ⟨fun _ x h => absurd h List.not_mem_nil, fun _ => rfl⟩⟩
  · rintro acc S' ⟨rfl, dn, rs, bs, h1, h2, rfl, h4, h5⟩
    refine ⟨hp, fun q hq => ?_⟩
    cases rs with
    | cons _ _ => cases h2
    | nil =>
      rw [List.append_nil] at h1
      clear h2
      show sBi .all [.obj q] _ _
      rw [bi_all, upd_same, oL_lst, bls_map, oBl_some]
      refine hQ.get _ _ (Grw.refl.new hq) (h5.trans ⟨fun h x v e => h x (by rw [h1]; exact tget_some.mp ⟨v, e⟩) v e, fun h x _ v e => h x v e⟩)
  · rintro x r acc S' ⟨rfl, dn, rs, bs, h1, h2, rfl, h4, h5⟩
    refine ⟨hp, fun N hN => ?_⟩
    replace hN := Hd.mk hN
    cases rs with
    | nil => cases h2
    | cons w rs =>
      obtain ⟨rfl, h2'⟩ := List.cons.inj h2
      clear h2
      obtain ⟨a, b⟩ := w
      have hw : (a, b) ∈ t.map (·.1) := by rw [← h1]; simp
      obtain ⟨ha, hb⟩ := hc _ hw
      obtain ⟨v, hv⟩ := tget_some.mpr hw
      have h1' : (dn ++ [(a, b)]) ++ rs = t.map (·.1) := by rw [← h1, List.append_assoc]; rfl
      have hll : dn.length + (rs.length + 1) = t.length := by
        have := congrArg List.length h1
        rw [List.length_map, List.length_append, List.length_cons] at this
        exact this
      clear hw
      rw [show kPair (a, b) = .tup [.str a, .str b] from rfl]
      array_get_dec
      split
      · rename_i e
        subst e
        refine ⟨by rw [List.length_map]; omega, hN.get _ _ ⟨rfl, dn ++ [(a, a)], rs, bs ++ [decide (0 ≤ v)], h1', h2', by rw [List.map_append]; rfl, by rw [List.length_append, List.length_append]; show _ + 1 ≤ _ + 1; omega, ?_⟩⟩
        rw [List.all_append, Bool.and_eq_true, h5]
        constructor
        · rintro ⟨g1, g2⟩ x hx v' e'
          rcases List.mem_append.mp hx with hx | hx
          · exact g1 x hx v' e'
          · cases List.mem_singleton.mp hx
            rw [hv] at e'
            cases e'
            simpa using g2
        · intro g
          refine ⟨fun x hx => g x (by simp [hx]), ?_⟩
          have := g a (by simp) v hv
          simpa using this
      · rename_i e
        refine hN.get _ _ ⟨rfl, dn ++ [(a, b)], rs, bs, h1', h2', rfl, by rw [List.length_append]; omega, ?_⟩
        rw [h5]
        constructor
        · intro g x hx
          rcases List.mem_append.mp hx with hx | hx
          · exact g x hx
          · have := List.mem_singleton.mp hx
            exact absurd ((Prod.mk.inj this).1.symm.trans (Prod.mk.inj this).2) e
        · exact fun g x hx => g x (by simp [hx])
def Sp_follows (c : C1) : Prop := ∀ S (fs : List Fc3) (ks : List Str) x y (k : Int) Q R, ks.length < 64 → (∀ w, Iw fs w → w ∈ ks) → (∀ w ∈ ks, (D.str w).eqOk = true) → x ≠ y →
  (∀ S' b, Grw S S' → (b = true ↔ Ent fs x y k) → Q (.bl b) S') → c [.tup (fs.map fcD), .tup [.str x, .str y, .int k]] S Q R
theorem follows_body {Γ : Cl} (hg : Sp_gaps (Γ 97)) (hc : Sp_can_be (Γ 98)) : Sp_follows (run Γ fd_follows) := by
  intro S fs ks x y k Q R hl hk he hxy hQ
  replace hQ := Hd.mk hQ
  have sz := sizeLine_eq
  refine ⟨rfl, ?_⟩
  unfold fd_follows
  array_get_dec
  refine hg S fs ks _ _ hl hk fun p S1 t st np up g1 gp => ?_
  have cw : Cmpw t := fun p hp => by
    obtain ⟨v, e⟩ := tget_some.mpr hp
    have := gp.kin p hp
    exact ⟨he _ (hk _ this.1), he _ (hk _ this.2)⟩
  array_get_dec
  array_get_dec
  refine hc S1 p t st _ _ up gp.len cw fun S2 b g2 hb => ?_
  have up2 := g2 p _ up
  have dz := gp.dz
  have g12 := g1.trans g2
  have fin : ∀ b', (b' = true ↔ Ent fs x y k) → Q (.bl b') S2 := fun b' h => hQ.get S2 b' g12 h
  replace fin := Hd.mk fin
  cases b with
  | false =>
    have hn : NegR fs := Classical.byContradiction fun h => absurd (hb.mpr (dz.mpr h)) Bool.false_ne_true
    clear hb
    array_get_dec
    exact fin.get true ⟨fun _ => .inl hn, fun _ => rfl⟩
  | true =>
    have hz := hb.mp rfl
    have hn := dz.mp hz
    clear hb
    cases et : tget t (x, y) with
    | none =>
      array_get_dec
      refine fin.get false ⟨fun h => absurd h Bool.false_ne_true, fun h => ?_⟩
      rcases h with h | ⟨w, l, h, _⟩
      · exact absurd h hn
      · obtain ⟨v, _, e⟩ := gp.cmp hz x y w l h
        rw [et] at e
        cases e
    | some v =>
      array_get_dec
      refine fin.get _ ?_
      rw [decide_eq_true_eq]
      constructor
      · intro h
        rcases gp.snd x y v et with ⟨e, _⟩ | ⟨l, g⟩
        · exact absurd e hxy
        · exact .inr ⟨v, l, g, h⟩
      · rintro (h | ⟨w, l, h, hw⟩)
        · exact absurd h hn
        · obtain ⟨v', h1, e⟩ := gp.cmp hz x y w l h
          rw [et] at e
          cases e
          omega
def Sp_fact_of (c : C1) : Prop := ∀ S x y (i j k : Int) Q R, Q (.tup [.str x, .str y, .int (j - i - k)]) S → c [.tup [.str x, .int i], .tup [.str y, .int j], .int k] S Q R
theorem fact_of_body {Γ : Cl} : Sp_fact_of (run Γ fd_fact_of) := by
  intro S x y i j k Q R hQ
  have sz := sizeLine_eq
  refine ⟨rfl, ?_⟩
  unfold fd_fact_of
  array_get_dec
def Sp_is_less (c : C1) : Prop := ∀ S (fs : List Fc3) (ks : List Str) x y (i j k : Int) Q R, ks.length < 64 → (∀ w, Iw fs w → w ∈ ks) → (∀ w ∈ ks, (D.str w).eqOk = true) → x ∈ ks → y ∈ ks →
  (∀ S' b, Grw S S' → (b = true ↔ if x = y then i + k ≤ j ∨ NegR fs else Ent fs x y (j - i - k)) → Q (.bl b) S') → c [.tup (fs.map fcD), .tup [.str x, .int i], .tup [.str y, .int j], .int k] S Q R
theorem is_less_body {Γ : Cl} (hg : Sp_gaps (Γ 97)) (hc : Sp_can_be (Γ 98)) (hf : Sp_follows (Γ 99)) (ho : Sp_fact_of (Γ 90)) : Sp_is_less (run Γ fd_is_less) := by
  intro S fs ks x y i j k Q R hl hk he hx hy hQ
  replace hQ := Hd.mk hQ
  have sz := sizeLine_eq
  have ex := he x hx
  have ey := he y hy
  refine ⟨rfl, ?_⟩
  unfold fd_is_less
  array_get_dec
  split
  · rename_i h
    array_get_dec
    refine ho S x y i j k _ _ (hf S fs ks x y _ _ _ hl hk he h fun S' b g hb => hQ.get S' b g ?_)
    rw [if_neg h]
    exact hb
  · rename_i h
    have h : x = y := Classical.byContradiction fun q => h q
    array_get_dec
    split
    · rename_i h2
      exact hQ.get _ _ .refl ⟨fun _ => by rw [if_pos h]; exact .inl h2, fun _ => decide_eq_true h2⟩
    · rename_i h2
      refine hg S fs ks _ _ hl hk fun p S1 t st np up g1 gp => hc S1 p t st _ _ up gp.len (fun p hp => ?_) fun S2 b g2 hb => ?_
      · have := gp.kin p hp
        exact ⟨he _ (hk _ this.1), he _ (hk _ this.2)⟩
      · have dz := gp.dz
        refine ⟨b, rfl, hQ.get _ _ (g1.trans g2) ?_⟩
        rw [if_pos h]
        cases b with
        | false => exact ⟨fun _ => .inr (Classical.byContradiction fun h => absurd (hb.mpr (dz.mpr h)) Bool.false_ne_true), fun _ => rfl⟩
        | true => exact ⟨fun h => absurd h Bool.false_ne_true, fun h => absurd (h.resolve_left h2) (dz.mp (hb.mp rfl))⟩
end Mn

/-! LibC2: drawn facts, by their types. -/
namespace Mn
open PySem
/-- drawn facts, by their types -/
theorem fcs_typed {ws : List Str} {far : Int} : ∀ {ds : List D}, (∀ d ∈ ds, Fc ws far d) → ∃ fs : List Fc3, ds = fs.map fcD ∧ ∀ f ∈ fs, FcT ws f
  | [], _ => ⟨[], rfl, fun _ h => absurd h List.not_mem_nil⟩
  | d :: ds, h => by
    obtain ⟨fs, e, hf⟩ := fcs_typed (ds := ds) fun d hd => h d (List.mem_cons_of_mem _ hd)
    obtain ⟨x, y, c, rfl, hx, hy, hn, _⟩ := h d List.mem_cons_self
    refine ⟨(x, y, c) :: fs, by rw [e]; rfl, fun f hf' => ?_⟩
    rcases List.mem_cons.mp hf' with rfl | hf'
    · exact ⟨hx, hy, hn⟩
    · exact hf f hf'
theorem fcs_low {ws : List Str} {far : Int} : ∀ {ds : List D} {fs : List Fc3}, (∀ d ∈ ds, Fc ws far d) → ds = fs.map fcD → ∀ f ∈ fs, -far ≤ f.2.2 ∧ f.2.2 ≤ far := by
  intro ds fs h e f hf
  obtain ⟨x, y, c, e1, _, _, _, h1, h2⟩ := h (fcD f) (by rw [e]; exact List.mem_map.mpr ⟨f, hf, rfl⟩)
  unfold fcD at e1
  cases e1
  exact ⟨h1, h2⟩
theorem fcs_in {ws : List Str} {fs : List Fc3} (h : ∀ f ∈ fs, FcT ws f) {w : Str} (hw : Iw fs w) : w ∈ ("" :: ws : List Str) := by
  obtain ⟨f, hf, e⟩ := hw
  obtain ⟨h1, h2, _⟩ := h f hf
  rcases e with rfl | rfl
  · exact h1.elim (fun e => by rw [e]; exact List.mem_cons_self) (List.mem_cons_of_mem _)
  · exact h2.elim (fun e => by rw [e]; exact List.mem_cons_self) (List.mem_cons_of_mem _)
theorem ws_ok {ws : List Str} (h : ∀ w ∈ ws, Wd w) : ∀ w ∈ ("" :: ws : List Str), (D.str w).eqOk = true := fun w hw => by
  rcases List.mem_cons.mp hw with rfl | hw
  · exact low0
  · exact dat_low (h w hw).1
theorem Inw.mem {ws : List Str} {y : Str} (h : Inw ws y) : y ∈ ("" :: ws : List Str) := h.elim (fun e => by rw [e]; exact List.mem_cons_self) (List.mem_cons_of_mem _)
theorem Stt.grw {a cl : Addr} {S S' : Store} {m : Nat} (h : Stt a cl S m) (g : Grw S S') : Stt a cl S' m := by
  obtain ⟨n, t, cells, h1, h2, r⟩ := h
  exact ⟨n, t, cells, g _ _ h1, g _ _ h2, r⟩
theorem Grw.kp {a : Addr} {S S' : Store} (g : Grw S S') : Kp a S S' := fun q o _ h => g q o h
end Mn

set_option maxHeartbeats 0
/-! LibL: the law's own look at facts: least chains, rounds below 0. -/
namespace Mn
open PySem Gap
/-- _law_facts_here, _law_x, _law_y, _law_words_here, _law_best, _law_ends, _law_turn, _law_one, _law_other, _law_most, _law_farther, _law_word -/
def fd__law_least : FD := ⟨3, 12,
    (.cons (.set (.nm 3) (.lst (.cons (.cst (.str "")) .nil)))
    (.cons (.for_ (.tp (.cons (.nm 7) (.cons (.nm 8) (.cons (.nm 9) .nil)))) (.e (.var 0)) (.cons (.exp (.mth .extend (.var 3) (.cons (.comp (.var 11) (.nm 11) [("_law_word", 11)] (.e (.tup (.cons (.var 7) (.cons (.var 8) .nil)))) (.so (.o2 .notin (.var 11) (.var 3)))) .nil)))
    .nil))
    (.cons (.set (.nm 4) (.dct .nil))
    (.cons (.set (.nm 5) (.dct (.cons (.var 1) (.cons (.cst (.int 0)) .nil))))
    (.cons (.for_ (.nm 6) (.rng (.o2 .add (.o2 .mul (.cst (.int 2)) (.bi .len (.cons (.var 3) .nil))) (.cst (.int 2)))) (.cons (.set (.nm 10) (.dct .nil))
    (.cons (.for_ (.tp (.cons (.nm 7) (.cons (.nm 8) (.cons (.nm 9) .nil)))) (.e (.var 0)) (.cons (.ife (.o2 .isin (.var 7) (.var 5)) (.cons (.sub (.var 10) (.var 8) (.bi .min2 (.cons (.mth .get (.var 10) (.cons (.var 8) (.cons (.o2 .add (.o2 .idx (.var 5) (.var 7)) (.var 9)) .nil))) (.cons (.o2 .add (.o2 .idx (.var 5) (.var 7)) (.var 9)) .nil))))
    .nil) .nil)
    .nil))
    (.cons (.set (.nm 5) (.var 10))
    (.cons (.for_ (.nm 11) (.e (.var 5)) (.cons (.sub (.var 4) (.var 11) (.bi .min2 (.cons (.mth .get (.var 4) (.cons (.var 11) (.cons (.o2 .idx (.var 5) (.var 11)) .nil))) (.cons (.o2 .idx (.var 5) (.var 11)) .nil))))
    .nil))
    .nil)))))
    (.cons (.ret (.mth .get (.var 4) (.cons (.var 2) .nil)))
    .nil))))))⟩
/-- _law_facts_here, _law_words_here, _law_fact, _law_word -/
def fd__law_is_round : FD := ⟨1, 4,
    (.cons (.set (.nm 1) (.o2 .add (.lst (.cons (.cst (.str "")) .nil)) (.comp (.o2 .idx (.var 2) (.cst (.int 0))) (.nm 2) [("_law_fact", 2)] (.e (.var 0)) .no)))
    (.cons (.ret (.bi .any (.cons (.comp (.o2 .lt (.or (.call 102 (.cons (.var 0) (.cons (.var 3) (.cons (.var 3) .nil)))) (.cst (.int 0))) (.cst (.int 0))) (.nm 3) [("_law_word", 3)] (.e (.var 1)) .no) .nil)))
    .nil))⟩
local macro_rules
  | `(tactic| array_get_dec) => `(tactic| ((try simp only [wG_nm, wG_tp, wGs_nil, wGs_cons, wipe, List.set_cons_zero, List.set_cons_succ]); (try rw [wSs_cons]); simp only [wS, wT, wE, wEs, wO, wC, wI_e, wI_rng, wI_rng2, wI_enm, wI_zip, rngW_int, iters_t, iters_r, iters_s, iters_o, itO_lst, itO_dic, itL_t, wG_nm, wG_tp, wGs_nil, wGs_cons, wipe, List.map_cons, List.map_nil, List.length_cons, List.length_nil, List.replicate_succ, List.replicate_zero, List.cons_append, List.nil_append, Nat.zero_add, Nat.reduceAdd, Nat.reduceSub, Nat.reduceLeDiff, List.getElem?_cons_zero, List.getElem?_cons_succ, List.set_cons_zero, List.set_cons_succ, Option.some.injEq, exists_eq_left', pairsOf_nil, pairsOf_two, pairsOf_four, dmerge_nil, dmerge_one, oD_dic, oSrt_lst, oSrt_dic, oBl_some, pre_get, mt_get1, mt_get2, sIn_o, sIn_t, inD_in, inD_not, bi_sorted, bi_all, bi_any, bls_map, srtK_map, getD_int, getD_bl, okS, dgetS, dsetSi, dsetSb, okP, dgetP, dsetPi, tab_len, tab_keys, Option.isSome_map, Option.isNone_map, Option.isSome_some, Option.isSome_none, Option.isNone_some, Option.isNone_none, Option.map_none, s1_neg, s1_isN, s1_notN, s2_add, s2_idx, s2_eq, s2_ne, s2_lt, s2_le, s2_gt, s2_ge, s2_in, s2_notin, s2_sub, s2_mul, s2_fdiv, s2_mod, s2_pow, sAdd_ii, sAdd_ss, sAdd_tt, sAdd_oo, sAug_ii, sOrd_lt, sOrd_le, sOrd_gt, sOrd_ge, sIdx_t, sIdx_r, sIdx_s, sIdx_o, look_lst, look_dic, lenO_lst, lenO_dic, setIn_lst, setIn_dic, oM_some, truth_bl, truth_int, truth_non, truth_tup, bi_len_s, bi_len_t, bi_len_r, bi_len_o, bi_abs, bi_list_t, bi_list_r, bi_list_o, bi_tuple_t, bi_tuple_r, bi_tuple_o, bi_min2, bi_max2, bi_dict, mt_append, pre_append, mt_extend, pre_extend, set_o, wSs_nil, slc_s, slc_t, slc_r, slc_o, tyD_bl, tyD_int, tyD_str, tyD_tup, tyD_rol, tyD_non, isTy, sEq_b, eqOk_int, eqOk_non, sEq_d, oL_lst, oLD_lst, oLD_dic, oV_some, oC_some, Option.map_some, Option.getD_some, atI_0, atI_1, atI_2, atI_3, upd_same, D.int.injEq, D.str.injEq, D.bl.injEq, true_and, and_true, decide_eq_true_eq, reduceIte, Bool.false_eq_true, Bool.not_eq_true', Bool.not_true, Bool.not_false, reduceCtorEq, decide_true, decide_false, Bool.or_false, Bool.or_true, Bool.true_or, Bool.false_or, Bool.and_true, Bool.and_false, Bool.true_and, Bool.false_and, eq_self, beq_self_eq_true, decide_eq_false_iff_not, Int.toNat_zero, Int.reduceToNat, Int.reduceLT, Int.reduceLE, Int.cast_ofNat_Int, *]))

theorem inL_not {x : D} {xs : List D} {S : Store} {Q : KD} : inL true x xs S Q = (x.flat = true ∧ xs.all D.flat = true ∧ Q (.bl (!decide (x ∈ xs))) S) := by rfl
theorem flat_str {x : Str} : (D.str x).flat = true := by rfl
theorem flat_strs {xs : List Str} : (xs.map D.str).all D.flat = true := by
  rw [List.all_map, List.all_eq_true]
  exact fun _ _ => rfl
theorem mem_strs {x : Str} {xs : List Str} : (D.str x ∈ xs.map D.str) = (x ∈ xs) := by
  apply propext
  rw [List.mem_map]
  exact ⟨fun ⟨y, h, e⟩ => D.str.inj e ▸ h, fun h => ⟨x, h, rfl⟩⟩
theorem mn_turn {g b : Int} : (if b < g then b else g) = (if g < b then g else b) := by split <;> split <;> omega
/-- n facts from x to z -/
inductive Wn (fs : List Fc3) (x : Str) : Nat → Str → Int → Prop
  | zero : Wn fs x 0 x 0
  | succ {n : Nat} {y z : Str} {w c : Int} : Wn fs x n y w → (y, z, c) ∈ fs → Wn fs x (n + 1) z (w + c)
theorem Wn.pre {fs : List Fc3} {x y : Str} {c : Int} (e : (x, y, c) ∈ fs) {n : Nat} {z : Str} {w : Int} (h : Wn fs y n z w) : Wn fs x (n + 1) z (c + w) := by
  induction h with
  | zero =>
    have := Wn.succ (Wn.zero (fs := fs) (x := x)) e
    rwa [Int.zero_add, ← Int.add_zero c] at this
  | succ _ e' ih =>
    rw [← Int.add_assoc]
    exact .succ ih e'
theorem Wn.ofWk {fs : List Fc3} {x z : Str} {w : Int} {l : List Str} (h : Wk fs x z w l) : Wn fs x (l.length + 1) z w := by
  induction h with
  | one e =>
    have := Wn.pre e Wn.zero
    rwa [Int.add_zero] at this
  | cons e _ ih => exact Wn.pre e ih
theorem Wn.toWk {fs : List Fc3} {x : Str} : ∀ {n : Nat} {z : Str} {w : Int}, Wn fs x (n + 1) z w → ∃ l, Wk fs x z w l
  | 0, z, w, h => by
    cases h with
    | succ h e =>
      cases h
      rw [Int.zero_add]
      exact ⟨[], .one e⟩
  | n + 1, z, w, h => by
    cases h with
    | succ h e =>
      obtain ⟨l, g⟩ := Wn.toWk h
      exact ⟨_, g.join (.one e)⟩
abbrev LsT := List (Str × Int)
theorem ls_put {t : LsT} {p q : Str} {b v : Int} (h : tget t q = some v) : ∃ v', v' ≤ v ∧ tget (tset t p (mnI (tget t p) b)) q = some v' := by
  rw [tget_set]
  by_cases e : p = q
  · subst e
    rw [if_pos rfl]
    exact ⟨_, mnI_old h, rfl⟩
  · rw [if_neg e]
    exact ⟨v, Int.le_refl _, h⟩
theorem ls_has {t : LsT} {p : Str} {b : Int} : ∃ v, v ≤ b ∧ tget (tset t p (mnI (tget t p) b)) p = some v := ⟨_, mnI_le, by rw [tget_set, if_pos rfl]⟩
theorem ls_back {t : LsT} {p q : Str} {b v : Int} (h : tget (tset t p (mnI (tget t p) b)) q = some v) : (p = q ∧ v = b) ∨ tget t q = some v := by
  rw [tget_set] at h
  by_cases e : p = q
  · rw [if_pos e] at h
    rcases @mnI_or (tget t p) b with g | g
    · rw [g] at h; cases h; exact .inl ⟨e, rfl⟩
    · rw [← Option.some.inj h, ← e]; exact .inr g
  · rw [if_neg e] at h
    exact .inr h
/-- a table of words of ks -/
def Kin (ks : List Str) (t : LsT) : Prop := (t.map (·.1)).Nodup ∧ ∀ w ∈ t.map (·.1), w ∈ ks
theorem Kin.len {ks : List Str} {t : LsT} (h : Kin ks t) (hl : ks.length < 64) : t.length < 64 := by
  have := nodup_len h.1 h.2
  rw [List.length_map] at this
  omega
theorem Kin.set {ks : List Str} {t : LsT} (h : Kin ks t) {w : Str} {v : Int} (hw : w ∈ ks) : Kin ks (tset t w v) := ⟨tset_nodup h.1, fun x hx => (tset_keys.mp hx).elim (fun e => e ▸ hw) (h.2 x)⟩
def En (fs : List Fc3) (x : Str) (i : Nat) (t : LsT) : Prop := (∀ z w, tget t z = some w → Wn fs x i z w) ∧ ∀ z w, Wn fs x i z w → ∃ v, v ≤ w ∧ tget t z = some v
def Bs (fs : List Fc3) (x : Str) (i : Nat) (t : LsT) : Prop := (∀ z w, tget t z = some w → ∃ j, Wn fs x (j + 1) z w) ∧ ∀ j z w, j < i → Wn fs x (j + 1) z w → ∃ v, v ≤ w ∧ tget t z = some v
def Sp_least (c : C1) : Prop := ∀ S (fs : List Fc3) (ks : List Str) x y Q R, ks.length < 64 → (∀ w, Iw fs w → w ∈ ks) → x ∈ ks → fs.length ≤ 100 →
  (∀ S' (o : Option Int), Grw S S' → (∀ w, o = some w → ∃ l, Wk fs x y w l) → (∀ w l, Wk fs x y w l → l.Nodup → ∃ v, v ≤ w ∧ o = some v) → Q ((o.map D.int).getD .non) S') → c [.tup (fs.map fcD), .str x, .str y] S Q R
theorem least_body {Γ : Cl} : Sp_least (run Γ fd__law_least) := by
  intro S fs ks x y Q R hl hk hx hf hQ
  replace hQ := Hd.mk hQ
  have sz := sizeLine_eq
  refine ⟨rfl, ?_⟩
  unfold fd__law_least
  array_get_dec
  intro q hq
  refine wS_join (fun e S1 => ∃ (o7 o8 o9 : Option D) (ws : List Str), e = [some (.tup (fs.map fcD)), some (.str x), some (.str y), some (.obj q), none, none, none, o7, o8, o9, none, none] ∧ S1 q = some (.lst (ws.map D.str)) ∧ Grw S S1 ∧ (∀ w, Iw fs w → w ∈ ws) ∧ ws.length ≤ 201) (fun N hN => ?_) ?_
  · replace hN := Hd.mk hN
    array_get_dec
    refine wFor_ind (fun r e S1 => ∃ (o7 o8 o9 : Option D) (ws : List Str) (dn rs : List Fc3), e = [some (.tup (fs.map fcD)), some (.str x), some (.str y), some (.obj q), none, none, none, o7, o8, o9, none, none] ∧ r = rs.map fcD ∧ dn ++ rs = fs ∧ S1 q = some (.lst (ws.map D.str)) ∧ Grw S S1 ∧ (∀ w, Iw dn w → w ∈ ws) ∧ ws.length ≤ 1 + 2 * dn.length) ?_ ?_ _ _ _
      ⟨none, none, none, [""], [], fs, rfl, rfl, rfl, upd_same, Grw.refl.new hq, fun w ⟨_, h, _⟩ => absurd h List.not_mem_nil, Nat.le_refl _⟩
    · rintro env S1 ⟨o7, o8, o9, ws, dn, rs, rfl, h1, h2, h3, h4, h5, h6⟩
      refine ⟨trivial, ?_⟩
      cases rs with
      | cons _ _ => cases h1
      | nil =>
        rw [List.append_nil] at h2
        have h2 := h2.symm
        subst h2
        clear h1
        exact hN.get _ _ ⟨o7, o8, o9, ws, rfl, h3, h4, h5, by omega⟩
    · rintro d r env S1 ⟨o7, o8, o9, ws, dn, rs, rfl, h1, h2, h3, h4, h5, h6⟩
      refine ⟨trivial, fun N' hN' => ?_⟩
      replace hN' := Hd.mk hN'
      cases rs with
      | nil => cases h1
      | cons f rs =>
        obtain ⟨rfl, h1'⟩ := List.cons.inj h1
        clear h1
        obtain ⟨f1, f2, f3⟩ := f
        have ll : dn.length + (rs.length + 1) = fs.length := by rw [← h2]; simp
        rw [show fcD (f1, f2, f3) = .tup [.str f1, .str f2, .int f3] from rfl]
        array_get_dec
        refine wComp_ind (fun r acc S2 => S1 = S2 ∧ ∃ (rw ds : List Str), r = rw.map D.str ∧ acc = ds.map D.str ∧ ds.length + rw.length ≤ 2 ∧ (f1 ∈ ws ∨ f1 ∈ ds ∨ f1 ∈ rw) ∧ (f2 ∈ ws ∨ f2 ∈ ds ∨ f2 ∈ rw)) ?_ ?_ _ _ _ ⟨rfl, [f1, f2], [], rfl, rfl, Nat.le_refl _, .inr (.inr (by simp)), .inr (.inr (by simp))⟩
        · rintro acc S2 ⟨rfl, rw', ds, i1, rfl, i3, i4, i5⟩
          refine ⟨trivial, fun p hp => ?_⟩
          cases rw' with
          | cons _ _ => cases i1
          | nil =>
            clear i1
            have np : q ≠ p := fun e => by rw [e] at h3; rw [h3] at hp; cases hp
            have e1 := h4.new (o := .lst (ds.map D.str)) hp
            have u1 : upd S1 p (.lst (ds.map D.str)) q = some (.lst (ws.map D.str)) := by rw [upd_ne np]; exact h3
            have u2 : upd S1 p (.lst (ds.map D.str)) p = some (.lst (ds.map D.str)) := upd_same
            generalize upd S1 p (.lst (ds.map D.str)) = S2 at *
            rw [mt_extend, u1, oL_lst, u2, oL_lst]
            simp only [List.length_nil] at i3
            refine ⟨by rw [List.length_append, List.length_map, List.length_map]; omega, ?_⟩
            refine hN'.get _ _ ⟨_, _, _, ws ++ ds, dn ++ [(f1, f2, f3)], rs, rfl, h1', by rw [← h2, List.append_assoc]; rfl, by rw [upd_same, List.map_append], e1.own hq, fun w hw => ?_, by rw [List.length_append, List.length_append]; show _ ≤ 1 + 2 * (_ + 1); omega⟩
            rw [List.mem_append]
            rcases Iw.snoc.mp hw with rfl | rfl | hw
            · exact i4.elim .inl fun h => h.elim .inr fun h => absurd h List.not_mem_nil
            · exact i5.elim .inl fun h => h.elim .inr fun h => absurd h List.not_mem_nil
            · exact .inl (h5 w hw)
        · rintro d r acc S2 ⟨rfl, rw', ds, i1, rfl, i3, i4, i5⟩
          refine ⟨trivial, fun N2 hN2 => ?_⟩
          replace hN2 := Hd.mk hN2
          cases rw' with
          | nil => cases i1
          | cons w rw' =>
            obtain ⟨rfl, i1'⟩ := List.cons.inj i1
            clear i1
            rw [List.length_cons] at i3
            array_get_dec
            refine .inl ?_
            rw [inL_not]
            refine ⟨flat_str, flat_strs, ?_⟩
            simp only [mem_strs]
            have mv : ∀ f, (f ∈ ws ∨ f ∈ ds ∨ f ∈ w :: rw') → (f ∈ ws ∨ f ∈ ds ++ [w] ∨ f ∈ rw') := fun f h => by
              rcases h with h | h | h
              · exact .inl h
              · exact .inr (.inl (by simp [h]))
              · rcases List.mem_cons.mp h with h | h
                · exact .inr (.inl (by simp [h]))
                · exact .inr (.inr h)
            array_get_dec
            split
            · refine ⟨by rw [List.length_map]; omega, hN2.get _ _ ⟨rfl, rw', ds ++ [w], i1', by rw [List.map_append]; rfl, by rw [List.length_append]; show _ + 1 + _ ≤ 2; omega, mv _ i4, mv _ i5⟩⟩
            · rename_i hin
              have hin : w ∈ ws := Classical.byContradiction fun q => hin q
              have mv2 : ∀ f, (f ∈ ws ∨ f ∈ ds ∨ f ∈ w :: rw') → (f ∈ ws ∨ f ∈ ds ∨ f ∈ rw') := fun f h => by
                rcases h with h | h | h
                · exact .inl h
                · exact .inr (.inl h)
                · rcases List.mem_cons.mp h with h | h
                  · exact .inl (h ▸ hin)
                  · exact .inr (.inr h)
              exact hN2.get _ _ ⟨rfl, rw', ds, i1', rfl, by omega, mv2 _ i4, mv2 _ i5⟩
  · rintro e S1 ⟨o7, o8, o9, ws, rfl, u1, g1, hws, wl⟩
    array_get_dec
    refine ⟨rfl, fun pb st0 hpb => ?_⟩
    have g2 := g1.new (o := .dic [] st0) hpb
    have upb : upd S1 pb (.dic [] st0) pb = some (.dic [] st0) := upd_same
    have u2 : upd S1 pb (.dic [] st0) q = some (.lst (ws.map D.str)) := Grw.refl.new hpb q _ u1
    have npb := g1.fresh hpb
    generalize upd S1 pb (.dic [] st0) = S2 at *
    clear hpb u1
    array_get_dec
    refine ⟨rfl, fun pe st1 hpe => ?_⟩
    have g3 := g2.new (o := .dic [(.str x, .int 0)] st1) hpe
    have upe : upd S2 pe (.dic [(.str x, .int 0)] st1) pe = some (.dic [(.str x, .int 0)] st1) := upd_same
    have u3 : upd S2 pe (.dic [(.str x, .int 0)] st1) q = some (.lst (ws.map D.str)) := Grw.refl.new hpe q _ u2
    have upb3 : upd S2 pe (.dic [(.str x, .int 0)] st1) pb = some (.dic [] st0) := Grw.refl.new hpe pb _ upb
    have nee : pe ≠ pb := fun e => by rw [e] at hpe; rw [hpe] at upb; cases upb
    generalize upd S2 pe (.dic [(.str x, .int 0)] st1) = S3 at *
    clear hpe u2 upb g2
    array_get_dec
    refine ⟨mulOk (by decide) (by decide) (by omega) (by rw [List.length_map]; omega), by rw [List.length_map]; omega, ?_⟩
    have eN : (2 * ((ws.map D.str).length : Int) + 2).toNat = 2 * ws.length + 2 := by rw [List.length_map]; omega
    rw [eN]
    refine wFor_ind (fun r e S' => ∃ (o6 o7 o8 o9 o10 o11 : Option D) (pe : Addr) (bt et : LsT) (s1 s2 : Obj) (i : Nat), e = [some (.tup (fs.map fcD)), some (.str x), some (.str y), some (.obj q), some (.obj pb), some (.obj pe), o6, o7, o8, o9, o10, o11] ∧ r.length + i = 2 * ws.length + 2 ∧
      S' pb = some (.dic (tabD D.str D.int bt) s1) ∧ S' pe = some (.dic (tabD D.str D.int et) s2) ∧ pe ≠ pb ∧ Grw S S' ∧ Kin ks bt ∧ Kin ks et ∧ En fs x i et ∧ Bs fs x i bt) ?_ ?_ _ _ _
      ⟨_, _, _, _, _, _, pe, [], [(x, 0)], st0, st1, 0, rfl, by rw [rng_len], upb3, upe, nee, g3, ⟨List.nodup_nil, fun _ h => absurd h List.not_mem_nil⟩, ⟨by simp, fun w hw => ?_⟩, ⟨fun z w h => ?_, fun z w h => ?_⟩, fun z w h => (by cases h), fun j z w h => absurd h (Nat.not_lt_zero _)⟩
    · rintro env S' ⟨o6, o7, o8, o9, o10, o11, pe, bt, et, s1, s2, i, rfl, h1, h2, h3, h4, h5, h6, h7, h8, h9⟩
      refine ⟨trivial, ?_⟩
      array_get_dec
      refine hQ.get S' (tget bt y) h5 (fun w hw => ?_) fun w l hw hd => ?_
      · obtain ⟨j, h⟩ := h9.1 y w hw
        exact h.toWk
      · have := nodup_len hd fun z hz => hws z (by obtain ⟨v, c, e⟩ := hw.inner z hz; exact ⟨_, e, .inl rfl⟩)
        have h1 : 0 + i = 2 * ws.length + 2 := h1
        exact h9.2 l.length y w (by omega) (Wn.ofWk hw)
    · rintro xi r env S1 ⟨o6, o7, o8, o9, o10, o11, pe, bt, et, s1, s2, i, rfl, h1, h2, h3, h4, h5, h6, h7, h8, h9⟩
      refine ⟨trivial, fun N hN => ?_⟩
      replace hN := Hd.mk hN
      rw [List.length_cons] at h1
      array_get_dec
      refine ⟨rfl, fun pf st2 hpf => ?_⟩
      have nfb : pf ≠ pb := fun e => by rw [← e] at h2; rw [hpf] at h2; cases h2
      have nfe : pf ≠ pe := fun e => by rw [← e] at h3; rw [hpf] at h3; cases h3
      have npf := h5.fresh hpf
      have gf1 := (Grw.refl (S := S1)).new (o := .dic [] st2) hpf
      have uf : upd S1 pf (.dic [] st2) pf = some (.dic [] st2) := upd_same
      generalize upd S1 pf (.dic [] st2) = S2 at *
      array_get_dec
      refine wFor_ind (fun r e S' => ∃ (o7 o8 o9 : Option D) (ft : LsT) (sf : Obj) (dn rs : List Fc3), e = [some (.tup (fs.map fcD)), some (.str x), some (.str y), some (.obj q), some (.obj pb), some (.obj pe), some xi, o7, o8, o9, some (.obj pf), o11] ∧ r = rs.map fcD ∧ dn ++ rs = fs ∧
        S' pf = some (.dic (tabD D.str D.int ft) sf) ∧ Grw S1 S' ∧ Kin ks ft ∧ (∀ z w, tget ft z = some w → Wn fs x (i + 1) z w) ∧ ∀ f ∈ dn, ∀ v, tget et f.1 = some v → ∃ w, w ≤ v + f.2.2 ∧ tget ft f.2.1 = some w) ?_ ?_ _ _ _
        ⟨_, _, _, [], st2, [], fs, rfl, rfl, rfl, uf, gf1, ⟨List.nodup_nil, fun _ h => absurd h List.not_mem_nil⟩, fun z w h => (by cases h), fun _ h => absurd h List.not_mem_nil⟩
      · rintro env S' ⟨o7, o8, o9, ft, sf, dn, rs, rfl, i1, i2, i3, i4, i5, i6, i7⟩
        refine ⟨trivial, ?_⟩
        cases rs with
        | cons _ _ => cases i1
        | nil =>
          rw [List.append_nil] at i2
          have i2 := i2.symm
          subst i2
          clear i1
          array_get_dec
          array_get_dec
          refine wFor_ind (fun r e S' => ∃ (o11 : Option D) (bt' : LsT) (s : Obj) (dk rk : List Str), e = [some (.tup (fs.map fcD)), some (.str x), some (.str y), some (.obj q), some (.obj pb), some (.obj pf), some xi, o7, o8, o9, some (.obj pf), o11] ∧ r = rk.map D.str ∧ dk ++ rk = ft.map (·.1) ∧
            S' pb = some (.dic (tabD D.str D.int bt') s) ∧ S' pf = some (.dic (tabD D.str D.int ft) sf) ∧ Grw S S' ∧ Kin ks bt' ∧ (∀ z w, tget bt' z = some w → tget bt z = some w ∨ tget ft z = some w) ∧ (∀ z w, tget bt z = some w → ∃ v, v ≤ w ∧ tget bt' z = some v) ∧ ∀ z ∈ dk, ∀ w, tget ft z = some w → ∃ v, v ≤ w ∧ tget bt' z = some v) ?_ ?_ _ _ _
            ⟨_, bt, s1, [], ft.map (·.1), rfl, rfl, rfl, i4 _ _ h2, i3, h5.trans i4, h6, fun _ _ h => .inl h, fun z w h => ⟨w, Int.le_refl _, h⟩, fun _ h => absurd h List.not_mem_nil⟩
          · rintro env S2 ⟨o11, bt', s, dk, rk, rfl, j1, j2, j3, j4, j5, j6, j7, j8, j9⟩
            refine ⟨j4, ?_⟩
            cases rk with
            | cons _ _ => cases j1
            | nil =>
              rw [List.append_nil] at j2
              have cf : ∀ z w, Wn fs x (i + 1) z w → ∃ v, v ≤ w ∧ tget ft z = some v := fun z w h => by
                cases h with
                | succ h e =>
                  obtain ⟨v, hv, e1⟩ := h8.2 _ _ h
                  obtain ⟨w1, hw1, e2⟩ := i7 _ e v e1
                  simp only at hw1
                  exact ⟨w1, by omega, e2⟩
              refine hN.get _ _ ⟨_, _, _, _, _, _, pf, bt', ft, s, sf, i + 1, rfl, by omega, j3, j4, nfb, j5, j6, i5, ⟨i6, cf⟩, fun z w h => (j7 z w h).elim (h9.1 z w) fun h => ⟨i, i6 z w h⟩, fun j z w hj h => ?_⟩
              by_cases e : j = i
              · subst e
                obtain ⟨v, hv, e1⟩ := cf z w h
                obtain ⟨v', hv', e2⟩ := j9 z (by rw [j2]; exact tget_some.mp ⟨v, e1⟩) v e1
                exact ⟨v', by omega, e2⟩
              · obtain ⟨v, hv, e1⟩ := h9.2 j z w (by omega) h
                obtain ⟨v', hv', e2⟩ := j8 z v e1
                exact ⟨v', by omega, e2⟩
          · rintro d r env S2 ⟨o11, bt', s, dk, rk, rfl, j1, j2, j3, j4, j5, j6, j7, j8, j9⟩
            refine ⟨j4, fun N2 hN2 => ?_⟩
            replace hN2 := Hd.mk hN2
            cases rk with
            | nil => cases j1
            | cons z rk =>
              obtain ⟨rfl, j1'⟩ := List.cons.inj j1
              clear j1
              have hz : z ∈ ft.map (·.1) := by rw [← j2]; simp
              have hzk := i5.2 z hz
              obtain ⟨v, hv⟩ := tget_some.mpr hz
              have j2' : (dk ++ [z]) ++ rk = ft.map (·.1) := by rw [← j2, List.append_assoc]; rfl
              have lt := j6.len hl
              clear hz j2 h8 h9
              array_get_dec
              rw [mn_turn]
              refine ⟨by omega, fun s' => hN2.get _ _ ⟨_, tset bt' z (mnI (tget bt' z) v), s', dk ++ [z], rk, rfl, j1', j2', upd_same, by rw [upd_ne nfb]; exact j4, j5.own npb, j6.set hzk, fun z' w h => ?_, fun z' w h => ?_, fun z' h w e => ?_⟩⟩
              · rcases ls_back h with ⟨e1, e2⟩ | h
                · rw [← e1, e2]; exact .inr hv
                · exact j7 z' w h
              · obtain ⟨v1, l1, e1⟩ := j8 z' w h
                obtain ⟨v2, l2, e2⟩ := ls_put (p := z) (b := v) e1
                exact ⟨v2, by omega, e2⟩
              · rcases List.mem_append.mp h with h | h
                · obtain ⟨v1, l1, e1⟩ := j9 z' h w e
                  obtain ⟨v2, l2, e2⟩ := ls_put (p := z) (b := v) e1
                  exact ⟨v2, by omega, e2⟩
                · rw [List.mem_singleton.mp h] at e ⊢
                  rw [hv] at e
                  cases e
                  exact ls_has
      · rintro d r env S' ⟨o7, o8, o9, ft, sf, dn, rs, rfl, i1, i2, i3, i4, i5, i6, i7⟩
        refine ⟨trivial, fun N2 hN2 => ?_⟩
        replace hN2 := Hd.mk hN2
        cases rs with
        | nil => cases i1
        | cons f rs =>
          obtain ⟨rfl, i1'⟩ := List.cons.inj i1
          clear i1
          obtain ⟨f1, f2, f3⟩ := f
          have hf' : (f1, f2, f3) ∈ fs := by rw [← i2]; simp
          have h2' : f2 ∈ ks := hk f2 ⟨_, hf', .inr rfl⟩
          have i2' : (dn ++ [(f1, f2, f3)]) ++ rs = fs := by rw [← i2, List.append_assoc]; rfl
          have u3' := i4 _ _ h3
          have lt := i5.len hl
          clear i2
          rw [show fcD (f1, f2, f3) = .tup [.str f1, .str f2, .int f3] from rfl]
          cases ev : tget et f1 with
          | none =>
            array_get_dec
            refine hN2.get _ _ ⟨_, _, _, ft, sf, dn ++ [(f1, f2, f3)], rs, rfl, i1', i2', i3, i4, i5, i6, fun f h v e => ?_⟩
            rcases List.mem_append.mp h with h | h
            · exact i7 f h v e
            · rw [List.mem_singleton.mp h] at e
              rw [ev] at e
              cases e
          | some v =>
            array_get_dec
            array_get_dec
            rw [mn_turn]
            refine ⟨by omega, fun s' => hN2.get _ _ ⟨_, _, _, tset ft f2 (mnI (tget ft f2) (v + f3)), s', dn ++ [(f1, f2, f3)], rs, rfl, i1', i2', upd_same, i4.own hpf, i5.set h2', fun z w h => ?_, fun f h v' e => ?_⟩⟩
            · rcases ls_back h with ⟨e1, e2⟩ | h
              · rw [← e1, e2]; exact .succ (h8.1 _ _ ev) hf'
              · exact i6 z w h
            · rcases List.mem_append.mp h with h | h
              · obtain ⟨v1, l1, e1⟩ := i7 f h v' e
                obtain ⟨v2, l2, e2⟩ := ls_put (p := f2) (b := v + f3) e1
                exact ⟨v2, by omega, e2⟩
              · rw [List.mem_singleton.mp h] at e ⊢
                rw [ev] at e
                cases e
                exact ls_has
    · rw [List.mem_singleton.mp hw]; exact hx
    · rw [tget] at h
      split at h
      · rename_i e; cases h; rw [← e]; exact .zero
      · cases h
    · cases h
      exact ⟨0, Int.le_refl _, by rw [tget, if_pos rfl]⟩
def Sp_is_round (c : C1) : Prop := ∀ S (fs : List Fc3) (ks : List Str) Q R, ks.length < 64 → (∀ w, Iw fs w → w ∈ ks) → ("" : Str) ∈ ks → fs.length ≤ 100 →
  (∀ S' b, Grw S S' → (b = true ↔ NegR fs) → Q (.bl b) S') → c [.tup (fs.map fcD)] S Q R
theorem is_round_body {Γ : Cl} (hle : Sp_least (Γ 102)) : Sp_is_round (run Γ fd__law_is_round) := by
  intro S fs ks Q R hl hk h0 hf hQ
  replace hQ := Hd.mk hQ
  have sz := sizeLine_eq
  refine ⟨rfl, ?_⟩
  unfold fd__law_is_round
  array_get_dec
  intro p hp
  have gp := (Grw.refl (S := S)).new (o := .lst [.str ""]) hp
  have up : upd S p (.lst [.str ""]) p = some (.lst [.str ""]) := upd_same
  generalize upd S p (.lst [.str ""]) = S1 at *
  refine wComp_ind (fun r acc S2 => S1 = S2 ∧ ∃ (dn rs : List Fc3), r = rs.map fcD ∧ dn ++ rs = fs ∧ acc = (dn.map (·.1)).map D.str) ?_ ?_ _ _ _ ⟨rfl, [], fs, rfl, rfl, rfl⟩
  · rintro acc S2 ⟨rfl, dn, rs, i1, i2, rfl⟩
    refine ⟨trivial, fun p2 hp2 => ?_⟩
    cases rs with
    | cons _ _ => cases i1
    | nil =>
      rw [List.append_nil] at i2
      have i2 := i2.symm
      subst i2
      clear i1
      have g2 := gp.new (o := .lst ((fs.map (·.1)).map D.str)) hp2
      have ne : p ≠ p2 := fun e => by rw [e, hp2] at up; cases up
      have u1 : upd S1 p2 (.lst ((fs.map (·.1)).map D.str)) p = some (.lst [.str ""]) := by rw [upd_ne ne]; exact up
      have u2 : upd S1 p2 (.lst ((fs.map (·.1)).map D.str)) p2 = some (.lst ((fs.map (·.1)).map D.str)) := upd_same
      generalize upd S1 p2 (.lst ((fs.map (·.1)).map D.str)) = S2 at *
      array_get_dec
      refine ⟨by rw [List.length_map, List.length_map]; omega, fun q hq => ?_⟩
      have g3 := g2.new (o := .lst (D.str "" :: (fs.map (·.1)).map D.str)) hq
      have u3 : upd S2 q (.lst (D.str "" :: (fs.map (·.1)).map D.str)) q = some (.lst ((("" :: fs.map (·.1)) : List Str).map D.str)) := upd_same
      generalize upd S2 q (.lst (D.str "" :: (fs.map (·.1)).map D.str)) = S3 at *
      have wsk : ∀ w ∈ ("" :: fs.map (·.1) : List Str), w ∈ ks := fun w hw => by
        rcases List.mem_cons.mp hw with rfl | hw
        · exact h0
        · obtain ⟨f, hf, rfl⟩ := List.mem_map.mp hw
          exact hk _ ⟨f, hf, .inl rfl⟩
      have wst : ∀ f ∈ fs, f.1 ∈ ("" :: fs.map (·.1) : List Str) := fun f hf => List.mem_cons_of_mem _ (List.mem_map.mpr ⟨f, hf, rfl⟩)
      have wsl : ("" :: fs.map (·.1) : List Str).length ≤ 101 := by rw [List.length_cons, List.length_map]; omega
      generalize ("" :: fs.map (·.1) : List Str) = ws at *
      clear u1 u2 hp2 hq ne
      array_get_dec
      refine wComp_ind (fun r acc S' => ∃ (dn rs : List Str) (bs : List Bool), dn ++ rs = ws ∧ r = rs.map D.str ∧ acc = bs.map D.bl ∧ bs.length = dn.length ∧ Grw S3 S' ∧ (bs.any id = true → NegR fs) ∧ (∀ w ∈ dn, ∀ v l, Wk fs w w v l → l.Nodup → v < 0 → bs.any id = true)) ?_ ?_ _ _ _ ⟨[], ws, [], rfl, rfl, rfl, rfl, .refl, fun h => absurd h Bool.false_ne_true, fun _ h => absurd h List.not_mem_nil⟩
      · rintro acc S' ⟨dn, rs, bs, j1, j2, rfl, j3, j4, j5, j6⟩
        refine ⟨j4 _ _ u3, fun b hb => ?_⟩
        cases rs with
        | cons _ _ => cases j2
        | nil =>
          rw [List.append_nil] at j1
          have j1 := j1.symm
          subst j1
          clear j2
          show sBi .any [.obj b] _ _
          rw [bi_any, upd_same, oL_lst, bls_map, oBl_some]
          refine hQ.get _ _ ((g3.trans j4).new hb) ⟨j5, fun ⟨z, w, l, h, hw⟩ => ?_⟩
          obtain ⟨z', w', l', h', hw', nd⟩ := shortRound (l.length + 1) (by omega) h hw
          obtain ⟨v, c, e⟩ := h'.start
          exact j6 z' (wst _ e) w' l' h' nd hw'
      · rintro x r acc S' ⟨dn, rs, bs, j1, j2, rfl, j3, j4, j5, j6⟩
        refine ⟨j4 _ _ u3, fun N hN => ?_⟩
        replace hN := Hd.mk hN
        cases rs with
        | nil => cases j2
        | cons w rs =>
          obtain ⟨rfl, j2'⟩ := List.cons.inj j2
          clear j2
          have hw : w ∈ ks := wsk w (by rw [← j1]; simp)
          have ll : dn.length + (rs.length + 1) = ws.length := by rw [← j1]; simp
          have j1' : (dn ++ [w]) ++ rs = ws := by rw [← j1, List.append_assoc]; rfl
          clear j1
          array_get_dec
          refine hle S' fs ks w w _ _ hl hk hw hf fun S4 o g4 ho1 ho2 => ?_
          have fin : ∀ b : Bool, (b = true ↔ ∃ v, o = some v ∧ v < 0) → (bs.map D.bl).length < sizeLine ∧ N (bs.map D.bl ++ [.bl b]) S4 := fun b hb => by
            refine ⟨by rw [List.length_map]; omega, hN.get _ _ ⟨dn ++ [w], rs, bs ++ [b], j1', j2', by rw [List.map_append]; rfl, by rw [List.length_append, List.length_append, j3]; rfl, j4.trans g4, fun h => ?_, fun z hz v l h nd hv => ?_⟩⟩
            · rw [List.any_append, Bool.or_eq_true] at h
              rcases h with h | h
              · exact j5 h
              · have h : b = true := by simpa using h
                obtain ⟨v, e, hv⟩ := hb.mp h
                obtain ⟨l, g⟩ := ho1 v e
                exact ⟨w, v, l, g, hv⟩
            · rw [List.any_append, Bool.or_eq_true]
              rcases List.mem_append.mp hz with hz | hz
              · exact .inl (j6 z hz v l h nd hv)
              · rw [List.mem_singleton.mp hz] at h
                obtain ⟨v', l', e⟩ := ho2 v l h nd
                exact .inr (by simpa using hb.mpr ⟨v', e, by omega⟩)
          rw [sz] at fin
          replace fin := Hd.mk fin
          cases o with
          | none =>
            refine ⟨false, rfl, ?_⟩
            exact fin.get false ⟨fun h => absurd h Bool.false_ne_true, fun ⟨v, e, _⟩ => by cases e⟩
          | some v =>
            refine ⟨v != 0, rfl, ?_⟩
            split
            · exact fin.get _ ⟨fun h => ⟨v, rfl, of_decide_eq_true h⟩, fun ⟨v', e, h⟩ => by cases e; exact decide_eq_true h⟩
            · rename_i h
              have h : v = 0 := by simpa using h
              refine fin.get false ⟨fun h => absurd h Bool.false_ne_true, fun ⟨v', e, h'⟩ => by cases e; omega⟩
  · rintro x r acc S2 ⟨rfl, dn, rs, i1, i2, rfl⟩
    refine ⟨trivial, fun N hN => ?_⟩
    replace hN := Hd.mk hN
    cases rs with
    | nil => cases i1
    | cons f rs =>
      obtain ⟨rfl, i1'⟩ := List.cons.inj i1
      clear i1
      obtain ⟨f1, f2, f3⟩ := f
      have ll : dn.length + (rs.length + 1) = fs.length := by rw [← i2]; simp
      have i2' : (dn ++ [(f1, f2, f3)]) ++ rs = fs := by rw [← i2, List.append_assoc]; rfl
      clear i2
      rw [show fcD (f1, f2, f3) = .tup [.str f1, .str f2, .int f3] from rfl]
      array_get_dec
      exact ⟨by rw [List.length_map, List.length_map]; omega, hN.get _ _ ⟨rfl, dn ++ [(f1, f2, f3)], rs, i1', i2', by rw [List.map_append, List.map_append]; rfl⟩⟩
end Mn

/-! LibT2: tables, further; rules for [::-1], list(d.items()). -/
namespace Mn
open PySem
section
variable {κ ν : Type} [DecidableEq κ] {ek : κ → D} {ev : ν → D}
theorem tset_fresh {t : List (κ × ν)} {k : κ} {v : ν} (h : k ∉ t.map (·.1)) : tset t k v = t ++ [(k, v)] := by
  induction t with
  | nil => rfl
  | cons p r ih =>
    rw [List.map_cons, List.mem_cons] at h
    rw [tset, if_neg (fun e => h (.inl e.symm)), ih (fun q => h (.inr q))]
    rfl
theorem tmerge_fresh : ∀ {m t : List (κ × ν)}, (t.map (·.1) ++ m.map (·.1)).Nodup → tmerge t m = t ++ m
  | [], t, _ => by rw [tmerge, List.append_nil]
  | p :: r, t, h => by
    have hp : p.1 ∉ t.map (·.1) := fun q => by
      rw [List.nodup_append] at h
      exact h.2.2 _ q _ (by simp) rfl
    rw [tmerge, tset_fresh hp, tmerge_fresh, List.append_assoc]
    · rfl
    · rw [List.map_append, List.append_assoc]
      exact h
theorem tget_app {t u : List (κ × ν)} {k : κ} : tget (t ++ u) k = (tget t k).or (tget u k) := by
  induction t with
  | nil => rfl
  | cons p r ih =>
    show tget (p :: (r ++ u)) k = _
    rw [tget, tget, ih]
    split <;> rfl
theorem tget_fun {f : κ → ν} {ks : List κ} {k : κ} (h : k ∈ ks) : tget (ks.map fun w => (w, f w)) k = some (f k) := by
  induction ks with
  | nil => cases h
  | cons w ks ih =>
    rw [List.map_cons, tget]
    split
    · rename_i e
      have e : w = k := e
      rw [e]
    · rename_i e
      exact ih ((List.mem_cons.mp h).resolve_left fun q => e q.symm)
end
theorem prs_tab {ν : Type} {ev : ν → D} : ∀ {t : List (Str × ν)}, prs (t.map fun p => .tup [.str p.1, ev p.2]) = some (tabD D.str ev t)
  | [] => rfl
  | p :: r => by
    show prs (.tup [.str p.1, ev p.2] :: r.map _) = _
    rw [prs, prs_tab]
    rfl
theorem tab_items {ν : Type} {ev : ν → D} {t : List (Str × ν)} : (tabD D.str ev t).map (fun p => D.tup [p.1, p.2]) = t.map fun p => .tup [.str p.1, ev p.2] := by
  unfold tabD
  (rw [List.map_map]) <;> rfl
theorem itms_o {a : Addr} {S : Store} {Q : KD} : sItms (.obj a) S Q = oD (S a) fun kvs => kvs.all (·.1.sca) = true ∧ newL (kvs.map fun p => .tup [p.1, p.2]) S Q := by
  unfold sItms oD
  (try simp only) <;> (cases S a with
  | none => rfl
  | some o => cases o <;> rfl)
theorem tabS_sca {ν : Type} {ev : ν → D} {t : List (Str × ν)} : (tabD D.str ev t).all (·.1.sca) = true := tab_sca kStr_sca
/-! numbers of words -/
def numT (t : List (Str × Int)) (w : Str) : Int := if w = "" then 0 else (tget t w).getD 0
def AskT (t : List (Str × Int)) (w : Str) : Prop := (D.str w).eqOk = true ∧ (w = "" ∨ ∃ i, tget t w = some i)
end Mn

/-! Bnd: numbers near 0 against a fact. -/
namespace Gap
section
variable {α : Type} [DecidableEq α] {fs : List (α × α × Int)}
/-- a way from a through the places, its weight -/
inductive Pw (fs : List (α × α × Int)) : α → List α → Int → Prop
  | nil {a : α} : Pw fs a [] 0
  | cons {a b : α} {c w : Int} {vs : List α} : (a, b, c) ∈ fs → Pw fs b vs w → Pw fs a (b :: vs) (c + w)
theorem Pw.split {z : α} : ∀ {q : List α} {a : α} {w : Int} {r : List α}, Pw fs a (q ++ z :: r) w → ∃ w1 w2, Wk fs a z w1 q ∧ Pw fs z r w2 ∧ w = w1 + w2
  | [], a, w, r, h => by
    cases h with
    | cons e g => exact ⟨_, _, .one e, g, rfl⟩
  | b :: q, a, w, r, h => by
    cases h with
    | cons e g =>
      obtain ⟨w1, w2, h1, h2, h3⟩ := Pw.split g
      exact ⟨_, w2, .cons e h1, h2, by rw [h3, Int.add_assoc]⟩
theorem Pw.join {a z : α} {w v : Int} {l r : List α} (h : Wk fs a z w l) (g : Pw fs z r v) : Pw fs a (l ++ z :: r) (w + v) := by
  induction h with
  | one e => exact .cons e g
  | cons e _ ih =>
    rw [Int.add_assoc]
    exact .cons e (ih g)
theorem Pw.short (hr : ∀ x w l, Wk fs x x w l → 0 ≤ w) : ∀ (n : Nat) {a : α} {vs : List α} {w : Int}, vs.length < n → Pw fs a vs w → ∃ vs' w', Pw fs a vs' w' ∧ w' ≤ w ∧ (a :: vs').Nodup
  | 0, _, _, _, h, _ => by omega
  | n + 1, a, vs, w, hl, h => by
    by_cases hd : (a :: vs).Nodup
    · exact ⟨vs, w, h, Int.le_refl _, hd⟩
    · obtain ⟨z, p, q, r, e⟩ := dup_split hd
      cases p with
      | nil =>
        obtain ⟨rfl, rfl⟩ := List.cons.inj e
        obtain ⟨w1, w2, h1, h2, rfl⟩ := Pw.split h
        have := hr _ _ _ h1
        obtain ⟨vs', w', g1, g2, g3⟩ := Pw.short hr n (by simp at hl ⊢; omega) h2
        exact ⟨vs', w', g1, by omega, g3⟩
      | cons b p =>
        obtain ⟨rfl, rfl⟩ := List.cons.inj e
        obtain ⟨w1, w2, h1, h2, rfl⟩ := Pw.split h
        obtain ⟨w3, w4, h3, h4, rfl⟩ := Pw.split h2
        have := hr _ _ _ h3
        obtain ⟨vs', w', g1, g2, g3⟩ := Pw.short hr n (vs := p ++ z :: r) (by simp at hl ⊢; omega) (Pw.join h1 h4)
        exact ⟨vs', w', g1, by omega, g3⟩
theorem Pw.low {k : Int} (hk : ∀ x y c, (x, y, c) ∈ fs → -k ≤ c) {a : α} {vs : List α} {w : Int} (h : Pw fs a vs w) : -(k * vs.length) ≤ w := by
  induction h with
  | nil => simp
  | cons e _ ih =>
    have := hk _ _ _ e
    rw [List.length_cons, Int.natCast_succ, Int.mul_add, Int.mul_one]
    omega
theorem Pw.ends {a : α} {vs : List α} {w : Int} (h : Pw fs a vs w) : ∀ v ∈ vs, ∃ x c, (x, v, c) ∈ fs := by
  induction h with
  | nil => intro v hv; cases hv
  | cons e _ ih =>
    intro v hv
    rcases List.mem_cons.mp hv with rfl | hv
    · exact ⟨_, _, e⟩
    · exact ih v hv
theorem len_le {l k : List α} (h : l.Nodup) (hs : ∀ x ∈ l, x ∈ k) : l.length ≤ k.length := by
  induction l generalizing k with
  | nil => exact Nat.zero_le _
  | cons x l ih =>
    rw [List.nodup_cons] at h
    have hx := hs x List.mem_cons_self
    have := ih h.2 (k := k.erase x) fun y hy => (List.mem_erase_of_ne (show y ≠ x from fun e => h.1 (by rw [← e]; exact hy))).mpr (hs y (List.mem_cons_of_mem _ hy))
    rw [List.length_erase_of_mem hx] at this
    have := List.length_pos_of_mem hx
    rw [List.length_cons]
    omega
theorem least_int {P : Int → Prop} {lo : Int} (hlo : ∀ w, P w → lo ≤ w) : ∀ (n : Nat) (w : Int), w - lo < n → P w → ∃ m, P m ∧ ∀ v, P v → m ≤ v
  | 0, w, h, hp => by have := hlo w hp; omega
  | n + 1, w, h, hp => by
    by_cases q : ∃ v, P v ∧ v < w
    · obtain ⟨v, hv, hvw⟩ := q
      exact least_int hlo n v (by omega) hv
    · exact ⟨w, hp, fun v hv => Int.not_lt.mp fun g => q ⟨v, hv, g⟩⟩
/-- at most 4 places, no fact below -3, no round below 0: numbers from -9 to 0 by which all facts hold -/
theorem near {N : List α} (hN : N.length ≤ 4) (hin : ∀ x y c, (x, y, c) ∈ fs → x ∈ N ∧ y ∈ N ∧ -3 ≤ c) (hr : ∀ x w l, Wk fs x x w l → 0 ≤ w) :
    ∃ h : α → Int, (∀ a, -9 ≤ h a ∧ h a ≤ 0) ∧ ∀ x y c, (x, y, c) ∈ fs → h x ≤ h y + c := by
  have lo : ∀ a w, (∃ vs, Pw fs a vs w) → -9 ≤ w := fun a w ⟨vs, h⟩ => by
    obtain ⟨vs', w', h1, h2, h3⟩ := Pw.short hr (vs.length + 1) (by omega) h
    have l1 := Pw.low (k := 3) (fun x y c e => (hin x y c e).2.2) h1
    have l2 : vs'.length ≤ 3 := by
      cases h1 with
      | nil => exact Nat.zero_le _
      | cons e g =>
        have := len_le (k := N) h3 fun x hx => by
          rcases List.mem_cons.mp hx with rfl | hx
          · exact (hin _ _ _ e).1
          · obtain ⟨x', c', e'⟩ := (Pw.cons e g).ends x hx
            exact (hin _ _ _ e').2.1
        rw [List.length_cons] at this
        omega
    omega
  have ex : ∀ a, ∃ m, (∃ vs, Pw fs a vs m) ∧ ∀ v, (∃ vs, Pw fs a vs v) → m ≤ v := fun a => least_int (lo a) 10 0 (by omega) ⟨[], .nil⟩
  refine ⟨fun a => Classical.choose (ex a), fun a => ?_, fun x y c e => ?_⟩
  · have := Classical.choose_spec (ex a)
    exact ⟨lo a _ this.1, this.2 0 ⟨[], .nil⟩⟩
  · have h1 := Classical.choose_spec (ex x)
    obtain ⟨⟨vs, h2⟩, _⟩ := Classical.choose_spec (ex y)
    have := h1.2 _ ⟨_, .cons e h2⟩
    show Classical.choose (ex x) ≤ Classical.choose (ex y) + c
    omega
/-- a way or none -/
def Sw (fs : List (α × α × Int)) (x y : α) (v : Int) : Prop := (x = y ∧ v = 0) ∨ ∃ l, Wk fs x y v l
theorem Sw.join {x y z : α} {v w : Int} (h : Sw fs x y v) (g : Sw fs y z w) : Sw fs x z (v + w) := by
  rcases h with ⟨rfl, rfl⟩ | ⟨l, h⟩
  · rw [Int.zero_add]; exact g
  · rcases g with ⟨rfl, rfl⟩ | ⟨k, g⟩
    · rw [Int.add_zero]; exact .inr ⟨l, h⟩
    · exact .inr ⟨_, h.join g⟩
theorem Sw.cons {x y z : α} {c w : Int} (e : (x, y, c) ∈ fs) (g : Sw fs y z w) : Sw fs x z (c + w) := (show Sw fs x y c from .inr ⟨[], .one e⟩).join g
theorem turned {x y : α} {k : Int} (hxy : x ≠ y) (hn : ∀ w l, Wk fs x y w l → k < w) {p q : α} {w : Int} {l : List α} (h : Wk ((y, x, -(k + 1)) :: fs) p q w l) :
    (∃ l', Wk fs p q w l') ∨ ∃ w1 w2, Sw fs p y w1 ∧ Sw fs x q w2 ∧ w1 + w2 - (k + 1) ≤ w := by
  induction h with
  | one e =>
    rcases List.mem_cons.mp e with e | e
    · cases e
      exact .inr ⟨0, 0, .inl ⟨rfl, rfl⟩, .inl ⟨rfl, rfl⟩, by omega⟩
    · exact .inl ⟨[], .one e⟩
  | cons e _ ih =>
    rcases List.mem_cons.mp e with e | e
    · cases e
      rcases ih with ⟨l', g⟩ | ⟨w1, w2, g1, g2, g3⟩
      · exact .inr ⟨0, _, .inl ⟨rfl, rfl⟩, .inr ⟨_, g⟩, by omega⟩
      · rcases g1 with ⟨e, _⟩ | ⟨l1, g1⟩
        · exact absurd e hxy
        · have := hn _ _ g1
          exact .inr ⟨0, w2, .inl ⟨rfl, rfl⟩, g2, by omega⟩
    · rcases ih with ⟨l', g⟩ | ⟨w1, w2, g1, g2, g3⟩
      · exact .inl ⟨_, .cons e g⟩
      · exact .inr ⟨_, w2, g1.cons e, g2, by omega⟩
theorem turned_ok {x y : α} {k : Int} (hxy : x ≠ y) (hr : ∀ x w l, Wk fs x x w l → 0 ≤ w) (hn : ∀ w l, Wk fs x y w l → k < w) : ∀ z w l, Wk ((y, x, -(k + 1)) :: fs) z z w l → 0 ≤ w := by
  intro z w l h
  rcases turned hxy hn h with ⟨l', g⟩ | ⟨w1, w2, g1, g2, g3⟩
  · exact hr z w l' g
  · rcases g2.join g1 with ⟨e, _⟩ | ⟨l1, g⟩
    · exact absurd e hxy
    · have := hn _ _ g
      omega
/-- numbers near 0 against a fact that doesn't follow -/
theorem against {N : List α} {x y o : α} {k : Int} (hxy : x ≠ y) (hN : N.length ≤ 4) (hx : x ∈ N) (hy : y ∈ N) (hk : k ≤ 2) (hin : ∀ x y c, (x, y, c) ∈ fs → x ∈ N ∧ y ∈ N ∧ -2 ≤ c) (hr : ∀ x w l, Wk fs x x w l → 0 ≤ w)
    (hn : ∀ w l, Wk fs x y w l → k < w) : ∃ h : α → Int, h o = 0 ∧ (∀ a, -9 ≤ h a ∧ h a ≤ 9) ∧ (∀ x y c, (x, y, c) ∈ fs → h x ≤ h y + c) ∧ ¬ h x ≤ h y + k := by
  obtain ⟨h, h1, h2⟩ := near (fs := (y, x, -(k + 1)) :: fs) hN (fun a b c e => by
    rcases List.mem_cons.mp e with e | e
    · cases e
      exact ⟨hy, hx, by omega⟩
    · have := hin a b c e
      exact ⟨this.1, this.2.1, by omega⟩) (turned_ok hxy hr hn)
  refine ⟨fun a => h a - h o, Int.sub_self _, fun a => ?_, fun a b c e => ?_, fun q => ?_⟩
  · have := h1 a
    have := h1 o
    show -9 ≤ h a - h o ∧ h a - h o ≤ 9
    omega
  · have := h2 a b c (List.mem_cons_of_mem _ e)
    show h a - h o ≤ h b - h o + c
    omega
  · have q : h x - h o ≤ h y - h o + k := q
    have := h2 y x (-(k + 1)) List.mem_cons_self
    omega
/-- .. and a way keeps -/
theorem Wk.keeps {h : α → Int} (hf : ∀ x y c, (x, y, c) ∈ fs → h x ≤ h y + c) {x y : α} {w : Int} {l : List α} (g : Wk fs x y w l) : h x ≤ h y + w := by
  induction g with
  | one e => exact hf _ _ _ e
  | cons e _ ih =>
    have := hf _ _ _ e
    omega
end
end Gap

namespace Mn
open PySem
/-- _law_word, _law_numbers -/
def fd__law_number_v2 : FD := ⟨2, 2,
    (.cons (.ret (.ife (.o2 .eq (.var 0) (.cst (.str ""))) (.cst (.int 0)) (.o2 .idx (.var 1) (.var 0))))
    .nil)⟩
/-- _law_fact, _law_numbers -/
def fd__law_holds_v2 : FD := ⟨2, 2,
    (.cons (.ret (.o2 .le (.o2 .sub (.call 100 (.cons (.o2 .idx (.var 0) (.cst (.int 0))) (.cons (.var 1) .nil))) (.call 100 (.cons (.o2 .idx (.var 0) (.cst (.int 1))) (.cons (.var 1) .nil)))) (.o2 .idx (.var 0) (.cst (.int 2)))))
    .nil)⟩
/-- _law_words_here, _law_far, _law_found, _law_word, _law_more, _law_numbers, _law_number_here -/
def fd__law_all_numbers : FD := ⟨2, 7,
    (.cons (.set (.nm 2) (.lst (.cons (.dct .nil) .nil)))
    (.cons (.for_ (.nm 3) (.e (.var 0)) (.cons (.set (.nm 4) (.lst .nil))
    (.cons (.for_ (.nm 5) (.e (.var 2)) (.cons (.for_ (.nm 6) (.rng2 (.o1 .neg (.var 1)) (.o2 .add (.var 1) (.cst (.int 1)))) (.cons (.exp (.mth .append (.var 4) (.cons (.bi .dict (.cons (.o2 .add (.itms (.var 5)) (.lst (.cons (.tup (.cons (.var 3) (.cons (.var 6) .nil))) .nil))) .nil)) .nil)))
    .nil))
    .nil))
    (.cons (.set (.nm 2) (.var 4))
    .nil))))
    (.cons (.ret (.var 2))
    .nil)))⟩
/-- _law_facts_here, _law_fact, _law_words_here, _law_numbers, _law_one -/
def fd__law_by_all : FD := ⟨3, 5,
    (.cons (.for_ (.nm 3) (.e (.call 104 (.cons (.var 2) (.cons (.cst (.int 9)) .nil)))) (.cons (.ife (.and (.not (.call 101 (.cons (.var 1) (.cons (.var 3) .nil)))) (.bi .all (.cons (.comp (.call 101 (.cons (.var 4) (.cons (.var 3) .nil))) (.nm 4) [("_law_one", 4)] (.e (.var 0)) .no) .nil))) (.cons (.ret (.cst (.bl false)))
    .nil) .nil)
    .nil))
    (.cons (.ret (.cst (.bl true)))
    .nil))⟩
/-- _law_facts_here, _law_fact, _law_least_here -/
def fd__law_by_chains : FD := ⟨2, 3,
    (.cons (.set (.nm 2) (.call 102 (.cons (.var 0) (.cons (.o2 .idx (.var 1) (.cst (.int 0))) (.cons (.o2 .idx (.var 1) (.cst (.int 1))) .nil)))))
    (.cons (.ret (.or (.call 103 (.cons (.var 0) .nil)) (.and (.o1 .notN (.var 2)) (.o2 .le (.var 2) (.o2 .idx (.var 1) (.cst (.int 2)))))))
    .nil))⟩
/-- _law_script, _law_state, _law_turn, _law_words_here, _law_facts_here, _law_fact, _law_found, _law_far -/
def fd_law_v9 : FD := ⟨1, 8,
    (.cons (.set (.nm 1) (.call 2 (.cons (.var 0) .nil)))
    (.cons (.for_ (.nm 2) (.rng (.cst (.int 6))) (.cons (.set (.nm 3) (.call 55 (.cons (.var 1) (.cons (.call 5 (.cons (.var 1) (.cons (.lst (.cons (.cst (.int 1)) (.cons (.cst (.int 2)) (.cons (.cst (.int 2)) (.cons (.cst (.int 3)) .nil))))) .nil))) .nil))))
    (.cons (.set (.nm 4) (.call 91 (.cons (.var 1) (.cons (.var 3) (.cons (.call 4 (.cons (.var 1) (.cons (.cst (.int 8)) .nil))) (.cons (.cst (.int 2)) .nil))))))
    (.cons (.set (.nm 5) (.o2 .idx (.call 91 (.cons (.var 1) (.cons (.var 3) (.cons (.cst (.int 1)) (.cons (.cst (.int 2)) .nil))))) (.cst (.int 0))))
    (.cons (.set (.nm 6) (.call 99 (.cons (.var 4) (.cons (.var 5) .nil))))
    (.cons (.ife (.or (.not (.isi (.var 6) .bool)) (.o2 .ne (.var 6) (.call 105 (.cons (.var 4) (.cons (.var 5) (.cons (.var 3) .nil)))))) (.cons (.ret (.cst (.bl false)))
    .nil) .nil)
    (.cons (.set (.nm 3) (.call 55 (.cons (.var 1) (.cons (.o2 .add (.cst (.int 1)) (.call 4 (.cons (.var 1) (.cons (.cst (.int 6)) .nil)))) .nil))))
    (.cons (.set (.nm 7) (.call 5 (.cons (.var 1) (.cons (.lst (.cons (.cst (.int 3)) (.cons (.cst (.int 20)) (.cons (.o2 .pow (.cst (.int 10)) (.cst (.int 9))) .nil)))) .nil))))
    (.cons (.set (.nm 4) (.call 91 (.cons (.var 1) (.cons (.var 3) (.cons (.call 5 (.cons (.var 1) (.cons (.lst (.cons (.cst (.int 3)) (.cons (.cst (.int 8)) (.cons (.cst (.int 16)) (.cons (.cst (.int 30)) .nil))))) .nil))) (.cons (.var 7) .nil))))))
    (.cons (.for_ (.nm 5) (.e (.call 91 (.cons (.var 1) (.cons (.var 3) (.cons (.cst (.int 4)) (.cons (.var 7) .nil)))))) (.cons (.ife (.o2 .ne (.call 99 (.cons (.var 4) (.cons (.var 5) .nil))) (.call 106 (.cons (.var 4) (.cons (.var 5) .nil)))) (.cons (.ret (.cst (.bl false)))
    .nil) .nil)
    .nil))
    .nil))))))))))
    (.cons (.ret (.cst (.bl true)))
    .nil)))⟩
def tab : Nat → Option FD
  | 96 => some fd_words_in
  | 97 => some fd_least_gaps
  | 98 => some fd_can_be
  | 99 => some fd_follows
  | 2 => some fd__law_drawn
  | 3 => some fd__law_load
  | 4 => some fd__law_next
  | 5 => some fd__law_of
  | 55 => some fd__law_words_v2
  | 91 => some fd__law_facts
  | 100 => some fd__law_number_v2
  | 101 => some fd__law_holds_v2
  | 102 => some fd__law_least
  | 103 => some fd__law_is_round
  | 104 => some fd__law_all_numbers
  | 105 => some fd__law_by_all
  | 106 => some fd__law_by_chains
  | 107 => some fd_law_v9
  | _ => none
def top (i : Nat) : PySem.Stmt := PySem.Challenge.pw_neverstuck_k10_what_follows.main.body.getD i (.Pass ⟨0, 0, 0, 0⟩)
def row_words_in : Row := ⟨"words_in", 96, ⟨("words_in", none), "words_in", "words_in", L2.defArgs (top 1), L2.defBody (top 1), L2.defScope (top 1), [], []⟩, ["facts"], ["facts", "found", "x", "y", "most"], fd_words_in⟩
def row_least_gaps : Row := ⟨"least_gaps", 97, ⟨("least_gaps", none), "least_gaps", "least_gaps", L2.defArgs (top 2), L2.defBody (top 2), L2.defScope (top 2), [], []⟩, ["facts"], ["facts", "words", "gaps", "middle", "x", "y", "most", "word", "by_it"], fd_least_gaps⟩
def row_can_be : Row := ⟨"can_be", 98, ⟨("can_be", none), "can_be", "can_be", L2.defArgs (top 3), L2.defBody (top 3), L2.defScope (top 3), [], []⟩, ["gaps"], ["gaps", "two"], fd_can_be⟩
def row_follows : Row := ⟨"follows", 99, ⟨("follows", none), "follows", "follows", L2.defArgs (top 4), L2.defBody (top 4), L2.defScope (top 4), [], []⟩, ["facts", "fact"], ["facts", "fact", "gaps", "x", "y", "most"], fd_follows⟩
def row__law_drawn : Row := ⟨"_law_drawn", 2, ⟨("_law_drawn", none), "_law_drawn", "_law_drawn", L2.defArgs (top 6), L2.defBody (top 6), L2.defScope (top 6), [], []⟩, ["_law_script"], ["_law_script"], fd__law_drawn⟩
def row__law_load : Row := ⟨"_law_load", 3, ⟨("_law_load", none), "_law_load", "_law_load", L2.defArgs (top 7), L2.defBody (top 7), L2.defScope (top 7), [], []⟩, ["_law_state"], ["_law_state", "_law_cells", "_law_tour", "_law_cell", "_law_mixed"], fd__law_load⟩
def row__law_next : Row := ⟨"_law_next", 4, ⟨("_law_next", none), "_law_next", "_law_next", L2.defArgs (top 8), L2.defBody (top 8), L2.defScope (top 8), [], []⟩, ["_law_state", "_law_many"], ["_law_state", "_law_many", "_law_found"], fd__law_next⟩
def row__law_of : Row := ⟨"_law_of", 5, ⟨("_law_of", none), "_law_of", "_law_of", L2.defArgs (top 9), L2.defBody (top 9), L2.defScope (top 9), [], []⟩, ["_law_state", "_law_some"], ["_law_state", "_law_some"], fd__law_of⟩
def row__law_words_v2 : Row := ⟨"_law_words", 55, ⟨("_law_words", none), "_law_words", "_law_words", L2.defArgs (top 10), L2.defBody (top 10), L2.defScope (top 10), [], []⟩, ["_law_state", "_law_many"], ["_law_state", "_law_many", "_law_letters", "_law_stem", "_law_k", "_law_at", "_law_first", "_law_stride"], fd__law_words_v2⟩
def row__law_facts : Row := ⟨"_law_facts", 91, ⟨("_law_facts", none), "_law_facts", "_law_facts", L2.defArgs (top 11), L2.defBody (top 11), L2.defScope (top 11), [], []⟩, ["_law_state", "_law_words_here", "_law_many", "_law_far"], ["_law_state", "_law_words_here", "_law_many", "_law_far", "_law_found", "_law_k", "_law_x", "_law_y", "_law_word"], fd__law_facts⟩
def row__law_number_v2 : Row := ⟨"_law_number", 100, ⟨("_law_number", none), "_law_number", "_law_number", L2.defArgs (top 12), L2.defBody (top 12), L2.defScope (top 12), [], []⟩, ["_law_word", "_law_numbers"], ["_law_word", "_law_numbers"], fd__law_number_v2⟩
def row__law_holds_v2 : Row := ⟨"_law_holds", 101, ⟨("_law_holds", none), "_law_holds", "_law_holds", L2.defArgs (top 13), L2.defBody (top 13), L2.defScope (top 13), [], []⟩, ["_law_fact", "_law_numbers"], ["_law_fact", "_law_numbers"], fd__law_holds_v2⟩
def row__law_least : Row := ⟨"_law_least", 102, ⟨("_law_least", none), "_law_least", "_law_least", L2.defArgs (top 14), L2.defBody (top 14), L2.defScope (top 14), [], []⟩, ["_law_facts_here", "_law_x", "_law_y"], ["_law_facts_here", "_law_x", "_law_y", "_law_words_here", "_law_best", "_law_ends", "_law_turn", "_law_one", "_law_other", "_law_most", "_law_farther", "_law_word"], fd__law_least⟩
def row__law_is_round : Row := ⟨"_law_is_round", 103, ⟨("_law_is_round", none), "_law_is_round", "_law_is_round", L2.defArgs (top 15), L2.defBody (top 15), L2.defScope (top 15), [], []⟩, ["_law_facts_here"], ["_law_facts_here", "_law_words_here", "_law_fact", "_law_word"], fd__law_is_round⟩
def row__law_all_numbers : Row := ⟨"_law_all_numbers", 104, ⟨("_law_all_numbers", none), "_law_all_numbers", "_law_all_numbers", L2.defArgs (top 16), L2.defBody (top 16), L2.defScope (top 16), [], []⟩, ["_law_words_here", "_law_far"], ["_law_words_here", "_law_far", "_law_found", "_law_word", "_law_more", "_law_numbers", "_law_number_here"], fd__law_all_numbers⟩
def row__law_by_all : Row := ⟨"_law_by_all", 105, ⟨("_law_by_all", none), "_law_by_all", "_law_by_all", L2.defArgs (top 17), L2.defBody (top 17), L2.defScope (top 17), [], []⟩, ["_law_facts_here", "_law_fact", "_law_words_here"], ["_law_facts_here", "_law_fact", "_law_words_here", "_law_numbers", "_law_one"], fd__law_by_all⟩
def row__law_by_chains : Row := ⟨"_law_by_chains", 106, ⟨("_law_by_chains", none), "_law_by_chains", "_law_by_chains", L2.defArgs (top 18), L2.defBody (top 18), L2.defScope (top 18), [], []⟩, ["_law_facts_here", "_law_fact"], ["_law_facts_here", "_law_fact", "_law_least_here"], fd__law_by_chains⟩
def row_law_v9 : Row := ⟨"law", 107, ⟨("law", none), "law", "law", L2.defArgs (top 19), L2.defBody (top 19), L2.defScope (top 19), [], []⟩, ["_law_script"], ["_law_script", "_law_state", "_law_turn", "_law_words_here", "_law_facts_here", "_law_fact", "_law_found", "_law_far"], fd_law_v9⟩
def rows : List Row := [row_words_in, row_least_gaps, row_can_be, row_follows, row__law_drawn, row__law_load, row__law_next, row__law_of, row__law_words_v2, row__law_facts, row__law_number_v2, row__law_holds_v2, row__law_least, row__law_is_round, row__law_all_numbers, row__law_by_all, row__law_by_chains, row_law_v9]
def consts : List (PySem.Str × D) := []
theorem rows_tab : ∀ r ∈ rows, tab r.id = some r.fd := by
  intro r hr
  simp only [rows, List.mem_cons, List.not_mem_nil, or_false] at hr
  rcases hr with rfl | rfl | rfl | rfl | rfl | rfl | rfl | rfl | rfl | rfl | rfl | rfl | rfl | rfl | rfl | rfl | rfl | rfl <;> rfl
theorem rows_ok : (rows.all fun r => rowB (rows.map fun r => (r.x, r.id)) consts r) = true := by decide +kernel
end Mn
-- law: top 19, number 107, script name _law_script
-- loose: ["words_in", "least_gaps", "can_be", "follows", "_law_drawn", "_law_load", "_law_next", "_law_of", "_law_words", "_law_facts", "_law_number", "_law_holds", "_law_least", "_law_is_round", "_law_all_numbers", "_law_by_all", "_law_by_chains"]

set_option maxHeartbeats 0
/-! P10: what follows. -/
namespace Mn
open PySem Gap
local macro_rules
  | `(tactic| array_get_dec) => `(tactic| ((try simp only [wG_nm, wG_tp, wGs_nil, wGs_cons, wipe, List.set_cons_zero, List.set_cons_succ]); (try rw [wSs_cons]); simp only [wS, wT, wE, wEs, wO, wC, wI_e, wI_rng, wI_rng2, wI_enm, wI_zip, rngW_int, iters_t, iters_r, iters_s, iters_o, itO_lst, itO_dic, itL_t, wG_nm, wG_tp, wGs_nil, wGs_cons, wipe, List.map_cons, List.map_nil, List.length_cons, List.length_nil, List.replicate_succ, List.replicate_zero, List.cons_append, List.nil_append, Nat.zero_add, Nat.reduceAdd, Nat.reduceSub, Nat.reduceLeDiff, List.getElem?_cons_zero, List.getElem?_cons_succ, List.set_cons_zero, List.set_cons_succ, Option.some.injEq, exists_eq_left', pairsOf_nil, pairsOf_two, pairsOf_four, dmerge_nil, dmerge_one, oD_dic, oSrt_lst, oSrt_dic, oBl_some, pre_get, mt_get1, mt_get2, sIn_o, sIn_t, inD_in, inD_not, bi_sorted, bi_all, bi_any, bls_map, srtK_map, getD_int, getD_bl, okS, dgetS, dsetSi, dsetSb, okP, dgetP, dsetPi, tab_len, tab_keys, tabS_sca, tab_items, itms_o, rev_t, rev_o, rev_r, s2_mulS, s2_mulT, s2_mulO, bi_int_i, bi_int_b, Option.isSome_map, Option.isNone_map, Option.isSome_some, Option.isSome_none, Option.isNone_some, Option.isNone_none, Option.map_none, s1_neg, s1_isN, s1_notN, s2_add, s2_idx, s2_eq, s2_ne, s2_lt, s2_le, s2_gt, s2_ge, s2_in, s2_notin, s2_sub, s2_mul, s2_fdiv, s2_mod, s2_pow, sAdd_ii, sAdd_ss, sAdd_tt, sAdd_oo, sAug_ii, sOrd_lt, sOrd_le, sOrd_gt, sOrd_ge, sIdx_t, sIdx_r, sIdx_s, sIdx_o, look_lst, look_dic, lenO_lst, lenO_dic, setIn_lst, setIn_dic, oM_some, truth_bl, truth_int, truth_non, truth_tup, bi_len_s, bi_len_t, bi_len_r, bi_len_o, bi_abs, bi_list_t, bi_list_r, bi_list_o, bi_tuple_t, bi_tuple_r, bi_tuple_o, bi_min2, bi_max2, bi_dict, mt_append, pre_append, mt_extend, pre_extend, set_o, wSs_nil, slc_s, slc_t, slc_r, slc_o, tyD_bl, tyD_int, tyD_str, tyD_tup, tyD_rol, tyD_non, isTy, sEq_b, eqOk_int, eqOk_non, sEq_d, oL_lst, oLD_lst, oLD_dic, oV_some, oC_some, Option.map_some, Option.getD_some, atI_0, atI_1, atI_2, atI_3, upd_same, D.int.injEq, D.str.injEq, D.bl.injEq, true_and, and_true, decide_eq_true_eq, reduceIte, Bool.false_eq_true, Bool.not_eq_true', Bool.not_true, Bool.not_false, reduceCtorEq, decide_true, decide_false, Bool.or_false, Bool.or_true, Bool.true_or, Bool.false_or, Bool.and_true, Bool.and_false, Bool.true_and, Bool.false_and, eq_self, beq_self_eq_true, decide_eq_false_iff_not, Int.toNat_zero, Int.reduceToNat, Int.reduceLT, Int.reduceLE, Int.cast_ofNat_Int, *]))

def Sp_numT (c : C1) : Prop := ∀ S d t st w Q R, S d = some (.dic (tabD D.str D.int t) st) → AskT t w → Q (.int (numT t w)) S → c [.str w, .obj d] S Q R
theorem numT_body {Γ : Cl} : Sp_numT (run Γ fd__law_number_v2) := by
  intro S d t st w Q R hd ⟨hw, ha⟩ hQ
  have e2 := low0
  refine ⟨rfl, ?_⟩
  unfold fd__law_number_v2
  unfold numT at hQ
  array_get_dec
  split
  · rename_i h
    rw [if_pos h] at hQ
    exact hQ
  · rename_i h
    rw [if_neg h] at hQ
    obtain ⟨i, hi⟩ := ha.resolve_left h
    rw [hi] at hQ
    array_get_dec
    exact hQ
/-- a fact by numbers -/
def HoldT (t : List (Str × Int)) (f : Fc3) : Prop := numT t f.1 ≤ numT t f.2.1 + f.2.2
instance (t : List (Str × Int)) (f : Fc3) : Decidable (HoldT t f) := inferInstanceAs (Decidable (_ ≤ _))
def Sp_holdT (c : C1) : Prop := ∀ S d t st x y (k : Int) Q R, S d = some (.dic (tabD D.str D.int t) st) → AskT t x → AskT t y → Q (.bl (decide (HoldT t (x, y, k)))) S → c [.tup [.str x, .str y, .int k], .obj d] S Q R
theorem holdT_body {Γ : Cl} (h : Sp_numT (Γ 100)) : Sp_holdT (run Γ fd__law_holds_v2) := by
  intro S d t st x y k Q R hd hx hy hQ
  refine ⟨rfl, ?_⟩
  unfold fd__law_holds_v2
  array_get_dec
  refine h S d t st x _ _ hd hx (h S d t st y _ _ hd hy ?_)
  array_get_dec
  have e : decide (numT t x - numT t y ≤ k) = decide (HoldT t (x, y, k)) := by
    rw [decide_eq_decide]
    show _ ↔ numT t x ≤ numT t y + k
    omega
  rw [e]
  exact hQ
/-- dicts of numbers at their places -/
abbrev Tbs := List (Addr × List (Str × Int))
def At (S : Store) (L : Tbs) : Prop := ∀ q ∈ L, ∃ st, S q.1 = some (.dic (tabD D.str D.int q.2) st)
def adr (L : Tbs) : List D := L.map fun q => .obj q.1
theorem At.grw {S S' : Store} {L : Tbs} (h : At S L) (g : Grw S S') : At S' L := fun q hq => let ⟨st, e⟩ := h q hq; ⟨st, g _ _ e⟩
theorem At.off {S : Store} {L : Tbs} {p : Addr} {xs : List D} {o : MO} (h : At S L) (hp : S p = some (.lst xs)) : At (upd S p o) L := fun q hq => by
  obtain ⟨st, e⟩ := h q hq
  exact ⟨st, by rw [upd_ne (fun z => by rw [z, hp] at e; cases e)]; exact e⟩
/-- all numbers of the words within are told -/
def Cov (ws : List Str) (L : Tbs) : Prop := ∀ f : Str → Int, (∀ a, -9 ≤ f a ∧ f a ≤ 9) → (ws.map fun w => (w, f w)) ∈ L.map (·.2)
theorem adr_app {L M : Tbs} : adr (L ++ M) = adr L ++ adr M := List.map_append ..
theorem adr_len {L : Tbs} : (adr L).length = L.length := List.length_map ..
def Sp_all_numbers (c : C1) : Prop := ∀ S b (ws : List Str) Q R, S b = some (.lst (ws.map D.str)) → ws.length ≤ 3 → ws.Nodup →
  (∀ p S' (L : Tbs), S' p = some (.lst (adr L)) → At S' L → (∀ q ∈ L, q.2.map (·.1) = ws) → Cov ws L → Grw S S' → Q (.obj p) S') → c [.obj b, .int 9] S Q R
theorem all_numbers_body {Γ : Cl} : Sp_all_numbers (run Γ fd__law_all_numbers) := by
  intro S b ws Q R hb hl hnd hQ
  replace hQ := Hd.mk hQ
  have sz := sizeLine_eq
  refine ⟨rfl, ?_⟩
  unfold fd__law_all_numbers
  array_get_dec
  refine ⟨rfl, fun p0 st0 hp0 => ?_⟩
  have g0 := (Grw.refl (S := S)).new (o := .dic [] st0) hp0
  have u0 : upd S p0 (.dic [] st0) p0 = some (.dic [] st0) := upd_same
  generalize upd S p0 (.dic [] st0) = S0 at *
  intro p1 hp1
  have g1 := g0.new (o := .lst [.obj p0]) hp1
  have u1 : upd S0 p1 (.lst [.obj p0]) p1 = some (.lst [.obj p0]) := upd_same
  have u01 : upd S0 p1 (.lst [.obj p0]) p0 = some (.dic [] st0) := Grw.refl.new hp1 p0 _ u0
  generalize upd S0 p1 (.lst [.obj p0]) = S1 at *
  clear hp0 hp1 u0 g0
  have ub1 := g1 _ _ hb
  array_get_dec
  refine wFor_ind (fun r e S' => ∃ (o3 o4 o5 o6 : Option D) (pf : Addr) (L : Tbs) (dn rs : List Str), e = [some (.obj b), some (.int 9), some (.obj pf), o3, o4, o5, o6] ∧ r = rs.map D.str ∧ dn ++ rs = ws ∧
    S' pf = some (.lst (adr L)) ∧ At S' L ∧ (∀ q ∈ L, q.2.map (·.1) = dn) ∧ Cov dn L ∧ L.length = 19 ^ dn.length ∧ Grw S S') ?_ ?_ _ _ _
    ⟨none, none, none, none, p1, [(p0, [])], [], ws, rfl, rfl, rfl, u1, fun q hq => ⟨st0, by rw [List.mem_singleton.mp hq]; exact u01⟩, fun q hq => by rw [List.mem_singleton.mp hq]; rfl, fun f _ => by simp, rfl, g1⟩
  · rintro env S' ⟨o3, o4, o5, o6, pf, L, dn, rs, rfl, h1, h2, h3, h4, h5, h6, h7, h8⟩
    refine ⟨h8 _ _ hb, ?_⟩
    cases rs with
    | cons _ _ => cases h1
    | nil =>
      rw [List.append_nil] at h2
      have h2 := h2.symm
      subst h2
      clear h1
      array_get_dec
      exact hQ.get pf S' L h3 h4 h5 h6 h8
  · rintro x r env S2 ⟨o3, o4, o5, o6, pf, L, dn, rs, rfl, h1, h2, h3, h4, h5, h6, h7, h8⟩
    refine ⟨h8 _ _ hb, fun N hN => ?_⟩
    replace hN := Hd.mk hN
    cases rs with
    | nil => cases h1
    | cons w rs =>
      obtain ⟨rfl, h1'⟩ := List.cons.inj h1
      clear h1
      have ll : dn.length + (rs.length + 1) = ws.length := by rw [← h2]; simp
      have h2' : (dn ++ [w]) ++ rs = ws := by rw [← h2, List.append_assoc]; rfl
      have hw : w ∉ dn := fun q => by
        rw [← h2, List.nodup_append] at hnd
        exact hnd.2.2 w q w (by simp) rfl
      have dnd : dn.Nodup := by
        rw [← h2, List.nodup_append] at hnd
        exact hnd.1
      have Ll : L.length ≤ 361 := by
        rw [h7]
        have : dn.length = 0 ∨ dn.length = 1 ∨ dn.length = 2 := by omega
        rcases this with e | e | e <;> rw [e] <;> decide
      clear h2
      array_get_dec
      intro pm hpm
      have pm0 := h8.fresh hpm
      have gm := (Grw.refl (S := S2)).new (o := .lst []) hpm
      have um : upd S2 pm (.lst []) pm = some (.lst []) := upd_same
      have nmf : pf ≠ pm := fun z => by rw [← z, h3] at hpm; cases hpm
      generalize upd S2 pm (.lst []) = S3 at *
      have uf3 := gm _ _ h3
      array_get_dec
      refine wFor_ind (fun r e S' => ∃ (o5 o6 : Option D) (M dL rL : Tbs), e = [some (.obj b), some (.int 9), some (.obj pf), some (.str w), some (.obj pm), o5, o6] ∧ r = adr rL ∧ dL ++ rL = L ∧
        S' pm = some (.lst (adr M)) ∧ S' pf = some (.lst (adr L)) ∧ At S' L ∧ At S' M ∧ (∀ q ∈ M, q.2.map (·.1) = dn ++ [w]) ∧ (∀ q ∈ dL, ∀ v : Int, -9 ≤ v → v ≤ 9 → q.2 ++ [(w, v)] ∈ M.map (·.2)) ∧ M.length = 19 * dL.length ∧ Grw S S') ?_ ?_ _ _ _
        ⟨_, _, [], [], L, rfl, rfl, rfl, um, uf3, h4.grw gm, fun _ h => absurd h List.not_mem_nil, fun _ h => absurd h List.not_mem_nil, fun _ h => absurd h List.not_mem_nil, rfl, h8.trans gm⟩
      · rintro env S4 ⟨o5, o6, M, dL, rL, rfl, i1, i2, i3, i4, i5, i6, i7, i8, i9, i10⟩
        refine ⟨i4, ?_⟩
        cases rL with
        | cons _ _ => cases i1
        | nil =>
          rw [List.append_nil] at i2
          have i2 := i2.symm
          subst i2
          clear i1
          array_get_dec
          refine hN.get _ _ ⟨_, _, _, _, pm, M, dn ++ [w], rs, rfl, h1', h2', i3, i6, i7, fun f hf => ?_, by rw [i9, h7, List.length_append]; show _ = 19 ^ (_ + 1); rw [Nat.pow_succ, Nat.mul_comm], i10⟩
          obtain ⟨q, hq, e⟩ := List.mem_map.mp (h6 f hf)
          have := i8 q hq (f w) (hf w).1 (hf w).2
          rw [e] at this
          rw [List.map_append]
          exact this
      · rintro x r env S4 ⟨o5, o6, M, dL, rL, rfl, i1, i2, i3, i4, i5, i6, i7, i8, i9, i10⟩
        refine ⟨i4, fun N2 hN2 => ?_⟩
        replace hN2 := Hd.mk hN2
        cases rL with
        | nil => cases i1
        | cons q rL =>
          obtain ⟨rfl, i1'⟩ := List.cons.inj i1
          clear i1
          have lL : dL.length + (rL.length + 1) = L.length := by rw [← i2]; simp
          have i2' : (dL ++ [q]) ++ rL = L := by rw [← i2, List.append_assoc]; rfl
          have hq : q ∈ L := by rw [← i2]; simp
          have qk := h5 q hq
          clear i2
          array_get_dec
          refine ⟨⟨by decide, by decide, by decide, by decide⟩, ?_⟩
          refine wFor_ind (fun r e S' => ∃ (o6 : Option D) (M' : Tbs) (k : Nat), e = [some (.obj b), some (.int 9), some (.obj pf), some (.str w), some (.obj pm), some (.obj q.1), o6] ∧ r = rngD (-9 + (k : Int)) (19 - k) ∧ k ≤ 19 ∧
            S' pm = some (.lst (adr M')) ∧ S' pf = some (.lst (adr L)) ∧ At S' L ∧ At S' M' ∧ (∀ q ∈ M', q.2.map (·.1) = dn ++ [w]) ∧ (∀ p ∈ dL, ∀ v : Int, -9 ≤ v → v ≤ 9 → p.2 ++ [(w, v)] ∈ M'.map (·.2)) ∧ (∀ v : Int, -9 ≤ v → v < -9 + k → q.2 ++ [(w, v)] ∈ M'.map (·.2)) ∧ M'.length = 19 * dL.length + k ∧ Grw S S') ?_ ?_ _ _ _
            ⟨_, M, 0, rfl, rfl, by omega, i3, i4, i5, i6, i7, i8, fun v h1 h2 => by omega, i9, i10⟩
          · rintro env S5 ⟨o6, M', k, rfl, j1, j2, j3, j4, j5, j6, j7, j8, j9, j10, j11⟩
            refine ⟨trivial, ?_⟩
            have hk : k = 19 := by
              have := congrArg List.length j1
              rw [rng_len] at this
              have : 0 = 19 - k := this
              omega
            subst hk
            refine hN2.get _ _ ⟨_, _, M', dL ++ [q], rL, rfl, i1', i2', j3, j4, j5, j6, j7, fun p hp v v1 v2 => ?_, by rw [j10, List.length_append]; show _ = 19 * (_ + 1); omega, j11⟩
            rcases List.mem_append.mp hp with hp | hp
            · exact j8 p hp v v1 v2
            · rw [List.mem_singleton.mp hp]
              exact j9 v v1 (by omega)
          · rintro x r env S5 ⟨o6, M', k, rfl, j1, j2, j3, j4, j5, j6, j7, j8, j9, j10, j11⟩
            refine ⟨trivial, fun N3 hN3 => ?_⟩
            replace hN3 := Hd.mk hN3
            have hk : ∃ m, 19 - k = m + 1 := by
              cases e : 19 - k with
              | zero => rw [e] at j1; cases j1
              | succ m => exact ⟨m, rfl⟩
            obtain ⟨m, hm⟩ := hk
            rw [hm, rngD] at j1
            obtain ⟨rfl, j1'⟩ := List.cons.inj j1
            clear j1
            obtain ⟨st, eq⟩ := j5 q hq
            have qnd : ((q.2 ++ [(w, -9 + (k : Int))]).map (·.1)).Nodup := by
              rw [List.map_append, qk]
              rw [List.nodup_append]
              exact ⟨dnd, by simp, fun a ha b hb z => hw (by rw [z, List.mem_singleton.mp hb] at ha; exact ha)⟩
            have qll : q.2.length = dn.length := by rw [← qk, List.length_map]
            array_get_dec
            intro a1 ha1
            have f1 := (Grw.refl (S := S5)).new (o := .lst (q.2.map fun p => .tup [.str p.1, .int p.2])) ha1
            have v1 : upd S5 a1 (.lst (q.2.map fun p => .tup [.str p.1, .int p.2])) a1 = some (.lst (q.2.map fun p => .tup [.str p.1, .int p.2])) := upd_same
            generalize upd S5 a1 (.lst (q.2.map fun p => .tup [.str p.1, .int p.2])) = S6 at *
            intro a2 ha2
            have f2 := f1.new (o := .lst [.tup [.str w, .int (-9 + (k : Int))]]) ha2
            have v2 : upd S6 a2 (.lst [.tup [.str w, .int (-9 + (k : Int))]]) a2 = some (.lst [.tup [.str w, .int (-9 + (k : Int))]]) := upd_same
            have v12 : upd S6 a2 (.lst [.tup [.str w, .int (-9 + (k : Int))]]) a1 = some (.lst (q.2.map fun p => .tup [.str p.1, .int p.2])) := Grw.refl.new ha2 a1 _ v1
            generalize upd S6 a2 (.lst [.tup [.str w, .int (-9 + (k : Int))]]) = S7 at *
            clear v1 ha1 ha2 f1
            array_get_dec
            refine ⟨by rw [List.length_append, List.length_map]; show _ + 1 ≤ _; omega, fun a3 ha3 => ?_⟩
            have eL : (q.2.map fun p => D.tup [.str p.1, .int p.2]) ++ [.tup [.str w, .int (-9 + (k : Int))]] = (q.2 ++ [(w, -9 + (k : Int))]).map fun p => D.tup [.str p.1, .int p.2] := by rw [List.map_append]; rfl
            rw [eL]
            simp only []
            rw [bi_dict, upd_same]
            unfold oDic
            simp only [prs_tab]
            refine ⟨.inl tabS_sca, fun d st' hd => ?_⟩
            have e0 : dmerge [] (tabD D.str D.int (q.2 ++ [(w, -9 + (k : Int))])) = tabD D.str D.int (q.2 ++ [(w, -9 + (k : Int))]) := by
              have := dmerge_tab (ev := D.int) kStr_inj (m := q.2 ++ [(w, -9 + (k : Int))]) (t := [])
              rw [tmerge_fresh (by simpa using qnd)] at this
              exact this
            rw [e0]
            have f3 := f2.new (o := .lst ((q.2 ++ [(w, -9 + (k : Int))]).map fun p => D.tup [.str p.1, .int p.2])) ha3
            have f4 := f3.new (o := .dic (tabD D.str D.int (q.2 ++ [(w, -9 + (k : Int))])) st') hd
            have vd : upd (upd S7 a3 (.lst ((q.2 ++ [(w, -9 + (k : Int))]).map fun p => D.tup [.str p.1, .int p.2]))) d (.dic (tabD D.str D.int (q.2 ++ [(w, -9 + (k : Int))])) st') d = some (.dic (tabD D.str D.int (q.2 ++ [(w, -9 + (k : Int))])) st') := upd_same
            generalize upd (upd S7 a3 (.lst ((q.2 ++ [(w, -9 + (k : Int))]).map fun p => D.tup [.str p.1, .int p.2]))) d (.dic (tabD D.str D.int (q.2 ++ [(w, -9 + (k : Int))])) st') = S8 at *
            have um8 := f4 _ _ j3
            clear ha3 hd f2 f3 v2 v12 eL e0
            show oL (S8 pm) _
            rw [um8, oL_lst]
            refine ⟨by rw [adr_len]; omega, ?_⟩
            have atM : At S8 (M' ++ [(d, q.2 ++ [(w, -9 + (k : Int))])]) := fun p hp => by
              rcases List.mem_append.mp hp with hp | hp
              · exact j6.grw f4 p hp
              · rw [List.mem_singleton.mp hp]
                exact ⟨st', vd⟩
            refine hN3.get _ _ ⟨_, M' ++ [(d, q.2 ++ [(w, -9 + (k : Int))])], k + 1, rfl, ?_, by omega, ?_, by rw [upd_ne nmf]; exact f4 _ _ j4, (j5.grw f4).off um8, atM.off um8, fun p hp => ?_, fun p hp v v1 v2 => ?_, fun v v1 v2 => ?_, by rw [List.length_append, j10]; rfl, (j11.trans f4).own pm0⟩
            · rw [j1', show 19 - (k + 1) = m by omega]
              congr 1
              omega
            · rw [upd_same, adr_app]
              rfl
            · rcases List.mem_append.mp hp with hp | hp
              · exact j7 p hp
              · rw [List.mem_singleton.mp hp, List.map_append, qk]
                rfl
            · rw [List.map_append, List.mem_append]
              exact .inl (j8 p hp v v1 v2)
            · rw [List.map_append, List.mem_append]
              by_cases e : v = -9 + (k : Int)
              · rw [e]
                exact .inr (List.mem_singleton.mpr rfl)
              · exact .inl (j9 v v1 (by omega))
theorem numT_fun {ws : List Str} {h : Str → Int} (h0 : h "" = 0) {w : Str} (hw : w ∈ ("" :: ws : List Str)) : numT (ws.map fun w => (w, h w)) w = h w := by
  unfold numT
  split
  · rename_i e
    rw [e, h0]
  · rename_i e
    rw [tget_fun ((List.mem_cons.mp hw).resolve_left e)]
    rfl
theorem ask_of {ws : List Str} {t : List (Str × Int)} (hk : t.map (·.1) = ws) (he : ∀ w ∈ ("" :: ws : List Str), (D.str w).eqOk = true) {w : Str} (hw : w ∈ ("" :: ws : List Str)) : AskT t w :=
  ⟨he w hw, (List.mem_cons.mp hw).imp id fun h => tget_some.mpr (by rw [hk]; exact h)⟩
def Sp_by_all (c : C1) : Prop := ∀ S b (ws : List Str) (fs : List Fc3) x y (k : Int) Q R, S b = some (.lst (ws.map D.str)) → ws.length ≤ 3 → ws.Nodup → fs.length ≤ 100 → (∀ w ∈ ("" :: ws : List Str), (D.str w).eqOk = true) → (∀ f ∈ fs, FcT ws f) → (∀ f ∈ fs, -2 ≤ f.2.2 ∧ f.2.2 ≤ 2) →
  x ∈ ("" :: ws : List Str) → y ∈ ("" :: ws : List Str) → x ≠ y → k ≤ 2 → (∀ S' b', Grw S S' → (b' = true ↔ Ent fs x y k) → Q (.bl b') S') → c [.tup (fs.map fcD), .tup [.str x, .str y, .int k], .obj b] S Q R
theorem by_all_body {Γ : Cl} (ha : Sp_all_numbers (Γ 104)) (hh : Sp_holdT (Γ 101)) : Sp_by_all (run Γ fd__law_by_all) := by
  intro S b ws fs x y k Q R hb hl hnd hfl he hft hlow hx hy hxy hk hQ
  replace hQ := Hd.mk hQ
  have sz := sizeLine_eq
  refine ⟨rfl, ?_⟩
  unfold fd__law_by_all
  replace he := Hd.mk he
  replace hft := Hd.mk hft
  replace hlow := Hd.mk hlow
  array_get_dec
  refine ha S b ws _ _ hb hl hnd fun p S1 L up atL hks cov g1 => ?_
  replace hks := Hd.mk hks
  replace cov := Hd.mk cov
  array_get_dec
  refine wFor_ind (fun r e S' => ∃ (o3 : Option D) (dL rL : Tbs), e = [some (.tup (fs.map fcD)), some (.tup [.str x, .str y, .int k]), some (.obj b), o3, none] ∧ r = adr rL ∧ dL ++ rL = L ∧ Grw S1 S' ∧ ∀ q ∈ dL, (∀ f ∈ fs, HoldT q.2 f) → HoldT q.2 (x, y, k)) ?_ ?_ _ _ _
    ⟨none, [], L, rfl, rfl, rfl, .refl, fun _ h => absurd h List.not_mem_nil⟩
  · rintro env S' ⟨o3, dL, rL, rfl, h1, h2, h3, h4⟩
    refine ⟨h3 _ _ up, ?_⟩
    cases rL with
    | cons _ _ => cases h1
    | nil =>
      rw [List.append_nil] at h2
      have h2 := h2.symm
      subst h2
      clear h1
      array_get_dec
      refine hQ.get S' true (g1.trans h3) ⟨fun _ => Classical.byContradiction fun hn => ?_, fun _ => rfl⟩
      have hr : ∀ z w l, Wk fs z z w l → 0 ≤ w := fun z w l g => Int.not_lt.mp fun q => hn (.inl ⟨z, w, l, g, q⟩)
      have hn2 : ∀ w l, Wk fs x y w l → k < w := fun w l g => Int.not_le.mp fun q => hn (.inr ⟨w, l, g, q⟩)
      obtain ⟨h, n0, n1, n2, n3⟩ := against (fs := fs) (o := ("" : Str)) (N := ("" : Str) :: ws) hxy (by rw [List.length_cons]; omega) hx hy hk (fun a b' c e => by
        have := hft.get _ e
        exact ⟨this.1.mem, this.2.1.mem, (hlow.get _ e).1⟩) hr hn2
      obtain ⟨q, hq, eq⟩ := List.mem_map.mp (cov.get h n1)
      have := h4 q hq fun f hf => by
        have hf' := hft.get f hf
        unfold HoldT
        rw [eq, numT_fun n0 hf'.1.mem, numT_fun n0 hf'.2.1.mem]
        exact n2 _ _ _ hf
      unfold HoldT at this
      rw [eq, numT_fun n0 hx, numT_fun n0 hy] at this
      exact n3 this
  · rintro d r env S' ⟨o3, dL, rL, rfl, h1, h2, h3, h4⟩
    refine ⟨h3 _ _ up, fun N hN => ?_⟩
    replace hN := Hd.mk hN
    cases rL with
    | nil => cases h1
    | cons q rL =>
      obtain ⟨rfl, h1'⟩ := List.cons.inj h1
      clear h1
      have hq : q ∈ L := by rw [← h2]; simp
      have h2' : (dL ++ [q]) ++ rL = L := by rw [← h2, List.append_assoc]; rfl
      have kq := hks.get q hq
      obtain ⟨st, eq⟩ := (atL.grw h3) q hq
      have ax := ask_of kq he.get hx
      have ay := ask_of kq he.get hy
      have h4 := Hd.mk h4
      clear h2
      array_get_dec
      refine hh S' q.1 q.2 st x y k _ _ eq ax ay ?_
      have keep : ((∀ f ∈ fs, HoldT q.2 f) → HoldT q.2 (x, y, k)) → ∀ p ∈ dL ++ [q], (∀ f ∈ fs, HoldT p.2 f) → HoldT p.2 (x, y, k) := fun h p hp => by
        rcases List.mem_append.mp hp with hp | hp
        · exact h4.get p hp
        · rw [List.mem_singleton.mp hp]; exact h
      replace keep := Hd.mk keep
      by_cases hold : HoldT q.2 (x, y, k)
      · rw [decide_eq_true hold]
        array_get_dec
        exact hN.get _ _ ⟨_, dL ++ [q], rL, rfl, h1', h2', h3, keep.get fun _ => hold⟩
      · rw [decide_eq_false hold]
        array_get_dec
        refine wComp_ind (fun r acc S2 => S' = S2 ∧ ∃ (dn rs : List Fc3) (bs : List Bool), r = rs.map fcD ∧ dn ++ rs = fs ∧ acc = bs.map D.bl ∧ bs.length = dn.length ∧ (bs.all id = true ↔ ∀ f ∈ dn, HoldT q.2 f)) ?_ ?_ _ _ _ ⟨rfl, [], fs, [], rfl, rfl, rfl, rfl, ⟨fun _ _ h => absurd h List.not_mem_nil, fun _ => rfl⟩⟩
        · rintro acc S2 ⟨rfl, dn, rs, bs, i1, i2, rfl, i3, i4⟩
          refine ⟨trivial, fun p2 hp2 => ?_⟩
          cases rs with
          | cons _ _ => cases i1
          | nil =>
            rw [List.append_nil] at i2
            have i2 := i2.symm
            subst i2
            clear i1
            have g2 := (Grw.refl (S := S')).new (o := .lst (bs.map D.bl)) hp2
            have u2 : upd S' p2 (.lst (bs.map D.bl)) p2 = some (.lst (bs.map D.bl)) := upd_same
            generalize upd S' p2 (.lst (bs.map D.bl)) = S3 at *
            simp only [bi_all, u2, oL_lst, bls_map, oBl_some]
            refine ⟨_, rfl, ?_⟩
            split
            · rename_i hb'
              have hall := i4.mp hb'
              clear i4
              array_get_dec
              refine hQ.get S3 false ((g1.trans h3).trans g2) ⟨fun h => absurd h Bool.false_ne_true, fun h => ?_⟩
              have kf : ∀ a b' c, (a, b', c) ∈ fs → numT q.2 a ≤ numT q.2 b' + c := fun a b' c e => hall _ e
              rcases h with ⟨z, w, l, g, hw⟩ | ⟨w, l, g, hw⟩
              · have := g.keeps kf
                omega
              · have := g.keeps kf
                exact absurd (show numT q.2 x ≤ numT q.2 y + k by omega) hold
            · rename_i hb'
              exact hN.get _ _ ⟨_, dL ++ [q], rL, rfl, h1', h2', h3.trans g2, keep.get fun h => absurd (i4.mpr h) hb'⟩
        · rintro f r2 acc S2 ⟨rfl, dn, rs, bs, i1, i2, rfl, i3, i4⟩
          refine ⟨trivial, fun N2 hN2 => ?_⟩
          replace hN2 := Hd.mk hN2
          cases rs with
          | nil => cases i1
          | cons f rs =>
            obtain ⟨rfl, i1'⟩ := List.cons.inj i1
            clear i1
            obtain ⟨f1, f2, f3⟩ := f
            have hf : (f1, f2, f3) ∈ fs := by rw [← i2]; simp
            have ll : dn.length + (rs.length + 1) = fs.length := by rw [← i2]; simp
            have i2' : (dn ++ [(f1, f2, f3)]) ++ rs = fs := by rw [← i2, List.append_assoc]; rfl
            have hf' := hft.get _ hf
            clear i2
            rw [show fcD (f1, f2, f3) = .tup [.str f1, .str f2, .int f3] from rfl]
            array_get_dec
            refine hh S' q.1 q.2 st f1 f2 f3 _ _ eq (ask_of kq he.get hf'.1.mem) (ask_of kq he.get hf'.2.1.mem) ?_
            refine ⟨by rw [List.length_map]; omega, hN2.get _ _ ⟨rfl, dn ++ [(f1, f2, f3)], rs, bs ++ [decide (HoldT q.2 (f1, f2, f3))], i1', i2', by rw [List.map_append]; rfl, by rw [List.length_append, List.length_append, i3]; rfl, ?_⟩⟩
            rw [List.all_append, Bool.and_eq_true, i4]
            constructor
            · rintro ⟨m1, m2⟩ f hf
              rcases List.mem_append.mp hf with hf | hf
              · exact m1 f hf
              · rw [List.mem_singleton.mp hf]
                simpa using m2
            · intro m
              exact ⟨fun f hf => m f (by simp [hf]), by simpa using m (f1, f2, f3) (by simp)⟩
def Sp_by_chains (c : C1) : Prop := ∀ S (fs : List Fc3) (ks : List Str) x y (k : Int) Q R, ks.length < 64 → (∀ w, Iw fs w → w ∈ ks) → x ∈ ks → y ∈ ks → ("" : Str) ∈ ks → fs.length ≤ 100 →
  (∀ S' b, Grw S S' → (b = true ↔ Ent fs x y k) → Q (.bl b) S') → c [.tup (fs.map fcD), .tup [.str x, .str y, .int k]] S Q R
theorem by_chains_body {Γ : Cl} (hle : Sp_least (Γ 102)) (hr : Sp_is_round (Γ 103)) : Sp_by_chains (run Γ fd__law_by_chains) := by
  intro S fs ks x y k Q R hl hk hx hy h0 hf hQ
  replace hQ := Hd.mk hQ
  replace hk := Hd.mk hk
  have sz := sizeLine_eq
  refine ⟨rfl, ?_⟩
  unfold fd__law_by_chains
  array_get_dec
  refine hle S fs ks x y _ _ hl hk.get hx hf fun S1 o g1 o1 o2 => ?_
  replace o1 := Hd.mk o1
  replace o2 := Hd.mk o2
  array_get_dec
  refine hr S1 fs ks _ _ hl hk.get h0 hf fun S2 b g2 hb => ?_
  have g12 := g1.trans g2
  cases b with
  | true =>
    have hn := hb.mp rfl
    clear hb
    array_get_dec
    exact hQ.get S2 true g12 ⟨fun _ => .inl hn, fun _ => rfl⟩
  | false =>
    have hn : ¬ NegR fs := fun h => absurd (hb.mpr h) Bool.false_ne_true
    clear hb
    have fin : ∀ b : Bool, (b = true ↔ ∃ v, o = some v ∧ v ≤ k) → Q (.bl b) S2 := fun b hb => by
      refine hQ.get S2 b g12 ?_
      rw [hb]
      constructor
      · rintro ⟨v, e, hv⟩
        obtain ⟨l, g⟩ := o1.get v e
        exact .inr ⟨v, l, g, hv⟩
      · rintro (q | ⟨w, l, g, hw⟩)
        · exact absurd q hn
        · obtain ⟨w', l', g', h1, h2⟩ := short (fun z v l g => Int.not_lt.mp fun q => hn ⟨z, v, l, g, q⟩) (l.length + 1) (by omega) g
          obtain ⟨v, hv, e⟩ := o2.get w' l' g' h2
          exact ⟨v, e, by omega⟩
    replace fin := Hd.mk fin
    cases o with
    | none =>
      array_get_dec
      exact fin.get false ⟨fun h => absurd h Bool.false_ne_true, fun ⟨v, e, _⟩ => by cases e⟩
    | some v =>
      array_get_dec
      exact fin.get _ ⟨fun h => ⟨v, rfl, of_decide_eq_true h⟩, fun ⟨v', e, h'⟩ => by cases e; exact decide_eq_true h'⟩
theorem one_fact {ws : List Str} {far : Int} {ds : List D} (h : ∀ d ∈ ds, Fc ws far d) (hl : (ds.length : Int) = 1) : ∃ f : Fc3, ds = [fcD f] ∧ FcT ws f ∧ -far ≤ f.2.2 ∧ f.2.2 ≤ far := by
  obtain ⟨fs, e, hf⟩ := fcs_typed h
  have lo := fcs_low h e
  rw [e, List.length_map] at hl
  cases fs with
  | nil => simp at hl
  | cons f fs =>
    cases fs with
    | nil => exact ⟨f, e, hf f List.mem_cons_self, lo f List.mem_cons_self⟩
    | cons _ _ => simp at hl; omega
def Sp_law10 (c : C1) : Prop := ∀ (ns : List Int), c [.rol (ns.map D.int)] (fun _ => none) (fun v _ => v = .bl true) (fun _ _ _ => False)
theorem law_body {Γ : Cl} (hd : Sp_drawn (Γ 2)) (hn : Sp_next (Γ 4)) (ho : Sp_of (Γ 5)) (hw : Sp_words (Γ 55)) (hf : Sp_facts (Γ 91)) (hfo : Sp_follows (Γ 99)) (hba : Sp_by_all (Γ 105)) (hbc : Sp_by_chains (Γ 106)) : Sp_law10 (run Γ fd_law_v9) := by
  intro ns
  have sz := sizeLine_eq
  refine ⟨rfl, ?_⟩
  unfold fd_law_v9
  array_get_dec
  refine hd ns 10000 _ _ (by decide) fun a cl S hS => ?_
  array_get_dec
  refine ⟨by omega, wFor_ind (fun r e S' => ∃ (o2 o3 o4 o5 o6 o7 : Option D), e = [some (.rol (ns.map D.int)), some (.obj a), o2, o3, o4, o5, o6, o7] ∧ Stt a cl S' (1000 * r.length)) ?_ ?_ _ _ _ ⟨_, _, _, _, _, _, rfl, by rw [rng_len]; exact hS.le (by decide)⟩⟩
  · rintro env S' ⟨o2, o3, o4, o5, o6, o7, rfl, h1⟩
    refine ⟨trivial, ?_⟩
    try array_get_dec
  · rintro x r env S' ⟨o2, o3, o4, o5, o6, o7, rfl, h1⟩
    refine ⟨trivial, fun N hN => ?_⟩
    replace hN := Hd.mk hN
    rw [List.length_cons] at h1
    try array_get_dec
    refine newL_ok h1 .refl fun p1 S1 _ n1 _ v1 t1 _ _ => ?_
    refine ho a _ _ (1000 * r.length + 999) _ _ _ _ t1 ⟨_, .inr ⟨p1, rfl, n1, v1⟩, rfl⟩ (by simp) (by simp) fun v S2 hv t2 k2 => ?_
    have hk : ∃ k : Int, v = .int k ∧ 1 ≤ k ∧ k ≤ 3 := by
      simp only [List.mem_cons, List.not_mem_nil, or_false] at hv
      rcases hv with rfl | rfl | rfl | rfl <;> exact ⟨_, rfl, by decide, by decide⟩
    obtain ⟨k, rfl, k0, k1⟩ := hk
    clear hv v1
    try array_get_dec
    refine hw a _ _ (1000 * r.length + 987) _ _ _ t2 (by omega) (by omega) fun b S3 ws nb ub t3 k3 wl wnd wok => ?_
    have hba' := (t2.ne nb).1
    replace wok := Hd.mk wok
    try array_get_dec
    refine hn a _ _ (1000 * r.length + 986) _ _ _ t3 (by omega) (by omega) fun q2 S4 q20 q21 t4 k4 => ?_
    have u4 := k4 b _ hba' ub
    clear ub
    try array_get_dec
    refine hf a _ _ (1000 * r.length + 900) b ws q2 2 _ _ (t4.le (by omega)) hba' u4 wok.get (by omega) (by omega) (by omega) (by omega) (by decide) (by decide) fun fs' S5 t5 k5 fl hfs => ?_
    obtain ⟨fs, rfl, hft⟩ := fcs_typed hfs
    have hlow := fcs_low hfs rfl
    have u5 := k5 b _ hba' u4
    have fl' : fs.length ≤ 100 := by rw [List.length_map] at fl; omega
    replace hft := Hd.mk hft
    replace hlow := Hd.mk hlow
    clear hfs fl u4
    try array_get_dec
    refine hf a _ _ (1000 * r.length + 800) b ws 1 2 _ _ (t5.le (by omega)) hba' u5 wok.get (by omega) (by omega) (by omega) (by omega) (by decide) (by decide) fun fs1 S6 t6 k6 fl1 hfs1 => ?_
    obtain ⟨f, rfl, hf1, hf2⟩ := one_fact hfs1 fl1
    obtain ⟨x1, y1, c1⟩ := f
    have u6 := k6 b _ hba' u5
    clear hfs1 fl1 u5
    rw [show fcD (x1, y1, c1) = .tup [.str x1, .str y1, .int c1] from rfl]
    try array_get_dec
    try array_get_dec
    have hks : ("" :: ws : List Str).length < 64 := by rw [List.length_cons]; omega
    refine hfo S6 fs ("" :: ws) x1 y1 c1 _ _ hks (fun w h => fcs_in hft.get h) (ws_ok wok.get) hf1.2.2 fun S7 b1 g7 hb1 => ?_
    have u7 := g7 _ _ u6
    try array_get_dec
    refine hba S7 b ws fs x1 y1 c1 _ _ u7 (by omega) wnd fl' (ws_ok wok.get) hft.get hlow.get hf1.1.mem hf1.2.1.mem hf1.2.2 hf2.2 fun S8 b2 g8 hb2 => ?_
    have eb : b1 = b2 := Bool.eq_iff_iff.mpr (hb1.trans hb2.symm)
    subst eb
    have t8 := t6.grw (g7.trans g8)
    clear hb1 hb2 u7 u6 hft hlow wok
    try array_get_dec
    try array_get_dec
    refine hn a _ _ (1000 * r.length + 799) _ _ _ t8 (by omega) (by omega) fun q3 S9 q30 q31 t9 k9 => ?_
    try array_get_dec
    refine hw a _ _ (1000 * r.length + 787) _ _ _ t9 (by omega) (by omega) fun b S10 ws nb ub t10 k10 wl wnd wok => ?_
    have hba' := (t9.ne nb).1
    replace wok := Hd.mk wok
    try array_get_dec
    refine ⟨⟨by decide, by decide, by decide⟩, newL_ok t10 .refl fun p1 S11 _ n1 _ v1 t11 k11 _ => ?_⟩
    refine ho a _ _ (1000 * r.length + 786) _ _ _ _ t11 ⟨_, .inr ⟨p1, rfl, n1, v1⟩, rfl⟩ (by simp) (by simp) fun v S12 hv t12 k12 => ?_
    have hfar : ∃ far : Int, v = .int far ∧ 0 < far ∧ far < 2 ^ 62 := by
      simp only [List.mem_cons, List.not_mem_nil, or_false] at hv
      rcases hv with rfl | rfl | rfl <;> exact ⟨_, rfl, by decide, by decide⟩
    obtain ⟨far, rfl, far0, far1⟩ := hfar
    clear hv v1
    have u12 := k12 b _ hba' (k11 b _ hba' ub)
    clear ub
    try array_get_dec
    refine newL_ok t12 .refl fun p1 S13 _ n1 _ v1 t13 k13 _ => ?_
    refine ho a _ _ (1000 * r.length + 785) _ _ _ _ t13 ⟨_, .inr ⟨p1, rfl, n1, v1⟩, rfl⟩ (by simp) (by simp) fun v S14 hv t14 k14 => ?_
    have hk : ∃ k : Int, v = .int k ∧ 0 ≤ k ∧ k ≤ 30 := by
      simp only [List.mem_cons, List.not_mem_nil, or_false] at hv
      rcases hv with rfl | rfl | rfl | rfl <;> exact ⟨_, rfl, by decide, by decide⟩
    obtain ⟨k', rfl, k0', k1'⟩ := hk
    clear hv v1
    have u14 := k14 b _ hba' (k13 b _ hba' u12)
    clear u12
    refine hf a _ _ (1000 * r.length + 600) b ws k' far _ _ (t14.le (by omega)) hba' u14 wok.get (by omega) (by omega) (by omega) (by omega) far0 far1 fun fs' S15 t15 k15 fl hfs => ?_
    obtain ⟨fs, rfl, hft⟩ := fcs_typed hfs
    have u15 := k15 b _ hba' u14
    have fl' : fs.length ≤ 100 := by rw [List.length_map] at fl; omega
    have hks : ("" :: ws : List Str).length < 64 := by rw [List.length_cons]; omega
    replace hft := Hd.mk hft
    clear hfs fl u14
    try array_get_dec
    refine hf a _ _ (1000 * r.length + 500) b ws 4 far _ _ (t15.le (by omega)) hba' u15 wok.get (by omega) (by omega) (by omega) (by omega) far0 far1 fun fs4 S16 t16 k16 fl4 hfs4 => ?_
    obtain ⟨fs4, rfl, hft4⟩ := fcs_typed hfs4
    replace hft4 := Hd.mk hft4
    clear hfs4 fl4 u15
    try array_get_dec
    refine wFor_ind (fun r' e S' => ∃ (o5 : Option D) (rs : List Fc3), e = [some (.rol (ns.map D.int)), some (.obj a), some x, some (.obj b), some (.tup (fs.map fcD)), o5, some (.bl b1), some (.int far)] ∧ r' = rs.map fcD ∧ (∀ f ∈ rs, FcT ws f) ∧ Stt a cl S' (1000 * r.length)) ?_ ?_ _ _ _
      ⟨_, fs4, rfl, rfl, hft4.get, t16.le (by omega)⟩
    · rintro env S' ⟨o5, rs, rfl, h1, h2, h3⟩
      exact ⟨trivial, hN.get _ _ ⟨_, _, _, _, _, _, rfl, h3⟩⟩
    · rintro d r' env S' ⟨o5, rs, rfl, h1, h2, h3⟩
      refine ⟨trivial, fun N2 hN2 => ?_⟩
      replace hN2 := Hd.mk hN2
      cases rs with
      | nil => cases h1
      | cons f rs =>
        obtain ⟨rfl, h1'⟩ := List.cons.inj h1
        clear h1
        obtain ⟨x1, y1, c1⟩ := f
        have hf1 := h2 _ List.mem_cons_self
        have h2' : ∀ f ∈ rs, FcT ws f := fun f hf => h2 f (List.mem_cons_of_mem _ hf)
        replace h2' := Hd.mk h2'
        clear h2
        rw [show fcD (x1, y1, c1) = .tup [.str x1, .str y1, .int c1] from rfl]
        try array_get_dec
        refine hfo S' fs ("" :: ws) x1 y1 c1 _ _ hks (fun w h => fcs_in hft.get h) (ws_ok wok.get) hf1.2.2 fun S17 b1 g17 hb1 => ?_
        try array_get_dec
        refine hbc S17 fs ("" :: ws) x1 y1 c1 _ _ hks (fun w h => fcs_in hft.get h) hf1.1.mem hf1.2.1.mem List.mem_cons_self fl' fun S18 b2 g18 hb2 => ?_
        have eb : b1 = b2 := Bool.eq_iff_iff.mpr (hb1.trans hb2.symm)
        subst eb
        clear hb1 hb2
        try array_get_dec
        exact hN2.get _ _ ⟨_, rs, rfl, h1', h2'.get, h3.grw (g17.trans g18)⟩
theorem main : ∀ ns : List Int, ns.length ≤ 63 → (∀ i ∈ ns, Builtin.Int.intBits i ≤ 1048576) → callN tab 50 107 [.rol (ns.map D.int)] (fun _ => none) (fun v _ => v = .bl true) (fun _ _ _ => False) := by
  intro ns _ _
  have h2 : tab 2 = some fd__law_drawn := rfl
  have h3 : tab 3 = some fd__law_load := rfl
  have h4 : tab 4 = some fd__law_next := rfl
  have h5 : tab 5 = some fd__law_of := rfl
  have n4 : ∀ k, Sp_next (callN tab (k + 2) 4) := next_at h3 h4
  have n5 : ∀ k, Sp_of (callN tab (k + 3) 5) := of_at h3 h4 h5
  have n55 : ∀ k, Sp_words (callN tab (k + 4) 55) := fun k => words_at h3 h4 h5 55 rfl k
  have n91 : ∀ k, Sp_facts (callN tab (k + 4) 91) := fun k => by rw [callN_eq (show tab 91 = some fd__law_facts from rfl)]; exact facts_body (n4 (k + 1)) (n5 k)
  have n96 : ∀ k, Sp_words_in (callN tab (k + 1) 96) := fun k => by rw [callN_eq (show tab 96 = some fd_words_in from rfl)]; exact words_in_body
  have n97 : ∀ k, Sp_gaps (callN tab (k + 2) 97) := fun k => by rw [callN_eq (show tab 97 = some fd_least_gaps from rfl)]; exact gaps_body (n96 k)
  have n98 : ∀ k, Sp_can_be (callN tab (k + 1) 98) := fun k => by rw [callN_eq (show tab 98 = some fd_can_be from rfl)]; exact can_be_body
  have n99 : ∀ k, Sp_follows (callN tab (k + 3) 99) := fun k => by rw [callN_eq (show tab 99 = some fd_follows from rfl)]; exact follows_body (n97 k) (n98 (k + 1))
  have n102 : ∀ k, Sp_least (callN tab (k + 1) 102) := fun k => by rw [callN_eq (show tab 102 = some fd__law_least from rfl)]; exact least_body
  have n103 : ∀ k, Sp_is_round (callN tab (k + 2) 103) := fun k => by rw [callN_eq (show tab 103 = some fd__law_is_round from rfl)]; exact is_round_body (n102 k)
  have n100 : ∀ k, Sp_numT (callN tab (k + 1) 100) := fun k => by rw [callN_eq (show tab 100 = some fd__law_number_v2 from rfl)]; exact numT_body
  have n101 : ∀ k, Sp_holdT (callN tab (k + 2) 101) := fun k => by rw [callN_eq (show tab 101 = some fd__law_holds_v2 from rfl)]; exact holdT_body (n100 k)
  have n104 : ∀ k, Sp_all_numbers (callN tab (k + 1) 104) := fun k => by rw [callN_eq (show tab 104 = some fd__law_all_numbers from rfl)]; exact all_numbers_body
  have n105 : ∀ k, Sp_by_all (callN tab (k + 3) 105) := fun k => by rw [callN_eq (show tab 105 = some fd__law_by_all from rfl)]; exact by_all_body (n104 (k + 1)) (n101 k)
  have n106 : ∀ k, Sp_by_chains (callN tab (k + 3) 106) := fun k => by rw [callN_eq (show tab 106 = some fd__law_by_chains from rfl)]; exact by_chains_body (n102 (k + 1)) (n103 k)
  rw [callN_eq (show tab 107 = some fd_law_v9 from rfl)]
  exact law_body (drawn_at h2 48) (n4 47) (n5 46) (n55 45) (n91 45) (n99 46) (n105 46) (n106 46) ns
end Mn

set_option maxHeartbeats 0
namespace Mn
open PySem PySem.W PySem.Calls PyProof.Rows
abbrev R : OpenRow := OpenLaw.row PySem.Challenge.rw_neverstuck_k10_what_follows
abbrev hk : Hook := hookM 4 (rowFa rows) (rows.map (·.d)) consts
def ob (s : SharedT) : AlM := obsMG 4 (rowFa rows) (rows.map (·.d)) consts (HandSHeadRun.getT s)
theorem ob_eq (s : SharedT) : ob s = hk.obs s.abs := obsMG_eq (HandSHeadRun.getT_eq s)
def loose : List PySem.Str := ["words_in", "least_gaps", "can_be", "follows", "_law_drawn", "_law_load", "_law_next", "_law_of", "_law_words", "_law_facts", "_law_number", "_law_holds", "_law_least", "_law_is_round", "_law_all_numbers", "_law_by_all", "_law_by_chains"]
theorem headrun (w : World) : HandSHeadRun.RunEq R (view R.prog [19]) hk ob 600 loose w := by
  intro os
  kernel_rfl
end Mn

set_option maxHeartbeats 0
namespace Mn
open PySem PySem.W PySem.Calls PyProof.Rows
end Mn
open PySem PySem.W PySem.Calls PyProof.Rows
theorem PySem.Challenge.cw_neverstuck_k10_what_follows_holds : PySem.Challenge.rw_neverstuck_k10_what_follows.Holds := by
  w_on; o_law
  refine HandSHeadRun.head_any (r := Mn.R) (q := view Mn.R.prog [19]) (H := Mn.hk) (ob := Mn.ob) (M := 600) (loose := Mn.loose) (d := HandSHeadRun.topDef Mn.R.prog 19) (kwd := []) Mn.ob_eq
    (by kernel_rfl) (fun s => by kernel_rfl) Mn.headrun (by kernel_rfl) (by kernel_rfl) (by kernel_rfl) (by rfl) (by first | assumption | decide +kernel) (by decide +kernel) ⟨rfl, rfl, rfl, rfl, rfl, by decide +kernel⟩ ?hw ?hc
  case hw => w_witness2
  case hc => exact Mn.law_end (r0 := Mn.row_law_v9) (k := 50) (x := "_law_script") rfl (by kernel_rfl) ⟨rfl, by decide, by decide⟩ (by simp [Mn.rows]) (by kernel_rfl) rfl Mn.rows_tab (List.all_eq_true.mp Mn.rows_ok) Mn.main
