import PyProof.Rows.All
import Wide.All
import OpenK.AllK
import Wide.FinOn
import HandS.ForMost
import HandS.Exc
import HandS.ExcOwn
import HandS.Flow
import HandS.TupAny
import PyProof.ReprDict
import HandS.TupMul
import HandS.SetKeys
import HandS.TupLen
import HandS.IsInst
import HandS.Conv
import KE.DatumOrd
import HandS.Ends
import HandS.RaiseMore
import PyProof.ReprRoads
import HandS.Codes
import PyProof.DictMoreH
import HandS.Walk
import HandS.Zip
import HandS.Iter
import HandS.Style
import HandS.NoneIn
import KE.KDictWalk
import KE.KDictSum
import HandS.SortRule
import KE.KDictZip
import HandS.TryMany
import HandS.Words
import PySem.Challenge.RW_pressedwrits_k15_whole_partings_of_chain
set_option Elab.async false
set_option linter.all false
set_option maxRecDepth 100000
set_option maxHeartbeats 4000000
/-! IA: an evaluator of the subset of Python that the laws and the package use: values, store, terms. -/
namespace PyI
open PySem

/-- a value: numbers, texts (their codes) and tuples as such; what can change stands in the store under a number -/
inductive D where
  | non | bl (b : Bool) | int (i : Int) | str (x : List Nat) | tup (xs : List D) | rol (xs : List D) | ref (n : Nat)

mutual
def D.eqb : D → D → Bool
  | .non, .non => true
  | .bl a, .bl b => a == b
  | .int a, .int b => a == b
  | .str a, .str b => a == b
  | .tup a, .tup b => D.eqs a b
  | .rol a, .rol b => D.eqs a b
  | .ref a, .ref b => a == b
  | _, _ => false
def D.eqs : List D → List D → Bool
  | [], [] => true
  | a :: x, b :: y => D.eqb a b && D.eqs x y
  | _, _ => false
end
mutual
theorem D.eqb_iff : ∀ a b : D, D.eqb a b = true ↔ a = b
  | .non, b => by cases b <;> simp [D.eqb]
  | .bl _, b => by cases b <;> simp [D.eqb]
  | .int _, b => by cases b <;> simp [D.eqb]
  | .str _, b => by cases b <;> simp [D.eqb]
  | .ref _, b => by cases b <;> simp [D.eqb]
  | .tup x, b => by
    cases b <;> simp only [D.eqb, reduceCtorEq, Bool.false_eq_true]
    rename_i y
    rw [D.eqs_iff x y, D.tup.injEq]
  | .rol x, b => by
    cases b <;> simp only [D.eqb, reduceCtorEq, Bool.false_eq_true]
    rename_i y
    rw [D.eqs_iff x y, D.rol.injEq]
theorem D.eqs_iff : ∀ a b : List D, D.eqs a b = true ↔ a = b
  | [], b => by cases b <;> simp [D.eqs]
  | a :: x, b => by
    cases b with
    | nil => simp [D.eqs]
    | cons b y => simp only [D.eqs, Bool.and_eq_true, List.cons.injEq, D.eqb_iff a b, D.eqs_iff x y]
end
instance : DecidableEq D := fun a b => if h : D.eqb a b = true then isTrue ((D.eqb_iff a b).mp h) else isFalse fun e => h ((D.eqb_iff a b).mpr e)

abbrev Ky := Sum Int (List Nat)
/-- what stands in the store -/
inductive Cell where
  | lst (xs : List D)
  | dk (kvs : List (Ky × D))
  | dt (kvs : List (List Ky × D))
  | ins (c : Str) (fs : List (Str × D))
  | xd (c : Str) (fs : List (Str × D))
  | fzk (kvs : List (Ky × D))
  | fzt (kvs : List (List Ky × D))
  deriving DecidableEq
abbrev Sto := List Cell

inductive Res (α : Type) where
  | ok (a : α) (st : Sto) | exc (n : Nat) (st : Sto) | stuck
@[reducible] def M (α : Type) := Sto → Res α
def Res.bind {α β : Type} (r : Res α) (f : α → Sto → Res β) : Res β := match r with
  | .ok a st => f a st
  | .exc n st => .exc n st
  | .stuck => .stuck
@[simp] theorem Res.bind_ok {α β : Type} (a : α) (st : Sto) (f : α → Sto → Res β) : (Res.ok a st).bind f = f a st := rfl
@[simp] theorem Res.bind_exc {α β : Type} (n : Nat) (st : Sto) (f : α → Sto → Res β) : (Res.exc n st : Res α).bind f = .exc n st := rfl
@[simp] theorem Res.bind_stuck {α β : Type} (f : α → Sto → Res β) : (Res.stuck : Res α).bind f = .stuck := rfl

abbrev Env := List (Option D)

inductive Op2 where | add | sub | mul | fdiv | mod | pow
  deriving DecidableEq
inductive CmpK where | lt | le | gt | ge | eq | ne | isN | notN | inn | nin
  deriving DecidableEq
inductive Fn where | len | abs | int | str | repr | bool | tuple | list | sum | all | any | max | min | sorted | ord | set | dict
  deriving DecidableEq
inductive Mt where | append | pop | get | setdefault | index | join | split | extend | find | isdigit | replace | upper | count
  deriving DecidableEq
inductive Ty where | int | bool | str | tup | lst | own (c : Str)
  deriving DecidableEq

inductive Tg where
  | name (i : Nat)
  | two (a b : Tg)
  | three (a b c : Tg)

mutual
inductive IE where
  | nop
  | con (d : D)
  | var (i : Nat)
  | bin (o : Op2) (a b : IE)
  | neg (a : IE)
  | cmp (o : CmpK) (a b : IE)
  | cmp3 (o p : CmpK) (a b c : IE)
  | and (a b : IE)
  | or (a b : IE)
  | not (a : IE)
  | ite (c a b : IE)
  | tup (es : IEs)
  | lst (es : IEs)
  | dct (es : IEs)
  | ix (a b : IE)
  | sl (a : IE) (lo hi : IP)
  | back (a : IE) (lo : IP)
  | call (f : Nat) (es : IEs)
  | blt (f : Fn) (es : IEs)
  | mth (m : Mt) (o : IE) (es : IEs)
  | isi (a : IE) (t : Ty)
  | comp (elt : IE) (tg : Tg) (it : II) (cond : IP) (own : List Nat)
  | tupI (w : II)
  | compD (elt : IE) (tg : Tg) (v : Nat) (cond : IP) (own : List Nat)
inductive IP where
  | none
  | some (e : IE)
inductive IEs where
  | nil
  | cons (e : IE) (es : IEs)
inductive II where
  | val (e : IE)
  | rng1 (a : IE)
  | rng2 (a b : IE)
  | rng3 (a b c : IE)
  | enum (e : IE)
  | zip (a b : IE)
end

/-! ### values in one -/
def D.truth (st : Sto) : D → Option Bool
  | .non => some false
  | .bl b => some b
  | .int i => some (i != 0)
  | .str x => if x.length ≤ 16777216 then some (!x.isEmpty) else none
  | .tup xs => some (!xs.isEmpty)
  | .rol xs => some (!xs.isEmpty)
  | .ref n => match st[n]? with
    | some (.lst xs) => some (!xs.isEmpty)
    | some (.dk kvs) => some (!kvs.isEmpty)
    | _ => none
def one (d : Option D) (st : Sto) : Res D := match d with
  | some d => .ok d st
  | none => .stuck
@[simp] theorem one_some (d : D) (st : Sto) : one (some d) st = .ok d st := rfl
@[simp] theorem one_none (st : Sto) : one none st = .stuck := rfl

/-- the list that stands there to be read -/
def listAt (st : Sto) (n : Nat) : Option (List D) := match st[n]? with
  | some (.lst xs) => some xs
  | _ => none
def keyOf : D → Option Ky
  | .int i => some (.inl i)
  | .str x => some (.inr x)
  | _ => none
def keysOf : List D → Option (List Ky)
  | [] => some []
  | d :: r => (keyOf d).bind fun k => (keysOf r).map fun l => k :: l
def kyD : Ky → D
  | .inl i => .int i
  | .inr x => .str x
section
variable {κ : Type} [DecidableEq κ]
def valD (kvs : List (κ × D)) (k : κ) : Option D := (kvs.find? fun kv => decide (kv.1 = k)).map (·.2)
def putD (kvs : List (κ × D)) (k : κ) (v : D) : List (κ × D) :=
  if kvs.any fun kv => decide (kv.1 = k) then kvs.map fun kv => if kv.1 = k then (kv.1, v) else kv else kvs ++ [(k, v)]
end

/-! data as a tree: what == and repr see; g tells the lists of the store -/
mutual
def D.deep (g : Nat → Option PyData) : D → Option PyData
  | .non => some .none
  | .bl b => some (.bool b)
  | .int i => some (.int i)
  | .str x => some (.str ⟨x.toArray⟩)
  | .tup xs => (D.deeps g xs).map .tuple
  | .rol xs => (D.deeps g xs).map .list
  | .ref n => g n
def D.deeps (g : Nat → Option PyData) : List D → Option (List PyData)
  | [] => some []
  | d :: r => (D.deep g d).bind fun x => (D.deeps g r).map fun l => x :: l
end
def refTree (st : Sto) : Nat → Nat → Option PyData
  | 0, _ => none
  | k + 1, n => (listAt st n).bind fun xs => (D.deeps (refTree st k) xs).map .list
def tree (st : Sto) (d : D) : Option PyData := D.deep (refTree st 8) d
end PyI

/-! IB: the evaluator. -/
namespace PyI
open PySem

/-- may be written by repr -/
def reprOk (t : PyData) : Bool := t.showable && !t.hasDict && decide (t.depth ≤ 64) && decide (t.shown.length ≤ 16777216)

def eqS : D → D → Option Bool
  | .str x, .str y => some (decide (x = y))
  | _, _ => none
def eqD0 (st : Sto) (a b : D) : Option Bool :=
  (tree st a).bind fun x => (tree st b).bind fun y => if SeqAt.shaped x && SeqAt.shaped y then some (PyData.eqv x y) else none

def eqD (st : Sto) (a b : D) : Option Bool := match eqS a b with
  | some c => some c
  | none => eqD0 st a b
def mulOk (i j : Int) : Bool := (decide (-(2 ^ 64) < i) && decide (i < 2 ^ 64)) || (decide (-(2 ^ 64) < j) && decide (j < 2 ^ 64))
def guard' {α : Type} (c : Bool) (r : Res α) : Res α := if c = true then r else .stuck

/-- x in xs, of plain things -/
def flatD : D → Bool
  | .non => true | .bl _ => true | .int _ => true | .str _ => true | _ => false
def eqF : D → D → Bool
  | .bl a, .int j => (if a then 1 else 0) == j
  | .int i, .bl b => i == (if b then 1 else 0)
  | a, b => decide (a = b)
def inD (x : D) (xs : List D) : Option Bool := if flatD x && xs.all flatD then some (xs.any fun y => eqF y x) else none

/-- the items of xs[lo:hi] -/
def cutD {α : Type} (xs : List α) (lo hi : Option Int) : List α := (xs.drop (HT.sIx xs.length 0 lo)).take (HT.sIx xs.length xs.length hi - HT.sIx xs.length 0 lo)
def newL (xs : List D) (st : Sto) : Res D := .ok (.ref st.length) (st ++ [.lst xs])

def bin2 (o : Op2) (a b : D) (st : Sto) : Res D := match o, a, b with
  | .add, .int i, .int j => .ok (.int (i + j)) st
  | .add, .str x, .str y => guard' (decide (x.length + y.length ≤ 16777216)) (.ok (.str (x ++ y)) st)
  | .add, .tup x, .tup y => guard' (decide (x.length + y.length ≤ 16777216)) (.ok (.tup (x ++ y)) st)
  | .add, .ref m, .ref n => match listAt st m, listAt st n with
    | some x, some y => guard' (decide (x.length + y.length ≤ 16777216)) (newL (x ++ y) st)
    | _, _ => .stuck
  | .sub, .int i, .int j => .ok (.int (i - j)) st
  | .mul, .int i, .int j => guard' (mulOk i j) (.ok (.int (i * j)) st)
  | .mul, .tup x, .int k => guard' (decide (x ≠ [] ∧ 2 ≤ k ∧ x.length * k.toNat ≤ 1000000)) (.ok (.tup (List.replicate k.toNat x).flatten) st)
  | .fdiv, .int i, .int j => guard' (decide (0 < j ∧ j < 1073741824)) (.ok (.int (i / j)) st)
  | .mod, .int i, .int j => guard' (decide (0 < j)) (.ok (.int (i % j)) st)
  | .pow, .int i, .int j => guard' (decide (0 ≤ j ∧ j ≤ 1000000 ∧ i.natAbs < 2 ^ 64)) (.ok (.int (i ^ j.toNat)) st)
  | _, _, _ => .stuck

/-- the dict there, by plain keys, by keys that are tuples; an empty one is both -/
def dkAt (st : Sto) (n : Nat) : Option (List (Ky × D)) := match st[n]? with
  | some (.dk kvs) => some kvs
  | _ => none
def dtAt (st : Sto) (n : Nat) : Option (List (List Ky × D)) := match st[n]? with
  | some (.dt kvs) => some kvs
  | some (.dk []) => some []
  | _ => none
/-- what a dict holds at a key -/
def dget (st : Sto) (n : Nat) (k : D) : Option (Option D) := match k with
  | .tup l => (dtAt st n).bind fun kvs => (keysOf l).map fun y => valD kvs y
  | k => (dkAt st n).bind fun kvs => (keyOf k).map fun y => valD kvs y
def dput (st : Sto) (n : Nat) (k v : D) : Option Sto := match k with
  | .tup l => (dtAt st n).bind fun kvs => if kvs.length < 16777216 then (keysOf l).map fun y => st.set n (.dt (putD kvs y v)) else none
  | k => (dkAt st n).bind fun kvs => if kvs.length < 16777216 then (keyOf k).map fun y => st.set n (.dk (putD kvs y v)) else none

def inB (a b : D) (st : Sto) : Option Bool := match b with
  | .tup xs => inD a xs
  | .str y => match a with
    | .str x => some (!(Builtin.Str.occurrences ⟨y.toArray⟩ ⟨x.toArray⟩ 0 y.length 1).isEmpty)
    | _ => none
  | .ref n => match listAt st n with
    | some xs => inD a xs
    | none => (dget st n a).map fun o => o.isSome
  | .rol xs => inD a xs
  | _ => none

def cmpB (o : CmpK) (a b : D) (st : Sto) : Option Bool := match o with
  | .lt => match a, b with
    | .int i, .int j => some (decide (i < j))
    | _, _ => none
  | .le => match a, b with
    | .int i, .int j => some (decide (i ≤ j))
    | _, _ => none
  | .gt => match a, b with
    | .int i, .int j => some (decide (j < i))
    | _, _ => none
  | .ge => match a, b with
    | .int i, .int j => some (decide (j ≤ i))
    | _, _ => none
  | .eq => eqD st a b
  | .ne => (eqD st a b).map fun c => !c
  | .isN => match b with
    | .non => some (decide (a = .non))
    | _ => none
  | .notN => match b with
    | .non => some (!decide (a = .non))
    | _ => none
  | .inn => inB a b st
  | .nin => (inB a b st).map fun c => !c
def cmp2 (o : CmpK) (a b : D) (st : Sto) : Res D := match cmpB o a b st with
  | some c => .ok (.bl c) st
  | none => .stuck

def index2 (a b : D) (st : Sto) : Res D := match a with
  | .tup xs => match b with
    | .int i => one (L2.atI xs i) st
    | _ => .stuck
  | .rol xs => match b with
    | .int i => one (L2.atI xs i) st
    | _ => .stuck
  | .str x => match b with
    | .int i => guard' (decide (x.length ≤ 16777216)) (one ((L2.atI x i).map fun c => .str [c]) st)
    | _ => .stuck
  | .ref n => match listAt st n with
    | some xs => match b with
      | .int i => one (L2.atI xs i) st
      | _ => .stuck
    | none => one ((dget st n b).bind id) st
  | _ => .stuck

def slice1 (l h : Option Int) (a : D) (st : Sto) : Res D := match a with
  | .tup xs => .ok (.tup (cutD xs l h)) st
  | .rol xs => newL (cutD xs l h) st
  | .str x => guard' (decide (x.length ≤ 16777216)) (.ok (.str (cutD x l h)) st)
  | .ref n => match listAt st n with
    | some xs => newL (cutD xs l h) st
    | none => .stuck
  | _ => .stuck

/-- a[lo::-1] -/
def back2 (a : D) (lo : Option Int) (st : Sto) : Res D := match a, lo with
  | .tup xs, none => .ok (.tup xs.reverse) st
  | .tup xs, some i => guard' (decide (-(xs.length : Int) ≤ i ∧ i < 0)) (.ok (.tup (xs.take (i + xs.length + 1).toNat).reverse) st)
  | _, _ => .stuck

def intsOf : List D → Option (List Int)
  | [] => some []
  | .int i :: r => (intsOf r).map fun l => i :: l
  | _ :: _ => none
def blsOf : List D → Option (List Bool)
  | [] => some []
  | .bl i :: r => (blsOf r).map fun l => i :: l
  | _ :: _ => none
def strsOf : List D → Option (List (List Nat))
  | [] => some []
  | .str i :: r => (strsOf r).map fun l => i :: l
  | _ :: _ => none
/-- a list's or tuple's items -/
def seqOf (st : Sto) : D → Option (List D)
  | .tup xs => some xs
  | .rol xs => some xs
  | .ref n => listAt st n
  | _ => none

def maxI : List Int → Option Int
  | [] => none
  | x :: r => some (r.foldl (fun a b => if decide (a < b) = true then b else a) x)
def minI : List Int → Option Int
  | [] => none
  | x :: r => some (r.foldl (fun a b => if decide (b < a) = true then b else a) x)

/-- the built-in class of a value -/
inductive Kd where | none | bool | int | str | tuple | list | dict
  deriving DecidableEq
def kdOf (st : Sto) : D → Option Kd
  | .non => some .none
  | .bl _ => some .bool
  | .int _ => some .int
  | .str _ => some .str
  | .tup _ => some .tuple
  | .rol _ => some .list
  | .ref n => match st[n]? with
    | some (.lst _) => some .list
    | some (.dk _) => some .dict
    | some (.dt _) => some .dict
    | _ => none
def kdIs : Ty → Kd → Bool
  | .int, .int => true
  | .int, .bool => true
  | .bool, .bool => true
  | .str, .str => true
  | .tup, .tuple => true
  | .lst, .list => true
  | _, _ => false
def isTy (t : Ty) (d : D) (st : Sto) : Option Bool := (kdOf st d).map (kdIs t)

/-! built-in functions -/
def fLen : List D → Sto → Res D := fun ds st => match ds with
  | [.str x] => guard' (decide (x.length ≤ 16777216)) (.ok (.int x.length) st)
  | [d] => match seqOf st d with
    | some xs => .ok (.int xs.length) st
    | none => match d with
      | .ref n => match st[n]? with
        | some (.dk kvs) => .ok (.int kvs.length) st
        | some (.dt kvs) => .ok (.int kvs.length) st
        | _ => .stuck
      | _ => .stuck
  | _ => .stuck
def fAbs : List D → Sto → Res D := fun ds st => match ds with
  | [.int i] => .ok (.int (if i < 0 then -i else i)) st
  | _ => .stuck
def fInt : List D → Sto → Res D := fun ds st => match ds with
  | [.int i] => .ok (.int i) st
  | [.bl b] => .ok (.int (if b then 1 else 0)) st
  | _ => .stuck
def fList : List D → Sto → Res D := fun ds st => match ds with
  | [d] => match seqOf st d with
    | some xs => newL xs st
    | none => .stuck
  | _ => .stuck
def fTuple : List D → Sto → Res D := fun ds st => match ds with
  | [d] => match seqOf st d with
    | some xs => .ok (.tup xs) st
    | none => match d with
      | .ref n => match st[n]? with
        | some (.dk kvs) => .ok (.tup (kvs.map fun p => kyD p.1)) st
        | some (.dt kvs) => .ok (.tup (kvs.map fun p => .tup (p.1.map kyD))) st
        | _ => .stuck
      | _ => .stuck
  | _ => .stuck
def fSum : List D → Sto → Res D := fun ds st => match ds with
  | [.ref n] => match (listAt st n).bind intsOf with
    | some l => .ok (.int l.sum) st
    | none => .stuck
  | _ => .stuck
def fAll : List D → Sto → Res D := fun ds st => match ds with
  | [.ref n] => match (listAt st n).bind blsOf with
    | some l => .ok (.bl (l.all id)) st
    | none => .stuck
  | _ => .stuck
def fAny : List D → Sto → Res D := fun ds st => match ds with
  | [.ref n] => match (listAt st n).bind blsOf with
    | some l => .ok (.bl (l.any id)) st
    | none => .stuck
  | _ => .stuck
def fMax : List D → Sto → Res D := fun ds st => match ds with
  | [.int i, .int j] => .ok (.int (if j > i then j else i)) st
  | [d] => match (seqOf st d).bind fun xs => (intsOf xs).bind maxI with
    | some m => .ok (.int m) st
    | none => .stuck
  | _ => .stuck
def fMin : List D → Sto → Res D := fun ds st => match ds with
  | [.int i, .int j] => .ok (.int (if j < i then j else i)) st
  | [d] => match (seqOf st d).bind fun xs => (intsOf xs).bind minI with
    | some m => .ok (.int m) st
    | none => .stuck
  | _ => .stuck
def fRepr : List D → Sto → Res D := fun ds st => match ds with
  | [d] => match tree st d with
    | some t => guard' (reprOk t) (.ok (.str t.shown.cps.toList) st)
    | none => .stuck
  | _ => .stuck
def fOrd : List D → Sto → Res D := fun ds st => match ds with
  | [.str [c]] => .ok (.int (c : Nat)) st
  | _ => .stuck
/-- keys that are pairs of whole numbers -/
def prsOf : List (List Ky) → Option (List (Int × Int))
  | [] => some []
  | [.inl i, .inl j] :: r => (prsOf r).map fun l => (i, j) :: l
  | _ :: _ => none
def pLe (a b : Int × Int) : Bool := decide (a.1 < b.1) || (decide (a.1 = b.1) && decide (a.2 ≤ b.2))
def fSorted : List D → Sto → Res D := fun ds st => match ds with
  | [.ref n] => match st[n]? with
    | some (.dt kvs) => match prsOf (kvs.map (·.1)) with
      | some ks => newL ((ks.mergeSort pLe).map fun x => .tup [.int x.1, .int x.2]) st
      | none => .stuck
    | _ => .stuck
  | _ => .stuck
def blt : Fn → List D → Sto → Res D
  | .len => fLen
  | .abs => fAbs
  | .int => fInt
  | .list => fList
  | .tuple => fTuple
  | .sum => fSum
  | .all => fAll
  | .any => fAny
  | .max => fMax
  | .min => fMin
  | .repr => fRepr
  | .ord => fOrd
  | .sorted => fSorted
  | _ => fun _ _ => .stuck

def itemsOf (kvs : List (Ky × D)) : List D := kvs.map fun p => .tup [kyD p.1, p.2]
def itemsT (kvs : List (List Ky × D)) : List D := kvs.map fun p => .tup [.tup (p.1.map kyD), p.2]

def setC (st : Sto) (n : Nat) (c : Cell) : Sto := st.set n c

/-! methods -/
def mAppend : D → List D → Sto → Res D := fun o ds st => match o, ds with
  | .ref n, [d] => match listAt st n with
    | some xs => guard' (decide (xs.length < 16777216)) (.ok .non (st.set n (.lst (xs ++ [d]))))
    | none => .stuck
  | _, _ => .stuck
def mPop : D → List D → Sto → Res D := fun o ds st => match o, ds with
  | .ref n, [] => match listAt st n with
    | some xs => match xs[xs.length - 1]? with
      | some d => .ok d (st.set n (.lst xs.dropLast))
      | none => .stuck
    | none => .stuck
  | _, _ => .stuck
def mGet : D → List D → Sto → Res D := fun o ds st => match o, ds with
  | .ref n, [k, d] => match dget st n k with
    | some o => .ok (o.getD d) st
    | none => .stuck
  | _, _ => .stuck
def mSetd : D → List D → Sto → Res D := fun o ds st => match o, ds with
  | .ref n, [k, d] => match dget st n k, dput st n k d with
    | some (some v), some _ => .ok v st
    | some none, some st => .ok d st
    | _, _ => .stuck
  | _, _ => .stuck
def mJoin : D → List D → Sto → Res D := fun o ds st => match o, ds with
  | .str s, [d] => match (seqOf st d).bind strsOf with
    | some l => guard' (decide ((l.map List.length).sum + l.length * s.length ≤ 16777216)) (.ok (.str (List.intercalate s l)) st)
    | none => .stuck
  | _, _ => .stuck
/-- of what built-in class a method is -/
def mKd : Mt → Kd
  | .append | .pop | .extend => .list
  | .get | .setdefault => .dict
  | _ => .str
def mth : Mt → D → List D → Sto → Res D
  | .append => mAppend
  | .pop => mPop
  | .get => mGet
  | .setdefault => mSetd
  | .join => mJoin
  | _ => fun _ _ _ => .stuck

/-- o[i] = v -/
def setI (o i v : D) (st : Sto) : Option Sto := match o with
  | .ref n => match listAt st n with
    | some xs => match i with
      | .int k => (L2.ixN xs.length k).map fun j => st.set n (.lst (xs.set j v))
      | _ => none
    | none => dput st n i v
  | _ => none

/-- the items of what is walked; where they come from if that may change -/
structure Wk where
  xs : List D
  src : Option (Nat × Cell)
def Wk.still (w : Wk) (st : Sto) : Bool := match w.src with
  | none => true
  | some (n, c) => decide (st[n]? = some c)

def walkOf (st : Sto) : D → Option Wk
  | .tup xs => some ⟨xs, none⟩
  | .rol xs => some ⟨xs, none⟩
  | .str x => some ⟨x.map fun c => .str [c], none⟩
  | .ref n => match st[n]? with
    | some (.lst xs) => some ⟨xs, some (n, .lst xs)⟩
    | _ => none
  | _ => none
/-- a list to be walked -/
def lwalk (st : Sto) : D → Option Wk
  | .rol xs => some ⟨xs, none⟩
  | .ref n => match st[n]? with
    | some (.lst xs) => some ⟨xs, some (n, .lst xs)⟩
    | _ => none
  | _ => none
def rgD (lo : Int) (n : Nat) : List D := (List.range n).map fun i => .int (lo + (i : Nat))
def rgC (lo c : Int) (n : Nat) : List D := (List.range n).map fun i => .int (lo + (i : Nat) * c)
def r3Ok (i j k : Int) : Bool := decide (k ≠ 0) && decide (k.natAbs < 1073741824) && Builtin.Range.small i j k && decide (0 ≤ Builtin.Range.rangeSize i j k)
def rngOk (i : Int) : Bool := decide (-(2 ^ 62) ≤ i ∧ i < 2 ^ 62)
def enumD (xs : List D) : List D := xs.zipIdx.map fun p => .tup [.int (p.2 : Nat), p.1]
def zipDD (xs ys : List D) : List D := (xs.zip ys).map fun p => .tup [p.1, p.2]

/-- a target's names given their values -/
def tgSet (st : Sto) : Tg → D → Env → Option Env
  | .name i, d, env => some (env.set i (some d))
  | .two a b, d, env => match seqOf st d with
    | some [x, y] => (tgSet st a x env).bind fun e => tgSet st b y e
    | _ => none
  | .three a b c, d, env => match seqOf st d with
    | some [x, y, z] => (tgSet st a x env).bind fun e => (tgSet st b y e).bind fun e => tgSet st c z e
    | _ => none

def wipeE (env : Env) : List Nat → Env
  | [] => env
  | v :: vs => (wipeE env vs).set v none

/-- where nothing may be raised -/
def noX {α : Type} : Res α → Res α
  | .exc _ _ => .stuck
  | r => r
/-- a dict walked by its items: where, what stands there the while, the items -/
def lockD (st : Sto) : D → Option (Nat × Cell × Cell × List D)
  | .ref n => match st[n]? with
    | some (.dk kvs) => some (n, .dk kvs, .fzk kvs, itemsOf kvs)
    | some (.dt kvs) => some (n, .dt kvs, .fzt kvs, itemsT kvs)
    | _ => none
  | _ => none

/-- a comprehension's turns: f gives the item, or nothing where the test fails -/
def compL (w : Wk) (f : D → Sto → Res (Option D)) : List D → List D → Sto → Res (List D)
  | [], acc, st => guard' (w.still st) (.ok acc st)
  | x :: r, acc, st => guard' (w.still st && decide (acc.length < 16777216)) ((noX (f x st)).bind fun o st1 => compL w f r (match o with | some d => acc ++ [d] | none => acc) st1)

/-- one turn: the target set, the test, the item -/
def turnL (tg : Tg) (own : List Nat) (env : Env) (fc fe : Env → Sto → Res D) (nc : Bool) (x : D) (st : Sto) : Res (Option D) := match tgSet st tg x (wipeE env own) with
  | some e => if nc = true then (fe e st).bind fun d st => .ok (some d) st else (fc e st).bind fun c st => match c.truth st with
    | some true => (fe e st).bind fun d st => .ok (some d) st
    | some false => .ok none st
    | none => .stuck
  | none => .stuck

def ncOf : IP → Bool
  | .none => true
  | .some _ => false
mutual
def evE (cf : Nat → List D → Sto → Res D) : IE → Env → Sto → Res D
  | .nop, _, st => .ok .non st
  | .con d, _, st => .ok d st
  | .var i, env, st => one (env[i]?.join) st
  | .bin o a b, env, st => (evE cf a env st).bind fun x st => (evE cf b env st).bind fun y st => bin2 o x y st
  | .neg a, env, st => (evE cf a env st).bind fun x st => match x with
    | .int i => .ok (.int (-i)) st
    | _ => .stuck
  | .cmp o a b, env, st => (evE cf a env st).bind fun x st => (evE cf b env st).bind fun y st => cmp2 o x y st
  | .cmp3 o p a b c, env, st => (evE cf a env st).bind fun x st => (evE cf b env st).bind fun y st => match cmpB o x y st with
    | some true => (evE cf c env st).bind fun z st => cmp2 p y z st
    | some false => .ok (.bl false) st
    | none => .stuck
  | .and a b, env, st => (evE cf a env st).bind fun x st => match x.truth st with
    | some true => evE cf b env st
    | some false => .ok x st
    | none => .stuck
  | .or a b, env, st => (evE cf a env st).bind fun x st => match x.truth st with
    | some true => .ok x st
    | some false => evE cf b env st
    | none => .stuck
  | .not a, env, st => (evE cf a env st).bind fun x st => match x.truth st with
    | some c => .ok (.bl (!c)) st
    | none => .stuck
  | .ite c a b, env, st => (evE cf c env st).bind fun x st => match x.truth st with
    | some true => evE cf a env st
    | some false => evE cf b env st
    | none => .stuck
  | .tup es, env, st => (evEs cf es env st).bind fun xs st => guard' (decide (xs.length ≤ 16777216)) (.ok (.tup xs) st)
  | .lst es, env, st => (evEs cf es env st).bind fun xs st => guard' (decide (xs.length ≤ 16777216)) (newL xs st)
  | .dct es, env, st => (evEs cf es env st).bind fun xs st => match xs with
    | [] => .ok (.ref st.length) (st ++ [.dk []])
    | [.str a, x] => .ok (.ref st.length) (st ++ [.dk [(.inr a, x)]])
    | [.str a, x, .str b, y] => guard' (decide (a ≠ b)) (.ok (.ref st.length) (st ++ [.dk [(.inr a, x), (.inr b, y)]]))
    | _ => .stuck
  | .ix a b, env, st => (evE cf a env st).bind fun x st => (evE cf b env st).bind fun y st => index2 x y st
  | .sl a lo hi, env, st => (evE cf a env st).bind fun x st => (evP cf lo env st).bind fun l st => (evP cf hi env st).bind fun h st => slice1 l h x st
  | .back a lo, env, st => (evE cf a env st).bind fun x st => (evP cf lo env st).bind fun l st => back2 x l st
  | .call f es, env, st => (evEs cf es env st).bind fun xs st => cf f xs st
  | .blt f es, env, st => (evEs cf es env st).bind fun xs st => blt f xs st
  | .mth m o es, env, st => (evE cf o env st).bind fun x st => if kdOf st x = some (mKd m) then (evEs cf es env st).bind fun xs st => mth m x xs st else .stuck
  | .isi a t, env, st => (evE cf a env st).bind fun x st => match isTy t x st with
    | some c => .ok (.bl c) st
    | none => .stuck
  | .comp elt tg it cond own, env, st => (evI cf it env st).bind fun w st => (compL w (turnL tg own env (evC cf cond) (evE cf elt) (ncOf cond)) w.xs [] st).bind newL
  | .tupI w, env, st => (evI cf w env st).bind fun w st => guard' (decide (w.xs.length ≤ 16777216)) (.ok (.tup w.xs) st)
  | .compD elt tg v cond own, env, st => match (env[v]?.join).bind (lockD st) with
    | some (n, c, c', xs) => (compL ⟨xs, none⟩ (turnL tg own env (evC cf cond) (evE cf elt) (ncOf cond)) xs [] (st.set n c')).bind fun xs st => newL xs (st.set n c)
    | none => .stuck
def evC (cf : Nat → List D → Sto → Res D) : IP → Env → Sto → Res D
  | .none, _, st => .ok .non st
  | .some e, env, st => evE cf e env st
def evP (cf : Nat → List D → Sto → Res D) : IP → Env → Sto → Res (Option Int)
  | .none, _, st => .ok none st
  | .some e, env, st => (evE cf e env st).bind fun x st => match x with
    | .int i => .ok (some i) st
    | _ => .stuck
def evEs (cf : Nat → List D → Sto → Res D) : IEs → Env → Sto → Res (List D)
  | .nil, _, st => .ok [] st
  | .cons e es, env, st => (evE cf e env st).bind fun x st => (evEs cf es env st).bind fun xs st => .ok (x :: xs) st
def evI (cf : Nat → List D → Sto → Res D) : II → Env → Sto → Res Wk
  | .val e, env, st => (evE cf e env st).bind fun x st => match walkOf st x with
    | some w => .ok w st
    | none => .stuck
  | .rng1 a, env, st => (evE cf a env st).bind fun x st => match x with
    | .int j => guard' (rngOk j) (.ok ⟨rgD 0 j.toNat, none⟩ st)
    | _ => .stuck
  | .rng2 a b, env, st => (evE cf a env st).bind fun x st => (evE cf b env st).bind fun y st => match x, y with
    | .int i, .int j => guard' (rngOk i && rngOk j) (.ok ⟨rgD i (j - i).toNat, none⟩ st)
    | _, _ => .stuck
  | .rng3 a b c, env, st => (evE cf a env st).bind fun x st => (evE cf b env st).bind fun y st => (evE cf c env st).bind fun z st => match x, y, z with
    | .int i, .int j, .int k => guard' (r3Ok i j k) (.ok ⟨rgC i k (Builtin.Range.rangeSize i j k).toNat, none⟩ st)
    | _, _, _ => .stuck
  | .enum e, env, st => (evE cf e env st).bind fun x st => match lwalk st x with
    | some w => .ok ⟨enumD w.xs, w.src⟩ st
    | none => .stuck
  | .zip a b, env, st => (evE cf a env st).bind fun x st => (evE cf b env st).bind fun y st => match x, y with
    | .tup xs, .tup ys => .ok ⟨zipDD xs ys, none⟩ st
    | _, _ => .stuck
end

/-! ### statements -/
inductive STg where
  | tg (t : Tg)
  | sub (o i : IE)
mutual
inductive IS where
  | expr (e : IE)
  | ret (e : IE)
  | asg (t : STg) (e : IE)
  | ifs (c : IE) (a b : ISs)
  | fors (t : Tg) (it : II) (b : ISs)
  | forD (t : Tg) (v : Nat) (b : ISs)
  | whiles (c : IE) (b : ISs)
  | brk
  | cont
  | pass
  | never
inductive ISs where
  | nil
  | cons (s : IS) (r : ISs)
end
inductive SR where
  | nx (env : Env) (st : Sto) | ret (d : D) (st : Sto) | brk (env : Env) (st : Sto) | cont (env : Env) (st : Sto) | exc (n : Nat) (env : Env) (st : Sto) | stuck
def Res.thn {α : Type} (r : Res α) (env : Env) (f : α → Sto → SR) : SR := match r with
  | .ok a st => f a st
  | .exc n st => .exc n env st
  | .stuck => .stuck
@[simp] theorem Res.thn_ok {α : Type} (a : α) (st : Sto) (env : Env) (f : α → Sto → SR) : (Res.ok a st).thn env f = f a st := rfl
@[simp] theorem Res.thn_exc {α : Type} (n : Nat) (st : Sto) (env : Env) (f : α → Sto → SR) : (Res.exc n st : Res α).thn env f = .exc n env st := rfl
@[simp] theorem Res.thn_stuck {α : Type} (env : Env) (f : α → Sto → SR) : (Res.stuck : Res α).thn env f = .stuck := rfl
/-- the turns of a for: the body's outcome -/
def forL (w : Wk) (t : Tg) (f : Env → Sto → SR) : List D → Env → Sto → SR
  | [], env, st => if w.still st = true then .nx env st else .stuck
  | x :: r, env, st => if w.still st = true then (match tgSet st t x env with
    | some e => match f e st with
      | .nx e st => forL w t f r e st
      | .cont e st => forL w t f r e st
      | .brk e st => .nx e st
      | o => o
    | none => .stuck) else .stuck
/-- the dict may be written again -/
def openS (n : Nat) (c : Cell) : SR → SR
  | .nx e st => .nx e (st.set n c)
  | .ret d st => .ret d (st.set n c)
  | .brk e st => .brk e (st.set n c)
  | .cont e st => .cont e (st.set n c)
  | o => o
/-- the turns of a while, at most so many -/
def whileL (c : Env → Sto → Res Bool) (f : Env → Sto → SR) : Nat → Env → Sto → SR
  | 0, _, _ => .stuck
  | k + 1, env, st => (c env st).thn env fun b st => if b = true then (match f env st with
    | .nx e st => whileL c f k e st
    | .cont e st => whileL c f k e st
    | .brk e st => .nx e st
    | o => o) else .nx env st
/-- as many turns as a while may take here -/
@[irreducible] def most : Nat := 1000000000
theorem most_eq : most = 1000000000 := by unfold most; rfl

mutual
def exS (cf : Nat → List D → Sto → Res D) : IS → Env → Sto → SR
  | .expr e, env, st => (evE cf e env st).thn env fun _ st => .nx env st
  | .ret e, env, st => (evE cf e env st).thn env fun d st => .ret d st
  | .asg t e, env, st => (evE cf e env st).thn env fun d st => match t with
    | .tg t => match tgSet st t d env with
      | some e => .nx e st
      | none => .stuck
    | .sub o i => (evE cf o env st).thn env fun x st => (evE cf i env st).thn env fun y st => match setI x y d st with
      | some st => .nx env st
      | none => .stuck
  | .ifs c a b, env, st => (evE cf c env st).thn env fun x st => match x.truth st with
    | some true => exSs cf a env st
    | some false => exSs cf b env st
    | none => .stuck
  | .fors t it b, env, st => (evI cf it env st).thn env fun w st => forL w t (exSs cf b) w.xs env st
  | .forD t v b, env, st => match (env[v]?.join).bind (lockD st) with
    | some (n, c, c', xs) => openS n c (forL ⟨xs, none⟩ t (exSs cf b) xs env (st.set n c'))
    | none => .stuck
  | .whiles c b, env, st => whileL (fun env st => (evE cf c env st).bind fun x st => match x.truth st with
      | some k => .ok k st
      | none => .stuck) (exSs cf b) most env st
  | .brk, env, st => .brk env st
  | .cont, env, st => .cont env st
  | .pass, env, st => .nx env st
  | .never, _, _ => .stuck
def exSs (cf : Nat → List D → Sto → Res D) : ISs → Env → Sto → SR
  | .nil, env, st => .nx env st
  | .cons s r, env, st => match exS cf s env st with
    | .nx e st => exSs cf r e st
    | o => o
end

/-- a def: how many parameters, how many names, its body -/
structure Fd where
  np : Nat
  ns : Nat
  body : ISs
def callF (tab : List Fd) : Nat → Nat → List D → Sto → Res D
  | 0, _, _, _ => .stuck
  | n + 1, k, ds, st => match tab[k]? with
    | none => .stuck
    | some f => if ds.length = f.np then (match exSs (callF tab n) f.body (ds.map some ++ List.replicate (f.ns - ds.length) none) st with
      | .ret d st => .ok d st
      | .nx _ st => .ok .non st
      | .exc n _ st => .exc n st
      | _ => .stuck) else .stuck
end PyI

/-! IC: what a value, an environment, a store stand for in the layer's heap; the readings by the evaluator. -/
namespace PyI
open PySem PySem.Spec PyProof.Rows L2

abbrev tx (x : List Nat) : Str := ⟨x.toArray⟩
def kyK : Ky → L2.Key
  | .inl i => .inl i
  | .inr x => .inr (tx x)
theorem tx_inj {x y : List Nat} (h : tx x = tx y) : x = y := by
  have e : x.toArray = y.toArray := Str.mk.inj h
  simpa using e
theorem kyK_inj {a b : Ky} (h : kyK a = kyK b) : a = b := by
  cases a <;> cases b <;> simp only [kyK, Sum.inl.injEq, Sum.inr.injEq, reduceCtorEq] at h
  · rw [h]
  · rw [tx_inj h]

/-- a list that nobody changes -/
def Frz (K : PySem.W.Frag) (H : Hp) (a : Addr) (vs : List V) : Prop := (∃ o, H a = some (.frz o (.lst vs))) ∨ SqL K (fun _ => none) a vs
theorem Frz.seq {K : PySem.W.Frag} {H : Hp} {a : Addr} {vs : List V} (h : Frz K H a vs) : SqL K H a vs := by
  rcases h with ⟨o, h⟩ | (h | ⟨o, h⟩) | h
  · exact .inl (.inr ⟨o, h⟩)
  · cases h
  · cases h
  · exact .inr h
mutual
inductive RelD (K : PySem.W.Frag) (ι : List Addr) (H : Hp) : D → V → Prop
  | non : RelD K ι H .non .non
  | bl (b : Bool) : RelD K ι H (.bl b) (.bl b)
  | int (i : Int) : RelD K ι H (.int i) (.int i)
  | str (x : List Nat) : RelD K ι H (.str x) (.str (tx x))
  | tup {a : Addr} {vs : List V} {ds : List D} : H a = some (.tup vs) → RelDs K ι H ds vs → RelD K ι H (.tup ds) (.ref a)
  | rol {a : Addr} {vs : List V} {ds : List D} : Frz K H a vs → RelDs K ι H ds vs → RelD K ι H (.rol ds) (.ref a)
  | ref {n : Nat} {a : Addr} : ι[n]? = some a → RelD K ι H (.ref n) (.ref a)
inductive RelDs (K : PySem.W.Frag) (ι : List Addr) (H : Hp) : List D → List V → Prop
  | nil : RelDs K ι H [] []
  | cons {d : D} {v : V} {ds : List D} {vs : List V} : RelD K ι H d v → RelDs K ι H ds vs → RelDs K ι H (d :: ds) (v :: vs)
end
/-- attributes, entries -/
inductive RelF (K : PySem.W.Frag) (ι : List Addr) (H : Hp) : List (Str × D) → List (Str × V) → Prop
  | nil : RelF K ι H [] []
  | cons {f : Str} {d : D} {v : V} {ds : List (Str × D)} {vs : List (Str × V)} : RelD K ι H d v → RelF K ι H ds vs → RelF K ι H ((f, d) :: ds) ((f, v) :: vs)
inductive RelK (K : PySem.W.Frag) (ι : List Addr) (H : Hp) : List (Ky × D) → List (L2.Key × V) → Prop
  | nil : RelK K ι H [] []
  | cons {k : Ky} {d : D} {v : V} {ds : List (Ky × D)} {vs : List (L2.Key × V)} : RelD K ι H d v → RelK K ι H ds vs → RelK K ι H ((k, d) :: ds) ((kyK k, v) :: vs)
inductive RelKT (K : PySem.W.Frag) (ι : List Addr) (H : Hp) : List (List Ky × D) → List (List L2.Key × V) → Prop
  | nil : RelKT K ι H [] []
  | cons {k : List Ky} {d : D} {v : V} {ds : List (List Ky × D)} {vs : List (List L2.Key × V)} : RelD K ι H d v → RelKT K ι H ds vs → RelKT K ι H ((k, d) :: ds) ((k.map kyK, v) :: vs)

def CellR (K : PySem.W.Frag) (ι : List Addr) (H : Hp) (a : Addr) : Cell → Prop
  | .lst xs => ∃ vs, H a = some (.lst vs) ∧ RelDs K ι H xs vs
  | .dk kvs => ∃ vs, H a = some (.dK vs) ∧ RelK K ι H kvs vs
  | .dt kvs => ∃ vs, H a = some (.dT vs) ∧ RelKT K ι H kvs vs
  | .ins _ _ => False
  | .xd _ fs => ∃ vs, H a = some (.xd vs) ∧ RelF K ι H fs vs
  | .fzk kvs => ∃ o vs, H a = some (.frz o (.dK vs)) ∧ RelK K ι H kvs vs
  | .fzt kvs => ∃ o vs, H a = some (.frz o (.dT vs)) ∧ RelKT K ι H kvs vs

structure StR (K : PySem.W.Frag) (ι : List Addr) (H : Hp) (st : Sto) : Prop where
  len : ι.length = st.length
  nd : ι.Nodup
  cell : ∀ (n : Nat) (c : Cell) (a : Addr), st[n]? = some c → ι[n]? = some a → CellR K ι H a c

/-- what may have come since -/
structure Ext (K : PySem.W.Frag) (ι : List Addr) (H : Hp) (ι' : List Addr) (H' : Hp) : Prop where
  pre : ι <+: ι'
  old : ∀ a o, H a = some o → a ∉ ι → H' a = some o
  new : ∀ a, a ∈ ι' → a ∉ ι → H a = none
  lock : ∀ a o u, H a = some (.frz o u) → H' a = some (.frz o u)
  tup : ∀ a ys, H a = some (.tup ys) → H' a = some (.tup ys)
  frz : ∀ a ys, Frz K H a ys → Frz K H' a ys
/-- what stays true of values, whatever was written elsewhere -/
structure Ext0 (K : PySem.W.Frag) (ι : List Addr) (H : Hp) (ι' : List Addr) (H' : Hp) : Prop where
  pre : ι <+: ι'
  tup : ∀ a ys, H a = some (.tup ys) → H' a = some (.tup ys)
  frz : ∀ a ys, Frz K H a ys → Frz K H' a ys
theorem Ext.w {K : PySem.W.Frag} {ι ι' : List Addr} {H H' : Hp} (x : Ext K ι H ι' H') : Ext0 K ι H ι' H' := ⟨x.pre, x.tup, x.frz⟩
theorem Ext0.refl {K : PySem.W.Frag} (ι : List Addr) (H : Hp) : Ext0 K ι H ι H := ⟨List.prefix_refl _, fun _ _ h => h, fun _ _ h => h⟩
theorem Ext0.trans {K : PySem.W.Frag} {ι ι1 ι2 : List Addr} {H H1 H2 : Hp} (x : Ext0 K ι H ι1 H1) (y : Ext0 K ι1 H1 ι2 H2) : Ext0 K ι H ι2 H2 :=
  ⟨x.pre.trans y.pre, fun a ys h => y.tup a ys (x.tup a ys h), fun a ys h => y.frz a ys (x.frz a ys h)⟩
theorem Ext0.get {K : PySem.W.Frag} {ι ι' : List Addr} {H H' : Hp} {n : Nat} {a : Addr} (x : Ext0 K ι H ι' H') (h : ι[n]? = some a) : ι'[n]? = some a := by
  obtain ⟨t, rfl⟩ := x.pre
  rw [List.getElem?_append_left (List.getElem?_eq_some_iff.mp h).1]
  exact h
theorem Ext.refl {K : PySem.W.Frag} (ι : List Addr) (H : Hp) : Ext K ι H ι H := ⟨List.prefix_refl _, fun _ _ h _ => h, fun _ h h' => absurd h h', fun _ _ _ h => h, fun _ _ h => h, fun _ _ h => h⟩
theorem Ext.trans {K : PySem.W.Frag} {ι ι1 ι2 : List Addr} {H H1 H2 : Hp} (x : Ext K ι H ι1 H1) (y : Ext K ι1 H1 ι2 H2) : Ext K ι H ι2 H2 where
  pre := x.pre.trans y.pre
  old := fun a o h hn => y.old a o (x.old a o h hn) fun hm => by
    have := x.new a hm hn
    rw [h] at this; cases this
  new := fun a hm hn => by
    by_cases h1 : a ∈ ι1
    · exact x.new a h1 hn
    · have e := y.new a hm h1
      cases q : H a with
      | none => rfl
      | some o => rw [x.old a o q hn] at e; cases e
  lock := fun a o u h => y.lock a o u (x.lock a o u h)
  tup := fun a ys h => y.tup a ys (x.tup a ys h)
  frz := fun a ys h => y.frz a ys (x.frz a ys h)
theorem Ext.get {K : PySem.W.Frag} {ι ι' : List Addr} {H H' : Hp} {n : Nat} {a : Addr} (x : Ext K ι H ι' H') (h : ι[n]? = some a) : ι'[n]? = some a := by
  obtain ⟨t, rfl⟩ := x.pre
  rw [List.getElem?_append_left (List.getElem?_eq_some_iff.mp h).1]
  exact h

section
variable {K : PySem.W.Frag} {ι ι' : List Addr} {H H' : Hp}
mutual
theorem RelD.mono0 (x : Ext0 K ι H ι' H') : ∀ {d : D} {v : V}, RelD K ι H d v → RelD K ι' H' d v
  | _, _, .non => .non
  | _, _, .bl b => .bl b
  | _, _, .int i => .int i
  | _, _, .str y => .str y
  | _, _, .tup h r => .tup (x.tup _ _ h) (RelDs.mono0 x r)
  | _, _, .rol h r => .rol (x.frz _ _ h) (RelDs.mono0 x r)
  | _, _, .ref h => .ref (x.get h)
theorem RelDs.mono0 (x : Ext0 K ι H ι' H') : ∀ {d : List D} {v : List V}, RelDs K ι H d v → RelDs K ι' H' d v
  | _, _, .nil => .nil
  | _, _, .cons h r => .cons (RelD.mono0 x h) (RelDs.mono0 x r)
end
theorem RelF.mono0 (x : Ext0 K ι H ι' H') : ∀ {d : List (Str × D)} {v : List (Str × V)}, RelF K ι H d v → RelF K ι' H' d v
  | _, _, .nil => .nil
  | _, _, .cons h r => .cons (h.mono0 x) (RelF.mono0 x r)
theorem RelK.mono0 (x : Ext0 K ι H ι' H') : ∀ {d : List (Ky × D)} {v : List (L2.Key × V)}, RelK K ι H d v → RelK K ι' H' d v
  | _, _, .nil => .nil
  | _, _, .cons h r => .cons (h.mono0 x) (RelK.mono0 x r)
theorem RelKT.mono0 (x : Ext0 K ι H ι' H') : ∀ {d : List (List Ky × D)} {v : List (List L2.Key × V)}, RelKT K ι H d v → RelKT K ι' H' d v
  | _, _, .nil => .nil
  | _, _, .cons h r => .cons (h.mono0 x) (RelKT.mono0 x r)
theorem RelD.mono (x : Ext K ι H ι' H') {d : D} {v : V} (h : RelD K ι H d v) : RelD K ι' H' d v := h.mono0 x.w
theorem RelDs.mono (x : Ext K ι H ι' H') {d : List D} {v : List V} (h : RelDs K ι H d v) : RelDs K ι' H' d v := h.mono0 x.w
theorem RelF.mono (x : Ext K ι H ι' H') {d : List (Str × D)} {v : List (Str × V)} (h : RelF K ι H d v) : RelF K ι' H' d v := h.mono0 x.w
theorem RelK.mono (x : Ext K ι H ι' H') {d : List (Ky × D)} {v : List (L2.Key × V)} (h : RelK K ι H d v) : RelK K ι' H' d v := h.mono0 x.w
theorem RelKT.mono (x : Ext K ι H ι' H') {d : List (List Ky × D)} {v : List (List L2.Key × V)} (h : RelKT K ι H d v) : RelKT K ι' H' d v := h.mono0 x.w
theorem RelDs.length : ∀ {d : List D} {v : List V}, RelDs K ι H d v → d.length = v.length
  | _, _, .nil => rfl
  | _, _, .cons _ r => by rw [List.length_cons, List.length_cons, RelDs.length r]
theorem RelK.length : ∀ {d : List (Ky × D)} {v : List (L2.Key × V)}, RelK K ι H d v → d.length = v.length
  | _, _, .nil => rfl
  | _, _, .cons _ r => by rw [List.length_cons, List.length_cons, RelK.length r]
theorem RelKT.length : ∀ {d : List (List Ky × D)} {v : List (List L2.Key × V)}, RelKT K ι H d v → d.length = v.length
  | _, _, .nil => rfl
  | _, _, .cons _ r => by rw [List.length_cons, List.length_cons, RelKT.length r]
theorem RelDs.get : ∀ {d : List D} {v : List V} {i : Nat} {x : D}, RelDs K ι H d v → d[i]? = some x → ∃ y, v[i]? = some y ∧ RelD K ι H x y
  | _, _, _, _, .nil, h => by simp at h
  | _, _, 0, _, .cons h _, e => by
    simp only [List.getElem?_cons_zero, Option.some.injEq] at e
    subst e
    exact ⟨_, rfl, h⟩
  | _, _, i + 1, x, .cons _ r, e => by
    simp only [List.getElem?_cons_succ] at e
    obtain ⟨y, h1, h2⟩ := RelDs.get r e
    exact ⟨y, by simpa using h1, h2⟩
theorem RelDs.none_of {d : List D} {v : List V} {i : Nat} (r : RelDs K ι H d v) (e : d[i]? = none) : v[i]? = none := by
  have := r.length
  rw [List.getElem?_eq_none_iff] at e ⊢
  omega
theorem RelDs.append : ∀ {d e : List D} {v w : List V}, RelDs K ι H d v → RelDs K ι H e w → RelDs K ι H (d ++ e) (v ++ w)
  | _, _, _, _, .nil, s => s
  | _, _, _, _, .cons h r, s => .cons h (RelDs.append r s)
theorem RelDs.take : ∀ {d : List D} {v : List V} (n : Nat), RelDs K ι H d v → RelDs K ι H (d.take n) (v.take n)
  | _, _, 0, _ => .nil
  | _, _, _ + 1, .nil => .nil
  | _, _, n + 1, .cons h r => .cons h (RelDs.take n r)
theorem RelDs.drop : ∀ {d : List D} {v : List V} (n : Nat), RelDs K ι H d v → RelDs K ι H (d.drop n) (v.drop n)
  | _, _, 0, r => r
  | _, _, _ + 1, .nil => .nil
  | _, _, n + 1, .cons _ r => RelDs.drop n r
theorem RelDs.set : ∀ {d : List D} {v : List V} {x : D} {y : V} (n : Nat), RelD K ι H x y → RelDs K ι H d v → RelDs K ι H (d.set n x) (v.set n y)
  | _, _, _, _, _, _, .nil => .nil
  | _, _, _, _, 0, q, .cons _ r => .cons q r
  | _, _, _, _, n + 1, q, .cons h r => .cons h (RelDs.set n q r)
theorem RelDs.reverse {d : List D} {v : List V} (r : RelDs K ι H d v) : RelDs K ι H d.reverse v.reverse := by
  induction d generalizing v with
  | nil => cases r; exact .nil
  | cons x d ih =>
    cases r with
    | cons h r =>
      rw [List.reverse_cons, List.reverse_cons]
      exact (ih r).append (.cons h .nil)
theorem RelDs.dropLast {d : List D} {v : List V} (r : RelDs K ι H d v) : RelDs K ι H d.dropLast v.dropLast := by
  rw [List.dropLast_eq_take, List.dropLast_eq_take, r.length]
  exact r.take _
theorem RelDs.snoc {d : List D} {v : List V} {x : D} {y : V} (r : RelDs K ι H d v) (h : RelD K ι H x y) : RelDs K ι H (d ++ [x]) (v ++ [y]) := r.append (.cons h .nil)
theorem RelDs.flat {d : List D} {v : List V} (r : RelDs K ι H d v) : ∀ k : Nat, RelDs K ι H (List.replicate k d).flatten (List.replicate k v).flatten
  | 0 => .nil
  | k + 1 => by
    rw [List.replicate_succ, List.replicate_succ, List.flatten_cons, List.flatten_cons]
    exact r.append (RelDs.flat r k)
/-- the address of what stands in the store -/
theorem StR.at {st : Sto} {n : Nat} {c : Cell} (S : StR K ι H st) (h : st[n]? = some c) : ∃ a, ι[n]? = some a ∧ a ∈ ι ∧ CellR K ι H a c := by
  have hl : n < ι.length := by rw [S.len]; exact (List.getElem?_eq_some_iff.mp h).1
  exact ⟨ι[n], List.getElem?_eq_getElem hl, List.getElem_mem hl, S.cell n c _ h (List.getElem?_eq_getElem hl)⟩
theorem CellR.ntup {a : Addr} {c : Cell} (h : CellR K ι H a c) : ∀ ys, H a ≠ some (.tup ys) := by
  intro ys q
  cases c with
  | lst xs => obtain ⟨vs, e, _⟩ := h; rw [e] at q; cases q
  | dk xs => obtain ⟨vs, e, _⟩ := h; rw [e] at q; cases q
  | dt xs => obtain ⟨vs, e, _⟩ := h; rw [e] at q; cases q
  | ins _ _ => exact h.elim
  | xd _ fs => obtain ⟨vs, e, _⟩ := h; rw [e] at q; cases q
  | fzk _ => obtain ⟨o, vs, e, _⟩ := h; rw [e] at q; cases q
  | fzt _ => obtain ⟨o, vs, e, _⟩ := h; rw [e] at q; cases q
theorem StR.notTup {st : Sto} {a : Addr} (S : StR K ι H st) (h : a ∈ ι) : ∀ ys, H a ≠ some (.tup ys) := by
  obtain ⟨n, hn, e⟩ := List.mem_iff_getElem.mp h
  have hs : n < st.length := by rw [← S.len]; exact hn
  exact (S.cell n st[n] a (List.getElem?_eq_getElem hs) (by rw [List.getElem?_eq_getElem hn, e])).ntup

/-- a new object that the store does not hold -/
theorem Ext.fresh {p : Addr} {o : HO} (h : H p = none) : Ext K ι H ι (upd H p o) where
  pre := List.prefix_refl _
  old := fun a u e _ => by rw [upd_ne (ne_of_none e h)]; exact e
  new := fun a hm hn => absurd hm hn
  lock := fun a u v e => by rw [upd_ne (ne_of_none e h)]; exact e
  tup := fun a ys e => by rw [upd_ne (ne_of_none e h)]; exact e
  frz := fun a ys e => by
    rcases e with ⟨u, e⟩ | e
    · exact .inl ⟨u, by rw [upd_ne (ne_of_none e h)]; exact e⟩
    · exact .inr e
theorem CellR.mono0 {a : Addr} {c : Cell} (x : Ext0 K ι H ι' H') (hs : ∀ o, H a = some o → H' a = some o) (h : CellR K ι H a c) : CellR K ι' H' a c := by
  cases c with
  | lst xs => obtain ⟨vs, e, r⟩ := h; exact ⟨vs, hs _ e, r.mono0 x⟩
  | dk xs => obtain ⟨vs, e, r⟩ := h; exact ⟨vs, hs _ e, r.mono0 x⟩
  | dt xs => obtain ⟨vs, e, r⟩ := h; exact ⟨vs, hs _ e, r.mono0 x⟩
  | ins _ _ => exact h
  | xd _ fs => obtain ⟨vs, e, r⟩ := h; exact ⟨vs, hs _ e, r.mono0 x⟩
  | fzk _ => obtain ⟨o, vs, e, r⟩ := h; exact ⟨o, vs, hs _ e, r.mono0 x⟩
  | fzt _ => obtain ⟨o, vs, e, r⟩ := h; exact ⟨o, vs, hs _ e, r.mono0 x⟩
theorem CellR.mono {a : Addr} {c : Cell} (x : Ext K ι H ι' H') (hs : ∀ o, H a = some o → H' a = some o) (h : CellR K ι H a c) : CellR K ι' H' a c := h.mono0 x.w hs
/-- the store stays as it is where only something new came -/
theorem StR.fresh {st : Sto} {p : Addr} {o : HO} (S : StR K ι H st) (h : H p = none) (hp : p ∉ ι) : StR K ι (upd H p o) st where
  len := S.len
  nd := S.nd
  cell := fun n c a e1 e2 => by
    have ha : a ≠ p := fun z => hp (by rw [← z]; exact List.mem_of_getElem? e2)
    exact (S.cell n c a e1 e2).mono (Ext.fresh h) fun o e => by rw [upd_ne ha]; exact e
/-- a new address is none of the store's -/
theorem StR.new {st : Sto} {p : Addr} (S : StR K ι H st) (h : H p = none) : p ∉ ι := by
  intro hm
  obtain ⟨n, hn, e⟩ := List.mem_iff_getElem.mp hm
  have hs : n < st.length := by rw [← S.len]; exact hn
  have q := S.cell n st[n] p (List.getElem?_eq_getElem hs) (by rw [List.getElem?_eq_getElem hn, e])
  generalize st[n] = c at q
  cases c with
  | lst xs => obtain ⟨vs, e, _⟩ := q; rw [h] at e; cases e
  | dk xs => obtain ⟨vs, e, _⟩ := q; rw [h] at e; cases e
  | dt xs => obtain ⟨vs, e, _⟩ := q; rw [h] at e; cases e
  | ins _ _ => exact q
  | xd _ fs => obtain ⟨vs, e, _⟩ := q; rw [h] at e; cases e
  | fzk _ => obtain ⟨o, vs, e, _⟩ := q; rw [h] at e; cases e
  | fzt _ => obtain ⟨o, vs, e, _⟩ := q; rw [h] at e; cases e
/-- a new tuple: nothing of the store's -/
theorem Ext.pushed {st : Sto} {p : Addr} {o : HO} (S : StR K ι H st) (h : H p = none) : Ext K ι H (ι ++ [p]) (upd H p o) where
  pre := List.prefix_append _ _
  old := (Ext.fresh (K := K) (ι := ι) h).old
  new := fun a hm hn => by
    rcases List.mem_append.mp hm with q | q
    · exact absurd q hn
    · rw [List.mem_singleton.mp q]; exact h
  lock := (Ext.fresh (K := K) (ι := ι) h).lock
  tup := (Ext.fresh (K := K) (ι := ι) h).tup
  frz := (Ext.fresh (K := K) (ι := ι) h).frz
/-- a new cell of the store -/
theorem StR.push {st : Sto} {p : Addr} {o : HO} {c : Cell} (S : StR K ι H st) (h : H p = none) (hc : CellR K (ι ++ [p]) (upd H p o) p c) : StR K (ι ++ [p]) (upd H p o) (st ++ [c]) where
  len := by rw [List.length_append, List.length_append, S.len]; rfl
  nd := by
    rw [List.nodup_append]
    refine ⟨S.nd, List.pairwise_singleton _ _, fun a ha b hb e => ?_⟩
    rw [List.mem_singleton.mp hb] at e
    exact S.new h (e ▸ ha)
  cell := fun n d a e1 e2 => by
    by_cases hn : n < st.length
    · rw [List.getElem?_append_left hn] at e1
      rw [List.getElem?_append_left (by rw [S.len]; exact hn)] at e2
      have ha : a ≠ p := fun z => S.new h (by rw [← z]; exact List.mem_of_getElem? e2)
      exact (S.cell n d a e1 e2).mono (Ext.pushed S h) fun o e => by rw [upd_ne ha]; exact e
    · have hn' : n = st.length := by
        have := (List.getElem?_eq_some_iff.mp e1).1
        rw [List.length_append] at this
        simp only [List.length_singleton] at this
        omega
      subst hn'
      rw [List.getElem?_append_right (Nat.le_refl _)] at e1
      rw [List.getElem?_append_right (by rw [S.len]; exact Nat.le_refl _), S.len] at e2
      simp only [Nat.sub_self, List.getElem?_cons_zero, Option.some.injEq] at e1 e2
      subst e1 e2
      exact hc
theorem nodup_at {α : Type} : ∀ {l : List α} {i j : Nat} {x : α}, l.Nodup → l[i]? = some x → l[j]? = some x → i = j
  | [], _, _, _, _, h, _ => by simp at h
  | a :: l, 0, 0, _, _, _, _ => rfl
  | a :: l, 0, j + 1, x, n, h, h' => by
    simp only [List.getElem?_cons_zero, Option.some.injEq, List.getElem?_cons_succ] at h h'
    subst h
    exact absurd (List.mem_of_getElem? h') (List.nodup_cons.mp n).1
  | a :: l, i + 1, 0, x, n, h, h' => by
    simp only [List.getElem?_cons_zero, Option.some.injEq, List.getElem?_cons_succ] at h h'
    subst h'
    exact absurd (List.mem_of_getElem? h) (List.nodup_cons.mp n).1
  | a :: l, i + 1, j + 1, x, n, h, h' => by
    simp only [List.getElem?_cons_succ] at h h'
    rw [nodup_at (List.nodup_cons.mp n).2 h h']
/-- a cell is changed -/
theorem Ext.put {st : Sto} {n : Nat} {a : Addr} {o : HO} (S : StR K ι H st) (e : ι[n]? = some a) (ho : ∃ u, H a = some u ∧ ∀ v w, u ≠ .frz v w) : Ext K ι H ι (upd H a o) where
  pre := List.prefix_refl _
  old := fun b u h hn => by rw [upd_ne (fun z => hn (by rw [z]; exact List.mem_of_getElem? e))]; exact h
  new := fun _ hm hn => absurd hm hn
  lock := fun b v w h => by
    obtain ⟨x, hx, nx⟩ := ho
    have hb : b ≠ a := fun z => by
      rw [z, hx] at h
      exact nx _ _ (Option.some.inj h)
    rw [upd_ne hb]
    exact h
  tup := fun b ys h => by
    have hb : b ≠ a := fun z => S.notTup (List.mem_of_getElem? e) ys (z ▸ h)
    rw [upd_ne hb]
    exact h
  frz := fun b ys h => by
    rcases h with ⟨u, h⟩ | h
    · obtain ⟨x, hx, nx⟩ := ho
      have hb : b ≠ a := fun z => by
        rw [z, hx] at h
        exact nx _ _ (Option.some.inj h)
      exact .inl ⟨u, by rw [upd_ne hb]; exact h⟩
    · exact .inr h
theorem StR.put {st : Sto} {n : Nat} {a : Addr} {o : HO} {c : Cell} (S : StR K ι H st) (e : ι[n]? = some a) (ho : ∃ u, H a = some u ∧ ∀ v w, u ≠ .frz v w) (hc : CellR K ι (upd H a o) a c) : StR K ι (upd H a o) (st.set n c) where
  len := by rw [List.length_set]; exact S.len
  nd := S.nd
  cell := fun m d b e1 e2 => by
    by_cases hm : m = n
    · subst hm
      have hl : m < st.length := by rw [← S.len]; exact (List.getElem?_eq_some_iff.mp e).1
      rw [List.getElem?_set_self hl] at e1
      rw [e] at e2
      obtain rfl := Option.some.inj e1
      obtain rfl := Option.some.inj e2
      exact hc
    · rw [List.getElem?_set_ne (Ne.symm hm)] at e1
      have hb : b ≠ a := fun z => by
        exact hm (nodup_at S.nd (e2.trans (by rw [z])) e)
      exact (S.cell m d b e1 e2).mono (Ext.put S e ho) fun u h => by rw [upd_ne hb]; exact h
end
end PyI

/-! ID: readings by the evaluator; operators on values. -/
namespace PyI
open PySem PySem.Spec PyProof.Rows L2

/-- what is wished of an exception: its number in the store -/
abbrev XW := Nat → Sto → List Addr → Hp → Prop
def Go {α β : Type} (K : PySem.W.Frag) (E : XW) (R : List Addr → Hp → α → β → Prop) (ι : List Addr) (H : Hp) (Q : β → Hp → Prop) : Res α → Prop
  | .ok a st => ∀ ι' H' b, Ext K ι H ι' H' → StR K ι' H' st → R ι' H' a b → Q b H'
  | .exc n st => ∀ ι' H', Ext K ι H ι' H' → StR K ι' H' st → E n st ι' H'
  | .stuck => False
structure EnvR (K : PySem.W.Frag) (ι : List Addr) (H : Hp) (env : Env) (σ : L2.St) : Prop where
  len : env.length = σ.length
  get : ∀ (i : Nat) (d : D), env[i]? = some (some d) → ∃ v, σ[i]? = some (some v) ∧ RelD K ι H d v
theorem EnvR.mono {K : PySem.W.Frag} {ι ι' : List Addr} {H H' : Hp} {env : Env} {σ : L2.St} (e : EnvR K ι H env σ) (x : Ext K ι H ι' H') : EnvR K ι' H' env σ :=
  ⟨e.len, fun i d h => let ⟨v, h1, h2⟩ := e.get i d h; ⟨v, h1, h2.mono x⟩⟩
theorem EnvR.mono0 {K : PySem.W.Frag} {ι ι' : List Addr} {H H' : Hp} {env : Env} {σ : L2.St} (e : EnvR K ι H env σ) (x : Ext0 K ι H ι' H') : EnvR K ι' H' env σ :=
  ⟨e.len, fun i d h => let ⟨v, h1, h2⟩ := e.get i d h; ⟨v, h1, h2.mono0 x⟩⟩
abbrev RD (K : PySem.W.Frag) : List Addr → Hp → D → V → Prop := RelD K
abbrev RDs (K : PySem.W.Frag) : List Addr → Hp → List D → List V → Prop := RelDs K
abbrev RB : List Addr → Hp → Bool → Bool → Prop := fun _ _ a b => a = b

/-- the reading of a term by the evaluator -/
def sR {α β : Type} (K : PySem.W.Frag) (R : List Addr → Hp → α → β → Prop) (E : L2.St → XW) (f : Env → Sto → Res α) : L2.St → Hp → (β → Hp → Prop) → Prop :=
  fun σ H Q => ∃ ι env st, EnvR K ι H env σ ∧ StR K ι H st ∧ Go K (E σ) R ι H Q (f env st)

section
variable {K : PySem.W.Frag} {E : XW} {ι ι' : List Addr} {H H' : Hp} {α β γ δ : Type} {R : List Addr → Hp → α → β → Prop} {S : List Addr → Hp → γ → δ → Prop}
theorem Go.mono {Q : β → Hp → Prop} {r : Res α} (x : Ext K ι H ι' H') (h : Go K E R ι H Q r) : Go K E R ι' H' Q r := by
  cases r with
  | ok a st => exact fun i1 H1 b y S r => h i1 H1 b (x.trans y) S r
  | exc n st => exact fun i1 H1 y S => h i1 H1 (x.trans y) S
  | stuck => exact h
theorem Go.imp {Q Q' : β → Hp → Prop} {r : Res α} (h : Go K E R ι H Q r) (q : ∀ b H, Q b H → Q' b H) : Go K E R ι H Q' r := by
  cases r with
  | ok a st => exact fun i1 H1 b y S r => q _ _ (h i1 H1 b y S r)
  | exc n st => exact h
  | stuck => exact h
theorem Go.guard {Q : β → Hp → Prop} {c : Bool} {r : Res α} (h : Go K E R ι H Q (guard' c r)) : c = true ∧ Go K E R ι H Q r := by
  cases c with
  | true => exact ⟨rfl, h⟩
  | false => exact h.elim
theorem Go.one {Q : V → Hp → Prop} {d : Option D} {st : Sto} (h : Go K E (RD K) ι H Q (PyI.one d st)) : ∃ x, d = some x ∧ Go K E (RD K) ι H Q (.ok x st) := by
  cases d with
  | some d => exact ⟨d, rfl, h⟩
  | none => exact h.elim
/-- first the one part, then what hangs on it -/
theorem Go.bind {Q : δ → Hp → Prop} {T : β → Hp → Prop} {r : Res α} {f : α → Sto → Res γ} (h : Go K E S ι H Q (r.bind f))
    (k : ∀ ι1 H1 a b st1, Ext K ι H ι1 H1 → StR K ι1 H1 st1 → R ι1 H1 a b → Go K E S ι1 H1 Q (f a st1) → T b H1) : Go K E R ι H T r := by
  cases r with
  | ok a st => exact fun i1 H1 b y S1 r => k i1 H1 a b st y S1 r (Go.mono y h)
  | exc n st => exact h
  | stuck => exact h
end

theorem PE.imp {X : Cx} {e : Expr} {t t' : TE} (h : PE X e t) (i : ∀ σ H Q, t' σ H Q → t σ H Q) : PE X e t' := ⟨fun pins s σ H Q I q => h.run pins s σ H Q I (i σ H Q q)⟩
theorem PT.imp {X : Cx} {e : Expr} {t t' : TT} (h : PT X e t) (i : ∀ σ H Q, t' σ H Q → t σ H Q) : PT X e t' := ⟨fun pins s σ H Q I q => h.run pins s σ H Q I (i σ H Q q)⟩
theorem PW.imp {X : Cx} {e : Expr} {t t' : TT} (h : PW X e t) (i : ∀ σ H Q, t' σ H Q → t σ H Q) : PW X e t' := ⟨fun w pins s σ H Q I q => h.run w pins s σ H Q I (i σ H Q q)⟩
theorem PA.imp {X : Cx} {e : List Expr} {t t' : TA} (h : PA X e t) (i : ∀ σ H Q, t' σ H Q → t σ H Q) : PA X e t' := ⟨fun p pins s σ H Q I q => h.run p pins s σ H Q I (i σ H Q q)⟩
theorem PE.or {X : Cx} {e : Expr} {t u : TE} (h : PE X e t) (k : PE X e u) : PE X e (fun σ H Q => t σ H Q ∨ u σ H Q) := ⟨fun pins s σ H Q I q => q.elim (h.run pins s σ H Q I) (k.run pins s σ H Q I)⟩
theorem PI.or {X : Cx} {tg e : Expr} {t u : TI} (h : PI X tg e t) (k : PI X tg e u) : PI X tg e (fun σ H Q => t σ H Q ∨ u σ H Q) := ⟨fun pins s σ H Q I q => q.elim (h.run pins s σ H Q I) (k.run pins s σ H Q I)⟩
theorem PI.imp {X : Cx} {tg e : Expr} {t t' : TI} (h : PI X tg e t) (i : ∀ σ H Q, t' σ H Q → t σ H Q) : PI X tg e t' := ⟨fun pins s σ H Q I q => h.run pins s σ H Q I (i σ H Q q)⟩
theorem OpR.or {X : Cx} {f : Value → Value → Sem Value} {r r' : R2} (h : OpR X f r) (k : OpR X f r') : OpR X f (fun x y H Q => r x y H Q ∨ r' x y H Q) :=
  fun pins s σ H x y v u Q I rx ry q => q.elim (h pins s σ H x y v u Q I rx ry) (k pins s σ H x y v u Q I rx ry)

/-! ### two values: what the evaluator tells, in the layer's words -/
/-- the layer's r asks no more than what the evaluator's g tells -/
def Tel2 (K : PySem.W.Frag) (g : D → D → Sto → Res D) (r : R2) : Prop :=
  ∀ (E : XW) (ι : List Addr) (H : Hp) (st : Sto) (dx dy : D) (x y : V) (Q : VK), StR K ι H st → RelD K ι H dx x → RelD K ι H dy y → Go K E (RD K) ι H Q (g dx dy st) → r x y H Q
theorem tel_op {K : PySem.W.Frag} {g : D → D → Sto → Res D} {r : R2} {E : L2.St → XW} {fa fb : Env → Sto → Res D} {σ : L2.St} {H : Hp} {Q : VK} (t : Tel2 K g r)
    (h : sR K (RD K) E (fun env st => (fa env st).bind fun x st => (fb env st).bind fun y st => g x y st) σ H Q) : tOp r (sR K (RD K) E fa) (sR K (RD K) E fb) σ H Q := by
  obtain ⟨ι, env, st, eR, sS, go⟩ := h
  refine ⟨ι, env, st, eR, sS, go.bind fun ι1 H1 a b st1 x1 S1 r1 go1 => ?_⟩
  refine ⟨ι1, env, st1, eR.mono x1, S1, go1.bind fun ι2 H2 c d st2 x2 S2 r2 go2 => ?_⟩
  exact t _ ι2 H2 st2 a c b d Q S2 (r1.mono x2) r2 go2

section
variable {K : PySem.W.Frag} {E : XW} {ι ι' : List Addr} {H H' : Hp} {st : Sto} {Q : VK}
/-- a value that stands as it is -/
theorem Go.val {d : D} {v : V} (h : Go K E (RD K) ι H Q (.ok d st)) (S : StR K ι H st) (r : RelD K ι H d v) : Q v H := h ι H v (Ext.refl ι H) S r
theorem Go.tup {ds : List D} {vs : List V} (h : Go K E (RD K) ι H Q (.ok (.tup ds) st)) (S : StR K ι H st) (r : RelDs K ι H ds vs) : ∀ p, H p = none → Q (.ref p) (upd H p (.tup vs)) := fun p hp =>
  h ι _ (.ref p) (Ext.fresh hp) (S.fresh hp (S.new hp)) (.tup upd_same (r.mono (Ext.fresh hp)))
theorem get_pushed {p : Addr} (S : StR K ι H st) : (ι ++ [p])[st.length]? = some p := by
  rw [← S.len, List.getElem?_append_right (Nat.le_refl _), Nat.sub_self]; rfl
theorem Go.newL {ds : List D} {vs : List V} (h : Go K E (RD K) ι H Q (PyI.newL ds st)) (S : StR K ι H st) (r : RelDs K ι H ds vs) : ∀ p, H p = none → Q (.ref p) (upd H p (.lst vs)) := fun p hp =>
  h (ι ++ [p]) _ (.ref p) (Ext.pushed S hp) (S.push hp ⟨vs, upd_same, r.mono (Ext.pushed S hp)⟩) (.ref (get_pushed S))
theorem Go.newD {kvs : List (Ky × D)} {vs : List (L2.Key × V)} (h : Go K E (RD K) ι H Q (.ok (.ref st.length) (st ++ [.dk kvs]))) (S : StR K ι H st) (r : RelK K ι H kvs vs) : ∀ p, H p = none → Q (.ref p) (upd H p (.dK vs)) := fun p hp =>
  h (ι ++ [p]) _ (.ref p) (Ext.pushed S hp) (S.push hp ⟨vs, upd_same, r.mono (Ext.pushed S hp)⟩) (.ref (get_pushed S))
theorem lst_of {n : Nat} {xs : List D} (S : StR K ι H st) (h : st[n]? = some (.lst xs)) : ∃ a vs, ι[n]? = some a ∧ H a = some (.lst vs) ∧ RelDs K ι H xs vs := by
  obtain ⟨a, e, _, vs, e1, r⟩ := S.at h
  exact ⟨a, vs, e, e1, r⟩
theorem dk_ofS {n : Nat} {xs : List (Ky × D)} (S : StR K ι H st) (h : st[n]? = some (.dk xs)) : ∃ a vs, ι[n]? = some a ∧ H a = some (.dK vs) ∧ RelK K ι H xs vs := by
  obtain ⟨a, e, _, vs, e1, r⟩ := S.at h
  exact ⟨a, vs, e, e1, r⟩
theorem dt_ofS {n : Nat} {xs : List (List Ky × D)} (S : StR K ι H st) (h : st[n]? = some (.dt xs)) : ∃ a vs, ι[n]? = some a ∧ H a = some (.dT vs) ∧ RelKT K ι H xs vs := by
  obtain ⟨a, e, _, vs, e1, r⟩ := S.at h
  exact ⟨a, vs, e, e1, r⟩
theorem listAt_some {n : Nat} {xs : List D} (h : listAt st n = some xs) : st[n]? = some (.lst xs) := by
  unfold listAt at h
  split at h
  · rename_i ys e; rw [e]; cases h; rfl
  · cases h
theorem ref_at {n : Nat} {a : Addr} {x : V} (r : RelD K ι H (.ref n) x) (e : ι[n]? = some a) : x = .ref a := by
  cases r with
  | ref h => rw [h] at e; cases e; rfl
end

theorem line_eq : (sizeLine : Nat) = 16777216 := sizeLine_eq
theorem tx_length (x : List Nat) : (tx x).length = x.length := by
  show x.toArray.size = _
  simp
theorem tx_append (x y : List Nat) : tx x ++ tx y = tx (x ++ y) := by
  show Str.append _ _ = _
  simp [Str.append, tx]
theorem tx_toList (x : List Nat) : (tx x).cps.toList = x := by simp [tx]
end PyI

/-! IE_: operators. -/
namespace PyI
open PySem PySem.Spec PyProof.Rows L2

section
variable {X : Cx}
/-- tuple * int, of more items than the module's rule takes -/
def rRepB (K : PySem.W.Frag) : R2 := fun x y H Q => ∃ l k xs, x = .ref l ∧ y = .int k ∧ SqT K H l xs ∧ xs ≠ [] ∧ 2 ≤ k ∧ xs.length * k.toNat ≤ 1000000 ∧ ∀ p, H p = none → Q (.ref p) (upd H p (.tup (List.replicate k.toNat xs).flatten))
theorem op_repB : OpR X (binaryOp .Mult) (rRepB X.K) := by
  intro pins s σ H x y v u Q I rx ry h
  obtain ⟨l, k, xs, rfl, rfl, hT, hne, h1, hz, q⟩ := h
  cases rx
  obtain ⟨t, rfl⟩ := ry
  obtain ⟨its, r, ⟨⟨cls, dd, data, sl⟩, ho, hc, n, hd⟩, hs⟩ := I.tuple hT
  simp only at hc hd
  subst hc hd
  have hle : its.length = xs.length := r.length.symm
  have hn : its ≠ [] := fun e => hne (List.eq_nil_of_length_eq_zero (by rw [← hle, e]; rfl))
  have hp : 0 < xs.length := List.length_pos_iff.mpr hne
  have hi : its.toArray.isEmpty = false := by
    cases its with
    | nil => exact absurd rfl hn
    | cons a b => rfl
  have hsz0 : its.toArray.size = xs.length := by rw [List.size_toArray, hle]
  have hk : ((k.toNat : Nat) : Int) = k := Int.toNat_of_nonneg (by omega)
  have hm : ((its.toArray.size : Nat) : Int) * k ≤ 1000000 := by
    rw [hsz0, ← hk, ← Int.natCast_mul]
    omega
  have hkb : k ≤ 1000000 := by
    have : 1 * k.toNat ≤ xs.length * k.toNat := Nat.mul_le_mul_right _ hp
    omega
  have flen : (List.replicate k.toNat its).flatten.length ≤ sizeLine := by
    rw [PyProof.Rows.lm_len_rep_flat, hle, sizeLine_eq, Nat.mul_comm]
    omega
  have c0 : (decide (k < -(2 ^ 63)) || decide (k ≥ 2 ^ 63)) = false := by
    rw [decide_eq_false (by omega), decide_eq_false (by omega)]
    rfl
  have c1 : (its.toArray.isEmpty || k == 1) = false := by
    rw [hi, beq_eq_false_iff_ne.mpr (by omega)]
    rfl
  have c2 : (decide (k ≤ 0) || its.toArray.isEmpty) = false := by
    rw [hi, decide_eq_false (by omega)]
    rfl
  have c4 : Builtin.Tuple.tupleTooMany (((its.toArray.size : Nat) : Int) * k) = false := decide_eq_false (by rw [sizeLine_eq]; omega)
  have fl : (List.foldl (fun u w => u ++ w) #[] (List.replicate k.toNat its.toArray)).size ≤ sizeLine := by rw [size_rep its, List.size_toArray]; exact flen
  have run : ∀ {Z : Value → Shared → Prop}, Z (.ref s.heap.objs.size) { s with heap := s.heap.push { cls := Value.type "tuple", data := Data.seq (List.foldl (fun u w => u ++ w) #[] (List.replicate k.toNat its.toArray)) }, toks := s.toks } →
      wpAny (model X.prog X.w) X.A (binaryOp .Mult (.ref l) (.int k t)) Z X.xe s := fun hz =>
    have ty : s.TypeIs (.ref l) "tuple" := ⟨_, ho, rfl⟩
    have step := call_meets (prog := X.prog) (w := X.w) (A := X.A) (E := X.xe) F.slot_tuple_mul (s := s) ty F.entry_tuple_mul (F.args_tuple_mul_2 (.ref l) (.int k t)) (tuple_mulW l its.toArray n dd sl k t c0 c1 c2 (by omega) c4 fl) ⟨ho, hz⟩
    have back := call_meets (prog := X.prog) (w := X.w) (A := X.A) (E := X.xe) F.slot_int_rmul (typeIs_int s k t) F.entry_int_rmul (F.args_int_rmul_2 (.int k t) (.ref l)) (int_rmul_tuple k t l its.toArray n dd sl) ⟨ho, rfl, ty, step⟩
    wpAny_binaryOp_repeat_ref (T := "tuple") (U := "int") (by decide) ty (fun s1 => typeIs_int s1 k t) noFill_tuple_mul F.fills_int_mul F.slot_int_rmul repeat_tuple F.slot_int_index.lookup back
  refine run ?_
  rw [size_rep its]
  have hf := I.hok.fresh (Nat.le_refl _)
  refine ⟨.ref s.heap.objs.size, _, I.laid (t' := s.toks) (o := .tup (List.replicate k.toNat xs).flatten) (fun b o e => Heap.get?_push_of_some _ e) (Nat.le_refl _) ⟨?_, _, r.rep k.toNat, IsTup.new _ _⟩, rfl, q _ hf⟩
  rw [PyProof.Rows.lm_len_rep_flat, sizeLine_eq, Nat.mul_comm]
  omega
end

section
variable {K : PySem.W.Frag}
theorem tel_add : Tel2 K (bin2 .add) (fun x y H Q => rI0 (fun i j => .int (i + j)) x y H Q ∨ (∃ i j, x = .str i ∧ y = .str j ∧ i.length + j.length ≤ sizeLine ∧ Q (.str (i ++ j)) H) ∨ rCatA K x y H Q ∨ rCat x y H Q) := by
  intro E ι H st dx dy x y Q S rx ry go
  cases rx <;> cases ry <;> first | exact (show False from go).elim | skip
  · exact .inl ⟨_, _, rfl, rfl, Go.val go S (.int _)⟩
  · obtain ⟨c, go⟩ := Go.guard go
    rw [decide_eq_true_eq] at c
    refine .inr (.inl ⟨_, _, rfl, rfl, ?_, ?_⟩)
    · rw [tx_length, tx_length, line_eq]; exact c
    · rw [tx_append]; exact Go.val go S (.str _)
  · rename_i a vs ds h r b ws es h2 r2
    obtain ⟨c, go⟩ := Go.guard go
    rw [decide_eq_true_eq] at c
    refine .inr (.inr (.inl ⟨_, _, vs, ws, rfl, rfl, .of h, .of h2, ?_, fun e => ?_, fun _ e => ?_, fun _ _ => ?_⟩))
    · rw [← r.length, ← r2.length, line_eq]; exact c
    · subst e
      cases r
      exact Go.val go S (.tup h2 r2)
    · subst e
      cases r2
      rw [List.append_nil] at go
      exact Go.val go S (.tup h r)
    · exact Go.tup go S (r.append r2)
  · rename_i m a h n b h2
    dsimp only [bin2] at go
    split at go
    · rename_i xs ys e1 e2
      obtain ⟨c, go⟩ := Go.guard go
      rw [decide_eq_true_eq] at c
      obtain ⟨a', vs, i1, h1, r1⟩ := lst_of S (listAt_some e1)
      obtain ⟨b', ws, i2, h3, r2⟩ := lst_of S (listAt_some e2)
      rw [h] at i1; cases i1
      rw [h2] at i2; cases i2
      exact .inr (.inr (.inr ⟨a, b, vs, ws, rfl, rfl, h1, h3, by rw [← r1.length, ← r2.length, line_eq]; exact c, Go.newL go S (r1.append r2)⟩))
    · exact (show False from go).elim
theorem tel_sub : Tel2 K (bin2 .sub) (rI0 fun i j => .int (i - j)) := by
  intro E ι H st dx dy x y Q S rx ry go
  cases rx <;> cases ry <;> first | exact (show False from go).elim | skip
  exact ⟨_, _, rfl, rfl, Go.val go S (.int _)⟩
theorem tel_mul : Tel2 K (bin2 .mul) (fun x y H Q => rI CMul (fun i j => .int (i * j)) x y H Q ∨ rRepB K x y H Q) := by
  intro E ι H st dx dy x y Q S rx ry go
  cases rx <;> cases ry <;> first | exact (show False from go).elim | skip
  · obtain ⟨c, go⟩ := Go.guard go
    refine .inl ⟨_, _, rfl, rfl, ?_, Go.val go S (.int _)⟩
    unfold mulOk at c
    simp only [Bool.or_eq_true, Bool.and_eq_true, decide_eq_true_eq] at c
    exact c
  · rename_i a vs ds h r k
    obtain ⟨c, go⟩ := Go.guard go
    rw [decide_eq_true_eq] at c
    obtain ⟨c1, c2, c3⟩ := c
    refine .inr ⟨_, _, vs, rfl, rfl, .of h, ?_, c2, ?_, Go.tup go S (r.flat _)⟩
    · intro e
      subst e
      cases r
      exact c1 rfl
    · rw [← r.length]; exact c3
theorem tel_fdiv : Tel2 K (bin2 .fdiv) (rI CDiv fun i j => .int (i / j)) := by
  intro E ι H st dx dy x y Q S rx ry go
  cases rx <;> cases ry <;> first | exact (show False from go).elim | skip
  obtain ⟨c, go⟩ := Go.guard go
  rw [decide_eq_true_eq] at c
  exact ⟨_, _, rfl, rfl, c, Go.val go S (.int _)⟩
theorem tel_mod : Tel2 K (bin2 .mod) (rI (fun _ j => 0 < j) fun i j => .int (i % j)) := by
  intro E ι H st dx dy x y Q S rx ry go
  cases rx <;> cases ry <;> first | exact (show False from go).elim | skip
  obtain ⟨c, go⟩ := Go.guard go
  rw [decide_eq_true_eq] at c
  exact ⟨_, _, rfl, rfl, c, Go.val go S (.int _)⟩
theorem tel_pow : Tel2 K (bin2 .pow) (rI CPow fun i j => .int (i ^ j.toNat)) := by
  intro E ι H st dx dy x y Q S rx ry go
  cases rx <;> cases ry <;> first | exact (show False from go).elim | skip
  obtain ⟨c, go⟩ := Go.guard go
  rw [decide_eq_true_eq] at c
  exact ⟨_, _, rfl, rfl, c, Go.val go S (.int _)⟩

/-! ### data -/
theorem map_some {α β : Type} {f : α → β} {o : Option α} {y : β} (h : o.map f = some y) : ∃ x, o = some x ∧ f x = y := by
  cases o with
  | none => cases h
  | some x => exact ⟨x, rfl, Option.some.inj h⟩
theorem bind_some {α β : Type} {f : α → Option β} {o : Option α} {y : β} (h : o.bind f = some y) : ∃ x, o = some x ∧ f x = some y := by
  cases o with
  | none => cases h
  | some x => exact ⟨x, rfl, h⟩
section
variable {ι : List Addr} {H : Hp} {st : Sto}
mutual
theorem dp_of {g : Nat → Option PyData} (hg : ∀ n a t, g n = some t → ι[n]? = some a → Dp K H (.ref a) t) : ∀ {d : D} {v : V} {t : PyData}, RelD K ι H d v → D.deep g d = some t → Dp K H v t
  | _, _, _, .non, e => by cases e; exact .non
  | _, _, _, .bl b, e => by cases e; exact .bl b
  | _, _, _, .int i, e => by cases e; exact .int i
  | _, _, _, .str x, e => by cases e; exact .str _
  | _, _, _, .tup h r, e => by
    obtain ⟨ts, e1, rfl⟩ := map_some e
    exact .tup (.of h) (dps_of hg r e1)
  | _, _, _, .rol h r, e => by
    obtain ⟨ts, e1, rfl⟩ := map_some e
    exact .lst h.seq (dps_of hg r e1)
  | _, _, _, .ref h, e => hg _ _ _ e h
theorem dps_of {g : Nat → Option PyData} (hg : ∀ n a t, g n = some t → ι[n]? = some a → Dp K H (.ref a) t) : ∀ {d : List D} {v : List V} {t : List PyData}, RelDs K ι H d v → D.deeps g d = some t → DpAll K H v t
  | _, _, _, .nil, e => by cases e; exact .nil
  | _, _, _, .cons h r, e => by
    obtain ⟨t, e1, e2⟩ := bind_some e
    obtain ⟨ts, e3, rfl⟩ := map_some e2
    exact .cons (dp_of hg h e1) (dps_of hg r e3)
end
theorem refTree_dp (S : StR K ι H st) : ∀ (k n : Nat) (a : Addr) (t : PyData), refTree st k n = some t → ι[n]? = some a → Dp K H (.ref a) t
  | 0, _, _, _, e, _ => by cases e
  | k + 1, n, a, t, e, h => by
    obtain ⟨xs, e1, e2⟩ := bind_some e
    obtain ⟨ts, e3, rfl⟩ := map_some e2
    obtain ⟨b, vs, h1, h2, r⟩ := lst_of S (listAt_some e1)
    rw [h] at h1; cases h1
    exact .lst (.inl (.inl h2)) (dps_of (refTree_dp S k) r e3)
theorem tree_dp (S : StR K ι H st) {d : D} {v : V} {t : PyData} (r : RelD K ι H d v) (e : tree st d = some t) : Dp K H v t := dp_of (refTree_dp S 8) r e
end
theorem eqD0_some {st : Sto} {a b : D} {c : Bool} (h : eqD0 st a b = some c) : ∃ x y, tree st a = some x ∧ tree st b = some y ∧ SeqAt.shaped x = true ∧ SeqAt.shaped y = true ∧ c = PyData.eqv x y := by
  obtain ⟨x, e1, h⟩ := bind_some h
  obtain ⟨y, e2, h⟩ := bind_some h
  by_cases q : (SeqAt.shaped x && SeqAt.shaped y) = true
  · rw [if_pos q] at h
    rw [Bool.and_eq_true] at q
    exact ⟨x, y, e1, e2, q.1, q.2, (Option.some.inj h).symm⟩
  · rw [if_neg q] at h; cases h
theorem eqS_some {a b : D} {c : Bool} (h : eqS a b = some c) : ∃ x y, a = .str x ∧ b = .str y ∧ c = decide (x = y) := by
  unfold eqS at h
  split at h
  · rename_i x y
    exact ⟨x, y, rfl, rfl, (Option.some.inj h).symm⟩
  · cases h
theorem eqD_some {st : Sto} {a b : D} {c : Bool} (h : eqD st a b = some c) : (∃ x y, tree st a = some x ∧ tree st b = some y ∧ SeqAt.shaped x = true ∧ SeqAt.shaped y = true ∧ c = PyData.eqv x y) ∨ ∃ x y, a = .str x ∧ b = .str y ∧ c = decide (x = y) := by
  unfold eqD at h
  cases e : eqS a b with
  | some d =>
    rw [e] at h
    cases h
    exact .inr (eqS_some e)
  | none =>
    rw [e] at h
    exact .inl (eqD0_some h)
theorem cmp2_some {o : CmpK} {E : XW} {ι : List Addr} {H : Hp} {st : Sto} {a b : D} {Q : VK} (S : StR K ι H st) (h : Go K E (RD K) ι H Q (cmp2 o a b st)) : ∃ c, cmpB o a b st = some c ∧ Q (.bl c) H := by
  unfold cmp2 at h
  split at h
  · rename_i c e
    exact ⟨c, e, Go.val h S (.bl c)⟩
  · exact (show False from h).elim
theorem dec_tx {x y : List Nat} : decide (V.str (tx x) = V.str (tx y)) = decide (x = y) := by
  by_cases h : x = y
  · subst h; simp
  · have : ¬ (V.str (tx x) = V.str (tx y)) := fun e => h (by injection e with e; exact tx_inj e)
    rw [decide_eq_false h, decide_eq_false this]
theorem tel_eq : Tel2 K (cmp2 .eq) (fun x y H Q => rEqD K x y H Q ∨ rEq x y H Q) := by
  intro E ι H st dx dy x y Q S rx ry go
  obtain ⟨c, e, q⟩ := cmp2_some S go
  rcases eqD_some e with ⟨t, u, e1, e2, s1, s2, rfl⟩ | ⟨t, u, rfl, rfl, rfl⟩
  · exact .inl ⟨t, u, tree_dp S rx e1, tree_dp S ry e2, s1, s2, q⟩
  · cases rx; cases ry
    exact .inr ⟨rfl, by rw [dec_tx]; exact q⟩
theorem tel_ne : Tel2 K (cmp2 .ne) (fun x y H Q => rNeD K x y H Q ∨ rNe x y H Q) := by
  intro E ι H st dx dy x y Q S rx ry go
  obtain ⟨c, e, q⟩ := cmp2_some S go
  obtain ⟨c', e', rfl⟩ := map_some e
  rcases eqD_some e' with ⟨t, u, e1, e2, s1, s2, rfl⟩ | ⟨t, u, rfl, rfl, rfl⟩
  · exact .inl ⟨t, u, tree_dp S rx e1, tree_dp S ry e2, s1, s2, q⟩
  · cases rx; cases ry
    exact .inr ⟨rfl, by rw [dec_tx]; exact q⟩
theorem tel_lt : Tel2 K (cmp2 .lt) (rI0 fun i j => .bl (decide (i < j))) := by
  intro E ι H st dx dy x y Q S rx ry go
  obtain ⟨c, e, q⟩ := cmp2_some S go
  cases rx <;> cases ry <;> first | (cases e; exact ⟨_, _, rfl, rfl, q⟩) | cases e
theorem tel_le : Tel2 K (cmp2 .le) (rI0 fun i j => .bl (decide (i ≤ j))) := by
  intro E ι H st dx dy x y Q S rx ry go
  obtain ⟨c, e, q⟩ := cmp2_some S go
  cases rx <;> cases ry <;> first | (cases e; exact ⟨_, _, rfl, rfl, q⟩) | cases e
theorem tel_gt : Tel2 K (cmp2 .gt) (rI0 fun i j => .bl (decide (j < i))) := by
  intro E ι H st dx dy x y Q S rx ry go
  obtain ⟨c, e, q⟩ := cmp2_some S go
  cases rx <;> cases ry <;> first | (cases e; exact ⟨_, _, rfl, rfl, q⟩) | cases e
theorem tel_ge : Tel2 K (cmp2 .ge) (rI0 fun i j => .bl (decide (j ≤ i))) := by
  intro E ι H st dx dy x y Q S rx ry go
  obtain ⟨c, e, q⟩ := cmp2_some S go
  cases rx <;> cases ry <;> first | (cases e; exact ⟨_, _, rfl, rfl, q⟩) | cases e

/-! ### in -/
section
variable {ι : List Addr} {H : Hp} {st : Sto}
theorem flat_rel {d : D} {v : V} (r : RelD K ι H d v) (f : flatD d = true) : flatV v = true := by
  cases r <;> first | rfl | cases f
theorem eqF_rel {d e : D} {v w : V} (r : RelD K ι H d v) (q : RelD K ι H e w) (f : flatD d = true) (g : flatD e = true) : eqV v w = eqF d e := by
  cases r <;> cases q <;> first | rfl | cases f | cases g | skip
  · simp only [eqV, eqF, D.bl.injEq, Bool.beq_eq_decide_eq]
  · simp only [eqV, eqF, D.int.injEq, Bool.beq_eq_decide_eq]
  · rename_i x y
    simp only [eqV, eqF, D.str.injEq]
    by_cases e : x = y
    · subst e
      rw [decide_eq_true rfl]
      exact beq_self_eq_true _
    · rw [decide_eq_false e]
      exact beq_eq_false_iff_ne.mpr fun z => e (tx_inj z)
theorem inD_rel {d : D} {v : V} (r : RelD K ι H d v) (f : flatD d = true) : ∀ {ds : List D} {vs : List V}, RelDs K ι H ds vs → ds.all flatD = true → vs.all flatV = true ∧ inV v vs = ds.any fun y => eqF y d
  | _, _, .nil, _ => ⟨rfl, rfl⟩
  | _, _, .cons h q, g => by
    rw [List.all_cons, Bool.and_eq_true] at g
    obtain ⟨h1, h2⟩ := inD_rel r f q g.2
    refine ⟨?_, ?_⟩
    · rw [List.all_cons, h1, flat_rel h g.1]; rfl
    · unfold inV at h2 ⊢
      rw [List.any_cons, List.any_cons, h2, eqF_rel h r g.1 f]
theorem inD_some {d : D} {ds : List D} {c : Bool} (h : inD d ds = some c) : flatD d = true ∧ ds.all flatD = true ∧ c = ds.any fun y => eqF y d := by
  unfold inD at h
  by_cases q : (flatD d && ds.all flatD) = true
  · rw [if_pos q] at h
    rw [Bool.and_eq_true] at q
    exact ⟨q.1, q.2, (Option.some.inj h).symm⟩
  · rw [if_neg q] at h; cases h
end
end
end PyI

/-! IF_: dicts, subscripts. -/
namespace PyI
open PySem PySem.Spec PyProof.Rows L2

/-! ### an empty dict is both -/
section
variable {X : Cx} {pins : List (Addr × Obj)} {σ : L2.St} {H : Hp} {s : Shared} {a : Addr}
theorem obj_kt {P : Program} {w : World} {H' : Hp} {h : Heap} (x : ObjOk P w H h a (.dK [])) : ObjOk P w H' h a (.dT []) := by
  obtain ⟨z, hs, vs, r, o, es, ep, e1, e2, e3, e4, e5, e6⟩ := x
  cases r
  cases q : es.toList with
  | nil => exact ⟨z, hs, [], .nil, o, es, ep, e1, e2, e3, q, List.nodup_nil⟩
  | cons y l => rw [q] at e5; cases e5
theorem obj_tk {P : Program} {w : World} {H' : Hp} {h : Heap} (x : ObjOk P w H h a (.dT [])) : ObjOk P w H' h a (.dK []) := by
  obtain ⟨z, hs, vs, r, o, es, ep, e1, e2, e3, e4, e5⟩ := x
  cases r
  have q : es.toList = [] := e4
  refine ⟨z, hs, [], .nil, o, es, ep, e1, e2, e3, fun e he => ?_, ?_, List.nodup_nil⟩
  · have h := Array.mem_toList_iff.mpr he
    rw [q] at h; cases h
  · rw [q]; exact .nil
theorem inv_kt (I : Inv X pins σ H s) (e : H a = some (.dK [])) : Inv X pins σ (upd H a (.dT [])) s := by
  obtain ⟨o, ho⟩ : ∃ o, s.heap.get? a = some o := by
    obtain ⟨_, _, _, _, o, _, _, e1, _⟩ := I.hok a _ e
    exact ⟨o, e1⟩
  exact I.write (x := a) (e := a) (h' := s.heap) (t' := s.toks) (by rw [e]; trivial) (.inl rfl) (fun _ _ _ q => q) ⟨o, ho⟩ (obj_kt (I.hok a _ e))
theorem inv_tk (I : Inv X pins σ (upd H a (.dT [])) s) (e : H a = some (.dK [])) : Inv X pins σ H s := by
  have e' : upd H a (.dT []) a = some (.dT []) := upd_same
  obtain ⟨o, ho⟩ : ∃ o, s.heap.get? a = some o := by
    obtain ⟨_, _, _, _, o, _, _, e1, _⟩ := I.hok a _ e'
    exact ⟨o, e1⟩
  have J := I.write (x := a) (e := a) (o := .dK []) (h' := s.heap) (t' := s.toks) (by rw [e']; trivial) (.inl rfl) (fun _ _ _ q => q) ⟨o, ho⟩ (obj_tk (I.hok a _ e'))
  have q : upd (upd H a (.dT [])) a (.dK []) = H := by
    rw [upd_upd]
    funext b
    by_cases hb : b = a
    · subst hb; rw [upd_same, e]
    · rw [upd_ne hb]
  rw [q] at J
  exact J
end

/-- what a dict tells at a key, the empty one of a tuple, too -/
def DGetA (H : Hp) (a : Addr) (y : V) (r : Option V) : Prop := DGet H a y r ∨ (H a = some (.dK []) ∧ r = none ∧ ∃ (k : List L2.Key) (b : Addr), y = .ref b ∧ H b = some (.tup (k.map kV)))
def DPutA (H : Hp) (a : Addr) (y v : V) (H' : Hp) : Prop := DPut H a y v H' ∨ (H a = some (.dK []) ∧ ∃ (k : List L2.Key) (b : Addr), y = .ref b ∧ H b = some (.tup (k.map kV)) ∧ H' = upd H a (.dT [(k, v)]))
section
variable {X : Cx} {pins : List (Addr × Obj)} {σ : L2.St} {H H' : Hp} {s : Shared} {a : Addr} {y v : V} {u r : Value} {o : Option V} {A : Around} {E : Value → Shared → Prop}
theorem DGetA.both (g : DGetA H a y o) : (DGet H a y o) ∨ (H a = some (.dK []) ∧ DGet (upd H a (.dT [])) a y none ∧ o = none) := by
  rcases g with g | ⟨e, rfl, k, b, rfl, eb⟩
  · exact .inl g
  · refine .inr ⟨e, .inr ⟨[], k, b, .inl upd_same, rfl, ?_, rfl⟩, rfl⟩
    rw [upd_ne fun z => by rw [z, e] at eb; cases eb]
    exact eb
theorem dA_in {Q : Value → Shared → Prop} (hu : A.units + 1 < cLine) (I : Inv X pins σ H s) (g : DGetA H a y o) (ry : RelV y u) (h : ∀ s', Inv X pins σ H s' → Q (.bool o.isSome) s') :
    wpAny (model X.prog X.w) A (compareOp .In u (.ref a)) Q E s := by
  rcases g.both with g | ⟨e, g', rfl⟩
  · exact d_in hu I g ry h
  · exact d_in hu (inv_kt I e) g' ry fun s1 J => h s1 (inv_tk J e)
theorem dA_notIn {Q : Value → Shared → Prop} (hu : A.units + 1 < cLine) (I : Inv X pins σ H s) (g : DGetA H a y o) (ry : RelV y u) (h : ∀ s', Inv X pins σ H s' → Q (.bool (!o.isSome)) s') :
    wpAny (model X.prog X.w) A (compareOp .NotIn u (.ref a)) Q E s := by
  rcases g.both with g | ⟨e, g', rfl⟩
  · exact d_notIn hu I g ry h
  · exact d_notIn hu (inv_kt I e) g' ry fun s1 J => h s1 (inv_tk J e)
theorem dA_setItem {Q : Unit → Shared → Prop} (hu : A.units + 1 < cLine) (I : Inv X pins σ H s) (g : DPutA H a y v H') (ry : RelV y u) (rv : RelV v r) (h : ∀ s', Inv X pins σ H' s' → Q () s') :
    wpAny (model X.prog X.w) A (setItem (.ref a) u r) Q E s := by
  rcases g with g | ⟨e, k, b, rfl, eb, rfl⟩
  · exact d_setItem hu I g ry rv h
  · refine d_setItem (H' := upd H a (.dT [(k, v)])) hu (inv_kt I e) (.inr ⟨[], k, b, upd_same, rfl, ?_, by rw [line_eq]; decide, ?_⟩) ry rv h
    · rw [upd_ne fun z => by rw [z, e] at eb; cases eb]
      exact eb
    · rw [upd_upd]; rfl
end

/-! ### the evaluator's dicts -/
def OptR (K : PySem.W.Frag) (ι : List Addr) (H : Hp) : Option D → Option V → Prop
  | none, none => True
  | some d, some v => RelD K ι H d v
  | _, _ => False
section
variable {K : PySem.W.Frag} {ι : List Addr} {H : Hp} {st : Sto}
theorem kV_key {d : D} {k : Ky} {v : V} (r : RelD K ι H d v) (h : keyOf d = some k) : v = kV (kyK k) := by
  cases r <;> cases h <;> rfl
theorem kV_keys : ∀ {ds : List D} {ks : List Ky} {vs : List V}, RelDs K ι H ds vs → keysOf ds = some ks → vs = (ks.map kyK).map kV
  | _, _, _, .nil, h => by cases h; rfl
  | _, _, _, .cons r q, h => by
    obtain ⟨k, e1, e2⟩ := bind_some h
    obtain ⟨ks, e3, rfl⟩ := map_some e2
    rw [kV_key r e1, kV_keys q e3]; rfl
theorem kyK_iff {a b : Ky} : (kyK a = kyK b) ↔ a = b := ⟨kyK_inj, fun e => by rw [e]⟩
theorem kyKs_iff : ∀ {a b : List Ky}, (a.map kyK = b.map kyK) ↔ a = b := fun {a b} => ⟨fun h => by
    induction a generalizing b with
    | nil => cases b with
      | nil => rfl
      | cons y b => cases h
    | cons x a ih => cases b with
      | nil => cases h
      | cons y b =>
        rw [List.map_cons, List.map_cons, List.cons.injEq] at h
        rw [kyK_inj h.1, ih h.2], fun e => by rw [e]⟩
theorem RelK.val (k : Ky) : ∀ {ds : List (Ky × D)} {vs : List (L2.Key × V)}, RelK K ι H ds vs → OptR K ι H (valD ds k) (valV vs (kyK k))
  | _, _, .nil => trivial
  | _, _, .cons (k := j) (d := d) (v := v) r q => by
    by_cases e : j = k
    · subst e
      rw [valV_pos rfl, valD, List.find?_cons_of_pos (by simp)]
      exact r
    · rw [valV_neg fun z => e (kyK_inj z), valD, List.find?_cons_of_neg (by simpa using e)]
      exact RelK.val k q
theorem RelKT.val (k : List Ky) : ∀ {ds : List (List Ky × D)} {vs : List (List L2.Key × V)}, RelKT K ι H ds vs → OptR K ι H (valD ds k) (valV vs (k.map kyK))
  | _, _, .nil => trivial
  | _, _, .cons (k := j) (d := d) (v := v) r q => by
    by_cases e : j = k
    · subst e
      rw [valV_pos rfl, valD, List.find?_cons_of_pos (by simp)]
      exact r
    · rw [valV_neg fun z => e (kyKs_iff.mp z), valD, List.find?_cons_of_neg (by simpa using e)]
      exact RelKT.val k q
theorem RelK.any (k : Ky) : ∀ {ds : List (Ky × D)} {vs : List (L2.Key × V)}, RelK K ι H ds vs → (ds.any fun kv => decide (kv.1 = k)) = vs.any fun kv => decide (kv.1 = kyK k)
  | _, _, .nil => rfl
  | _, _, .cons (k := j) r q => by
    rw [List.any_cons, List.any_cons, RelK.any k q]
    congr 1
    exact decide_eq_decide.mpr kyK_iff.symm
theorem RelKT.any (k : List Ky) : ∀ {ds : List (List Ky × D)} {vs : List (List L2.Key × V)}, RelKT K ι H ds vs → (ds.any fun kv => decide (kv.1 = k)) = vs.any fun kv => decide (kv.1 = k.map kyK)
  | _, _, .nil => rfl
  | _, _, .cons (k := j) r q => by
    rw [List.any_cons, List.any_cons, RelKT.any k q]
    congr 1
    exact decide_eq_decide.mpr kyKs_iff.symm
theorem RelK.repl (k : Ky) {d : D} {v : V} (h : RelD K ι H d v) : ∀ {ds : List (Ky × D)} {vs : List (L2.Key × V)}, RelK K ι H ds vs → RelK K ι H (ds.map fun kv => if kv.1 = k then (kv.1, d) else kv) (vs.map fun kv => if kv.1 = kyK k then (kv.1, v) else kv)
  | _, _, .nil => .nil
  | _, _, .cons (k := j) r q => by
    rw [List.map_cons, List.map_cons]
    by_cases e : j = k
    · rw [if_pos (show (j, _).1 = k from e), if_pos (show (kyK j, _).1 = kyK k by rw [e])]
      exact .cons h (RelK.repl k h q)
    · rw [if_neg (show ¬ (j, _).1 = k from e), if_neg (show ¬ (kyK j, _).1 = kyK k from fun z => e (kyK_inj z))]
      exact .cons r (RelK.repl k h q)
theorem RelKT.repl (k : List Ky) {d : D} {v : V} (h : RelD K ι H d v) : ∀ {ds : List (List Ky × D)} {vs : List (List L2.Key × V)}, RelKT K ι H ds vs → RelKT K ι H (ds.map fun kv => if kv.1 = k then (kv.1, d) else kv) (vs.map fun kv => if kv.1 = k.map kyK then (kv.1, v) else kv)
  | _, _, .nil => .nil
  | _, _, .cons (k := j) r q => by
    rw [List.map_cons, List.map_cons]
    by_cases e : j = k
    · rw [if_pos (show (j, _).1 = k from e), if_pos (show (j.map kyK, _).1 = k.map kyK by rw [e])]
      exact .cons h (RelKT.repl k h q)
    · rw [if_neg (show ¬ (j, _).1 = k from e), if_neg (show ¬ (j.map kyK, _).1 = k.map kyK from fun z => e (kyKs_iff.mp z))]
      exact .cons r (RelKT.repl k h q)
theorem RelK.append : ∀ {d e : List (Ky × D)} {v w : List (L2.Key × V)}, RelK K ι H d v → RelK K ι H e w → RelK K ι H (d ++ e) (v ++ w)
  | _, _, _, _, .nil, s => s
  | _, _, _, _, .cons h r, s => .cons h (RelK.append r s)
theorem RelKT.append : ∀ {d e : List (List Ky × D)} {v w : List (List L2.Key × V)}, RelKT K ι H d v → RelKT K ι H e w → RelKT K ι H (d ++ e) (v ++ w)
  | _, _, _, _, .nil, s => s
  | _, _, _, _, .cons h r, s => .cons h (RelKT.append r s)
theorem RelK.put {k : Ky} {d : D} {v : V} {ds : List (Ky × D)} {vs : List (L2.Key × V)} (q : RelK K ι H ds vs) (h : RelD K ι H d v) : RelK K ι H (putD ds k d) (putK vs (kyK k) v) := by
  unfold putD putK
  rw [RelK.any k q]
  by_cases c : (vs.any fun kv => decide (kv.1 = kyK k)) = true
  · rw [if_pos c, if_pos c]; exact RelK.repl k h q
  · rw [if_neg c, if_neg c]; exact q.append (.cons h .nil)
theorem RelKT.put {k : List Ky} {d : D} {v : V} {ds : List (List Ky × D)} {vs : List (List L2.Key × V)} (q : RelKT K ι H ds vs) (h : RelD K ι H d v) : RelKT K ι H (putD ds k d) (putK vs (k.map kyK) v) := by
  unfold putD putK
  rw [RelKT.any k q]
  by_cases c : (vs.any fun kv => decide (kv.1 = k.map kyK)) = true
  · rw [if_pos c, if_pos c]; exact RelKT.repl k h q
  · rw [if_neg c, if_neg c]; exact q.append (.cons h .nil)
theorem dkAt_some {n : Nat} {kvs : List (Ky × D)} (h : dkAt st n = some kvs) : st[n]? = some (.dk kvs) := by
  unfold dkAt at h
  split at h
  · rename_i ys e; rw [e]; cases h; rfl
  · cases h
theorem dtAt_some {n : Nat} {kvs : List (List Ky × D)} (h : dtAt st n = some kvs) : st[n]? = some (.dt kvs) ∨ (st[n]? = some (.dk []) ∧ kvs = []) := by
  unfold dtAt at h
  split at h
  · rename_i ys e; rw [e]; cases h; exact .inl rfl
  · rename_i e; rw [e]; cases h; exact .inr ⟨rfl, rfl⟩
  · cases h
/-- a key of a kind -/
theorem dget_rel (S : StR K ι H st) {n : Nat} {k : D} {y : V} {a : Addr} {o : Option D} (h : dget st n k = some o) (ha : ι[n]? = some a) (r : RelD K ι H k y) : ∃ o', DGetA H a y o' ∧ OptR K ι H o o' := by
  have plain : ∀ {kvs : List (Ky × D)} {j : Ky}, dkAt st n = some kvs → keyOf k = some j → o = valD kvs j → ∃ o', DGetA H a y o' ∧ OptR K ι H o o' := by
    intro kvs j e1 e2 e3
    obtain ⟨b, vs, hb, e, q⟩ := dk_ofS S (dkAt_some e1)
    rw [ha] at hb; cases hb
    rw [kV_key r e2, e3]
    exact ⟨_, .inl (.k e), q.val j⟩
  cases r with
  | @tup b vs ds hb q =>
    obtain ⟨kvs, e1, e2⟩ := bind_some h
    obtain ⟨j, e3, rfl⟩ := map_some e2
    have hv := kV_keys q e3
    subst hv
    rcases dtAt_some e1 with e | ⟨e, rfl⟩
    · obtain ⟨c, ws, hc, e', q'⟩ := dt_ofS S e
      rw [ha] at hc; cases hc
      exact ⟨_, .inl (.t e' hb), q'.val j⟩
    · obtain ⟨c, ws, hc, e', q'⟩ := dk_ofS S e
      rw [ha] at hc; cases hc
      cases q'
      exact ⟨none, .inr ⟨e', rfl, _, b, rfl, hb⟩, trivial⟩
  | _ =>
    obtain ⟨kvs, e1, e2⟩ := bind_some h
    obtain ⟨j, e3, e4⟩ := map_some e2
    exact plain e1 e3 e4.symm
theorem dput_rel (S : StR K ι H st) {n : Nat} {k d : D} {y v : V} {a : Addr} {st' : Sto} (h : dput st n k d = some st') (ha : ι[n]? = some a) (r : RelD K ι H k y) (rd : RelD K ι H d v) :
    ∃ H', DPutA H a y v H' ∧ Ext K ι H ι H' ∧ StR K ι H' st' := by
  have plain : ∀ {kvs : List (Ky × D)} {j : Ky}, dkAt st n = some kvs → keyOf k = some j → kvs.length < 16777216 → st' = st.set n (.dk (putD kvs j d)) → ∃ H', DPutA H a y v H' ∧ Ext K ι H ι H' ∧ StR K ι H' st' := by
    intro kvs j e1 e2 hl e3
    obtain ⟨b, vs, hb, e, q⟩ := dk_ofS S (dkAt_some e1)
    rw [ha] at hb; cases hb
    rw [kV_key r e2, e3]
    have ho : ∃ u, H a = some u ∧ ∀ v w, u ≠ .frz v w := ⟨_, e, fun _ _ z => by cases z⟩
    exact ⟨_, .inl (.k e (by rw [← q.length, line_eq]; exact hl)), Ext.put S ha ho, S.put ha ho ⟨_, upd_same, (q.mono (Ext.put S ha ho)).put (rd.mono (Ext.put S ha ho))⟩⟩
  cases r with
  | @tup b vs ds hb q =>
    obtain ⟨kvs, e1, e2⟩ := bind_some h
    by_cases hl : kvs.length < 16777216
    · rw [if_pos hl] at e2
      obtain ⟨j, e3, rfl⟩ := map_some e2
      have hv := kV_keys q e3
      subst hv
      rcases dtAt_some e1 with e | ⟨e, rfl⟩
      · obtain ⟨c, ws, hc, e', q'⟩ := dt_ofS S e
        rw [ha] at hc; cases hc
        have ho : ∃ u, H a = some u ∧ ∀ v w, u ≠ .frz v w := ⟨_, e', fun _ _ z => by cases z⟩
        exact ⟨_, .inl (.t e' hb (by rw [← q'.length, line_eq]; exact hl)), Ext.put S ha ho, S.put ha ho ⟨_, upd_same, (q'.mono (Ext.put S ha ho)).put (rd.mono (Ext.put S ha ho))⟩⟩
      · obtain ⟨c, ws, hc, e', q'⟩ := dk_ofS S e
        rw [ha] at hc; cases hc
        cases q'
        have ho : ∃ u, H a = some u ∧ ∀ v w, u ≠ .frz v w := ⟨_, e', fun _ _ z => by cases z⟩
        exact ⟨_, .inr ⟨e', _, b, rfl, hb, rfl⟩, Ext.put S ha ho, S.put ha ho ⟨_, upd_same, .cons (rd.mono (Ext.put S ha ho)) .nil⟩⟩
    · rw [if_neg hl] at e2; cases e2
  | _ =>
    obtain ⟨kvs, e1, e2⟩ := bind_some h
    by_cases hl : kvs.length < 16777216
    · rw [if_pos hl] at e2
      obtain ⟨j, e3, e4⟩ := map_some e2
      exact plain e1 e3 hl e4.symm
    · rw [if_neg hl] at e2; cases e2
end
end PyI

/-! IG_: in, subscripts, slices, truth, expressions of two parts. -/
namespace PyI
open PySem PySem.Spec PyProof.Rows L2

section
variable {X : Cx}
def rInA (neg : Bool) : R2 := fun y x H Q => ∃ a o, x = .ref a ∧ DGetA H a y o ∧ Q (.bl (if neg then !o.isSome else o.isSome)) H
theorem op_inA (hu : X.A.units + 1 < cLine) : OpR X (compareOp .In) (rInA false) := by
  intro pins s σ H y x u v Q I ry rx h
  obtain ⟨a, o, rfl, g, q⟩ := h
  cases rx
  exact dA_in hu I g ry fun s1 J => ⟨.bl o.isSome, H, J, rfl, q⟩
theorem op_notInA (hu : X.A.units + 1 < cLine) : OpR X (compareOp .NotIn) (rInA true) := by
  intro pins s σ H y x u v Q I ry rx h
  obtain ⟨a, o, rfl, g, q⟩ := h
  cases rx
  exact dA_notIn hu I g ry fun s1 J => ⟨.bl (!o.isSome), H, J, rfl, q⟩
def rIxD : R2 := fun x y H Q => ∃ a v, x = .ref a ∧ DGet H a y (some v) ∧ Q v H
theorem ix_dict (hu : X.A.units + 1 < cLine) : IxR X rIxD := by
  intro value slice pins s σ H x y v u Q I rx ry h hs
  obtain ⟨a, z, rfl, g, q⟩ := h
  cases rx
  exact tail_any (dict_typeIs I g) PySem.F.slot_dict_getitem.lookup (d_getItem hu I g ry fun w s1 J rw' => ⟨z, H, J, rw', q⟩) hs
def rSetA : V → V → V → Hp → (Hp → Prop) → Prop := fun o i v H Q => ∃ a H', o = .ref a ∧ DPutA H a i v H' ∧ Q H'
theorem set_dict (hu : X.A.units + 1 < cLine) : PSet X rSetA := by
  intro pins s σ H o i v ov iv u Q I ro ri rv h
  obtain ⟨a, H', rfl, g, q⟩ := h
  cases ro
  exact dA_setItem hu I g ri rv fun s1 J => ⟨H', J, q⟩
theorem PSet.or {t t' : TSet} (h : PSet X t) (k : PSet X t') : PSet X (fun o i v H Q => t o i v H Q ∨ t' o i v H Q) :=
  fun pins s σ H o i v ov iv u Q I ro ri rv q => q.elim (h pins s σ H o i v ov iv u Q I ro ri rv) (k pins s σ H o i v ov iv u Q I ro ri rv)
end

section
variable {K : PySem.W.Frag}
theorem optR_some {ι : List Addr} {H : Hp} {o : Option D} {o' : Option V} (h : OptR K ι H o o') : o'.isSome = o.isSome := by
  cases o <;> cases o' <;> first | rfl | exact h.elim
/-- what stands in inB, by the layer's three rules -/
theorem in_three {E : XW} {ι : List Addr} {H : Hp} {st : Sto} {dx dy : D} {x y : V} {c : Bool} {neg : Bool} {Q : VK} (S : StR K ι H st) (rx : RelD K ι H dx x) (ry : RelD K ι H dy y) (h : inB dx dy st = some c) (q : Q (.bl (if neg then !c else c)) H) :
    rIn K neg x y H Q ∨ rInA neg x y H Q ∨ (∃ i j, x = .str i ∧ y = .str j ∧ Q (.bl (if neg then !(!(Builtin.Str.occurrences j i 0 j.length 1).isEmpty) else !(Builtin.Str.occurrences j i 0 j.length 1).isEmpty)) H) := by
  cases ry with
  | non => cases h
  | bl b => cases h
  | int i => cases h
  | str z =>
    cases rx <;> cases h
    refine .inr (.inr ⟨_, _, rfl, rfl, ?_⟩)
    rw [tx_length]
    exact q
  | @tup a vs ds ha r =>
    obtain ⟨f1, f2, rfl⟩ := inD_some h
    obtain ⟨g1, g2⟩ := inD_rel rx f1 r f2
    exact .inl ⟨a, vs, rfl, .inr (.of ha), flat_rel rx f1, g1, by rw [g2]; exact q⟩
  | @rol a vs ds ha r =>
    obtain ⟨f1, f2, rfl⟩ := inD_some h
    obtain ⟨g1, g2⟩ := inD_rel rx f1 r f2
    exact .inl ⟨a, vs, rfl, .inl ha.seq, flat_rel rx f1, g1, by rw [g2]; exact q⟩
  | @ref n a ha =>
    dsimp only [inB] at h
    split at h
    · rename_i xs e
      obtain ⟨b, vs, hb, e', r⟩ := lst_of S (listAt_some e)
      rw [ha] at hb; cases hb
      obtain ⟨f1, f2, rfl⟩ := inD_some h
      obtain ⟨g1, g2⟩ := inD_rel rx f1 r f2
      exact .inl ⟨a, vs, rfl, .inl (.of e'), flat_rel rx f1, g1, by rw [g2]; exact q⟩
    · obtain ⟨o, e, rfl⟩ := map_some h
      obtain ⟨o', g, r⟩ := dget_rel S e ha rx
      exact .inr (.inl ⟨a, o', rfl, g, by rw [optR_some r]; exact q⟩)
theorem tel_in : Tel2 K (cmp2 .inn) (fun x y H Q => rIn K false x y H Q ∨ rInA false x y H Q ∨ ∃ i j, x = .str i ∧ y = .str j ∧ Q (.bl (!(Builtin.Str.occurrences j i 0 j.length 1).isEmpty)) H) := by
  intro E ι H st dx dy x y Q S rx ry go
  obtain ⟨c, e, q⟩ := cmp2_some S go
  exact in_three (E := E) (neg := false) S rx ry e q
theorem tel_nin : Tel2 K (cmp2 .nin) (fun x y H Q => rIn K true x y H Q ∨ rInA true x y H Q ∨ ∃ i j, x = .str i ∧ y = .str j ∧ Q (.bl (!(!(Builtin.Str.occurrences j i 0 j.length 1).isEmpty))) H) := by
  intro E ι H st dx dy x y Q S rx ry go
  obtain ⟨c, e, q⟩ := cmp2_some S go
  obtain ⟨c', e', rfl⟩ := map_some e
  exact in_three (E := E) (neg := true) S rx ry e' q
theorem tel_isN : Tel2 K (cmp2 .isN) (fun x y H Q => y = .non ∧ Q (.bl (decide (x = .non))) H) := by
  intro E ι H st dx dy x y Q S rx ry go
  obtain ⟨c, e, q⟩ := cmp2_some S go
  cases ry <;> first | (cases e; done) | skip
  cases e
  refine ⟨rfl, ?_⟩
  cases rx <;> simpa using q
theorem tel_notN : Tel2 K (cmp2 .notN) (fun x y H Q => y = .non ∧ Q (.bl (!decide (x = .non))) H) := by
  intro E ι H st dx dy x y Q S rx ry go
  obtain ⟨c, e, q⟩ := cmp2_some S go
  cases ry <;> first | (cases e; done) | skip
  cases e
  refine ⟨rfl, ?_⟩
  cases rx <;> simpa using q

/-! ### subscripts -/
section
variable {ι : List Addr} {H : Hp} {st : Sto}
theorem atI_rel {ds : List D} {vs : List V} {i : Int} {d : D} (r : RelDs K ι H ds vs) (h : L2.atI ds i = some d) : ∃ v, L2.atI vs i = some v ∧ RelD K ι H d v := by
  unfold L2.atI at h ⊢
  obtain ⟨j, e1, e2⟩ := bind_some h
  rw [r.length] at e1
  obtain ⟨v, e3, r'⟩ := r.get e2
  exact ⟨v, by rw [e1]; exact e3, r'⟩
end
theorem tel_index : Tel2 K index2 (fun x y H Q => rIx K x y H Q ∨ rIxD x y H Q) := by
  intro E ι H st dx dy x y Q S rx ry go
  cases rx with
  | non => exact (show False from go).elim
  | bl b => exact (show False from go).elim
  | int i => exact (show False from go).elim
  | str z =>
    cases ry <;> first | exact (show False from go).elim | skip
    rename_i i
    obtain ⟨c, go⟩ := Go.guard go
    rw [decide_eq_true_eq] at c
    obtain ⟨d, e, go⟩ := Go.one go
    obtain ⟨k, e1, rfl⟩ := map_some e
    exact .inl (.inr (.inr ⟨_, _, k, rfl, rfl, by rw [tx_length, line_eq]; exact c, by rw [tx_toList]; exact e1, Go.val go S (.str [k])⟩))
  | @tup a vs ds ha r =>
    cases ry <;> first | exact (show False from go).elim | skip
    rename_i i
    obtain ⟨d, e, go⟩ := Go.one go
    obtain ⟨v, e1, r1⟩ := atI_rel r e
    exact .inl (.inr (.inl ⟨a, vs, i, v, rfl, rfl, .of ha, e1, Go.val go S r1⟩))
  | @rol a vs ds ha r =>
    cases ry <;> first | exact (show False from go).elim | skip
    rename_i i
    obtain ⟨d, e, go⟩ := Go.one go
    obtain ⟨v, e1, r1⟩ := atI_rel r e
    exact .inl (.inl ⟨a, vs, i, v, rfl, rfl, ha.seq, e1, Go.val go S r1⟩)
  | @ref n a ha =>
    dsimp only [index2] at go
    split at go
    · rename_i xs e
      obtain ⟨b, vs, hb, e', r⟩ := lst_of S (listAt_some e)
      rw [ha] at hb; cases hb
      cases ry <;> first | exact (show False from go).elim | skip
      rename_i i
      obtain ⟨d, e, go⟩ := Go.one go
      obtain ⟨v, e1, r1⟩ := atI_rel r e
      exact .inl (.inl ⟨a, vs, i, v, rfl, rfl, .of e', e1, Go.val go S r1⟩)
    · obtain ⟨d, e, go⟩ := Go.one go
      obtain ⟨o, e1, e2⟩ := bind_some e
      obtain ⟨o', g, r⟩ := dget_rel S e1 ha ry
      cases e2
      cases o' with
      | none => exact r.elim
      | some v =>
        rcases g with g | ⟨_, z, _⟩
        · exact .inr ⟨a, v, rfl, g, Go.val go S r⟩
        · cases z

/-! ### truth -/
theorem truth_rel {ι : List Addr} {H : Hp} {st : Sto} {d : D} {v : V} {c : Bool} (S : StR K ι H st) (r : RelD K ι H d v) (h : d.truth st = some c) : TruV K v H c := by
  have em : ∀ {ds : List D} {vs : List V}, RelDs K ι H ds vs → (!ds.isEmpty) = !vs.isEmpty := fun r => by cases r <;> rfl
  cases r with
  | non => cases h; rfl
  | bl b => cases h; rfl
  | int i => cases h; rfl
  | str x =>
    dsimp only [D.truth] at h
    by_cases hl : x.length ≤ 16777216
    · rw [if_pos hl] at h
      cases h
      refine ⟨by rw [tx_length, line_eq]; exact hl, ?_⟩
      rw [tx_length]
      cases x with
      | nil => rfl
      | cons a x =>
        show true = (((x.length + 1 : Nat) : Int) != 0)
        symm
        rw [bne_iff_ne]
        omega
    · rw [if_neg hl] at h; cases h
  | @tup a vs ds ha r => cases h; exact .inr (.inl ⟨vs, .of ha, em r⟩)
  | @rol a vs ds ha r => cases h; exact .inl ⟨vs, ha.seq, em r⟩
  | @ref n a ha =>
    dsimp only [D.truth] at h
    split at h
    · rename_i xs e
      obtain ⟨b, vs, hb, e', r⟩ := lst_of S e
      rw [ha] at hb; cases hb
      cases h
      exact .inl ⟨vs, .of e', em r⟩
    · rename_i kvs e
      obtain ⟨b, vs, hb, e', r⟩ := dk_ofS S e
      rw [ha] at hb; cases hb
      cases h
      exact .inr (.inr ⟨vs, e', by cases r <;> rfl⟩)
    · cases h
end

/-! ### slices -/
section
variable {K : PySem.W.Frag} {ι : List Addr} {H : Hp} {st : Sto}
theorem cutD_rel {ds : List D} {vs : List V} (r : RelDs K ι H ds vs) (lo hi : Option Int) : RelDs K ι H (cutD ds lo hi) (cutV vs lo hi) := by
  unfold cutD cutV
  rw [r.length]
  exact (r.drop _).take _
end
/-- a slice, by the layer's rules -/
def rSlB (K : PySem.W.Frag) : V → Option Int → Option Int → Hp → VK → Prop := fun x lo hi H Q => (rSlA K x lo hi H Q ∨ rSlL K x lo hi H Q) ∨ ∃ z, x = .str z ∧ z.length ≤ sizeLine ∧ Q (.str (cutS z lo hi)) H
theorem tel_slice {K : PySem.W.Frag} {E : XW} {ι : List Addr} {H : Hp} {st : Sto} {d : D} {v : V} {lo hi : Option Int} {Q : VK} (S : StR K ι H st) (r : RelD K ι H d v)
    (go : Go K E (RD K) ι H Q (slice1 lo hi d st)) : rSlB K v lo hi H Q := by
  cases r with
  | non => exact (show False from go).elim
  | bl b => exact (show False from go).elim
  | int i => exact (show False from go).elim
  | str x =>
    obtain ⟨c, go⟩ := Go.guard go
    rw [decide_eq_true_eq] at c
    refine .inr ⟨_, rfl, by rw [tx_length, line_eq]; exact c, ?_⟩
    have e : cutS (tx x) lo hi = tx (cutD x lo hi) := by
      unfold cutS cutD
      rw [tx_length, tx_toList]
    rw [e]
    exact Go.val go S (.str _)
  | @tup a vs ds ha r =>
    refine .inl (.inl ⟨a, vs, rfl, .of ha, fun e => ?_, fun _ => Go.tup go S (cutD_rel r lo hi)⟩)
    have e2 : cutD ds lo hi = ds := by
      unfold cutD
      rw [r.length, e.1, e.2, List.drop_zero, Nat.sub_zero, ← r.length, List.take_length]
    have go' : Go K E (RD K) ι H Q (.ok (.tup (cutD ds lo hi)) st) := go
    rw [e2] at go'
    exact Go.val go' S (.tup ha r)
  | @rol a vs ds ha r => exact .inl (.inr ⟨a, vs, rfl, ha.seq, Go.newL go S (cutD_rel r lo hi)⟩)
  | @ref n a ha =>
    dsimp only [slice1] at go
    split at go
    · rename_i xs e
      obtain ⟨b, vs, hb, e', r⟩ := lst_of S (listAt_some e)
      rw [ha] at hb; cases hb
      exact .inl (.inr ⟨a, vs, rfl, .of e', Go.newL go S (cutD_rel r lo hi)⟩)
    · exact (show False from go).elim
end PyI

/-! IH_: expressions, one by one. -/
namespace PyI
open PySem PySem.Spec PyProof.Rows L2

abbrev SE (X : Cx) (E : L2.St → XW) (e : Expr) (f : Env → Sto → Res D) : Prop := PE X e (sR X.K (RD X.K) E f)
abbrev SA (X : Cx) (E : L2.St → XW) (es : List Expr) (f : Env → Sto → Res (List D)) : Prop := PA X es (sR X.K (RDs X.K) E f)
def truthy' (x : D) (st : Sto) : Res Bool := match x.truth st with
  | some c => .ok c st
  | none => .stuck
def fT (f : Env → Sto → Res D) : Env → Sto → Res Bool := fun env st => (f env st).bind truthy'
abbrev ST (X : Cx) (E : L2.St → XW) (e : Expr) (f : Env → Sto → Res D) : Prop := PT X e (sR X.K RB E (fT f))
abbrev SW (X : Cx) (E : L2.St → XW) (e : Expr) (f : Env → Sto → Res D) : Prop := PW X e (sR X.K RB E (fT f))

section
variable {K : PySem.W.Frag} {E : XW} {ι : List Addr} {H : Hp} {st : Sto}
theorem Go.bool {Q : Bool → Hp → Prop} {b : Bool} (h : Go K E RB ι H Q (.ok b st)) (S : StR K ι H st) : Q b H := h ι H b (Ext.refl ι H) S rfl
theorem truthy_some {Q : Bool → Hp → Prop} {x : D} (h : Go K E RB ι H Q (truthy' x st)) (S : StR K ι H st) : ∃ c, x.truth st = some c ∧ Q c H := by
  unfold truthy' at h
  split at h
  · rename_i c e
    exact ⟨c, e, Go.bool h S⟩
  · exact (show False from h).elim
theorem bind_bind {α β γ : Type} (r : Res α) (f : α → Sto → Res β) (g : β → Sto → Res γ) : (r.bind f).bind g = r.bind fun a st => (f a st).bind g := by cases r <;> rfl
end

section
variable {X : Cx} {E : L2.St → XW} {a b c e : Expr} {fa fb fc f : Env → Sto → Res D} {pos : Pos}
theorem se_none {j : Nat} : SE X E (.Constant .none j pos) (fun _ st => .ok .non st) := PE.imp pe_non fun σ H Q ⟨ι, env, st, eR, S, go⟩ => Go.val go S .non
theorem se_bl {j : Nat} {k : Bool} : SE X E (.Constant (.bool k) j pos) (fun _ st => .ok (.bl k) st) := PE.imp pe_bl fun σ H Q ⟨ι, env, st, eR, S, go⟩ => Go.val go S (.bl k)
theorem se_int {j : Nat} {k : Int} : SE X E (.Constant (.int k) j pos) (fun _ st => .ok (.int k) st) := PE.imp pe_int fun σ H Q ⟨ι, env, st, eR, S, go⟩ => Go.val go S (.int k)
theorem tx_cps (x : Str) : tx x.cps.toList = x := by cases x; simp [tx]
theorem se_str {j : Nat} {k : Str} : SE X E (.Constant (.str k) j pos) (fun _ st => .ok (.str k.cps.toList) st) := PE.imp pe_str fun σ H Q ⟨ι, env, st, eR, S, go⟩ => by
  have h := Go.val go S (.str k.cps.toList)
  rw [tx_cps] at h
  exact h
theorem se_var {i : Nat} {x : Str} (hN : X.N[i]? = some x) (hv : Vis X.env.scope x) (hd : (x == ("__debug__" : Str)) = false) (hcd : (x == ("__classdict__" : Str)) = false) : SE X E (.Name x pos) (fun env st => one (env[i]?.join) st) :=
  PE.imp (pe_var hN hv hd hcd) fun σ H Q ⟨ι, env, st, eR, S, go⟩ => by
    obtain ⟨d, e, go⟩ := Go.one go
    have e' : env[i]? = some (some d) := by
      cases q : env[i]? with
      | none => rw [q] at e; cases e
      | some o => rw [q] at e; rw [show o = some d from e]
    obtain ⟨v, h1, h2⟩ := eR.get i d e'
    exact ⟨v, h1, Go.val go S h2⟩
/-- a module's name that holds a plain thing -/
inductive Scal : D → V → Prop
  | non : Scal .non .non
  | bl (b : Bool) : Scal (.bl b) (.bl b)
  | int (i : Int) : Scal (.int i) (.int i)
  | str (x : List Nat) : Scal (.str x) (.str (tx x))
theorem se_glob {x : Str} {d : D} {v : V} {u : Value} (hg : Gl X x) (hm : X.mg x = some u) (r : RelV v u) (s : Scal d v) (hd : (x == ("__debug__" : Str)) = false) : SE X E (.Name x pos) (fun _ st => .ok d st) :=
  PE.imp (pe_glob hg hm r hd) fun σ H Q ⟨ι, env, st, eR, S, go⟩ => Go.val go S (by cases s; exact .non; exact .bl _; exact .int _; exact .str _)

theorem se_op {op : Operator} {r : R2} {g : D → D → Sto → Res D} (ho : OpR X (binaryOp op) r) (t : Tel2 X.K g r) (ha : SE X E a fa) (hb : SE X E b fb) : SE X E (.BinOp a op b pos) (fun env st => (fa env st).bind fun x st => (fb env st).bind fun y st => g x y st) :=
  PE.imp (pe_op ho ha hb) fun σ H Q h => tel_op t h
theorem se_neg (ha : SE X E a fa) : SE X E (.UnaryOp .USub a pos) (fun env st => (fa env st).bind fun x st => match x with
    | .int i => .ok (.int (-i)) st
    | _ => .stuck) :=
  PE.imp (pe_un un_neg ha) fun σ H Q ⟨ι, env, st, eR, S, go⟩ => ⟨ι, env, st, eR, S, go.bind fun ι1 H1 d v st1 x1 S1 r1 go1 => by
    cases r1 <;> first | exact (show False from go1).elim | exact ⟨_, rfl, Go.val go1 S1 (.int _)⟩⟩
theorem se_cmp {op : CmpOp} {r : R2} {g : D → D → Sto → Res D} (ho : OpR X (compareOp op) r) (t : Tel2 X.K g r) (hm : behindInMarks op b = false) (ha : SE X E a fa) (hb : SE X E b fb) : SE X E (.Compare a [op] [b] pos) (fun env st => (fa env st).bind fun x st => (fb env st).bind fun y st => g x y st) :=
  PE.imp (pe_cmpR ho ha hb hm) fun σ H Q h => tel_op t h
/-- a comparison gives a truth value -/
def Bl2 (g : D → D → Sto → Res D) : Prop := ∀ x y st, (∃ c st', g x y st = .ok (.bl c) st') ∨ g x y st = .stuck
theorem bl2_cmp (o : CmpK) : Bl2 (cmp2 o) := fun x y st => by
  unfold cmp2
  split
  · rename_i c _; exact .inl ⟨c, st, rfl⟩
  · exact .inr rfl
theorem go_bl {K : PySem.W.Frag} {E : XW} {ι : List Addr} {H : Hp} {Q : Bool → Hp → Prop} {r : Res D} (hb : ∀ d st, r = .ok d st → ∃ c, d = .bl c) (h : Go K E RB ι H Q (r.bind truthy')) : Go K E (RD K) ι H (fun x H' => ∃ k, x = .bl k ∧ Q k H') r := by
  cases r with
  | ok d st =>
    obtain ⟨c, rfl⟩ := hb d st rfl
    intro ι1 H1 v x1 S1 r1
    cases r1
    exact ⟨c, rfl, Go.bool (Go.mono (r := .ok c st) x1 h) S1⟩
  | exc n st => exact h
  | stuck => exact h
theorem st_cmp {op : CmpOp} {r : R2} {g : D → D → Sto → Res D} (ho : OpR X (compareOp op) r) (t : Tel2 X.K g r) (bl : Bl2 g) (hm : behindInMarks op b = false) (ha : SE X E a fa) (hb : SE X E b fb) :
    ST X E (.Compare a [op] [b] pos) (fun env st => (fa env st).bind fun x st => (fb env st).bind fun y st => g x y st) :=
  PT.imp (pt_cmpR ho ha hb hm) fun σ H Q ⟨ι, env, st, eR, S, go⟩ => by
    refine tel_op t ⟨ι, env, st, eR, S, go_bl (fun d st' h => ?_) go⟩
    cases h1 : fa env st with
    | ok x st1 =>
      simp only [h1, Res.bind_ok] at h
      cases h2 : fb env st1 with
      | ok y st2 =>
        simp only [h2, Res.bind_ok] at h
        rcases bl x y st2 with ⟨c, st3, q⟩ | q
        · rw [q] at h; cases h; exact ⟨c, rfl⟩
        · rw [q] at h; cases h
      | exc n st2 => simp only [h2, Res.bind_exc] at h; cases h
      | stuck => simp only [h2, Res.bind_stuck] at h; cases h
    | exc n st1 => simp only [h1, Res.bind_exc] at h; cases h
    | stuck => simp only [h1, Res.bind_stuck] at h; cases h
/-- chains -/
theorem tel_chain {K : PySem.W.Frag} {o p : CmpK} {r r' : R2} {E : L2.St → XW} {σ : L2.St} {H : Hp} {Q : VK} (t : Tel2 K (cmp2 o) r) (t' : Tel2 K (cmp2 p) r')
    (h : sR K (RD K) E (fun env st => (fa env st).bind fun x st => (fb env st).bind fun y st => match cmpB o x y st with
    | some true => (fc env st).bind fun z st => cmp2 p y z st
    | some false => .ok (.bl false) st
    | none => .stuck) σ H Q) : tChain r r' (sR K (RD K) E fa) (sR K (RD K) E fb) (sR K (RD K) E fc) σ H Q := by
  obtain ⟨ι, env, st, eR, sS, go⟩ := h
  refine ⟨ι, env, st, eR, sS, go.bind fun ι1 H1 x v st1 x1 S1 r1 go1 => ?_⟩
  refine ⟨ι1, env, st1, eR.mono x1, S1, go1.bind fun ι2 H2 y u st2 x2 S2 r2 go2 => ?_⟩
  cases hc : cmpB o x y st2 with
  | none => rw [hc] at go2; exact (show False from go2).elim
  | some k =>
    rw [hc] at go2
    refine t (fun _ _ _ _ => False) ι2 H2 st2 x y v u _ S2 (r1.mono x2) r2 ?_
    unfold cmp2
    rw [hc]
    intro ι3 H3 w x3 S3 r3
    cases r3
    refine ⟨k, rfl, ?_⟩
    cases k with
    | false =>
      rw [if_neg Bool.false_ne_true]
      exact Go.val (Go.mono x3 go2) S3 (.bl false)
    | true =>
      rw [if_pos rfl]
      refine ⟨ι3, env, st2, ((eR.mono x1).mono x2).mono x3, S3, (Go.mono x3 go2).bind fun ι4 H4 z w' st4 x4 S4 r4 go4 => ?_⟩
      exact t' _ ι4 H4 st4 y z u w' Q S4 ((r2.mono x3).mono x4) r4 go4
theorem lastMarks2 {op op' : CmpOp} (h : behindInMarks op' c = false) : lastMarks [op, op'] [b, c] = false := h
theorem se_chain {op op' : CmpOp} {o p : CmpK} {r r' : R2} (ho : OpR X (compareOp op) r) (ho' : OpR X (compareOp op') r') (t : Tel2 X.K (cmp2 o) r) (t' : Tel2 X.K (cmp2 p) r') (hm : behindInMarks op' c = false) (ha : SE X E a fa) (hb : SE X E b fb) (hc : SE X E c fc) :
    SE X E (.Compare a [op, op'] [b, c] pos) (fun env st => (fa env st).bind fun x st => (fb env st).bind fun y st => match cmpB o x y st with
    | some true => (fc env st).bind fun z st => cmp2 p y z st
    | some false => .ok (.bl false) st
    | none => .stuck) := PE.imp (pe_chain ho ho' ha hb hc (lastMarks2 hm)) fun σ H Q h => tel_chain t t' h
theorem st_chain {op op' : CmpOp} {o p : CmpK} {r r' : R2} (ho : OpR X (compareOp op) r) (ho' : OpR X (compareOp op') r') (t : Tel2 X.K (cmp2 o) r) (t' : Tel2 X.K (cmp2 p) r') (hm : behindInMarks op' c = false) (ha : SE X E a fa) (hb : SE X E b fb) (hc : SE X E c fc) :
    ST X E (.Compare a [op, op'] [b, c] pos) (fun env st => (fa env st).bind fun x st => (fb env st).bind fun y st => match cmpB o x y st with
    | some true => (fc env st).bind fun z st => cmp2 p y z st
    | some false => .ok (.bl false) st
    | none => .stuck) := PT.imp (pt_chain ho ho' ha hb hc (lastMarks2 hm)) fun σ H Q ⟨ι, env, st, eR, S, go⟩ => by
    refine tel_chain t t' ⟨ι, env, st, eR, S, go_bl (fun d st' h => ?_) go⟩
    cases h1 : fa env st with
    | ok x st1 =>
      simp only [h1, Res.bind_ok] at h
      cases h2 : fb env st1 with
      | ok y st2 =>
        simp only [h2, Res.bind_ok] at h
        split at h
        · cases h3 : fc env st2 with
          | ok z st3 =>
            simp only [h3, Res.bind_ok] at h
            rcases bl2_cmp p y z st3 with ⟨c, st4, q⟩ | q
            · rw [q] at h; cases h; exact ⟨c, rfl⟩
            · rw [q] at h; cases h
          | exc n st2 => simp only [h3, Res.bind_exc] at h; cases h
          | stuck => simp only [h3, Res.bind_stuck] at h; cases h
        · cases h; exact ⟨false, rfl⟩
        · cases h
      | exc n st2 => simp only [h2, Res.bind_exc] at h; cases h
      | stuck => simp only [h2, Res.bind_stuck] at h; cases h
    | exc n st1 => simp only [h1, Res.bind_exc] at h; cases h
    | stuck => simp only [h1, Res.bind_stuck] at h; cases h
/-- the value of a term by its truth -/
theorem go_truth {K : PySem.W.Frag} {E : XW} {ι : List Addr} {H : Hp} {Q : Bool → Hp → Prop} {r : Res D} (h : Go K E RB ι H Q (r.bind truthy')) : Go K E (RD K) ι H (fun x H' => ∃ k, TruV K x H' k ∧ Q k H') r :=
  Go.bind h fun ι1 H1 d v st1 x1 S1 r1 go1 => by
    obtain ⟨c, e, q⟩ := truthy_some go1 S1
    exact ⟨c, truth_rel S1 r1 e, q⟩
theorem st_val (ha : SE X E a fa) (he : ∀ whole, isTrue a X.env whole = (do let v ← whole; standAt a.pos; holding [v] (truthy v))) : ST X E a fa :=
  PT.imp (pt_truth ha he) fun σ H Q ⟨ι, env, st, eR, S, go⟩ => ⟨ι, env, st, eR, S, go_truth go⟩

/-! ### and, or, not -/
def fAnd (fa fb : Env → Sto → Res D) : Env → Sto → Res D := fun env st => (fa env st).bind fun x st => match x.truth st with
    | some true => fb env st
    | some false => .ok x st
    | none => .stuck
def fOr (fa fb : Env → Sto → Res D) : Env → Sto → Res D := fun env st => (fa env st).bind fun x st => match x.truth st with
    | some true => .ok x st
    | some false => fb env st
    | none => .stuck
theorem se_and {rest : List Expr} (ha : SE X E a fa) (hb : SE X E (.BoolOp .And (b :: rest) pos) fb) : SE X E (.BoolOp .And (a :: b :: rest) pos) (fAnd fa fb) :=
  PE.imp (pe_andT ha hb) fun σ H Q ⟨ι, env, st, eR, S, go⟩ => ⟨ι, env, st, eR, S, go.bind fun ι1 H1 d v st1 x1 S1 r1 go1 => by
    cases hc : d.truth st1 with
    | none => rw [hc] at go1; exact (show False from go1).elim
    | some k =>
      rw [hc] at go1
      refine ⟨k, truth_rel S1 r1 hc, ?_⟩
      cases k with
      | false => rw [if_neg Bool.false_ne_true]; exact Go.val go1 S1 r1
      | true => rw [if_pos rfl]; exact ⟨ι1, env, st1, eR.mono x1, S1, go1⟩⟩
theorem se_or {rest : List Expr} (ha : SE X E a fa) (hb : SE X E (.BoolOp .Or (b :: rest) pos) fb) : SE X E (.BoolOp .Or (a :: b :: rest) pos) (fOr fa fb) :=
  PE.imp (pe_orT ha hb) fun σ H Q ⟨ι, env, st, eR, S, go⟩ => ⟨ι, env, st, eR, S, go.bind fun ι1 H1 d v st1 x1 S1 r1 go1 => by
    cases hc : d.truth st1 with
    | none => rw [hc] at go1; exact (show False from go1).elim
    | some k =>
      rw [hc] at go1
      refine ⟨k, truth_rel S1 r1 hc, ?_⟩
      cases k with
      | true => rw [if_pos rfl]; exact Go.val go1 S1 r1
      | false => rw [if_neg Bool.false_ne_true]; exact ⟨ι1, env, st1, eR.mono x1, S1, go1⟩⟩
theorem se_not (ha : SE X E a fa) : SE X E (.UnaryOp .Not a pos) (fun env st => (fa env st).bind fun x st => match x.truth st with
    | some c => .ok (.bl (!c)) st
    | none => .stuck) :=
  PE.imp (pe_notT ha) fun σ H Q ⟨ι, env, st, eR, S, go⟩ => ⟨ι, env, st, eR, S, go.bind fun ι1 H1 d v st1 x1 S1 r1 go1 => by
    cases hc : d.truth st1 with
    | none => rw [hc] at go1; exact (show False from go1).elim
    | some k =>
      rw [hc] at go1
      exact ⟨k, truth_rel S1 r1 hc, Go.val go1 S1 (.bl _)⟩⟩
theorem sw_and {rest : List Expr} (ha : ST X E a fa) (hb : SW X E (.BoolOp .And (b :: rest) pos) fb) : SW X E (.BoolOp .And (a :: b :: rest) pos) (fAnd fa fb) :=
  PW.imp (pw_and ha hb) fun σ H Q ⟨ι, env, st, eR, S, go⟩ => ⟨ι, env, st, eR, S, by
    unfold fT fAnd at go
    unfold fT
    cases h1 : fa env st with
    | ok x st1 =>
      simp only [h1, Res.bind_ok] at go ⊢
      unfold truthy'
      cases hc : x.truth st1 with
      | none => simp only [hc, Res.bind_stuck] at go; exact (show False from go).elim
      | some k =>
        intro ι1 H1 b x1 S1 e
        cases (show k = b from e)
        cases k with
        | true =>
          simp only [hc] at go
          exact ⟨ι1, env, st1, eR.mono x1, S1, Go.mono x1 go⟩
        | false =>
          simp only [hc, Res.bind_ok] at go
          obtain ⟨c', e', q⟩ := truthy_some (Go.mono x1 go) S1
          rw [hc] at e'; cases e'
          exact q
    | exc n st1 => simp only [h1, Res.bind_exc] at go ⊢; exact go
    | stuck => simp only [h1, Res.bind_stuck] at go; exact go⟩
theorem sw_or {rest : List Expr} (ha : ST X E a fa) (hb : SW X E (.BoolOp .Or (b :: rest) pos) fb) : SW X E (.BoolOp .Or (a :: b :: rest) pos) (fOr fa fb) :=
  PW.imp (pw_or ha hb) fun σ H Q ⟨ι, env, st, eR, S, go⟩ => ⟨ι, env, st, eR, S, by
    unfold fT fOr at go
    unfold fT
    cases h1 : fa env st with
    | ok x st1 =>
      simp only [h1, Res.bind_ok] at go ⊢
      unfold truthy'
      cases hc : x.truth st1 with
      | none => simp only [hc, Res.bind_stuck] at go; exact (show False from go).elim
      | some k =>
        intro ι1 H1 b x1 S1 e
        cases (show k = b from e)
        cases k with
        | false =>
          simp only [hc] at go
          exact ⟨ι1, env, st1, eR.mono x1, S1, Go.mono x1 go⟩
        | true =>
          simp only [hc, Res.bind_ok] at go
          obtain ⟨c', e', q⟩ := truthy_some (Go.mono x1 go) S1
          rw [hc] at e'; cases e'
          exact q
    | exc n st1 => simp only [h1, Res.bind_exc] at go ⊢; exact go
    | stuck => simp only [h1, Res.bind_stuck] at go; exact go⟩
theorem sw_one_and (ha : ST X E a fa) : SW X E (.BoolOp .And [a] pos) fa := pw_and1 ha
theorem sw_one_or (ha : ST X E a fa) : SW X E (.BoolOp .Or [a] pos) fa := pw_or1 ha
theorem st_not (ha : ST X E a fa) : ST X E (.UnaryOp .Not a pos) (fun env st => (fa env st).bind fun x st => match x.truth st with
    | some c => .ok (.bl (!c)) st
    | none => .stuck) :=
  PT.imp (pt_not ha) fun σ H Q ⟨ι, env, st, eR, S, go⟩ => ⟨ι, env, st, eR, S, by
    unfold fT at go ⊢
    cases h1 : fa env st with
    | ok x st1 =>
      simp only [h1, Res.bind_ok] at go ⊢
      unfold truthy'
      cases hc : x.truth st1 with
      | none => simp only [hc, Res.bind_stuck] at go; exact (show False from go).elim
      | some k =>
        simp only [hc, Res.bind_ok] at go
        intro ι1 H1 b x1 S1 e
        cases (show k = b from e)
        obtain ⟨c', e', q⟩ := truthy_some (Go.mono x1 go) S1
        cases e'
        exact q
    | exc n st1 => simp only [h1, Res.bind_exc] at go ⊢; exact go
    | stuck => simp only [h1, Res.bind_stuck] at go; exact go⟩

/-! ### a if c else b -/
def fIte (fc fa fb : Env → Sto → Res D) : Env → Sto → Res D := fun env st => (fc env st).bind fun x st => match x.truth st with
    | some true => fa env st
    | some false => fb env st
    | none => .stuck
theorem go_ite {β : Type} {K : PySem.W.Frag} {R : List Addr → Hp → D → β → Prop} {E : L2.St → XW} {ι : List Addr} {H : Hp} {σ : L2.St} {env : Env} {st : Sto} {Q : β → Hp → Prop} (eR : EnvR K ι H env σ) (go : Go K (E σ) R ι H Q (fIte fc fa fb env st)) :
    Go K (E σ) RB ι H (fun k H1 => if k = true then sR K R E fa σ H1 Q else sR K R E fb σ H1 Q) (fT fc env st) := by
  unfold fIte at go
  unfold fT
  cases h1 : fc env st with
  | ok x st1 =>
    simp only [h1, Res.bind_ok] at go ⊢
    unfold truthy'
    cases hc : x.truth st1 with
    | none => simp only [hc] at go; exact (show False from go).elim
    | some k =>
      intro ι1 H1 b x1 S1 e
      cases (show k = b from e)
      cases k with
      | true => rw [if_pos rfl]; simp only [hc] at go; exact ⟨ι1, env, st1, eR.mono x1, S1, Go.mono x1 go⟩
      | false => rw [if_neg Bool.false_ne_true]; simp only [hc] at go; exact ⟨ι1, env, st1, eR.mono x1, S1, Go.mono x1 go⟩
  | exc n st1 => simp only [h1, Res.bind_exc] at go ⊢; exact go
  | stuck => simp only [h1, Res.bind_stuck] at go; exact go
theorem se_ite (hc : ST X E c fc) (ha : SE X E a fa) (hb : SE X E b fb) : SE X E (.IfExp c a b pos) (fIte fc fa fb) :=
  PE.imp (pe_ifExp hc ha hb) fun σ H Q ⟨ι, env, st, eR, S, go⟩ => ⟨ι, env, st, eR, S, go_ite eR go⟩
end
end PyI

/-! II_: displays, subscripts, calls, methods. -/
namespace PyI
open PySem PySem.Spec PyProof.Rows L2

section
variable {X : Cx} {E : L2.St → XW} {a b c e : Expr} {es : List Expr} {fa fb fc f : Env → Sto → Res D} {fs : Env → Sto → Res (List D)} {pos : Pos}
def fCons (f : Env → Sto → Res D) (fs : Env → Sto → Res (List D)) : Env → Sto → Res (List D) := fun env st => (f env st).bind fun x st => (fs env st).bind fun xs st => .ok (x :: xs) st
theorem sa_nil : SA X E [] (fun _ st => .ok [] st) := PA.imp pa_nil fun σ H Q ⟨ι, env, st, eR, S, go⟩ => go ι H [] (Ext.refl ι H) S .nil
theorem sa_cons (ha : SE X E e f) (hr : SA X E es fs) (hs : starEach (e :: es) X.env = (false, eval e X.env) :: starEach es X.env) : SA X E (e :: es) (fCons f fs) :=
  PA.imp (pa_cons ha hr hs) fun σ H Q ⟨ι, env, st, eR, S, go⟩ => ⟨ι, env, st, eR, S, go.bind fun ι1 H1 d v st1 x1 S1 r1 go1 =>
    ⟨ι1, env, st1, eR.mono x1, S1, go1.bind fun ι2 H2 ds vs st2 x2 S2 r2 go2 => go2 ι2 H2 _ (Ext.refl _ _) S2 (.cons (r1.mono x2) r2)⟩⟩
theorem se_tup {k : Nat} (h : SA X E es fs) : SE X E (.Tuple es k pos) (fun env st => (fs env st).bind fun xs st => guard' (decide (xs.length ≤ 16777216)) (.ok (.tup xs) st)) :=
  PE.imp (pe_tup h) fun σ H Q ⟨ι, env, st, eR, S, go⟩ => ⟨ι, env, st, eR, S, go.bind fun ι1 H1 ds vs st1 x1 S1 r1 go1 => by
    obtain ⟨c, go1⟩ := Go.guard go1
    rw [decide_eq_true_eq] at c
    exact ⟨by rw [← r1.length, line_eq]; exact c, Go.tup go1 S1 r1⟩⟩
theorem se_lst (h : SA X E es fs) : SE X E (.List es pos) (fun env st => (fs env st).bind fun xs st => guard' (decide (xs.length ≤ 16777216)) (newL xs st)) :=
  PE.imp (pe_lst h) fun σ H Q ⟨ι, env, st, eR, S, go⟩ => ⟨ι, env, st, eR, S, go.bind fun ι1 H1 ds vs st1 x1 S1 r1 go1 => by
    obtain ⟨c, go1⟩ := Go.guard go1
    rw [decide_eq_true_eq] at c
    exact ⟨by rw [← r1.length, line_eq]; exact c, Go.newL go1 S1 r1⟩⟩
theorem se_dct0 : SE X E (.Dict [] [] pos) (fun _ st => .ok (.ref st.length) (st ++ [.dk []])) :=
  PE.imp pe_dnewK fun σ H Q ⟨ι, env, st, eR, S, go⟩ => Go.newD go S .nil
theorem se_ix (hu : X.A.units + 1 < cLine) (ha : SE X E a fa) (hb : SE X E b fb) (hs : PlainIx b) : SE X E (.Subscript a b pos) (fun env st => (fa env st).bind fun x st => (fb env st).bind fun y st => index2 x y st) :=
  PE.imp (pe_ix (IxR.or ix_seq (ix_dict hu)) ha hb hs) fun σ H Q h => tel_op tel_index h

/-! ### parts of a slice -/
abbrev RO : List Addr → Hp → Option Int → Option Int → Prop := fun _ _ a b => a = b
def fP (f : Env → Sto → Res D) : Env → Sto → Res (Option Int) := fun env st => (f env st).bind fun x st => match x with
    | .int i => .ok (some i) st
    | _ => .stuck
abbrev SO (X : Cx) (E : L2.St → XW) (e : Option Expr) (f : Env → Sto → Res (Option Int)) : Prop := PO X e (sR X.K RO E f)
theorem PO.imp {X : Cx} {e : Option Expr} {t t' : TO} (h : PO X e t) (i : ∀ σ H Q, t' σ H Q → t σ H Q) : PO X e t' := ⟨fun pins s σ H Q I q => h.run pins s σ H Q I (i σ H Q q)⟩
theorem so_none : SO X E none (fun _ st => .ok none st) := PO.imp po_none fun σ H Q ⟨ι, env, st, eR, S, go⟩ => go ι H none (Ext.refl ι H) S rfl
theorem so_some (ha : SE X E a fa) : SO X E (some a) (fP fa) := PO.imp (po_some ha) fun σ H Q ⟨ι, env, st, eR, S, go⟩ => ⟨ι, env, st, eR, S, go.bind fun ι1 H1 d v st1 x1 S1 r1 go1 => by
  cases r1 <;> first | exact (show False from go1).elim | exact ⟨_, rfl, go1 ι1 H1 _ (Ext.refl _ _) S1 rfl⟩⟩
theorem sl_all : SlR X (rSlB X.K) := SlR.or (SlR.or sl_tupA sl_list) sl_str
theorem se_sl {lo hi : Option Expr} {flo fhi : Env → Sto → Res (Option Int)} {p2 : Pos} (ha : SE X E a fa) (hl : SO X E lo flo) (hh : SO X E hi fhi) :
    SE X E (.Subscript a (.Slice lo hi none p2) pos) (fun env st => (fa env st).bind fun x st => (flo env st).bind fun l st => (fhi env st).bind fun h st => slice1 l h x st) :=
  PE.imp (pe_slice sl_all ha hl hh) fun σ H Q ⟨ι, env, st, eR, S, go⟩ => ⟨ι, env, st, eR, S, go.bind fun ι1 H1 d v st1 x1 S1 r1 go1 =>
    ⟨ι1, env, st1, eR.mono x1, S1, go1.bind fun ι2 H2 l l' st2 x2 S2 e2 go2 => ⟨ι2, env, st2, (eR.mono x1).mono x2, S2, go2.bind fun ι3 H3 h h' st3 x3 S3 e3 go3 => by
      cases (show l = l' from e2)
      cases (show h = h' from e3)
      exact tel_slice S3 ((r1.mono x2).mono x3) go3⟩⟩⟩

/-! ### calls of the text's own defs -/
/-- what an own def promises: the evaluator's call -/
def spF (K : PySem.W.Frag) (EX : XK → XW) (np : Nat) (g : List D → Sto → Res D) : Sp := fun vs H Q Ew =>
  vs.length = np ∧ ∃ ι ds st, StR K ι H st ∧ RelDs K ι H ds vs ∧ Go K (EX Ew) (RD K) ι H Q (g ds st)
def fCall (g : List D → Sto → Res D) (fs : Env → Sto → Res (List D)) : Env → Sto → Res D := fun env st => (fs env st).bind g
/-- g is only asked where it has as many arguments as it takes -/
def Arity (np : Nat) (g : List D → Sto → Res D) : Prop := ∀ ds st, ds.length ≠ np → g ds st = .stuck
theorem tel_call {K : PySem.W.Frag} {EX : XK → XW} {np : Nat} {g : List D → Sto → Res D} {W : L2.St → XK} {σ : L2.St} {H : Hp} {Q : VK} (ar : Arity np g) (h : sR K (RD K) (fun σ => EX (W σ)) (fCall g fs) σ H Q) :
    tCallS (spF K EX np g) W (sR K (RDs K) (fun σ => EX (W σ)) fs) σ H Q := by
  obtain ⟨ι, env, st, eR, S, go⟩ := h
  refine ⟨ι, env, st, eR, S, go.bind fun ι1 H1 ds vs st1 x1 S1 r1 go1 => ?_⟩
  by_cases hl : ds.length = np
  · exact ⟨by rw [← r1.length]; exact hl, ι1, ds, st1, S1, r1, go1⟩
  · rw [ar ds st1 hl] at go1
    exact (show False from go1).elim
end
end PyI

/-! IJ_: built-in functions. -/
namespace PyI
open PySem PySem.Spec PyProof.Rows L2

/-- the layer's r asks no more than what the evaluator's f tells -/
def TelC (K : PySem.W.Frag) (f : List D → Sto → Res D) (r : List V → Hp → VK → Prop) : Prop :=
  ∀ (E : XW) (ι : List Addr) (H : Hp) (st : Sto) (ds : List D) (vs : List V) (Q : VK), StR K ι H st → RelDs K ι H ds vs → Go K E (RD K) ι H Q (f ds st) → r vs H Q
section
variable {X : Cx} {E : L2.St → XW} {e : Expr} {es : List Expr} {fs : Env → Sto → Res (List D)} {pos p : Pos} {x : Str} {id T : String} {r : List V → Hp → VK → Prop} {f : List D → Sto → Res D}
theorem tel_args {K : PySem.W.Frag} {σ : L2.St} {H : Hp} {Q : VK} (t : TelC K f r) (h : sR K (RD K) E (fun env st => (fs env st).bind f) σ H Q) : tCB r (sR K (RDs K) E fs) σ H Q := by
  obtain ⟨ι, env, st, eR, S, go⟩ := h
  exact ⟨ι, env, st, eR, S, go.bind fun ι1 H1 ds vs st1 x1 S1 r1 go1 => t _ ι1 H1 st1 ds vs Q S1 r1 go1⟩
theorem se_blt (hc : CallR X (.builtin id) r) (t : TelC X.K f r) (hg : Gl X x) (hm : X.mg x = none) (hv : bootBuiltins x = some (.builtin id)) (ha : SA X E (e :: es) fs) (hn : x ≠ "__name__") (hdb : (x == ("__debug__" : Str)) = false)
    (h1 : starEach (e :: es) X.env = (false, eval e X.env) :: starEach es X.env) (h2 : (backTo pos (starEach es X.env)).any (·.1) = false) : SE X E (.Call (.Name x p) (e :: es) [] pos) (fun env st => (fs env st).bind f) :=
  PE.imp (pe_callB hc hg hm hv ha hn hdb h1 h2) fun σ H Q h => tel_args t h
theorem se_bltT (hc : CallR X (.type T) r) (t : TelC X.K f r) (hg : Gl X x) (hm : X.mg x = none) (hv : bootBuiltins x = some (.type T)) (ha : SA X E (e :: es) fs) (hn : x ≠ "__name__") (hdb : (x == ("__debug__" : Str)) = false)
    (h1 : starEach (e :: es) X.env = (false, eval e X.env) :: starEach es X.env) (h2 : (backTo pos (starEach es X.env)).any (·.1) = false) : SE X E (.Call (.Name x p) (e :: es) [] pos) (fun env st => (fs env st).bind f) :=
  PE.imp (pe_callTy hc hg hm hv ha hn hdb h1 h2) fun σ H Q h => tel_args t h
end

section
variable {K : PySem.W.Frag} {ι : List Addr} {H : Hp} {st : Sto}
theorem ints_rel : ∀ {ds : List D} {vs : List V} {ns : List Int}, RelDs K ι H ds vs → intsOf ds = some ns → vs = ns.map V.int
  | _, _, _, .nil, h => by cases h; rfl
  | _, _, _, .cons r q, h => by
    cases r <;> first | (cases h; done) | skip
    obtain ⟨ms, e, rfl⟩ := map_some h
    rw [ints_rel q e]; rfl
theorem bls_rel : ∀ {ds : List D} {vs : List V} {ns : List Bool}, RelDs K ι H ds vs → blsOf ds = some ns → vs = ns.map V.bl
  | _, _, _, .nil, h => by cases h; rfl
  | _, _, _, .cons r q, h => by
    cases r <;> first | (cases h; done) | skip
    obtain ⟨ms, e, rfl⟩ := map_some h
    rw [bls_rel q e]; rfl
theorem strs_rel : ∀ {ds : List D} {vs : List V} {ns : List (List Nat)}, RelDs K ι H ds vs → strsOf ds = some ns → vs = (ns.map tx).map V.str
  | _, _, _, .nil, h => by cases h; rfl
  | _, _, _, .cons r q, h => by
    cases r <;> first | (cases h; done) | skip
    obtain ⟨ms, e, rfl⟩ := map_some h
    rw [strs_rel q e]; rfl
/-- a list or tuple, to be read -/
theorem seq_rel {d : D} {v : V} {xs : List D} (S : StR K ι H st) (r : RelD K ι H d v) (h : seqOf st d = some xs) : ∃ a vs, v = .ref a ∧ (SqL K H a vs ∨ SqT K H a vs) ∧ RelDs K ι H xs vs := by
  cases r <;> first | (cases h; done) | skip
  · rename_i a vs ds ha r; cases h; exact ⟨a, vs, rfl, .inr (.of ha), r⟩
  · rename_i a vs ds ha r; cases h; exact ⟨a, vs, rfl, .inl ha.seq, r⟩
  · rename_i n a ha
    obtain ⟨b, vs, hb, e, r⟩ := lst_of S (listAt_some h)
    rw [ha] at hb; cases hb
    exact ⟨a, vs, rfl, .inl (.of e), r⟩
theorem rels1 {d : D} {vs : List V} (r : RelDs K ι H [d] vs) : ∃ v, vs = [v] ∧ RelD K ι H d v := by
  cases r with
  | cons h q => cases q; exact ⟨_, rfl, h⟩
theorem rels2 {d e : D} {vs : List V} (r : RelDs K ι H [d, e] vs) : ∃ v w, vs = [v, w] ∧ RelD K ι H d v ∧ RelD K ι H e w := by
  cases r with
  | cons h q => cases q with
    | cons h2 q => cases q; exact ⟨_, _, rfl, h, h2⟩
end

section
variable {K : PySem.W.Frag}
def rLenA (K : PySem.W.Frag) : List V → Hp → VK → Prop := fun xs H Q => (∃ p ys, xs = [.ref p] ∧ (SqL K H p ys ∨ SqT K H p ys) ∧ Q (.int ys.length) H) ∨ (∃ z, xs = [.str z] ∧ z.length ≤ sizeLine ∧ Q (.int z.length) H) ∨
  (∃ a kvs, xs = [V.ref a] ∧ H a = some (.dK kvs) ∧ Q (.int kvs.length) H) ∨ rLenT xs H Q
theorem cr_len {X : Cx} : CallR X (.builtin "len") (rLenA X.K) := CallR.or call_len_seq (CallR.or call_len_str (CallR.or call_lenD call_len_dT))
theorem tel_len : TelC K fLen (rLenA K) := by
  intro E ι H st ds vs Q S r go
  unfold fLen at go
  split at go
  · rename_i x
    obtain ⟨v, rfl, q1⟩ := rels1 r
    cases q1
    obtain ⟨c, go⟩ := Go.guard go
    rw [decide_eq_true_eq] at c
    refine .inr (.inl ⟨_, rfl, by rw [tx_length, line_eq]; exact c, ?_⟩)
    rw [tx_length]
    exact Go.val go S (.int _)
  · rename_i d _
    obtain ⟨v, rfl, q1⟩ := rels1 r
    split at go
    · rename_i xs e
      obtain ⟨a, ws, rfl, h, q⟩ := seq_rel S q1 e
      refine .inl ⟨a, ws, rfl, h, ?_⟩
      rw [← q.length]
      exact Go.val go S (.int _)
    · split at go
      · rename_i n _
        cases q1 with
        | @ref n a ha =>
          split at go
          · rename_i kvs e
            obtain ⟨b, ws, hb, e', q⟩ := dk_ofS S e
            rw [ha] at hb; cases hb
            refine .inr (.inr (.inl ⟨a, ws, rfl, e', ?_⟩))
            rw [← q.length]
            exact Go.val go S (.int _)
          · rename_i kvs e
            obtain ⟨b, ws, hb, e', q⟩ := dt_ofS S e
            rw [ha] at hb; cases hb
            refine .inr (.inr (.inr ⟨a, ws, rfl, e', ?_⟩))
            rw [← q.length]
            exact Go.val go S (.int _)
          · exact (show False from go).elim
      · exact (show False from go).elim
  · exact (show False from go).elim
theorem tel_abs : TelC K fAbs (fun xs H Q => ∃ i, xs = [.int i] ∧ Q (.int (if i < 0 then -i else i)) H) := by
  intro E ι H st ds vs Q S r go
  unfold fAbs at go
  split at go
  · obtain ⟨v, rfl, q1⟩ := rels1 r
    cases q1
    exact ⟨_, rfl, Go.val go S (.int _)⟩
  · exact (show False from go).elim
theorem tel_int : TelC K fInt (fun xs H Q => (∃ i, xs = [.int i] ∧ Q (.int i) H) ∨ ∃ k, xs = [.bl k] ∧ Q (.int (if k then 1 else 0)) H) := by
  intro E ι H st ds vs Q S r go
  unfold fInt at go
  split at go
  · obtain ⟨v, rfl, q1⟩ := rels1 r
    cases q1
    exact .inl ⟨_, rfl, Go.val go S (.int _)⟩
  · obtain ⟨v, rfl, q1⟩ := rels1 r
    cases q1
    exact .inr ⟨_, rfl, Go.val go S (.int _)⟩
  · exact (show False from go).elim
theorem tel_list : TelC K fList (fun xs H Q => ∃ p ys, xs = [.ref p] ∧ (SqL K H p ys ∨ SqT K H p ys) ∧ ∀ l, H l = none → Q (.ref l) (upd H l (.lst ys))) := by
  intro E ι H st ds vs Q S r go
  unfold fList at go
  split at go
  · obtain ⟨v, rfl, q1⟩ := rels1 r
    split at go
    · rename_i xs e
      obtain ⟨a, ws, rfl, h, q⟩ := seq_rel S q1 e
      exact ⟨a, ws, rfl, h, Go.newL go S q⟩
    · exact (show False from go).elim
  · exact (show False from go).elim
theorem tel_sum : TelC K fSum (rSum K) := by
  intro E ι H st ds vs Q S r go
  unfold fSum at go
  split at go
  · obtain ⟨v, rfl, q1⟩ := rels1 r
    split at go
    · rename_i l e
      obtain ⟨xs, e1, e2⟩ := bind_some e
      cases q1 with
      | @ref n a ha =>
        obtain ⟨b, ws, hb, e', q⟩ := lst_of S (listAt_some e1)
        rw [ha] at hb; cases hb
        have hw := ints_rel q e2
        subst hw
        exact ⟨a, l, rfl, .of e', Go.val go S (.int _)⟩
    · exact (show False from go).elim
  · exact (show False from go).elim
theorem tel_all : TelC K fAll (rAll K) := by
  intro E ι H st ds vs Q S r go
  unfold fAll at go
  split at go
  · obtain ⟨v, rfl, q1⟩ := rels1 r
    split at go
    · rename_i l e
      obtain ⟨xs, e1, e2⟩ := bind_some e
      cases q1 with
      | @ref n a ha =>
        obtain ⟨b, ws, hb, e', q⟩ := lst_of S (listAt_some e1)
        rw [ha] at hb; cases hb
        have hw := bls_rel q e2
        subst hw
        exact ⟨a, l, rfl, .of e', Go.val go S (.bl _)⟩
    · exact (show False from go).elim
  · exact (show False from go).elim
theorem tel_any : TelC K fAny (rAny K) := by
  intro E ι H st ds vs Q S r go
  unfold fAny at go
  split at go
  · obtain ⟨v, rfl, q1⟩ := rels1 r
    split at go
    · rename_i l e
      obtain ⟨xs, e1, e2⟩ := bind_some e
      cases q1 with
      | @ref n a ha =>
        obtain ⟨b, ws, hb, e', q⟩ := lst_of S (listAt_some e1)
        rw [ha] at hb; cases hb
        have hw := bls_rel q e2
        subst hw
        exact ⟨a, l, rfl, .of e', Go.val go S (.bl _)⟩
    · exact (show False from go).elim
  · exact (show False from go).elim

/-! ### the greatest, the least -/
theorem readsAll_ints {h : Heap} : ∀ {ns : List Int} {us : List Value}, Vals (ns.map V.int) us → W.HoldAll h us ns
  | [], _, r => by cases r; exact ⟨[], .nil⟩
  | n :: ns, _, r => by
    cases r with
    | cons r1 r2 =>
      obtain ⟨t, rfl⟩ := r1
      obtain ⟨as, h2⟩ := readsAll_ints (h := h) r2
      exact ⟨_, .cons (show Reads h (.int n t) (W.Datum.toD n) [] from Reads.int n t) h2⟩
theorem holds_int {h : Heap} {v : Value} {n : Int} (x : W.Holds h v n) : ∃ t, v = .int n t := by
  obtain ⟨as, r⟩ := x
  have r' : Reads h v (.int n) as := r
  cases r' with
  | int _ t => exact ⟨t, rfl⟩
def rBest (K : PySem.W.Frag) (g : Int → List Int → Int) : List V → Hp → VK → Prop := fun vs H Q => ∃ (a : Addr) (n : Int) (ns : List Int), vs = [V.ref a] ∧ (SqL K H a ((n :: ns).map V.int) ∨ SqT K H a ((n :: ns).map V.int)) ∧ Q (.int (g n ns)) H
section
variable {X : Cx}
theorem cr_maxA (hc : X.calm = true) (hu : X.A.units + 64 < cLine) : CallR X (.builtin "max") (rBest X.K W.maxOf) := by
  intro pins s σ H vs us Q I r h
  obtain ⟨a, n, ns, rfl, hs, q⟩ := h
  rw [Vals.ref1 r]
  have hd : X.A.units + 1 + W.Datum.depth Int < cLine := by show X.A.units + 1 + 0 < cLine; omega
  have fin : ∀ (i : Nat) (v : Value) (h' : Heap) (tk : Nat), W.Holds h' v (W.maxOf n ns) → (∀ b o, s.heap.get? b = some o → h'.get? b = some o) → EP X pins σ Q v { s with heap := h', toks := tk } := fun i v h' tk x hk => by
    obtain ⟨t, rfl⟩ := holds_int x
    exact ⟨.int _, H, I.kept hk, ⟨t, rfl⟩, q⟩
  rcases hs with hs | hs
  · obtain ⟨its, rv, hl, _⟩ := I.list hs
    exact W.max_list_datum (I.ok.hd hc) hl.isList (by simpa using readsAll_ints rv) hd fun i v h' tk _ x hk => fin i v h' tk x hk
  · obtain ⟨its, rv, hl, _⟩ := I.tuple hs
    exact W.max_tuple_datum (I.ok.hd hc) hl (by simpa using readsAll_ints rv) hd fun i v h' tk _ x hk => fin i v h' tk x hk
theorem cr_minA (hc : X.calm = true) (hu : X.A.units + 64 < cLine) : CallR X (.builtin "min") (rBest X.K W.minOf) := by
  intro pins s σ H vs us Q I r h
  obtain ⟨a, n, ns, rfl, hs, q⟩ := h
  rw [Vals.ref1 r]
  have hd : X.A.units + 1 + W.Datum.depth Int < cLine := by show X.A.units + 1 + 0 < cLine; omega
  have fin : ∀ (i : Nat) (v : Value) (h' : Heap) (tk : Nat), W.Holds h' v (W.minOf n ns) → (∀ b o, s.heap.get? b = some o → h'.get? b = some o) → EP X pins σ Q v { s with heap := h', toks := tk } := fun i v h' tk x hk => by
    obtain ⟨t, rfl⟩ := holds_int x
    exact ⟨.int _, H, I.kept hk, ⟨t, rfl⟩, q⟩
  rcases hs with hs | hs
  · obtain ⟨its, rv, hl, _⟩ := I.list hs
    exact W.min_list_datum (I.ok.hd hc) hl.isList (by simpa using readsAll_ints rv) hd fun i v h' tk _ x hk => fin i v h' tk x hk
  · obtain ⟨its, rv, hl, _⟩ := I.tuple hs
    exact W.min_tuple_datum (I.ok.hd hc) hl (by simpa using readsAll_ints rv) hd fun i v h' tk _ x hk => fin i v h' tk x hk
end
theorem tel_max : TelC K fMax (fun xs H Q => (∃ i j, xs = [.int i, .int j] ∧ Q (.int (if j > i then j else i)) H) ∨ rBest K W.maxOf xs H Q) := by
  intro E ι H st ds vs Q S r go
  unfold fMax at go
  split at go
  · obtain ⟨v, w, rfl, q1, q2⟩ := rels2 r
    cases q1
    cases q2
    exact .inl ⟨_, _, rfl, Go.val go S (.int _)⟩
  · obtain ⟨v, rfl, q1⟩ := rels1 r
    split at go
    · rename_i m e
      obtain ⟨xs, e1, e2⟩ := bind_some e
      obtain ⟨ns, e3, e4⟩ := bind_some e2
      obtain ⟨a, ws, rfl, h, q⟩ := seq_rel S q1 e1
      have hw := ints_rel q e3
      subst hw
      cases ns with
      | nil => cases e4
      | cons n ns =>
        cases e4
        exact .inr ⟨a, n, ns, rfl, h, Go.val go S (.int _)⟩
    · exact (show False from go).elim
  · exact (show False from go).elim
theorem tel_min : TelC K fMin (fun xs H Q => (∃ i j, xs = [.int i, .int j] ∧ Q (.int (if j < i then j else i)) H) ∨ rBest K W.minOf xs H Q) := by
  intro E ι H st ds vs Q S r go
  unfold fMin at go
  split at go
  · obtain ⟨v, w, rfl, q1, q2⟩ := rels2 r
    cases q1
    cases q2
    exact .inl ⟨_, _, rfl, Go.val go S (.int _)⟩
  · obtain ⟨v, rfl, q1⟩ := rels1 r
    split at go
    · rename_i m e
      obtain ⟨xs, e1, e2⟩ := bind_some e
      obtain ⟨ns, e3, e4⟩ := bind_some e2
      obtain ⟨a, ws, rfl, h, q⟩ := seq_rel S q1 e1
      have hw := ints_rel q e3
      subst hw
      cases ns with
      | nil => cases e4
      | cons n ns =>
        cases e4
        exact .inr ⟨a, n, ns, rfl, h, Go.val go S (.int _)⟩
    · exact (show False from go).elim
  · exact (show False from go).elim
end
end PyI

/-! IK_: defs, where nothing is being written by repr around. -/
namespace PyI
open PySem PySem.Spec PyProof.Rows L2
/-- as the layer's FnOk, called where no repr runs around -/
structure FnG (P : Program) (w : World) (K : PySem.W.Frag) (mg : Str → Option Value) (base : Heap) (CX : CXT) (k : Nat) (f : Addr) (fd : FuncData) (ps : List Str) (sp : Sp) : Prop where
  len : ∀ vs H Q E, sp vs H Q E → vs.length = ps.length
  run : ∀ (A : Around) (outer : List PySem.Env) (s : Shared) (H : Hp) (args : Args) (us : List Value) (vs : List V) (Q : VK) (E : XK), Room k A → A.guards = some [] → Env0 P w K mg base A outer s H → BindsTo s fd args (ps.zip us) → Vals vs us → sp vs H Q E →
    codeAny (model P w) A (.call (.ref f) args) (CR CX outer P w H s Q E) s
theorem guards_deeper (A : Around) (e : PySem.Env) : (A.deeper e).guards = A.guards := by
  first | rfl | simp [Around.deeper]
section
variable {P : Program} {w : World} {K : PySem.W.Frag} {mg : Str → Option Value} {base : Heap} {CX : CXT}
theorem FnG.mono {j k : Nat} {f : Addr} {fd : FuncData} {ps : List Str} {sp : Sp} (F : FnG P w K mg base CX j f fd ps sp) (h : j ≤ k) : FnG P w K mg base CX k f fd ps sp :=
  ⟨F.len, fun A outer s H args us vs Q E hr => F.run A outer s H args us vs Q E (hr.mono h)⟩
theorem fnG_of {k : Nat} {f : Addr} {name qual : Str} {params : Arguments} {body : List Stmt} {scope : Scope} {dV kV doc pm cdv ct oc : Value} {an od : Option Addr} {osl : Array (Option Value)} {N ps : List Str} {sp : Sp}
    (lk : K.lookup f = some ⟨oc, od, .func (PySem.W.fnOf name qual params body scope dV kV doc pm an cdv ct), osl⟩) (hcd : PySem.W.codeIn K cdv qual = true) (S : FnScope N ps scope) (len : ∀ vs H Q E, sp vs H Q E → vs.length = ps.length)
    (hbody : ∀ (A : Around) (outer : List PySem.Env) (s : Shared) (H : Hp) (vs : List V) (Q : VK) (E : XK), Room k (A.deeper (envOfC qual scope s.heap.objs.size f cdv)) → A.guards = some [] → sp vs H Q E →
      ∃ t, PSs (cxOf CX P w K mg base N qual scope f cdv A outer s H E) body t ∧ t { nx := fun _ H' => Q .non H', rt := Q } (start N vs) H) :
    FnG P w K mg base CX (k + 1) f (PySem.W.fnOf name qual params body scope dV kV doc pm an cdv ct) ps sp := by
  refine ⟨len, fun A outer s H args us vs Q E hr hgd e0 hb r hsp => ?_⟩
  have low : ∀ b o, base.get? b = some o → s.heap.get? b = some o := fun b o e => (e0.bs b o e).1
  have KX := e0.mod.kin.keeps low
  have par : ∀ y ∈ ps.zip us, scope.names.lookup y.1 = some .local ∨ (scope.names.lookup y.1 = some .cell ∧ ((cellsFrom (s.heap.objs.size + 1) scope.names []).lookup y.1).isSome = true) := by
    rintro ⟨n, v⟩ hy
    refine (S.par n (List.of_mem_zip hy).1).imp id fun q => ⟨q, PySem.W.cellsFrom_some _ _ _ (.inl q)⟩
  refine codeAny_call_function hr.depth (KX _ _ lk) rfl S.co S.gen rfl (PySem.W.codeRec_of KX hcd) (hb _ _ _ _ (wpAny_newFunctionEnv_cells S.kind par fun env he s1 x => ?_))
  subst he
  refine ⟨(e0.mod.nolimit.keeps low).keeps x.toInCall.keep, codeAny_func ?_⟩
  obtain ⟨t, ht, hq⟩ := hbody A outer s H vs Q E (hr.deeper _) hgd hsp
  have I : Inv (cxOf CX P w K mg base N qual scope f cdv A outer s H E) [] (start N vs) H s1 := inv_start S hr.hd e0 (len _ _ _ _ hsp) r x
  have fin : ∀ {σ' : L2.St} {H' : Hp} {v : V} {u : Value} {s' : Shared}, Inv (cxOf CX P w K mg base N qual scope f cdv A outer s H E) [] σ' H' s' → RelV v u → Q v H' → CE outer P w H s Q u s' :=
    fun {σ' H' v u s'} J rv q => ⟨v, H', J.os, J.bare, J.base, J.hok, rv, q⟩
  refine wpAny_mono (ht.run [] s1 (start N vs) H _ I hq) (fun fl s' hs => ?_) fun e s' hs => hs
  cases fl with
  | ret u => obtain ⟨v, σ', H', J, rv, q⟩ := hs; exact fin J rv q
  | next => obtain ⟨σ', H', J, q⟩ := hs; exact fin (v := V.non) (u := Value.none) J rfl q
  | brk => obtain ⟨_, _, _, q⟩ := hs; exact q.elim
  | cont => obtain ⟨_, _, _, q⟩ := hs; exact q.elim
end
section
variable {X : Cx} {CX : CXT} {k : Nat} {f : Addr} {fd : FuncData} {ps : List Str} {sp : Sp} {W : L2.St → XK} {x : Str} {p pos : Pos} {e : Expr} {es : List Expr} {t : TA}
theorem run_fnG {pins : List (Addr × Obj)} {σ : L2.St} {H : Hp} {s : Shared} {Q : VK} {us : List Value} {vs : List V} (F : FnG X.prog X.w X.K X.mg X.base CX k f fd ps sp) (hr : Room k X.A) (hgd : X.A.guards = some []) (hb : Binds X.K fd ps []) (hx : PassesAt CX X σ (W σ))
    (I : Inv X pins σ H s) (r : Vals vs us) (h : sp vs H Q (W σ)) : wpAny (model X.prog X.w) X.A (call (.ref f) us) (EP X pins σ Q) X.xe s := by
  have b := hb s us I.kIn (by rw [List.append_nil, ← r.length]; exact F.len _ _ _ _ h)
  rw [List.append_nil] at b
  refine wpAny_call (codeAny_mono (F.run X.A X.stack s H ⟨us, []⟩ us vs Q (W σ) hr hgd I.env0 b r h) fun res s' hq => ?_)
  match res, hq with
  | .error e, hq => exact hx pins H s e s' I hq
  | .ok (.ret u), hq => exact I.after hq
theorem pe_callG (F : FnG X.prog X.w X.K X.mg X.base CX k f fd ps sp) (hr : Room k X.A) (hgd : X.A.guards = some []) (hg : Gl X x) (hm : X.mg x = some (.ref f)) (hk : PySem.W.keepIn X.K (.ref f) = true) (hb : Binds X.K fd ps []) (hx : ∀ σ, PassesAt CX X σ (W σ))
    (ha : PA X (e :: es) t) (hdb : (x == ("__debug__" : Str)) = false) (he : starEach (e :: es) X.env = (false, eval e X.env) :: starEach es X.env) (hpl : (backTo pos (starEach es X.env)).any (·.1) = false) :
    PE X (.Call (.Name x p) (e :: es) [] pos) (tCallS sp W t) := ⟨fun pins s σ H Q I h =>
  wpAny_Call_Name_kw (ld_glob I hg hm (PySem.W.callWith_K (h₀ := X.base) I.ok.mod.kin hk (thn (ha.run pos pins s σ H _ I h) fun us s1 ⟨vs, H1, I1, r, q⟩ => ⟨I1.kIn, run_fnG F hr hgd hb (hx σ) I1 r q⟩) he hpl) hdb)⟩
end

/-! ### a law's end -/
theorem law_callG {P : Program} {w : World} {K : PySem.W.Frag} {mg mb : Str → Option Value} {k : Nat} {fa a : Addr} {fd : FuncData} {x : Str} {sp : Sp} {s₁ : Shared} {vs : List Value} {ns : List Int}
    (KX : K.In s₁.heap) (hns : s₁.heap.Ns mainGlobals mg) (hb : s₁.heap.Ns builtinsNs mb) (hbb : ∀ x : Str, x ≠ "__name__" → mb x = bootBuiltins x) (hlim : s₁.heap.NoLimit) (hg : s₁.gens = #[])
    (ha : s₁.heap.get? a = some { cls := .type "list", data := .seq vs.toArray }) (hi : IntsAre vs ns) (hl : ns.length ≤ sizeLine) (hr : Room k callerA)
    (F : ∀ base : Heap, K.In base → base.Ns mainGlobals mg → FnG P w K mg base (L2.CX P w) k fa fd [x] sp) (hbind : ∀ (s : Shared) (u : Value), K.In s.heap → BindsTo s fd ⟨[u], []⟩ [(x, u)])
    (hsp : ∀ H : Hp, Only H → SqL K H a (ns.map V.int) → sp [.ref a] H (fun v _ => v = .bl true) fun _ _ _ => False) :
    codeAny (model P w) callerA (.call (.ref fa) ⟨[.ref a], []⟩) (fun r s' => r = .ok (.ret (.bool true)) ∧ OldK s₁.heap s'.heap ∧ s'.os = s₁.os ∧ AllBare s'.gens) s₁ := by
  have rv := vals_ints hi
  have lenV := hi.length
  have nob : ∀ {b : Addr}, b ∉ ([] : List Addr) := fun {b} z => by cases z
  have core : ∀ H : Hp, Only H → SqL K H a (ns.map V.int) → HOk P w H s₁.heap → (∀ b, H b ≠ none → b = a ∧ K.lookup a = none) →
      codeAny (model P w) callerA (.call (.ref fa) ⟨[.ref a], []⟩) (fun r s' => r = .ok (.ret (.bool true)) ∧ OldK s₁.heap s'.heap ∧ s'.os = s₁.os ∧ AllBare s'.gens) s₁ := by
    intro H hO hS hok hA
    have free : ∀ {b : Addr}, b ≠ a → H b = none := fun {b} hb => by
      cases q : H b with
      | none => rfl
      | some u => exact absurd (hA b (by rw [q]; exact Option.some_ne_none u)).1 hb
    have nsK : ∀ {b : Addr} {m : Str → Option Value}, s₁.heap.Ns b m → (hidT s₁.heap H).Ns b m := fun {b m} ⟨o, es, ep, e, d, r⟩ =>
      ⟨o, es, ep, hidT_get e (free fun z => by subst z; rw [ha] at e; cases e; cases d), d, r⟩
    have hKb : K.In (hidT s₁.heap H) := fun b o e => hidT_get (KX b o e) (by
      cases q : H b with
      | none => rfl
      | some u =>
        obtain ⟨z, hk⟩ := hA b (by rw [q]; exact Option.some_ne_none u)
        rw [z, hk] at e; cases e)
    have lim : (hidT s₁.heap H).NoLimit := let ⟨mc, h1, h2⟩ := hlim; ⟨mc, nsK h1, h2⟩
    have e0 : Env0 P w K mg (hidT s₁.heap H) callerA [] s₁ H := ⟨rfl, ⟨hKb, nsK hns, ⟨mb, nsK hb, hbb⟩, lim⟩, fun b o e => of_hidT e, Nat.le_of_eq (hidT_size _ _), trivial, fun b hb => absurd hb nob, hok, .of_eq hg⟩
    refine codeAny_mono ((F _ hKb (nsK hns)).run callerA [] s₁ H ⟨[.ref a], []⟩ [.ref a] [.ref a] _ _ hr rfl e0 (hbind s₁ (.ref a) KX) (.cons rfl .nil) (hsp H hO hS)) fun r s' h => ?_
    match r, h with
    | .error e, h => obtain ⟨_, _, _, _, _, _, _, _, _, _, _, _, z⟩ := h; exact z.elim
    | .ok (.ret u), h =>
      obtain ⟨v, H', os, bare, un, hok', r', q⟩ := h
      cases (show v = .bl true from q)
      cases (show u = Value.bool true from r')
      refine ⟨rfl, OldK.of_keep fun b o e => ?_, os, bare⟩
      rcases hO b with z | ⟨ob, xs, z⟩
      · exact un.keep b o e z nob nob
      · obtain ⟨e1, _⟩ := hok b _ z
        obtain ⟨e2, _⟩ := hok' b _ (un.frzs b ob _ z)
        rw [e] at e1; cases e1
        exact e2
  cases hk : K.lookup a with
  | some o =>
    have e := KX a o hk
    rw [ha] at e; cases e
    have sz : vs.toArray.size ≤ sizeLine := by rw [List.size_toArray, lenV]; exact hl
    exact core (fun _ => none) (fun _ => .inl rfl) (.inr ⟨_, vs.toArray, _, hk, rfl, rfl, rfl, sz, by simpa using rv⟩) (fun b u z => by cases z) fun b z => absurd rfl z
  | none =>
    let H0 : Hp := fun b => if b = a then some (.frz { cls := .type "list", data := .seq vs.toArray } (.lst (ns.map V.int))) else none
    have at0 : H0 a = some (.frz { cls := .type "list", data := .seq vs.toArray } (.lst (ns.map V.int))) := if_pos rfl
    have off0 : ∀ b, b ≠ a → H0 b = none := fun b hb => if_neg hb
    refine core H0 (fun b => ?_) (.inl (.inr ⟨_, at0⟩)) (fun b u z => ?_) fun b z => ?_
    · by_cases hb : b = a
      · rw [hb, at0]; exact .inr ⟨_, _, rfl⟩
      · exact .inl (off0 b hb)
    · by_cases hb : b = a
      · subst hb
        rw [at0] at z; cases z
        exact ⟨ha, by rw [List.length_map]; exact hl, vs, _, rv, ha⟩
      · rw [off0 b hb] at z; cases z
    · by_cases hb : b = a
      · exact ⟨hb, hk⟩
      · exact absurd (off0 b hb) z
theorem walk_ofG {l : PySem.W.OpenLaw} {n k : Nat} {q : Program} {loose : List Str} {XP : (Str → Option Value) → Heap → Prop} {YP : World → Heap → Prop} {d : DefRec} {K : Params → PySem.W.Frag} {sp : PySem.W.Frag → Sp} {x : Str}
    (hn : l.most = some n) (hn2 : n ≤ sizeLine) (hdf : d.params.defaults = []) (hr : Room k callerA) (hY : ∀ (w : World) (h : Heap), YP w h → (K w.params).In h)
    (F : ∀ (w : World) (mg : Str → Option Value) (fa : Addr) (h : Heap), (K w.params).In h → h.Ns mainGlobals mg → mg d.name = some (.ref fa) → ∃ fd : FuncData, (∀ (s : Shared) (u : Value), (K w.params).In s.heap → BindsTo s fd ⟨[u], []⟩ [(x, u)]) ∧
      ∀ base : Heap, (K w.params).In base → base.Ns mainGlobals mg → FnG l.prog w (K w.params) mg base (L2.CX l.prog w) k fa fd [x] (sp (K w.params)))
    (hsp : ∀ (K : PySem.W.Frag) (H : Hp) (a : Addr) (ns : List Int), ns.length ≤ n → Only H → SqL K H a (ns.map V.int) → sp K [.ref a] H (fun v _ => v = .bl true) fun _ _ _ => False) :
    PySem.W.WalkO q loose XP YP l.row.toRowW d [] (fun f vs => PySem.call f vs) := by
  refine Att.attach_call hn hdf fun w s₀ s₁ mg mb fa o pm cd doc a vs ns G Y ho hd hcd hmg hobj hints hlen hg => ?_
  obtain ⟨fd, hb, hF⟩ := F w mg fa _ (hY w _ Y) G.T.g hmg
  exact law_callG (hY w _ Y) G.T.g G.T.b G.T.builtins G.T.nolimit hg hobj hints (Nat.le_trans hlen hn2) hr hF hb fun H hO hS => hsp (K w.params) H a ns hlen hO hS
end PyI

/-! IL_: repr, isinstance, tuple, methods. -/
namespace PyI
open PySem PySem.Spec PyProof.Rows L2

section
variable {X : Cx}
def rRepr (K : PySem.W.Frag) : List V → Hp → VK → Prop := fun xs H Q => ∃ x t, xs = [x] ∧ Dp K H x t ∧ t.showable = true ∧ t.hasDict = false ∧ t.depth ≤ 64 ∧ t.shown.length ≤ sizeLine ∧ Q (.str t.shown) H
theorem cr_repr (hgd : X.A.guards = some []) (hu : X.A.units + 100 < cLine) : CallR X (.builtin "repr") (rRepr X.K) := by
  intro pins s σ H xs us Q I r h
  obtain ⟨x, t, rfl, d, sh, nd, dp, sz, q⟩ := h
  obtain ⟨u, rfl, rx⟩ := vals1 r
  obtain ⟨as, rd⟩ := Dp.reads I t x u d rx
  have fin : ∀ (h' : Heap) (v : Tok) (tk : Nat), (∀ b o, s.heap.get? b = some o → h'.get? b = some o) → EP X pins σ Q (.str t.shown v) { s with heap := h', toks := tk } := fun h' v tk hk => ⟨.str _, H, I.kept hk, ⟨v, rfl⟩, q⟩
  have fin0 : ∀ (v : Tok) (tk : Nat), EP X pins σ Q (.str t.shown v) { s with toks := tk } := fun v tk => fin s.heap v tk fun _ _ e => e
  cases u with
  | ref a => exact repr_of_reads' rd sh (fun z => by rw [nd] at z; cases z) hgd (by omega) (fun _ _ e => e) fin sz
  | none => cases rd; exact PySem.P.repr_of_none (fin0 _ _)
  | bool b => cases rd; exact PySem.P.repr_of_bool (fin0 _ _)
  | int i k =>
    cases rd
    exact PySem.P.repr_of_int (of_decide_eq_true sh) (fin0 _ _)
  | str z k => cases rd; exact PySem.P.repr_of_str (fin0 _ _) sz
  | _ => cases rd
end
section
variable {K : PySem.W.Frag}
theorem tel_repr : TelC K fRepr (rRepr K) := by
  intro E ι H st ds vs Q S r go
  unfold fRepr at go
  split at go
  · obtain ⟨v, rfl, q1⟩ := rels1 r
    split at go
    · rename_i t e
      obtain ⟨c, go⟩ := Go.guard go
      unfold reprOk at c
      simp only [Bool.and_eq_true, decide_eq_true_eq, Bool.not_eq_true'] at c
      refine ⟨v, t, rfl, tree_dp S q1 e, c.1.1.1, c.1.1.2, c.1.2, by rw [line_eq]; exact c.2, ?_⟩
      have h := Go.val go S (.str t.shown.cps.toList)
      rw [tx_cps] at h
      exact h
    · exact (show False from go).elim
  · exact (show False from go).elim
theorem tel_ord : TelC K fOrd (fun xs H Q => ∃ x, xs = [.str x] ∧ x.length = 1 ∧ Q (.int (x.cps.getD 0 0 : Nat)) H) := by
  intro E ι H st ds vs Q S r go
  unfold fOrd at go
  split at go
  · obtain ⟨v, rfl, q1⟩ := rels1 r
    cases q1
    exact ⟨_, rfl, rfl, Go.val go S (.int _)⟩
  · exact (show False from go).elim
/-! tuple(x) -/
theorem tel_tuple_seq {E : XW} {ι : List Addr} {H : Hp} {st : Sto} {d : D} {v : V} {xs : List D} {Q : VK} (S : StR K ι H st) (r : RelD K ι H d v) (e : seqOf st d = some xs) (go : Go K E (RD K) ι H Q (.ok (.tup xs) st)) :
    ∃ p ys, [v] = [V.ref p] ∧ ((SqL K H p ys ∧ ∀ l, H l = none → Q (.ref l) (upd H l (.tup ys))) ∨ (SqT K H p ys ∧ Q (.ref p) H)) := by
  cases r <;> first | (cases e; done) | skip
  · rename_i a vs ds ha r; cases e; exact ⟨a, vs, rfl, .inr ⟨.of ha, Go.val go S (.tup ha r)⟩⟩
  · rename_i a vs ds ha r; cases e; exact ⟨a, vs, rfl, .inl ⟨ha.seq, Go.tup go S r⟩⟩
  · rename_i n a ha
    obtain ⟨b, vs, hb, e', r⟩ := lst_of S (listAt_some e)
    rw [ha] at hb; cases hb
    exact ⟨a, vs, rfl, .inl ⟨.of e', Go.tup go S r⟩⟩

/-! ### isinstance -/
def kdName : Kd → String
  | .none => "NoneType" | .bool => "bool" | .int => "int" | .str => "str" | .tuple => "tuple" | .list => "list" | .dict => "dict"
def tyName : Ty → Option String
  | .int => some "int" | .bool => some "bool" | .str => some "str" | .tup => some "tuple" | .lst => some "list" | .own _ => none
theorem kd_rel {ι : List Addr} {H : Hp} {st : Sto} {d : D} {v : V} {k : Kd} (S : StR K ι H st) (r : RelD K ι H d v) (h : kdOf st d = some k) : TyX K H v (.type (kdName k)) := by
  cases r with
  | non => cases h; exact .base .non
  | bl b => cases h; exact .base (.bl b)
  | int i => cases h; exact .base (.int i)
  | str x => cases h; exact .base (.str _)
  | @tup a vs ds ha r => cases h; exact .base (.tup ha)
  | @rol a vs ds ha r =>
    cases h
    rcases ha with ⟨o, e⟩ | (e | ⟨o, e⟩) | ⟨o, its, n, e, c, _⟩
    · exact .base (.frz e)
    · cases e
    · cases e
    · exact .kList e c
  | @ref n a ha =>
    dsimp only [kdOf] at h
    split at h
    · rename_i xs e
      obtain ⟨b, vs, hb, e', _⟩ := lst_of S e
      rw [ha] at hb; cases hb; cases h
      exact .base (.lst e')
    · rename_i xs e
      obtain ⟨b, vs, hb, e', _⟩ := dk_ofS S e
      rw [ha] at hb; cases hb; cases h
      exact .base (.dK e')
    · rename_i xs e
      obtain ⟨b, vs, hb, e', _⟩ := dt_ofS S e
      rw [ha] at hb; cases hb; cases h
      exact .base (.dT e')
    · cases h
theorem kit_kd (t : Ty) (k : Kd) {n : String} (h : tyName t = some n) : PySem.W.kitOne K (.type (kdName k)) (.type n) = some (kdIs t k) := by
  cases t <;> cases h <;> cases k <;> exact kit_ty (by decide +kernel)
end
section
variable {X : Cx} {E : L2.St → XW} {a : Expr} {fa : Env → Sto → Res D} {p p2 pos : Pos}
theorem se_isi {t : Ty} {n : Str} {N : String} (hg : Gl X "isinstance") (hm : X.mg "isinstance" = none) (hg2 : Gl X n) (hm2 : X.mg n = none) (ht : tyName t = some N) (hv : bootBuiltins n = some (.type N)) (hn : n ≠ "__name__") (hd : (n == ("__debug__" : Str)) = false) (ha : SE X E a fa)
    (h1 : starEach (a :: [.Name n p2]) X.env = (false, eval a X.env) :: starEach [.Name n p2] X.env) : SE X E (.Call (.Name "isinstance" p) [a, .Name n p2] [] pos) (fun env st => (fa env st).bind fun x st => match isTy t x st with
    | some c => .ok (.bl c) st
    | none => .stuck) :=
  PE.imp (pe_callB call_isi hg hm boot_isinstance (pa_cons ha (pa_cons (pe_bltn (v := .ty N) hg2 hm2 hv rfl hn hd) pa_nil) h1) (by decide +kernel) (by decide +kernel) h1 rfl) fun σ H Q ⟨ι, env, st, eR, S, go⟩ => ⟨ι, env, st, eR, S, go.bind fun ι1 H1 d v st1 x1 S1 r1 go1 => by
    cases hc : isTy t d st1 with
    | none => rw [hc] at go1; exact (show False from go1).elim
    | some c =>
      rw [hc] at go1
      obtain ⟨k, e, rfl⟩ := map_some hc
      exact ⟨v, .ty N, _, _, _, rfl, .ty N, kd_rel S1 r1 e, kit_kd t k ht, Go.val go1 S1 (.bl _)⟩⟩
end
end PyI

/-! IM_: methods. -/
namespace PyI
open PySem PySem.Spec PyProof.Rows L2

section
variable {X : Cx} {pins : List (Addr × Obj)} {σ : L2.St} {H : Hp} {s : Shared} {a b : Addr} {u r : Value} {d : V} {A : Around} {E : Value → Shared → Prop}
theorem d_setdT {k : List L2.Key} {kvs : List (List L2.Key × V)} {Q : Value → Shared → Prop} (hu : A.units + 1 < cLine) (I : Inv X pins σ H s) (e : H a = some (.dT kvs)) (eb : H b = some (.tup (k.map kV))) (rd : RelV d r) (hl : kvs.length < sizeLine)
    (h1 : ∀ v, valV kvs k = some v → ∀ (w' : Value) (s' : Shared), Inv X pins σ H s' → RelV v w' → Q w' s') (h2 : valV kvs k = none → ∀ (w' : Value) (s' : Shared), Inv X pins σ (upd H a (.dT (putK kvs k d))) s' → RelV d w' → Q w' s') :
    wpAny (model X.prog X.w) A (call (.builtin "dict.setdefault") [.ref a, .ref b, r]) Q E s := by
  obtain ⟨z, hd, xs, rel, dd⟩ := dt_of I.hok e
  have hz : xs.length ≤ sizeLine := by rw [← Paired.length rel]; exact z
  refine call_setdefault_heap (hsz := hz) (tupleKind_room_in1 hu) (key_of I.hok eb) hd dd (fun p hp => ?_) fun hn h' dd' hs => ?_
  · have q := rel.val k
    rw [hp] at q
    cases q0 : valV kvs k with
    | none => rw [q0] at q; exact q.elim
    | some v0 => rw [q0] at q; exact h1 v0 q0 _ _ (I.tok _) q
  · have q := rel.val k
    rw [hn] at q
    cases q0 : valV kvs k with
    | some v0 => rw [q0] at q; exact q.elim
    | none =>
      have hl2 : (putK kvs k d).length ≤ sizeLine := Nat.le_trans (length_putK kvs k d) hl
      obtain ⟨o, es, ep, hq, g2, g3, g4, _, g5⟩ := dd'
      refine h2 q0 _ _ (d_write I (by rw [e]; exact True.intro) hs ⟨o, hq⟩ ⟨hl2, hd, _, (rel.put k eb rd).keeps fun c ys ec => ?_, o, es, ep, hq, g2, g3, g4, g5⟩) rd
      rw [upd_ne (ne_of ec e fun z => nomatch z)]
      exact ec
end
section
variable {X : Cx}
def rGetA : V → List V → Hp → VK → Prop := fun x xs H Q => ∃ a y d o, x = .ref a ∧ xs = [y, d] ∧ DGetA H a y o ∧ Q (o.getD d) H
theorem mt_getA (hu : X.A.units + 1 < cLine) : MtR X "dict.get" rGetA := by
  intro pins s σ H x xs v us Q I rx rs h
  obtain ⟨a, y, d, o, rfl, rfl, g, q⟩ := h
  cases rx
  obtain ⟨u, r, rfl, ry, rd⟩ := rs.two
  rcases g.both with g' | ⟨e, g', rfl⟩
  · exact d_get2 hu I g' ry rd fun w s1 J rw' => ⟨_, H, J, rw', q⟩
  · exact d_get2 hu (inv_kt I e) g' ry rd fun w s1 J rw' => ⟨_, H, inv_tk J e, rw', q⟩
def rSetdA : V → List V → Hp → VK → Prop := fun x xs H Q => ∃ a y d, x = .ref a ∧ xs = [y, d] ∧
  ((∃ kvs k, H a = some (.dK kvs) ∧ y = kV k ∧ kvs.length < sizeLine ∧ (∀ v, valV kvs k = some v → Q v H) ∧ (valV kvs k = none → Q d (upd H a (.dK (putK kvs k d))))) ∨
    (∃ kvs k b, H a = some (.dT kvs) ∧ y = .ref b ∧ H b = some (.tup (k.map kV)) ∧ kvs.length < sizeLine ∧ (∀ v, valV kvs k = some v → Q v H) ∧ (valV kvs k = none → Q d (upd H a (.dT (putK kvs k d))))) ∨
    (H a = some (.dK []) ∧ ∃ k b, y = .ref b ∧ H b = some (.tup (k.map kV)) ∧ Q d (upd H a (.dT [(k, d)]))))
theorem mt_setdA (hu : X.A.units + 1 < cLine) : MtR X "dict.setdefault" rSetdA := by
  intro pins s σ H x xs v us Q I rx rs h
  obtain ⟨a, y, d, rfl, rfl, h⟩ := h
  cases rx
  obtain ⟨u, r, rfl, ry, rd⟩ := rs.two
  rcases h with ⟨kvs, k, e, rfl, hl, q1, q2⟩ | ⟨kvs, k, b, e, rfl, eb, hl, q1, q2⟩ | ⟨e, k, b, rfl, eb, q⟩
  · exact d_setd I e ry rd hl (fun v hv w s1 J rw' => ⟨v, H, J, rw', q1 v hv⟩) fun hn w s1 J rw' => ⟨d, _, J, rw', q2 hn⟩
  · cases ry
    exact d_setdT hu I e eb rd hl (fun v hv w s1 J rw' => ⟨v, H, J, rw', q1 v hv⟩) fun hn w s1 J rw' => ⟨d, _, J, rw', q2 hn⟩
  · cases ry
    have eb' : upd H a (.dT []) b = some (.tup (k.map kV)) := by rw [upd_ne fun z => by rw [z, e] at eb; cases eb]; exact eb
    refine d_setdT hu (inv_kt I e) upd_same eb' rd (by rw [line_eq]; decide) (fun v hv => by cases hv) fun hn w s1 J rw' => ⟨d, _, ?_, rw', q⟩
    have q' : upd (upd H a (.dT [])) a (.dT (putK [] k d)) = upd H a (.dT [(k, d)]) := by rw [upd_upd]; rfl
    rw [q'] at J
    exact J
end

/-- the layer's r asks no more than what the evaluator's m tells -/
def TelM (K : PySem.W.Frag) (m : D → List D → Sto → Res D) (r : V → List V → Hp → VK → Prop) : Prop :=
  ∀ (E : XW) (ι : List Addr) (H : Hp) (st : Sto) (d : D) (ds : List D) (v : V) (vs : List V) (Q : VK), StR K ι H st → RelD K ι H d v → RelDs K ι H ds vs → Go K E (RD K) ι H Q (m d ds st) → r v vs H Q
section
variable {K : PySem.W.Frag}
theorem tel_append : TelM K mAppend rAppend := by
  intro E ι H st d ds v vs Q S rx rs go
  unfold mAppend at go
  split at go
  · rename_i n d'
    obtain ⟨w, rfl, rd⟩ := rels1 rs
    split at go
    · rename_i xs e
      obtain ⟨c, go⟩ := Go.guard go
      rw [decide_eq_true_eq] at c
      cases rx with
      | @ref n a ha =>
        obtain ⟨b, ws, hb, e', r⟩ := lst_of S (listAt_some e)
        rw [ha] at hb; cases hb
        have ho : ∃ u, H a = some u ∧ ∀ v w, u ≠ .frz v w := ⟨_, e', fun _ _ z => by cases z⟩
        have x := Ext.put (o := .lst (ws ++ [w])) S ha ho
        exact ⟨a, ws, w, rfl, rfl, e', by rw [← r.length, line_eq]; exact c, go ι _ .non x (S.put ha ho ⟨_, upd_same, (r.mono x).snoc (rd.mono x)⟩) .non⟩
    · exact (show False from go).elim
  · exact (show False from go).elim
theorem tel_pop : TelM K mPop rPop := by
  intro E ι H st d ds v vs Q S rx rs go
  unfold mPop at go
  split at go
  · rename_i n
    cases rs
    split at go
    · rename_i xs e
      split at go
      · rename_i d' e2
        cases rx with
        | @ref n a ha =>
          obtain ⟨b, ws, hb, e', r⟩ := lst_of S (listAt_some e)
          rw [ha] at hb; cases hb
          have ho : ∃ u, H a = some u ∧ ∀ v w, u ≠ .frz v w := ⟨_, e', fun _ _ z => by cases z⟩
          have x := Ext.put (o := .lst ws.dropLast) S ha ho
          obtain ⟨y, h1, h2⟩ := r.get e2
          rw [r.length] at h1
          exact ⟨a, ws, y, rfl, rfl, e', h1, go ι _ y x (S.put ha ho ⟨_, upd_same, (r.mono x).dropLast⟩) (h2.mono x)⟩
      · exact (show False from go).elim
    · exact (show False from go).elim
  · exact (show False from go).elim
theorem optR_getD {ι : List Addr} {H : Hp} {o : Option D} {o' : Option V} {d : D} {v : V} (h : OptR K ι H o o') (r : RelD K ι H d v) : RelD K ι H (o.getD d) (o'.getD v) := by
  cases o <;> cases o' <;> first | exact r | exact h | exact h.elim
theorem tel_get : TelM K mGet rGetA := by
  intro E ι H st d ds v vs Q S rx rs go
  unfold mGet at go
  split at go
  · rename_i n k d'
    obtain ⟨y, w, rfl, ry, rd⟩ := rels2 rs
    split at go
    · rename_i o e
      cases rx with
      | @ref n a ha =>
        obtain ⟨o', g, r⟩ := dget_rel S e ha ry
        exact ⟨a, y, w, o', rfl, rfl, g, Go.val go S (optR_getD r rd)⟩
    · exact (show False from go).elim
  · exact (show False from go).elim
theorem tel_setd : TelM K mSetd rSetdA := by
  intro E ι H st d ds v vs Q S rx rs go
  unfold mSetd at go
  split at go
  · rename_i n k d'
    obtain ⟨y, w, rfl, ry, rd⟩ := rels2 rs
    cases rx with
    | @ref n a ha =>
      cases hp : dput st n k d' with
      | none => rw [hp] at go; split at go <;> first | exact (show False from go).elim | (rename_i z; cases z)
      | some st' =>
        cases hg : dget st n k with
        | none => rw [hp, hg] at go; exact (show False from go).elim
        | some o =>
          rw [hp, hg] at go
          refine ⟨a, y, w, rfl, rfl, ?_⟩
          have plain : ∀ {kvs : List (Ky × D)} {j : Ky}, dkAt st n = some kvs → keyOf k = some j → o = valD kvs j → kvs.length < 16777216 → st' = st.set n (.dk (putD kvs j d')) →
              ∃ kvs k, H a = some (.dK kvs) ∧ y = kV k ∧ kvs.length < sizeLine ∧ (∀ v, valV kvs k = some v → Q v H) ∧ (valV kvs k = none → Q w (upd H a (.dK (putK kvs k w)))) := by
            intro kvs j e1 e2 e3 hl e4
            obtain ⟨b, ws, hb, e, q⟩ := dk_ofS S (dkAt_some e1)
            rw [ha] at hb; cases hb
            have ho : ∃ u, H a = some u ∧ ∀ v w, u ≠ .frz v w := ⟨_, e, fun _ _ z => by cases z⟩
            have x := Ext.put (o := .dK (putK ws (kyK j) w)) S ha ho
            have qv := q.val j
            refine ⟨ws, kyK j, e, kV_key ry e2, by rw [← q.length, line_eq]; exact hl, fun v hv => ?_, fun hn => ?_⟩
            · rw [hv] at qv
              cases q0 : valD kvs j with
              | none => rw [q0] at qv; exact qv.elim
              | some d0 =>
                rw [q0] at qv e3
                subst e3
                exact Go.val go S qv
            · rw [hn] at qv
              cases q0 : valD kvs j with
              | some d0 => rw [q0] at qv; exact qv.elim
              | none =>
                rw [q0] at e3
                subst e3 e4
                exact go ι _ w x (S.put ha ho ⟨_, upd_same, (q.mono x).put (rd.mono x)⟩) (rd.mono x)
          cases ry with
          | @tup b ws es hb q =>
            obtain ⟨kvs, e1, e2⟩ := bind_some hg
            obtain ⟨j, e3, e4⟩ := map_some e2
            obtain ⟨kvs', e1', e2'⟩ := bind_some hp
            rw [e1] at e1'; cases e1'
            by_cases hl : kvs.length < 16777216
            · rw [if_pos hl, e3] at e2'
              have e5 : st' = st.set n (.dt (putD kvs j d')) := (Option.some.inj e2').symm
              subst e5
              have hv := kV_keys q e3
              subst hv
              rcases dtAt_some e1 with e | ⟨e, rfl⟩
              · obtain ⟨c, ws, hc, e', q'⟩ := dt_ofS S e
                rw [ha] at hc; cases hc
                have ho : ∃ u, H a = some u ∧ ∀ v w, u ≠ .frz v w := ⟨_, e', fun _ _ z => by cases z⟩
                have x := Ext.put (o := .dT (putK ws (j.map kyK) w)) S ha ho
                have qv := q'.val j
                refine .inr (.inl ⟨ws, j.map kyK, b, e', rfl, hb, by rw [← q'.length, line_eq]; exact hl, fun v hv => ?_, fun hn => ?_⟩)
                · rw [hv] at qv
                  cases q0 : valD kvs j with
                  | none => rw [q0] at qv; exact qv.elim
                  | some d0 =>
                    rw [q0] at qv e4
                    subst e4
                    exact Go.val go S qv
                · rw [hn] at qv
                  cases q0 : valD kvs j with
                  | some d0 => rw [q0] at qv; exact qv.elim
                  | none =>
                    rw [q0] at e4
                    subst e4
                    exact go ι _ w x (S.put ha ho ⟨_, upd_same, (q'.mono x).put (rd.mono x)⟩) (rd.mono x)
              · obtain ⟨c, ws, hc, e', q'⟩ := dk_ofS S e
                rw [ha] at hc; cases hc
                cases q'
                have ho : ∃ u, H a = some u ∧ ∀ v w, u ≠ .frz v w := ⟨_, e', fun _ _ z => by cases z⟩
                have x := Ext.put (o := .dT [(j.map kyK, w)]) S ha ho
                have e4' : o = none := e4.symm
                subst e4'
                exact .inr (.inr ⟨e', j.map kyK, b, rfl, hb, go ι _ w x (S.put ha ho ⟨_, upd_same, .cons (rd.mono x) .nil⟩) (rd.mono x)⟩)
            · rw [if_neg hl] at e2'; cases e2'
          | _ =>
            obtain ⟨kvs, e1, e2⟩ := bind_some hg
            obtain ⟨j, e3, e4⟩ := map_some e2
            obtain ⟨kvs', e1', e2'⟩ := bind_some hp
            rw [e1] at e1'; cases e1'
            by_cases hl : kvs.length < 16777216
            · rw [if_pos hl, e3] at e2'
              exact .inl (plain e1 e3 e4.symm hl (Option.some.inj e2').symm)
            · rw [if_neg hl] at e2'; cases e2'
  · exact (show False from go).elim
theorem join_cut (s : List Nat) : ∀ l : List (List Nat), TL.joinL s l = List.intercalate s l
  | [] => rfl
  | [a] => by simp [TL.joinL, List.intercalate]
  | a :: b :: l => by
    have ih := join_cut s (b :: l)
    rw [List.intercalate_cons_cons, ← ih]
    simp [TL.joinL]
theorem tx_join (s : List Nat) (l : List (List Nat)) : Txt.join (tx s) (l.map tx) = tx (List.intercalate s l) := (SX.join_S s l).trans (congrArg tx (join_cut s l))
theorem tel_join : TelM K mJoin (fun x xs H Q => ∃ a p, ∃ ys : List Str, x = .str a ∧ xs = [.ref p] ∧ (SqL K H p (ys.map V.str) ∨ SqT K H p (ys.map V.str)) ∧
    (ys.map (·.length)).sum + ys.length * a.length ≤ 16777216 ∧ Q (.str (Txt.join a ys)) H) := by
  intro E ι H st d ds v vs Q S rx rs go
  unfold mJoin at go
  split at go
  · rename_i s d'
    obtain ⟨w, rfl, rd⟩ := rels1 rs
    cases rx
    split at go
    · rename_i l e
      obtain ⟨xs, e1, e2⟩ := bind_some e
      obtain ⟨a, ws, rfl, h, q⟩ := seq_rel S rd e1
      have hw := strs_rel q e2
      subst hw
      obtain ⟨c, go⟩ := Go.guard go
      rw [decide_eq_true_eq] at c
      refine ⟨_, a, l.map tx, rfl, rfl, h, ?_, ?_⟩
      · rw [List.map_map, List.length_map, tx_length]
        have e : (l.map ((fun x : Str => x.length) ∘ tx)) = l.map List.length := List.map_congr_left fun y _ => tx_length y
        rw [e]
        exact c
      · rw [tx_join]
        exact Go.val go S (.str _)
    · exact (show False from go).elim
  · exact (show False from go).elim

/-! the receiver is of the method's class -/
theorem kd_ty {ι : List Addr} {H : Hp} {st : Sto} {d : D} {v : V} {k : Kd} (S : StR K ι H st) (r : RelD K ι H d v) (h : kdOf st d = some k) (hk : k = .list ∨ k = .dict ∨ k = .str) : tyV K (kdName k) v H := by
  cases r with
  | str x => cases h; exact rfl
  | @rol a vs ds ha r => cases h; exact .inl ⟨rfl, vs, ha.seq⟩
  | @ref n a ha =>
    dsimp only [kdOf] at h
    split at h
    · rename_i xs e
      obtain ⟨b, vs, hb, e', _⟩ := lst_of S e
      rw [ha] at hb; cases hb; cases h
      exact .inl ⟨rfl, vs, .of e'⟩
    · rename_i xs e
      obtain ⟨b, vs, hb, e', _⟩ := dk_ofS S e
      rw [ha] at hb; cases hb; cases h
      exact .inr (.inr (.inl ⟨rfl, .inl ⟨_, e'⟩⟩))
    · rename_i xs e
      obtain ⟨b, vs, hb, e', _⟩ := dt_ofS S e
      rw [ha] at hb; cases hb; cases h
      exact .inr (.inr (.inl ⟨rfl, .inr ⟨_, e'⟩⟩))
    · cases h
  | _ => cases h; simp at hk
end
section
variable {X : Cx} {E : L2.St → XW} {o e : Expr} {es : List Expr} {fo : Env → Sto → Res D} {fs : Env → Sto → Res (List D)} {name : Str} {apos cpos : Pos} {T id : String} {r : V → List V → Hp → VK → Prop} {m : D → List D → Sto → Res D} {k : Kd}
def fMth (k : Kd) (m : D → List D → Sto → Res D) (fo : Env → Sto → Res D) (fs : Env → Sto → Res (List D)) : Env → Sto → Res D := fun env st => (fo env st).bind fun x st => if kdOf st x = some k then (fs env st).bind fun xs st => m x xs st else .stuck
theorem se_mth0 (pa : PlainAttrs (kdName k)) (slot : Slot (kdName k) name id) (hty : typeOf (.builtin id) = pure (.type "method_descriptor")) (hm : MtR X id r) (hk : k = .list ∨ k = .dict ∨ k = .str) (t : TelM X.K m r) (ho : SE X E o fo)
    (hbase : attributeBase o name X.env (eval o X.env) = eval o X.env) (hline : (apos.endLine == cpos.line) = true) : SE X E (.Call (.Attribute o name apos) [] [] cpos) (fMth k m fo (fun _ st => .ok [] st)) :=
  PE.imp (pe_bm0 pa slot hty hm ho hbase hline) fun σ H Q ⟨ι, env, st, eR, S, go⟩ => ⟨ι, env, st, eR, S, go.bind fun ι1 H1 d v st1 x1 S1 r1 go1 => by
    by_cases hc : kdOf st1 d = some k
    · rw [if_pos hc] at go1
      exact ⟨kd_ty S1 r1 hc hk, t _ ι1 H1 st1 d [] v [] Q S1 r1 .nil go1⟩
    · rw [if_neg hc] at go1; exact (show False from go1).elim⟩
theorem se_mth (pa : PlainAttrs (kdName k)) (slot : Slot (kdName k) name id) (hty : typeOf (.builtin id) = pure (.type "method_descriptor")) (hm : MtR X id r) (hk : k = .list ∨ k = .dict ∨ k = .str) (t : TelM X.K m r) (ho : SE X E o fo) (ha : SA X E (e :: es) fs)
    (hbase : attributeBase o name X.env (eval o X.env) = eval o X.env)
    (hfew : ((backTo cpos (starEach (e :: es) X.env)).all (fun x => !x.1) && (backToKw cpos (keywordEach [] X.env)).all (fun x => x.1.isSome) && decide ((e :: es).length + ([] : List Keyword).length + (if ([] : List Keyword).isEmpty then 0 else 1) < 30)) = true)
    (hline : (apos.endLine == cpos.line) = true) (hs : starEach (e :: es) X.env = (false, eval e X.env) :: starEach es X.env) (hplain : (backTo cpos (starEach es X.env)).any (·.1) = false) :
    SE X E (.Call (.Attribute o name apos) (e :: es) [] cpos) (fMth k m fo fs) :=
  PE.imp (pe_bm pa slot hty hm ho ha hbase hfew hline hs hplain) fun σ H Q ⟨ι, env, st, eR, S, go⟩ => ⟨ι, env, st, eR, S, go.bind fun ι1 H1 d v st1 x1 S1 r1 go1 => by
    by_cases hc : kdOf st1 d = some k
    · rw [if_pos hc] at go1
      exact ⟨kd_ty S1 r1 hc hk, ι1, env, st1, eR.mono x1, S1, go1.bind fun ι2 H2 ds vs st2 x2 S2 r2 go2 => t _ ι2 H2 st2 d ds v vs Q S2 (r1.mono x2) r2 go2⟩
    · rw [if_neg hc] at go1; exact (show False from go1).elim⟩
end
end PyI

/-! IN_: what a loop walks. -/
namespace PyI
open PySem PySem.Spec PyProof.Rows L2

/-- the iterator gives the walk's items, one after another, while it stands still -/
def ItR (K : PySem.W.Frag) (ι : List Addr) (H : Hp) (w : Wk) (J : It) : Prop :=
  ∀ ι' H' st', Ext K ι H ι' H' → StR K ι' H' st' → w.still st' = true →
    (∀ i d, w.xs[i]? = some d → J.go i H' ∧ ∀ x H'', J.yld i H' x H'' → Ext K ι' H' ι' H'' ∧ StR K ι' H'' st' ∧ RelD K ι' H'' d x) ∧ J.stop w.xs.length H'
abbrev RI (K : PySem.W.Frag) : List Addr → Hp → Wk → It → Prop := ItR K
abbrev SI (X : Cx) (E : L2.St → XW) (tg e : Expr) (f : Env → Sto → Res Wk) : Prop := PI X tg e (sR X.K (RI X.K) E f)
theorem itR_walk {K : PySem.W.Frag} {ι : List Addr} {H : Hp} {w : Wk} {J : It} {n : Nat} {G : Hp → Prop} {Y : Nat → Hp → V → Hp → Prop} (k : Walk J n G Y) (hn : n = w.xs.length)
    (hG : ∀ ι' H' st', Ext K ι H ι' H' → StR K ι' H' st' → w.still st' = true → G H' ∧ ∀ i d x H'', w.xs[i]? = some d → Y i H' x H'' → Ext K ι' H' ι' H'' ∧ StR K ι' H'' st' ∧ RelD K ι' H'' d x) : ItR K ι H w J := by
  subst hn
  intro ι' H' st' x S hs
  obtain ⟨g, y⟩ := hG ι' H' st' x S hs
  refine ⟨fun i d e => ?_, k.stops _ g⟩
  have hi : i < w.xs.length := (List.getElem?_eq_some_iff.mp e).1
  exact ⟨k.goes i _ hi g, fun x H'' yy => y i d x H'' e (k.yields i _ _ _ hi g yy)⟩
section
variable {K : PySem.W.Frag} {ι ι' : List Addr} {H H' : Hp} {st : Sto}
theorem ItR.mono {w : Wk} {J : It} (h : ItR K ι H w J) (x : Ext K ι H ι' H') : ItR K ι' H' w J := fun i1 H1 st1 y => h i1 H1 st1 (x.trans y)
theorem same3 {d : D} {x : V} (S : StR K ι H st) (r : RelD K ι H d x) : Ext K ι H ι H ∧ StR K ι H st ∧ RelD K ι H d x := ⟨Ext.refl _ _, S, r⟩
theorem itR_tup {a : Addr} {vs : List V} {xs : List D} (e : H a = some (.tup vs)) (r : RelDs K ι H xs vs) : ItR K ι H ⟨xs, none⟩ (Itt K a) :=
  itR_walk walk_tup r.length.symm fun ι' H' st' x S _ => ⟨.of (x.tup _ _ e), fun i d v H'' hd y => by
    obtain ⟨rfl, hv⟩ := y
    obtain ⟨u, h1, h2⟩ := (r.mono x).get hd
    rw [hv] at h1; cases h1
    exact same3 S h2⟩
theorem itR_frz {a : Addr} {vs : List V} {xs : List D} (e : Frz K H a vs) (r : RelDs K ι H xs vs) : ItR K ι H ⟨xs, none⟩ (Itl K a) :=
  itR_walk walk_list r.length.symm fun ι' H' st' x S _ => ⟨(x.frz _ _ e).seq, fun i d v H'' hd y => by
    obtain ⟨rfl, hv⟩ := y
    obtain ⟨u, h1, h2⟩ := (r.mono x).get hd
    rw [hv] at h1; cases h1
    exact same3 S h2⟩
theorem still_at {n : Nat} {c : Cell} {xs : List D} (h : Wk.still ⟨xs, some (n, c)⟩ st = true) : st[n]? = some c := by
  unfold Wk.still at h
  exact of_decide_eq_true h
/-- the list of the store: its items as they stand now -/
theorem itR_lst {a : Addr} {n : Nat} {vs : List V} {xs : List D} (hn : ι[n]? = some a) (r : RelDs K ι H xs vs) : ItR K ι H ⟨xs, some (n, .lst xs)⟩ (Itl K a) := by
  intro ι' H' st' x S hs
  obtain ⟨b, ws, hb, e, q⟩ := lst_of S (still_at hs)
  have hx := x.get hn
  rw [hb] at hx; cases hx
  have k := walk_list (K := K) (a := a) (xs := ws)
  refine ⟨fun i d hd => ?_, by rw [q.length]; exact k.stops _ (.of e)⟩
  have hi : i < ws.length := by rw [← q.length]; exact (List.getElem?_eq_some_iff.mp hd).1
  refine ⟨k.goes i _ hi (.of e), fun v H'' y => ?_⟩
  obtain ⟨rfl, hv⟩ := k.yields i _ _ _ hi (.of e) y
  obtain ⟨u, h1, h2⟩ := q.get hd
  rw [hv] at h1; cases h1
  exact same3 S h2
theorem its_rel (x : List Nat) : ItR K ι H ⟨x.map fun c => .str [c], none⟩ (Its (tx x)) :=
  itR_walk (walk_str (z := tx x)) (by rw [List.length_map]; exact tx_length x) fun ι' H' st' _ S _ => ⟨trivial, fun i d v H'' hd y => by
    obtain ⟨rfl, c, hc, rfl⟩ := y
    rw [List.getElem?_map] at hd
    have hc' : x[i]? = some c := by
      have : (tx x).cps[i]? = x[i]? := by simp [tx]
      rw [← this]; exact hc
    rw [hc'] at hd
    cases hd
    exact same3 S (.str _)⟩
theorem itr_rel (lo : Int) (n : Nat) : ItR K ι H ⟨rgD lo n, none⟩ (Itr lo n) :=
  itR_walk walk_range (by simp [rgD]) fun ι' H' st' _ S _ => ⟨trivial, fun i d v H'' hd y => by
    obtain ⟨rfl, rfl⟩ := y
    unfold rgD at hd
    rw [List.getElem?_map] at hd
    obtain ⟨j, hj, rfl⟩ := Option.map_eq_some_iff.mp hd
    obtain ⟨hl, hj⟩ := List.getElem?_eq_some_iff.mp hj
    rw [List.getElem_range] at hj
    subst hj
    exact same3 S (.int _)⟩
/-- a new pair -/
theorem pair3 {T : Addr} {d e : D} {x y : V} (S : StR K ι H st) (hT : H T = none) (rx : RelD K ι H d x) (ry : RelD K ι H e y) :
    Ext K ι H ι (upd H T (.tup [x, y])) ∧ StR K ι (upd H T (.tup [x, y])) st ∧ RelD K ι (upd H T (.tup [x, y])) (.tup [d, e]) (.ref T) :=
  ⟨Ext.fresh hT, S.fresh hT (S.new hT), .tup upd_same ((RelDs.cons rx (.cons ry .nil)).mono (Ext.fresh hT))⟩
theorem enumD_get {xs : List D} {i : Nat} {d : D} (h : (enumD xs)[i]? = some d) : ∃ x, xs[i]? = some x ∧ d = .tup [.int (i : Nat), x] := by
  unfold enumD at h
  rw [List.getElem?_map, List.getElem?_zipIdx] at h
  cases q : xs[i]? with
  | none => rw [q] at h; cases h
  | some x =>
    rw [q] at h
    simp only [Option.map_some, Nat.zero_add, Option.some.injEq] at h
    exact ⟨x, rfl, h.symm⟩
theorem enumD_len (xs : List D) : (enumD xs).length = xs.length := by simp [enumD]
theorem zipDD_get {xs ys : List D} {i : Nat} {d : D} (h : (zipDD xs ys)[i]? = some d) : ∃ x y, xs[i]? = some x ∧ ys[i]? = some y ∧ d = .tup [x, y] := by
  unfold zipDD at h
  rw [List.getElem?_map] at h
  obtain ⟨⟨x, y⟩, hj, rfl⟩ := Option.map_eq_some_iff.mp h
  obtain ⟨h1, h2⟩ := List.getElem?_zip_eq_some.mp hj
  exact ⟨x, y, h1, h2, rfl⟩
theorem zipDD_len (xs ys : List D) : (zipDD xs ys).length = min xs.length ys.length := by simp [zipDD]
theorem ite_tail {a : Addr} {ws : List V} {xs : List D} {w : Wk} (S : StR K ι H st) (e : SqL K H a ws) (q : RelDs K ι H xs ws) (hw : w.xs = enumD xs) :
    (∀ i d, w.xs[i]? = some d → (Ite K a).go i H ∧ ∀ x H'', (Ite K a).yld i H x H'' → Ext K ι H ι H'' ∧ StR K ι H'' st ∧ RelD K ι H'' d x) ∧ (Ite K a).stop w.xs.length H := by
  have k := walk_enum (K := K) (a := a) (xs := ws)
  rw [hw]
  refine ⟨fun i d hd => ?_, by rw [enumD_len, q.length]; exact k.stops _ e⟩
  obtain ⟨x, hx, rfl⟩ := enumD_get hd
  have hi : i < ws.length := by rw [← q.length]; exact (List.getElem?_eq_some_iff.mp hx).1
  refine ⟨k.goes i _ hi e, fun v H'' y => ?_⟩
  obtain ⟨T, x1, y1, rfl, hT, rfl, h1, h2⟩ := k.yields i _ _ _ hi e y
  cases h1
  obtain ⟨u, h3, h4⟩ := q.get hx
  have h2 : ws[i]? = some y1 := h2
  rw [h2] at h3; cases h3
  exact pair3 S hT (.int _) h4
theorem ite_frz {a : Addr} {vs : List V} {xs : List D} (e : Frz K H a vs) (r : RelDs K ι H xs vs) : ItR K ι H ⟨enumD xs, none⟩ (Ite K a) :=
  fun ι' H' st' x S _ => ite_tail S (x.frz _ _ e).seq (r.mono x) rfl
theorem ite_lst {a : Addr} {n : Nat} {xs : List D} (hn : ι[n]? = some a) : ItR K ι H ⟨enumD xs, some (n, .lst xs)⟩ (Ite K a) := by
  intro ι' H' st' x S hs
  obtain ⟨b, ws, hb, e, q⟩ := lst_of S (still_at hs)
  have hx := x.get hn
  rw [hb] at hx; cases hx
  exact ite_tail S (.of e) q rfl
theorem itz_tup {a b : Addr} {vs ws : List V} {xs ys : List D} (e : H a = some (.tup vs)) (r : RelDs K ι H xs vs) (e2 : H b = some (.tup ws)) (r2 : RelDs K ι H ys ws) : ItR K ι H ⟨zipDD xs ys, none⟩ (RZ.ItzT K a b) := by
  intro ι' H' st' x S hs
  have t1 : SqT K H' a vs := .of (x.tup _ _ e)
  have t2 : SqT K H' b ws := .of (x.tup _ _ e2)
  refine ⟨fun i d hd => ?_, ?_⟩
  · obtain ⟨x1, y1, h1, h2, rfl⟩ := zipDD_get hd
    obtain ⟨u1, g1, q1⟩ := (r.mono x).get h1
    obtain ⟨u2, g2, q2⟩ := (r2.mono x).get h2
    refine ⟨⟨vs, ws, u1, u2, t1, t2, g1, g2⟩, fun v H'' y => ?_⟩
    obtain ⟨T, z1, z2, rfl, hT, rfl, k1, k2⟩ := y
    have := k1 vs t1
    rw [g1] at this; cases this
    have := k2 ws t2
    rw [g2] at this; cases this
    exact pair3 S hT q1 q2
  · refine ⟨vs, ws, t1, t2, ?_⟩
    show vs.length ≤ (zipDD xs ys).length ∨ _ ≤ (zipDD xs ys).length
    rw [zipDD_len, r.length, r2.length]
    omega
end

section
variable {X : Cx} {E : L2.St → XW} {tg e e2 : Expr} {fe fe2 : Env → Sto → Res D} {p pos tpos : Pos}
theorem pi_all (he : PE X e te) : PI X tg e (fun σ H R => (iList X.K te σ H R ∨ iTup X.K te σ H R) ∨ iStr te σ H R) := PI.or (PI.or (pi_list he) (pi_tup he)) (pi_str he)
def fVal (fe : Env → Sto → Res D) : Env → Sto → Res Wk := fun env st => (fe env st).bind fun x st => match walkOf st x with
    | some w => .ok w st
    | none => .stuck
theorem si_val (he : SE X E e fe) : SI X E tg e (fVal fe) := PI.imp (pi_all he) fun σ H Q ⟨ι, env, st, eR, S, go⟩ => by
  unfold fVal at go
  cases hf : fe env st with
  | exc n st1 =>
    rw [hf] at go
    exact .inr ⟨ι, env, st, eR, S, by rw [hf]; exact go⟩
  | stuck => rw [hf] at go; exact (show False from go).elim
  | ok d st1 =>
    rw [hf] at go
    have go' := go
    rw [Res.bind_ok] at go'
    cases d with
    | tup xs =>
      refine .inl (.inr ⟨ι, env, st, eR, S, ?_⟩)
      rw [hf]
      intro ι1 H1 v x1 S1 r1
      have g : Go X.K (E σ) (RI X.K) ι1 H1 Q (.ok (⟨xs, none⟩ : Wk) st1) := Go.mono x1 go'
      cases r1 with
      | tup e r => exact ⟨_, rfl, ⟨_, .of e⟩, g ι1 H1 _ (Ext.refl _ _) S1 (itR_tup e r)⟩
    | rol xs =>
      refine .inl (.inl ⟨ι, env, st, eR, S, ?_⟩)
      rw [hf]
      intro ι1 H1 v x1 S1 r1
      have g : Go X.K (E σ) (RI X.K) ι1 H1 Q (.ok (⟨xs, none⟩ : Wk) st1) := Go.mono x1 go'
      cases r1 with
      | rol e r => exact ⟨_, rfl, ⟨_, e.seq⟩, g ι1 H1 _ (Ext.refl _ _) S1 (itR_frz e r)⟩
    | str x =>
      refine .inr ⟨ι, env, st, eR, S, ?_⟩
      rw [hf]
      intro ι1 H1 v x1 S1 r1
      have g : Go X.K (E σ) (RI X.K) ι1 H1 Q (.ok (⟨x.map fun c => .str [c], none⟩ : Wk) st1) := Go.mono x1 go'
      cases r1
      exact ⟨_, rfl, g ι1 H1 _ (Ext.refl _ _) S1 (its_rel x)⟩
    | ref n =>
      refine .inl (.inl ⟨ι, env, st, eR, S, ?_⟩)
      rw [hf]
      intro ι1 H1 v x1 S1 r1
      cases hn : st1[n]? with
      | none => simp only [walkOf, hn] at go'; exact (show False from go').elim
      | some c =>
        cases c with
        | lst xs =>
          simp only [walkOf, hn] at go'
          cases r1 with
          | ref h =>
            obtain ⟨b, ws, hb, e', r⟩ := lst_of S1 hn
            rw [h] at hb; cases hb
            exact ⟨_, rfl, ⟨_, .of e'⟩, Go.mono x1 go' ι1 H1 _ (Ext.refl _ _) S1 (itR_lst h r)⟩
        | _ => simp only [walkOf, hn] at go'; exact (show False from go').elim
    | _ => exact (show False from go').elim
def fEnum (fe : Env → Sto → Res D) : Env → Sto → Res Wk := fun env st => (fe env st).bind fun x st => match lwalk st x with
    | some w => .ok ⟨enumD w.xs, w.src⟩ st
    | none => .stuck
theorem si_enum {elts : List Expr} {kk : Nat} (hg : Gl X "enumerate") (hm : X.mg "enumerate" = none) (he : SE X E e fe) (hs : starEach [e] X.env = [(false, eval e X.env)]) :
    SI X E (.Tuple elts kk tpos) (.Call (.Name "enumerate" p) [e] [] pos) (fEnum fe) := PI.imp (pi_enum hg hm (pa_cons he pa_nil hs) hs) fun σ H Q ⟨ι, env, st, eR, S, go⟩ => ⟨ι, env, st, eR, S, Go.bind go fun ι1 H1 d v st1 x1 S1 r1 go1 => by
  cases r1 with
  | @ref n a h =>
    dsimp only [lwalk] at go1
    cases hn : st1[n]? with
    | none => rw [hn] at go1; exact (show False from go1).elim
    | some c =>
      rw [hn] at go1
      cases c with
      | lst xs =>
        obtain ⟨b, ws, hb, e', r⟩ := lst_of S1 hn
        rw [h] at hb; cases hb
        exact ⟨_, ws, rfl, .of e', go1 ι1 H1 _ (Ext.refl _ _) S1 (ite_lst h)⟩
      | _ => exact (show False from go1).elim
  | @rol a vs ds e' r => exact ⟨a, vs, rfl, e'.seq, go1 ι1 H1 _ (Ext.refl _ _) S1 (ite_frz e' r)⟩
  | _ => exact (show False from go1).elim⟩
def fZip (fa fb : Env → Sto → Res D) : Env → Sto → Res Wk := fun env st => (fa env st).bind fun x st => (fb env st).bind fun y st => match x, y with
    | .tup xs, .tup ys => .ok ⟨zipDD xs ys, none⟩ st
    | _, _ => .stuck
theorem si_zip {elts : List Expr} {kk : Nat} (hg : Gl X "zip") (hm : X.mg "zip" = none) (he : SE X E e fe) (he2 : SE X E e2 fe2)
    (hs : starEach [e, e2] X.env = (false, eval e X.env) :: starEach [e2] X.env) (hs2 : starEach [e2] X.env = [(false, eval e2 X.env)]) :
    SI X E (.Tuple elts kk tpos) (.Call (.Name "zip" p) [e, e2] [] pos) (fZip fe fe2) := PI.imp (RZ.pi_zipA hg hm (pa_cons he (pa_cons he2 pa_nil hs2) hs) hs (by rw [hs2]; rfl)) fun σ H Q ⟨ι, env, st, eR, S, go⟩ =>
  ⟨ι, env, st, eR, S, Go.bind go fun ι1 H1 d v st1 x1 S1 r1 go1 => ⟨ι1, env, st1, eR.mono x1, S1, Go.bind go1 fun ι2 H2 d2 v2 st2 x2 S2 r2 go2 => by
    cases r1 with
    | @tup a vs xs h1 q1 =>
      cases r2 with
      | @tup b ws ys h2 q2 =>
        have h1' := x2.tup _ _ h1
        exact ⟨a, b, vs, ws, rfl, .inr ⟨.of h1', .of h2, go2 ι2 H2 _ (Ext.refl _ _) S2 (itz_tup h1' (q1.mono x2) h2 q2)⟩⟩
      | _ => exact (show False from go2).elim
    | _ => exact (show False from go2).elim⟩⟩
theorem rng_ok {i : Int} (h : rngOk i = true) : -(2 ^ 62) ≤ i ∧ i < 2 ^ 62 := of_decide_eq_true h
def fRng1 (fa : Env → Sto → Res D) : Env → Sto → Res Wk := fun env st => (fa env st).bind fun x st => match x with
    | .int j => guard' (rngOk j) (.ok ⟨rgD 0 j.toNat, none⟩ st)
    | _ => .stuck
theorem si_rng1 (hg : Gl X "range") (hm : X.mg "range" = none) (he : SE X E e fe) (hs : starEach [e] X.env = [(false, eval e X.env)]) :
    SI X E tg (.Call (.Name "range" p) [e] [] pos) (fRng1 fe) := PI.imp (pi_range1 hg hm (pa_cons he pa_nil hs) hs) fun σ H Q ⟨ι, env, st, eR, S, go⟩ => ⟨ι, env, st, eR, S, Go.bind go fun ι1 H1 d v st1 x1 S1 r1 go1 => by
  cases r1 with
  | int j =>
    obtain ⟨c, g⟩ := Go.guard go1
    exact ⟨j, rfl, (rng_ok c).1, (rng_ok c).2, g ι1 H1 _ (Ext.refl _ _) S1 (itr_rel 0 _)⟩
  | _ => exact (show False from go1).elim⟩
def fRng2 (fa fb : Env → Sto → Res D) : Env → Sto → Res Wk := fun env st => (fa env st).bind fun x st => (fb env st).bind fun y st => match x, y with
    | .int i, .int j => guard' (rngOk i && rngOk j) (.ok ⟨rgD i (j - i).toNat, none⟩ st)
    | _, _ => .stuck
theorem si_rng2 (hg : Gl X "range") (hm : X.mg "range" = none) (he : SE X E e fe) (he2 : SE X E e2 fe2)
    (hs : starEach [e, e2] X.env = [(false, eval e X.env), (false, eval e2 X.env)]) (hs2 : starEach [e2] X.env = [(false, eval e2 X.env)]) :
    SI X E tg (.Call (.Name "range" p) [e, e2] [] pos) (fRng2 fe fe2) := PI.imp (pi_range2 hg hm (pa_cons he (pa_cons he2 pa_nil hs2) (by rw [hs, hs2])) hs hs2) fun σ H Q ⟨ι, env, st, eR, S, go⟩ =>
  ⟨ι, env, st, eR, S, Go.bind go fun ι1 H1 d v st1 x1 S1 r1 go1 => ⟨ι1, env, st1, eR.mono x1, S1, Go.bind go1 fun ι2 H2 d2 v2 st2 x2 S2 r2 go2 => by
    cases r1 with
    | int i =>
      cases r2 with
      | int j =>
        obtain ⟨c, g⟩ := Go.guard go2
        simp only [Bool.and_eq_true] at c
        exact ⟨i, j, rfl, ⟨(rng_ok c.1).1, (rng_ok c.1).2, (rng_ok c.2).1, (rng_ok c.2).2⟩, g ι2 H2 _ (Ext.refl _ _) S2 (itr_rel i _)⟩
      | _ => exact (show False from go2).elim
    | _ => exact (show False from go2).elim⟩⟩
end
end PyI

/-! IO_: targets, loops, comprehensions. -/
namespace PyI
open PySem PySem.Spec PyProof.Rows L2

theorem PG.imp {X : Cx} {e : Expr} {t t' : TG} (h : PG X e t) (i : ∀ v σ H Q, t' v σ H Q → t v σ H Q) : PG X e t' := ⟨fun pins s σ H v u Q I r q => h.run pins s σ H v u Q I r (i v σ H Q q)⟩
theorem PS.imp {X : Cx} {e : Stmt} {t t' : TS} (h : PS X e t) (i : ∀ D σ H, t' D σ H → t D σ H) : PS X e t' := ⟨fun pins s σ H D I q => h.run pins s σ H D I (i D σ H q)⟩
theorem PSs.imp {X : Cx} {e : List Stmt} {t t' : TS} (h : PSs X e t) (i : ∀ D σ H, t' D σ H → t D σ H) : PSs X e t' := ⟨fun pins s σ H D I q => h.run pins s σ H D I (i D σ H q)⟩

/-! ### targets -/
/-- the slots outside S are as they were -/
def Agr (S : List Nat) (σ σ' : L2.St) : Prop := σ'.length = σ.length ∧ ∀ j, j ∉ S → σ'[j]? = σ[j]?
theorem Agr.refl (S : List Nat) (σ : L2.St) : Agr S σ σ := ⟨rfl, fun _ _ => rfl⟩
theorem Agr.trans {S : List Nat} {σ σ1 σ2 : L2.St} (a : Agr S σ σ1) (b : Agr S σ1 σ2) : Agr S σ σ2 := ⟨b.1.trans a.1, fun j h => (b.2 j h).trans (a.2 j h)⟩
theorem Agr.mono {S T : List Nat} {σ σ1 : L2.St} (a : Agr S σ σ1) (h : ∀ j ∈ S, j ∈ T) : Agr T σ σ1 := ⟨a.1, fun j hj => a.2 j fun z => hj (h j z)⟩
theorem Agr.set (σ : L2.St) (i : Nat) (o : Option V) : Agr [i] σ (σ.set i o) := ⟨List.length_set, fun j h => List.getElem?_set_ne (fun e => h (by simp [e]))⟩
def Tg.ns : Tg → List Nat
  | .name i => [i]
  | .two a b => a.ns ++ b.ns
  | .three a b c => a.ns ++ b.ns ++ c.ns
def sG (K : PySem.W.Frag) (t : Tg) : TG := fun v σ H Q => ∃ ι env st d env', EnvR K ι H env σ ∧ StR K ι H st ∧ RelD K ι H d v ∧ tgSet st t d env = some env' ∧ ∀ σ', EnvR K ι H env' σ' → Agr t.ns σ σ' → Q σ' H
theorem EnvR.set {K : PySem.W.Frag} {ι : List Addr} {H : Hp} {env : Env} {σ : L2.St} {d : D} {v : V} (e : EnvR K ι H env σ) (r : RelD K ι H d v) (i : Nat) : EnvR K ι H (env.set i (some d)) (σ.set i (some v)) := by
  refine ⟨by rw [List.length_set, List.length_set, e.len], fun j d' h => ?_⟩
  by_cases hj : i = j
  · subst hj
    by_cases hl : i < env.length
    · rw [List.getElem?_set_self hl] at h
      cases h
      exact ⟨v, by rw [List.getElem?_set_self (by rw [← e.len]; exact hl)], r⟩
    · rw [List.getElem?_eq_none (by rw [List.length_set]; omega)] at h; cases h
  · rw [List.getElem?_set_ne hj] at h ⊢
    exact e.get j d' h
section
variable {X : Cx} {pos : Pos}
theorem sg_name {i : Nat} {x : Str} (hN : X.N.Nodup) (hi : X.N[i]? = some x) (hx : Loc X.env.scope x) (hf : X.fn x = true ∨ X.env.scope.names.lookup x = some .local) : PG X (.Name x pos) (sG X.K (.name i)) :=
  PG.imp (pg_name hN hi hx hf) fun v σ H Q ⟨ι, env, st, d, env', eR, S, r, e, q⟩ => by
    cases e
    exact q _ (eR.set r i) (Agr.set σ i _)
theorem PG.or {X : Cx} {e : Expr} {t u : TG} (h : PG X e t) (k : PG X e u) : PG X e (fun v σ H Q => t v σ H Q ∨ u v σ H Q) := ⟨fun pins s σ H v w Q I r q => q.elim (h.run pins s σ H v w Q I r) (k.run pins s σ H v w Q I r)⟩
/-- what may be parted: a tuple, a list -/
theorem seq_parts {K : PySem.W.Frag} {ι : List Addr} {H : Hp} {st : Sto} {d : D} {v : V} {xs : List D} (S : StR K ι H st) (r : RelD K ι H d v) (h : seqOf st d = some xs) :
    ∃ a vs, v = .ref a ∧ RelDs K ι H xs vs ∧ (SqT K H a vs ∨ SqL K H a vs) := by
  cases r with
  | @tup p vs ds hp rs => cases h; exact ⟨p, vs, rfl, rs, .inl (.of hp)⟩
  | @rol p vs ds hp rs => cases h; exact ⟨p, vs, rfl, rs, .inr hp.seq⟩
  | @ref n p hn =>
    obtain ⟨a, vs, e, e1, rs⟩ := lst_of S (listAt_some h)
    rw [hn] at e; cases e
    exact ⟨p, vs, rfl, rs, .inr (.inl (.inl e1))⟩
  | _ => cases h
theorem sg_two {a b : Expr} {ta tb : Tg} {k : Nat} (hc : X.calm = true) (ha : PG X a (sG X.K ta)) (hb : PG X b (sG X.K tb))
    (h1 : (assignEach [a, b] X.env).map (·.2) = assign a X.env :: (assignEach [b] X.env).map (·.2)) (h2 : (assignEach [b] X.env).map (·.2) = assign b X.env :: (assignEach [] X.env).map (·.2))
    (hn : (assignEach [a, b] X.env).length = 2) (hst : (assignEach [a, b] X.env).findIdx? (·.1) = none) : PG X (.Tuple [a, b] k pos) (sG X.K (.two ta tb)) :=
  PG.imp (PG.or (pg_tup hc (pgs_cons ha (pgs_cons hb pgs_nil h2) h1) hn hst) (pg_unl hc (pgs_cons ha (pgs_cons hb pgs_nil h2) h1) hn hst)) fun v σ H Q ⟨ι, env, st, d, env', eR, S, r, e, q⟩ => by
    unfold tgSet at e
    split at e
    · rename_i x y zz
      obtain ⟨p, vs, rfl, rs, hp⟩ := seq_parts S r zz
      obtain ⟨e1, h1, h2⟩ := bind_some e
      cases rs with
      | cons r1 rs =>
        cases rs with
        | cons r2 rs =>
          cases rs
          have k := fun (σ1 : L2.St) (eR1 : EnvR X.K ι H e1 σ1) (ag1 : Agr ta.ns σ σ1) (σ2 : L2.St) (eR2 : EnvR X.K ι H env' σ2) (ag2 : Agr tb.ns σ1 σ2) => q σ2 eR2 ((ag1.mono fun j hj => List.mem_append_left _ hj).trans (ag2.mono fun j hj => List.mem_append_right _ hj))
          rcases hp with hp | hp
          · exact .inl ⟨p, _, rfl, hp, rfl, _, _, rfl, ι, env, st, _, e1, eR, S, r1, h1, fun σ1 eR1 ag1 => ⟨_, _, rfl, ι, e1, st, _, env', eR1, S, r2, h2, fun σ2 eR2 ag2 => ⟨rfl, k σ1 eR1 ag1 σ2 eR2 ag2⟩⟩⟩
          · exact .inr ⟨p, _, rfl, hp, rfl, _, _, rfl, ι, env, st, _, e1, eR, S, r1, h1, fun σ1 eR1 ag1 => ⟨_, _, rfl, ι, e1, st, _, env', eR1, S, r2, h2, fun σ2 eR2 ag2 => ⟨rfl, k σ1 eR1 ag1 σ2 eR2 ag2⟩⟩⟩
    · cases e
theorem sg_three {a b c : Expr} {ta tb tc : Tg} {k : Nat} (hc : X.calm = true) (ha : PG X a (sG X.K ta)) (hb : PG X b (sG X.K tb)) (hcc : PG X c (sG X.K tc))
    (h1 : (assignEach [a, b, c] X.env).map (·.2) = assign a X.env :: (assignEach [b, c] X.env).map (·.2)) (h2 : (assignEach [b, c] X.env).map (·.2) = assign b X.env :: (assignEach [c] X.env).map (·.2)) (h3 : (assignEach [c] X.env).map (·.2) = assign c X.env :: (assignEach [] X.env).map (·.2))
    (hn : (assignEach [a, b, c] X.env).length = 3) (hst : (assignEach [a, b, c] X.env).findIdx? (·.1) = none) : PG X (.Tuple [a, b, c] k pos) (sG X.K (.three ta tb tc)) :=
  PG.imp (PG.or (pg_tup hc (pgs_cons ha (pgs_cons hb (pgs_cons hcc pgs_nil h3) h2) h1) hn hst) (pg_unl hc (pgs_cons ha (pgs_cons hb (pgs_cons hcc pgs_nil h3) h2) h1) hn hst)) fun v σ H Q ⟨ι, env, st, d, env', eR, S, r, e, q⟩ => by
    unfold tgSet at e
    split at e
    · rename_i x y z zz
      obtain ⟨p, vs, rfl, rs, hp⟩ := seq_parts S r zz
      obtain ⟨e1, h1, e⟩ := bind_some e
      obtain ⟨e2, h2, h3⟩ := bind_some e
      cases rs with
      | cons r1 rs =>
        cases rs with
        | cons r2 rs =>
          cases rs with
          | cons r3 rs =>
            cases rs
            have k : ∀ (σ1 : L2.St) (ag1 : Agr ta.ns σ σ1) (σ2 : L2.St) (ag2 : Agr tb.ns σ1 σ2) (σ3 : L2.St) (eR3 : EnvR X.K ι H env' σ3) (ag3 : Agr tc.ns σ2 σ3), Q σ3 H := by
              intro σ1 ag1 σ2 ag2 σ3 eR3 ag3
              refine q σ3 eR3 (((ag1.mono fun j hj => ?_).trans (ag2.mono fun j hj => ?_)).trans (ag3.mono fun j hj => List.mem_append_right _ hj))
              · exact List.mem_append_left _ (List.mem_append_left _ hj)
              · exact List.mem_append_left _ (List.mem_append_right _ hj)
            rcases hp with hp | hp
            · exact .inl ⟨p, _, rfl, hp, rfl, _, _, rfl, ι, env, st, _, e1, eR, S, r1, h1, fun σ1 eR1 ag1 => ⟨_, _, rfl, ι, e1, st, _, e2, eR1, S, r2, h2, fun σ2 eR2 ag2 => ⟨_, _, rfl, ι, e2, st, _, env', eR2, S, r3, h3, fun σ3 eR3 ag3 => ⟨rfl, k σ1 ag1 σ2 ag2 σ3 eR3 ag3⟩⟩⟩⟩
            · exact .inr ⟨p, _, rfl, hp, rfl, _, _, rfl, ι, env, st, _, e1, eR, S, r1, h1, fun σ1 eR1 ag1 => ⟨_, _, rfl, ι, e1, st, _, e2, eR1, S, r2, h2, fun σ2 eR2 ag2 => ⟨_, _, rfl, ι, e2, st, _, env', eR2, S, r3, h3, fun σ3 eR3 ag3 => ⟨rfl, k σ1 ag1 σ2 ag2 σ3 eR3 ag3⟩⟩⟩⟩
    · cases e
end

/-! ### statements -/
def GoS (K : PySem.W.Frag) (E : L2.St → XW) (D : Ends) (ι : List Addr) (H : Hp) : SR → Prop
  | .nx env st => ∀ ι' H' σ', Ext K ι H ι' H' → StR K ι' H' st → EnvR K ι' H' env σ' → D.nx σ' H'
  | .ret d st => ∀ ι' H' v, Ext K ι H ι' H' → StR K ι' H' st → RelD K ι' H' d v → D.rt v H'
  | .brk env st => ∀ ι' H' σ', Ext K ι H ι' H' → StR K ι' H' st → EnvR K ι' H' env σ' → D.bk σ' H'
  | .cont env st => ∀ ι' H' σ', Ext K ι H ι' H' → StR K ι' H' st → EnvR K ι' H' env σ' → D.ct σ' H'
  | .exc n env st => ∀ ι' H' σ', Ext K ι H ι' H' → StR K ι' H' st → EnvR K ι' H' env σ' → E σ' n st ι' H'
  | .stuck => False
def sS (K : PySem.W.Frag) (E : L2.St → XW) (f : Env → Sto → SR) : TS := fun D σ H => ∃ ι env st, EnvR K ι H env σ ∧ StR K ι H st ∧ GoS K E D ι H (f env st)
abbrev SS (X : Cx) (E : L2.St → XW) (s : Stmt) (f : Env → Sto → SR) : Prop := PS X s (sS X.K E f)
abbrev SSs (X : Cx) (E : L2.St → XW) (s : List Stmt) (f : Env → Sto → SR) : Prop := PSs X s (sS X.K E f)
section
variable {K : PySem.W.Frag} {E : L2.St → XW} {D D' : Ends} {ι ι' : List Addr} {H H' : Hp}
theorem GoS.mono {r : SR} (x : Ext K ι H ι' H') (h : GoS K E D ι H r) : GoS K E D ι' H' r := by
  cases r with
  | stuck => exact h
  | _ => exact fun i1 H1 b y S r => h i1 H1 b (x.trans y) S r
/-- first a part, then what hangs on it -/
theorem GoS.thn {α β : Type} {R : List Addr → Hp → α → β → Prop} {T : β → Hp → Prop} {r : Res α} {env : Env} {σ : L2.St} {f : α → Sto → SR} (eR : EnvR K ι H env σ) (h : GoS K E D ι H (r.thn env f))
    (k : ∀ ι1 H1 a b st1, Ext K ι H ι1 H1 → StR K ι1 H1 st1 → R ι1 H1 a b → GoS K E D ι1 H1 (f a st1) → T b H1) : Go K (E σ) R ι H T r := by
  cases r with
  | ok a st => exact fun i1 H1 b y S1 r => k i1 H1 a b st y S1 r (GoS.mono y h)
  | exc n st => exact fun i1 H1 y S1 => h i1 H1 σ y S1 (eR.mono y)
  | stuck => exact h
end

section
variable {X : Cx} {E : L2.St → XW} {tg e e2 : Expr} {t : Tg} {fe fe2 : Env → Sto → Res D} {fi : Env → Sto → Res Wk} {fb fb2 : Env → Sto → SR} {pos : Pos} {body body2 : List Stmt} {s : Stmt}
theorem for_core {K : PySem.W.Frag} {D : Ends} {ι1 : List Addr} {H1 : Hp} {st1 : Sto} {w : Wk} {J : It} {env : Env} {σ : L2.St} (S1 : StR K ι1 H1 st1) (eR1 : EnvR K ι1 H1 env σ) (r1 : ItR K ι1 H1 w J) (go1 : GoS K E D ι1 H1 (forL w t fb w.xs env st1)) :
    ∃ W : Nat → Nat → L2.St → Hp → Prop, (∃ m, W 0 m σ H1) ∧ ∀ i m σ H, W i m σ H →
      (J.stop i H ∧ D.nx σ H) ∨ (J.go i H ∧ ∃ N : L2.St → Hp → Prop, (∀ σ' H', N σ' H' → ∃ m', m' < m ∧ W (i + 1) m' σ' H') ∧ ∀ x H', J.yld i H x H' → sG K t x σ H' fun σ2 H2 => sS K E fb { D with nx := N, ct := N, bk := D.nx } σ2 H2) := by
  let W : Nat → Nat → L2.St → Hp → Prop := fun i m σ' H' => ∃ ι' env' st', EnvR K ι' H' env' σ' ∧ StR K ι' H' st' ∧ Ext K ι1 H1 ι' H' ∧ i ≤ w.xs.length ∧ m = w.xs.length - i ∧ GoS K E D ι' H' (forL w t fb (w.xs.drop i) env' st')
  refine ⟨W, ⟨_, ι1, env, st1, eR1, S1, Ext.refl _ _, Nat.zero_le _, rfl, go1⟩, ?_⟩
  rintro i m σ' H' ⟨ι', env', st', eR', S', x', hi, rfl, go'⟩
  by_cases hlt : i < w.xs.length
  · rw [List.drop_eq_getElem_cons hlt] at go'
    unfold forL at go'
    by_cases hst : w.still st' = true
    · rw [if_pos hst] at go'
      obtain ⟨it, _⟩ := r1 ι' H' st' x' S' hst
      obtain ⟨hgo, hy⟩ := it i w.xs[i] (List.getElem?_eq_getElem hlt)
      refine .inr ⟨hgo, W (i + 1) (w.xs.length - (i + 1)), fun σ2 H2 w2 => ⟨_, by omega, w2⟩, fun x H'' yy => ?_⟩
      obtain ⟨x2, S2, r2⟩ := hy x H'' yy
      cases ht : tgSet st' t w.xs[i] env' with
      | none => rw [ht] at go'; exact (show False from go').elim
      | some e2 =>
        rw [ht] at go'
        dsimp only at go'
        refine ⟨ι', env', st', w.xs[i], e2, eR'.mono x2, S2, r2, ht, fun σ3 eR3 _ => ⟨ι', e2, st', eR3, S2, ?_⟩⟩
        have go2 := GoS.mono x2 go'
        generalize fb e2 st' = o at go2 ⊢
        cases o with
        | nx e4 st4 => exact fun ι4 H4 σ4 x4 S4 eR4 => ⟨ι4, e4, st4, eR4, S4, (x'.trans x2).trans x4, hlt, rfl, GoS.mono x4 go2⟩
        | cont e4 st4 => exact fun ι4 H4 σ4 x4 S4 eR4 => ⟨ι4, e4, st4, eR4, S4, (x'.trans x2).trans x4, hlt, rfl, GoS.mono x4 go2⟩
        | brk e4 st4 => exact go2
        | ret d st4 => exact go2
        | exc n e4 st4 => exact go2
        | stuck => exact go2
    · rw [if_neg hst] at go'; exact (show False from go').elim
  · have hi' : i = w.xs.length := by omega
    rw [hi', List.drop_length] at go'
    unfold forL at go'
    by_cases hst : w.still st' = true
    · rw [if_pos hst] at go'
      obtain ⟨_, hs⟩ := r1 ι' H' st' x' S' hst
      exact .inl ⟨by rw [hi']; exact hs, go' ι' H' σ' (Ext.refl _ _) S' eR'⟩
    · rw [if_neg hst] at go'; exact (show False from go').elim
def fFor (t : Tg) (fi : Env → Sto → Res Wk) (fb : Env → Sto → SR) : Env → Sto → SR := fun env st => (fi env st).thn env fun w st => forL w t fb w.xs env st
theorem ss_for (hp : PassesOwn (model X.prog X.w) X.A X.env X.xe) (hc : X.calm = true) (hi : SI X E tg e fi) (hg : PG X tg (sG X.K t)) (hb : SSs X E body fb)
    (hs : ∀ x, foldedSetIterable e X.env x = pure x) : SS X E (.For tg e body [] pos) (fFor t fi fb) := PS.imp (ps_for hp hc hi hg hb hs) fun D σ H ⟨ι, env, st, eR, S, go⟩ =>
  ⟨ι, env, st, eR, S, GoS.thn eR go fun ι1 H1 w J st1 x1 S1 r1 go1 => for_core S1 (eR.mono x1) r1 go1⟩
def fWhile (fc : Env → Sto → Res D) (fb : Env → Sto → SR) : Env → Sto → SR := fun env st => whileL (fT fc) fb most env st
theorem ss_while (hp : PassesOwn (model X.prog X.w) X.A X.env X.xe) (hc : ST X E e fe) (hb : SSs X E body fb) : SS X E (.While e body [] pos) (fWhile fe fb) := PS.imp (ps_while hp hc hb) fun D σ H ⟨ι, env, st, eR, S, go⟩ => by
  refine ⟨fun m σ' H' => ∃ ι' env' st', EnvR X.K ι' H' env' σ' ∧ StR X.K ι' H' st' ∧ GoS X.K E D ι' H' (whileL (fT fe) fb m env' st'), ⟨most, ι, env, st, eR, S, go⟩, ?_⟩
  rintro m σ' H' ⟨ι', env', st', eR', S', go'⟩
  cases m with
  | zero => exact (show False from go').elim
  | succ m =>
    unfold whileL at go'
    refine ⟨ι', env', st', eR', S', GoS.thn eR' go' fun ι1 H1 b b' st1 x1 S1 r1 go1 => ?_⟩
    cases (show b = b' from r1)
    cases b with
    | false =>
      rw [if_neg Bool.false_ne_true] at go1 ⊢
      exact go1 ι1 H1 σ' (Ext.refl _ _) S1 (eR'.mono x1)
    | true =>
      rw [if_pos rfl] at go1 ⊢
      refine ⟨_, fun σ2 H2 w2 => ⟨m, Nat.lt_succ_self _, w2⟩, ι1, env', st1, eR'.mono x1, S1, ?_⟩
      generalize fb env' st1 = o at go1 ⊢
      cases o with
      | nx e4 st4 => exact fun ι4 H4 σ4 x4 S4 eR4 => ⟨ι4, e4, st4, eR4, S4, GoS.mono x4 go1⟩
      | cont e4 st4 => exact fun ι4 H4 σ4 x4 S4 eR4 => ⟨ι4, e4, st4, eR4, S4, GoS.mono x4 go1⟩
      | brk e4 st4 => exact go1
      | ret d st4 => exact go1
      | exc n e4 st4 => exact go1
      | stuck => exact go1
def fIf (fc : Env → Sto → Res D) (fa fb : Env → Sto → SR) : Env → Sto → SR := fun env st => (fc env st).thn env fun x st => match x.truth st with
    | some true => fa env st
    | some false => fb env st
    | none => .stuck
theorem ss_if (hc : ST X E e fe) (ha : SSs X E body fb) (hb : SSs X E body2 fb2) : SS X E (.If e body body2 pos) (fIf fe fb fb2) := PS.imp (ps_if hc ha hb) fun D σ H ⟨ι, env, st, eR, S, go⟩ => by
  refine ⟨ι, env, st, eR, S, ?_⟩
  have go2 : GoS X.K E D ι H ((fT fe env st).thn env fun b st => if b = true then fb env st else fb2 env st) := by
    unfold fIf at go
    unfold fT
    cases h : fe env st with
    | ok x st1 =>
      simp only [h, Res.thn_ok] at go
      simp only [Res.bind_ok, truthy']
      cases hx : x.truth st1 with
      | none => rw [hx] at go; exact go
      | some k => rw [hx] at go; cases k <;> exact go
    | exc n st1 => rw [h] at go; exact go
    | stuck => rw [h] at go; exact go
  refine GoS.thn eR go2 fun ι1 H1 b b' st1 x1 S1 r1 go1 => ?_
  cases (show b = b' from r1)
  cases b with
  | true => exact ⟨ι1, env, st1, eR.mono x1, S1, go1⟩
  | false => exact ⟨ι1, env, st1, eR.mono x1, S1, go1⟩
theorem ss_expr (he : SE X E e fe) (hs : swapsWith e none pos.line X.env = pure false) : SS X E (.Expr e pos) (fun env st => (fe env st).thn env fun _ st => .nx env st) := PS.imp (ps_expr he hs) fun D σ H ⟨ι, env, st, eR, S, go⟩ =>
  ⟨ι, env, st, eR, S, GoS.thn eR go fun ι1 H1 d v st1 x1 S1 r1 go1 => go1 ι1 H1 σ (Ext.refl _ _) S1 (eR.mono x1)⟩
theorem ss_ret (he : SE X E e fe) : SS X E (.Return (some e) pos) (fun env st => (fe env st).thn env fun d st => .ret d st) := PS.imp (ps_ret he) fun D σ H ⟨ι, env, st, eR, S, go⟩ =>
  ⟨ι, env, st, eR, S, GoS.thn eR go fun ι1 H1 d v st1 x1 S1 r1 go1 => go1 ι1 H1 v (Ext.refl _ _) S1 r1⟩
theorem ss_pass : SS X E (.Pass pos) (fun env st => .nx env st) := PS.imp ps_pass fun D σ H ⟨ι, env, st, eR, S, go⟩ => go ι H σ (Ext.refl _ _) S eR
theorem ss_brk : SS X E (.Break pos) (fun env st => .brk env st) := PS.imp ps_break fun D σ H ⟨ι, env, st, eR, S, go⟩ => go ι H σ (Ext.refl _ _) S eR
theorem ss_cont : SS X E (.Continue pos) (fun env st => .cont env st) := PS.imp ps_continue fun D σ H ⟨ι, env, st, eR, S, go⟩ => go ι H σ (Ext.refl _ _) S eR
theorem ss_never : SS X E s (fun _ _ => .stuck) := PS.imp ps_never fun D σ H ⟨ι, env, st, eR, S, go⟩ => go
theorem sss_nil : SSs X E [] (fun env st => .nx env st) := PSs.imp pss_nil fun D σ H ⟨ι, env, st, eR, S, go⟩ => go ι H σ (Ext.refl _ _) S eR
theorem sss_cons (h : SS X E s fb) (k : SSs X E body fb2) : SSs X E (s :: body) (fun env st => match fb env st with
    | .nx e st => fb2 e st
    | o => o) := PSs.imp (pss_cons h k) fun D σ H ⟨ι, env, st, eR, S, go⟩ => ⟨ι, env, st, eR, S, by
  dsimp only at go
  generalize fb env st = o at go ⊢
  cases o with
  | nx e st1 => exact fun ι1 H1 σ1 x1 S1 eR1 => ⟨ι1, e, st1, eR1, S1, GoS.mono x1 go⟩
  | _ => exact go⟩

/-! ### assignments -/
theorem ss_asg (he : SE X E e fe) (hg : PG X tg (sG X.K t)) (hs : swapsWithSole [tg] e pos.line X.env = pure false) (hw : swappedStores [tg] e X.env = pure none)
    (h1 : (assignEach [tg] X.env).map (·.2) = [assign tg X.env]) : SS X E (.Assign [tg] e pos) (fun env st => (fe env st).thn env fun d st => match tgSet st t d env with
      | some e => .nx e st
      | none => .stuck) := PS.imp (ps_asg he hg hs hw h1) fun D σ H ⟨ι, env, st, eR, S, go⟩ =>
  ⟨ι, env, st, eR, S, GoS.thn eR go fun ι1 H1 d v st1 x1 S1 r1 go1 => by
    cases ht : tgSet st1 t d env with
    | none => rw [ht] at go1; exact (show False from go1).elim
    | some e1 =>
      rw [ht] at go1
      exact ⟨ι1, env, st1, d, e1, eR.mono x1, S1, r1, ht, fun σ' eR' _ => go1 ι1 H1 σ' (Ext.refl _ _) S1 eR'⟩⟩
/-- o[i] = v -/
theorem tel_set {K : PySem.W.Frag} {ι : List Addr} {H : Hp} {st st' : Sto} {o i d : D} {x y v : V} (S : StR K ι H st) (ro : RelD K ι H o x) (ri : RelD K ι H i y) (rd : RelD K ι H d v) (h : setI o i d st = some st') :
    ∃ H', (∀ Q : Hp → Prop, Q H' → rSetL x y v H Q ∨ rSetA x y v H Q) ∧ Ext K ι H ι H' ∧ StR K ι H' st' := by
  unfold setI at h
  cases ro with
  | @ref n a ha =>
    dsimp only at h
    cases hl : listAt st n with
    | none =>
      rw [hl] at h
      obtain ⟨H', p, x, S'⟩ := dput_rel S h ha ri rd
      exact ⟨H', fun Q q => .inr ⟨a, H', rfl, p, q⟩, x, S'⟩
    | some xs =>
      rw [hl] at h
      obtain ⟨b, vs, hb, e', r⟩ := lst_of S (listAt_some hl)
      rw [ha] at hb; cases hb
      cases ri with
      | int k =>
        obtain ⟨j, hj, rfl⟩ := map_some h
        have ho : ∃ u, H a = some u ∧ ∀ v w, u ≠ .frz v w := ⟨_, e', fun _ _ z => by cases z⟩
        have x := Ext.put (o := .lst (vs.set j v)) S ha ho
        exact ⟨_, fun Q q => .inl ⟨a, vs, k, j, rfl, rfl, e', by rw [← r.length]; exact hj, q⟩, x, S.put ha ho ⟨_, upd_same, (r.mono x).set j (rd.mono x)⟩⟩
      | _ => cases h
  | _ => cases h
theorem ss_sub {o i : Expr} {fo fi' : Env → Sto → Res D} {p : Pos} (hu : X.A.units + 1 < cLine) (he : SE X E e fe) (ho : SE X E o fo) (hi : SE X E i fi')
    (ha : ∀ v, assign (.Subscript o i p) X.env v = (do
      let ov ← holding [v] (eval o X.env)
      let iv ← holding [v, ov] (eval i X.env)
      standAt p
      holding [v, ov, iv] (setItem ov iv v)
      release [v, ov, iv] [])) (hs : swapsWithSole [.Subscript o i p] e pos.line X.env = pure false) (hw : swappedStores [.Subscript o i p] e X.env = pure none)
    (h1 : (assignEach [.Subscript o i p] X.env).map (·.2) = [assign (.Subscript o i p) X.env]) : SS X E (.Assign [.Subscript o i p] e pos) (fun env st => (fe env st).thn env fun d st => (fo env st).thn env fun x st => (fi' env st).thn env fun y st => match setI x y d st with
      | some st => .nx env st
      | none => .stuck) := PS.imp (ps_asg he (pg_sub ho hi (PSet.or set_list (set_dict hu)) ha) hs hw h1) fun D σ H ⟨ι, env, st, eR, S, go⟩ =>
  ⟨ι, env, st, eR, S, GoS.thn eR go fun ι1 H1 d v st1 x1 S1 r1 go1 => ⟨ι1, env, st1, eR.mono x1, S1, GoS.thn (eR.mono x1) go1 fun ι2 H2 d2 v2 st2 x2 S2 r2 go2 =>
    ⟨ι2, env, st2, (eR.mono x1).mono x2, S2, GoS.thn ((eR.mono x1).mono x2) go2 fun ι3 H3 d3 v3 st3 x3 S3 r3 go3 => by
      cases h : setI d2 d3 d st3 with
      | none => rw [h] at go3; exact (show False from go3).elim
      | some st4 =>
        rw [h] at go3
        obtain ⟨H', k, x, S'⟩ := tel_set S3 (r2.mono x3) r3 ((r1.mono x2).mono x3) h
        exact k _ (go3 ι3 H' σ x S' ((((eR.mono x1).mono x2).mono x3).mono x))⟩⟩⟩
theorem ss_par {i j : Nat} {x y : Str} {a b : Expr} {fs : Env → Sto → Res (List D)} {px py pt : Pos} {kt k2 pt2} (hc : X.calm = true) (hN : X.N.Nodup) (hi : X.N[i]? = some x) (hj : X.N[j]? = some y) (hij : i ≠ j)
    (hx : X.env.scope.names.lookup x = some .local) (hy : X.env.scope.names.lookup y = some .local) (ha : SA X E [a, b] fs)
    (hw : swappedStores [.Tuple [.Name x px, .Name y py] kt pt] (.Tuple [a, b] k2 pt2) X.env = pure (some [x, y]))
    (hs : swapsWithSole [.Tuple [.Name x px, .Name y py] kt pt] (.Tuple [a, b] k2 pt2) pos.line X.env = pure false) :
    SS X E (.Assign [.Tuple [.Name x px, .Name y py] kt pt] (.Tuple [a, b] k2 pt2) pos) (fun env st => ((fs env st).bind fun xs st => guard' (decide (xs.length ≤ 16777216)) (.ok (.tup xs) st)).thn env fun d st => match tgSet st (.two (.name i) (.name j)) d env with
      | some e => .nx e st
      | none => .stuck) := PS.imp (ps_par hc hN hi hj hij hx hy ha hw hs) fun D σ H ⟨ι, env, st, eR, S, go⟩ => ⟨ι, env, st, eR, S, by
  refine Go.imp (Q := fun vs H1 => ∃ v w, vs = [v, w] ∧ D.nx ((σ.set i (some v)).set j (some w)) H1) ?_ fun _ _ q => q
  dsimp only at go
  cases h : fs env st with
  | exc n st1 =>
    rw [h] at go
    exact fun ι1 H1 x1 S1 => go ι1 H1 σ x1 S1 (eR.mono x1)
  | stuck => rw [h] at go; exact go
  | ok xs st1 =>
    rw [h] at go
    intro ι1 H1 vs x1 S1 r1
    have go1 := GoS.mono x1 go
    rw [Res.bind_ok] at go1
    unfold guard' at go1
    split at go1
    · simp only [Res.thn_ok, tgSet, seqOf] at go1
      split at go1
      · rename_i e1 h1
        split at h1
        · rename_i p q zz
          cases zz
          cases r1 with
          | cons r1 r2 =>
            cases r2 with
            | cons r2 r3 =>
              cases r3
              rw [Option.bind_some] at h1
              cases h1
              exact ⟨_, _, rfl, go1 ι1 H1 _ (Ext.refl _ _) S1 (((eR.mono x1).set r1 i).set r2 j)⟩
        · cases h1
      · exact go1.elim
    · exact go1.elim⟩
theorem ss_par3 {i j l : Nat} {x y z : Str} {a b c : Expr} {fs : Env → Sto → Res (List D)} {px py pz pt : Pos} {kt k2 pt2} (hc : X.calm = true) (hN : X.N.Nodup) (hi : X.N[i]? = some x) (hj : X.N[j]? = some y) (hl : X.N[l]? = some z) (hij : i ≠ j) (hil : i ≠ l) (hjl : j ≠ l)
    (hx : X.env.scope.names.lookup x = some .local) (hy : X.env.scope.names.lookup y = some .local) (hz : X.env.scope.names.lookup z = some .local) (ha : SA X E [a, b, c] fs)
    (hw : swappedStores [.Tuple [.Name x px, .Name y py, .Name z pz] kt pt] (.Tuple [a, b, c] k2 pt2) X.env = pure (some [x, y, z]))
    (hs : swapsWithSole [.Tuple [.Name x px, .Name y py, .Name z pz] kt pt] (.Tuple [a, b, c] k2 pt2) pos.line X.env = pure false) :
    SS X E (.Assign [.Tuple [.Name x px, .Name y py, .Name z pz] kt pt] (.Tuple [a, b, c] k2 pt2) pos) (fun env st => ((fs env st).bind fun xs st => guard' (decide (xs.length ≤ 16777216)) (.ok (.tup xs) st)).thn env fun d st => match tgSet st (.three (.name i) (.name j) (.name l)) d env with
      | some e => .nx e st
      | none => .stuck) := PS.imp (ps_par3 hc hN hi hj hl hij hil hjl hx hy hz ha hw hs) fun D σ H ⟨ι, env, st, eR, S, go⟩ => ⟨ι, env, st, eR, S, by
  refine Go.imp (Q := fun vs H1 => ∃ u v w, vs = [u, v, w] ∧ D.nx (((σ.set i (some u)).set j (some v)).set l (some w)) H1) ?_ fun _ _ q => q
  dsimp only at go
  cases h : fs env st with
  | exc n st1 =>
    rw [h] at go
    exact fun ι1 H1 x1 S1 => go ι1 H1 σ x1 S1 (eR.mono x1)
  | stuck => rw [h] at go; exact go
  | ok xs st1 =>
    rw [h] at go
    intro ι1 H1 vs x1 S1 r1
    have go1 := GoS.mono x1 go
    rw [Res.bind_ok] at go1
    unfold guard' at go1
    split at go1
    · simp only [Res.thn_ok, tgSet, seqOf] at go1
      split at go1
      · rename_i e1 h1
        split at h1
        · rename_i p q r zz
          cases zz
          cases r1 with
          | cons r1 r2 =>
            cases r2 with
            | cons r2 r3 =>
              cases r3 with
              | cons r3 r4 =>
                cases r4
                rw [Option.bind_some, Option.bind_some] at h1
                cases h1
                exact ⟨_, _, _, rfl, go1 ι1 H1 _ (Ext.refl _ _) S1 ((((eR.mono x1).set r1 i).set r2 j).set r3 l)⟩
        · cases h1
      · exact go1.elim
    · exact go1.elim⟩
theorem ss_retN : SS X E (.Return none pos) (fun env st => .ret .non st) := PS.imp ps_retN fun D σ H ⟨ι, env, st, eR, S, go⟩ => go ι H .non (Ext.refl _ _) S .non
theorem ss_doc {x : Str} {j : Nat} {p : Pos} : SS X E (.Expr (.Constant (.str x) j p) pos) (fun env st => .nx env st) := PS.imp ps_doc fun D σ H ⟨ι, env, st, eR, S, go⟩ => go ι H σ (Ext.refl _ _) S eR
end
end PyI

/-! IP_: comprehensions; a dict walked by its items. -/
namespace PyI
open PySem PySem.Spec PyProof.Rows L2

section
variable {K : PySem.W.Frag} {ι ι' : List Addr} {H H' : Hp} {st : Sto}
/-- what stands outside the store comes into it -/
theorem StR.adopt {p : Addr} {c : Cell} (S : StR K ι H st) (hp : p ∉ ι) (hc : CellR K (ι ++ [p]) H p c) : StR K (ι ++ [p]) H (st ++ [c]) where
  len := by rw [List.length_append, List.length_append, S.len]; rfl
  nd := by
    rw [List.nodup_append]
    exact ⟨S.nd, List.pairwise_singleton _ _, fun a ha b hb e => hp (by rw [List.mem_singleton.mp hb] at e; exact e ▸ ha)⟩
  cell := fun n d a e1 e2 => by
    have x : Ext0 K ι H (ι ++ [p]) H := ⟨List.prefix_append _ _, fun _ _ h => h, fun _ _ h => h⟩
    by_cases hn : n < st.length
    · rw [List.getElem?_append_left hn] at e1
      rw [List.getElem?_append_left (by rw [S.len]; exact hn)] at e2
      exact (S.cell n d a e1 e2).mono0 x fun o e => e
    · have hl : (st ++ [c]).length = st.length + 1 := by rw [List.length_append]; rfl
      have hn' : n = st.length := by
        have := (List.getElem?_eq_some_iff.mp e1).1
        omega
      subst hn'
      rw [List.getElem?_append_right (Nat.le_refl _)] at e1
      rw [List.getElem?_append_right (by rw [S.len]; exact Nat.le_refl _), S.len] at e2
      simp only [Nat.sub_self, List.getElem?_cons_zero, Option.some.injEq] at e1 e2
      subst e1 e2
      exact hc
/-- a list outside the store is written -/
theorem out_ext {p : Addr} {vs ws : List V} (hp : H p = some (.lst vs)) : Ext0 K ι H ι (upd H p (.lst ws)) where
  pre := List.prefix_refl _
  tup := fun a ys h => by
    rw [upd_ne fun z => by rw [z, hp] at h; cases h]
    exact h
  frz := fun a ys h => by
    rcases h with ⟨o, h⟩ | h
    · exact .inl ⟨o, by rw [upd_ne fun z => by rw [z, hp] at h; cases h]; exact h⟩
    · exact .inr h
theorem StR.out {p : Addr} {vs ws : List V} (S : StR K ι H st) (hp : H p = some (.lst vs)) (hn : p ∉ ι) : StR K ι (upd H p (.lst ws)) st where
  len := S.len
  nd := S.nd
  cell := fun n c a e1 e2 => by
    have ha : a ≠ p := fun z => hn (by rw [← z]; exact List.mem_of_getElem? e2)
    exact (S.cell n c a e1 e2).mono0 (out_ext hp) fun o e => by rw [upd_ne ha]; exact e
theorem Ext.out {p : Addr} {ws : List V} (x : Ext K ι H ι' H') (hn : H p = none) (e : ∃ vs, H' p = some (.lst vs)) : Ext K ι H ι' (upd H' p (.lst ws)) := by
  obtain ⟨vs, e⟩ := e
  have y := out_ext (K := K) (ι := ι') (ws := ws) e
  exact { pre := x.pre
          old := fun a o h hm => by
            rw [upd_ne fun z => by rw [z, hn] at h; cases h]
            exact x.old a o h hm
          new := x.new
          lock := fun a o u h => by
            rw [upd_ne fun z => by rw [z, hn] at h; cases h]
            exact x.lock a o u h
          tup := fun a ys h => y.tup a ys (x.tup a ys h)
          frz := fun a ys h => y.frz a ys (x.frz a ys h) }
theorem wipe_get (σ : L2.St) : ∀ (vs : List Nat) (j : Nat), (wipe σ vs)[j]? = if j ∈ vs ∧ j < σ.length then some none else σ[j]?
  | [], j => by simp [wipe]
  | v :: vs, j => by
    unfold wipe
    have ih := wipe_get σ vs j
    by_cases hv : v = j
    · subst hv
      by_cases hl : v < σ.length
      · rw [List.getElem?_set_self (by rw [wipe_length]; exact hl), if_pos ⟨List.mem_cons_self, hl⟩]
      · rw [List.getElem?_eq_none (by rw [List.length_set, wipe_length]; omega), if_neg (fun z => hl z.2), List.getElem?_eq_none (by omega)]
    · rw [List.getElem?_set_ne hv, ih]
      have : (j ∈ v :: vs) ↔ j ∈ vs := by simp [Ne.symm hv]
      simp only [this]
theorem wipeE_get (env : Env) : ∀ (vs : List Nat) (j : Nat), (wipeE env vs)[j]? = if j ∈ vs ∧ j < env.length then some none else env[j]?
  | [], j => by simp [wipeE]
  | v :: vs, j => by
    unfold wipeE
    have ih := wipeE_get env vs j
    have wl : ∀ vs : List Nat, (wipeE env vs).length = env.length := fun vs => by
      induction vs with
      | nil => rfl
      | cons v vs ih => unfold wipeE; rw [List.length_set, ih]
    by_cases hv : v = j
    · subst hv
      by_cases hl : v < env.length
      · rw [List.getElem?_set_self (by rw [wl]; exact hl), if_pos ⟨List.mem_cons_self, hl⟩]
      · rw [List.getElem?_eq_none (by rw [List.length_set, wl]; omega), if_neg (fun z => hl z.2), List.getElem?_eq_none (by omega)]
    · rw [List.getElem?_set_ne hv, ih]
      have : (j ∈ v :: vs) ↔ j ∈ vs := by simp [Ne.symm hv]
      simp only [this]
theorem wipeE_length (env : Env) : ∀ vs : List Nat, (wipeE env vs).length = env.length
  | [] => rfl
  | v :: vs => by unfold wipeE; rw [List.length_set, wipeE_length env vs]
theorem EnvR.wipe {env : Env} {σ : L2.St} (e : EnvR K ι H env σ) (vs : List Nat) : EnvR K ι H (wipeE env vs) (L2.wipe σ vs) := by
  refine ⟨by rw [wipeE_length, wipe_length, e.len], fun i d h => ?_⟩
  rw [wipeE_get] at h
  rw [wipe_get]
  by_cases hc : i ∈ vs ∧ i < env.length
  · rw [if_pos hc] at h; cases h
  · rw [if_neg hc] at h
    rw [if_neg (by rw [← e.len]; exact hc)]
    exact e.get i d h
theorem Agr.wipe {σ σ' : L2.St} {S vs : List Nat} (a : Agr S (L2.wipe σ vs) σ') (h : ∀ j ∈ S, j ∈ vs) : L2.wipe σ' vs = L2.wipe σ vs := by
  apply List.ext_getElem?
  intro j
  have hl := a.1
  rw [wipe_length] at hl
  rw [wipe_get, wipe_get, hl]
  by_cases hc : j ∈ vs ∧ j < σ.length
  · rw [if_pos hc, if_pos hc]
  · rw [if_neg hc, if_neg hc]
    by_cases hj : j ∈ vs
    · have : ¬ j < σ.length := fun z => hc ⟨hj, z⟩
      rw [List.getElem?_eq_none (by omega), List.getElem?_eq_none (by omega)]
    · rw [a.2 j (fun z => hj (h j z)), wipe_get, if_neg hc]
end

/-! ### one turn after another -/
theorem noX_ok {α : Type} {r : Res α} {a : α} {st : Sto} (h : noX r = .ok a st) : r = .ok a st := by
  cases r with
  | ok b s => exact h
  | exc n s => cases h
  | stuck => cases h
theorem bind_ok_inv {α β : Type} {r : Res α} {f : α → Sto → Res β} {b : β} {st : Sto} (h : r.bind f = .ok b st) : ∃ a s, r = .ok a s ∧ f a s = .ok b st := by
  cases r with
  | ok a s => exact ⟨a, s, rfl, h⟩
  | exc n s => cases h
  | stuck => cases h
theorem guard_ok {α : Type} {c : Bool} {r : Res α} {a : α} {st : Sto} (h : guard' c r = .ok a st) : c = true ∧ r = .ok a st := by
  cases c with
  | true => exact ⟨rfl, h⟩
  | false => cases h
theorem compL_exc (w : Wk) (f : D → Sto → Res (Option D)) : ∀ (l acc : List D) (st : Sto) (n : Nat) (st' : Sto), compL w f l acc st ≠ .exc n st'
  | [], acc, st, n, st' => by
    unfold compL guard'
    split <;> exact fun z => by cases z
  | x :: r, acc, st, n, st' => by
    unfold compL guard'
    split
    · cases h : noX (f x st) with
      | ok o s => exact compL_exc w f r _ s n st'
      | exc n s => cases hf : f x st <;> rw [hf] at h <;> cases h
      | stuck => exact fun z => by cases z
    · exact fun z => by cases z
abbrev E0 : L2.St → XW := fun _ _ _ _ _ => False
section
variable {X : Cx} {E : L2.St → XW} {tg e elt : Expr} {t : Tg} {fi : Env → Sto → Res Wk} {fc fe : Env → Sto → Res D} {nc : Bool} {own : List Nat} {tt : TT}
theorem comp_core {K : PySem.W.Frag} {ι1 : List Addr} {H1 : Hp} {st1 st2 : Sto} {xs : List D} {w : Wk} {J : It} {env : Env} {σ : L2.St} {Qd : Addr → Hp → Prop} (S1 : StR K ι1 H1 st1) (eR1 : EnvR K ι1 H1 env σ) (r1 : ItR K ι1 H1 w J)
    (htt : ∀ σ H Q, (if nc = true then Q true H else sR K RB E0 (fT fc) σ H Q) → tt σ H Q) (hsub : ∀ j ∈ t.ns, j ∈ own)
    (hok : compL w (turnL t own env fc fe nc) w.xs [] st1 = .ok xs st2)
    (fin : ∀ ι' H' D vs, Ext K ι1 H1 ι' H' → StR K ι' H' st2 → D ∉ ι' → H1 D = none → H' D = some (.lst vs) → RelDs K ι' H' xs vs → Qd D H') :
    ∀ D, H1 D = none → ∃ W : Nat → Nat → Hp → Prop, (∃ m, W 0 m (upd H1 D (.lst []))) ∧ ∀ i m H, W i m H →
      (J.stop i H ∧ Qd D H) ∨ (J.go i H ∧ ∃ Nx : Hp → Prop, (∀ H', Nx H' → ∃ m', m' < m ∧ W (i + 1) m' H') ∧ ∀ x H', J.yld i H x H' → sG K t x (wipe σ own) H' fun σ2 H2 => wipe σ2 own = wipe σ own ∧ tt σ2 H2 fun b H3 =>
        if b = true then sR K (RD K) E0 fe σ2 H3 fun y H4 => ∃ acc, H4 D = some (.lst acc) ∧ acc.length < sizeLine ∧ Nx (upd H4 D (.lst (acc ++ [y]))) else Nx H3) := by
  intro D hD
  let W : Nat → Nat → Hp → Prop := fun i m H' => ∃ ι' st' acc vs, Ext K ι1 H1 ι' H' ∧ StR K ι' H' st' ∧ D ∉ ι' ∧ H' D = some (.lst vs) ∧ RelDs K ι' H' acc vs ∧ i ≤ w.xs.length ∧ m = w.xs.length - i ∧
    compL w (turnL t own env fc fe nc) (w.xs.drop i) acc st' = .ok xs st2
  refine ⟨W, ⟨_, ι1, st1, [], [], Ext.fresh hD, S1.fresh hD (S1.new hD), S1.new hD, upd_same, .nil, Nat.zero_le _, rfl, hok⟩, ?_⟩
  rintro i m H ⟨ι', st', acc, vs, x', S', nD, eD, rA, hi, rfl, hc⟩
  by_cases hlt : i < w.xs.length
  · rw [List.drop_eq_getElem_cons hlt] at hc
    unfold compL at hc
    obtain ⟨g, hc⟩ := guard_ok hc
    simp only [Bool.and_eq_true, decide_eq_true_eq] at g
    obtain ⟨o, st3, h3, hc⟩ := bind_ok_inv hc
    have h3 := noX_ok h3
    obtain ⟨it, _⟩ := r1 ι' H st' x' S' g.1
    obtain ⟨hgo, hy⟩ := it i w.xs[i] (List.getElem?_eq_getElem hlt)
    refine .inr ⟨hgo, W (i + 1) (w.xs.length - (i + 1)), fun H2 w2 => ⟨_, by omega, w2⟩, fun x H'' yy => ?_⟩
    obtain ⟨x2, S2, r2⟩ := hy x H'' yy
    have x12 := x'.trans x2
    unfold turnL at h3
    cases ht : tgSet st' t w.xs[i] (wipeE env own) with
    | none => rw [ht] at h3; cases h3
    | some e2 =>
      rw [ht] at h3
      dsimp only at h3
      refine ⟨ι', wipeE env own, st', w.xs[i], e2, (eR1.mono x12).wipe own, S2, r2, ht, fun σ3 eR3 ag => ⟨ag.wipe hsub, htt _ _ _ ?_⟩⟩
      -- the item
      have item : ∀ {ι4 : List Addr} {H4 : Hp} {st4 : Sto} {d : PyI.D}, Ext K ι' H'' ι4 H4 → StR K ι4 H4 st4 → fe e2 st4 = .ok d st3 → o = some d →
          sR K (RD K) E0 fe σ3 H4 fun y H5 => ∃ acc, H5 D = some (.lst acc) ∧ acc.length < sizeLine ∧ W (i + 1) (w.xs.length - (i + 1)) (upd H5 D (.lst (acc ++ [y]))) := by
        intro ι4 H4 st4 d x4 S4 hf ho
        refine ⟨ι4, e2, st4, eR3.mono x4, S4, ?_⟩
        rw [hf]
        intro ι5 H5 y x5 S5 r5
        have x25 := (x2.trans x4).trans x5
        have e5 : H5 D = some (.lst vs) := x25.old D _ eD nD
        have n5 : D ∉ ι5 := fun hm => by have := x25.new D hm nD; rw [eD] at this; cases this
        refine ⟨vs, e5, by rw [← rA.length, line_eq]; exact g.2, ι5, st3, acc ++ [d], vs ++ [y], (x'.trans x25).out hD ⟨_, e5⟩, S5.out e5 n5, n5, upd_same, ?_, hlt, rfl, ?_⟩
        · exact ((rA.mono x25).mono0 (out_ext e5)).snoc (r5.mono0 (out_ext e5))
        · subst ho; exact hc
      -- no item
      have none' : ∀ {ι4 : List Addr} {H4 : Hp}, Ext K ι' H'' ι4 H4 → StR K ι4 H4 st3 → o = none → W (i + 1) (w.xs.length - (i + 1)) H4 := by
        intro ι4 H4 x4 S4 ho
        have x24 := x2.trans x4
        have e4 : H4 D = some (.lst vs) := x24.old D _ eD nD
        have n4 : D ∉ ι4 := fun hm => by have := x24.new D hm nD; rw [eD] at this; cases this
        exact ⟨ι4, st3, acc, vs, x'.trans x24, S4, n4, e4, rA.mono x24, hlt, rfl, by subst ho; exact hc⟩
      by_cases hn : nc = true
      · rw [if_pos hn] at h3 ⊢
        rw [if_pos rfl]
        obtain ⟨d, s, h4, h5⟩ := bind_ok_inv h3
        cases h5
        exact item (Ext.refl _ _) S2 h4 rfl
      · rw [if_neg hn] at h3 ⊢
        obtain ⟨c, s, h4, h5⟩ := bind_ok_inv h3
        refine ⟨ι', e2, st', eR3, S2, ?_⟩
        unfold fT truthy'
        rw [h4, Res.bind_ok]
        cases hk : c.truth s with
        | none => rw [hk] at h5; cases h5
        | some k =>
          rw [hk] at h5
          intro ι4 H4 b x4 S4 eb
          cases (show k = b from eb)
          cases k with
          | true =>
            rw [if_pos rfl]
            obtain ⟨d, s2, h6, h7⟩ := bind_ok_inv h5
            cases h7
            exact item x4 S4 h6 rfl
          | false =>
            rw [if_neg Bool.false_ne_true]
            cases h5
            exact none' x4 S4 rfl
  · have hi' : i = w.xs.length := by omega
    rw [hi', List.drop_length] at hc
    unfold compL at hc
    obtain ⟨g, hc⟩ := guard_ok hc
    cases hc
    obtain ⟨_, hs⟩ := r1 ι' H _ x' S' g
    exact .inl ⟨by rw [hi']; exact hs, fin ι' H D vs x' S' nD hD eD rA⟩
end
end PyI

/-! IQ_: list comprehensions; dicts by their items. -/
namespace PyI
open PySem PySem.Spec PyProof.Rows L2

def fComp (t : Tg) (own : List Nat) (fi : Env → Sto → Res Wk) (fc fe : Env → Sto → Res D) (nc : Bool) : Env → Sto → Res D := fun env st => (fi env st).bind fun w st => (compL w (turnL t own env fc fe nc) w.xs [] st).bind newL
/-- what is asked of a comprehension's block -/
structure BlkS (X : Cx) (scope : Scope) (ownS : List (Str × Nat)) (tg elt : Expr) (ifs : List Expr) (t : Tg) (fc fe : Env → Sto → Res D) (nc : Bool) (tt : TT) : Prop where
  ok : BlkOk X.N X.env.scope scope ownS
  tg : ∀ (s : Shared) (H : Hp) (C : Addr) (cl : List (Str × Addr)) (fp : List Addr), PG (X.blk s H scope (compEnvC scope cl C X.env) fp) tg (sG X.K t)
  ts : ∀ (s : Shared) (H : Hp) (C : Addr) (cl : List (Str × Addr)) (fp : List Addr), PTs (X.blk s H scope (compEnvC scope cl C X.env) fp) ifs tt
  el : ∀ (s : Shared) (H : Hp) (C : Addr) (cl : List (Str × Addr)) (fp : List Addr), SE (X.blk s H scope (compEnvC scope cl C X.env) fp) E0 elt fe
  tt : ∀ σ H Q, (if nc = true then Q true H else sR X.K RB E0 (fT fc) σ H Q) → tt σ H Q
  sub : ∀ j ∈ t.ns, j ∈ ownS.map (·.2)
section
variable {X : Cx} {E : L2.St → XW} {tg e elt : Expr} {t : Tg} {fi : Env → Sto → Res Wk} {fc fe : Env → Sto → Res D} {nc : Bool} {own : List Nat} {tt : TT} {ifs : List Expr} {scope : Scope} {ownS : List (Str × Nat)} {pos : Pos}
theorem lc_tells (B : BlkS X scope ownS tg elt ifs t fc fe nc tt) {σ : L2.St} {H : Hp} {Q : VK} (h : sR X.K (RD X.K) E (fComp t (ownS.map (·.2)) fi fc fe nc) σ H Q) : tLc (sR X.K (RI X.K) E fi) (sG X.K t) tt (sR X.K (RD X.K) E0 fe) (ownS.map (·.2)) σ H Q := by
  obtain ⟨ι, env, st, eR, S, go⟩ := h
  refine ⟨ι, env, st, eR, S, Go.bind go fun ι1 H1 w J st1 x1 S1 r1 go1 => ?_⟩
  cases hk : compL w (turnL t (ownS.map (·.2)) env fc fe nc) w.xs [] st1 with
  | exc n s => exact absurd hk (compL_exc _ _ _ _ _ _ _)
  | stuck => rw [hk] at go1; exact (show False from go1).elim
  | ok xs st2 =>
    rw [hk, Res.bind_ok] at go1
    refine comp_core (Qd := fun D H => Q (.ref D) H) S1 (eR.mono x1) r1 B.tt B.sub hk fun ι' H' D vs x' S' nD hD eD rA => ?_
    have x0 : Ext0 X.K ι' H' (ι' ++ [D]) H' := ⟨List.prefix_append _ _, fun _ _ h => h, fun _ _ h => h⟩
    refine go1 (ι' ++ [D]) H' (.ref D) ?_ (S'.adopt nD ⟨vs, eD, rA.mono0 x0⟩) (.ref (get_pushed S'))
    exact { pre := x'.pre.trans (List.prefix_append _ _)
            old := x'.old
            new := fun a hm hn => by
              rcases List.mem_append.mp hm with q | q
              · exact x'.new a q hn
              · rw [List.mem_singleton.mp q]; exact hD
            lock := x'.lock
            tup := x'.tup
            frz := x'.frz }
theorem se_comp (hc : X.calm = true) (hN : X.N.Nodup) (hi : SI X E tg e fi) (B : BlkS X scope ownS tg elt ifs t fc fe nc tt) (hs : ∀ x, foldedSetIterable e X.env x = pure x) :
    SE X E (.ListComp elt [⟨tg, e, ifs, 0⟩] scope pos) (fComp t (ownS.map (·.2)) fi fc fe nc) := PE.imp (pe_lc hc hN hi B.ok B.tg B.ts B.el hs) fun σ H Q h => lc_tells B h
theorem ss_setLc {i : Nat} {y : Str} {py spos : Pos} (hc : X.calm = true) (hN : X.N.Nodup) (hy : X.N[i]? = some y) (hyl : X.env.scope.names.lookup y = some .local)
    (hsw : swapsWith (.ListComp elt [⟨tg, e, ifs, 0⟩] scope pos) (some (.Name y py)) spos.line X.env = pure true) (hi : SI X E tg e fi) (B : BlkS X scope ownS tg elt ifs t fc fe nc tt) (hs : ∀ x, foldedSetIterable e X.env x = pure x) :
    SS X E (.Assign [.Name y py] (.ListComp elt [⟨tg, e, ifs, 0⟩] scope pos) spos) (fun env st => (fComp t (ownS.map (·.2)) fi fc fe nc env st).thn env fun d st => match tgSet st (.name i) d env with
      | some e => .nx e st
      | none => .stuck) := PS.imp (ps_setLc hc hN hy hyl hsw hi B.ok B.tg B.ts B.el hs) fun D σ H ⟨ι, env, st, eR, S, go⟩ =>
  lc_tells B ⟨ι, env, st, eR, S, GoS.thn eR go fun ι1 H1 d v st1 x1 S1 r1 go1 => go1 ι1 H1 _ (Ext.refl _ _) S1 ((eR.mono x1).set r1 i)⟩
end

/-! ### a dict walked by its items is locked the while -/
section
variable {K : PySem.W.Frag} {ι ι' : List Addr} {H H' : Hp} {st st' : Sto}
/-- what is known of a locked dict -/
structure Lck (K : PySem.W.Frag) (ι : List Addr) (H : Hp) (st : Sto) (d : Addr) (n : Nat) (c c' : Cell) (u : HO) : Prop where
  at0 : H d = some u
  mu : Mut (some u)
  nfz : ∀ v w, u ≠ .frz v w
  nls : ∀ xs, u ≠ .lst xs
  ix : ι[n]? = some d
  cr : ∀ ι' H', Ext0 K ι H ι' H' → H' d = some u → CellR K ι' H' d c
  cr' : ∀ ι' H' od, Ext0 K ι H ι' H' → H' d = some (.frz od u) → CellR K ι' H' d c'
theorem lck_in {x : D} {n : Nat} {c c' : Cell} {xs : List D} {v : V} (S : StR K ι H st) (r : RelD K ι H x v) (h : lockD st x = some (n, c, c', xs)) : ∃ d u, v = .ref d ∧ Lck K ι H st d n c c' u ∧
    ((∃ vs kvs, u = .dK vs ∧ xs = itemsOf kvs ∧ RelK K ι H kvs vs) ∨ ∃ vs kvs, u = .dT vs ∧ xs = itemsT kvs ∧ RelKT K ι H kvs vs) := by
  unfold lockD at h
  cases r with
  | @ref m a ha =>
    dsimp only at h
    split at h
    · rename_i kvs e
      cases h
      obtain ⟨b, vs, hb, e', q⟩ := dk_ofS S e
      rw [ha] at hb; cases hb
      exact ⟨a, _, rfl, ⟨e', trivial, fun _ _ => HO.noConfusion, fun _ => HO.noConfusion, ha, fun ι' H' x h => ⟨vs, h, q.mono0 x⟩, fun ι' H' od x h => ⟨od, vs, h, q.mono0 x⟩⟩, .inl ⟨vs, kvs, rfl, rfl, q⟩⟩
    · rename_i kvs e
      cases h
      obtain ⟨b, vs, hb, e', q⟩ := dt_ofS S e
      rw [ha] at hb; cases hb
      exact ⟨a, _, rfl, ⟨e', trivial, fun _ _ => HO.noConfusion, fun _ => HO.noConfusion, ha, fun ι' H' x h => ⟨vs, h, q.mono0 x⟩, fun ι' H' od x h => ⟨od, vs, h, q.mono0 x⟩⟩, .inr ⟨vs, kvs, rfl, rfl, q⟩⟩
    · cases h
  | _ => cases h
theorem Lck.lock {d : Addr} {n : Nat} {c c' : Cell} {u : HO} (L : Lck K ι H st d n c c' u) (S : StR K ι H st) (od : Obj) : Ext K ι H ι (upd H d (.frz od u)) ∧ StR K ι (upd H d (.frz od u)) (st.set n c') := by
  have ho : ∃ u, H d = some u ∧ ∀ v w, u ≠ .frz v w := ⟨u, L.at0, L.nfz⟩
  have x := Ext.put (o := .frz od u) S L.ix ho
  exact ⟨x, S.put L.ix ho (L.cr' _ _ od x.w upd_same)⟩
theorem Lck.open {d : Addr} {n : Nat} {c c' : Cell} {u : HO} {od : Obj} (L : Lck K ι H st d n c c' u) (S : StR K ι H st) (x : Ext K ι (upd H d (.frz od u)) ι' H') (S' : StR K ι' H' st') :
    H' d = some (.frz od u) ∧ Ext0 K ι' H' ι' (upd H' d u) ∧ Ext K ι H ι' (upd H' d u) ∧ StR K ι' (upd H' d u) (st'.set n c) := by
  have e : H' d = some (.frz od u) := x.lock d od u upd_same
  have nu : ∀ v ys, u ≠ .frz v (.lst ys) := fun v ys => L.nfz v _
  have mu := L.mu
  have hm : d ∈ ι := List.mem_of_getElem? L.ix
  have x0 : Ext0 K ι' H' ι' (upd H' d u) := by
    refine ⟨List.prefix_refl _, fun a ys h => ?_, fun a ys h => ?_⟩
    · rw [upd_ne fun z => by rw [z, e] at h; cases h]; exact h
    · rcases h with ⟨o, h⟩ | h
      · refine .inl ⟨o, ?_⟩
        by_cases hd : a = d
        · rw [hd, e] at h
          exact absurd (HO.frz.inj (Option.some.inj h)).2 (L.nls _)
        · rw [upd_ne hd]; exact h
      · exact .inr h
  have hx := (L.lock S od).1.trans x
  have i' := x.get L.ix
  have x1 : Ext K ι H ι' (upd H' d u) := by
    refine ⟨hx.pre, fun a o h hn => ?_, hx.new, fun a o w h => ?_, fun a ys h => x0.tup a ys (hx.tup a ys h), fun a ys h => x0.frz a ys (hx.frz a ys h)⟩
    · rw [upd_ne fun z => hn (by rw [z]; exact hm)]; exact hx.old a o h hn
    · rw [upd_ne fun z => by rw [z, L.at0] at h; exact L.nfz _ _ (Option.some.inj h)]; exact hx.lock a o w h
  refine ⟨e, x0, x1, ?_⟩
  refine ⟨by rw [List.length_set]; exact S'.len, S'.nd, fun m cc b e1 e2 => ?_⟩
  by_cases hmn : m = n
  · subst hmn
    have hl : m < st'.length := by rw [← S'.len]; exact (List.getElem?_eq_some_iff.mp i').1
    rw [List.getElem?_set_self hl] at e1
    rw [i'] at e2
    obtain rfl := Option.some.inj e1
    obtain rfl := Option.some.inj e2
    exact L.cr _ _ x1.w upd_same
  · rw [List.getElem?_set_ne (Ne.symm hmn)] at e1
    have hb : b ≠ d := fun z => hmn (nodup_at S'.nd e2 (by rw [z]; exact i'))
    exact (S'.cell m cc b e1 e2).mono0 x0 fun o h => by rw [upd_ne hb]; exact h
end
end PyI

/-! IT_: the items of a dict whose keys are tuples; loops over a dict's items. -/
namespace PyI
open PySem PySem.Spec PyProof.Rows L2

/-- the items of the locked dict at d: the key's own tuple, the value, in a new pair -/
def ItT (d : Addr) (o : Obj) (kvs : List (List L2.Key × V)) : It :=
  ⟨fun i H => H d = some (.frz o (.dT kvs)) ∧ i < kvs.length,
    fun i H x H' => ∃ T k v q, kvs[i]? = some (k, v) ∧ x = .ref T ∧ H T = none ∧ H q = some (.tup (k.map kV)) ∧ H' = upd H T (.tup [.ref q, v]),
    fun i H => H d = some (.frz o (.dT kvs)) ∧ kvs.length ≤ i⟩
section
variable {X : Cx} {pins : List (Addr × Obj)} {σ : L2.St} {H : Hp} {s : Shared} {d : Addr} {o : Obj} {kvs : List (List L2.Key × V)}
theorem frz_raw (I : Inv X pins σ H s) (h : H d = some (.frz o (.dT kvs))) : (d == sysModules) = false ∧ s.heap.get? d = some o ∧ o.ExactDict ∧ ∃ (es : Array DictEntry) (ep : Nat), o.data = .dict es ep ∧ es.size = kvs.length ∧
    ∀ (i : Nat) (k : List L2.Key) (v : V), kvs[i]? = some (k, v) → ∃ (q : Addr) (hi : i < es.size), es[i].key = .ref q ∧ RelV v es[i].val ∧ H q = some (.tup (k.map kV)) := by
  obtain ⟨hd, z, hs, xs, pr, o', es, ep, ho, hx, hdt, he, _⟩ := I.hok d _ h
  rw [hd] at ho
  cases ho
  have l1 : es.size = xs.length := size_of_entries he
  have l2 : kvs.length = xs.length := Paired.length pr
  refine ⟨hs, hd, hx, es, ep, hdt, by omega, fun i k v e => ?_⟩
  obtain ⟨b, hb, e1, e2, e3⟩ := paired_get pr e
  have q := entry_at he i
  have hi : i < es.size := by
    have := (List.getElem?_eq_some_iff.mp e).1
    omega
  rw [hb, Array.getElem?_eq_getElem hi, Option.map_some] at q
  have q' := Option.some.inj q
  exact ⟨b.2.1, hi, by rw [q']; rfl, by rw [q']; exact e3, e2⟩
theorem turn_itemsT {P : Program} {w : World} {K : PySem.W.Frag} {es : Array DictEntry} {ep : Nat} {elts : List Expr} {kk : Nat} {tpos : Pos} (it : Addr) (hod : o.data = .dict es ep) :
    Turn P w K (.Tuple elts kk tpos) (ItT d o kvs) [it] it (fun i h => ∃ ok ov, IsItemIter h it d i kvs.length ep ok ov) where
  mem := List.mem_singleton.mpr rfl
  obj := fun i h ⟨ok, ov, e⟩ b hb => by
    rw [List.mem_singleton.mp hb]
    exact ⟨_, e, fun _ => Data.noConfusion⟩
  keep := fun i h h' ⟨ok, ov, e⟩ k => ⟨ok, ov, k it (List.mem_singleton.mpr rfl) _ e⟩
  item := by
    intro X eP eW eK hc i pins s σ H E I hf ⟨ok, ov, he⟩ ⟨hd, hi⟩
    subst eP eW eK
    have fp := hf it (List.mem_singleton.mpr rfl)
    obtain ⟨hs, hgd, hx, es', ep', hdt, hsz, ent⟩ := frz_raw I hd
    obtain ⟨rfl, rfl⟩ := dict_ep hod hdt
    obtain ⟨⟨k, v⟩, hkv⟩ : ∃ p, kvs[i]? = some p := ⟨kvs[i], List.getElem?_eq_getElem hi⟩
    obtain ⟨q, hi', hk, rv, hq⟩ := ent i k v hkv
    rw [← hsz] at he
    have hlt : it < s.heap.objs.size := Heap.lt_size he
    refine wpAny_pyNext_items_item_raw he ⟨o, hgd, hx, hdt⟩ hi' fun h' ho hT hz hkp => ⟨_, rfl, wpAny_letOwnedTupleGo_items (s := { s with heap := h' }) ho fun h'' he' sb => ?_⟩
    have hT2 := (sb.2 _ (Nat.ne_of_gt hlt)).trans hT
    have new : ObjOk X.prog X.w (upd H s.heap.objs.size (.tup [.ref q, v])) h'' s.heap.objs.size (.tup [.ref q, v]) :=
      ⟨by rw [line_eq]; exact Nat.le_of_ble_eq_true rfl, [_, _], .cons hk (.cons rv .nil), ⟨_, hT2, rfl, _, rfl⟩⟩
    refine ⟨.ref s.heap.objs.size, _, I.turnedNew (t' := s.toks) (ch := [it]) (fun b ob hb e => ?_) hf (Nat.le_refl _) new, rfl, ⟨_, k, v, q, hkv, rfl, I.hok.fresh (Nat.le_refl _), hq, rfl⟩, ⟨_, _, by rw [← hsz]; exact he'⟩, fun b hb => ?_⟩
    · have hb' : b ≠ it := fun z => hb (List.mem_singleton.mpr z)
      exact (sb.2 b hb').trans (hkp b ob hb' e)
    · rw [List.mem_singleton.mp hb, upd_ne (Nat.ne_of_lt hlt)]
      exact fp.1
  done := by
    intro X eP eW eK hc i pins s σ H E I hf ⟨ok, ov, he⟩ ⟨hd, hi⟩
    subst eP eW eK
    obtain ⟨f0, f1, f2, f3, f4, f5⟩ := hf it (List.mem_singleton.mpr rfl)
    obtain ⟨hs, hgd, hx, es', ep', hdt, hsz, ent⟩ := frz_raw I hd
    obtain ⟨rfl, rfl⟩ := dict_ep hod hdt
    rw [← hsz] at he
    exact wpAny_pyNext_items_end_raw (I.ok.hd hc) he ⟨o, hgd, hx, hdt⟩ (by omega) fun h' eb => ⟨rfl, I.turned (t' := s.toks) (fun b ob hb e => eb b ob hb e) f0 f1 f3 f4 f5⟩
  self := fun A i s Q E ⟨_, _, e⟩ h => PySem.W.kcp_self e h
def iItT (td : TE) : TI := fun σ H R => td σ H fun x H1 => ∃ d o kvs, x = .ref d ∧ H1 d = some (.frz o (.dT kvs)) ∧ R (ItT d o kvs) H1
theorem pi_itT {e : Expr} {td : TE} {apos cpos : Pos} {elts : List Expr} {kk : Nat} {tpos : Pos} (he : PE X e td) (hbase : attributeBase e "items" X.env (eval e X.env) = eval e X.env) (hline : (apos.endLine == cpos.line) = true) :
    PI X (.Tuple elts kk tpos) (.Call (.Attribute e "items" apos) [] [] cpos) (iItT td) := ⟨fun pins s σ H R I h => by
  refine wpAny_Call_method (T := "dict") (id := "dict.items") hbase rfl hline F.plainAttrs_dict F.slot_dict_items F.type_dict_items (thn (he.run pins s σ H _ I h) fun u s1 ⟨x, H1, I1, rx, d, o, kvs, ex, hd, q⟩ => ?_)
  subst ex
  obtain rfl : u = Value.ref d := rx
  obtain ⟨hs, hgd, hx, es, ep, hdt, hsz, ent⟩ := frz_raw I1 hd
  have raw : s1.heap.DictRaw d es ep := ⟨o, hgd, hx, hdt⟩
  have nod : o.dict = none := hx.2.1
  refine ⟨raw.typeIs, fun ob e2 => ?_, ?_⟩
  · cases e2; exact ⟨o, hgd, nod⟩
  have I2 : Inv X pins σ H1 { s1 with heap := s1.heap.push { cls := .type "dict_items", data := .fields #[.ref d] } } := I1.kept (t' := s1.toks) fun b ob q => Heap.get?_push_of_some _ q
  have raw2 : (s1.heap.push { cls := .type "dict_items", data := .fields #[.ref d] }).DictRaw d es ep := raw.at fun ob q => Heap.get?_push_of_some _ q
  have fin : wpAny (model X.prog X.w) X.A (pyIter (.ref s1.heap.objs.size)) (PIE X pins σ (.Tuple elts kk tpos) R) X.xe { s1 with heap := s1.heap.push { cls := .type "dict_items", data := .fields #[.ref d] } } := by
    refine wpAny_pyIter_items_raw (d := d) ⟨_, Heap.get?_push_size _ rfl, rfl, rfl⟩ raw2 (pi_one (tk := s1.toks) I2 _ (turn_itemsT _ hdt) ⟨.none, .none, ?_⟩ q)
    rw [← hsz]
    exact Heap.get?_push_size _ rfl
  show wpAny _ _ (callWith cpos (.builtin "dict.items") [.ref d] [] []) _ X.xe s1
  exact method_meetsIn F.slot_dict_items F.entry_dict_items rfl (PySem.evalArgs_none ⟨rfl, raw.typeIs, F.args_dict_items_1 _, _, meets_dict_items_raw d hs, ⟨es, ep, raw⟩, fin⟩)⟩
end

/-! ### the reading: a dict by its items -/
theorem itemsOf_get {kvs : List (Ky × D)} {i : Nat} {d : D} (h : (itemsOf kvs)[i]? = some d) : ∃ k v, kvs[i]? = some (k, v) ∧ d = .tup [kyD k, v] := by
  unfold itemsOf at h
  rw [List.getElem?_map] at h
  obtain ⟨⟨k, v⟩, hj, rfl⟩ := Option.map_eq_some_iff.mp h
  exact ⟨k, v, hj, rfl⟩
theorem itemsT_get {kvs : List (List Ky × D)} {i : Nat} {d : D} (h : (itemsT kvs)[i]? = some d) : ∃ k v, kvs[i]? = some (k, v) ∧ d = .tup [.tup (k.map kyD), v] := by
  unfold itemsT at h
  rw [List.getElem?_map] at h
  obtain ⟨⟨k, v⟩, hj, rfl⟩ := Option.map_eq_some_iff.mp h
  exact ⟨k, v, hj, rfl⟩
section
variable {K : PySem.W.Frag} {ι ι' : List Addr} {H H' : Hp} {st : Sto}
theorem kyD_rel (k : Ky) : RelD K ι H (kyD k) (kV (kyK k)) := by
  cases k
  · exact .int _
  · exact .str _
theorem kyDs_rel : ∀ k : List Ky, RelDs K ι H (k.map kyD) ((k.map kyK).map kV)
  | [] => .nil
  | k :: r => .cons (kyD_rel k) (kyDs_rel r)
theorem RelK.get : ∀ {d : List (Ky × D)} {v : List (L2.Key × V)} {i : Nat} {k : Ky} {x : D}, RelK K ι H d v → d[i]? = some (k, x) → ∃ y, v[i]? = some (kyK k, y) ∧ RelD K ι H x y
  | _, _, _, _, _, .nil, h => by simp at h
  | _, _, 0, _, _, .cons h _, e => by
    simp only [List.getElem?_cons_zero, Option.some.injEq, Prod.mk.injEq] at e
    obtain ⟨rfl, rfl⟩ := e
    exact ⟨_, rfl, h⟩
  | _, _, i + 1, k, x, .cons _ r, e => by
    simp only [List.getElem?_cons_succ] at e
    obtain ⟨y, h1, h2⟩ := RelK.get r e
    exact ⟨y, by simpa using h1, h2⟩
theorem RelKT.get : ∀ {d : List (List Ky × D)} {v : List (List L2.Key × V)} {i : Nat} {k : List Ky} {x : D}, RelKT K ι H d v → d[i]? = some (k, x) → ∃ y, v[i]? = some (k.map kyK, y) ∧ RelD K ι H x y
  | _, _, _, _, _, .nil, h => by simp at h
  | _, _, 0, _, _, .cons h _, e => by
    simp only [List.getElem?_cons_zero, Option.some.injEq, Prod.mk.injEq] at e
    obtain ⟨rfl, rfl⟩ := e
    exact ⟨_, rfl, h⟩
  | _, _, i + 1, k, x, .cons _ r, e => by
    simp only [List.getElem?_cons_succ] at e
    obtain ⟨y, h1, h2⟩ := RelKT.get r e
    exact ⟨y, by simpa using h1, h2⟩
theorem iti_lck {d : Addr} {od : Obj} {vs : List (L2.Key × V)} {kvs : List (Ky × D)} (e : H d = some (.frz od (.dK vs))) (q : RelK K ι H kvs vs) : ItR K ι H ⟨itemsOf kvs, none⟩ (Iti d od vs) := by
  intro ι' H' st' x S _
  have e' := x.lock d od _ e
  have q' := q.mono x
  refine ⟨fun i y hy => ?_, ⟨e', by show vs.length ≤ (itemsOf kvs).length; unfold itemsOf; rw [List.length_map, q.length]; exact Nat.le_refl _⟩⟩
  obtain ⟨k, v, hk, rfl⟩ := itemsOf_get hy
  obtain ⟨u, hu, r⟩ := q'.get hk
  refine ⟨⟨e', (List.getElem?_eq_some_iff.mp hu).1⟩, fun z H'' yy => ?_⟩
  obtain ⟨T, k2, v2, h1, rfl, hT, rfl⟩ := yy
  rw [hu] at h1; cases h1
  exact pair3 S hT (kyD_rel k) r
theorem itt_lck {d : Addr} {od : Obj} {vs : List (List L2.Key × V)} {kvs : List (List Ky × D)} (e : H d = some (.frz od (.dT vs))) (q : RelKT K ι H kvs vs) : ItR K ι H ⟨itemsT kvs, none⟩ (ItT d od vs) := by
  intro ι' H' st' x S _
  have e' := x.lock d od _ e
  have q' := q.mono x
  refine ⟨fun i y hy => ?_, ⟨e', by show vs.length ≤ (itemsT kvs).length; unfold itemsT; rw [List.length_map, q.length]; exact Nat.le_refl _⟩⟩
  obtain ⟨k, v, hk, rfl⟩ := itemsT_get hy
  obtain ⟨u, hu, r⟩ := q'.get hk
  refine ⟨⟨e', (List.getElem?_eq_some_iff.mp hu).1⟩, fun z H'' yy => ?_⟩
  obtain ⟨T, k2, v2, qa, h1, rfl, hT, hq, rfl⟩ := yy
  rw [hu] at h1; cases h1
  exact pair3 S hT (.tup hq (kyDs_rel k)) r
end

section
variable {X : Cx} {E : L2.St → XW} {elt : Expr} {t : Tg} {fc fe : Env → Sto → Res D} {fb : Env → Sto → SR} {nc : Bool} {tt : TT} {ifs : List Expr} {scope : Scope} {ownS : List (Str × Nat)} {pos p apos cpos tpos : Pos} {elts : List Expr} {kk v : Nat} {x : Str} {body : List Stmt}
/-- what the items of a name are walked as -/
def iLk (v : Nat) : TI := fun σ H R => iItems (tVar v) σ H R ∨ iItT (tVar v) σ H R
theorem pi_lk (hN : X.N[v]? = some x) (hv : Vis X.env.scope x) (hd : (x == ("__debug__" : Str)) = false) (hcd : (x == ("__classdict__" : Str)) = false) (hline : (apos.endLine == cpos.line) = true) :
    PI X (.Tuple elts kk tpos) (.Call (.Attribute (.Name x p) "items" apos) [] [] cpos) (iLk v) := PI.or (pi_items (pe_var hN hv hd hcd) rfl hline) (pi_itT (pe_var hN hv hd hcd) rfl hline)
theorem lk_tells {K : PySem.W.Frag} {ι : List Addr} {H : Hp} {env : Env} {σ : L2.St} {st : Sto} {n : Nat} {c c' : Cell} {xs : List D} (eR : EnvR K ι H env σ) (S : StR K ι H st) (h : (env[v]?.join).bind (lockD st) = some (n, c, c', xs)) :
    ∃ d u, Lck K ι H st d n c c' u ∧ ∀ od (R : It → Hp → Prop), (∀ J, ItR K ι (upd H d (.frz od u)) ⟨xs, none⟩ J → R J (upd H d (.frz od u))) → iLk v σ (upd H d (.frz od u)) R := by
  obtain ⟨dv, e1, e2⟩ := bind_some h
  have e1' : env[v]? = some (some dv) := by
    cases q : env[v]? with
    | none => rw [q] at e1; cases e1
    | some o => rw [q] at e1; rw [show o = some dv from e1]
  obtain ⟨w, hw, r⟩ := eR.get v dv e1'
  obtain ⟨d, u, rfl, L, hk⟩ := lck_in S r e2
  refine ⟨d, u, L, fun od R k => ?_⟩
  have x := (L.lock S od).1
  rcases hk with ⟨vs, kvs, rfl, rfl, q⟩ | ⟨vs, kvs, rfl, rfl, q⟩
  · exact .inl ⟨.ref d, hw, d, od, vs, rfl, upd_same, k _ (iti_lck upd_same (q.mono x))⟩
  · exact .inr ⟨.ref d, hw, d, od, vs, rfl, upd_same, k _ (itt_lck upd_same (q.mono x))⟩
/-- the ends, under the lock -/
abbrev lkE (D : Ends) (d : Addr) (od : Obj) (u : HO) : Ends := ⟨fun σ' H' => H' d = some (.frz od u) ∧ D.nx σ' (upd H' d u), fun v H' => H' d = some (.frz od u) ∧ D.rt v (upd H' d u), fun σ' H' => H' d = some (.frz od u) ∧ D.bk σ' (upd H' d u), fun σ' H' => H' d = some (.frz od u) ∧ D.ct σ' (upd H' d u)⟩
theorem Lck.goS {K : PySem.W.Frag} {D : Ends} {ι : List Addr} {H : Hp} {st : Sto} {d : Addr} {n : Nat} {c c' : Cell} {u : HO} {r : SR} (L : Lck K ι H st d n c c' u) (S : StR K ι H st) (od : Obj) (h : GoS K E D ι H (openS n c r)) : GoS K E (lkE D d od u) ι (upd H d (.frz od u)) r := by
  cases r with
  | nx e s1 => exact fun ι' H' σ' x S' eR' => let ⟨e1, x0, x1, S1⟩ := L.open S x S'; ⟨e1, h ι' _ σ' x1 S1 (eR'.mono0 x0)⟩
  | brk e s1 => exact fun ι' H' σ' x S' eR' => let ⟨e1, x0, x1, S1⟩ := L.open S x S'; ⟨e1, h ι' _ σ' x1 S1 (eR'.mono0 x0)⟩
  | cont e s1 => exact fun ι' H' σ' x S' eR' => let ⟨e1, x0, x1, S1⟩ := L.open S x S'; ⟨e1, h ι' _ σ' x1 S1 (eR'.mono0 x0)⟩
  | ret d s1 => exact fun ι' H' v x S' r' => let ⟨e1, x0, x1, S1⟩ := L.open S x S'; ⟨e1, h ι' _ v x1 S1 (r'.mono0 x0)⟩
  | exc m e s1 => exact fun ι' H' σ' x S' eR' => h ι' H' σ' ((L.lock S od).1.trans x) S' eR'
  | stuck => exact h
theorem ss_forD (hp : PassesOwn (model X.prog X.w) X.A X.env X.xe) (hc : X.calm = true) (hN : X.N[v]? = some x) (hv : Vis X.env.scope x) (hd : (x == ("__debug__" : Str)) = false) (hcd : (x == ("__classdict__" : Str)) = false) (hline : (apos.endLine == cpos.line) = true)
    (hg : PG X (.Tuple elts kk tpos) (sG X.K t)) (hb : SSs X E body fb) : SS X E (.For (.Tuple elts kk tpos) (.Call (.Attribute (.Name x p) "items" apos) [] [] cpos) body [] pos) (fun env st => match (env[v]?.join).bind (lockD st) with
      | some (n, c, c', xs) => openS n c (forL ⟨xs, none⟩ t fb xs env (st.set n c'))
      | none => .stuck) := PS.imp (ps_lock (ps_for hp hc (pi_lk hN hv hd hcd hline) hg hb fun _ => rfl)) fun D σ H ⟨ι, env, st, eR, S, go⟩ => by
  dsimp only at go
  cases hk : (env[v]?.join).bind (lockD st) with
  | none => rw [hk] at go; exact (show False from go).elim
  | some q =>
    obtain ⟨n, c, c', xs⟩ := q
    rw [hk] at go
    dsimp only at go
    obtain ⟨d, u, L, hR⟩ := lk_tells eR S hk
    refine ⟨d, u, L.at0, L.mu, fun od => hR od _ fun J r1 => ?_⟩
    have x := (L.lock S od).1
    exact for_core (D := lkE D d od u) (L.lock S od).2 (eR.mono x) r1 (L.goS S od go)
theorem se_compD (hc : X.calm = true) (hnd : X.N.Nodup) (hN : X.N[v]? = some x) (hv : Vis X.env.scope x) (hd : (x == ("__debug__" : Str)) = false) (hcd : (x == ("__classdict__" : Str)) = false) (hline : (apos.endLine == cpos.line) = true)
    (B : BlkS X scope ownS (.Tuple elts kk tpos) elt ifs t fc fe nc tt) : SE X E (.ListComp elt [⟨.Tuple elts kk tpos, .Call (.Attribute (.Name x p) "items" apos) [] [] cpos, ifs, 0⟩] scope pos) (fun env st => match (env[v]?.join).bind (lockD st) with
      | some (n, c, c', xs) => (compL ⟨xs, none⟩ (turnL t (ownS.map (·.2)) env fc fe nc) xs [] (st.set n c')).bind fun xs st => newL xs (st.set n c)
      | none => .stuck) := PE.imp (pe_lock (pe_lc hc hnd (pi_lk hN hv hd hcd hline) B.ok B.tg B.ts B.el fun _ => rfl)) fun σ H Q ⟨ι, env, st, eR, S, go⟩ => by
  dsimp only at go
  cases hk : (env[v]?.join).bind (lockD st) with
  | none => rw [hk] at go; exact (show False from go).elim
  | some q =>
    obtain ⟨n, c, c', xs⟩ := q
    rw [hk] at go
    dsimp only at go
    obtain ⟨d, u, L, hR⟩ := lk_tells eR S hk
    refine ⟨d, u, L.at0, L.mu, fun od => hR od _ fun J r1 => ?_⟩
    obtain ⟨x, S1⟩ := L.lock S od
    cases hq : compL ⟨xs, none⟩ (turnL t (ownS.map (·.2)) env fc fe nc) xs [] (st.set n c') with
    | exc m s => exact absurd hq (compL_exc _ _ _ _ _ _ _)
    | stuck => rw [hq] at go; exact (show False from go).elim
    | ok ys st2 =>
      rw [hq, Res.bind_ok] at go
      refine comp_core (Qd := fun A H' => H' d = some (.frz od u) ∧ Q (.ref A) (upd H' d u)) S1 (eR.mono x) r1 B.tt B.sub hq fun ι' H' A vs x' S' nA hA eA rA => ?_
      obtain ⟨e1, x0, x1, S2⟩ := L.open S x' S'
      have nd : A ≠ d := fun z => by rw [z, e1] at eA; cases eA
      have eA' : upd H' d u A = some (.lst vs) := by rw [upd_ne nd]; exact eA
      have hA0 : H A = none := by rw [upd_ne nd] at hA; exact hA
      have y0 : Ext0 X.K ι' (upd H' d u) (ι' ++ [A]) (upd H' d u) := ⟨List.prefix_append _ _, fun _ _ h => h, fun _ _ h => h⟩
      refine ⟨e1, go (ι' ++ [A]) (upd H' d u) (.ref A) ?_ (S2.adopt nA ⟨vs, eA', (rA.mono0 x0).mono0 y0⟩) (.ref (get_pushed S2))⟩
      exact { pre := x1.pre.trans (List.prefix_append _ _)
              old := x1.old
              new := fun a hm hn => by
                rcases List.mem_append.mp hm with q | q
                · exact x1.new a q hn
                · rw [List.mem_singleton.mp q]; exact hA0
              lock := x1.lock
              tup := x1.tup
              frz := x1.frz }
theorem ss_setLcD {i : Nat} {y : Str} {py spos : Pos} (hc : X.calm = true) (hnd : X.N.Nodup) (hy : X.N[i]? = some y) (hyl : X.env.scope.names.lookup y = some .local) (hN : X.N[v]? = some x) (hv : Vis X.env.scope x) (hd : (x == ("__debug__" : Str)) = false) (hcd : (x == ("__classdict__" : Str)) = false) (hline : (apos.endLine == cpos.line) = true)
    (hsw : swapsWith (.ListComp elt [⟨.Tuple elts kk tpos, .Call (.Attribute (.Name x p) "items" apos) [] [] cpos, ifs, 0⟩] scope pos) (some (.Name y py)) spos.line X.env = pure true) (B : BlkS X scope ownS (.Tuple elts kk tpos) elt ifs t fc fe nc tt) :
    SS X E (.Assign [.Name y py] (.ListComp elt [⟨.Tuple elts kk tpos, .Call (.Attribute (.Name x p) "items" apos) [] [] cpos, ifs, 0⟩] scope pos) spos) (fun env st => ((fun env st => match (env[v]?.join).bind (lockD st) with
      | some (n, c, c', xs) => (compL ⟨xs, none⟩ (turnL t (ownS.map (·.2)) env fc fe nc) xs [] (st.set n c')).bind fun xs st => newL xs (st.set n c)
      | none => .stuck) env st : Res D).thn env fun d st => match tgSet st (.name i) d env with
      | some e => .nx e st
      | none => .stuck) := PS.imp (ps_lock (ps_setLc hc hnd hy hyl hsw (pi_lk hN hv hd hcd hline) B.ok B.tg B.ts B.el fun _ => rfl)) fun D σ H ⟨ι, env, st, eR, S, go⟩ => by
  dsimp only at go
  cases hk : (env[v]?.join).bind (lockD st) with
  | none => rw [hk] at go; exact (show False from go).elim
  | some q =>
    obtain ⟨n, c, c', xs⟩ := q
    rw [hk] at go
    dsimp only at go
    obtain ⟨d, u, L, hR⟩ := lk_tells eR S hk
    refine ⟨d, u, L.at0, L.mu, fun od => hR od _ fun J r1 => ?_⟩
    obtain ⟨x, S1⟩ := L.lock S od
    cases hq : compL ⟨xs, none⟩ (turnL t (ownS.map (·.2)) env fc fe nc) xs [] (st.set n c') with
    | exc m s => exact absurd hq (compL_exc _ _ _ _ _ _ _)
    | stuck => rw [hq] at go; exact (show False from go).elim
    | ok ys st2 =>
      rw [hq, Res.bind_ok] at go
      refine comp_core (Qd := fun A H' => H' d = some (.frz od u) ∧ D.nx (σ.set i (some (.ref A))) (upd H' d u)) S1 (eR.mono x) r1 B.tt B.sub hq fun ι' H' A vs x' S' nA hA eA rA => ?_
      obtain ⟨e1, x0, x1, S2⟩ := L.open S x' S'
      have nd : A ≠ d := fun z => by rw [z, e1] at eA; cases eA
      have eA' : upd H' d u A = some (.lst vs) := by rw [upd_ne nd]; exact eA
      have hA0 : H A = none := by rw [upd_ne nd] at hA; exact hA
      have y0 : Ext0 X.K ι' (upd H' d u) (ι' ++ [A]) (upd H' d u) := ⟨List.prefix_append _ _, fun _ _ h => h, fun _ _ h => h⟩
      have xx : Ext X.K ι H (ι' ++ [A]) (upd H' d u) :=
        { pre := x1.pre.trans (List.prefix_append _ _)
          old := x1.old
          new := fun a hm hn => by
            rcases List.mem_append.mp hm with q | q
            · exact x1.new a q hn
            · rw [List.mem_singleton.mp q]; exact hA0
          lock := x1.lock
          tup := x1.tup
          frz := x1.frz }
      exact ⟨e1, go (ι' ++ [A]) (upd H' d u) _ xx (S2.adopt nA ⟨vs, eA', (rA.mono0 x0).mono0 y0⟩) ((eR.mono xx).set (.ref (get_pushed S2)) i)⟩
end
end PyI

/-! IT2_: tuple(a dict). -/
namespace PyI
open PySem PySem.Spec PyProof.Rows L2
section
variable {prog : Program} {w : World} {A : Around} {E : Value → Shared → Prop} {s : Shared} {r d : Addr} {n : Nat} {P : Nat → Value → Prop} {OK : Heap → Prop}
/-- the code of tuple(a dict): its keys collected, then laid down -/
theorem code_tuple_dict {Q : Value → Shared → Prop} (K : PySem.W.KdlSrc prog w "dict" r d n P OK) (hh : A.handled = none) (hok : OK s.heap) (hn : n ≤ sizeLine)
    (h : ∀ (h' : Heap) (tk : Nat) (acc : Array Value), (∀ b o, s.heap.get? b = some o → h'.get? b = some o) → PySem.ItemsOf P acc n → Q (.ref h'.objs.size) { s with heap := h'.push { cls := .type "tuple", data := .seq acc }, toks := tk }) :
    codeAny (model prog w) A (.call (.builtin "tuple.__new__") ⟨[.type "tuple", .ref r], []⟩) (wants Q E) s := by
  refine codeAny_of_tree ?_
  show wpAny _ A.in1 (checkBuiltinCall "tuple.__new__" ⟨[.type "tuple", .ref r], []⟩ >>= fun _ => again (.builtin "tuple.__new__" ⟨[.type "tuple", .ref r], []⟩)) _ _ s
  refine wpAny_bind (wpAny_of_eq (F.newCall_tuple_1 _) (wpAny_pure ⟨plainId_quiet F.plain_tuple_new _, codeAny_builtin F.entry_tuple_new ?_⟩))
  rw [Around.under_plainId F.plain_tuple_new _]
  have k1 := sub_tuple_self
  have k2 := init_tuple_lookup
  have k3 := madeHere_tuple
  have tI : s.TypeIs (.ref r) "dict" := K.type s hok
  have hi : A.in1.handled = none := hh
  wp_walk using wpAny_typeOf tI, PySem.W.kdu_collect (A := A.in1) K hi hok hn
  intro h' tk acc hk hacc
  show wpAny _ _ (Builtin.Tuple.tupleExact acc.toList.toArray >>= fun v => ret v) _ _ _
  unfold Builtin.Tuple.tupleExact
  rw [Array.toArray_toList]
  refine wpAny_bind (wpAny_newObj_type (wpAny_pure (h h' tk acc hk hacc)) ?_)
  show acc.size ≤ sizeLine
  rw [hacc.1]
  exact hn
theorem call_tuple_dict {Q : Value → Shared → Prop} (K : PySem.W.KdlSrc prog w "dict" r d n P OK) (hh : A.handled = none) (hok : OK s.heap) (hn : n ≤ sizeLine)
    (h : ∀ (h' : Heap) (tk : Nat) (acc : Array Value), (∀ b o, s.heap.get? b = some o → h'.get? b = some o) → PySem.ItemsOf P acc n → Q (.ref h'.objs.size) { s with heap := h'.push { cls := .type "tuple", data := .seq acc }, toks := tk }) :
    wpAny (model prog w) A (call (.type "tuple") [.ref r]) Q E s := by
  refine callType_codes (Q₁ := fun obj s₁ => s₁.TypeIs obj "tuple" ∧ Q obj s₁) F.called_tuple (F.typeCall_tuple_1 _) F.entry_object_init
    (code_tuple_dict (A := A.in1) K hh hok hn fun h' tk acc hk hacc => ⟨⟨_, Heap.get?_push_size _ rfl, rfl⟩, h h' tk acc hk hacc⟩) fun obj s₁ h₁ => ?_
  exact ⟨h₁.1, F.args_object_init_2 obj _, object_init_meets F.called_tuple.init.lookup F.called_tuple.made (by decide) prog w A.in1 _ s₁ ⟨h₁.1, rfl, h₁.2⟩⟩
end
section
variable {X : Cx}
/-- tuple(x): of a list, of a tuple, of a dict -/
def rTup (K : PySem.W.Frag) : List V → Hp → VK → Prop := fun xs H Q => (∃ p ys, xs = [.ref p] ∧ ((SqL K H p ys ∧ ∀ l, H l = none → Q (.ref l) (upd H l (.tup ys))) ∨ (SqT K H p ys ∧ Q (.ref p) H))) ∨
  (∃ p kvs, xs = [.ref p] ∧ H p = some (.dK kvs) ∧ ∀ q, H q = none → Q (.ref q) (upd H q (.tup (kvs.map fun kv => kV kv.1)))) ∨
  (∃ p kvs, xs = [.ref p] ∧ H p = some (.dT kvs) ∧ ∀ q bs, H q = none → Paired (fun (x : List L2.Key × V) b => H b = some (.tup (x.1.map kV))) kvs bs → Q (.ref q) (upd H q (.tup (bs.map V.ref))))
theorem cr_tuple (hc : X.calm = true) : CallR X (.type "tuple") (rTup X.K) := CallR.or call_tuple_of (CallR.or (by
  intro pins s σ H xs us Q I r h
  obtain ⟨p, kvs, rfl, hk, q⟩ := h
  obtain ⟨u, rfl, rx⟩ := vals1 r
  obtain rfl : u = Value.ref p := rx
  obtain ⟨z, lo, vs, rk, hd⟩ := (show ObjOk X.prog X.w H s.heap p (.dK kvs) from I.hok p _ hk)
  obtain ⟨ep, hat⟩ := hd.dictAt
  have hl : kvs.length = vs.length := Paired.length rk
  refine call_tuple_dict (PySem.W.kdl_dict (knd := mixKind X.prog X.w) (kvs := vs) (ep := ep) lo) (I.ok.hd hc) hat (by rw [← hl]; exact z) fun h' tk acc hkeep hacc => ?_
  have I2 : Inv X pins σ H { s with heap := h', toks := tk } := I.kept hkeep
  refine ⟨.ref h'.objs.size, _, I2.laid (t' := tk) (o := .tup (kvs.map fun kv => kV kv.1)) (fun b o e => Heap.get?_push_of_some _ e) (Nat.le_refl _) ⟨by rw [List.length_map]; exact z, acc.toList, ?_, by rw [Array.toArray_toList]; exact IsTup.new _ _⟩, rfl, q _ (I2.hok.fresh (Nat.le_refl _))⟩
  refine vals_of_at (by rw [List.length_map, hl, ← hacc.1, Array.length_toList]) fun j x w h1 h2 => ?_
  obtain ⟨k, y, hky, hi⟩ := hacc.2 j w (by rw [← Array.getElem?_toList]; exact h2)
  have e1 : (kvs.map (·.1))[j]? = some k := by
    rw [KV.keys rk, List.getElem?_map, hky] <;> rfl
  rw [List.getElem?_map] at e1 h1
  obtain ⟨kv, g1, g2⟩ := Option.map_eq_some_iff.mp e1
  rw [g1] at h1
  cases h1
  subst g2
  exact keyIs_rel hi) (by
  intro pins s σ H xs us Q I r h
  obtain ⟨p, kvs, rfl, hk, q⟩ := h
  obtain ⟨u, rfl, rx⟩ := vals1 r
  obtain rfl : u = Value.ref p := rx
  obtain ⟨z, hs, ks, pr, o, es, ep, ho, hx, hdt, he, hn⟩ := (show ObjOk X.prog X.w H s.heap p (.dT kvs) from I.hok p _ hk)
  have l1 : es.size = ks.length := size_of_entries he
  have l2 : kvs.length = ks.length := Paired.length pr
  refine call_tuple_dict (kdl_raw hs hx hdt) (I.ok.hd hc) ho (by omega) fun h' tk acc kp it => ?_
  have I2 : Inv X pins σ H { s with heap := h', toks := tk } := I.kept kp
  have ea : acc.toList = (ks.map fun x => x.2.1).map Value.ref := by
    have hl : acc.toList.length = ks.length := by rw [Array.length_toList, it.1]; exact l1
    apply List.ext_getElem?
    intro j
    rw [List.map_map, List.getElem?_map]
    cases hj : acc.toList[j]? with
    | none =>
      have h1 := List.getElem?_eq_none_iff.mp hj
      rw [List.getElem?_eq_none (by omega)]
      rfl
    | some v =>
      obtain ⟨en, hen, hv⟩ := it.2 j v (by rw [← Array.getElem?_toList]; exact hj)
      have qe := entry_at he j
      rw [hen] at qe
      cases hb : ks[j]? with
      | none => rw [hb] at qe; cases qe
      | some b =>
        rw [hb] at qe
        rw [hv, show en = entryOfKey (tupleKind (mixKind X.prog X.w)) b from Option.some.inj qe]
        rfl
  refine ⟨.ref h'.objs.size, _, I2.laid (t' := tk) (o := .tup ((ks.map fun x => x.2.1).map V.ref)) (fun b o e => Heap.get?_push_of_some _ e) (Nat.le_refl _)
    ⟨by rw [List.length_map, List.length_map]; omega, acc.toList, by rw [ea]; exact vals_refs _, by rw [Array.toArray_toList]; exact IsTup.new _ _⟩, rfl, q _ _ (I2.hok.fresh (Nat.le_refl _)) (show Paired _ kvs (ks.map fun x : List L2.Key × Addr × Value => x.2.1) from isKeys_of pr)⟩))
end
section
variable {K : PySem.W.Frag} {ι : List Addr} {H : Hp} {st : Sto}
theorem keys_relK : ∀ {kvs : List (Ky × D)} {vs : List (L2.Key × V)}, RelK K ι H kvs vs → RelDs K ι H (kvs.map fun p => kyD p.1) (vs.map fun kv => kV kv.1)
  | _, _, .nil => .nil
  | _, _, .cons _ r => .cons (kyD_rel _) (keys_relK r)
theorem keys_relT : ∀ {kvs : List (List Ky × D)} {vs : List (List L2.Key × V)} {bs : List Addr}, RelKT K ι H kvs vs → Paired (fun (x : List L2.Key × V) b => H b = some (.tup (x.1.map kV))) vs bs → RelDs K ι H (kvs.map fun p => .tup (p.1.map kyD)) (bs.map V.ref)
  | _, _, _, .nil, .nil => .nil
  | _, _, _, .cons _ r, .cons h p => .cons (.tup h (kyDs_rel _)) (keys_relT r p)
theorem tel_tuple : TelC K fTuple (rTup K) := by
  intro E ι H st ds vs Q S r go
  unfold fTuple at go
  split at go
  · rename_i d
    obtain ⟨v, rfl, q1⟩ := rels1 r
    cases hs : seqOf st d with
    | some xs =>
      rw [hs] at go
      exact .inl (tel_tuple_seq S q1 hs go)
    | none =>
      rw [hs] at go
      cases q1 with
      | @ref n a ha =>
        dsimp only at go
        split at go
        · rename_i kvs e
          obtain ⟨b, vs, hb, e', q⟩ := dk_ofS S e
          rw [ha] at hb; cases hb
          exact .inr (.inl ⟨a, vs, rfl, e', Go.tup go S (keys_relK q)⟩)
        · rename_i kvs e
          obtain ⟨b, vs, hb, e', q⟩ := dt_ofS S e
          rw [ha] at hb; cases hb
          exact .inr (.inr ⟨a, vs, rfl, e', fun l bs hl pr => Go.tup go S (keys_relT q pr) l hl⟩)
        · exact (show False from go).elim
      | _ => exact (show False from go).elim
  · exact (show False from go).elim
end
end PyI

set_option maxHeartbeats 8000000
/-! IS1_: sorted(a dict whose keys are pairs of whole numbers). -/
namespace PyI
open PySem PySem.Spec PyProof.Rows L2
section
variable {prog : Program} {w : World} {A : Around} {E : Value → Shared → Prop} {s : Shared} {r d : Addr} {n : Nat} {P : Nat → Value → Prop} {OK : Heap → Prop}
theorem sorted_dict {k : Value → Int × Int} {Q : Value → Shared → Prop} (K : PySem.W.KdlSrc prog w "dict" r d n P OK) (hh : A.handled = none) (hok : OK s.heap) (hn : n ≤ sizeLine)
    (hp : ∀ (acc : Array Value), PySem.ItemsOf P acc n → ∀ v ∈ acc.toList, Srt.IsPair s.heap v (k v).1 (k v).2)
    (h : ∀ (g h' : Heap) (tk : Nat) (acc : Array Value) (out : List Value), PySem.ItemsOf P acc n → SrtO.Srtd (fun v u => SrtO.lexB (k v) (k u)) out → SrtO.Stb (fun v u => SrtO.lexB (k v) (k u)) out acc.toList → (∀ b o, s.heap.get? b = some o → g.get? b = some o) → (∀ b o, g.get? b = some o → h'.get? b = some o) →
      (∃ m, h'.get? g.objs.size = some (seqObj "list" out.toArray m)) → Q (.ref g.objs.size) { s with heap := h', toks := tk }) :
    wpAny (model prog w) A (call (.builtin "sorted") [.ref r]) Q E s := by
  refine Calls.call_function_entry kind_sorted plain_sorted entry_sorted (args_sorted1 _) ?_
  unfold Builtin.«sorted»
  refine wpAny_bind (m := checkCount "sorted" 1 1 _) (wpAny_pure ?_)
  refine wpAny_bind (PySem.W.kdu_collect (A := A.in1) K hh hok hn fun g tk acc gk hacc => ?_)
  have hl : acc.toList.length = n := by rw [Array.length_toList]; exact hacc.1
  refine wpAny_bind (wpAny_newList ?_ (by rw [hl]; exact hn))
  have hoL : (g.push (seqObj "list" acc.toList.toArray 0)).get? g.objs.size = some (seqObj "list" acc.toList.toArray 0) := Heap.get?_push_size _ rfl
  have kp : ∀ b o, s.heap.get? b = some o → b ≠ g.objs.size ∧ (g.push (seqObj "list" acc.toList.toArray 0)).get? b = some o := fun b o q => ⟨Nat.ne_of_lt (Heap.lt_size (gk b o q)), Heap.get?_push_of_some _ (gk b o q)⟩
  show wpAny _ _ _ _ _ { s with heap := g.push (seqObj "list" acc.toList.toArray 0), toks := tk }
  refine wpAny_bind (wpAny_holding (wpAny_call_entry slot_list_sort ⟨_, hoL, rfl⟩ entry_list_sort (SrtO.list_sort_ord (SrtO.swo_lex k) hoL (by rw [hl]; exact hn) (fun h2 => ?_) fun out hs hb => ⟨_, rfl, ?_⟩) (args_list_sort _)))
  · refine SrtO.pairs_sortableO (by omega) (fun v hm => (hp acc hacc v hm).keeps fun b o e _ => (kp b o e).2) fun o e => ?_
    have e' := e.symm.trans hoL
    cases e'
    intro c
    exact absurd (Value.type.inj c) (by decide)
  · refine wpAny_pure ⟨_, rfl, ?_⟩
    refine h g _ tk acc out hacc hs hb gk (fun b o e => ?_) (sortedHeap_at hoL)
    have e1 : (g.push (seqObj "list" acc.toList.toArray 0)).get? b = some o := Heap.get?_push_of_some _ e
    exact (sortedHeap_old (Nat.ne_of_lt (Heap.lt_size e)) (Heap.lt_size e1)).trans e1
end
end PyI

/-! IS2_: sorted(a dict whose keys are pairs of whole numbers), as a rule. -/
namespace PyI
open PySem PySem.Spec PyProof.Rows L2

/-- the two whole numbers of a pair, as they lie there -/
def kOf (h : Heap) : Value → Int × Int
  | .ref a => match h.get? a with
    | some o => match o.data with
      | .seq items _ => match items.toList with
        | [.int i _, .int j _] => (i, j)
        | _ => (0, 0)
      | _ => (0, 0)
    | none => (0, 0)
  | _ => (0, 0)
abbrev prV (x : Int × Int) : HO := .tup [.int x.1, .int x.2]
section
variable {X : Cx} {pins : List (Addr × Obj)} {σ : L2.St} {H : Hp} {s : Shared}
theorem pair_at (I : Inv X pins σ H s) {b : Addr} {x : Int × Int} (e : H b = some (prV x)) : Srt.IsPair s.heap (.ref b) x.1 x.2 ∧ kOf s.heap (.ref b) = x := by
  obtain ⟨_, its, r2, o, ho, hc, n, hd⟩ := I.hok _ _ e
  obtain ⟨u1, u2, rfl, ri, rj⟩ := vals2 r2
  obtain ⟨t1, rfl⟩ := ri
  obtain ⟨t2, rfl⟩ := rj
  refine ⟨⟨b, o, t1, t2, n, rfl, ho, hc, hd⟩, ?_⟩
  simp only [kOf, ho, hd]
theorem refs_of (I : Inv X pins σ H s) : ∀ out : List Value, (∀ v ∈ out, ∃ b x, v = Value.ref b ∧ H b = some (prV x)) → ∃ bs : List Addr, out = bs.map Value.ref ∧ Paired (fun x b => H b = some (prV x)) (out.map (kOf s.heap)) bs
  | [], _ => ⟨[], rfl, .nil⟩
  | v :: out, h => by
    obtain ⟨b, x, rfl, e⟩ := h _ List.mem_cons_self
    obtain ⟨bs, rfl, p⟩ := refs_of I out fun u hu => h u (List.mem_cons_of_mem _ hu)
    refine ⟨b :: bs, rfl, .cons ?_ p⟩
    rw [(pair_at I e).2]
    exact e
/-- sorted(d): d's keys are the pairs ks; a new list of the same tuples, in the order of the pairs -/
def rSortD : List V → Hp → VK → Prop := fun vs H Q => ∃ (p : Addr) (kvs : List (List L2.Key × V)) (ks : List (Int × Int)), vs = [.ref p] ∧ H p = some (.dT kvs) ∧ kvs.map (·.1) = ks.map (fun x => [.inl x.1, .inl x.2]) ∧
  ∀ (q : Addr) (os : List (Int × Int)) (bs : List Addr), H q = none → os.Perm ks → os.Pairwise (fun a b => SrtO.lexB b a = false) → Paired (fun x b => H b = some (prV x)) os bs → Q (.ref q) (upd H q (.lst (bs.map V.ref)))
theorem cr_sortD (hc : X.calm = true) : CallR X (.builtin "sorted") rSortD := by
  intro pins s σ H xs us Q I r h
  obtain ⟨p, kvs, ks, rfl, hp, hk, q⟩ := h
  obtain ⟨u, rfl, rx⟩ := vals1 r
  obtain rfl : u = Value.ref p := rx
  obtain ⟨z, hs, ps, pr, o, es, ep, ho, hx, hdt, he, hn⟩ := (show ObjOk X.prog X.w H s.heap p (.dT kvs) from I.hok p _ hp)
  have l1 : es.size = ps.length := size_of_entries he
  have l2 : kvs.length = ps.length := Paired.length pr
  have l3 : kvs.length = ks.length := by have := congrArg List.length hk; rwa [List.length_map, List.length_map] at this
  -- the j-th key
  have key : ∀ (j : Nat) (v : Value), (∃ en : DictEntry, es[j]? = some en ∧ v = en.key) → ∃ b x, v = Value.ref b ∧ ks[j]? = some x ∧ H b = some (prV x) := by
    rintro j v ⟨en, hen, rfl⟩
    have qe := entry_at he j
    rw [hen] at qe
    cases hb : ps[j]? with
    | none => rw [hb] at qe; cases qe
    | some b =>
      rw [hb] at qe
      have e1 : en = entryOfKey (tupleKind (mixKind X.prog X.w)) b := Option.some.inj qe
      have hj : j < kvs.length := by rw [l2]; exact (List.getElem?_eq_some_iff.mp hb).1
      obtain ⟨b', hb', g1, g2, _⟩ := paired_get pr (List.getElem?_eq_getElem hj)
      rw [hb] at hb'; cases hb'
      have hkj : (kvs.map (·.1))[j]? = some (kvs[j]).1 := by rw [List.getElem?_map, List.getElem?_eq_getElem hj]; rfl
      rw [hk, List.getElem?_map] at hkj
      obtain ⟨x, h1, h2⟩ := Option.map_eq_some_iff.mp hkj
      refine ⟨b.2.1, x, by rw [e1]; rfl, h1, ?_⟩
      rw [g2, ← h2]
      rfl
  have all : ∀ (acc : Array Value), PySem.ItemsOf (fun i v => ∃ en : DictEntry, es[i]? = some en ∧ v = en.key) acc es.size → (∀ v ∈ acc.toList, ∃ b x, v = Value.ref b ∧ H b = some (prV x)) ∧ acc.toList.map (kOf s.heap) = ks := by
    intro acc hacc
    have at' : ∀ (j : Nat) (v : Value), acc.toList[j]? = some v → ∃ b x, v = Value.ref b ∧ ks[j]? = some x ∧ H b = some (prV x) := fun j v e => key j v (hacc.2 j v (by rw [← Array.getElem?_toList]; exact e))
    refine ⟨fun v hv => ?_, ?_⟩
    · obtain ⟨j, hj⟩ := List.mem_iff_getElem?.mp hv
      obtain ⟨b, x, e1, _, e3⟩ := at' j v hj
      exact ⟨b, x, e1, e3⟩
    · apply List.ext_getElem?
      intro j
      rw [List.getElem?_map]
      cases hj : acc.toList[j]? with
      | some v =>
        obtain ⟨b, x, rfl, e2, e3⟩ := at' j v hj
        rw [e2]
        show some (kOf s.heap (Value.ref b)) = _
        rw [(pair_at I e3).2]
      | none =>
        have h1 := List.getElem?_eq_none_iff.mp hj
        rw [Array.length_toList, hacc.1] at h1
        rw [List.getElem?_eq_none (by omega)]
        rfl
  refine sorted_dict (k := kOf s.heap) (kdl_raw hs hx hdt) (I.ok.hd hc) ho (by omega) (fun acc hacc v hv => ?_) fun g h' tk acc out hacc hsr hst gk kp hD => ?_
  · obtain ⟨b, x, rfl, e⟩ := (all acc hacc).1 v hv
    have w := pair_at I e
    rw [w.2]
    exact w.1
  · obtain ⟨a1, a2⟩ := all acc hacc
    obtain ⟨bs, hbs, pb⟩ := refs_of I out fun v hv => a1 v (hst.perm.mem_iff.mp hv)
    obtain ⟨m, hm⟩ := hD
    have I2 : Inv X pins σ H { s with heap := g, toks := tk } := I.kept gk
    have hlen : out.length = ps.length := by rw [hst.perm.length_eq, Array.length_toList, hacc.1, l1]
    refine ⟨.ref g.objs.size, _, I2.laid (t' := tk) (o := .lst (bs.map V.ref)) kp (Nat.le_refl _) ⟨?_, out, m, by rw [hbs]; exact vals_refs _, hm⟩, rfl, q g.objs.size (out.map (kOf s.heap)) bs (I2.hok.fresh (Nat.le_refl _)) ?_ ?_ pb⟩
    · have : bs.length = out.length := by rw [hbs, List.length_map]
      rw [List.length_map]
      omega
    · rw [← a2]
      exact hst.perm.map _
    · exact List.pairwise_map.mpr hsr
end
section
theorem pLe_iff {a b : Int × Int} : pLe a b = true ↔ a.1 < b.1 ∨ (a.1 = b.1 ∧ a.2 ≤ b.2) := by
  unfold pLe
  simp only [Bool.or_eq_true, Bool.and_eq_true, decide_eq_true_eq]
theorem pLe_anti {a b : Int × Int} (h : pLe a b = true) (k : pLe b a = true) : a = b := by
  rw [pLe_iff] at h k
  exact Prod.ext (by omega) (by omega)
theorem sorted_uniq : ∀ {l m : List (Int × Int)}, l.Pairwise (fun a b => pLe a b = true) → m.Pairwise (fun a b => pLe a b = true) → l.Perm m → l = m
  | [], m, _, _, p => (List.Perm.eq_nil p.symm).symm
  | a :: l, [], _, _, p => by have := p.length_eq; simp at this
  | a :: l, b :: m, hl, hm, p => by
    have e : a = b := by
      rcases List.mem_cons.mp (p.mem_iff.mp (List.mem_cons_self (a := a) (l := l))) with e | ha
      · exact e
      · rcases List.mem_cons.mp (p.mem_iff.mpr (List.mem_cons_self (a := b) (l := m))) with e | hb
        · exact e.symm
        · exact pLe_anti ((List.pairwise_cons.mp hl).1 b hb) ((List.pairwise_cons.mp hm).1 a ha)
    subst e
    rw [sorted_uniq (List.pairwise_cons.mp hl).2 (List.pairwise_cons.mp hm).2 p.cons_inv]
theorem prs_map : ∀ {l : List (List Ky)} {ks : List (Int × Int)}, prsOf l = some ks → (l.map fun k => k.map kyK) = ks.map fun x => [.inl x.1, .inl x.2]
  | [], ks, h => by cases h; rfl
  | k :: r, ks, h => by
    unfold prsOf at h
    split at h
    · rename_i e; cases e
    · rename_i i j r' e
      cases e
      obtain ⟨l, hl, rfl⟩ := map_some h
      rw [List.map_cons, List.map_cons, prs_map hl]
      rfl
    · cases h
theorem keys_of {K : PySem.W.Frag} {ι : List Addr} {H : Hp} : ∀ {kvs : List (List Ky × D)} {vs : List (List L2.Key × V)}, RelKT K ι H kvs vs → vs.map (·.1) = (kvs.map (·.1)).map fun k => k.map kyK
  | _, _, .nil => rfl
  | _, _, .cons _ r => by rw [List.map_cons, List.map_cons, List.map_cons, keys_of r]
theorem prs_rel {K : PySem.W.Frag} {ι : List Addr} {H : Hp} : ∀ {os : List (Int × Int)} {bs : List Addr}, Paired (fun x b => H b = some (prV x)) os bs → RelDs K ι H (os.map fun x => .tup [.int x.1, .int x.2]) (bs.map V.ref)
  | _, _, .nil => .nil
  | _, _, .cons h r => .cons (.tup h (.cons (.int _) (.cons (.int _) .nil))) (prs_rel r)
theorem tel_sorted {K : PySem.W.Frag} : TelC K fSorted rSortD := by
  intro E ι H st ds vs Q S r go
  unfold fSorted at go
  split at go
  · rename_i n
    obtain ⟨v, rfl, q1⟩ := rels1 r
    split at go
    · rename_i kvs e
      split at go
      · rename_i ks hk
        cases q1 with
        | @ref n a ha =>
          obtain ⟨b, ws, hb, e', q⟩ := dt_ofS S e
          rw [ha] at hb; cases hb
          refine ⟨a, ws, ks, rfl, e', by rw [keys_of q, prs_map hk], fun l os bs hl hp hs pr => ?_⟩
          have tot : ∀ x y : Int × Int, (pLe x y || pLe y x) = true := fun x y => by
            rw [Bool.or_eq_true, pLe_iff, pLe_iff]; omega
          have tr : ∀ x y w : Int × Int, pLe x y = true → pLe y w = true → pLe x w = true := fun x y w h1 h2 => by
            rw [pLe_iff] at *; omega
          have s1 : os.Pairwise (fun x y => pLe x y = true) := hs.imp fun {x y} h => by
            have := SrtO.lexB_no.mp h
            rw [pLe_iff]; omega
          have e3 : os = ks.mergeSort pLe := sorted_uniq s1 (List.pairwise_mergeSort tr tot ks) (hp.trans (List.mergeSort_perm ks pLe).symm)
          rw [← e3] at go
          exact Go.newL go S (prs_rel pr) l hl
      · exact (show False from go).elim
    · exact (show False from go).elim
  · exact (show False from go).elim
end
end PyI

/-! IU0_: calls by keywords and without arguments; displays of dicts; slices from behind; tuple(range). -/
namespace PyI
open PySem PySem.Spec PyProof.Rows L2

/-- how any split of the parameters into places and names binds -/
def KB (K : PySem.W.Frag) (fd : FuncData) (ps : List Str) : Prop := ∀ (s : Shared) (us ws : List Value), K.In s.heap → (us ++ ws).length = ps.length → BindsTo s fd ⟨us, (ps.drop us.length).zip ws⟩ (ps.zip (us ++ ws))
theorem KB.binds {K : PySem.W.Frag} {fd : FuncData} {ps : List Str} (h : KB K fd ps) : Binds K fd ps [] := fun s us hk hl => by
  have := h s us [] hk hl
  rw [List.zip_nil_right] at this
  exact this
section
variable {X : Cx} {CX : CXT} {k : Nat} {f : Addr} {fd : FuncData} {ps : List Str} {sp : Sp} {W : L2.St → XK} {x : Str} {p pos : Pos} {e : Expr} {es : List Expr} {kws : List Keyword} {t tk : TA}
theorem run_fnGK {pins : List (Addr × Obj)} {σ : L2.St} {H : Hp} {s : Shared} {Q : VK} {us ws : List Value} {vs zs : List V} (F : FnG X.prog X.w X.K X.mg X.base CX k f fd ps sp) (hr : Room k X.A) (hgd : X.A.guards = some []) (hb : KB X.K fd ps) (hx : PassesAt CX X σ (W σ))
    (I : Inv X pins σ H s) (r : Vals vs us) (rz : Vals zs ws) (h : sp (vs ++ zs) H Q (W σ)) : wpAny (model X.prog X.w) X.A (call (.ref f) us ((ps.drop us.length).zip ws)) (EP X pins σ Q) X.xe s := by
  have r2 := r.append rz
  have b := hb s us ws I.kIn (by rw [← r2.length]; exact F.len _ _ _ _ h)
  refine wpAny_call (codeAny_mono (F.run X.A X.stack s H _ (us ++ ws) (vs ++ zs) Q (W σ) hr hgd I.env0 b r2 h) fun res s' hq => ?_)
  match res, hq with
  | .error e, hq => exact hx pins H s e s' I hq
  | .ok (.ret u), hq => exact I.after hq
theorem pe_callG0 (F : FnG X.prog X.w X.K X.mg X.base CX k f fd ps sp) (hr : Room k X.A) (hgd : X.A.guards = some []) (hg : Gl X x) (hm : X.mg x = some (.ref f)) (hk : PySem.W.keepIn X.K (.ref f) = true) (hb : Binds X.K fd ps []) (hx : ∀ σ, PassesAt CX X σ (W σ))
    (hdb : (x == ("__debug__" : Str)) = false) : PE X (.Call (.Name x p) [] [] pos) (tCallS sp W tNil) := ⟨fun pins s σ H Q I h =>
  wpAny_Call_Name_kw (ld_glob I hg hm (PySem.W.callWith_K0 I.kIn hk (run_fnG (us := []) F hr hgd hb (hx σ) I .nil h)) hdb)⟩
def tCallGK (sp : Sp) (W : L2.St → XK) (t tk : TA) : TE := fun σ H Q => t σ H fun vs H1 => tk σ H1 fun zs H2 => sp (vs ++ zs) H2 Q (W σ)
theorem pe_callGK (F : FnG X.prog X.w X.K X.mg X.base CX k f fd ps sp) (hr : Room k X.A) (hgd : X.A.guards = some []) (hg : Gl X x) (hm : X.mg x = some (.ref f)) (hk : PySem.W.keepIn X.K (.ref f) = true) (hb : KB X.K fd ps) (hx : ∀ σ, PassesAt CX X σ (W σ))
    (ha : PA X (e :: es) t) (hkw : PK X kws tk) (hdb : (x == ("__debug__" : Str)) = false) (he : starEach (e :: es) X.env = (false, eval e X.env) :: starEach es X.env) (hall : (backToKw pos (keywordEach kws X.env)).all (·.1.isSome) = true)
    (hks : (backToKw pos (keywordEach kws X.env)).filterMap (·.1) = ps.drop (e :: es).length) (hlen : ∀ σ H Q, t σ H Q → t σ H fun vs H1 => vs.length = (e :: es).length ∧ Q vs H1)
    (hpl : ((backTo pos (starEach (e :: es) X.env)).any (·.1) || (backToKw pos (keywordEach kws X.env)).any (·.1.isNone)) = false) : PE X (.Call (.Name x p) (e :: es) kws pos) (tCallGK sp W t tk) := ⟨fun pins s σ H Q I h => by
  refine wpAny_Call_Name_kw (ld_glob I hg hm ?_ hdb)
  refine PySem.W.callWith_KW (h₀ := X.base) I.ok.mod.kin hk hall (thn (ha.run pos pins s σ H _ I (hlen _ _ _ h)) fun us s1 ⟨vs, H1, I1, r, hl, q⟩ => ?_) hpl he
  refine thn (hkw.run pos pins s1 σ H1 _ I1 q) fun ws s2 ⟨zs, H2, I2, rz, q2⟩ => ⟨I2.kIn, ?_⟩
  rw [hks, ← hl, r.length]
  exact run_fnGK F hr hgd hb (hx σ) I2 r rz q2⟩
theorem pe_callGK0 (F : FnG X.prog X.w X.K X.mg X.base CX k f fd ps sp) (hr : Room k X.A) (hgd : X.A.guards = some []) (hg : Gl X x) (hm : X.mg x = some (.ref f)) (hk : PySem.W.keepIn X.K (.ref f) = true) (hb : KB X.K fd ps) (hx : ∀ σ, PassesAt CX X σ (W σ))
    (hkw : PK X kws tk) (hdb : (x == ("__debug__" : Str)) = false) (hall : (backToKw pos (keywordEach kws X.env)).all (·.1.isSome) = true)
    (hks : (backToKw pos (keywordEach kws X.env)).filterMap (·.1) = ps) (hpl : (backToKw pos (keywordEach kws X.env)).any (·.1.isNone) = false) : PE X (.Call (.Name x p) [] kws pos) (tCallGK sp W tNil tk) := ⟨fun pins s σ H Q I h => by
  refine wpAny_Call_Name_kw (ld_glob I hg hm ?_ hdb)
  refine PySem.W.callWith_KW0 (h₀ := X.base) I.ok.mod.kin hk hall (thn (hkw.run pos pins s σ H _ I h) fun ws s2 ⟨zs, H2, I2, rz, q2⟩ => ⟨I2.kIn, ?_⟩) hpl
  rw [hks]
  exact run_fnGK (us := []) F hr hgd hb (hx σ) I2 .nil rz q2⟩
end

/-! ### the readings -/
def IEs.app : IEs → IEs → IEs
  | .nil, b => b
  | .cons e a, b => .cons e (a.app b)
section
variable {cf : Nat → List D → Sto → Res D}
theorem evEs_app : ∀ (a b : IEs) (env : Env) (st : Sto), evEs cf (a.app b) env st = (evEs cf a env st).bind fun xs st => (evEs cf b env st).bind fun ys st => .ok (xs ++ ys) st
  | .nil, b, env, st => by
    show evEs cf b env st = (Res.ok [] st).bind fun xs st => (evEs cf b env st).bind fun ys st => .ok (xs ++ ys) st
    rw [Res.bind_ok]
    cases evEs cf b env st <;> rfl
  | .cons e a, b, env, st => by
    show (evE cf e env st).bind (fun x st => (evEs cf (a.app b) env st).bind fun xs st => .ok (x :: xs) st) = ((evE cf e env st).bind fun x st => (evEs cf a env st).bind fun xs st => .ok (x :: xs) st).bind fun xs st => (evEs cf b env st).bind fun ys st => .ok (xs ++ ys) st
    cases evE cf e env st with
    | ok x s =>
      simp only [Res.bind_ok]
      rw [evEs_app a b env s]
      cases evEs cf a env s with
      | ok xs s2 =>
        simp only [Res.bind_ok]
        cases evEs cf b env s2 <;> rfl
      | exc n s2 => rfl
      | stuck => rfl
    | exc n s => rfl
    | stuck => rfl
def IEs.len : IEs → Nat
  | .nil => 0
  | .cons _ a => a.len + 1
theorem evEs_len : ∀ (a : IEs) (env : Env) (st : Sto) (xs : List D) (s : Sto), evEs cf a env st = .ok xs s → xs.length = a.len
  | .nil, env, st, xs, s, h => by cases h; rfl
  | .cons e a, env, st, xs, s, h => by
    change (evE cf e env st).bind (fun x st => (evEs cf a env st).bind fun xs st => .ok (x :: xs) st) = .ok xs s at h
    obtain ⟨x, s1, h1, h2⟩ := bind_ok_inv h
    obtain ⟨ys, s2, h3, h4⟩ := bind_ok_inv h2
    cases h4
    rw [List.length_cons, evEs_len a env s1 ys s h3]
    rfl
end

/-! ### displays of dicts whose keys are written texts -/
section
variable {K : PySem.W.Frag} {ι ι' : List Addr} {H H' : Hp} {st : Sto}
theorem out_extD {p : Addr} {kvs : List (L2.Key × V)} {o : HO} (hp : H p = some (.dK kvs)) : Ext0 K ι H ι (upd H p o) where
  pre := List.prefix_refl _
  tup := fun a ys h => by
    rw [upd_ne fun z => by rw [z, hp] at h; cases h]
    exact h
  frz := fun a ys h => by
    rcases h with ⟨o, h⟩ | h
    · exact .inl ⟨o, by rw [upd_ne fun z => by rw [z, hp] at h; cases h]; exact h⟩
    · exact .inr h
theorem StR.outD {p : Addr} {kvs : List (L2.Key × V)} {o : HO} (S : StR K ι H st) (hp : H p = some (.dK kvs)) (hn : p ∉ ι) : StR K ι (upd H p o) st where
  len := S.len
  nd := S.nd
  cell := fun n c a e1 e2 => by
    have ha : a ≠ p := fun z => hn (by rw [← z]; exact List.mem_of_getElem? e2)
    exact (S.cell n c a e1 e2).mono0 (out_extD hp) fun o e => by rw [upd_ne ha]; exact e
theorem Ext.outD {p : Addr} {o : HO} (x : Ext K ι H ι' H') (hn : H p = none) (e : ∃ kvs, H' p = some (.dK kvs)) : Ext K ι H (ι' ++ [p]) (upd H' p o) := by
  obtain ⟨kvs, e⟩ := e
  have y := out_extD (K := K) (ι := ι') (o := o) e
  exact { pre := x.pre.trans (List.prefix_append _ _)
          old := fun a o h hm => by
            rw [upd_ne fun z => by rw [z, hn] at h; cases h]
            exact x.old a o h hm
          new := fun a hm h' => by
            rcases List.mem_append.mp hm with q | q
            · exact x.new a q h'
            · rw [List.mem_singleton.mp q]; exact hn
          lock := fun a o u h => by
            rw [upd_ne fun z => by rw [z, hn] at h; cases h]
            exact x.lock a o u h
          tup := fun a ys h => y.tup a ys (x.tup a ys h)
          frz := fun a ys h => y.frz a ys (x.frz a ys h) }
end
section
variable {X : Cx} {E : L2.St → XW} {a b : Expr} {fa fb : Env → Sto → Res D} {x y : Str} {j j2 : Nat} {p1 p2 pos : Pos}
def fDct2 (x y : List Nat) (fa fb : Env → Sto → Res D) : Env → Sto → Res D := fun env st => (fa env st).bind fun u st => (fb env st).bind fun v st => guard' (decide (x ≠ y)) (.ok (.ref st.length) (st ++ [.dk [(.inr x, u), (.inr y, v)]]))
theorem merge2 {k1 k2 : L2.Key} {u v : V} (h : k1 ≠ k2) : mergeK [] [(k1, u), (k2, v)] = [(k1, u), (k2, v)] := by
  unfold mergeK
  simp only [List.foldl_cons, List.foldl_nil]
  unfold putK
  simp [h]
theorem se_dct2 (ha : SE X E a fa) (hb : SE X E b fb) : SE X E (.Dict [some (.Constant (.str x) j p1), some (.Constant (.str y) j2 p2)] [a, b] pos) (fDct2 x.cps.toList y.cps.toList fa fb) :=
  PE.imp (pe_disp (pps_cons pe_str ha (pps_cons pe_str hb pps_nil)) rfl rfl (by simp) (Nat.le_of_ble_eq_true rfl)) fun σ H Q ⟨ι, env, st, eR, S, go⟩ p hp => by
    have x0 : Ext X.K ι H ι (upd H p (.dK [])) := Ext.fresh hp
    have np := S.new hp
    unfold fDct2 at go
    refine ⟨ι, env, st, eR.mono x0, S.fresh hp np, ?_⟩
    cases h1 : fa env st with
    | stuck => rw [h1] at go; exact go
    | exc n s1 => rw [h1] at go; exact Go.mono (r := (Res.exc n s1 : Res D)) (R := RD X.K) (Q := Q) x0 go
    | ok u st1 =>
      rw [h1, Res.bind_ok] at go
      intro ι1 H1 u' x1 S1 r1
      refine ⟨ι1, env, st1, (eR.mono x0).mono x1, S1, ?_⟩
      cases h2 : fb env st1 with
      | stuck => rw [h2] at go; exact go
      | exc n s1 => rw [h2] at go; exact fun ι2 H2 x2 S2 => go ι2 H2 ((x0.trans x1).trans x2) S2
      | ok v st2 =>
        rw [h2, Res.bind_ok] at go
        intro ι2 H2 v' x2 S2 r2
        obtain ⟨c, go3⟩ := Go.guard go
        rw [decide_eq_true_eq] at c
        have x12 := x1.trans x2
        have e2 : H2 p = some (.dK []) := x12.old p _ upd_same np
        have n2 : p ∉ ι2 := fun hm => by have := x12.new p hm np; rw [upd_same] at this; cases this
        have hne : (Sum.inr x : L2.Key) ≠ Sum.inr y := fun z => c (by cases z; rfl)
        refine ⟨e2, [(.inr x, u'), (.inr y, v')], rfl, Nat.le_of_ble_eq_true rfl, ?_⟩
        rw [merge2 hne]
        have xx : Ext X.K ι H (ι2 ++ [p]) (upd H2 p (.dK [(.inr x, u'), (.inr y, v')])) := (x0.trans x12).outD hp ⟨_, e2⟩
        have y0 := out_extD (K := X.K) (ι := ι2) (o := .dK [(.inr x, u'), (.inr y, v')]) e2
        have y1 : Ext0 X.K ι2 (upd H2 p (.dK [(.inr x, u'), (.inr y, v')])) (ι2 ++ [p]) (upd H2 p (.dK [(.inr x, u'), (.inr y, v')])) := ⟨List.prefix_append _ _, fun _ _ h => h, fun _ _ h => h⟩
        have ru := ((r1.mono x2).mono0 y0).mono0 y1
        have rv := (r2.mono0 y0).mono0 y1
        have rk : RelK X.K (ι2 ++ [p]) (upd H2 p (.dK [(.inr x, u'), (.inr y, v')])) [(.inr x.cps.toList, u), (.inr y.cps.toList, v)] [(kyK (.inr x.cps.toList), u'), (kyK (.inr y.cps.toList), v')] := .cons ru (.cons rv .nil)
        have hx : kyK (.inr x.cps.toList) = (Sum.inr x : L2.Key) := by show Sum.inr (tx x.cps.toList) = _; rw [tx_cps]
        have hy : kyK (.inr y.cps.toList) = (Sum.inr y : L2.Key) := by show Sum.inr (tx y.cps.toList) = _; rw [tx_cps]
        rw [hx, hy] at rk
        have S3 := (S2.outD (o := .dK [(.inr x, u'), (.inr y, v')]) e2 n2).adopt (c := .dk [(.inr x.cps.toList, u), (.inr y.cps.toList, v)]) n2 ⟨_, upd_same, rk⟩
        exact go3 _ _ _ xx S3 (.ref (get_pushed S2))
end

/-! ### tuple(range(..)) -/
section
variable {X : Cx} {E : L2.St → XW} {tg a b c : Expr} {fa fb fc : Env → Sto → Res D} {p p2 pos pos2 : Pos}
theorem r3_ok {i j k : Int} (h : r3Ok i j k = true) : RgC i j k (Builtin.Range.rangeSize i j k).toNat := by
  unfold r3Ok at h
  simp only [Bool.and_eq_true, decide_eq_true_eq] at h
  exact ⟨h.1.1.1, h.1.1.2, h.1.2, by have := h.2; omega⟩
theorem rgC_rel {K : PySem.W.Frag} {ι : List Addr} {H : Hp} (lo k : Int) (n : Nat) : RelDs K ι H (rgC lo k n) ((List.range n).map fun i => V.int (lo + (i : Nat) * k)) := by
  unfold rgC
  induction n with
  | zero => exact .nil
  | succ n ih =>
    rw [List.range_succ, List.map_append, List.map_append]
    exact ih.append (.cons (.int _) .nil)
theorem rgD_rel {K : PySem.W.Frag} {ι : List Addr} {H : Hp} (lo : Int) (n : Nat) : RelDs K ι H (rgD lo n) ((List.range n).map fun i => V.int (lo + (i : Nat))) := by
  unfold rgD
  induction n with
  | zero => exact .nil
  | succ n ih =>
    rw [List.range_succ, List.map_append, List.map_append]
    exact ih.append (.cons (.int _) .nil)
theorem itc_rel {K : PySem.W.Frag} {ι : List Addr} {H : Hp} (lo k : Int) (n : Nat) : ItR K ι H ⟨rgC lo k n, none⟩ (Itc lo k n) :=
  itR_walk walk_rangeC (by simp [rgC]) fun ι' H' st' _ S _ => ⟨trivial, fun i d v H'' hd y => by
    obtain ⟨rfl, rfl⟩ := y
    unfold rgC at hd
    rw [List.getElem?_map] at hd
    obtain ⟨j, hj, rfl⟩ := Option.map_eq_some_iff.mp hd
    obtain ⟨hl, hj⟩ := List.getElem?_eq_some_iff.mp hj
    rw [List.getElem_range] at hj
    subst hj
    exact same3 S (.int _)⟩
def fRng3 (fa fb fc : Env → Sto → Res D) : Env → Sto → Res Wk := fun env st => (fa env st).bind fun x st => (fb env st).bind fun y st => (fc env st).bind fun z st => match x, y, z with
    | .int i, .int j, .int k => guard' (r3Ok i j k) (.ok ⟨rgC i k (Builtin.Range.rangeSize i j k).toNat, none⟩ st)
    | _, _, _ => .stuck
theorem si_rng3 (hg : Gl X "range") (hm : X.mg "range" = none) (ha : SE X E a fa) (hb : SE X E b fb) (hc : SE X E c fc)
    (hs : starEach [a, b, c] X.env = (false, eval a X.env) :: starEach [b, c] X.env) (hs2 : starEach [b, c] X.env = (false, eval b X.env) :: starEach [c] X.env) (hs3 : starEach [c] X.env = [(false, eval c X.env)]) :
    SI X E tg (.Call (.Name "range" p) [a, b, c] [] pos) (fRng3 fa fb fc) := PI.imp (pi_range3 hg hm (pa_cons ha (pa_cons hb (pa_cons hc pa_nil hs3) hs2) hs) hs (by rw [hs2, hs3]; rfl)) fun σ H Q ⟨ι, env, st, eR, S, go⟩ =>
  ⟨ι, env, st, eR, S, Go.bind go fun ι1 H1 d v st1 x1 S1 r1 go1 => ⟨ι1, env, st1, eR.mono x1, S1, Go.bind go1 fun ι2 H2 d2 v2 st2 x2 S2 r2 go2 => ⟨ι2, env, st2, (eR.mono x1).mono x2, S2, Go.bind go2 fun ι3 H3 d3 v3 st3 x3 S3 r3 go3 => by
    cases r1 with
    | int i =>
      cases r2 with
      | int j =>
        cases r3 with
        | int k =>
          obtain ⟨g, q⟩ := Go.guard go3
          exact ⟨i, j, k, _, rfl, r3_ok g, q ι3 H3 _ (Ext.refl _ _) S3 (itc_rel i k _)⟩
        | _ => exact (show False from go3).elim
      | _ => exact (show False from go3).elim
    | _ => exact (show False from go3).elim⟩⟩⟩
/-- tuple(range(..)) of any step -/
def tTupR (ta : TA) : TE := fun σ H Q => ta σ H fun vs H1 => ∃ (i j k : Int) (n : Nat), vs = [.int i, .int j, .int k] ∧ RgC i j k n ∧ n ≤ 2 ^ 24 ∧ ∀ q, H1 q = none → Q (.ref q) (upd H1 q (.tup ((List.range n).map fun x => V.int (i + (x : Nat) * k))))
theorem pe_tupR3 {ta : TA} (hc : X.calm = true) (hg : Gl X "tuple") (hm : X.mg "tuple" = none) (hg2 : Gl X "range") (hm2 : X.mg "range" = none) (ha : PA X [a, b, c] ta)
    (hs : starEach [a, b, c] X.env = (false, eval a X.env) :: starEach [b, c] X.env) (hpl : (backTo pos2 (starEach [b, c] X.env)).any (·.1) = false) :
    PE X (.Call (.Name "tuple" p) [.Call (.Name "range" p2) [a, b, c] [] pos2] [] pos) (tTupR ta) := ⟨fun pins s σ H Q I h => by
  refine Call_ (ld_blt I hg hm PyProof.Rows.boot_tuple (PyProof.Rows.callWith_type1 (args_cons ?_ rfl) rfl))
  refine Call_ (ld_blt I hg2 hm2 PyProof.Rows.boot_range (PyProof.Rows.callWith_type1 (thn (ha.run pos2 pins s σ H _ I h) fun us s1 q1 => ?_) hs hpl))
  obtain ⟨vs, H1, I1, r1, i, j, k, n, e, ⟨c0, c1, c2, c3⟩, hl, q⟩ := q1
  subst e
  cases r1 with
  | cons r rr =>
    cases rr with
    | cons r' rr =>
      cases rr with
      | cons r'' rr =>
        cases rr
        obtain ⟨t, rfl⟩ := r
        obtain ⟨t', rfl⟩ := r'
        obtain ⟨t'', rfl⟩ := r''
        refine call_range_3 c0 ?_ (.inl (PyProof.noPylong_small c1))
        refine args_nil ?_
        have I2 : Inv X pins σ H1 { s1 with heap := s1.heap.push { cls := .type "range", data := .fields #[.int i t, .int j t', .int k t''] } } := I1.kept (t' := s1.toks) fun b o e => Heap.get?_push_of_some _ e
        refine call_tuple_range (n := n) (I2.ok.hd hc) (IsRange.new ..) c2 c3 hl fun h' tk acc hk hi => ?_
        have I3 : Inv X pins σ H1 { s1 with heap := h', toks := tk } := I2.kept hk
        refine ⟨.ref h'.objs.size, _, I3.laid (t' := tk) (o := .tup ((List.range n).map fun x => V.int (i + (x : Nat) * k))) (fun b o e => Heap.get?_push_of_some _ e) (Nat.le_refl _) ⟨?_, acc.toList, ?_, by rw [Array.toArray_toList]; exact IsTup.new _ _⟩, rfl, q _ (I3.hok.fresh (Nat.le_refl _))⟩
        · rw [List.length_map, List.length_range, line_eq]; exact hl
        · refine vals_of_at (by rw [List.length_map, List.length_range, ← hi.1, Array.length_toList]) fun m x w h1 h2 => ?_
          obtain ⟨tt, rfl⟩ := hi.2 m w (by rw [← Array.getElem?_toList]; exact h2)
          rw [List.getElem?_map] at h1
          obtain ⟨m', hm', rfl⟩ := Option.map_eq_some_iff.mp h1
          obtain ⟨_, hj⟩ := List.getElem?_eq_some_iff.mp hm'
          rw [List.getElem_range] at hj
          subst hj
          exact ⟨tt, rfl⟩⟩
end
end PyI

/-! IZ_: zip of two tuples whose pairs go to one name: the pair that was given out may live on. -/
namespace PyI
open PySem PySem.Spec PyProof.Rows L2

/-- the zip at z, whatever became of the pair it gave out -/
abbrev ZA (h : Heap) (z TI TO : Addr) (v : Value) (f : Bool) : Prop := h.get? z = some { cls := .type "zip", dict := none, data := .fields #[v, .bool f, .bool false, .ref TI, .ref TO], slots := #[] }
def Gave (v : Value) : Prop := v = .none ∨ ∃ T : Nat, v = rawInt T
section
variable {prog : Program} {w : World} {A : Around} {E : Value → Shared → Prop} {s : Shared} {z TI TO i1 i2 l1 l2 : Addr} {v : Value} {f : Bool} {k1 k2 : Nat} {xs ys : Array Value} {x y a b : Value}
theorem za_free {Q : Bool → Shared → Prop} (hz : ZA s.heap z TI TO v f) (hv : Gave v) (q1 : Q true s) (q2 : ∀ h', ZA h' z TI TO v true → Heap.SameBut z s.heap h' → Q false { s with heap := h' }) :
    wpAny (model prog w) A (Builtin.SmallTypes.ownedTupleIsFree (.ref z)) Q E s := by
  unfold Builtin.SmallTypes.ownedTupleIsFree
  refine wpAny_bind (wpAny_field hz rfl (x := v) rfl ?_)
  rcases hv with rfl | ⟨T, rfl⟩
  · exact wpAny_pure q1
  · show wpAny _ _ (loadIfAlive ((T : Int).toNat) >>= _) _ _ _
    have la : ∀ {R : Option Obj → Shared → Prop}, R (s.heap.get? ((T : Int).toNat)) s → wpAny (model prog w) A (loadIfAlive ((T : Int).toNat)) R E s := fun h => fun _ _ _ => h
    refine wpAny_bind (la ?_)
    cases s.heap.get? ((T : Int).toNat) with
    | none => exact wpAny_pure q1
    | some o =>
      show wpAny _ _ (field (.ref z) 1 >>= _) _ _ _
      refine wpAny_bind (wpAny_field hz rfl (x := .bool f) rfl ?_)
      cases f with
      | true =>
        rw [if_neg (show ¬ ((Value.bool true != Value.bool true) = true) from Bool.false_ne_true)]
        exact wpAny_pure (q2 s.heap hz (Heap.SameBut.refl _ _))
      | false =>
        rw [if_pos (show (Value.bool false != Value.bool true) = true from rfl)]
        exact wpAny_bind (wpAny_setField_rec hz (by simp) fun g gz gs => wpAny_pure (q2 g gz gs))
theorem za_item {Q : Value → Shared → Prop} (D : ZipApart z TI TO i1 i2 l1 l2) (hz : ZA s.heap z TI TO v f) (hv : Gave v) (hTI : IsPair s.heap TI (.ref i1) (.ref i2)) (hTO : IsPair s.heap TO a b)
    (t1 : s.heap.IsTupleIter i1 l1 k1) (t2 : s.heap.IsTupleIter i2 l2 k2) (hl1 : s.heap.IsTuple l1 xs) (hl2 : s.heap.IsTuple l2 ys) (hx : xs[k1]? = some x) (hy : ys[k2]? = some y)
    (hQ : ∀ h' v' f' a' b', ZA h' z TI TO v' f' → Gave v' → IsPair h' TO a' b' → h'.IsTupleIter i1 l1 (k1 + 1) → h'.IsTupleIter i2 l2 (k2 + 1) → IsPair h' s.heap.objs.size x y →
      (∀ c o, c ≠ z → c ≠ TO → c ≠ i1 → c ≠ i2 → s.heap.get? c = some o → h'.get? c = some o) → Q (.ref s.heap.objs.size) { s with heap := h' }) :
    wpAny (model prog w) A (Builtin.«zip.__next__» ⟨[.ref z], []⟩) (fun fin s' => ∃ u, fin = .done (.ret u) ∧ Q u s') E s := by
  show wpAny _ _ (field (.ref z) 2 >>= _) _ _ _
  refine wpAny_bind (wpAny_field hz rfl (x := .bool false) rfl ?_)
  show wpAny _ _ (field (.ref z) 3 >>= _) _ _ _
  refine wpAny_bind (wpAny_field hz rfl (x := .ref TI) rfl ?_)
  refine wpAny_bind (wpAny_seqItems hTI rfl ?_)
  show wpAny _ _ (Builtin.SmallTypes.ownedTupleIsFree (.ref z) >>= _) _ _ _
  refine wpAny_bind (za_free hz hv ?_ fun g1 gz1 gs1 => ?_)
  · -- the pair is free again: the own tuple is filled anew and handed out as a copy
    simp only [if_true]
    refine wpAny_bind (wpAny_rule ?_)
    refine wpAny_bind (wpAny_field hz rfl (x := .ref TO) rfl ?_)
    refine wpAny_bind (wpAny_setField_rec hz (by simp) fun g1 gz1 gs1 => ?_)
    replace gz1 : ZA g1 z TI TO .ellipsis f := gz1
    refine wpAny_bind ?_
    simp only [List.zipIdx_cons, List.zipIdx_nil, List.forIn_cons, List.forIn_nil]
    refine wpAny_bind (wpAny_bind (wpAny_onRaise ?_))
    show wpAny _ _ (Builtin.SmallTypes.nextOf (.ref i1) >>= _) _ _ _
    refine wpAny_bind (RZ.nextOf_tuple_item (t1.extBut gs1.extBut D.i1z) (hl1.extBut gs1.extBut D.l1z) hx fun g2 u2 gs2 => wpAny_pure ?_)
    have o2 : IsPair g2 TO a b := gs2.extBut _ _ D.TOi1 (gs1.extBut _ _ D.TOz hTO)
    refine wpAny_bind (wpAny_seqItems o2 rfl ?_)
    refine wpAny_bind (wpAny_updateSeq_pair o2 fun g3 o3 gs3 => ?_)
    replace o3 : IsPair g3 TO x b := o3
    refine wpAny_bind (wpAny_letGo (wpAny_pure ?_))
    refine wpAny_bind (wpAny_bind (wpAny_onRaise ?_))
    show wpAny _ _ (Builtin.SmallTypes.nextOf (.ref i2) >>= _) _ _ _
    refine wpAny_bind (RZ.nextOf_tuple_item (((t2.extBut gs1.extBut D.i2z).extBut gs2.extBut D.i12.symm).extBut gs3.extBut D.TOi2.symm) (((hl2.extBut gs1.extBut D.l2z).extBut gs2.extBut D.l2i1).extBut gs3.extBut D.l2TO) hy fun g4 u4 gs4 => wpAny_pure ?_)
    have o4 : IsPair g4 TO x b := gs4.extBut _ _ D.TOi2 o3
    refine wpAny_bind (wpAny_seqItems o4 rfl ?_)
    refine wpAny_bind (wpAny_updateSeq_pair o4 fun g5 o5 gs5 => ?_)
    replace o5 : IsPair g5 TO x y := o5
    refine wpAny_bind (wpAny_letGo (wpAny_pure (wpAny_pure ?_)))
    refine wpAny_bind (wpAny_seqItems o5 rfl ?_)
    refine wpAny_bind (wpAny_newTuple ?_)
    have size5 : g5.objs.size = s.heap.objs.size := by rw [gs5.1, gs4.1, gs3.1, gs2.1, gs1.1]
    have gz5 : ZA g5 z TI TO .ellipsis f := gs5.extBut _ _ D.TOz.symm (gs4.extBut _ _ D.i2z.symm (gs3.extBut _ _ D.TOz.symm (gs2.extBut _ _ D.i1z.symm gz1)))
    have kp5 : ∀ c o, c ≠ z → c ≠ TO → c ≠ i1 → c ≠ i2 → s.heap.get? c = some o → g5.get? c = some o := fun c o n1 n2 n3 n4 e =>
      gs5.extBut _ _ n2 (gs4.extBut _ _ n4 (gs3.extBut _ _ n2 (gs2.extBut _ _ n3 (gs1.extBut _ _ n1 e))))
    have u1 : g5.IsTupleIter i1 l1 (k1 + 1) := ((u2.extBut gs3.extBut D.TOi1.symm).extBut gs4.extBut D.i12).extBut gs5.extBut D.TOi1.symm
    have u5 : g5.IsTupleIter i2 l2 (k2 + 1) := u4.extBut gs5.extBut D.TOi2.symm
    have zlt : z < g5.objs.size := Heap.lt_size gz5
    show wpAny _ _ (Builtin.SmallTypes.ownedTupleHandOut (.ref z) (.ref g5.objs.size) >>= _) _ _ _
    refine wpAny_bind ?_
    unfold Builtin.SmallTypes.ownedTupleHandOut
    have gz6 : ZA (g5.push { cls := .type "tuple", data := .seq #[x, y] }) z TI TO .ellipsis f := Heap.get?_push_of_some _ gz5
    refine wpAny_bind (wpAny_setField_rec gz6 (by simp) fun g7 gz7 gs7 => ?_)
    replace gz7 : ZA g7 z TI TO (rawInt g5.objs.size) f := gz7
    refine wpAny_setField_rec gz7 (by simp) fun g8 gz8 gs8 => ?_
    replace gz8 : ZA g8 z TI TO (rawInt g5.objs.size) false := gz8
    have up : ∀ c o, c ≠ z → g5.get? c = some o → g8.get? c = some o := fun c o n1 e => gs8.extBut _ _ n1 (gs7.extBut _ _ n1 (Heap.get?_push_of_some _ e))
    have pT : IsPair g8 g5.objs.size x y := gs8.extBut _ _ (Nat.ne_of_gt zlt) (gs7.extBut _ _ (Nat.ne_of_gt zlt) (Heap.get?_push_size _ rfl))
    refine wpAny_pure ⟨_, rfl, ?_⟩
    show Q (.ref g5.objs.size) _
    rw [size5] at pT gz8 ⊢
    exact hQ g8 _ _ x y gz8 (.inr ⟨_, rfl⟩) (up _ _ D.TOz o5) (u1.at fun o e => up _ o D.i1z e) (u5.at fun o e => up _ o D.i2z e) pT fun c o n1 n2 n3 n4 e => up c o n1 (kp5 c o n1 n2 n3 n4 e)
  · -- it lives on: a new pair
    simp only [Bool.false_eq_true, if_false]
    refine wpAny_bind ?_
    rw [← Array.forIn_toList]
    simp only [List.forIn_cons, List.forIn_nil]
    refine wpAny_bind (wpAny_bind (wpAny_holding ?_))
    show wpAny _ _ (Builtin.SmallTypes.nextOf (.ref i1) >>= _) _ _ _
    refine wpAny_bind (RZ.nextOf_tuple_item (s := { s with heap := g1 }) (t1.extBut gs1.extBut D.i1z) (hl1.extBut gs1.extBut D.l1z) hx fun g2 u2 gs2 => wpAny_pure ?_)
    refine wpAny_pure ?_
    refine wpAny_bind (wpAny_bind (wpAny_holding ?_))
    show wpAny _ _ (Builtin.SmallTypes.nextOf (.ref i2) >>= _) _ _ _
    refine wpAny_bind (RZ.nextOf_tuple_item (s := { s with heap := g2 }) ((t2.extBut gs1.extBut D.i2z).extBut gs2.extBut D.i12.symm) ((hl2.extBut gs1.extBut D.l2z).extBut gs2.extBut D.l2i1) hy fun g3 u3 gs3 => wpAny_pure ?_)
    refine wpAny_pure (wpAny_pure ?_)
    show wpAny _ _ (newTuple [x, y] >>= _) _ _ _
    refine wpAny_bind (wpAny_newTuple ?_)
    have size3 : g3.objs.size = s.heap.objs.size := by rw [gs3.1, gs2.1, gs1.1]
    have gz3 : ZA g3 z TI TO v true := gs3.extBut _ _ D.i2z.symm (gs2.extBut _ _ D.i1z.symm gz1)
    have kp3 : ∀ c o, c ≠ z → c ≠ i1 → c ≠ i2 → s.heap.get? c = some o → g3.get? c = some o := fun c o n1 n2 n3 e => gs3.extBut _ _ n3 (gs2.extBut _ _ n2 (gs1.extBut _ _ n1 e))
    have u1 : g3.IsTupleIter i1 l1 (k1 + 1) := u2.extBut gs3.extBut D.i12
    refine wpAny_pure ⟨_, rfl, ?_⟩
    show Q (.ref g3.objs.size) _
    have pT : IsPair (g3.push { cls := .type "tuple", data := .seq #[x, y] }) g3.objs.size x y := Heap.get?_push_size _ rfl
    rw [size3] at pT ⊢
    exact hQ _ _ _ a b (Heap.get?_push_of_some _ gz3) hv (Heap.get?_push_of_some _ (kp3 _ _ D.TOz D.TOi1 D.TOi2 hTO)) (u1.at fun o e => Heap.get?_push_of_some _ e) (u3.at fun o e => Heap.get?_push_of_some _ e) pT fun c o n1 _ n3 n4 e => Heap.get?_push_of_some _ (kp3 c o n1 n3 n4 e)
theorem za_end {Q : Fin → Shared → Prop} (hh : A.handled = none) (D : ZipApart z TI TO i1 i2 l1 l2) (hz : ZA s.heap z TI TO v f) (hv : Gave v) (hTI : IsPair s.heap TI (.ref i1) (.ref i2)) (hTO : IsPair s.heap TO a b)
    (t1 : s.heap.IsTupleIter i1 l1 k1) (t2 : s.heap.IsTupleIter i2 l2 k2) (hl1 : s.heap.IsTuple l1 xs) (hl2 : s.heap.IsTuple l2 ys) (hend : xs[k1]? = none ∨ ys[k2]? = none)
    (hE : ∀ h' e, (∀ c o, c ≠ z → c ≠ TO → c ≠ i1 → c ≠ i2 → s.heap.get? c = some o → h'.get? c = some o) → (∃ o, h'.get? e = some o ∧ o.cls = .type "StopIteration") → E (.ref e) { s with heap := h' }) :
    wpAny (model prog w) A (Builtin.«zip.__next__» ⟨[.ref z], []⟩) Q E s := by
  show wpAny _ _ (field (.ref z) 2 >>= _) _ _ _
  refine wpAny_bind (wpAny_field hz rfl (x := .bool false) rfl ?_)
  show wpAny _ _ (field (.ref z) 3 >>= _) _ _ _
  refine wpAny_bind (wpAny_field hz rfl (x := .ref TI) rfl ?_)
  refine wpAny_bind (wpAny_seqItems hTI rfl ?_)
  show wpAny _ _ (Builtin.SmallTypes.ownedTupleIsFree (.ref z) >>= _) _ _ _
  refine wpAny_bind (za_free hz hv ?_ fun g1 gz1 gs1 => ?_)
  · simp only [if_true]
    refine wpAny_bind (wpAny_rule ?_)
    refine wpAny_bind (wpAny_field hz rfl (x := .ref TO) rfl ?_)
    refine wpAny_bind (wpAny_setField_rec hz (by simp) fun g1 gz1 gs1 => ?_)
    replace gz1 : ZA g1 z TI TO .ellipsis f := gz1
    refine wpAny_bind ?_
    simp only [List.zipIdx_cons, List.zipIdx_nil, List.forIn_cons, List.forIn_nil]
    refine wpAny_bind (wpAny_bind (wpAny_onRaise ?_))
    show wpAny _ _ (Builtin.SmallTypes.nextOf (.ref i1) >>= _) _ _ _
    cases hx : xs[k1]? with
    | none =>
      refine wpAny_bind (RZ.nextOf_tuple_end hh (t1.extBut gs1.extBut D.i1z) (hl1.extBut gs1.extBut D.l1z) hx fun g2 e gs2 he => ?_)
      obtain ⟨oe, hoe, hce⟩ := he
      have gz2 : ZA g2 z TI TO .ellipsis f := gs2 _ _ D.i1z.symm gz1
      have nez : e ≠ z := fun x => by subst x; rw [gz2] at hoe; cases hoe; simp at hce
      refine wpAny_setField_rec gz2 (by simp) fun g3 _ gs3 => hE g3 e (fun c o n1 _ n3 _ x => gs3.extBut _ _ n1 (gs2 _ _ n3 (gs1.extBut _ _ n1 x))) ⟨oe, gs3.extBut _ _ nez hoe, hce⟩
    | some x =>
      have hy : ys[k2]? = none := by rcases hend with h | h; rw [hx] at h; cases h; exact h
      refine wpAny_bind (RZ.nextOf_tuple_item (t1.extBut gs1.extBut D.i1z) (hl1.extBut gs1.extBut D.l1z) hx fun g2 u2 gs2 => wpAny_pure ?_)
      have o2 : IsPair g2 TO a b := gs2.extBut _ _ D.TOi1 (gs1.extBut _ _ D.TOz hTO)
      refine wpAny_bind (wpAny_seqItems o2 rfl ?_)
      refine wpAny_bind (wpAny_updateSeq_pair o2 fun g3 o3 gs3 => ?_)
      refine wpAny_bind (wpAny_letGo (wpAny_pure ?_))
      refine wpAny_bind (wpAny_bind (wpAny_onRaise ?_))
      show wpAny _ _ (Builtin.SmallTypes.nextOf (.ref i2) >>= _) _ _ _
      refine wpAny_bind (RZ.nextOf_tuple_end hh (((t2.extBut gs1.extBut D.i2z).extBut gs2.extBut D.i12.symm).extBut gs3.extBut D.TOi2.symm) (((hl2.extBut gs1.extBut D.l2z).extBut gs2.extBut D.l2i1).extBut gs3.extBut D.l2TO) hy fun g4 e gs4 he => ?_)
      obtain ⟨oe, hoe, hce⟩ := he
      have gz4 : ZA g4 z TI TO .ellipsis f := gs4 _ _ D.i2z.symm (gs3.extBut _ _ D.TOz.symm (gs2.extBut _ _ D.i1z.symm gz1))
      have nez : e ≠ z := fun x => by subst x; rw [gz4] at hoe; cases hoe; simp at hce
      refine wpAny_setField_rec gz4 (by simp) fun g5 _ gs5 => hE g5 e (fun c o n1 n2 n3 n4 x => gs5.extBut _ _ n1 (gs4 _ _ n4 (gs3.extBut _ _ n2 (gs2.extBut _ _ n3 (gs1.extBut _ _ n1 x))))) ⟨oe, gs5.extBut _ _ nez hoe, hce⟩
  · simp only [Bool.false_eq_true, if_false]
    refine wpAny_bind ?_
    rw [← Array.forIn_toList]
    simp only [List.forIn_cons, List.forIn_nil]
    refine wpAny_bind (wpAny_bind (wpAny_holding ?_))
    show wpAny _ _ (Builtin.SmallTypes.nextOf (.ref i1) >>= _) _ _ _
    cases hx : xs[k1]? with
    | none =>
      refine wpAny_bind (RZ.nextOf_tuple_end (s := { s with heap := g1 }) hh (t1.extBut gs1.extBut D.i1z) (hl1.extBut gs1.extBut D.l1z) hx fun g2 e gs2 he => ?_)
      exact hE g2 e (fun c o n1 _ n3 _ x => gs2 _ _ n3 (gs1.extBut _ _ n1 x)) he
    | some x =>
      have hy : ys[k2]? = none := by rcases hend with h | h; rw [hx] at h; cases h; exact h
      refine wpAny_bind (RZ.nextOf_tuple_item (s := { s with heap := g1 }) (t1.extBut gs1.extBut D.i1z) (hl1.extBut gs1.extBut D.l1z) hx fun g2 u2 gs2 => wpAny_pure ?_)
      refine wpAny_pure ?_
      refine wpAny_bind (wpAny_bind (wpAny_holding ?_))
      show wpAny _ _ (Builtin.SmallTypes.nextOf (.ref i2) >>= _) _ _ _
      refine wpAny_bind (RZ.nextOf_tuple_end (s := { s with heap := g2 }) hh ((t2.extBut gs1.extBut D.i2z).extBut gs2.extBut D.i12.symm) ((hl2.extBut gs1.extBut D.l2z).extBut gs2.extBut D.l2i1) hy fun g3 e gs3 he => ?_)
      exact hE g3 e (fun c o n1 _ n3 n4 x => gs3 _ _ n4 (gs2.extBut _ _ n3 (gs1.extBut _ _ n1 x))) he
theorem za_pyItem {Q : Option Value → Shared → Prop} (D : ZipApart z TI TO i1 i2 l1 l2) (hz : ZA s.heap z TI TO v f) (hv : Gave v) (hTI : IsPair s.heap TI (.ref i1) (.ref i2)) (hTO : IsPair s.heap TO a b)
    (t1 : s.heap.IsTupleIter i1 l1 k1) (t2 : s.heap.IsTupleIter i2 l2 k2) (hl1 : s.heap.IsTuple l1 xs) (hl2 : s.heap.IsTuple l2 ys) (hx : xs[k1]? = some x) (hy : ys[k2]? = some y)
    (hQ : ∀ h' v' f' a' b', ZA h' z TI TO v' f' → Gave v' → IsPair h' TO a' b' → h'.IsTupleIter i1 l1 (k1 + 1) → h'.IsTupleIter i2 l2 (k2 + 1) → IsPair h' s.heap.objs.size x y →
      (∀ c o, c ≠ z → c ≠ TO → c ≠ i1 → c ≠ i2 → s.heap.get? c = some o → h'.get? c = some o) → Q (some (.ref s.heap.objs.size)) { s with heap := h' }) : wpAny (model prog w) A (pyNext (.ref z)) Q E s := by
  have tz : s.TypeIs (.ref z) "zip" := ⟨_, hz, rfl⟩
  unfold pyNext
  exact wpAny_bind (wpAny_attempt (wpAny_callSpecial?_slot (name := Str.ofString "__next__") tz F.slot_zip_next (wpAny_call_entry F.slot_zip_next tz F.entry_zip_next
    (za_item D hz hv hTI hTO t1 t2 hl1 hl2 hx hy fun h' v' f' a' b' r1 r2 r3 r4 r5 r6 r7 => wpAny_pure (hQ h' v' f' a' b' r1 r2 r3 r4 r5 r6 r7)) (F.args_zip_next_1 _))))
theorem za_pyEnd {Q : Option Value → Shared → Prop} (hh : A.handled = none) (D : ZipApart z TI TO i1 i2 l1 l2) (hz : ZA s.heap z TI TO v f) (hv : Gave v) (hTI : IsPair s.heap TI (.ref i1) (.ref i2)) (hTO : IsPair s.heap TO a b)
    (t1 : s.heap.IsTupleIter i1 l1 k1) (t2 : s.heap.IsTupleIter i2 l2 k2) (hl1 : s.heap.IsTuple l1 xs) (hl2 : s.heap.IsTuple l2 ys) (hend : xs[k1]? = none ∨ ys[k2]? = none)
    (hQ : ∀ h', (∀ c o, c ≠ z → c ≠ TO → c ≠ i1 → c ≠ i2 → s.heap.get? c = some o → h'.get? c = some o) → Q none { s with heap := h' }) : wpAny (model prog w) A (pyNext (.ref z)) Q E s := by
  have tz : s.TypeIs (.ref z) "zip" := ⟨_, hz, rfl⟩
  unfold pyNext
  refine wpAny_bind (wpAny_attempt (wpAny_callSpecial?_slot (name := Str.ofString "__next__") tz F.slot_zip_next (wpAny_call_entry F.slot_zip_next tz F.entry_zip_next
    (za_end hh D hz hv hTI hTO t1 t2 hl1 hl2 hend fun h' e hk he => ?_) (F.args_zip_next_1 _))))
  obtain ⟨o, ho, hc⟩ := he
  refine wpAny_bind (wpAny_isInstance (T := "StopIteration") (b := true) ⟨o, ho, hc⟩ isSubtype_stop ?_)
  exact wpAny_pure (hQ _ hk)
end

/-- one name -/
def isNm : Expr → Bool
  | .Name _ _ => true | _ => false
theorem turn_zipN {P : Program} {w : World} {K : PySem.W.Frag} {tg : Expr} {l1 l2 z TI TO i1 i2 : Addr} (hn : isNm tg = true) (D : ZipApart z TI TO i1 i2 l1 l2) :
    Turn P w K tg (RZ.ItzT K l1 l2) [z, TI, TO, i1, i2] z (fun i h => ∃ v f a b, ZA h z TI TO v f ∧ Gave v ∧ IsPair h TI (.ref i1) (.ref i2) ∧ IsPair h TO a b ∧ h.IsTupleIter i1 l1 i ∧ h.IsTupleIter i2 l2 i) where
  mem := List.mem_cons_self
  obj := fun i h st c hc => by
    obtain ⟨v, f, a, b, hz, _, hTI, hTO, ⟨o1, e1, _, d1⟩, ⟨o2, e2, _, d2⟩⟩ := st
    simp only [List.mem_cons, List.not_mem_nil, or_false] at hc
    rcases hc with rfl | rfl | rfl | rfl | rfl
    · exact ⟨_, hz, fun _ => Data.noConfusion⟩
    · exact ⟨_, hTI, fun _ => Data.noConfusion⟩
    · exact ⟨_, hTO, fun _ => Data.noConfusion⟩
    · exact ⟨o1, e1, fun _ q => by rw [d1] at q; cases q⟩
    · exact ⟨o2, e2, fun _ q => by rw [d2] at q; cases q⟩
  keep := fun i h h' st k => by
    obtain ⟨v, f, a, b, hz, hv, hTI, hTO, h1, h2⟩ := st
    exact ⟨v, f, a, b, k z (by simp) _ hz, hv, k TI (by simp) _ hTI, k TO (by simp) _ hTO, h1.at fun o q => k i1 (by simp) o q, h2.at fun o q => k i2 (by simp) o q⟩
  item := by
    intro X eP eW eK hc i pins s σ H E I hf st hg
    subst eP eW eK
    obtain ⟨v, f, a, b, hz, hv, hTI, hTO, h1, h2⟩ := st
    obtain ⟨xs, ys, x, y, qx, qy, hx, hy⟩ := hg
    obtain ⟨its, rv, p, _⟩ := I.tuple qx
    obtain ⟨its2, rv2, p2, _⟩ := I.tuple qy
    obtain ⟨u, hu, ru⟩ := rv.get hx
    obtain ⟨u2, hu2, ru2⟩ := rv2.get hy
    refine za_pyItem D hz hv hTI hTO h1 h2 p p2 (x := u) (y := u2) (by simpa using hu) (by simpa using hu2) fun h' v' f' a' b' z' gv pO t1 t2 pT kp => ⟨_, rfl, ?_⟩
    have go : wpAny (model X.prog X.w) X.A (letOwnedTupleGo tg (.ref z) (.ref s.heap.objs.size)) (fun _ s2 => ∃ x H', Inv X pins σ H' s2 ∧ RelV x (.ref s.heap.objs.size) ∧ (RZ.ItzT X.K l1 l2).yld i H x H' ∧
        (∃ v f a b, ZA s2.heap z TI TO v f ∧ Gave v ∧ IsPair s2.heap TI (.ref i1) (.ref i2) ∧ IsPair s2.heap TO a b ∧ s2.heap.IsTupleIter i1 l1 (i + 1) ∧ s2.heap.IsTupleIter i2 l2 (i + 1)) ∧ ∀ b ∈ [z, TI, TO, i1, i2], H' b = none) E { s with heap := h' } := by
      have e : letOwnedTupleGo tg (.ref z) (.ref s.heap.objs.size) = pure () := by cases tg <;> first | (cases hn; done) | rfl
      rw [e]
      have new : ObjOk X.prog X.w (upd H s.heap.objs.size (.tup [x, y])) h' s.heap.objs.size (.tup [x, y]) :=
        ⟨by rw [line_eq]; exact Nat.le_of_ble_eq_true rfl, [u, u2], .cons ru (.cons ru2 .nil), ⟨_, pT, rfl, _, rfl⟩⟩
      have I1 : Inv X pins σ (upd H s.heap.objs.size (.tup [x, y])) { s with heap := h' } :=
        I.turnedNew (t' := s.toks) (ch := [z, TI, TO, i1, i2]) (fun c o hb q => kp c o (fun q' => hb (by simp [q'])) (fun q' => hb (by simp [q'])) (fun q' => hb (by simp [q'])) (fun q' => hb (by simp [q'])) q) hf (Nat.le_refl _) new
      refine wpAny_pure ⟨.ref s.heap.objs.size, _, I1, rfl, ⟨_, x, y, rfl, I.hok.fresh (Nat.le_refl _), rfl, fun l hl => by rw [I.tuple_inj hl qx]; exact hx, fun l hl => by rw [I.tuple_inj hl qy]; exact hy⟩, ⟨v', f', a', b', z', gv, kp _ _ D.TIz D.TITO D.TIi1 D.TIi2 hTI, pO, t1, t2⟩, fun c hcm => ?_⟩
      have hlt : c < s.heap.objs.size := by
        simp only [List.mem_cons, List.not_mem_nil, or_false] at hcm
        rcases hcm with rfl | rfl | rfl | rfl | rfl
        · exact Heap.lt_size hz
        · exact Heap.lt_size hTI
        · exact Heap.lt_size hTO
        · exact let ⟨_, e, _⟩ := h1; Heap.lt_size e
        · exact let ⟨_, e, _⟩ := h2; Heap.lt_size e
      rw [upd_ne (Nat.ne_of_lt hlt)]
      exact (hf c hcm).1
    exact go
  done := by
    intro X eP eW eK hc i pins s σ H E I hf st hg
    subst eP eW eK
    obtain ⟨v, f, a, b, hz, hv, hTI, hTO, h1, h2⟩ := st
    obtain ⟨xs, ys, qx, qy, hend⟩ := hg
    obtain ⟨its, rv, p, _⟩ := I.tuple qx
    obtain ⟨its2, rv2, p2, _⟩ := I.tuple qy
    have n1 := rv.length
    have n2 := rv2.length
    have he : its.toArray[i]? = none ∨ its2.toArray[i]? = none := by
      rcases hend with q | q
      · exact .inl (by simp; omega)
      · exact .inr (by simp; omega)
    exact za_pyEnd (I.ok.hd hc) D hz hv hTI hTO h1 h2 p p2 he fun h' hk => ⟨rfl, I.turnedL (t' := s.toks) (ch := [z, TI, TO, i1, i2]) (fun c o hb q =>
      hk c o (fun q' => hb (by simp [q'])) (fun q' => hb (by simp [q'])) (fun q' => hb (by simp [q'])) (fun q' => hb (by simp [q'])) q) hf⟩
  self := fun A i s Q E st h => by
    obtain ⟨v, f, a, b, hz, _⟩ := st
    have tz : s.TypeIs (.ref z) "zip" := ⟨_, hz, rfl⟩
    refine wpAny_pyIter_slot tz F.slot_zip_iter (wpAny_call_entry F.slot_zip_iter tz F.entry_zip_iter ?_ (F.args_zip_iter_1 _))
    show wpAny _ _ (ret (.ref z)) _ _ s
    exact wpAny_pure ⟨_, rfl, "zip", _, tz, F.slot_zip_next.lookup, h⟩
section
variable {X : Cx} {E : L2.St → XW} {tg e e2 : Expr} {fe fe2 : Env → Sto → Res D} {p pos : Pos}
def iZipN (K : PySem.W.Frag) (ta : TA) : TI := fun σ H R => ta σ H fun vs H1 => ∃ a b xs ys, vs = [.ref a, .ref b] ∧ SqT K H1 a xs ∧ SqT K H1 b ys ∧ R (RZ.ItzT K a b) H1
theorem pi_zipN {ta : TA} (hn : isNm tg = true) (hg : Gl X "zip") (hm : X.mg "zip" = none) (ha : PA X [e, e2] ta)
    (hs : starEach [e, e2] X.env = (false, eval e X.env) :: starEach [e2] X.env) (hpl : (backTo pos (starEach [e2] X.env)).any (·.1) = false) :
    PI X tg (.Call (.Name "zip" p) [e, e2] [] pos) (iZipN X.K ta) := by
  refine ⟨fun pins s σ H R I h => ?_⟩
  refine Call_ (ld_blt I hg hm PyProof.Rows.boot_zip (PyProof.Rows.callWith_type1 (thn (ha.run pos pins s σ H _ I h) fun us s1 q1 => ?_) hs hpl))
  obtain ⟨vs, H1, I1, r1, a, b, xs, ys, ex, qx, qy, q⟩ := q1
  subst ex
  cases r1 with
  | cons r rr =>
    cases rr with
    | cons r' rr =>
      cases rr
      cases r
      cases r'
      obtain ⟨its, rv, p1, _⟩ := I1.tuple qx
      obtain ⟨its2, rv2, p2, _⟩ := I1.tuple qy
      obtain ⟨o1, ho1, _⟩ := id p1
      obtain ⟨o2, ho2, _⟩ := id p2
      refine RZ.call_zipT (show s1.heap.IsTuple a its.toArray from p1) (show s1.heap.IsTuple b its2.toArray from p2) fun h' hz hTI hTO h1 h2 hsz hk => wpAny_pyIter_zip hz ?_
      have I2 : Inv X pins σ H1 { s1 with heap := h' } := I1.kept (t' := s1.toks) hk
      have tn := turn_zipN (P := X.prog) (w := X.w) (K := X.K) hn (PySem.W.ktu_apart s1.heap.objs.size a b (Heap.lt_size ho1) (Heap.lt_size ho2))
      refine ⟨_, _, _, _, H1, rfl, I2, tn, ⟨.none, false, _, _, hz, .inl rfl, hTI, hTO, h1, h2⟩, fun c hcm => ?_, q⟩
      have hle : s1.heap.objs.size ≤ c := by
        simp only [List.mem_cons, List.not_mem_nil, or_false] at hcm
        rcases hcm with rfl | rfl | rfl | rfl | rfl
        · exact Nat.le_add_right _ _
        · exact Nat.le_add_right _ _
        · exact Nat.le_add_right _ _
        · exact Nat.le_refl _
        · exact Nat.le_add_right _ _
      exact I1.fpOk hle (I1.hok.fresh hle)
theorem si_zipN (hn : isNm tg = true) (hg : Gl X "zip") (hm : X.mg "zip" = none) (he : SE X E e fe) (he2 : SE X E e2 fe2)
    (hs : starEach [e, e2] X.env = (false, eval e X.env) :: starEach [e2] X.env) (hs2 : starEach [e2] X.env = [(false, eval e2 X.env)]) :
    SI X E tg (.Call (.Name "zip" p) [e, e2] [] pos) (fZip fe fe2) := PI.imp (pi_zipN hn hg hm (pa_cons he (pa_cons he2 pa_nil hs2) hs) hs (by rw [hs2]; rfl)) fun σ H Q ⟨ι, env, st, eR, S, go⟩ =>
  ⟨ι, env, st, eR, S, Go.bind go fun ι1 H1 d v st1 x1 S1 r1 go1 => ⟨ι1, env, st1, eR.mono x1, S1, Go.bind go1 fun ι2 H2 d2 v2 st2 x2 S2 r2 go2 => by
    cases r1 with
    | @tup a vs xs h1 q1 =>
      cases r2 with
      | @tup b ws ys h2 q2 =>
        have h1' := x2.tup _ _ h1
        exact ⟨a, b, vs, ws, rfl, .of h1', .of h2, go2 ι2 H2 _ (Ext.refl _ _) S2 (itz_tup h1' (q1.mono x2) h2 q2)⟩
      | _ => exact (show False from go2).elim
    | _ => exact (show False from go2).elim⟩⟩
end
end PyI

/-! IY_: t[a::-1] of a tuple. -/
namespace PyI
open PySem PySem.Spec PyProof.Rows L2

section
variable {prog : Program} {w : World} {A : Around} {E : Value → Shared → Prop} {s : Shared}
/-- how many items stand from the place on, back to the first; n in all -/
def bkN (n : Nat) : Option Int → Nat
  | none => n
  | some v => (v + n + 1).toNat
def bkOk (n : Nat) : Option Int → Prop
  | none => True
  | some v => -(n : Int) ≤ v ∧ v < 0
theorem bk_adjust (n : Nat) (lo : Option Int) (h : bkOk n lo) : Builtin.Slice.sliceAdjust lo none (-1) (n : Int) = ((bkN n lo : Int) - 1, -1) := by
  unfold Builtin.Slice.sliceAdjust
  have h1 : ((-1 : Int) < 0) := by decide
  simp only [h1, if_true]
  cases lo with
  | none => rfl
  | some v =>
    obtain ⟨a, b⟩ := h
    simp only [bkN, if_pos b]
    refine Prod.ext ?_ rfl
    show max (v + (n : Int)) (-1) = ((v + n + 1).toNat : Int) - 1
    omega
theorem bk_places (m : Nat) : Builtin.Slice.slicePlaces ((m : Int) - 1) (-1) (-1) = m := by
  unfold Builtin.Slice.slicePlaces
  have h1 : ¬ ((-1 : Int) > 0) := by decide
  simp only [h1, if_false]
  have e : (-(-1) : Int) = 1 := by decide
  rw [e, Int.ediv_one]
  split <;> omega
theorem bk_applied {sl : Addr} {vl vk : Value} {lo : Option Int} {n : Nat} {Q : Int × Int × Nat → Shared → Prop} (hs : s.heap.IsSliceOf sl vl .none vk) (pl : IsPart vl lo) (pk : IsPart vk (some (-1))) (hl : bkOk n lo)
    (h : Q ((bkN n lo : Int) - 1, -1, bkN n lo) s) : wpAny (model prog w) A (Builtin.Slice.sliceApplied (.ref sl) (pure (n : Int))) Q E s := by
  obtain ⟨os, hos, hcs, hds⟩ := id hs
  unfold Builtin.Slice.sliceApplied Builtin.Slice.sliceFields
  refine wpAny_bind (wpAny_bind (wpAny_field hos hds (x := vl) rfl (wpAny_bind (wpAny_field hos hds (x := .none) rfl (wpAny_bind (wpAny_field hos hds (x := vk) rfl (wpAny_pure ?_)))))))
  refine wpAny_bind (HT.slicePart_ pk ?_)
  show wpAny _ _ (if ((-1 : Int) == 0) = true then _ else _) _ _ s
  rw [if_neg (by decide)]
  refine wpAny_bind (HT.slicePart_ pl (wpAny_bind (HT.slicePart_ .none (wpAny_bind (wpAny_pure ?_)))))
  show wpAny _ _ (match Builtin.Slice.sliceAdjust lo none (-1) (n : Int) with | (lo, hi) => pure (lo, (-1 : Int), Builtin.Slice.slicePlaces lo hi (-1))) _ _ s
  rw [bk_adjust n lo hl]
  show wpAny _ _ (pure (((bkN n lo : Nat) : Int) - 1, (-1 : Int), Builtin.Slice.slicePlaces (((bkN n lo : Nat) : Int) - 1) (-1) (-1))) _ _ s
  rw [bk_places]
  exact wpAny_pure h
theorem bk_le {n : Nat} {lo : Option Int} (h : bkOk n lo) : bkN n lo ≤ n := by
  cases lo with
  | none => exact Nat.le_refl _
  | some v =>
    obtain ⟨a, b⟩ := h
    show (v + n + 1).toNat ≤ n
    omega
theorem fm_range {α : Type} : ∀ (l : List α) (f : Nat → Option α), (∀ k, k < l.length → f k = l[k]?) → (List.range l.length).filterMap f = l
  | [], f, h => rfl
  | a :: l, f, h => by
    rw [List.length_cons, List.range_succ_eq_map, List.filterMap_cons, h 0 (by simp), List.filterMap_map]
    show a :: _ = a :: l
    rw [fm_range l (f ∘ Nat.succ) fun k hk => by
      show f (k + 1) = _
      rw [h (k + 1) (by simpa using hk)]
      rfl]
theorem bk_pick (xs : Array Value) (m : Nat) (hm : m ≤ xs.size) : ((List.range m).filterMap fun (k : Nat) => xs[(((m : Int) - 1) + (k : Int) * (-1)).toNat]?).toArray = ((xs.toList.take m).reverse).toArray := by
  have hn : (xs.toList.take m).reverse.length = m := by rw [List.length_reverse, List.length_take, Array.length_toList]; omega
  have h := fm_range (xs.toList.take m).reverse (fun (k : Nat) => xs[(((m : Int) - 1) + (k : Int) * (-1)).toNat]?) fun k hk => by
    rw [hn] at hk
    have e : (((m : Int) - 1) + (k : Int) * (-1)).toNat = m - 1 - k := by omega
    show xs[_]? = _
    rw [e, List.getElem?_reverse (by rw [List.length_take, Array.length_toList]; omega), List.length_take, Array.length_toList, Nat.min_eq_left hm, List.getElem?_take, if_pos (by omega), Array.getElem?_toList]
  rw [hn] at h
  rw [h]
theorem getItem_back {t sl : Addr} {items : Array Value} {vl vk : Value} {lo : Option Int} {Q : Value → Shared → Prop} (ht : IsTup s.heap t items) (hs : s.heap.IsSliceOf sl vl .none vk) (pl : IsPart vl lo) (pk : IsPart vk (some (-1))) (hl : bkOk items.size lo)
    (h : Q (.ref s.heap.objs.size) { s with heap := s.heap.push { cls := .type "tuple", data := .seq (items.toList.take (bkN items.size lo)).reverse.toArray } }) (hsz : items.size ≤ sizeLine) : wpAny (model prog w) A (getItem (.ref t) (.ref sl)) Q E s := by
  have hb := bk_le hl
  have fits : sizeOk (.seq (items.toList.take (bkN items.size lo)).reverse.toArray) := by
    show (items.toList.take (bkN items.size lo)).reverse.toArray.size ≤ sizeLine
    rw [List.size_toArray, List.length_reverse, List.length_take, Array.length_toList]
    omega
  obtain ⟨os, hos, hcs, hds⟩ := id hs
  have tS : s.TypeIs (.ref sl) "slice" := ⟨os, hos, hcs⟩
  unfold getItem
  try with_reducible refine wpAny_holding ?_
  first | refine wpAny_bind (wpAny_pure ?_) | skip
  refine wpAny_bind (wpAny_sequenceKey ht.typeIs (by decide) ?_)
  refine wpAny_bind (wpAny_callSpecial?_slot (name := Str.ofString "__getitem__") ht.typeIs PyProof.Rows.slot_tuple_getitem
    (wpAny_call_entry PyProof.Rows.slot_tuple_getitem ht.typeIs entry_tuple_getitem ?_ (args_tuple_getitem _ _)))
  show wpAny _ _ (Builtin.Tuple.tupleItemsOf (.ref t) >>= _) _ _ s
  refine wpAny_bind (tupleItemsOf_ ht ?_)
  refine wpAny_bind (wpAny_typeOf tS ?_)
  rw [if_pos (by decide)]
  refine wpAny_bind (bk_applied hs pl pk hl ?_)
  have hno : ¬ ((((bkN items.size lo : Nat) : Int) - 1 == 0 && (-1 : Int) == 1 && bkN items.size lo == items.size) = true) := by
    intro q
    rw [Bool.and_eq_true, Bool.and_eq_true] at q
    exact absurd q.1.2 (by decide)
  show wpAny _ _ (if (((bkN items.size lo : Nat) : Int) - 1 == 0 && (-1 : Int) == 1 && bkN items.size lo == items.size) = true then _ else _) _ _ s
  rw [if_neg hno, bk_pick items _ hb]
  first
    | exact wpAny_bind (m := Builtin.Tuple.tupleExact _) (wpAny_newObj_type (wpAny_pure ⟨_, rfl, wpAny_pure h⟩) fits)
    | exact wpAny_bind (m := Builtin.Tuple.tupleExact _) (wpAny_newObj_type (wpAny_bind (wpAny_pure (wpAny_pure ⟨_, rfl, wpAny_pure h⟩))) fits)
    | exact wpAny_bind (wpAny_bind (m := Builtin.Tuple.tupleExact _) (wpAny_newObj_type (wpAny_pure (wpAny_pure ⟨_, rfl, wpAny_pure h⟩)) fits))
    | exact wpAny_bind (wpAny_bind (m := Builtin.Tuple.tupleExact _) (wpAny_newObj_type (wpAny_pure ⟨_, rfl, wpAny_pure h⟩) fits))
end
/-! ### the rule -/
section
variable {X : Cx} {E : L2.St → XW} {e : Expr} {lo : Option Expr} {fe : Env → Sto → Res D} {flo : Env → Sto → Res (Option Int)} {p2 p3 p4 pos : Pos} {j : Nat} {te : TE} {tl : TO}
def tBack (K : PySem.W.Frag) (te : TE) (tl : TO) : TE := fun σ H Q => te σ H fun x H1 => tl σ H1 fun l H2 => ∃ a xs, x = .ref a ∧ SqT K H2 a xs ∧ bkOk xs.length l ∧ ∀ q, H2 q = none → Q (.ref q) (upd H2 q (.tup (xs.take (bkN xs.length l)).reverse))
theorem pe_back (he : PE X e te) (hl : PO X lo tl) : PE X (.Subscript e (.Slice lo none (some (.UnaryOp .USub (.Constant (.int 1) j p3) p4)) p2) pos) (tBack X.K te tl) := ⟨fun pins s σ H Q I h => by
  refine Subscript_ (thn (he.run pins s σ H _ I h) fun v s1 ⟨x, H1, I1, r1, q1⟩ => ?_)
  have hk := po_some (X := X) (pe_un (X := X) (pos := p4) un_neg (pe_int (X := X) (i := 1) (j := j) (pos := p3)))
  refine wpAny_Slice (thn (hl.run pins s1 σ H1 _ I1 q1) fun vl s2 ⟨l, H2, I2, pl, q2⟩ => ?_)
  rw [evalPart_none]
  refine wpAny_pure ?_
  have q2' : tPart (tUn (rU fun i => .int (-i)) (tC (.int 1))) σ H2 (fun o H' => o = some (-1) ∧ ∃ a xs, x = .ref a ∧ SqT X.K H' a xs ∧ bkOk xs.length l ∧ ∀ q, H' q = none → Q (.ref q) (upd H' q (.tup (xs.take (bkN xs.length l)).reverse))) :=
    ⟨1, rfl, -1, rfl, rfl, q2⟩
  refine thn (hk.run pins s2 σ H2 _ I2 q2') fun vk s3 ⟨o, H3, I3, pk, eo, a, xs, ex, hx, hb, q3⟩ => ?_
  subst eo ex
  cases r1
  have I4 : Inv X pins σ H3 { s3 with heap := s3.heap.push { cls := .type "slice", data := .fields #[vl, .none, vk] } } := I3.kept (t' := s3.toks) fun b ob q => Heap.get?_push_of_some _ q
  obtain ⟨its, r, ht, hz⟩ := I4.tuple hx
  have hlen : its.toArray.size = xs.length := by rw [List.size_toArray]; exact r.length.symm
  refine tail_any (ops := [.ref a, .ref s3.heap.objs.size]) ht.typeIs PyProof.Rows.slot_tuple_getitem.lookup ?_ (by with_unfolding_all rfl)
  refine getItem_back ht (Heap.IsSliceOf.new ..) pl pk (by rw [hlen]; exact hb) ?_ (by rw [hlen]; exact hz)
  rw [hlen]
  refine ⟨.ref _, _, I4.laid (t' := s3.toks) (o := .tup (xs.take (bkN xs.length l)).reverse) (fun b ob q => Heap.get?_push_of_some _ q) (Nat.le_refl _) ⟨?_, (its.take (bkN xs.length l)).reverse, ?_, ?_⟩, rfl, q3 _ (I4.hok.fresh (Nat.le_refl _))⟩
  · rw [List.length_reverse, List.length_take]
    exact Nat.le_trans (Nat.min_le_right _ _) hz
  · have rt := r.take (bkN xs.length l)
    generalize xs.take (bkN xs.length l) = us at rt
    generalize its.take (bkN xs.length l) = ws at rt
    clear q3
    induction us generalizing ws with
    | nil => cases rt; exact .nil
    | cons u us ih =>
      cases rt with
      | cons h t =>
        rw [List.reverse_cons, List.reverse_cons]
        exact (ih _ t).append (.cons h .nil)
  · exact IsTup.new _ _⟩
/-- t[a::-1] -/
theorem se_back (he : SE X E e fe) (hl : SO X E lo flo) : SE X E (.Subscript e (.Slice lo none (some (.UnaryOp .USub (.Constant (.int 1) j p3) p4)) p2) pos) (fun env st => (fe env st).bind fun x st => (flo env st).bind fun l st => back2 x l st) :=
  PE.imp (pe_back he hl) fun σ H Q ⟨ι, env, st, eR, S, go⟩ => ⟨ι, env, st, eR, S, Go.bind go fun ι1 H1 d v st1 x1 S1 r1 go1 => ⟨ι1, env, st1, eR.mono x1, S1, Go.bind go1 fun ι2 H2 l l' st2 x2 S2 e2 go2 => by
    cases (show l = l' from e2)
    cases r1 <;> first | exact (show False from go2).elim | skip
    rename_i a vs ds hd r
    cases l with
    | none =>
      refine ⟨a, vs, rfl, .of (x2.tup _ _ hd), trivial, fun q hq => ?_⟩
      show Q (.ref q) (upd H2 q (.tup (vs.take vs.length).reverse))
      rw [List.take_length]
      exact Go.tup go2 S2 (r.mono x2).reverse q hq
    | some i =>
      obtain ⟨c, go3⟩ := Go.guard go2
      rw [decide_eq_true_eq, r.length] at c
      refine ⟨a, vs, rfl, .of (x2.tup _ _ hd), c, fun q hq => ?_⟩
      show Q (.ref q) (upd H2 q (.tup (vs.take (i + vs.length + 1).toNat).reverse))
      have g := Go.tup go3 S2 (((r.mono x2).take (i + ds.length + 1).toNat).reverse) q hq
      rw [r.length] at g
      exact g⟩⟩
end
end PyI

/-! IR_: from the syntax to the evaluator's terms. -/
namespace PyI
open PySem PySem.Spec PyProof.Rows L2

structure TC where
  N : List Str
  sc : Scope
  fnm : Option Scope
  fns : List (Str × Nat × List Str)
  globs : List (Str × D)
def slotOf (C : TC) (x : Str) : Option Nat := match C.N.findIdx? (fun y => decide (y = x)) with
  | some i => if C.N[i]? = some x then some i else none
  | none => none
def visB (C : TC) (x : Str) : Bool := match C.sc.names.lookup x with
  | some .local => true | some .cell => true | some .free => true | _ => false
def glB (C : TC) (x : Str) : Bool := match C.sc.names.lookup x with
  | some .globalImplicit => true | _ => false
def okName (x : Str) : Bool := !(x == ("__debug__" : Str)) && !(x == ("__classdict__" : Str))
/-- stored by name here -/
def locB (C : TC) (x : Str) : Bool := match C.sc.names.lookup x with
  | some .local => true
  | some .cell => (match C.fnm with
    | none => true
    | some s => (match s.names.lookup x with | some .cell => true | _ => false))
  | _ => false
def trVar (C : TC) (x : Str) : Option IE := if okName x && visB C x then (slotOf C x).map .var else if okName x && glB C x then (C.globs.lookup x).map .con else none
def opOf : Operator → Option Op2
  | .Add => some .add | .Sub => some .sub | .Mult => some .mul | .FloorDiv => some .fdiv | .Mod => some .mod | .Pow => some .pow | _ => none
def cmpOf : CmpOp → Option CmpK
  | .Lt => some .lt | .LtE => some .le | .Gt => some .gt | .GtE => some .ge | .Eq => some .eq | .NotEq => some .ne | .Is => some .isN | .IsNot => some .notN | .In => some .inn | .NotIn => some .nin
def nstar : Expr → Bool
  | .Starred _ _ => false | _ => true
def nite : Expr → Bool
  | .IfExp _ _ _ _ => false | _ => true
def nset : Expr → Bool
  | .Set _ _ _ => false | _ => true
/-- no super() -/
def nsup : Expr → Bool
  | .Call (.Name _ _) [] [] _ => false | _ => true
/-- no slice -/
def plainB : Expr → Bool
  | .Slice _ _ _ _ => false | _ => true
def trL (f : Expr → Option IE) : List Expr → Option IEs
  | [] => some .nil
  | e :: es => if nstar e then (f e).bind fun a => (trL f es).map fun as => .cons a as else none
def trB (f : Expr → Option IE) (g : IE → IE → IE) : List Expr → Option IE
  | [] => none
  | [e] => if nite e then f e else none
  | e :: es => if nite e then (f e).bind fun a => (trB f g es).map fun b => g a b else none
def bltOf0 (x : Str) : Option Fn :=
  if x = "len" then some .len else if x = "abs" then some .abs else if x = "int" then some .int else if x = "list" then some .list else if x = "tuple" then some .tuple else
  if x = "sum" then some .sum else if x = "all" then some .all else if x = "any" then some .any else if x = "max" then some .max else if x = "min" then some .min else
  if x = "repr" then some .repr else if x = "ord" then some .ord else none
def bltOf (x : Str) : Option Fn := if x = "sorted" then some .sorted else bltOf0 x
def tyOf (x : Str) : Option Ty :=
  if x = "int" then some .int else if x = "bool" then some .bool else if x = "str" then some .str else if x = "tuple" then some .tup else if x = "list" then some .lst else none
def mtOf (x : Str) : Option Mt :=
  if x = "append" then some .append else if x = "pop" then some .pop else if x = "get" then some .get else if x = "setdefault" then some .setdefault else if x = "join" then some .join else none
def ownOf (C : TC) (scope : Scope) : List (Str × Nat) := scope.names.filterMap fun y => match y.2 with
  | .local => (slotOf C y.1).map fun i => (y.1, i)
  | .cell => (slotOf C y.1).map fun i => (y.1, i)
  | _ => none
def TC.blk (C : TC) (scope : Scope) : TC := { C with sc := relS scope C.sc, fnm := some scope }
def trTg (C : TC) : Nat → Expr → Option Tg
  | 0, _ => none
  | n + 1, e => match e with
    | .Name x _ => if locB C x then (slotOf C x).map .name else none
    | .Tuple [a, b] _ _ => if nstar a && nstar b then (trTg C n a).bind fun x => (trTg C n b).map fun y => .two x y else none
    | .Tuple [a, b, c] _ _ => if nstar a && nstar b && nstar c then (trTg C n a).bind fun x => (trTg C n b).bind fun y => (trTg C n c).map fun z => .three x y z else none
    | _ => none
def isTup : Expr → Bool
  | .Tuple _ _ _ => true | _ => false
/-- what is walked; f reads a term -/
def trI (C : TC) (f : Expr → Option IE) (tg : Expr) : Expr → Option II
  | .Call (.Name x p) args kws pos =>
    if glB C x && (x == ("range" : Str)) then (match args, kws with
      | [a], [] => if nstar a then (f a).map .rng1 else none
      | [a, b], [] => if nstar a && nstar b then (f a).bind fun x => (f b).map fun y => .rng2 x y else none
      | [a, b, c], [] => if nstar a && nstar b && nstar c then (f a).bind fun x => (f b).bind fun y => (f c).map fun z => .rng3 x y z else none
      | _, _ => none)
    else if glB C x && (x == ("enumerate" : Str)) then (match args, kws with
      | [a], [] => if nstar a && isTup tg then (f a).map .enum else none
      | _, _ => none)
    else if glB C x && (x == ("zip" : Str)) then (match args, kws with
      | [a, b], [] => if nstar a && nstar b && (isTup tg || isNm tg) then (f a).bind fun x => (f b).map fun y => .zip x y else none
      | _, _ => none)
    else (f (.Call (.Name x p) args kws pos)).map .val
  | .Set _ _ _ => none
  | e => (f e).map .val
def trP (f : Expr → Option IE) : Option Expr → Option IP
  | none => some .none
  | some e => (f e).map .some
def cOf : Const → Option D
  | .none => some .non
  | .bool b => some (.bl b)
  | .int i => some (.int i)
  | .str x => some (.str x.cps.toList)
  | _ => none
/-- a dict walked by its items -/
def itemsVar : Expr → Option Str
  | .Call (.Attribute (.Name x _) m apos) [] [] cpos => if m == ("items" : Str) && apos.endLine == cpos.line then some x else none
  | _ => none
def ixs (own : List (Str × Nat)) : List Nat := own.map (·.2)
def trIf (f : Expr → Option IE) : List Expr → Option IP
  | [] => some .none
  | [c] => if nite c then (f c).map .some else none
  | _ => none
def trComp (C : TC) (f : TC → Expr → Option IE) (elt tg it : Expr) (ifs : List Expr) (scope : Scope) : Option IE :=
  if blkC C.N C.sc scope (ownOf C scope) then (trTg (C.blk scope) 4 tg).bind fun t => if t.ns.all (fun j => decide (j ∈ ixs (ownOf C scope))) then (trIf (f (C.blk scope)) ifs).bind fun c => (f (C.blk scope) elt).bind fun y => (match itemsVar it with
    | some x => if visB C x && okName x && isTup tg then (slotOf C x).map fun v => IE.compD y t v c (ixs (ownOf C scope)) else none
    | none => (trI C (f C) tg it).map fun w => IE.comp y t w c (ixs (ownOf C scope))) else none else none
/-- the walk as a tuple -/
def tupOf : II → Option IE
  | .rng1 a => some (.tupI (.rng1 a))
  | .rng3 a b c => some (.tupI (.rng3 a b c))
  | _ => none
def rangeArg : List Expr → Option Expr
  | [.Call (.Name y p) as [] q] => if y == ("range" : Str) then some (.Call (.Name y p) as [] q) else none
  | _ => none
/-- a call by a name -/
def trCall (C : TC) (f : Expr → Option IE) (x : Str) (es : List Expr) (kws : List Keyword) : Option IE :=
  if glB C x && okName x then (match C.fns.lookup x with
    | some (i, ps) => if decide (kws.map (·.arg) = (ps.drop es.length).map some) then (trL f es).bind fun as => (trL f (kws.map (·.value))).map fun bs => .call i (as.app bs) else none
    | none => (match es, kws with
      | e :: es, [] => (match bltOf x with
        | some g => (match g, rangeArg (e :: es) with
          | .tuple, some r => (trI C f r r).bind tupOf
          | g, _ => (trL f (e :: es)).map fun as => .blt g as)
        | none => if x == ("isinstance" : Str) then (match e :: es with
          | [a, .Name t _] => if glB C t && nstar a then (tyOf t).bind fun t => (f a).map fun y => .isi y t else none
          | _ => none) else none)
      | _, _ => none))
  else none
def trE : Nat → TC → Expr → Option IE
  | 0, _, _ => none
  | n + 1, C, e => match e with
    | .Constant c _ _ => (cOf c).map .con
    | .Name x _ => trVar C x
    | .BinOp a o b _ => (opOf o).bind fun o => (trE n C a).bind fun x => (trE n C b).map fun y => .bin o x y
    | .UnaryOp .USub a _ => (trE n C a).map .neg
    | .UnaryOp .Not a _ => if nite a then (trE n C a).map .not else none
    | .Compare a [o] [b] _ => if nset b then (cmpOf o).bind fun o => (trE n C a).bind fun x => (trE n C b).map fun y => .cmp o x y else none
    | .Compare a [o, p] [b, c] _ => if nset c then (cmpOf o).bind fun o => (cmpOf p).bind fun p => (trE n C a).bind fun x => (trE n C b).bind fun y => (trE n C c).map fun z => .cmp3 o p x y z else none
    | .BoolOp .And es _ => trB (trE n C) .and es
    | .BoolOp .Or es _ => trB (trE n C) .or es
    | .IfExp c a b _ => if nite c then (trE n C c).bind fun x => (trE n C a).bind fun y => (trE n C b).map fun z => .ite x y z else none
    | .Tuple es _ _ => (trL (trE n C) es).map .tup
    | .List es _ => (trL (trE n C) es).map .lst
    | .Dict [] [] _ => some (.dct .nil)
    | .Dict [some (.Constant (.str x) _ _), some (.Constant (.str y) _ _)] [a, b] _ => (trE n C a).bind fun u => (trE n C b).map fun v => .dct (.cons (.con (.str x.cps.toList)) (.cons u (.cons (.con (.str y.cps.toList)) (.cons v .nil))))
    | .Subscript a (.Slice lo hi none _) _ => (trE n C a).bind fun x => (trP (trE n C) lo).bind fun l => (trP (trE n C) hi).map fun h => .sl x l h
    | .Subscript a (.Slice lo none (some (.UnaryOp .USub (.Constant (.int 1) _ _) _)) _) _ => (trE n C a).bind fun x => (trP (trE n C) lo).map fun l => .back x l
    | .Subscript a b _ => if plainB b then (trE n C a).bind fun x => (trE n C b).map fun y => .ix x y else none
    | .Call (.Name x _) es kws _ => trCall C (trE n C) x es kws
    | .Call (.Attribute o m apos) es [] cpos =>
      if apos.endLine == cpos.line && decide (es.length < 20) && nsup o then (mtOf m).bind fun m => (trE n C o).bind fun x => (trL (trE n C) es).map fun as => .mth m x as else none
    | .ListComp elt [⟨tg, it, ifs, 0⟩] scope _ => trComp C (trE n) elt tg it ifs scope
    | _ => none
/-- the names that a written tuple's items go to from the right; nothing where the order is not known -/
def swOf (sc : Scope) (ts vs : List Expr) : Option (Option (List Str)) :=
  if (!(ts.length == 2 || ts.length == 3) || vs.length != ts.length) = true then some none
  else if (vs.any fun | .Starred .. => true | _ => false) = true then some none
  else
    let line := (ts.head?.map (·.pos.line)).getD 0
    let names := ts.filterMap fun
      | .Name id pos => if (sc.names.lookup id == some .local && pos.line == line) = true then some id else none
      | _ => none
    if (names.length != ts.length || names.eraseDups.length != names.length) = true then some none
    else if vs.all (foldedForSure 8) = true then some none
    else if vs.all (constantsAlone 8) = true then none
    else some (some names)
def localB (C : TC) (x : Str) : Bool := match C.sc.names.lookup x with
  | some .local => true | _ => false
def parB (C : TC) (names : List Str) : List Expr → List Expr → Bool
  | [.Name x _, .Name y _], [_, _] => decide (names = [x, y]) && localB C x && localB C y && decide (x ≠ y)
  | [.Name x _, .Name y _, .Name z _], [_, _, _] => decide (names = [x, y, z]) && localB C x && localB C y && localB C z && decide (x ≠ y) && decide (x ≠ z) && decide (y ≠ z)
  | _, _ => false
def swGood (C : TC) : Expr → Expr → Bool
  | .Tuple ts _ _, .Tuple vs _ _ => (match swOf C.sc ts vs with
    | none => false
    | some none => true
    | some (some names) => parB C names ts vs)
  | _, _ => true
mutual
def trS : Nat → TC → Stmt → Option IS
  | 0, _, _ => none
  | n + 1, C, s => match s with
    | .Expr (.Constant (.str x) _ _) _ => some .pass
    | .Expr (.ListComp _ _ _ _) _ => none
    | .Expr (.SetComp _ _ _ _) _ => none
    | .Expr (.DictComp _ _ _ _ _) _ => none
    | .Expr e _ => (trE n C e).map .expr
    | .Return (some e) _ => (trE n C e).map .ret
    | .Return none _ => some (.ret (.con .non))
    | .Pass _ => some .pass
    | .Break _ => some .brk
    | .Continue _ => some .cont
    | .If c a b _ => if nite c then (trE n C c).bind fun x => (trSs n C a).bind fun y => (trSs n C b).map fun z => .ifs x y z else none
    | .While c b [] _ => if nite c then (trE n C c).bind fun x => (trSs n C b).map fun z => .whiles x z else none
    | .For tg it b [] _ => (trTg C 4 tg).bind fun t => (trSs n C b).bind fun z => (match itemsVar it with
      | some x => if visB C x && okName x && isTup tg then (slotOf C x).map fun v => IS.forD t v z else none
      | none => (trI C (trE n C) tg it).map fun w => .fors t w z)
    | .Assign [.Subscript o i _] e _ => if plainB i then (trE n C o).bind fun x => (trE n C i).bind fun y => (trE n C e).map fun z => .asg (.sub x y) z else none
    | .Assign [tg] e _ => if swGood C tg e then (trTg C 4 tg).bind fun t => (trE n C e).map fun z => .asg (.tg t) z else none
    | .Raise _ _ _ => some .never
    | _ => none
def trSs : Nat → TC → List Stmt → Option ISs
  | 0, _, _ => none
  | _ + 1, _, [] => some .nil
  | n + 1, C, s :: r => (trS n C s).bind fun x => (trSs n C r).map fun y => .cons x y
end
end PyI

/-! IS_: the terms tell what the syntax does: expressions. -/
namespace PyI
open PySem PySem.Spec PyProof.Rows L2

/-! ### small facts of the syntax -/
theorem star_cons {e : Expr} {es : List Expr} (env : PySem.Env) (h : nstar e = true) : starEach (e :: es) env = (false, eval e env) :: starEach es env := by
  cases e <;> first | (cases h; done) | rfl
theorem star_plain (env : PySem.Env) : ∀ es : List Expr, es.all nstar = true → (starEach es env).any (·.1) = false
  | [], _ => rfl
  | e :: es, h => by
    rw [List.all_cons, Bool.and_eq_true] at h
    rw [star_cons env h.1, List.any_cons, star_plain env es h.2]
    rfl
theorem back_any (pos : Pos) : ∀ l : List (Bool × Sem Value), (backTo pos l).any (·.1) = l.any (·.1)
  | [] => rfl
  | x :: l => by
    have ih := back_any pos l
    unfold backTo at ih ⊢
    rw [List.map_cons, List.any_cons, List.any_cons, ih]
theorem back_all (pos : Pos) : ∀ l : List (Bool × Sem Value), l.any (·.1) = false → (backTo pos l).all (fun x => !x.1) = true
  | [], _ => rfl
  | x :: l, h => by
    rw [List.any_cons, Bool.or_eq_false_iff] at h
    have ih := back_all pos l h.2
    unfold backTo at ih ⊢
    rw [List.map_cons, List.all_cons, ih, Bool.and_true]
    show (!x.1) = true
    rw [h.1]; rfl
theorem base_ok {o : Expr} (m : Str) (env : PySem.Env) (t : Sem Value) (h : nsup o = true) : attributeBase o m env t = t := by
  cases o with
  | Call f es kws p =>
    cases f with
    | Name x p2 =>
      cases es with
      | nil =>
        cases kws with
        | nil => cases h
        | cons _ _ => rfl
      | cons _ _ => rfl
    | _ => rfl
  | _ => rfl
/-- a test that is its value's truth -/
def plainT : Expr → Bool
  | .UnaryOp .Not _ _ => false | .BoolOp _ _ _ => false | .IfExp _ _ _ _ => false | .Compare _ _ _ _ => false | _ => true
theorem true_ok {e : Expr} (env : PySem.Env) (h : plainT e = true) : ∀ whole, isTrue e env whole = (do let v ← whole; standAt e.pos; holding [v] (truthy v)) := by
  intro whole
  cases e with
  | UnaryOp o x p => cases o <;> first | (cases h; done) | rfl
  | BoolOp _ _ _ => cases h
  | IfExp _ _ _ _ => cases h
  | Compare _ _ _ _ => cases h
  | _ => rfl
theorem plain_ix {b : Expr} (h : plainB b = true) : PlainIx b := by
  intro o i
  cases b <;> first | (cases h; done) | rfl
theorem mark_ok {o : CmpOp} {b : Expr} (h : nset b = true) : behindInMarks o b = false := by
  cases b <;> first | (cases h; done) | rfl
theorem okn {x : Str} (h : okName x = true) : (x == ("__debug__" : Str)) = false ∧ (x == ("__classdict__" : Str)) = false := by
  unfold okName at h
  rw [Bool.and_eq_true, Bool.not_eq_true', Bool.not_eq_true'] at h
  exact h
theorem slotOf_ok {C : TC} {x : Str} {i : Nat} (h : slotOf C x = some i) : C.N[i]? = some x := by
  unfold slotOf at h
  split at h
  · split at h
    · cases h; assumption
    · cases h
  · cases h

/-! ### what is asked around -/
abbrev bltNames : List Str := ["len", "abs", "int", "list", "tuple", "sum", "all", "any", "max", "min", "repr", "ord", "isinstance", "bool", "str", "range", "enumerate", "zip", "sorted"]
structure Good (EX : XK → XW) (cf : Nat → List D → Sto → Res D) (C : TC) (k : Nat) (X : Cx) (E : L2.St → XW) : Prop where
  hN : X.N = C.N
  nd : C.N.Nodup
  sc : X.env.scope = C.sc
  kind : C.sc.kind = .function
  calm : X.calm = true
  room : Room k X.A
  gd : X.A.guards = some []
  po : PassesOwn (model X.prog X.w) X.A X.env X.xe
  fn : ∀ x, (match C.fnm with | none => true | some s => (match s.names.lookup x with | some .cell => true | _ => false)) = true → X.fn x = true
  bl : ∀ x ∈ bltNames, X.mg x = none
  gl : ∀ x d, C.globs.lookup x = some d → ∃ v u, X.mg x = some u ∧ RelV v u ∧ Scal d v
  fs : ∀ x i ps, C.fns.lookup x = some (i, ps) → ∃ f fd, X.mg x = some (.ref f) ∧ PySem.W.keepIn X.K (.ref f) = true ∧ KB X.K fd ps ∧
    FnG X.prog X.w X.K X.mg X.base (L2.CX X.prog X.w) k f fd ps (spF X.K EX ps.length (cf i)) ∧ Arity ps.length (cf i)
  tk : ∃ W : WX, Takes X W ∧ ∀ σ n st ι H, E σ n st ι H → EX (WE W σ) n st ι H
section
variable {EX : XK → XW} {cf : Nat → List D → Sto → Res D} {C : TC} {k : Nat} {X : Cx} {E : L2.St → XW}
theorem Good.vis (G : Good EX cf C k X E) {x : Str} (h : visB C x = true) : Vis X.env.scope x := by
  unfold visB at h
  rw [G.sc]
  unfold Vis
  split at h <;> first | (cases h; done) | (rename_i e; first | exact .inl e | exact .inr (.inl e) | exact .inr (.inr e))
theorem Good.glo (G : Good EX cf C k X E) {x : Str} (h : glB C x = true) : Gl X x := by
  unfold glB at h
  show X.env.scope.names.lookup x = _
  rw [G.sc]
  split at h <;> first | assumption | cases h
theorem Good.slot (G : Good EX cf C k X E) {x : Str} {i : Nat} (h : slotOf C x = some i) : X.N[i]? = some x := by rw [G.hN]; exact slotOf_ok h
theorem Good.ndX (G : Good EX cf C k X E) : X.N.Nodup := by rw [G.hN]; exact G.nd
theorem Good.units (G : Good EX cf C k X E) : X.A.units + 200 < cLine := by have := G.room.un; omega
theorem Good.loc (G : Good EX cf C k X E) {x : Str} (h : locB C x = true) : Loc X.env.scope x ∧ (X.fn x = true ∨ X.env.scope.names.lookup x = some .local) := by
  unfold locB at h
  rw [G.sc]
  split at h
  · rename_i e; exact ⟨.inl e, .inr e⟩
  · rename_i e
    refine ⟨.inr e, .inl (G.fn x ?_)⟩
    cases q : C.fnm with
    | none => rfl
    | some s => rw [q] at h; exact h
  · cases h

/-! ### targets -/
theorem trTg_ok (G : Good EX cf C k X E) : ∀ (n : Nat) (e : Expr) (t : Tg), trTg C n e = some t → PG X e (sG X.K t)
  | 0, _, _, h => by cases h
  | n + 1, e, t, h => by
    unfold trTg at h
    split at h <;> first | (cases h; done) | skip
    · rename_i x p
      split at h
      · rename_i hl
        obtain ⟨i, hi, rfl⟩ := map_some h
        exact sg_name G.ndX (G.slot hi) (G.loc hl).1 (G.loc hl).2
      · cases h
    · rename_i a b kk p
      split at h
      · rename_i hs
        rw [Bool.and_eq_true] at hs
        obtain ⟨x, hx, h⟩ := bind_some h
        obtain ⟨y, hy, rfl⟩ := map_some h
        have ca : ∀ r, assignEach (a :: r) X.env = (false, assign a X.env) :: assignEach r X.env := fun r => by have := hs.1; cases a <;> first | (cases this; done) | rfl
        have cb : ∀ r, assignEach (b :: r) X.env = (false, assign b X.env) :: assignEach r X.env := fun r => by have := hs.2; cases b <;> first | (cases this; done) | rfl
        exact sg_two G.calm (trTg_ok G _ _ _ hx) (trTg_ok G _ _ _ hy) (by rw [ca]; rfl) (by rw [cb]; rfl) (by rw [ca, cb]; rfl) (by rw [ca, cb]; rfl)
      · cases h
    · rename_i a b c kk p
      split at h
      · rename_i hs
        rw [Bool.and_eq_true, Bool.and_eq_true] at hs
        obtain ⟨x, hx, h⟩ := bind_some h
        obtain ⟨y, hy, h⟩ := bind_some h
        obtain ⟨z, hz, rfl⟩ := map_some h
        have ca : ∀ r, assignEach (a :: r) X.env = (false, assign a X.env) :: assignEach r X.env := fun r => by have := hs.1.1; cases a <;> first | (cases this; done) | rfl
        have cb : ∀ r, assignEach (b :: r) X.env = (false, assign b X.env) :: assignEach r X.env := fun r => by have := hs.1.2; cases b <;> first | (cases this; done) | rfl
        have cc : ∀ r, assignEach (c :: r) X.env = (false, assign c X.env) :: assignEach r X.env := fun r => by have := hs.2; cases c <;> first | (cases this; done) | rfl
        exact sg_three G.calm (trTg_ok G _ _ _ hx) (trTg_ok G _ _ _ hy) (trTg_ok G _ _ _ hz) (by rw [ca]; rfl) (by rw [cb]; rfl) (by rw [cc]; rfl) (by rw [ca, cb, cc]; rfl) (by rw [ca, cb, cc]; rfl)
      · cases h

/-! ### lists of terms -/
theorem trL_ok {f : Expr → Option IE} (hf : ∀ e ir, f e = some ir → SE X E e (evE cf ir)) : ∀ (es : List Expr) (as : IEs), trL f es = some as → SA X E es (evEs cf as) ∧ es.all nstar = true
  | [], as, h => by
    cases h
    exact ⟨sa_nil, rfl⟩
  | e :: es, as, h => by
    unfold trL at h
    split at h
    · rename_i hs
      obtain ⟨a, ha, h⟩ := bind_some h
      obtain ⟨b, hb, rfl⟩ := map_some h
      obtain ⟨h1, h2⟩ := trL_ok hf es b hb
      exact ⟨sa_cons (hf _ _ ha) h1 (star_cons _ hs), by rw [List.all_cons, hs, h2]; rfl⟩
    · cases h
theorem trB_and {f : Expr → Option IE} {pos : Pos} (hf : ∀ e ir, f e = some ir → SE X E e (evE cf ir) ∧ (nite e = true → ST X E e (evE cf ir))) : ∀ (es : List Expr) (a : IE), trB f .and es = some a →
    SE X E (.BoolOp .And es pos) (evE cf a) ∧ SW X E (.BoolOp .And es pos) (evE cf a)
  | [], a, h => by cases h
  | [e], a, h => by
    unfold trB at h
    split at h
    · rename_i hn
      obtain ⟨h1, h2⟩ := hf _ _ h
      exact ⟨pe_one h1, sw_one_and (h2 hn)⟩
    · cases h
  | e :: e2 :: es, a, h => by
    unfold trB at h
    split at h
    · rename_i hn
      obtain ⟨x, hx, h⟩ := bind_some h
      obtain ⟨y, hy, rfl⟩ := map_some h
      obtain ⟨h1, h2⟩ := hf _ _ hx
      obtain ⟨h3, h4⟩ := trB_and hf (e2 :: es) y hy
      exact ⟨se_and h1 h3, sw_and (h2 hn) h4⟩
    · cases h
theorem trB_or {f : Expr → Option IE} {pos : Pos} (hf : ∀ e ir, f e = some ir → SE X E e (evE cf ir) ∧ (nite e = true → ST X E e (evE cf ir))) : ∀ (es : List Expr) (a : IE), trB f .or es = some a →
    SE X E (.BoolOp .Or es pos) (evE cf a) ∧ SW X E (.BoolOp .Or es pos) (evE cf a)
  | [], a, h => by cases h
  | [e], a, h => by
    unfold trB at h
    split at h
    · rename_i hn
      obtain ⟨h1, h2⟩ := hf _ _ h
      exact ⟨pe_one h1, sw_one_or (h2 hn)⟩
    · cases h
  | e :: e2 :: es, a, h => by
    unfold trB at h
    split at h
    · rename_i hn
      obtain ⟨x, hx, h⟩ := bind_some h
      obtain ⟨y, hy, rfl⟩ := map_some h
      obtain ⟨h1, h2⟩ := hf _ _ hx
      obtain ⟨h3, h4⟩ := trB_or hf (e2 :: es) y hy
      exact ⟨se_or h1 h3, sw_or (h2 hn) h4⟩
    · cases h

/-! ### operators -/
theorem op_ok (G : Good EX cf C k X E) {o : Operator} {p : Op2} (h : opOf o = some p) : ∃ r, OpR X (binaryOp o) r ∧ Tel2 X.K (bin2 p) r := by
  cases o <;> cases h
  · exact ⟨_, OpR.or op_add (OpR.or op_add_str (OpR.or op_catA op_cat)), tel_add⟩
  · exact ⟨_, op_sub, tel_sub⟩
  · exact ⟨_, OpR.or op_mul op_repB, tel_mul⟩
  all_goals first | exact ⟨_, op_mod, tel_mod⟩ | exact ⟨_, op_pow, tel_pow⟩ | exact ⟨_, op_fdiv, tel_fdiv⟩
theorem cmp_ok (G : Good EX cf C k X E) {o : CmpOp} {p : CmpK} (h : cmpOf o = some p) : ∃ r, OpR X (compareOp o) r ∧ Tel2 X.K (cmp2 p) r := by
  have u := G.units
  cases o <;> cases h
  · exact ⟨_, (op_eqD (by omega)).or op_eq, tel_eq⟩
  · exact ⟨_, (op_neD (by omega)).or op_ne, tel_ne⟩
  · exact ⟨_, op_lt, tel_lt⟩
  · exact ⟨_, op_le, tel_le⟩
  · exact ⟨_, op_gt, tel_gt⟩
  · exact ⟨_, op_ge, tel_ge⟩
  · exact ⟨_, op_isN, tel_isN⟩
  · exact ⟨_, op_notN, tel_notN⟩
  · exact ⟨_, OpR.or op_in_seq (OpR.or (op_inA (by omega)) op_in_str), tel_in⟩
  · exact ⟨_, OpR.or op_notIn_seq (OpR.or (op_notInA (by omega)) op_notIn_str), tel_nin⟩
end
end PyI

/-! IU_: the terms tell what the syntax does: expressions, all of them. -/
namespace PyI
open PySem PySem.Spec PyProof.Rows L2

section
variable {EX : XK → XW} {cf : Nat → List D → Sto → Res D} {C : TC} {k : Nat} {X : Cx} {E : L2.St → XW}
theorem Go.wish {α β : Type} {K : PySem.W.Frag} {E E' : XW} {R : List Addr → Hp → α → β → Prop} {ι : List Addr} {H : Hp} {Q : β → Hp → Prop} {r : Res α} (h : Go K E R ι H Q r) (i : ∀ n st ι H, E n st ι H → E' n st ι H) : Go K E' R ι H Q r := by
  cases r with
  | ok a st => exact h
  | exc n st => exact fun ι' H' x S => i _ _ _ _ (h ι' H' x S)
  | stuck => exact h
theorem sR_wish {α β : Type} {K : PySem.W.Frag} {E E' : L2.St → XW} {R : List Addr → Hp → α → β → Prop} {f : Env → Sto → Res α} {σ : L2.St} {H : Hp} {Q : β → Hp → Prop} (h : sR K R E f σ H Q) (i : ∀ σ n st ι H, E σ n st ι H → E' σ n st ι H) : sR K R E' f σ H Q := by
  obtain ⟨ι, env, st, eR, S, go⟩ := h
  exact ⟨ι, env, st, eR, S, go.wish (i σ)⟩
theorem kw_names (env : PySem.Env) (pos : Pos) : ∀ kws : List Keyword, (backToKw pos (keywordEach kws env)).map (·.1) = kws.map (·.arg)
  | [] => rfl
  | ⟨nm, e, p⟩ :: kws => by
    have ih := kw_names env pos kws
    unfold backToKw at ih ⊢
    show nm :: _ = nm :: _
    rw [ih]
theorem names_all {α : Type} : ∀ {l : List (Option Str × α)} {ns : List Str}, l.map (·.1) = ns.map some → l.all (·.1.isSome) = true ∧ l.filterMap (·.1) = ns ∧ l.any (·.1.isNone) = false
  | [], [], _ => ⟨rfl, rfl, rfl⟩
  | [], _ :: _, h => by cases h
  | _ :: _, [], h => by cases h
  | (o, v) :: l, n :: ns, h => by
    rw [List.map_cons, List.map_cons] at h
    obtain ⟨h1, h2⟩ := List.cons.inj h
    have h1 : o = some n := h1
    subst h1
    obtain ⟨a, b, c⟩ := names_all h2
    refine ⟨by rw [List.all_cons, a]; rfl, by rw [List.filterMap_cons, b], by rw [List.any_cons, c]; rfl⟩
theorem sk_ok {f : Expr → Option IE} (hf : ∀ e ir, f e = some ir → SE X E e (evE cf ir)) : ∀ (kws : List Keyword) (bs : IEs), trL f (kws.map (·.value)) = some bs → PK X kws (sR X.K (RDs X.K) E (evEs cf bs))
  | [], bs, h => by
    cases h
    exact ⟨fun pos pins s σ H Q I ⟨ι, env, st, eR, S, go⟩ => pk_nil.run pos pins s σ H Q I (go ι H [] (Ext.refl _ _) S .nil)⟩
  | ⟨nm, e, p⟩ :: kws, bs, h => by
    change (if nstar e then (f e).bind fun a => (trL f (kws.map (·.value))).map fun as => .cons a as else none) = some bs at h
    split at h
    · obtain ⟨a, ha, h⟩ := bind_some h
      obtain ⟨b, hb, rfl⟩ := map_some h
      have k := pk_cons (nm := nm) (kpos := p) (hf _ _ ha) (sk_ok hf kws b hb)
      exact ⟨fun pos pins s σ H Q I ⟨ι, env, st, eR, S, go⟩ => k.run pos pins s σ H Q I ⟨ι, env, st, eR, S, Go.bind go fun ι1 H1 d v st1 x1 S1 r1 go1 =>
        ⟨ι1, env, st1, eR.mono x1, S1, Go.bind go1 fun ι2 H2 ds vs st2 x2 S2 r2 go2 => go2 ι2 H2 _ (Ext.refl _ _) S2 (.cons (r1.mono x2) r2)⟩⟩⟩
    · cases h
theorem trL_len {f : Expr → Option IE} : ∀ (es : List Expr) (as : IEs), trL f es = some as → as.len = es.length
  | [], as, h => by cases h; rfl
  | e :: es, as, h => by
    unfold trL at h
    split at h
    · obtain ⟨a, ha, h⟩ := bind_some h
      obtain ⟨b, hb, rfl⟩ := map_some h
      rw [List.length_cons, ← trL_len es b hb]; rfl
    · cases h
/-- the arguments by place, then those by name, as one list -/
theorem tel_callK {K : PySem.W.Frag} {EX : XK → XW} {np : Nat} {g : List D → Sto → Res D} {W : L2.St → XK} {σ : L2.St} {H : Hp} {Q : VK} {as bs : IEs} (ar : Arity np g) (h : sR K (RD K) (fun σ => EX (W σ)) (fCall g (evEs cf (as.app bs))) σ H Q) :
    tCallGK (spF K EX np g) W (sR K (RDs K) (fun σ => EX (W σ)) (evEs cf as)) (sR K (RDs K) (fun σ => EX (W σ)) (evEs cf bs)) σ H Q := by
  obtain ⟨ι, env, st, eR, S, go⟩ := h
  unfold fCall at go
  rw [evEs_app] at go
  refine ⟨ι, env, st, eR, S, ?_⟩
  rw [bind_bind] at go
  refine Go.bind go fun ι1 H1 xs vs st1 x1 S1 r1 go1 => ⟨ι1, env, st1, eR.mono x1, S1, ?_⟩
  rw [bind_bind] at go1
  refine Go.bind go1 fun ι2 H2 ys ws st2 x2 S2 r2 go2 => ?_
  rw [Res.bind_ok] at go2
  have r12 := (r1.mono x2).append r2
  by_cases hl : (xs ++ ys).length = np
  · exact ⟨by rw [← r12.length]; exact hl, ι2, _, st2, S2, r12, go2⟩
  · rw [ar _ st2 hl] at go2
    exact (show False from go2).elim
/-- a call of one of the text's own defs -/
theorem se_call (G : Good EX cf C k X E) {x : Str} {i : Nat} {ps : List Str} {es : List Expr} {kws : List Keyword} {as bs : IEs} {p pos : Pos} (hg : glB C x = true) (hn : okName x = true) (hf : C.fns.lookup x = some (i, ps)) (hks : kws.map (·.arg) = (ps.drop es.length).map some)
    (ha : ∀ E', Good EX cf C k X E' → SA X E' es (evEs cf as)) (hs : es.all nstar = true) (hb : ∀ E', Good EX cf C k X E' → PK X kws (sR X.K (RDs X.K) E' (evEs cf bs))) (hlen : as.len = es.length) : SE X E (.Call (.Name x p) es kws pos) (evE cf (.call i (as.app bs))) := by
  obtain ⟨f, fd, hm, hk, kb, F, ar⟩ := G.fs x i ps hf
  obtain ⟨W, tk, hW⟩ := G.tk
  have G' : Good EX cf C k X (fun σ => EX (WE W σ)) := { G with tk := ⟨W, tk, fun _ _ _ _ _ h => h⟩ }
  obtain ⟨a1, a2, a3⟩ := names_all ((kw_names X.env pos kws).trans hks)
  cases es with
  | nil =>
    have has : as = .nil := by
      cases as with
      | nil => rfl
      | cons _ _ => cases hlen
    subst has
    refine PE.imp (pe_callGK0 F G.room G.gd (G.glo hg) hm hk kb (fun σ => passAt tk σ) (hb _ G') (okn hn).1 a1 a2 a3) fun σ H Q h => ?_
    have h' := tel_callK (as := .nil) (bs := bs) ar (sR_wish (f := fCall (cf i) (evEs cf (IEs.nil.app bs))) h hW)
    obtain ⟨ι, env, st, eR, S, go⟩ := h'
    exact go ι H [] (Ext.refl _ _) S .nil
  | cons e es =>
    have hs0 := hs
    rw [List.all_cons, Bool.and_eq_true] at hs
    refine PE.imp (pe_callGK F G.room G.gd (G.glo hg) hm hk kb (fun σ => passAt tk σ) (ha _ G') (hb _ G') (okn hn).1 (star_cons _ hs.1) a1 a2 (fun σ H Q h => ?_) (by rw [back_any, star_plain _ _ hs0, a3]; rfl)) fun σ H Q h => ?_
    · obtain ⟨ι, env, st, eR, S, go⟩ := h
      refine ⟨ι, env, st, eR, S, ?_⟩
      cases hq : evEs cf as env st with
      | ok xs s =>
        rw [hq] at go
        intro ι1 H1 vs x1 S1 r1
        exact ⟨by rw [← r1.length, evEs_len as env st xs s hq, hlen], go ι1 H1 vs x1 S1 r1⟩
      | exc n s => rw [hq] at go; exact go
      | stuck => rw [hq] at go; exact go
    · exact tel_callK (as := as) (bs := bs) ar (sR_wish (f := fCall (cf i) (evEs cf (as.app bs))) h hW)

/-! ### built-in functions -/
theorem Good.mg0 (G : Good EX cf C k X E) (x : Str) (h : x ∈ bltNames := by decide) : X.mg x = none := G.bl x h
theorem boot_ord' : bootBuiltins "ord" = some (.builtin "ord") := by decide +kernel
theorem boot_sum' : bootBuiltins "sum" = some (.builtin "sum") := by decide +kernel
theorem boot_all' : bootBuiltins "all" = some (.builtin "all") := by decide +kernel
theorem boot_any' : bootBuiltins "any" = some (.builtin "any") := by decide +kernel
theorem boot_max' : bootBuiltins "max" = some (.builtin "max") := by decide +kernel
theorem boot_min' : bootBuiltins "min" = some (.builtin "min") := by decide +kernel
theorem boot_repr' : bootBuiltins "repr" = some (.builtin "repr") := by decide +kernel
theorem boot_sorted' : bootBuiltins "sorted" = some (.builtin "sorted") := by decide +kernel
theorem boot_int' : bootBuiltins "int" = some (.type "int") := by decide +kernel
theorem boot_list' : bootBuiltins "list" = some (.type "list") := by decide +kernel
theorem boot_tuple' : bootBuiltins "tuple" = some (.type "tuple") := by decide +kernel
theorem boot_bool' : bootBuiltins "bool" = some (.type "bool") := by decide +kernel
theorem boot_str' : bootBuiltins "str" = some (.type "str") := by decide +kernel
theorem blt_ok (G : Good EX cf C k X E) {x : Str} {f : Fn} {e : Expr} {es : List Expr} {as : IEs} {p pos : Pos} (hg : glB C x = true) (hf : bltOf x = some f) (ha : SA X E (e :: es) (evEs cf as)) (hs : (e :: es).all nstar = true) :
    SE X E (.Call (.Name x p) (e :: es) [] pos) (evE cf (.blt f as)) := by
  have u := G.units
  rw [List.all_cons, Bool.and_eq_true] at hs
  have h1 := star_cons (es := es) X.env hs.1
  have h2 : (backTo pos (starEach es X.env)).any (·.1) = false := by rw [back_any]; exact star_plain _ _ hs.2
  have g := G.glo hg
  unfold bltOf at hf
  split at hf
  · rename_i e1; subst e1; cases hf; exact se_blt (cr_sortD G.calm) tel_sorted g (G.mg0 _) boot_sorted' ha (by decide) (by decide) h1 h2
  unfold bltOf0 at hf
  split at hf
  · rename_i e1; subst e1; cases hf; exact se_blt cr_len tel_len g (G.mg0 _) boot_len ha (by decide) (by decide) h1 h2
  split at hf
  · rename_i e1; subst e1; cases hf; exact se_blt call_abs tel_abs g (G.mg0 _) boot_abs ha (by decide) (by decide) h1 h2
  split at hf
  · rename_i e1; subst e1; cases hf; exact se_bltT call_int1 tel_int g (G.mg0 _) boot_int' ha (by decide) (by decide) h1 h2
  split at hf
  · rename_i e1; subst e1; cases hf; exact se_bltT call_list_of tel_list g (G.mg0 _) boot_list' ha (by decide) (by decide) h1 h2
  split at hf
  · rename_i e1; subst e1; cases hf; exact se_bltT (cr_tuple G.calm) tel_tuple g (G.mg0 _) boot_tuple' ha (by decide) (by decide) h1 h2
  split at hf
  · rename_i e1; subst e1; cases hf; exact se_blt (cr_sum G.calm) tel_sum g (G.mg0 _) boot_sum' ha (by decide) (by decide) h1 h2
  split at hf
  · rename_i e1; subst e1; cases hf; exact se_blt (cr_all G.calm) tel_all g (G.mg0 _) boot_all' ha (by decide) (by decide) h1 h2
  split at hf
  · rename_i e1; subst e1; cases hf; exact se_blt (cr_any G.calm) tel_any g (G.mg0 _) boot_any' ha (by decide) (by decide) h1 h2
  split at hf
  · rename_i e1; subst e1; cases hf; exact se_blt (CallR.or (call_max2 G.calm) (cr_maxA G.calm (by omega))) tel_max g (G.mg0 _) boot_max' ha (by decide) (by decide) h1 h2
  split at hf
  · rename_i e1; subst e1; cases hf; exact se_blt (CallR.or (call_min2 G.calm) (cr_minA G.calm (by omega))) tel_min g (G.mg0 _) boot_min' ha (by decide) (by decide) h1 h2
  split at hf
  · rename_i e1; subst e1; cases hf; exact se_blt (cr_repr G.gd (by omega)) tel_repr g (G.mg0 _) boot_repr' ha (by decide) (by decide) h1 h2
  split at hf
  · rename_i e1; subst e1; cases hf; exact se_blt call_ord tel_ord g (G.mg0 _) boot_ord' ha (by decide) (by decide) h1 h2
  · cases hf
theorem isi_ok (G : Good EX cf C k X E) {t : Str} {ty : Ty} {a : Expr} {ia : IE} {p p2 pos : Pos} (hg : glB C "isinstance" = true) (hg2 : glB C t = true) (ht : tyOf t = some ty) (ha : SE X E a (evE cf ia)) (hs : nstar a = true) :
    SE X E (.Call (.Name "isinstance" p) [a, .Name t p2] [] pos) (evE cf (.isi ia ty)) := by
  have g := G.glo hg
  have g2 := G.glo hg2
  unfold tyOf at ht
  split at ht
  · rename_i e1; subst e1; cases ht; exact se_isi g (G.mg0 _) g2 (G.mg0 _) rfl boot_int' (by decide) (by decide) ha (star_cons _ hs)
  split at ht
  · rename_i e1; subst e1; cases ht; exact se_isi g (G.mg0 _) g2 (G.mg0 _) rfl boot_bool' (by decide) (by decide) ha (star_cons _ hs)
  split at ht
  · rename_i e1; subst e1; cases ht; exact se_isi g (G.mg0 _) g2 (G.mg0 _) rfl boot_str' (by decide) (by decide) ha (star_cons _ hs)
  split at ht
  · rename_i e1; subst e1; cases ht; exact se_isi g (G.mg0 _) g2 (G.mg0 _) rfl boot_tuple' (by decide) (by decide) ha (star_cons _ hs)
  split at ht
  · rename_i e1; subst e1; cases ht; exact se_isi g (G.mg0 _) g2 (G.mg0 _) rfl boot_list' (by decide) (by decide) ha (star_cons _ hs)
  · cases ht

/-! ### methods -/
structure MtOk (X : Cx) (m : Str) (t : Mt) : Prop where
  run : ∃ (id : String) (r : V → List V → Hp → VK → Prop), PlainAttrs (kdName (mKd t)) ∧ Slot (kdName (mKd t)) m id ∧ typeOf (.builtin id) = pure (.type "method_descriptor") ∧ MtR X id r ∧ TelM X.K (mth t) r
theorem mt_ok (G : Good EX cf C k X E) {m : Str} {t : Mt} (h : mtOf m = some t) : MtOk X m t := by
  have u := G.units
  unfold mtOf at h
  split at h
  · rename_i e1; subst e1; cases h; exact ⟨_, _, F.plainAttrs_list, F.slot_list_append, type_list_append, mt_append, tel_append⟩
  split at h
  · rename_i e1; subst e1; cases h; exact ⟨_, _, F.plainAttrs_list, F.slot_list_pop, F.type_list_pop, mt_pop, tel_pop⟩
  split at h
  · rename_i e1; subst e1; cases h; exact ⟨_, _, F.plainAttrs_dict, F.slot_dict_get, F.type_dict_get, mt_getA (by omega), tel_get⟩
  split at h
  · rename_i e1; subst e1; cases h; exact ⟨_, _, F.plainAttrs_dict, F.slot_dict_setdefault, F.type_dict_setdefault, mt_setdA (by omega), tel_setd⟩
  split at h
  · rename_i e1; subst e1; cases h; exact ⟨_, _, F.plainAttrs_str, F.slot_str_join, F.type_str_join, mt_join, tel_join⟩
  · cases h
theorem mKd_three (t : Mt) : mKd t = .list ∨ mKd t = .dict ∨ mKd t = .str := by cases t <;> decide
theorem mth_ok (G : Good EX cf C k X E) {m : Str} {t : Mt} {o : Expr} {io : IE} {es : List Expr} {as : IEs} {apos cpos : Pos} (h : mtOf m = some t) (ho : SE X E o (evE cf io)) (ha : SA X E es (evEs cf as)) (hs : es.all nstar = true) (hsup : nsup o = true)
    (hl : (apos.endLine == cpos.line) = true) (hn : es.length < 20) (h0 : es = [] → as = .nil) : SE X E (.Call (.Attribute o m apos) es [] cpos) (evE cf (.mth t io as)) := by
  obtain ⟨id, r, pa, slot, hty, hm, tl⟩ := (mt_ok G h).run
  cases es with
  | nil =>
    rw [h0 rfl]
    exact se_mth0 pa slot hty hm (mKd_three t) tl ho (base_ok _ _ _ hsup) hl
  | cons e es =>
    have hs0 := hs
    rw [List.all_cons, Bool.and_eq_true] at hs
    refine se_mth pa slot hty hm (mKd_three t) tl ho ha (base_ok _ _ _ hsup) ?_ hl (star_cons _ hs.1) (by rw [back_any]; exact star_plain _ _ hs.2)
    rw [Bool.and_eq_true, Bool.and_eq_true]
    refine ⟨⟨back_all _ _ (star_plain _ _ hs0), rfl⟩, ?_⟩
    rw [decide_eq_true_eq]
    show (e :: es).length + 0 + 0 < 30
    omega
end
end PyI

/-! IV_: the terms tell what the syntax does: expressions, the whole. -/
namespace PyI
open PySem PySem.Spec PyProof.Rows L2

section
variable {EX : XK → XW} {cf : Nat → List D → Sto → Res D} {C : TC} {k : Nat} {X : Cx} {E : L2.St → XW}
theorem con_ok {c : Const} {d : D} {j : Nat} {p : Pos} (h : cOf c = some d) : SE X E (.Constant c j p) (evE cf (.con d)) := by
  cases c <;> cases h
  · exact se_none
  · exact se_bl
  · exact se_int
  · exact se_str
theorem var_ok (G : Good EX cf C k X E) {x : Str} {ir : IE} {p : Pos} (h : trVar C x = some ir) : SE X E (.Name x p) (evE cf ir) := by
  unfold trVar at h
  split at h
  · rename_i hc
    rw [Bool.and_eq_true] at hc
    obtain ⟨i, hi, rfl⟩ := map_some h
    exact se_var (G.slot hi) (G.vis hc.2) (okn hc.1).1 (okn hc.1).2
  · split at h
    · rename_i hc
      rw [Bool.and_eq_true] at hc
      obtain ⟨d, hd, rfl⟩ := map_some h
      obtain ⟨v, u, hm, r, s⟩ := G.gl x d hd
      exact se_glob (G.glo hc.2) hm r s (okn hc.1).1
    · cases h
theorem st_of {e : Expr} {f : Env → Sto → Res D} (h : SE X E e f) (ht : plainT e = true) : SE X E e f ∧ (nite e = true → ST X E e f) :=
  ⟨h, fun _ => st_val h (true_ok _ ht)⟩
/-- a part of a slice -/
theorem trP_ok {f : Expr → Option IE} (hf : ∀ e ir, f e = some ir → SE X E e (evE cf ir)) {o : Option Expr} {p : IP} (h : trP f o = some p) : SO X E o (evP cf p) := by
  cases o with
  | none => cases h; exact so_none
  | some e =>
    obtain ⟨a, ha, rfl⟩ := map_some h
    exact so_some (hf _ _ ha)
theorem fold_ok {e : Expr} (env : PySem.Env) (h : nset e = true) : ∀ x, foldedSetIterable e env x = pure x := by
  intro x
  cases e <;> first | (cases h; done) | rfl
/-- what is walked -/
theorem trI_ok (G : Good EX cf C k X E) {f : Expr → Option IE} {tg : Expr} (hf : ∀ e ir, f e = some ir → SE X E e (evE cf ir)) {e : Expr} {w : II} (h : trI C f tg e = some w) : SI X E tg e (evI cf w) ∧ nset e = true := by
  unfold trI at h
  split at h
  · rename_i x p args kws pos
    refine ⟨?_, rfl⟩
    split at h
    · rename_i hc
      rw [Bool.and_eq_true] at hc
      have hx := eq_of_beq hc.2
      subst hx
      split at h
      · rename_i a
        split at h
        · rename_i hs
          obtain ⟨ia, ha, rfl⟩ := map_some h
          exact si_rng1 (G.glo hc.1) (G.mg0 _) (hf _ _ ha) (star_cons _ hs)
        · cases h
      · rename_i a b
        split at h
        · rename_i hs
          rw [Bool.and_eq_true] at hs
          obtain ⟨ia, ha, h⟩ := bind_some h
          obtain ⟨ib, hb, rfl⟩ := map_some h
          exact si_rng2 (G.glo hc.1) (G.mg0 _) (hf _ _ ha) (hf _ _ hb) (by rw [star_cons _ hs.1, star_cons _ hs.2]; rfl) (star_cons _ hs.2)
        · cases h
      · rename_i a b c
        split at h
        · rename_i hs
          rw [Bool.and_eq_true, Bool.and_eq_true] at hs
          obtain ⟨ia, ha, h⟩ := bind_some h
          obtain ⟨ib, hb, h⟩ := bind_some h
          obtain ⟨ic, hcc, rfl⟩ := map_some h
          exact si_rng3 (G.glo hc.1) (G.mg0 _) (hf _ _ ha) (hf _ _ hb) (hf _ _ hcc) (star_cons _ hs.1.1) (star_cons _ hs.1.2) (star_cons _ hs.2)
        · cases h
      · cases h
    split at h
    · rename_i hc
      rw [Bool.and_eq_true] at hc
      have hx := eq_of_beq hc.2
      subst hx
      split at h
      · rename_i a
        split at h
        · rename_i hs
          rw [Bool.and_eq_true] at hs
          obtain ⟨ia, ha, rfl⟩ := map_some h
          cases tg <;> first | (cases hs.2; done) | skip
          exact si_enum (G.glo hc.1) (G.mg0 _) (hf _ _ ha) (star_cons _ hs.1)
        · cases h
      · cases h
    split at h
    · rename_i hc
      rw [Bool.and_eq_true] at hc
      have hx := eq_of_beq hc.2
      subst hx
      split at h
      · rename_i a b
        split at h
        · rename_i hs
          rw [Bool.and_eq_true, Bool.and_eq_true] at hs
          obtain ⟨ia, ha, h⟩ := bind_some h
          obtain ⟨ib, hb, rfl⟩ := map_some h
          rw [Bool.or_eq_true] at hs
          rcases hs.2 with ht | ht
          · cases tg <;> first | (cases ht; done) | skip
            exact si_zip (G.glo hc.1) (G.mg0 _) (hf _ _ ha) (hf _ _ hb) (star_cons _ hs.1.1) (star_cons _ hs.1.2)
          · exact si_zipN ht (G.glo hc.1) (G.mg0 _) (hf _ _ ha) (hf _ _ hb) (star_cons _ hs.1.1) (star_cons _ hs.1.2)
        · cases h
      · cases h
    · obtain ⟨ia, ha, rfl⟩ := map_some h
      exact si_val (hf _ _ ha)
  · cases h
  · rename_i hc hs
    obtain ⟨ia, ha, rfl⟩ := map_some h
    refine ⟨si_val (hf _ _ ha), ?_⟩
    cases e <;> first | rfl | exact absurd rfl (hs _ _ _)

/-! ### a comprehension's block -/
theorem Good.blk (G : Good EX cf C k X E) {scope : Scope} (hk : scope.kind = .function) (s : Shared) (H : Hp) (A : Addr) (cl : List (Str × Addr)) (fp : List Addr) : Good EX cf (C.blk scope) k (X.blk s H scope (compEnvC scope cl A X.env) fp) E0 where
  hN := G.hN
  nd := G.nd
  sc := by
    show relS scope X.env.scope = relS scope C.sc
    rw [G.sc]
  kind := hk
  calm := G.calm
  room := G.room
  gd := G.gd
  po := PassesOwn.never
  fn := fun x h => by
    show (scope.names.lookup x == some .cell) = true
    dsimp only [TC.blk] at h
    split at h
    · rename_i e; rw [e]; rfl
    · cases h
  bl := G.bl
  gl := G.gl
  fs := G.fs
  tk := ⟨fun _ _ _ _ => False, takes_none5, fun _ _ _ _ _ h => h.elim⟩
theorem trComp_ok (G : Good EX cf C k X E) {f : TC → Expr → Option IE} (hf : ∀ C X E, Good EX cf C k X E → ∀ e ir, f C e = some ir → SE X E e (evE cf ir) ∧ (nite e = true → ST X E e (evE cf ir)))
    {elt tg it : Expr} {ifs : List Expr} {scope : Scope} {ir : IE} {pos : Pos} (h : trComp C f elt tg it ifs scope = some ir) : SE X E (.ListComp elt [⟨tg, it, ifs, 0⟩] scope pos) (evE cf ir) ∧
      ∀ (i : Nat) (y : Str) (py spos : Pos), X.N[i]? = some y → X.env.scope.names.lookup y = some .local → swapsWith (.ListComp elt [⟨tg, it, ifs, 0⟩] scope pos) (some (.Name y py)) spos.line X.env = pure true →
        SS X E (.Assign [.Name y py] (.ListComp elt [⟨tg, it, ifs, 0⟩] scope pos) spos) (exS cf (.asg (.tg (.name i)) ir)) := by
  unfold trComp at h
  split at h
  · rename_i hb
    have bo : BlkOk X.N X.env.scope scope (ownOf C scope) := by rw [G.hN, G.sc]; exact blkOk_by hb
    have GB := fun s H A cl fp => G.blk (s := s) (H := H) (A := A) (cl := cl) (fp := fp) bo.kind
    obtain ⟨t, ht, h⟩ := bind_some h
    split at h
    · rename_i hsub
      obtain ⟨c, hc, h⟩ := bind_some h
      obtain ⟨y, hy, h⟩ := bind_some h
      have B : ∃ tt, BlkS X scope (ownOf C scope) tg elt ifs t (evC cf c) (evE cf y) (ncOf c) tt := by
        have ha := List.all_eq_true.mp hsub
        cases ifs with
        | nil =>
          cases hc
          exact ⟨tYes, bo, fun s H A cl fp => trTg_ok (GB s H A cl fp) 4 tg t ht, fun s H A cl fp => pts_nil, fun s H A cl fp => (hf _ _ _ (GB s H A cl fp) _ _ hy).1, fun σ H Q q => q, fun j hj => of_decide_eq_true (ha j hj)⟩
        | cons e1 r =>
          cases r with
          | nil =>
            change (if nite e1 = true then (f (C.blk scope) e1).map IP.some else none) = some c at hc
            split at hc
            · rename_i hn
              obtain ⟨ic, h1, rfl⟩ := map_some hc
              exact ⟨_, bo, fun s H A cl fp => trTg_ok (GB s H A cl fp) 4 tg t ht, fun s H A cl fp => pts_one ((hf _ _ _ (GB s H A cl fp) _ _ h1).2 hn), fun s H A cl fp => (hf _ _ _ (GB s H A cl fp) _ _ hy).1, fun σ H Q q => q, fun j hj => of_decide_eq_true (ha j hj)⟩
            · cases hc
          | cons _ _ => cases hc
      obtain ⟨tt, B⟩ := B
      split at h
      · rename_i x hi
        split at h
        · rename_i hv
          rw [Bool.and_eq_true, Bool.and_eq_true] at hv
          obtain ⟨v, hs, rfl⟩ := map_some h
          unfold itemsVar at hi
          split at hi
          · rename_i x' p m apos cpos
            split at hi
            · rename_i hm
              rw [Bool.and_eq_true] at hm
              cases hi
              have hx := eq_of_beq hm.1
              subst hx
              cases tg <;> first | (cases hv.2; done) | skip
              exact ⟨se_compD G.calm G.ndX (G.slot hs) (G.vis hv.1.1) (okn hv.1.2).1 (okn hv.1.2).2 hm.2 B, fun i y py spos hy hyl hsw => ss_setLcD G.calm G.ndX hy hyl (G.slot hs) (G.vis hv.1.1) (okn hv.1.2).1 (okn hv.1.2).2 hm.2 hsw B⟩
            · cases hi
          · cases hi
        · cases h
      · obtain ⟨w, hw, rfl⟩ := map_some h
        obtain ⟨h1, h2⟩ := trI_ok G (fun e ir q => (hf _ _ _ G _ _ q).1) hw
        exact ⟨se_comp G.calm G.ndX h1 B (fold_ok _ h2), fun i y py spos hy hyl hsw => ss_setLc G.calm G.ndX hy hyl hsw h1 B (fold_ok _ h2)⟩
    · cases h
  · cases h

/-! ### calls by a name -/
theorem se_tupR1 (G : Good EX cf C k X E) {a : Expr} {ia : IE} {p p2 pos pos2 : Pos} (hg : glB C "tuple" = true) (hg2 : glB C "range" = true) (ha : SE X E a (evE cf ia)) (hs : nstar a = true) :
    SE X E (.Call (.Name "tuple" p) [.Call (.Name "range" p2) [a] [] pos2] [] pos) (evE cf (.tupI (.rng1 ia))) :=
  PE.imp (pe_tupRg G.calm (G.glo hg) (G.mg0 _) (prg_1 (G.glo hg2) (G.mg0 _) ha (star_cons _ hs)) rfl) fun σ H Q ⟨ι, env, st, eR, S, go⟩ => by
    have go : Go X.K (E σ) (RD X.K) ι H Q ((fRng1 (evE cf ia) env st).bind fun w st => guard' (decide (w.xs.length ≤ 16777216)) (.ok (.tup w.xs) st)) := go
    unfold fRng1 at go
    rw [bind_bind] at go
    refine ⟨ι, env, st, eR, S, Go.bind go fun ι1 H1 d v st1 x1 S1 r1 go1 => ?_⟩
    cases r1 with
    | int j =>
      dsimp only at go1
      by_cases hj : rngOk j = true
      · rw [show guard' (rngOk j) (Res.ok (⟨rgD 0 j.toNat, none⟩ : Wk) st1) = Res.ok (⟨rgD 0 j.toNat, none⟩ : Wk) st1 from if_pos hj, Res.bind_ok] at go1
        obtain ⟨c, go2⟩ := Go.guard go1
        rw [decide_eq_true_eq] at c
        have hl : (rgD 0 j.toNat).length = j.toNat := by simp [rgD]
        rw [hl] at c
        have hb := rng_ok hj
        refine ⟨j, rfl, ⟨by decide, by decide, hb.1, hb.2, by rw [show j - 0 = j by omega]; exact c⟩, fun q hq => ?_⟩
        have e : rgV 0 j = (List.range j.toNat).map fun i => V.int (0 + (i : Nat)) := by unfold rgV; rw [show j - 0 = j by omega]
        rw [e]
        exact Go.tup go2 S1 (rgD_rel 0 j.toNat) q hq
      · rw [show guard' (rngOk j) (Res.ok (⟨rgD 0 j.toNat, none⟩ : Wk) st1) = Res.stuck from if_neg hj] at go1
        exact (show False from go1).elim
    | _ => exact (show False from go1).elim
theorem se_tupR3 (G : Good EX cf C k X E) {a b c : Expr} {ia ib ic : IE} {p p2 pos pos2 : Pos} (hg : glB C "tuple" = true) (hg2 : glB C "range" = true) (ha : SE X E a (evE cf ia)) (hb : SE X E b (evE cf ib)) (hc : SE X E c (evE cf ic))
    (h1 : nstar a = true) (h2 : nstar b = true) (h3 : nstar c = true) :
    SE X E (.Call (.Name "tuple" p) [.Call (.Name "range" p2) [a, b, c] [] pos2] [] pos) (evE cf (.tupI (.rng3 ia ib ic))) :=
  PE.imp (pe_tupR3 G.calm (G.glo hg) (G.mg0 _) (G.glo hg2) (G.mg0 _) (pa_cons ha (pa_cons hb (pa_cons hc pa_nil (star_cons _ h3)) (star_cons _ h2)) (star_cons _ h1)) (star_cons _ h1) (by rw [star_cons _ h2, star_cons _ h3]; rfl)) fun σ H Q ⟨ι, env, st, eR, S, go⟩ => by
    have go : Go X.K (E σ) (RD X.K) ι H Q ((fRng3 (evE cf ia) (evE cf ib) (evE cf ic) env st).bind fun w st => guard' (decide (w.xs.length ≤ 16777216)) (.ok (.tup w.xs) st)) := go
    unfold fRng3 at go
    rw [bind_bind] at go
    refine ⟨ι, env, st, eR, S, Go.bind go fun ι1 H1 d v st1 x1 S1 r1 go1 => ?_⟩
    rw [bind_bind] at go1
    refine ⟨ι1, env, st1, eR.mono x1, S1, Go.bind go1 fun ι2 H2 d2 v2 st2 x2 S2 r2 go2 => ?_⟩
    rw [bind_bind] at go2
    refine ⟨ι2, env, st2, (eR.mono x1).mono x2, S2, Go.bind go2 fun ι3 H3 d3 v3 st3 x3 S3 r3 go3 => ?_⟩
    cases r1 <;> first | exact (show False from go3).elim | skip
    cases r2 <;> first | exact (show False from go3).elim | skip
    cases r3 <;> first | exact (show False from go3).elim | skip
    rename_i i j m
    dsimp only at go3
    by_cases hj : r3Ok i j m = true
    · rw [show guard' (r3Ok i j m) (Res.ok (⟨rgC i m (Builtin.Range.rangeSize i j m).toNat, none⟩ : Wk) st3) = Res.ok (⟨rgC i m (Builtin.Range.rangeSize i j m).toNat, none⟩ : Wk) st3 from if_pos hj, Res.bind_ok] at go3
      obtain ⟨c, go4⟩ := Go.guard go3
      rw [decide_eq_true_eq] at c
      have hl : (rgC i m (Builtin.Range.rangeSize i j m).toNat).length = (Builtin.Range.rangeSize i j m).toNat := by simp [rgC]
      rw [hl] at c
      exact ⟨i, j, m, _, rfl, r3_ok hj, c, fun q hq => Go.tup go4 S3 (rgC_rel i m _) q hq⟩
    · rw [show guard' (r3Ok i j m) (Res.ok (⟨rgC i m (Builtin.Range.rangeSize i j m).toNat, none⟩ : Wk) st3) = Res.stuck from if_neg hj] at go3
      exact (show False from go3).elim
theorem tupR_ok (G : Good EX cf C k X E) {f : Expr → Option IE} (hf : ∀ e ir, f e = some ir → SE X E e (evE cf ir)) {es : List Expr} {r : Expr} {ir : IE} {p pos : Pos} (hg : glB C "tuple" = true) (hr : rangeArg es = some r) (h : (trI C f r r).bind tupOf = some ir) :
    SE X E (.Call (.Name "tuple" p) es [] pos) (evE cf ir) := by
  unfold rangeArg at hr
  split at hr
  · rename_i y p2 as q
    split at hr
    · rename_i hy
      have hy := eq_of_beq hy
      subst hy
      cases hr
      obtain ⟨w, hw, h⟩ := bind_some h
      unfold trI at hw
      dsimp only at hw
      split at hw
      · rename_i hc
        rw [Bool.and_eq_true] at hc
        split at hw
        · rename_i a
          split at hw
          · rename_i hs
            obtain ⟨ia, ha, rfl⟩ := map_some hw
            cases h
            exact se_tupR1 G hg hc.1 (hf _ _ ha) hs
          · cases hw
        · split at hw
          · obtain ⟨ia, ha, hw⟩ := bind_some hw
            obtain ⟨ib, hb, rfl⟩ := map_some hw
            cases h
          · cases hw
        · rename_i a b c
          split at hw
          · rename_i hs
            rw [Bool.and_eq_true, Bool.and_eq_true] at hs
            obtain ⟨ia, ha, hw⟩ := bind_some hw
            obtain ⟨ib, hb, hw⟩ := bind_some hw
            obtain ⟨ic, hcc, rfl⟩ := map_some hw
            cases h
            exact se_tupR3 G hg hc.1 (hf _ _ ha) (hf _ _ hb) (hf _ _ hcc) hs.1.1 hs.1.2 hs.2
          · cases hw
        · cases hw
      · rename_i hc
        split at hw
        · rename_i h2
          rw [Bool.and_eq_true] at h2
          exact absurd h2.2 (by decide)
        · split at hw
          · rename_i h2
            rw [Bool.and_eq_true] at h2
            exact absurd h2.2 (by decide)
          · obtain ⟨ia, ha, rfl⟩ := map_some hw
            cases h
    · cases hr
  · cases hr
theorem blt_tuple {x : Str} (h : bltOf x = some .tuple) : x = "tuple" := by
  unfold bltOf at h
  split at h
  · cases h
  unfold bltOf0 at h
  split at h
  · cases h
  split at h
  · cases h
  split at h
  · cases h
  split at h
  · cases h
  split at h
  · assumption
  split at h
  · cases h
  split at h
  · cases h
  split at h
  · cases h
  split at h
  · cases h
  split at h
  · cases h
  split at h
  · cases h
  split at h
  · cases h
  · cases h
theorem call_ok (G : Good EX cf C k X E) {f : Expr → Option IE} (hf : ∀ E', Good EX cf C k X E' → ∀ e ir, f e = some ir → SE X E' e (evE cf ir)) {x : Str} {es : List Expr} {kws : List Keyword} {ir : IE} {p pos : Pos} (h : trCall C f x es kws = some ir) :
    SE X E (.Call (.Name x p) es kws pos) (evE cf ir) := by
  unfold trCall at h
  split at h
  · rename_i hc
    rw [Bool.and_eq_true] at hc
    split at h
    · rename_i i ps hl
      split at h
      · rename_i hk
        obtain ⟨as, ha, h⟩ := bind_some h
        obtain ⟨bs, hb, rfl⟩ := map_some h
        exact se_call G hc.1 hc.2 hl (of_decide_eq_true hk) (fun E' G' => (trL_ok (hf E' G') _ _ ha).1) (trL_ok (hf E G) _ _ ha).2 (fun E' G' => sk_ok (hf E' G') _ _ hb) (trL_len _ _ ha)
      · cases h
    · split at h
      · rename_i e es
        split at h
        · rename_i g hg
          split at h
          · rename_i r hr
            have hx := blt_tuple hg
            subst hx
            exact tupR_ok G (hf E G) hc.1 hr h
          · obtain ⟨as, ha, rfl⟩ := map_some h
            exact blt_ok G hc.1 hg (trL_ok (hf E G) _ _ ha).1 (trL_ok (hf E G) _ _ ha).2
        · split at h
          · rename_i hi
            have hx := eq_of_beq hi
            split at h
            · rename_i a t p2 he
              split at h
              · rename_i ht
                rw [Bool.and_eq_true] at ht
                obtain ⟨ty, h1, h⟩ := bind_some h
                obtain ⟨y, h2, rfl⟩ := map_some h
                rw [he]
                rw [hx]
                exact isi_ok G (by rw [← hx]; exact hc.1) ht.1 h1 (hf E G _ _ h2) ht.2
              · cases h
            · cases h
          · cases h
      · cases h
  · cases h
theorem dct_ok {x y : Str} {a b : Expr} {u v : IE} {j j2 : Nat} {p1 p2 pos : Pos} (ha : SE X E a (evE cf u)) (hb : SE X E b (evE cf v)) :
    SE X E (.Dict [some (.Constant (.str x) j p1), some (.Constant (.str y) j2 p2)] [a, b] pos) (evE cf (.dct (.cons (.con (.str x.cps.toList)) (.cons u (.cons (.con (.str y.cps.toList)) (.cons v .nil)))))) := by
  have e : evE cf (.dct (.cons (.con (.str x.cps.toList)) (.cons u (.cons (.con (.str y.cps.toList)) (.cons v .nil))))) = fDct2 x.cps.toList y.cps.toList (evE cf u) (evE cf v) := by
    funext env st
    unfold fDct2
    simp only [evE, evEs, Res.bind_ok]
    cases evE cf u env st with
    | ok d s =>
      simp only [Res.bind_ok]
      cases evE cf v env s <;> rfl
    | exc n s => rfl
    | stuck => rfl
  rw [e]
  exact se_dct2 ha hb
theorem trL_nil {f : Expr → Option IE} {as : IEs} (h : trL f [] = some as) : as = .nil := by cases h; rfl
theorem trE_ok : ∀ (n : Nat) (C : TC) (X : Cx) (E : L2.St → XW), Good EX cf C k X E → ∀ (e : Expr) (ir : IE), trE n C e = some ir → SE X E e (evE cf ir) ∧ (nite e = true → ST X E e (evE cf ir))
  | 0, _, _, _, _, _, _, h => by cases h
  | n + 1, C, X, E, G, e, ir, h => by
    have ih := trE_ok n C X E G
    have ih1 : ∀ e ir, trE n C e = some ir → SE X E e (evE cf ir) := fun e ir h => (ih e ir h).1
    unfold trE at h
    split at h
    · obtain ⟨d, hd, rfl⟩ := map_some h
      exact st_of (con_ok hd) rfl
    · exact st_of (var_ok G h) rfl
    · obtain ⟨o, ho, h⟩ := bind_some h
      obtain ⟨x, hx, h⟩ := bind_some h
      obtain ⟨y, hy, rfl⟩ := map_some h
      obtain ⟨r, h1, h2⟩ := op_ok G ho
      exact st_of (se_op h1 h2 (ih1 _ _ hx) (ih1 _ _ hy)) rfl
    · obtain ⟨x, hx, rfl⟩ := map_some h
      exact st_of (se_neg (ih1 _ _ hx)) rfl
    · split at h
      · rename_i hn
        obtain ⟨x, hx, rfl⟩ := map_some h
        obtain ⟨h1, h2⟩ := ih _ _ hx
        exact ⟨se_not h1, fun _ => st_not (h2 hn)⟩
      · cases h
    · split at h
      · rename_i hn
        obtain ⟨o, ho, h⟩ := bind_some h
        obtain ⟨x, hx, h⟩ := bind_some h
        obtain ⟨y, hy, rfl⟩ := map_some h
        obtain ⟨r, h1, h2⟩ := cmp_ok G ho
        exact ⟨se_cmp h1 h2 (mark_ok hn) (ih1 _ _ hx) (ih1 _ _ hy), fun _ => st_cmp h1 h2 (bl2_cmp _) (mark_ok hn) (ih1 _ _ hx) (ih1 _ _ hy)⟩
      · cases h
    · split at h
      · rename_i hn
        obtain ⟨o, ho, h⟩ := bind_some h
        obtain ⟨q, hq, h⟩ := bind_some h
        obtain ⟨x, hx, h⟩ := bind_some h
        obtain ⟨y, hy, h⟩ := bind_some h
        obtain ⟨z, hz, rfl⟩ := map_some h
        obtain ⟨r, h1, h2⟩ := cmp_ok G ho
        obtain ⟨r', h3, h4⟩ := cmp_ok G hq
        exact ⟨se_chain h1 h3 h2 h4 (mark_ok hn) (ih1 _ _ hx) (ih1 _ _ hy) (ih1 _ _ hz), fun _ => st_chain h1 h3 h2 h4 (mark_ok hn) (ih1 _ _ hx) (ih1 _ _ hy) (ih1 _ _ hz)⟩
      · cases h
    · obtain ⟨h1, h2⟩ := trB_and ih _ _ h
      exact ⟨h1, fun _ => h2.pt⟩
    · obtain ⟨h1, h2⟩ := trB_or ih _ _ h
      exact ⟨h1, fun _ => h2.pt⟩
    · split at h
      · rename_i hn
        obtain ⟨x, hx, h⟩ := bind_some h
        obtain ⟨y, hy, h⟩ := bind_some h
        obtain ⟨z, hz, rfl⟩ := map_some h
        exact ⟨se_ite ((ih _ _ hx).2 hn) (ih1 _ _ hy) (ih1 _ _ hz), fun z => by cases z⟩
      · cases h
    · obtain ⟨as, ha, rfl⟩ := map_some h
      exact st_of (se_tup (trL_ok ih1 _ _ ha).1) rfl
    · obtain ⟨as, ha, rfl⟩ := map_some h
      exact st_of (se_lst (trL_ok ih1 _ _ ha).1) rfl
    · cases h
      exact st_of se_dct0 rfl
    · obtain ⟨u, hu, h⟩ := bind_some h
      obtain ⟨v, hv, rfl⟩ := map_some h
      exact st_of (dct_ok (ih1 _ _ hu) (ih1 _ _ hv)) rfl
    · obtain ⟨x, hx, h⟩ := bind_some h
      obtain ⟨l, hl, h⟩ := bind_some h
      obtain ⟨u, hu, rfl⟩ := map_some h
      exact st_of (se_sl (ih1 _ _ hx) (trP_ok ih1 hl) (trP_ok ih1 hu)) rfl
    · obtain ⟨x, hx, h⟩ := bind_some h
      obtain ⟨l, hl, rfl⟩ := map_some h
      exact st_of (se_back (ih1 _ _ hx) (trP_ok ih1 hl)) rfl
    · split at h
      · rename_i hp
        obtain ⟨x, hx, h⟩ := bind_some h
        obtain ⟨y, hy, rfl⟩ := map_some h
        have u := G.units
        exact st_of (se_ix (by omega) (ih1 _ _ hx) (ih1 _ _ hy) (plain_ix hp)) rfl
      · cases h
    · exact st_of (call_ok G (fun E' G' e ir q => (trE_ok n C X E' G' e ir q).1) h) rfl
    · split at h
      · rename_i hc
        rw [Bool.and_eq_true, Bool.and_eq_true, decide_eq_true_eq] at hc
        obtain ⟨m, hm, h⟩ := bind_some h
        obtain ⟨x, hx, h⟩ := bind_some h
        obtain ⟨as, ha, rfl⟩ := map_some h
        exact st_of (mth_ok G hm (ih1 _ _ hx) (trL_ok ih1 _ _ ha).1 (trL_ok ih1 _ _ ha).2 hc.2 hc.1.1 hc.1.2 (fun z => by subst z; exact trL_nil ha)) rfl
      · cases h
    · exact st_of (trComp_ok G (fun C X E G => trE_ok n C X E G) h).1 rfl
    · cases h
end
end PyI

/-! IW_: statements. -/
namespace PyI
open PySem PySem.Spec PyProof.Rows L2

theorem blockKind_fn {env : PySem.Env} (h : env.scope.kind = .function) : env.blockKind = .function := by
  unfold Env.blockKind
  rw [h]; rfl
theorem sw_tup {sc : Scope} {env : PySem.Env} (hs : env.scope = sc) (hk : sc.kind = .function) {ts vs : List Expr} {k k2 : Nat} {p p2 : Pos} {r : Option (List Str)} (h : swOf sc ts vs = some r) :
    swappedStores [.Tuple ts k p] (.Tuple vs k2 p2) env = pure r := by
  have hb : (env.blockKind != .function) = false := by rw [blockKind_fn (by rw [hs]; exact hk)]; rfl
  subst hs
  unfold swOf at h
  unfold swappedStores
  simp only [hb, Bool.or_false]
  split at h
  · rename_i c
    cases h
    rw [if_pos c]
  rename_i c
  rw [if_neg c]
  split at h
  · rename_i c2
    cases h
    exact if_pos c2
  rename_i c2
  refine (if_neg c2).trans ?_
  dsimp only at h
  split at h
  · rename_i c3
    cases h
    exact if_pos c3
  rename_i c3
  refine (if_neg c3).trans ?_
  split at h
  · rename_i c4
    cases h
    exact if_pos c4
  rename_i c4
  refine (if_neg c4).trans ?_
  split at h
  · cases h
  rename_i c5
  cases h
  exact if_neg c5
theorem local_ok {EX : XK → XW} {cf : Nat → List D → Sto → Res D} {C : TC} {k : Nat} {X : Cx} {E : L2.St → XW} (G : Good EX cf C k X E) {x : Str} (h : localB C x = true) : X.env.scope.names.lookup x = some .local := by
  unfold localB at h
  rw [G.sc]
  split at h <;> first | assumption | cases h
theorem swaps_name {e : Expr} {y : Str} {p : Pos} {l : Nat} (env : PySem.Env) : ∃ b, swapsWith e (some (.Name y p)) l env = pure b ∧ (b = true → ∃ elt gs scope pos, (e = .ListComp elt gs scope pos ∨ e = .SetComp elt gs scope pos ∨ (∃ v, e = .DictComp elt v gs scope pos)) ∧ env.kindOf y = some .local) := by
  cases e with
  | ListComp elt gs scope pos =>
    refine ⟨_, rfl, fun h => ⟨elt, gs, scope, pos, .inl rfl, ?_⟩⟩
    simp only [Bool.and_eq_true, beq_iff_eq] at h
    exact h.1.1.2
  | SetComp elt gs scope pos =>
    refine ⟨_, rfl, fun h => ⟨elt, gs, scope, pos, .inr (.inl rfl), ?_⟩⟩
    simp only [Bool.and_eq_true, beq_iff_eq] at h
    exact h.1.1.2
  | DictComp elt v gs scope pos =>
    refine ⟨_, rfl, fun h => ⟨elt, gs, scope, pos, .inr (.inr ⟨v, rfl⟩), ?_⟩⟩
    simp only [Bool.and_eq_true, beq_iff_eq] at h
    exact h.1.1.2
  | _ => exact ⟨false, rfl, fun h => by cases h⟩
section
variable {EX : XK → XW} {cf : Nat → List D → Sto → Res D} {C : TC} {k : Nat} {X : Cx} {E : L2.St → XW}
/-- no comprehension stands as a statement -/
theorem swaps_none {e : Expr} {l : Nat} (env : PySem.Env) (h : (match e with | .ListComp _ _ _ _ => false | .SetComp _ _ _ _ => false | .DictComp _ _ _ _ _ => false | _ => true) = true) : swapsWith e none l env = pure false := by
  cases e <;> first | (cases h; done) | rfl
theorem assign1 (t : Expr) (env : PySem.Env) (h : nstar t = true) : (assignEach [t] env).map (·.2) = [assign t env] := by
  cases t <;> first | (cases h; done) | rfl
theorem tgStar {n : Nat} {e : Expr} {t : Tg} (h : trTg C n e = some t) : nstar e = true := by
  cases n with
  | zero => cases h
  | succ n => cases e <;> first | rfl | (unfold trTg at h; cases h)
theorem slot_inj {x y : Str} {i j : Nat} (hi : C.N[i]? = some x) (hj : C.N[j]? = some y) (h : x ≠ y) : i ≠ j := fun e => by
  subst e
  rw [hi] at hj
  exact h (Option.some.inj hj)
/-- an assignment to a name or to names -/
theorem asg_ok (G : Good EX cf C k X E) {n : Nat} {tg e : Expr} {t : Tg} {z : IE} {pos : Pos} (hsw : swGood C tg e = true) (ht : trTg C 4 tg = some t) (he : trE n C e = some z) : SS X E (.Assign [tg] e pos) (exS cf (.asg (.tg t) z)) := by
  have pg := trTg_ok G 4 tg t ht
  have se := (trE_ok n C X E G e z he).1
  have hk : X.env.scope.kind = .function := by rw [G.sc]; exact G.kind
  cases tg with
  | Name y py =>
    obtain ⟨b, hb, hl⟩ := swaps_name (e := e) (y := y) (p := py) (l := pos.line) X.env
    cases b with
    | false => exact ss_asg se pg hb rfl (assign1 _ _ rfl)
    | true =>
      obtain ⟨elt, gs, scope, p, hc, hloc⟩ := hl rfl
      rcases hc with rfl | rfl | ⟨v, rfl⟩
      · cases n with
        | zero => cases he
        | succ n =>
          unfold trE at he
          split at he <;> first | (cases he; done) | skip
          all_goals first | (rename_i q; cases q; done) | skip
          rename_i elt' tg' it' ifs' scope' p' q
          cases q
          change (if locB C y then (slotOf C y).map .name else none) = some t at ht
          split at ht
          · obtain ⟨i, hi, rfl⟩ := map_some ht
            exact (trComp_ok G (fun C X E G => trE_ok n C X E G) he).2 i y py pos (G.slot hi) hloc hb
          · cases ht
      · cases n <;> cases he
      · cases n <;> cases he
  | Tuple ts kk p =>
    have s1 : swapsWithSole [.Tuple ts kk p] e pos.line X.env = pure false := by cases e <;> rfl
    cases e with
    | Tuple vs k2 p2 =>
      unfold swGood at hsw
      split at hsw <;> first | (cases hsw; done) | skip
      · rename_i ts' k' p' vs' k2' p2' q1 q2
        cases q1; cases q2
        split at hsw
        · cases hsw
        · rename_i hr
          exact ss_asg se pg s1 (sw_tup G.sc G.kind hr) (assign1 _ _ rfl)
        · rename_i names hr
          have w := sw_tup (env := X.env) G.sc G.kind (k := kk) (k2 := k2) (p := p) (p2 := p2) hr
          cases n with
          | zero => cases he
          | succ n =>
            change (trL (trE n C) vs).map .tup = some z at he
            obtain ⟨as, ha, rfl⟩ := map_some he
            have sa := (trL_ok (fun e ir q => (trE_ok n C X E G e ir q).1) _ _ ha).1
            unfold parB at hsw
            split at hsw
            · rename_i x px y py a b
              simp only [Bool.and_eq_true, decide_eq_true_eq] at hsw
              obtain ⟨⟨⟨rfl, hx⟩, hy⟩, hne⟩ := hsw
              change ((trTg C 3 (.Name x px)).bind fun x => (trTg C 3 (.Name y py)).map fun y => .two x y) = some t at ht
              obtain ⟨t1, h1, ht⟩ := bind_some ht
              obtain ⟨t2, h2, rfl⟩ := map_some ht
              change (if locB C x then (slotOf C x).map Tg.name else none) = some t1 at h1
              change (if locB C y then (slotOf C y).map Tg.name else none) = some t2 at h2
              split at h1 <;> first | (cases h1; done) | skip
              split at h2 <;> first | (cases h2; done) | skip
              obtain ⟨i, hi, rfl⟩ := map_some h1
              obtain ⟨j, hj, rfl⟩ := map_some h2
              exact ss_par G.calm G.ndX (G.slot hi) (G.slot hj) (slot_inj (slotOf_ok hi) (slotOf_ok hj) hne) (local_ok G hx) (local_ok G hy) sa w s1
            · rename_i x px y py u pu a b c
              simp only [Bool.and_eq_true, decide_eq_true_eq] at hsw
              obtain ⟨⟨⟨⟨⟨⟨rfl, hx⟩, hy⟩, hu⟩, n1⟩, n2⟩, n3⟩ := hsw
              change ((trTg C 3 (.Name x px)).bind fun x => (trTg C 3 (.Name y py)).bind fun y => (trTg C 3 (.Name u pu)).map fun z => .three x y z) = some t at ht
              obtain ⟨t1, h1, ht⟩ := bind_some ht
              obtain ⟨t2, h2, ht⟩ := bind_some ht
              obtain ⟨t3, h3, rfl⟩ := map_some ht
              change (if locB C x then (slotOf C x).map Tg.name else none) = some t1 at h1
              change (if locB C y then (slotOf C y).map Tg.name else none) = some t2 at h2
              change (if locB C u then (slotOf C u).map Tg.name else none) = some t3 at h3
              split at h1 <;> first | (cases h1; done) | skip
              split at h2 <;> first | (cases h2; done) | skip
              split at h3 <;> first | (cases h3; done) | skip
              obtain ⟨i, hi, rfl⟩ := map_some h1
              obtain ⟨j, hj, rfl⟩ := map_some h2
              obtain ⟨l, hl, rfl⟩ := map_some h3
              exact ss_par3 G.calm G.ndX (G.slot hi) (G.slot hj) (G.slot hl) (slot_inj (slotOf_ok hi) (slotOf_ok hj) n1) (slot_inj (slotOf_ok hi) (slotOf_ok hl) n2) (slot_inj (slotOf_ok hj) (slotOf_ok hl) n3) (local_ok G hx) (local_ok G hy) (local_ok G hu) sa w s1
            · cases hsw
      · exact ss_asg se pg s1 (by rename_i hno; exact absurd rfl (hno _ _ _ _ _ _ rfl)) (assign1 _ _ rfl)
    | _ => exact ss_asg se pg s1 rfl (assign1 _ _ rfl)
  | _ => cases ht
mutual
theorem trS_ok (G : Good EX cf C k X E) : ∀ (n : Nat) (s : Stmt) (z : IS), trS n C s = some z → SS X E s (exS cf z)
  | 0, _, _, h => by cases h
  | n + 1, s, z, h => by
    have ih : ∀ e ir, trE n C e = some ir → SE X E e (evE cf ir) ∧ (nite e = true → ST X E e (evE cf ir)) := trE_ok n C X E G
    have ih1 : ∀ e ir, trE n C e = some ir → SE X E e (evE cf ir) := fun e ir h => (ih e ir h).1
    unfold trS at h
    split at h
    · cases h; exact ss_doc
    · cases h
    · cases h
    · cases h
    · rename_i e p h1 h2 h3 h4
      obtain ⟨x, hx, rfl⟩ := map_some h
      refine ss_expr (ih1 _ _ hx) (swaps_none _ ?_)
      cases e <;> first | rfl | exact absurd rfl (h2 _ _ _ _) | exact absurd rfl (h3 _ _ _ _) | exact absurd rfl (h4 _ _ _ _ _)
    · obtain ⟨x, hx, rfl⟩ := map_some h
      exact ss_ret (ih1 _ _ hx)
    · cases h; exact ss_retN
    · cases h; exact ss_pass
    · cases h; exact ss_brk
    · cases h; exact ss_cont
    · split at h
      · rename_i hn
        obtain ⟨x, hx, h⟩ := bind_some h
        obtain ⟨y, hy, h⟩ := bind_some h
        obtain ⟨w, hw, rfl⟩ := map_some h
        exact ss_if ((ih _ _ hx).2 hn) (trSs_ok G n _ _ hy) (trSs_ok G n _ _ hw)
      · cases h
    · split at h
      · rename_i hn
        obtain ⟨x, hx, h⟩ := bind_some h
        obtain ⟨w, hw, rfl⟩ := map_some h
        exact ss_while G.po ((ih _ _ hx).2 hn) (trSs_ok G n _ _ hw)
      · cases h
    · rename_i tg it b p
      obtain ⟨t, ht, h⟩ := bind_some h
      obtain ⟨w, hw, h⟩ := bind_some h
      split at h
      · rename_i x hi
        split at h
        · rename_i hv
          rw [Bool.and_eq_true, Bool.and_eq_true] at hv
          obtain ⟨v, hs, rfl⟩ := map_some h
          unfold itemsVar at hi
          split at hi
          · rename_i x' p m apos cpos
            split at hi
            · rename_i hm
              rw [Bool.and_eq_true] at hm
              cases hi
              have hx := eq_of_beq hm.1
              subst hx
              cases tg <;> first | (cases hv.2; done) | skip
              exact ss_forD G.po G.calm (G.slot hs) (G.vis hv.1.1) (okn hv.1.2).1 (okn hv.1.2).2 hm.2 (trTg_ok G 4 _ t ht) (trSs_ok G n _ _ hw)
            · cases hi
          · cases hi
        · cases h
      · obtain ⟨i, hi, rfl⟩ := map_some h
        obtain ⟨h1, h2⟩ := trI_ok G ih1 hi
        exact ss_for G.po G.calm h1 (trTg_ok G 4 _ t ht) (trSs_ok G n _ _ hw) (fold_ok _ h2)
    · rename_i o i p1 e p2
      split at h
      · rename_i hp
        · have hh : ∀ v, assign (.Subscript o i p1) X.env v = (do
              let ov ← holding [v] (eval o X.env)
              let iv ← holding [v, ov] (eval i X.env)
              standAt p1
              holding [v, ov, iv] (setItem ov iv v)
              release [v, ov, iv] []) := by
            intro v
            cases i <;> first | (cases hp; done) | rfl
          have h1 : swapsWithSole [.Subscript o i p1] e p2.line X.env = pure false := by cases e <;> rfl
          have h2 : swappedStores [.Subscript o i p1] e X.env = pure none := by cases e <;> rfl
          obtain ⟨x, hx, h⟩ := bind_some h
          obtain ⟨y, hy, h⟩ := bind_some h
          obtain ⟨w, hw, rfl⟩ := map_some h
          have u := G.units
          exact ss_sub (by omega) (ih1 _ _ hw) (ih1 _ _ hx) (ih1 _ _ hy) hh h1 h2 rfl
      · cases h
    · split at h
      · rename_i hsw
        obtain ⟨t, ht, h⟩ := bind_some h
        obtain ⟨w, hw, rfl⟩ := map_some h
        exact asg_ok G hsw ht hw
      · cases h
    · cases h; exact ss_never
    · cases h
theorem trSs_ok (G : Good EX cf C k X E) : ∀ (n : Nat) (s : List Stmt) (z : ISs), trSs n C s = some z → SSs X E s (exSs cf z)
  | 0, _, _, h => by cases h
  | n + 1, [], z, h => by cases h; exact sss_nil
  | n + 1, s :: r, z, h => by
    obtain ⟨x, hx, h⟩ := bind_some h
    obtain ⟨y, hy, rfl⟩ := map_some h
    exact sss_cons (trS_ok G n _ _ hx) (trSs_ok G n _ _ hy)
end
end
end PyI

/-! IX_: the table of a text's defs; a law's end. -/
namespace PyI
open PySem PySem.Spec PyProof.Rows L2

/-- one def of the text: where it stands, what it was read as -/
structure Ent (K : PySem.W.Frag) (mg : Str → Option Value) (fns : List (Str × Nat × List Str)) (globs : List (Str × D)) (tab : List Fd) (x : Str) (i : Nat) (ps : List Str) : Prop where
  ex : ∃ (f : Addr) (fd : FuncData) (st : Stmt) (N : List Str) (z : ISs), Fun K x x st f fd ∧ mg x = some (.ref f) ∧ KB K fd ps ∧ FnScope N ps (defScope st) ∧ tab[i]? = some ⟨ps.length, N.length, z⟩ ∧
    trSs 200 ⟨N, defScope st, none, fns, globs⟩ (defBody st) = some z
structure Txt0 (K : PySem.W.Frag) (mg : Str → Option Value) (fns : List (Str × Nat × List Str)) (globs : List (Str × D)) (tab : List Fd) : Prop where
  bl : ∀ x ∈ bltNames, mg x = none
  gl : ∀ x d, globs.lookup x = some d → ∃ v u, mg x = some u ∧ RelV v u ∧ Scal d v
  fs : ∀ x i ps, fns.lookup x = some (i, ps) → Ent K mg fns globs tab x i ps
theorem Room.down {k : Nat} {A : Around} (r : Room (k + 1) A) : Room k A := r.mono (Nat.le_succ k)
section
variable {P : Program} {w : World} {K : PySem.W.Frag} {mg : Str → Option Value} {base : Heap} {EX : XK → XW} {fns : List (Str × Nat × List Str)} {globs : List (Str × D)} {tab : List Fd}
theorem arity_callF (n i np : Nat) (h : ∀ f, tab[i]? = some f → f.np = np) : Arity np (callF tab n i) := fun ds st hl => by
  cases n with
  | zero => rfl
  | succ n =>
    unfold callF
    cases hf : tab[i]? with
    | none => rfl
    | some f =>
      dsimp only
      rw [if_neg (by rw [h f hf]; exact hl)]
theorem envR_start {ι : List Addr} {H : Hp} {ds : List D} {vs : List V} {N : List Str} (r : RelDs K ι H ds vs) : EnvR K ι H (ds.map some ++ List.replicate (N.length - ds.length) none) (L2.start N vs) := by
  unfold L2.start
  refine ⟨by rw [List.length_append, List.length_append, List.length_map, List.length_map, List.length_replicate, List.length_replicate, r.length], fun i d h => ?_⟩
  by_cases hi : i < ds.length
  · rw [List.getElem?_append_left (by rw [List.length_map]; exact hi), List.getElem?_map] at h
    rw [List.getElem?_append_left (by rw [List.length_map, ← r.length]; exact hi), List.getElem?_map]
    obtain ⟨x, hx, e⟩ := Option.map_eq_some_iff.mp h
    cases e
    obtain ⟨v, hv, q⟩ := r.get hx
    exact ⟨v, by rw [hv]; rfl, q⟩
  · rw [List.getElem?_append_right (by rw [List.length_map]; omega)] at h
    obtain ⟨_, e⟩ := List.getElem?_eq_some_iff.mp h
    rw [List.getElem_replicate] at e
    cases e
/-- every def keeps what the evaluator's call tells of it -/
theorem tab_ok (T : Txt0 K mg fns globs tab) : ∀ (n : Nat) (x : Str) (i : Nat) (ps : List Str), fns.lookup x = some (i, ps) →
    ∃ f fd, mg x = some (.ref f) ∧ PySem.W.keepIn K (.ref f) = true ∧ KB K fd ps ∧ (∀ base : Heap, FnG P w K mg base (L2.CX P w) n f fd ps (spF K EX ps.length (callF tab n i))) ∧ Arity ps.length (callF tab n i)
  | n, x, i, ps, hx => by
    obtain ⟨f, fd, st, N, z, F, hm, hb, S, ht, htr⟩ := (T.fs x i ps hx).ex
    refine ⟨f, fd, hm, F.kp, hb, fun base => ?_, arity_callF n i _ fun g hg => by rw [ht] at hg; cases hg; rfl⟩
    cases n with
    | zero => exact ⟨fun vs H Q E h => h.1, fun A outer s H args us vs Q E hr hgd e0 hb r h => by
        obtain ⟨_, ι, ds, st, S, r, go⟩ := h
        exact (show False from go).elim⟩
    | succ n =>
      obtain ⟨oc, od, kV, doc, pm, an, cdv, ct, osl, rfl, lk, hcd⟩ := F.ex
      refine fnG_of lk hcd S (fun vs H Q E h => h.1) fun A outer s H vs Q Ew hr hgd h => ?_
      obtain ⟨hl, ι, ds, st', SS, rr, go⟩ := h
      let X := cxOf (L2.CX P w) P w K mg base N x (defScope st) f cdv A outer s H Ew
      have G : Good EX (callF tab n) ⟨N, defScope st, none, fns, globs⟩ n X (fun _ => EX Ew) :=
        { hN := rfl
          nd := S.nd
          sc := rfl
          kind := S.kind
          calm := rfl
          room := hr
          gd := hgd
          po := passes_of rfl
          fn := fun _ _ => rfl
          bl := T.bl
          gl := T.gl
          fs := fun y j qs hy => let ⟨f, fd, a, b, c, d, e⟩ := tab_ok T n y j qs hy; ⟨f, fd, a, b, c, d base, e⟩
          tk := ⟨fun c d _ H => Ew c d H, takes_of rfl rfl rfl rfl, fun _ _ _ _ _ h => h⟩ }
      refine ⟨_, trSs_ok G 200 _ _ htr, ι, ds.map some ++ List.replicate (N.length - ds.length) none, st', envR_start rr, SS, ?_⟩
      unfold callF at go
      rw [ht] at go
      dsimp only at go
      rw [if_pos (by rw [rr.length]; exact hl)] at go
      generalize exSs (callF tab n) z (ds.map some ++ List.replicate (N.length - ds.length) none) st' = o at go ⊢
      cases o with
      | ret d s1 => exact fun ι' H' v x S' r' => go ι' H' v x S' r'
      | nx e s1 => exact fun ι' H' σ' x S' _ => go ι' H' .non x S' .non
      | exc m e s1 => exact fun ι' H' σ' x S' _ => go ι' H' x S'
      | brk e s1 => exact (show False from go).elim
      | cont e s1 => exact (show False from go).elim
      | stuck => exact go
end
/-! ### a law's end -/
/-- the law's own def, called with its script, says True -/
def Says (tab : List Fd) (k i m : Nat) : Prop := ∀ ns : List Int, ns.length ≤ m → ∃ st, callF tab k i [.rol (ns.map D.int)] [] = .ok (.bl true) st
theorem rel_ints {K : PySem.W.Frag} {ι : List Addr} {H : Hp} : ∀ ns : List Int, RelDs K ι H (ns.map D.int) (ns.map V.int)
  | [] => .nil
  | n :: r => .cons (.int n) (rel_ints r)
theorem says_sp {K : PySem.W.Frag} {EX : XK → XW} {tab : List Fd} {k i m : Nat} (h : Says tab k i m) (H : Hp) (a : Addr) (ns : List Int) (hl : ns.length ≤ m) (hO : Only H) (hS : SqL K H a (ns.map V.int)) :
    spF K EX 1 (callF tab k i) [.ref a] H (fun v _ => v = .bl true) fun _ _ _ => False := by
  obtain ⟨st, e⟩ := h ns hl
  refine ⟨rfl, [], [.rol (ns.map D.int)], [], ⟨rfl, List.nodup_nil, fun n c a h => by cases h⟩, .cons (.rol ?_ (rel_ints ns)) .nil, ?_⟩
  · rcases hS with (h | ⟨o, h⟩) | h
    · rcases hO a with z | ⟨o, xs, z⟩
      · rw [z] at h; cases h
      · rw [z] at h; cases h
    · exact .inl ⟨o, h⟩
    · exact .inr (.inr h)
  · rw [e]
    intro ι' H' b x S r
    cases r
    rfl
theorem mem_look {α : Type} : ∀ {l : List (Str × α)} {x : Str} {v : α}, l.lookup x = some v → (x, v) ∈ l
  | [], _, _, h => by cases h
  | (k, u) :: r, x, v, h => by
    rw [List.lookup_cons] at h
    cases hb : x == k with
    | true =>
      rw [hb] at h
      cases h
      rw [eq_of_beq hb]
      exact List.mem_cons_self
    | false =>
      rw [hb] at h
      exact List.mem_cons_of_mem _ (mem_look h)
theorem globs_all {mg : Str → Option Value} {globs : List (Str × D)} (h : ∀ y ∈ globs, ∃ v u, mg y.1 = some u ∧ RelV v u ∧ Scal y.2 v) : ∀ x d, globs.lookup x = some d → ∃ v u, mg x = some u ∧ RelV v u ∧ Scal d v :=
  fun x d q => h (x, d) (mem_look q)
/-- one def: what is to be shown of it -/
structure EntP (K : PySem.W.Frag) (mg : Str → Option Value) (fns : List (Str × Nat × List Str)) (globs : List (Str × D)) (tab : List Fd) (y : Str × Nat × List Str) (f : Addr) (fd : FuncData) (st : Stmt) (N : List Str) (z : ISs) : Prop where
  fn : Fun K y.1 y.1 st f fd
  mgf : mg y.1 = some (.ref f)
  kb : KB K fd y.2.2
  sc : FnScope N y.2.2 (defScope st)
  ta : tab[y.2.1]? = some ⟨y.2.2.length, N.length, z⟩
  tr : trSs 200 ⟨N, defScope st, none, fns, globs⟩ (defBody st) = some z
theorem ents_all {K : PySem.W.Frag} {mg : Str → Option Value} {fns : List (Str × Nat × List Str)} {globs : List (Str × D)} {tab : List Fd} (h : ∀ y ∈ fns, ∃ f fd st N z, EntP K mg fns globs tab y f fd st N z) : ∀ x i ps, fns.lookup x = some (i, ps) → Ent K mg fns globs tab x i ps :=
  fun x i ps q => by
    obtain ⟨f, fd, st, N, z, e⟩ := h (x, i, ps) (mem_look q)
    exact ⟨f, fd, st, N, z, e.fn, e.mgf, e.kb, e.sc, e.ta, e.tr⟩
end PyI

/-! JA_: what an evaluator's run ends with, rule by rule (to prove what defs compute). -/
namespace PyI

/-- a mark that keeps simp out of what hangs on it -/
inductive Mrk {β : Sort _} (q : β) : Type
  | mk
/-- the run ends well, with this -/
@[irreducible] def Ok {α : Type} (r : Res α) (Q : α → Sto → Prop) (_t : Mrk Q := .mk) : Prop := match r with
  | .ok a st => Q a st
  | _ => False
/-- a choice by a truth -/
@[irreducible] def Cho (o : Option Bool) (A B : Prop) (_t : Mrk A := .mk) (_u : Mrk B := .mk) : Prop := match o with
  | some true => A
  | some false => B
  | none => False
@[irreducible] def Som {α : Type} (o : Option α) (P : α → Prop) (_t : Mrk P := .mk) : Prop := match o with
  | some a => P a
  | none => False
/-- a statement's run: goes on, returns, breaks, continues -/
@[irreducible] def So (r : SR) (N : Env → Sto → Prop) (R : D → Sto → Prop) (B C : Env → Sto → Prop) (_t : Mrk N := .mk) (_u : Mrk R := .mk) (_v : Mrk B := .mk) (_w : Mrk C := .mk) : Prop := match r with
  | .nx e st => N e st
  | .ret d st => R d st
  | .brk e st => B e st
  | .cont e st => C e st
  | _ => False
theorem Ok.imp {α : Type} {r : Res α} {Q Q' : α → Sto → Prop} (h : Ok r Q) (i : ∀ a st, Q a st → Q' a st) : Ok r Q' := by
  cases r with
  | ok a st => with_unfolding_all exact i _ _ h
  | exc n st => with_unfolding_all exact h
  | stuck => with_unfolding_all exact h
theorem So.imp {r : SR} {N N' : Env → Sto → Prop} {R R' : D → Sto → Prop} {B B' C C' : Env → Sto → Prop} (h : So r N R B C) (i : ∀ a st, N a st → N' a st) (j : ∀ a st, R a st → R' a st) (k : ∀ a st, B a st → B' a st) (l : ∀ a st, C a st → C' a st) : So r N' R' B' C' := by
  cases r with
  | nx a st => with_unfolding_all exact i _ _ h
  | ret a st => with_unfolding_all exact j _ _ h
  | brk a st => with_unfolding_all exact k _ _ h
  | cont a st => with_unfolding_all exact l _ _ h
  | exc n e st => with_unfolding_all exact h
  | stuck => with_unfolding_all exact h
theorem Ok_ext {α : Type} {r : Res α} {Q Q' : α → Sto → Prop} (h : ∀ a st, Q a st = Q' a st) : Ok r Q = Ok r Q' := by
  have e : Q = Q' := by funext a st; exact h a st
  subst e; rfl
theorem Ok.get {α : Type} {r : Res α} {Q : α → Sto → Prop} (h : Ok r Q) : ∃ a st, r = .ok a st ∧ Q a st := by
  cases r with
  | ok a st => with_unfolding_all exact ⟨a, st, rfl, h⟩
  | exc n st => with_unfolding_all exact h.elim
  | stuck => with_unfolding_all exact h.elim

section
variable {α β : Type} {st : Sto} {env : Env} {Q : α → Sto → Prop}
@[simp] theorem Ok_ok {a : α} : Ok (.ok a st) Q = Q a st := by with_unfolding_all rfl
@[simp] theorem Ok_stuck : Ok (.stuck : Res α) Q = False := by with_unfolding_all rfl
@[simp] theorem Ok_exc {n : Nat} : Ok (.exc n st : Res α) Q = False := by with_unfolding_all rfl
@[simp] theorem Ok_bind {r : Res β} {f : β → Sto → Res α} : Ok (r.bind f) Q = Ok r (fun a st => Ok (f a st) Q) := by cases r <;> with_unfolding_all rfl
@[simp] theorem Ok_guard {c : Bool} {r : Res α} : Ok (guard' c r) Q = (c = true ∧ Ok r Q) := by
  cases c with
  | true => simp [guard']
  | false => simp [guard']
@[simp] theorem Ok_noX {r : Res α} : Ok (noX r) Q = Ok r Q := by cases r <;> with_unfolding_all rfl
@[simp] theorem Ok_one {d : Option D} {P : D → Sto → Prop} : Ok (one d st) P = Som d (fun d => P d st) := by cases d <;> with_unfolding_all rfl
@[simp] theorem Ok_newL {xs : List D} {P : D → Sto → Prop} : Ok (newL xs st) P = P (.ref st.length) (st ++ [.lst xs]) := by with_unfolding_all rfl
@[simp] theorem Cho_t {A B : Prop} : Cho (some true) A B = A := by with_unfolding_all rfl
@[simp] theorem Cho_f {A B : Prop} : Cho (some false) A B = B := by with_unfolding_all rfl
@[simp] theorem Cho_n {A B : Prop} : Cho none A B = False := by with_unfolding_all rfl
@[simp] theorem Cho_d {c : Prop} [Decidable c] {A B : Prop} : Cho (some (decide c)) A B = ((c → A) ∧ (¬c → B)) := by
  by_cases h : c <;> simp [Cho, h]
@[simp] theorem Cho_nd {c : Prop} [Decidable c] {A B : Prop} : Cho (some (!decide c)) A B = ((c → B) ∧ (¬c → A)) := by
  by_cases h : c <;> simp [Cho, h]
theorem Cho_s {c : Bool} {A B : Prop} : Cho (some c) A B = ((c = true → A) ∧ (c = false → B)) := by
  cases c <;> simp [Cho]
@[simp] theorem Som_some {a : α} {P : α → Prop} : Som (some a) P = P a := by with_unfolding_all rfl
@[simp] theorem Som_none {P : α → Prop} : Som (none : Option α) P = False := by with_unfolding_all rfl
@[simp] theorem Som_map {o : Option β} {f : β → α} {P : α → Prop} : Som (o.map f) P = Som o (fun a => P (f a)) := by cases o <;> with_unfolding_all rfl
@[simp] theorem Som_bind {o : Option β} {f : β → Option α} {P : α → Prop} : Som (o.bind f) P = Som o (fun a => Som (f a) P) := by cases o <;> with_unfolding_all rfl
theorem Som_eq {o : Option α} {a : α} {P : α → Prop} (h : o = some a) : Som o P = P a := by rw [h]; with_unfolding_all rfl
end

/-- not too many -/
@[irreducible] def few (l : List D) : Prop := l.length ≤ 16777216
theorem few_def (l : List D) : (l.length ≤ 16777216) = few l := by unfold few; rfl
theorem few_of {l : List D} (h : l.length ≤ 16777216) : few l := by unfold few; exact h
@[simp] theorem few_1 : few [] = True := by
  rw [← few_def, eq_iff_iff, iff_true]; exact Nat.zero_le _
section
variable (a b c d e f g h : D)
theorem few_k {l : List D} (k : Nat) (hk : k ≤ 8) (h : l.length = k) : few l = True := by
  rw [eq_iff_iff, iff_true]
  exact few_of (by omega)
@[simp] theorem few_2 : few [a] = True := few_k 1 (by decide) rfl
@[simp] theorem few_3 : few [a, b] = True := few_k 2 (by decide) rfl
@[simp] theorem few_4 : few [a, b, c] = True := few_k 3 (by decide) rfl
@[simp] theorem few_5 : few [a, b, c, d] = True := few_k 4 (by decide) rfl
@[simp] theorem few_6 : few [a, b, c, d, e] = True := few_k 5 (by decide) rfl
@[simp] theorem few_7 : few [a, b, c, d, e, f] = True := few_k 6 (by decide) rfl
@[simp] theorem few_8 : few [a, b, c, d, e, f, g] = True := few_k 7 (by decide) rfl
@[simp] theorem few_9 : few [a, b, c, d, e, f, g, h] = True := few_k 8 (by decide) rfl
end
section
variable {cf : Nat → List D → Sto → Res D} {env : Env} {st : Sto} {Q : D → Sto → Prop}
theorem Ok_match {o : Option Bool} {P : D → Sto → Prop} : Ok (match o with | some c => (.ok (.bl c) st : Res D) | none => .stuck) P = Som o (fun c => P (.bl c) st) := by cases o <;> with_unfolding_all rfl
@[simp] theorem w_nop : Ok (evE cf .nop env st) Q = Q .non st := by simp [evE]
@[simp] theorem w_con {d : D} : Ok (evE cf (.con d) env st) Q = Q d st := by simp [evE]
@[simp] theorem w_var {i : Nat} : Ok (evE cf (.var i) env st) Q = Som (env[i]?.join) (fun d => Q d st) := by simp [evE]
@[simp] theorem w_bin {o : Op2} {a b : IE} : Ok (evE cf (.bin o a b) env st) Q = Ok (evE cf a env st) (fun x st => Ok (evE cf b env st) (fun y st => Ok (bin2 o x y st) Q)) := by
  simp only [evE, Ok_bind]
  exact Ok_ext fun x st => by rw [Ok_bind]
def negD : D → Option D
  | .int i => some (.int (-i))
  | _ => none
@[simp] theorem negD_int {i : Int} : negD (.int i) = some (.int (-i)) := by with_unfolding_all rfl
@[simp] theorem w_neg {a : IE} : Ok (evE cf (.neg a) env st) Q = Ok (evE cf a env st) (fun x st => Som (negD x) (fun d => Q d st)) := by
  simp only [evE, Ok_bind]
  exact Ok_ext fun x st => by cases x <;> with_unfolding_all rfl
theorem Ok_cmp2 {o : CmpK} {x y : D} : Ok (cmp2 o x y st) Q = Som (cmpB o x y st) (fun c => Q (.bl c) st) := by
  unfold cmp2
  cases cmpB o x y st <;> with_unfolding_all rfl
@[simp] theorem w_cmp {o : CmpK} {a b : IE} : Ok (evE cf (.cmp o a b) env st) Q = Ok (evE cf a env st) (fun x st => Ok (evE cf b env st) (fun y st => Som (cmpB o x y st) (fun c => Q (.bl c) st))) := by
  simp only [evE, Ok_bind]
  exact Ok_ext fun x st => by rw [Ok_bind]; exact Ok_ext fun y st => Ok_cmp2
theorem Ok_cho {α : Type} {o : Option Bool} {r s : Res α} {P : α → Sto → Prop} : Ok (match o with | some true => r | some false => s | none => .stuck) P = Cho o (Ok r P) (Ok s P) := by
  cases o with
  | none => with_unfolding_all rfl
  | some q => cases q <;> with_unfolding_all rfl
@[simp] theorem w_cmp3 {o p : CmpK} {a b c : IE} : Ok (evE cf (.cmp3 o p a b c) env st) Q = Ok (evE cf a env st) (fun x st => Ok (evE cf b env st) (fun y st => Cho (cmpB o x y st) (Ok (evE cf c env st) (fun z st => Som (cmpB p y z st) (fun c => Q (.bl c) st))) (Q (.bl false) st))) := by
  simp only [evE, Ok_bind]
  refine Ok_ext fun x st => ?_
  rw [Ok_bind]
  refine Ok_ext fun y st => ?_
  generalize cmpB o x y st = q
  cases q with
  | none => with_unfolding_all rfl
  | some q =>
    cases q with
    | false => with_unfolding_all rfl
    | true =>
      simp only [Ok_bind, Cho_t]
      exact Ok_ext fun z st => Ok_cmp2
@[simp] theorem w_and {a b : IE} : Ok (evE cf (.and a b) env st) Q = Ok (evE cf a env st) (fun x st => Cho (x.truth st) (Ok (evE cf b env st) Q) (Q x st)) := by
  simp only [evE, Ok_bind]
  exact Ok_ext fun x st => by
    generalize D.truth st x = q
    cases q with
    | none => with_unfolding_all rfl
    | some q => cases q <;> with_unfolding_all rfl
@[simp] theorem w_or {a b : IE} : Ok (evE cf (.or a b) env st) Q = Ok (evE cf a env st) (fun x st => Cho (x.truth st) (Q x st) (Ok (evE cf b env st) Q)) := by
  simp only [evE, Ok_bind]
  exact Ok_ext fun x st => by
    generalize D.truth st x = q
    cases q with
    | none => with_unfolding_all rfl
    | some q => cases q <;> with_unfolding_all rfl
@[simp] theorem w_not {a : IE} : Ok (evE cf (.not a) env st) Q = Ok (evE cf a env st) (fun x st => Som (x.truth st) (fun c => Q (.bl (!c)) st)) := by
  simp only [evE, Ok_bind]
  exact Ok_ext fun x st => by cases x.truth st <;> with_unfolding_all rfl
@[simp] theorem w_ite {c a b : IE} : Ok (evE cf (.ite c a b) env st) Q = Ok (evE cf c env st) (fun x st => Cho (x.truth st) (Ok (evE cf a env st) Q) (Ok (evE cf b env st) Q)) := by
  simp only [evE, Ok_bind]
  exact Ok_ext fun x st => by
    generalize D.truth st x = q
    cases q with
    | none => with_unfolding_all rfl
    | some q => cases q <;> with_unfolding_all rfl
@[simp] theorem w_tup {es : IEs} : Ok (evE cf (.tup es) env st) Q = Ok (evEs cf es env st) (fun xs st => few xs ∧ Q (.tup xs) st) := by
  simp only [evE, Ok_bind]
  exact Ok_ext fun x st => by simp only [Ok_guard, Ok_ok, decide_eq_true_eq, few_def]
@[simp] theorem w_lst {es : IEs} : Ok (evE cf (.lst es) env st) Q = Ok (evEs cf es env st) (fun xs st => few xs ∧ Q (.ref st.length) (st ++ [.lst xs])) := by
  simp only [evE, Ok_bind]
  exact Ok_ext fun x st => by simp only [Ok_guard, Ok_newL, decide_eq_true_eq, few_def]
/-- a dict display's entries -/
def dctC : List D → Option (List (Ky × D))
  | [] => some []
  | [.str a, x] => some [(.inr a, x)]
  | [.str a, x, .str b, y] => if a ≠ b then some [(.inr a, x), (.inr b, y)] else none
  | _ => none
@[simp] theorem dctC_0 : dctC [] = some [] := by with_unfolding_all rfl
@[simp] theorem dctC_1 {a : List Nat} {x : D} : dctC [.str a, x] = some [(.inr a, x)] := by with_unfolding_all rfl
theorem dctC_2 {a b : List Nat} {x y : D} : dctC [.str a, x, .str b, y] = if a ≠ b then some [(.inr a, x), (.inr b, y)] else none := by with_unfolding_all rfl
@[simp] theorem w_dct {es : IEs} : Ok (evE cf (.dct es) env st) Q = Ok (evEs cf es env st) (fun xs st => Som (dctC xs) (fun kvs => Q (.ref st.length) (st ++ [.dk kvs]))) := by
  simp only [evE, Ok_bind]
  refine Ok_ext fun xs st => ?_
  unfold dctC
  split
  · with_unfolding_all rfl
  · with_unfolding_all rfl
  · rename_i a x b y
    by_cases h : a = b <;> simp [h]
  · rename_i h1 h2 h3
    have e : dctC xs = none := by
      unfold dctC
      split
      · exact absurd rfl h1
      · exact absurd rfl (h2 _ _)
      · exact absurd rfl (h3 _ _ _ _)
      · rfl
    have e3 : Som (dctC xs) (fun kvs => Q (.ref st.length) (st ++ [.dk kvs])) = False := by rw [e, Som_none]
    unfold dctC at e3
    rw [Ok_stuck]
    first | exact e3.symm | rw [Som_none]
@[simp] theorem w_ix {a b : IE} : Ok (evE cf (.ix a b) env st) Q = Ok (evE cf a env st) (fun x st => Ok (evE cf b env st) (fun y st => Ok (index2 x y st) Q)) := by
  simp only [evE, Ok_bind]
  exact Ok_ext fun x st => by rw [Ok_bind]
@[simp] theorem w_sl {a : IE} {lo hi : IP} : Ok (evE cf (.sl a lo hi) env st) Q = Ok (evE cf a env st) (fun x st => Ok (evP cf lo env st) (fun l st => Ok (evP cf hi env st) (fun h st => Ok (slice1 l h x st) Q))) := by
  simp only [evE, Ok_bind]
  exact Ok_ext fun x st => by rw [Ok_bind]; exact Ok_ext fun y st => by rw [Ok_bind]
@[simp] theorem w_back {a : IE} {lo : IP} : Ok (evE cf (.back a lo) env st) Q = Ok (evE cf a env st) (fun x st => Ok (evP cf lo env st) (fun l st => Ok (back2 x l st) Q)) := by
  simp only [evE, Ok_bind]
  exact Ok_ext fun x st => by rw [Ok_bind]
@[simp] theorem w_call {f : Nat} {es : IEs} : Ok (evE cf (.call f es) env st) Q = Ok (evEs cf es env st) (fun xs st => Ok (cf f xs st) Q) := by simp only [evE, Ok_bind]
@[simp] theorem w_blt {f : Fn} {es : IEs} : Ok (evE cf (.blt f es) env st) Q = Ok (evEs cf es env st) (fun xs st => Ok (blt f xs st) Q) := by simp only [evE, Ok_bind]
@[simp] theorem w_mth {m : Mt} {o : IE} {es : IEs} : Ok (evE cf (.mth m o es) env st) Q = Ok (evE cf o env st) (fun x st => kdOf st x = some (mKd m) ∧ Ok (evEs cf es env st) (fun xs st => Ok (mth m x xs st) Q)) := by
  simp only [evE, Ok_bind]
  refine Ok_ext fun x st => ?_
  by_cases h : kdOf st x = some (mKd m)
  · rw [if_pos h]; simp only [h, true_and, Ok_bind]
  · rw [if_neg h]; simp only [h, false_and, Ok_stuck]
@[simp] theorem w_isi {a : IE} {t : Ty} : Ok (evE cf (.isi a t) env st) Q = Ok (evE cf a env st) (fun x st => Som (isTy t x st) (fun c => Q (.bl c) st)) := by
  simp only [evE, Ok_bind]
  exact Ok_ext fun x st => Ok_match
@[simp] theorem w_comp {elt : IE} {tg : Tg} {it : II} {cond : IP} {own : List Nat} : Ok (evE cf (.comp elt tg it cond own) env st) Q =
    Ok (evI cf it env st) (fun w st => Ok (compL w (turnL tg own env (evC cf cond) (evE cf elt) (ncOf cond)) w.xs [] st) (fun xs st => Q (.ref st.length) (st ++ [.lst xs]))) := by
  simp only [evE, Ok_bind]
  exact Ok_ext fun w st => by rw [Ok_bind]; exact Ok_ext fun xs st => Ok_newL
@[simp] theorem w_tupI {w : II} : Ok (evE cf (.tupI w) env st) Q = Ok (evI cf w env st) (fun w st => w.xs.length ≤ 16777216 ∧ Q (.tup w.xs) st) := by
  simp only [evE, Ok_bind]
  exact Ok_ext fun w st => by simp only [Ok_guard, Ok_ok, decide_eq_true_eq]
@[simp] theorem w_compD {elt : IE} {tg : Tg} {v : Nat} {cond : IP} {own : List Nat} : Ok (evE cf (.compD elt tg v cond own) env st) Q =
    Som ((env[v]?.join).bind (lockD st)) (fun p => Ok (compL ⟨p.2.2.2, none⟩ (turnL tg own env (evC cf cond) (evE cf elt) (ncOf cond)) p.2.2.2 [] (st.set p.1 p.2.2.1)) (fun xs st => Q (.ref (st.set p.1 p.2.1).length) (st.set p.1 p.2.1 ++ [.lst xs]))) := by
  simp only [evE]
  generalize (env[v]?.join).bind (lockD st) = q
  cases q with
  | none => with_unfolding_all rfl
  | some q =>
    obtain ⟨n, c, c', xs⟩ := q
    simp only [Ok_bind, Som_some]
    exact Ok_ext fun xs st => Ok_newL
variable {P : Option Int → Sto → Prop} {L : List D → Sto → Prop} {W : Wk → Sto → Prop}
@[simp] theorem w_cN : Ok (evC cf .none env st) Q = Q .non st := by simp [evC]
@[simp] theorem w_cS {e : IE} : Ok (evC cf (.some e) env st) Q = Ok (evE cf e env st) Q := by simp [evC]
@[simp] theorem w_pN : Ok (evP cf .none env st) P = P none st := by simp [evP]
def intD : D → Option Int
  | .int i => some i
  | _ => none
@[simp] theorem intD_int {i : Int} : intD (.int i) = some i := by with_unfolding_all rfl
@[simp] theorem w_pS {e : IE} : Ok (evP cf (.some e) env st) P = Ok (evE cf e env st) (fun x st => Som (intD x) (fun i => P (some i) st)) := by
  simp only [evP, Ok_bind]
  exact Ok_ext fun x st => by cases x <;> with_unfolding_all rfl
@[simp] theorem w_nil : Ok (evEs cf .nil env st) L = L [] st := by simp [evEs]
@[simp] theorem w_cons {e : IE} {es : IEs} : Ok (evEs cf (.cons e es) env st) L = Ok (evE cf e env st) (fun x st => Ok (evEs cf es env st) (fun xs st => L (x :: xs) st)) := by
  simp only [evEs, Ok_bind]
  exact Ok_ext fun x st => by rw [Ok_bind]; exact Ok_ext fun y st => Ok_ok
@[simp] theorem w_val {e : IE} : Ok (evI cf (.val e) env st) W = Ok (evE cf e env st) (fun x st => Som (walkOf st x) (fun w => W w st)) := by
  simp only [evI, Ok_bind]
  exact Ok_ext fun x st => by cases walkOf st x <;> with_unfolding_all rfl
@[simp] theorem w_rng1 {a : IE} : Ok (evI cf (.rng1 a) env st) W = Ok (evE cf a env st) (fun x st => Som (intD x) (fun j => rngOk j = true ∧ W ⟨rgD 0 j.toNat, none⟩ st)) := by
  simp only [evI, Ok_bind]
  exact Ok_ext fun x st => by cases x <;> simp [intD]
@[simp] theorem w_rng2 {a b : IE} : Ok (evI cf (.rng2 a b) env st) W = Ok (evE cf a env st) (fun x st => Ok (evE cf b env st) (fun y st => Som (intD x) (fun i => Som (intD y) (fun j => (rngOk i && rngOk j) = true ∧ W ⟨rgD i (j - i).toNat, none⟩ st)))) := by
  simp only [evI, Ok_bind]
  exact Ok_ext fun x st => by rw [Ok_bind]; exact Ok_ext fun y st => by cases x <;> cases y <;> simp [intD]
@[simp] theorem w_rng3 {a b c : IE} : Ok (evI cf (.rng3 a b c) env st) W = Ok (evE cf a env st) (fun x st => Ok (evE cf b env st) (fun y st => Ok (evE cf c env st) (fun z st => Som (intD x) (fun i => Som (intD y) (fun j => Som (intD z) (fun k => r3Ok i j k = true ∧ W ⟨rgC i k (PySem.Builtin.Range.rangeSize i j k).toNat, none⟩ st)))))) := by
  simp only [evI, Ok_bind]
  exact Ok_ext fun x st => by rw [Ok_bind]; exact Ok_ext fun y st => by rw [Ok_bind]; exact Ok_ext fun z st => by cases x <;> cases y <;> cases z <;> simp [intD]
@[simp] theorem w_enum {e : IE} : Ok (evI cf (.enum e) env st) W = Ok (evE cf e env st) (fun x st => Som (lwalk st x) (fun w => W ⟨enumD w.xs, w.src⟩ st)) := by
  simp only [evI, Ok_bind]
  exact Ok_ext fun x st => by cases lwalk st x <;> with_unfolding_all rfl
def tupD : D → Option (List D)
  | .tup xs => some xs
  | _ => none
@[simp] theorem tupD_tup {xs : List D} : tupD (.tup xs) = some xs := by with_unfolding_all rfl
@[simp] theorem w_zip {a b : IE} : Ok (evI cf (.zip a b) env st) W = Ok (evE cf a env st) (fun x st => Ok (evE cf b env st) (fun y st => Som (tupD x) (fun xs => Som (tupD y) (fun ys => W ⟨zipDD xs ys, none⟩ st)))) := by
  simp only [evI, Ok_bind]
  exact Ok_ext fun x st => by rw [Ok_bind]; exact Ok_ext fun y st => by cases x <;> cases y <;> with_unfolding_all rfl

/-! statements -/
variable {N B C : Env → Sto → Prop} {R : D → Sto → Prop}
@[simp] theorem So_thn {α : Type} {r : Res α} {f : α → Sto → SR} : So (r.thn env f) N R B C = Ok r (fun a st => So (f a st) N R B C) := by cases r <;> with_unfolding_all rfl
@[simp] theorem So_nx : So (.nx env st) N R B C = N env st := by with_unfolding_all rfl
@[simp] theorem So_ret {d : D} : So (.ret d st) N R B C = R d st := by with_unfolding_all rfl
@[simp] theorem So_brk : So (.brk env st) N R B C = B env st := by with_unfolding_all rfl
@[simp] theorem So_cont : So (.cont env st) N R B C = C env st := by with_unfolding_all rfl
@[simp] theorem So_exc {n : Nat} : So (.exc n env st) N R B C = False := by with_unfolding_all rfl
@[simp] theorem So_stuck : So .stuck N R B C = False := by with_unfolding_all rfl
@[simp] theorem v_nil : So (exSs cf .nil env st) N R B C = N env st := by simp [exSs]
@[simp] theorem v_cons {s : IS} {r : ISs} : So (exSs cf (.cons s r) env st) N R B C = So (exS cf s env st) (fun e st => So (exSs cf r e st) N R B C) R B C := by
  simp only [exSs]
  cases exS cf s env st <;> with_unfolding_all rfl
@[simp] theorem v_expr {e : IE} : So (exS cf (.expr e) env st) N R B C = Ok (evE cf e env st) (fun _ st => N env st) := by
  simp only [exS, So_thn]
  exact Ok_ext fun x st => by with_unfolding_all rfl
@[simp] theorem v_ret {e : IE} : So (exS cf (.ret e) env st) N R B C = Ok (evE cf e env st) R := by
  simp only [exS, So_thn]
  exact Ok_ext fun x st => by with_unfolding_all rfl
@[simp] theorem v_asg {t : Tg} {e : IE} : So (exS cf (.asg (.tg t) e) env st) N R B C = Ok (evE cf e env st) (fun d st => Som (tgSet st t d env) (fun e => N e st)) := by
  simp only [exS, So_thn]
  exact Ok_ext fun d st => by cases tgSet st t d env <;> with_unfolding_all rfl
@[simp] theorem v_sub {o i e : IE} : So (exS cf (.asg (.sub o i) e) env st) N R B C = Ok (evE cf e env st) (fun d st => Ok (evE cf o env st) (fun x st => Ok (evE cf i env st) (fun y st => Som (setI x y d st) (fun st => N env st)))) := by
  simp only [exS, So_thn]
  exact Ok_ext fun d st => by rw [So_thn]; exact Ok_ext fun x st => by rw [So_thn]; exact Ok_ext fun y st => by cases setI x y d st <;> with_unfolding_all rfl
@[simp] theorem v_if {c : IE} {a b : ISs} : So (exS cf (.ifs c a b) env st) N R B C = Ok (evE cf c env st) (fun x st => Cho (x.truth st) (So (exSs cf a env st) N R B C) (So (exSs cf b env st) N R B C)) := by
  simp only [exS, So_thn]
  refine Ok_ext fun x st => ?_
  generalize x.truth st = q
  cases q with
  | none => with_unfolding_all rfl
  | some q => cases q <;> with_unfolding_all rfl
@[simp] theorem v_for {t : Tg} {it : II} {b : ISs} : So (exS cf (.fors t it b) env st) N R B C = Ok (evI cf it env st) (fun w st => So (forL w t (exSs cf b) w.xs env st) N R B C) := by
  simp only [exS, So_thn]
@[simp] theorem v_pass : So (exS cf .pass env st) N R B C = N env st := by simp [exS]
@[simp] theorem v_brk : So (exS cf .brk env st) N R B C = B env st := by simp [exS]
@[simp] theorem v_cont : So (exS cf .cont env st) N R B C = C env st := by simp [exS]
end

/-- a def's call -/
theorem Ok_callF {tab : List Fd} {n i : Nat} {f : Fd} {ds : List D} {st : Sto} {Q : D → Sto → Prop} (h : tab[i]? = some f) (hl : ds.length = f.np)
    (k : So (exSs (callF tab n) f.body (ds.map some ++ List.replicate (f.ns - ds.length) none) st) (fun _ st => Q .non st) Q (fun _ _ => False) (fun _ _ => False)) : Ok (callF tab (n + 1) i ds st) Q := by
  unfold callF
  rw [h]
  dsimp only
  rw [if_pos hl]
  generalize exSs (callF tab n) f.body (ds.map some ++ List.replicate (f.ns - ds.length) none) st = o at k ⊢
  cases o with
  | nx e st => with_unfolding_all exact k
  | ret d st => with_unfolding_all exact k
  | brk e st => with_unfolding_all exact k
  | cont e st => with_unfolding_all exact k
  | exc m e st => with_unfolding_all exact k
  | stuck => with_unfolding_all exact k

/-! ### the store -/
section
variable (s t : Sto) (n k : Nat) (c : Cell)
@[simp] theorem lk_0 : (s ++ t)[s.length]? = t[0]? := by rw [List.getElem?_append_right (Nat.le_refl _), Nat.sub_self]
@[simp] theorem lk_k : (s ++ t)[s.length + k]? = t[k]? := by rw [List.getElem?_append_right (Nat.le_add_right _ _), Nat.add_sub_cancel_left]
@[simp] theorem st_0 : (s ++ t).set s.length c = s ++ t.set 0 c := by rw [List.set_append_right _ _ (Nat.le_refl _), Nat.sub_self]
@[simp] theorem st_k : (s ++ t).set (s.length + k) c = s ++ t.set k c := by rw [List.set_append_right _ _ (Nat.le_add_right _ _), Nat.add_sub_cancel_left]
theorem lk_l {s : Sto} {n : Nat} (h : n < s.length) (t : Sto) : (s ++ t)[n]? = s[n]? := List.getElem?_append_left h
theorem st_l {s : Sto} {n : Nat} (h : n < s.length) (t : Sto) (c : Cell) : (s ++ t).set n c = s.set n c ++ t := List.set_append_left _ _ h
theorem lt_of {s : Sto} {n : Nat} {c : Cell} (h : s[n]? = some c) : n < s.length := (List.getElem?_eq_some_iff.mp h).1
end

/-! ### loops -/
section
variable {w : Wk} {t : Tg} {f : Env → Sto → SR} {α : Type} {g : α → D}
theorem So_forL (I : List α → List α → Env → Sto → Prop) {N : Env → Sto → Prop} {R : D → Sto → Prop} {B C : Env → Sto → Prop}
    (hw : ∀ d r e s, I d r e s → w.still s = true)
    (hs : ∀ d x r e s, I d (x :: r) e s → Som (tgSet s t (g x) e) (fun e => So (f e s) (I (d ++ [x]) r) R N (I (d ++ [x]) r))) :
    ∀ (r d : List α) (e : Env) (s : Sto), I d r e s → (∀ e s, I (d ++ r) [] e s → N e s) → So (forL w t f (r.map g) e s) N R B C
  | [], d, e, s, h, q => by
    simp only [List.map_nil, forL]
    rw [if_pos (hw _ _ _ _ h), So_nx]
    exact q e s (by simpa using h)
  | x :: r, d, e, s, h, q => by
    simp only [List.map_cons, forL]
    rw [if_pos (hw _ _ _ _ h)]
    have a := hs d x r e s h
    cases ht : tgSet s t (g x) e with
    | none => rw [ht, Som_none] at a; exact a.elim
    | some e1 =>
      rw [ht] at a
      dsimp only
      simp only [Som_some] at a
      cases hf : f e1 s with
      | nx e2 s2 => rw [hf, So_nx] at a; exact So_forL I hw hs r (d ++ [x]) e2 s2 a (by simpa using q)
      | cont e2 s2 => rw [hf, So_cont] at a; exact So_forL I hw hs r (d ++ [x]) e2 s2 a (by simpa using q)
      | brk e2 s2 => rw [hf, So_brk] at a; dsimp only; rw [So_nx]; exact a
      | ret d2 s2 => rw [hf, So_ret] at a; dsimp only; rw [So_ret]; exact a
      | exc m e2 s2 => rw [hf, So_exc] at a; exact a.elim
      | stuck => rw [hf, So_stuck] at a; exact a.elim
/-- a comprehension's turns -/
theorem Ok_compL {f : D → Sto → Res (Option D)} {Q : List D → Sto → Prop} (I : List α → List α → List D → Sto → Prop)
    (hw : ∀ d r a s, I d r a s → w.still s = true)
    (hl : ∀ d x r a s, I d (x :: r) a s → a.length < 16777216)
    (hs : ∀ d x r a s, I d (x :: r) a s → Ok (f (g x) s) (fun o s => I (d ++ [x]) r (match o with | some y => a ++ [y] | none => a) s)) :
    ∀ (r d : List α) (a : List D) (s : Sto), I d r a s → (∀ a s, I (d ++ r) [] a s → Q a s) → Ok (compL w f (r.map g) a s) Q
  | [], d, a, s, h, q => by
    simp only [List.map_nil, compL, Ok_guard, Ok_ok]
    exact ⟨hw _ _ _ _ h, q a s (by simpa using h)⟩
  | x :: r, d, a, s, h, q => by
    simp only [List.map_cons, compL, Ok_guard, Ok_bind, Ok_noX]
    refine ⟨by rw [hw _ _ _ _ h, decide_eq_true (hl _ _ _ _ _ h)]; rfl, ?_⟩
    exact (hs d x r a s h).imp fun o s1 z => Ok_compL I hw hl hs r (d ++ [x]) _ s1 z (by simpa using q)
end
theorem Ok_turnL {tg : Tg} {own : List Nat} {env : Env} {fc fe : Env → Sto → Res D} {nc : Bool} {x : D} {st : Sto} {Q : Option D → Sto → Prop} :
    Ok (turnL tg own env fc fe nc x st) Q = Som (tgSet st tg x (wipeE env own)) (fun e => if nc = true then Ok (fe e st) (fun d st => Q (some d) st) else Ok (fc e st) (fun c st => Cho (c.truth st) (Ok (fe e st) (fun d st => Q (some d) st)) (Q none st))) := by
  unfold turnL
  cases tgSet st tg x (wipeE env own) with
  | none => with_unfolding_all rfl
  | some e =>
    cases nc with
    | true =>
      simp only [if_true, Ok_bind, Som_some]
      exact Ok_ext fun c st => Ok_ok
    | false =>
      simp only [Bool.false_eq_true, if_false, Ok_bind, Som_some]
      refine Ok_ext fun c st => ?_
      generalize c.truth st = q
      cases q with
      | none => with_unfolding_all rfl
      | some q =>
        cases q with
        | true =>
          simp only [Ok_bind, Cho_t]
          exact Ok_ext fun c st => Ok_ok
        | false => simp only [Ok_ok, Cho_f]
/-- a comprehension whose turns leave what stood there: each gives h x, nothing where that is none -/
theorem Ok_comp_pure {w : Wk} {α : Type} {g : α → D} {f : D → Sto → Res (Option D)} {Q : List D → Sto → Prop} (h : α → Option D) (l : List α) (s : Sto) (hw : w.xs = l.map g) (hsrc : w.src = none ∨ ∃ n c, w.src = some (n, c) ∧ s[n]? = some c)
    (hl : l.length ≤ 16777216)
    (hf : ∀ x ∈ l, ∀ u, Ok (f (g x) (s ++ u)) (fun o s1 => o = h x ∧ ∃ v, s1 = s ++ v))
    (hq : ∀ u, Q (l.filterMap h) (s ++ u)) : Ok (compL w f w.xs [] s) Q := by
  rw [hw]
  refine Ok_compL (g := g) (fun d r a s1 => d ++ r = l ∧ a = d.filterMap h ∧ ∃ u, s1 = s ++ u) ?_ ?_ ?_ l [] [] s ⟨rfl, rfl, [], by simp⟩ ?_
  · rintro d r a _ ⟨_, _, u, rfl⟩
    unfold Wk.still
    rcases hsrc with e | ⟨n, c, e, hc⟩
    · rw [e]
    · rw [e]
      dsimp only
      rw [decide_eq_true_eq, List.getElem?_append_left (lt_of hc), hc]
  · rintro d x r a _ ⟨e, rfl, _⟩
    have h1 : (d.filterMap h).length ≤ d.length := List.length_filterMap_le _ _
    have h2 : d.length + (r.length + 1) = l.length := by rw [← e]; simp
    omega
  · rintro d x r a _ ⟨e, rfl, u, rfl⟩
    refine (hf x (by rw [← e]; simp) u).imp ?_
    rintro o s1 ⟨rfl, v, rfl⟩
    refine ⟨by simpa using e, ?_, v, rfl⟩
    rw [List.filterMap_append, List.filterMap_cons, List.filterMap_nil]
    generalize h x = z
    cases z <;> simp
  · rintro a _ ⟨e, rfl, u, rfl⟩
    simp only [List.append_nil, List.nil_append] at e
    rw [List.nil_append]
    exact hq u
end PyI

/-! JB_: values as data: like, written; slices; walks; dicts. -/
namespace PyI
open PySem

/-! ### data -/
mutual
/-- as data, what holds no number of the store -/
def D.dat : D → PyData
  | .non => .none
  | .bl b => .bool b
  | .int i => .int i
  | .str x => .str ⟨x.toArray⟩
  | .tup xs => .tuple (D.dats xs)
  | .rol xs => .list (D.dats xs)
  | .ref _ => .none
def D.dats : List D → List PyData
  | [] => []
  | d :: r => D.dat d :: D.dats r
end
mutual
/-- holds no number of the store; signs are signs; numbers have up to B figures -/
def D.good (B : Nat) : D → Bool
  | .non => true
  | .bl _ => true
  | .int i => decide (i.natAbs < 10 ^ B)
  | .str x => x.all fun c => decide (c < 0x110000)
  | .tup xs => D.goods B xs
  | .rol xs => D.goods B xs
  | .ref _ => false
def D.goods (B : Nat) : List D → Bool
  | [] => true
  | d :: r => D.good B d && D.goods B r
end
mutual
def D.dep : D → Nat
  | .tup xs => D.deps xs + 1
  | .rol xs => D.deps xs + 1
  | _ => 0
def D.deps : List D → Nat
  | [] => 0
  | d :: r => max (D.dep d) (D.deps r)
end
mutual
/-- how much it is -/
def D.wt (B : Nat) : D → Nat
  | .int _ => 4 * B
  | .str x => x.length
  | .tup xs => D.wts B xs
  | .rol xs => D.wts B xs
  | _ => 0
def D.wts (B : Nat) : List D → Nat
  | [] => 0
  | d :: r => D.wt B d + 1 + D.wts B r
end
mutual
/-- no truths within -/
def D.nob : D → Bool
  | .bl _ => false
  | .tup xs => D.nobs xs
  | .rol xs => D.nobs xs
  | _ => true
def D.nobs : List D → Bool
  | [] => true
  | d :: r => D.nob d && D.nobs r
end
section
variable {B : Nat}
mutual
theorem deep_dat {g : Nat → Option PyData} : ∀ d : D, d.good B = true → D.deep g d = some d.dat
  | .non, _ => rfl
  | .bl _, _ => rfl
  | .int _, _ => rfl
  | .str _, _ => rfl
  | .tup xs, h => by
    simp only [D.deep, D.dat, deeps_dat xs (by simpa [D.good] using h), Option.map_some]
  | .rol xs, h => by
    simp only [D.deep, D.dat, deeps_dat xs (by simpa [D.good] using h), Option.map_some]
  | .ref _, h => by simp [D.good] at h
theorem deeps_dat {g : Nat → Option PyData} : ∀ l : List D, D.goods B l = true → D.deeps g l = some (D.dats l)
  | [], _ => rfl
  | d :: r, h => by
    simp only [D.goods, Bool.and_eq_true] at h
    simp only [D.deeps, D.dats, deep_dat d h.1, deeps_dat r h.2, Option.bind_some, Option.map_some]
end
theorem tree_dat {st : Sto} {d : D} (h : d.good B = true) : tree st d = some d.dat := deep_dat d h
theorem tree_lst {st : Sto} {n : Nat} {xs : List D} (h : listAt st n = some xs) (g : D.goods B xs = true) : tree st (.ref n) = some (.list (D.dats xs)) := by
  show refTree st 8 n = _
  unfold refTree
  rw [h]
  simp only [Option.bind_some, deeps_dat xs g, Option.map_some]
mutual
theorem canLay_dat : ∀ d : D, d.good B = true → d.dat.canLay0 = true
  | .non, _ => rfl
  | .bl _, _ => rfl
  | .int _, _ => rfl
  | .str x, h => by
    simp only [D.good, List.all_eq_true, decide_eq_true_eq] at h
    simpa [D.dat, PyData.canLay0, PyData.strOk] using h
  | .tup xs, h => by simpa [D.dat, PyData.canLay0] using canLays_dat xs (by simpa [D.good] using h)
  | .rol xs, h => by simpa [D.dat, PyData.canLay0] using canLays_dat xs (by simpa [D.good] using h)
  | .ref _, h => by simp [D.good] at h
theorem canLays_dat : ∀ l : List D, D.goods B l = true → PyData.canLayAll0 (D.dats l) = true
  | [], _ => rfl
  | d :: r, h => by
    simp only [D.goods, Bool.and_eq_true] at h
    simp only [D.dats, PyData.canLayAll0, canLay_dat d h.1, canLays_dat r h.2, Bool.and_self]
end
mutual
theorem depth_dat : ∀ d : D, d.dat.depth = d.dep
  | .non => rfl
  | .bl _ => rfl
  | .int _ => rfl
  | .str _ => rfl
  | .tup xs => by simp only [D.dat, PyData.depth, D.dep, depths_dat xs]
  | .rol xs => by simp only [D.dat, PyData.depth, D.dep, depths_dat xs]
  | .ref _ => rfl
theorem depths_dat : ∀ l : List D, PyData.depthAll (D.dats l) = D.deps l
  | [] => rfl
  | d :: r => by simp only [D.dats, PyData.depthAll, D.deps, depth_dat d, depths_dat r]
end
theorem shaped_dat {d : D} (h : d.good B = true) (hd : d.dep ≤ 64) : SeqAt.shaped d.dat = true := by
  unfold SeqAt.shaped
  rw [canLay_dat d h, depth_dat]
  simpa using hd
mutual
theorem eqv_dat : ∀ a b : D, a.good B = true → b.good B = true → a.nob = true → b.nob = true → PyData.eqv a.dat b.dat = decide (a = b)
  | .non, b, _, hb, _, nb => by cases b <;> simp_all [D.dat, PyData.eqv, D.good, D.nob]
  | .bl _, _, _, _, na, _ => by simp [D.nob] at na
  | .int i, b, _, hb, _, nb => by
    cases b <;> simp_all [D.dat, PyData.eqv, D.good, D.nob]
    rename_i j _
    by_cases h : i = j <;> simp [h]
  | .str x, b, _, hb, _, nb => by
    cases b <;> simp_all [D.dat, PyData.eqv, D.good, D.nob]
    rename_i y _
    by_cases h : x = y
    · simp [h]
    · have : ¬ (({ cps := x.toArray } : Str) = { cps := y.toArray }) := fun e => h (by have := Str.mk.inj e; simpa using this)
      simp [h, this]
  | .tup xs, b, ha, hb, na, nb => by
    cases b with
    | tup ys =>
      simp only [D.good] at ha hb
      simp only [D.nob] at na nb
      simp only [D.dat, PyData.eqv, eqvs_dat xs ys ha hb na nb, D.tup.injEq]
    | ref _ => simp [D.good] at hb
    | _ => simp [D.dat, PyData.eqv]
  | .rol xs, b, ha, hb, na, nb => by
    cases b with
    | rol ys =>
      simp only [D.good] at ha hb
      simp only [D.nob] at na nb
      simp only [D.dat, PyData.eqv, eqvs_dat xs ys ha hb na nb, D.rol.injEq]
    | ref _ => simp [D.good] at hb
    | _ => simp [D.dat, PyData.eqv]
  | .ref _, _, ha, _, _, _ => by simp [D.good] at ha
theorem eqvs_dat : ∀ a b : List D, D.goods B a = true → D.goods B b = true → D.nobs a = true → D.nobs b = true → PyData.eqvAll (D.dats a) (D.dats b) = decide (a = b)
  | [], [], _, _, _, _ => by simp [D.dats, PyData.eqvAll]
  | [], _ :: _, _, _, _, _ => by simp [D.dats, PyData.eqvAll]
  | _ :: _, [], _, _, _, _ => by simp [D.dats, PyData.eqvAll]
  | x :: xs, y :: ys, ha, hb, na, nb => by
    simp only [D.goods, Bool.and_eq_true] at ha hb
    simp only [D.nobs, Bool.and_eq_true] at na nb
    simp only [D.dats, PyData.eqvAll, eqv_dat x y ha.1 hb.1 na.1 nb.1, eqvs_dat xs ys ha.2 hb.2 na.2 nb.2, List.cons.injEq, Bool.decide_and]
end
mutual
theorem eqv_self : ∀ d : D, PyData.eqv d.dat d.dat = true
  | .non => rfl
  | .bl b => by simp [D.dat, PyData.eqv]
  | .int i => by simp [D.dat, PyData.eqv]
  | .str x => by simp [D.dat, PyData.eqv]
  | .tup xs => by simp only [D.dat, PyData.eqv, eqvs_self xs]
  | .rol xs => by simp only [D.dat, PyData.eqv, eqvs_self xs]
  | .ref _ => rfl
theorem eqvs_self : ∀ l : List D, PyData.eqvAll (D.dats l) (D.dats l) = true
  | [] => rfl
  | d :: r => by simp only [D.dats, PyData.eqvAll, eqv_self d, eqvs_self r, Bool.and_self]
end
theorem eqD_of0 {st : Sto} {a b : D} {c : Bool} (h : eqD0 st a b = some c) (hs : ∀ x y, a = .str x → b = .str y → c = decide (x = y)) : eqD st a b = some c := by
  unfold eqD
  cases e : eqS a b with
  | some d =>
    obtain ⟨x, y, e1, e2, e3⟩ := eqS_some e
    rw [e3, hs x y e1 e2]
  | none => exact h
theorem eqD_dat {st : Sto} {a b : D} (ha : a.good B = true) (hb : b.good B = true) (na : a.nob = true) (nb : b.nob = true) (da : a.dep ≤ 64) (db : b.dep ≤ 64) : eqD st a b = some (decide (a = b)) := by
  refine eqD_of0 ?_ fun x y e1 e2 => by rw [e1, e2]; simp
  unfold eqD0
  simp only [tree_dat ha, tree_dat hb, Option.bind_some, shaped_dat ha da, shaped_dat hb db, Bool.and_self, if_true, eqv_dat a b ha hb na nb]
theorem eqD_self {st : Sto} {a : D} (ha : a.good B = true) (da : a.dep ≤ 64) : eqD st a a = some true := by
  refine eqD_of0 ?_ fun x y e1 e2 => by rw [e1] at e2; cases e2; simp
  unfold eqD0
  simp only [tree_dat ha, Option.bind_some, shaped_dat ha da, Bool.and_self, if_true, eqv_self a]
/-! written -/
mutual
theorem showable_dat (hB : B ≤ 570) : ∀ d : D, d.good B = true → d.dat.showable = true
  | .non, _ => rfl
  | .bl _, _ => rfl
  | .int i, h => by
    simp only [D.good, decide_eq_true_eq] at h
    simp only [D.dat, PyData.showable, decide_eq_true_eq]
    by_cases h0 : i.natAbs = 0
    · rw [h0]; decide
    · rw [Nat.log2_lt h0]
      calc i.natAbs < 10 ^ B := h
        _ ≤ 10 ^ 570 := Nat.pow_le_pow_right (by decide) hB
        _ < 2 ^ 1920 := by decide +kernel
  | .str _, _ => rfl
  | .tup xs, h => by simpa [D.dat, PyData.showable] using showables_dat hB xs (by simpa [D.good] using h)
  | .rol xs, h => by simpa [D.dat, PyData.showable] using showables_dat hB xs (by simpa [D.good] using h)
  | .ref _, h => by simp [D.good] at h
theorem showables_dat (hB : B ≤ 570) : ∀ l : List D, D.goods B l = true → PyData.showableAll (D.dats l) = true
  | [], _ => rfl
  | d :: r, h => by
    simp only [D.goods, Bool.and_eq_true] at h
    simp only [D.dats, PyData.showableAll, showable_dat hB d h.1, showables_dat hB r h.2, Bool.and_self]
end
mutual
theorem short_dat (hB : 0 < B) : ∀ d : D, d.good B = true → PyData.leavesShort (B + 7) d.dat = true
  | .non, _ => rfl
  | .bl _, _ => rfl
  | .int i, h => by
    simp only [D.good, decide_eq_true_eq] at h
    have q := int_text_length_le10 hB h
    have e : (PyData.shown (.int i)).length = (toString i).length := by
      show (Str.ofString (toString i)).length = _
      rw [ofString_length]
    simp only [D.dat, PyData.leavesShort, decide_eq_true_eq, e]
    omega
  | .str x, h => by
    simp only [D.good, List.all_eq_true, decide_eq_true_eq] at h
    simp only [D.dat, PyData.leavesShort, List.all_eq_true, decide_eq_true_eq]
    intro c hc
    have := h c (by simpa using hc)
    have e : (0x110000 : Nat) < 16 ^ 8 := by decide
    omega
  | .tup xs, h => by simpa [D.dat, PyData.leavesShort] using shorts_dat hB xs (by simpa [D.good] using h)
  | .rol xs, h => by simpa [D.dat, PyData.leavesShort] using shorts_dat hB xs (by simpa [D.good] using h)
  | .ref _, h => by simp [D.good] at h
theorem shorts_dat (hB : 0 < B) : ∀ l : List D, D.goods B l = true → PyData.leavesShortAll (B + 7) (D.dats l) = true
  | [], _ => rfl
  | d :: r, h => by
    simp only [D.goods, Bool.and_eq_true] at h
    simp only [D.dats, PyData.leavesShortAll, short_dat hB d h.1, shorts_dat hB r h.2, Bool.and_self]
end
theorem log10_le {n : Nat} (hB : 0 < B) (h : n < 10 ^ B) : (if n = 0 then 0 else n.log2 + 1) ≤ 4 * B := by
  split
  · omega
  · rename_i h0
    have e : n.log2 < 4 * B := by
      rw [Nat.log2_lt h0]
      calc n < 10 ^ B := h
        _ ≤ 16 ^ B := Nat.pow_le_pow_left (by decide) B
        _ = 2 ^ (4 * B) := by rw [Nat.pow_mul]
    omega
mutual
theorem weight_dat (hB : 0 < B) : ∀ d : D, d.good B = true → d.dat.weight ≤ d.wt B
  | .non, _ => Nat.le_refl _
  | .bl _, _ => Nat.le_refl _
  | .int i, h => by
    simp only [D.good, decide_eq_true_eq] at h
    have q := log10_le hB h
    simp only [D.dat, PyData.weight, D.wt]
    by_cases h0 : i = 0
    · simp [h0]
    · have h1 : i.natAbs ≠ 0 := by omega
      rw [if_neg h1] at q
      simpa [h0] using q
  | .str x, _ => by simp [D.dat, PyData.weight, D.wt]
  | .tup xs, h => by simpa [D.dat, PyData.weight, D.wt] using weights_dat hB xs (by simpa [D.good] using h)
  | .rol xs, h => by simpa [D.dat, PyData.weight, D.wt] using weights_dat hB xs (by simpa [D.good] using h)
  | .ref _, h => by simp [D.good] at h
theorem weights_dat (hB : 0 < B) : ∀ l : List D, D.goods B l = true → PyData.weightAll (D.dats l) ≤ D.wts B l
  | [], _ => Nat.le_refl _
  | d :: r, h => by
    simp only [D.goods, Bool.and_eq_true] at h
    have h1 := weight_dat hB d h.1
    have h2 := weights_dat hB r h.2
    simp only [D.dats, PyData.weightAll, D.wts]
    omega
end
theorem reprOk_dat {d : D} (hB : 0 < B) (hB2 : B ≤ 570) (h : d.good B = true) (hd : d.dep ≤ 64) (hw : (B + 9) * d.wt B + (B + 7) ≤ 16777216) : reprOk d.dat = true := by
  have h1 := PyData.shown_le (B + 7) (by omega) d.dat (short_dat hB d h)
  have h2 := weight_dat hB d h
  have h3 : (B + 9) * d.dat.weight ≤ (B + 9) * d.wt B := Nat.mul_le_mul_left _ h2
  unfold reprOk
  rw [showable_dat hB2 d h, PyData.hasDict_of_canLay _ (canLay_dat d h), depth_dat]
  have e1 : d.dat.shown.length ≤ 16777216 := by
    have e2 : B + 7 + 2 = B + 9 := by omega
    rw [e2] at h1
    omega
  simp [hd, e1]
/-- lists and tuples of numbers -/
theorem goods_iff {l : List D} : D.goods B l = true ↔ ∀ d ∈ l, d.good B = true := by
  induction l with
  | nil => simp [D.goods]
  | cons d r ih => simp [D.goods, ih]
theorem nobs_iff {l : List D} : D.nobs l = true ↔ ∀ d ∈ l, d.nob = true := by
  induction l with
  | nil => simp [D.nobs]
  | cons d r ih => simp [D.nobs, ih]
theorem deps_le {l : List D} {k : Nat} : D.deps l ≤ k ↔ ∀ d ∈ l, d.dep ≤ k := by
  induction l with
  | nil => simp [D.deps]
  | cons d r ih => simp [D.deps, ih, Nat.max_le]
theorem wts_le {l : List D} {k : Nat} (h : ∀ d ∈ l, d.wt B ≤ k) : D.wts B l ≤ (k + 1) * l.length := by
  induction l with
  | nil => simp [D.wts]
  | cons d r ih =>
    have h1 := h d (by simp)
    have h2 := ih fun d hd => h d (by simp [hd])
    simp only [D.wts, List.length_cons, Nat.mul_add, Nat.mul_one]
    omega
end

@[simp] theorem eqD_str {st : Sto} {x y : List Nat} : eqD st (.str x) (.str y) = some (decide (x = y)) := rfl
@[simp] theorem eqD_int {st : Sto} {i j : Int} : eqD st (.int i) (.int j) = some (decide (i = j)) := by
  show (some (PyData.int i)).bind (fun x => (some (PyData.int j)).bind fun y => if SeqAt.shaped x && SeqAt.shaped y then some (PyData.eqv x y) else none) = _
  simp only [Option.bind_some, SeqAt.shaped, PyData.canLay0, PyData.depth, PyData.eqv]
  by_cases h : i = j <;> simp [h]
mutual
/-- no numbers of the store, no truths; signs are signs -/
def D.pur : D → Bool
  | .non => true
  | .bl _ => false
  | .int _ => true
  | .str x => x.all fun c => decide (c < 0x110000)
  | .tup xs => D.purs xs
  | .rol xs => D.purs xs
  | .ref _ => false
def D.purs : List D → Bool
  | [] => true
  | d :: r => D.pur d && D.purs r
end
theorem purs_iff {l : List D} : D.purs l = true ↔ ∀ d ∈ l, d.pur = true := by
  induction l with
  | nil => simp [D.purs]
  | cons d r ih => simp [D.purs, ih]
theorem lt_pow (n : Nat) : n < 10 ^ n := Nat.lt_pow_self (by decide)
mutual
theorem good_up {B C : Nat} (h : B ≤ C) : ∀ d : D, d.good B = true → d.good C = true
  | .non, _ => rfl
  | .bl _, _ => rfl
  | .int i, g => by
    simp only [D.good, decide_eq_true_eq] at g ⊢
    exact Nat.lt_of_lt_of_le g (Nat.pow_le_pow_right (by decide) h)
  | .str _, g => g
  | .tup xs, g => by simpa [D.good] using goods_up h xs (by simpa [D.good] using g)
  | .rol xs, g => by simpa [D.good] using goods_up h xs (by simpa [D.good] using g)
  | .ref _, g => g
theorem goods_up {B C : Nat} (h : B ≤ C) : ∀ l : List D, D.goods B l = true → D.goods C l = true
  | [], _ => rfl
  | d :: r, g => by
    simp only [D.goods, Bool.and_eq_true] at g ⊢
    exact ⟨good_up h d g.1, goods_up h r g.2⟩
end
mutual
theorem pur_good : ∀ d : D, d.pur = true → (∃ B, d.good B = true) ∧ d.nob = true
  | .non, _ => ⟨⟨0, rfl⟩, rfl⟩
  | .bl _, h => by simp [D.pur] at h
  | .int i, _ => ⟨⟨i.natAbs, by simpa [D.good] using lt_pow i.natAbs⟩, rfl⟩
  | .str _, h => ⟨⟨0, h⟩, rfl⟩
  | .tup xs, h => by simpa [D.good, D.nob] using purs_good xs (by simpa [D.pur] using h)
  | .rol xs, h => by simpa [D.good, D.nob] using purs_good xs (by simpa [D.pur] using h)
  | .ref _, h => by simp [D.pur] at h
theorem purs_good : ∀ l : List D, D.purs l = true → (∃ B, D.goods B l = true) ∧ D.nobs l = true
  | [], _ => ⟨⟨0, rfl⟩, rfl⟩
  | d :: r, h => by
    simp only [D.purs, Bool.and_eq_true] at h
    obtain ⟨⟨B, g⟩, n⟩ := pur_good d h.1
    obtain ⟨⟨C, g2⟩, n2⟩ := purs_good r h.2
    refine ⟨⟨max B C, ?_⟩, ?_⟩
    · simp only [D.goods, Bool.and_eq_true]
      exact ⟨good_up (Nat.le_max_left _ _) d g, goods_up (Nat.le_max_right _ _) r g2⟩
    · simp only [D.nobs, Bool.and_eq_true]
      exact ⟨n, n2⟩
end
theorem eqD_pur {st : Sto} {a b : D} (ha : a.pur = true) (hb : b.pur = true) (da : a.dep ≤ 64) (db : b.dep ≤ 64) : eqD st a b = some (decide (a = b)) := by
  obtain ⟨⟨B, g⟩, n⟩ := pur_good a ha
  obtain ⟨⟨C, g2⟩, n2⟩ := pur_good b hb
  exact eqD_dat (good_up (Nat.le_max_left B C) a g) (good_up (Nat.le_max_right B C) b g2) n n2 da db
theorem ints_pur {l : List Int} : D.purs (l.map D.int) = true := by
  rw [purs_iff]
  intro d hd
  obtain ⟨i, hi, rfl⟩ := List.mem_map.mp hd
  rfl
/-- two rows of numbers -/
theorem ints_good {B : Nat} {l : List Int} (h : ∀ i ∈ l, i.natAbs < 10 ^ B) : D.goods B (l.map D.int) = true := by
  rw [goods_iff]
  intro d hd
  obtain ⟨i, hi, rfl⟩ := List.mem_map.mp hd
  simpa [D.good] using h i hi
theorem ints_nob {l : List Int} : D.nobs (l.map D.int) = true := by
  rw [nobs_iff]
  intro d hd
  obtain ⟨i, hi, rfl⟩ := List.mem_map.mp hd
  rfl
theorem ints_dep {l : List Int} : D.deps (l.map D.int) = 0 := by
  have : D.deps (l.map D.int) ≤ 0 := by
    rw [deps_le]
    intro d hd
    obtain ⟨i, hi, rfl⟩ := List.mem_map.mp hd
    exact Nat.le_refl _
  omega
theorem int_inj {i j : Int} : D.int i = D.int j ↔ i = j := by simp
theorem ints_inj {l m : List Int} : l.map D.int = m.map D.int ↔ l = m := by
  constructor
  · intro h
    have := congrArg (List.filterMap fun d => match d with | D.int i => some i | _ => none) h
    simpa [List.filterMap_map, Function.comp_def] using this
  · rintro rfl; rfl

@[simp] theorem eqD_ints {st : Sto} {l m : List Int} : eqD st (.tup (l.map D.int)) (.tup (m.map D.int)) = some (decide (l = m)) := by
  rw [eqD_pur (by simpa [D.pur] using ints_pur) (by simpa [D.pur] using ints_pur) (by simp [D.dep, ints_dep]) (by simp [D.dep, ints_dep])]
  simp only [D.tup.injEq, ints_inj]
@[simp] theorem all_tt {α : Type} {l : List α} : (l.all fun _ => true) = true := by simp
/-! ### slices -/
section
variable {α : Type} (xs : List α)
theorem cutD_from {i : Int} (h : 0 ≤ i) : cutD xs (some i) none = xs.drop i.toNat := by
  obtain ⟨k, rfl⟩ := Int.eq_ofNat_of_zero_le h
  unfold cutD
  rw [HT.sIx_none, HT.sIx_nat]
  simp only [Int.toNat_natCast]
  rw [List.take_of_length_le (by rw [List.length_drop]; omega)]
  by_cases hk : k ≤ xs.length
  · rw [Nat.min_eq_left hk]
  · rw [Nat.min_eq_right (by omega), List.drop_of_length_le (Nat.le_refl _), List.drop_of_length_le (by omega)]
theorem cutD_to {i : Int} (h : 0 ≤ i) : cutD xs none (some i) = xs.take i.toNat := by
  obtain ⟨k, rfl⟩ := Int.eq_ofNat_of_zero_le h
  unfold cutD
  show List.take (HT.sIx xs.length xs.length (some (k : Int)) - 0) (List.drop 0 xs) = _
  rw [HT.sIx_nat]
  simp only [Int.toNat_natCast, List.drop_zero, Nat.sub_zero]
  by_cases hk : k ≤ xs.length
  · rw [Nat.min_eq_left hk]
  · rw [Nat.min_eq_right (by omega), List.take_of_length_le (Nat.le_refl _), List.take_of_length_le (by omega)]
theorem cutD_sub {i j : Int} (h : 0 ≤ i) (hj : 0 ≤ j) : cutD xs (some i) (some j) = (xs.drop i.toNat).take (j.toNat - i.toNat) := by
  obtain ⟨k, rfl⟩ := Int.eq_ofNat_of_zero_le h
  obtain ⟨m, rfl⟩ := Int.eq_ofNat_of_zero_le hj
  unfold cutD
  rw [HT.sIx_nat, HT.sIx_nat]
  simp only [Int.toNat_natCast]
  by_cases hk : k ≤ xs.length
  · rw [Nat.min_eq_left hk]
    by_cases hm : m ≤ xs.length
    · rw [Nat.min_eq_left hm]
    · rw [Nat.min_eq_right (by omega), List.take_of_length_le (by rw [List.length_drop]; omega), List.take_of_length_le (by rw [List.length_drop]; omega)]
  · rw [Nat.min_eq_right (by omega : xs.length ≤ k), List.drop_of_length_le (Nat.le_refl _), List.drop_of_length_le (by omega)]
    simp
/-- xs[:-k] -/
theorem cutD_toN {k : Nat} (h : 0 < k) : cutD xs none (some (-(k : Int))) = xs.take (xs.length - k) := by
  unfold cutD HT.sIx
  dsimp only
  rw [if_pos (by omega)]
  simp only [List.drop_zero, Nat.sub_zero]
  congr 1
  omega
/-- xs[-k:] -/
theorem cutD_fromN {k : Nat} (h : 0 < k) : cutD xs (some (-(k : Int))) none = xs.drop (xs.length - k) := by
  unfold cutD HT.sIx
  dsimp only
  rw [if_pos (by omega)]
  rw [List.take_of_length_le (by rw [List.length_drop]; omega)]
  congr 1
  omega
theorem cutD_map {β : Type} (f : α → β) (lo hi : Option Int) : cutD (xs.map f) lo hi = (cutD xs lo hi).map f := by
  unfold cutD
  rw [List.length_map, List.map_take, List.map_drop]
end
/-! ### what is walked -/
theorem zipDD_map {α β : Type} (f : α → D) (g : β → D) (l : List α) (r : List β) : zipDD (l.map f) (r.map g) = (l.zip r).map fun p => .tup [f p.1, g p.2] := by
  unfold zipDD
  rw [List.zip_map, List.map_map]
  rfl
theorem enumD_map {α : Type} (f : α → D) (l : List α) : enumD (l.map f) = l.zipIdx.map fun p => .tup [.int (p.2 : Nat), f p.1] := by
  unfold enumD
  rw [List.zipIdx_map, List.map_map]
  rfl
theorem rgD_map (n : Nat) : rgD 0 n = (List.range n).map fun i : Nat => .int (i : Int) := by
  unfold rgD
  congr 1
  funext i
  rw [Int.zero_add]
/-! ### indexes -/
theorem ixN_nat {n i : Nat} (h : i < n) : L2.ixN n (i : Int) = some i := by
  unfold L2.ixN
  rw [if_pos (by omega), if_pos (by omega)]
  simp
theorem ixN_neg {n k : Nat} (h : 0 < k) (h2 : k ≤ n) : L2.ixN n (-(k : Int)) = some (n - k) := by
  unfold L2.ixN
  rw [if_neg (by omega), if_pos (by omega)]
  congr 1
  omega
theorem atI_nat {α : Type} {xs : List α} {i : Nat} : L2.atI xs (i : Int) = xs[i]? := by
  unfold L2.atI
  by_cases h : i < xs.length
  · rw [ixN_nat h]; rfl
  · unfold L2.ixN
    rw [if_pos (by omega), if_neg (by omega)]
    rw [List.getElem?_eq_none (by omega)]; rfl
theorem atI_pos {α : Type} {xs : List α} {i : Int} (h : 0 ≤ i) : L2.atI xs i = xs[i.toNat]? := by
  obtain ⟨k, rfl⟩ := Int.eq_ofNat_of_zero_le h
  exact atI_nat
theorem atI_neg {α : Type} {xs : List α} {k : Nat} (h : 0 < k) (h2 : k ≤ xs.length) : L2.atI xs (-(k : Int)) = xs[xs.length - k]? := by
  unfold L2.atI
  rw [ixN_neg h h2]; rfl
theorem atI_last {α : Type} {xs : List α} {x : α} : L2.atI (xs ++ [x]) (-1) = some x := by
  have := atI_neg (xs := xs ++ [x]) (k := 1) (by omega) (by simp)
  simpa using this
@[simp] theorem atI_map {α β : Type} (f : α → β) (xs : List α) (i : Int) : L2.atI (xs.map f) i = (L2.atI xs i).map f := by
  unfold L2.atI
  rw [List.length_map]
  cases L2.ixN xs.length i <;> simp
end PyI

/-! JC_: chains, plainly: first comings, runs, pairs, sides. -/
namespace PyI.Ch

section
variable {α β : Type} [DecidableEq α] [DecidableEq β]
/-- the unlike ones by first comings -/
def uq (l : List α) : List α := l.foldl (fun u x => if x ∈ u then u else u ++ [x]) []
@[simp] theorem uq_nil : uq ([] : List α) = [] := rfl
theorem uq_snoc (l : List α) (x : α) : uq (l ++ [x]) = if x ∈ uq l then uq l else uq l ++ [x] := by
  unfold uq
  rw [List.foldl_append]
  rfl
theorem snoc_ind {P : List α → Prop} (h0 : P []) (h1 : ∀ l x, P l → P (l ++ [x])) : ∀ l, P l := fun l => by
  have : ∀ k : Nat, ∀ l : List α, l.length = k → P l := by
    intro k
    induction k with
    | zero => intro l hl; rw [List.length_eq_zero_iff.mp hl]; exact h0
    | succ k ih =>
      intro l hl
      have hn : l ≠ [] := fun e => by rw [e] at hl; simp at hl
      rw [← List.dropLast_concat_getLast hn]
      exact h1 _ _ (ih _ (by rw [List.length_dropLast, hl]; rfl))
  exact this _ l rfl
theorem mem_uq {l : List α} {x : α} : x ∈ uq l ↔ x ∈ l := by
  induction l using snoc_ind with
  | h0 => simp
  | h1 l y ih =>
    rw [uq_snoc]
    split
    · rename_i h
      rw [ih]
      simp only [List.mem_append, List.mem_singleton]
      constructor
      · exact Or.inl
      · rintro (h1 | rfl)
        · exact h1
        · exact ih.mp h
    · simp only [List.mem_append, List.mem_singleton, ih]
theorem uq_nodup (l : List α) : (uq l).Nodup := by
  induction l using snoc_ind with
  | h0 => simp
  | h1 l y ih =>
    rw [uq_snoc]
    split
    · exact ih
    · rename_i h
      rw [List.nodup_append]
      refine ⟨ih, by simp, fun a ha b hb e => ?_⟩
      rw [List.mem_singleton.mp hb] at e
      exact h (e ▸ ha)
theorem uq_length (l : List α) : (uq l).length ≤ l.length := by
  induction l using snoc_ind with
  | h0 => simp
  | h1 l y ih =>
    rw [uq_snoc]
    split <;> simp <;> omega
theorem uq_sub (l : List α) {r : List α} (h : ∀ x ∈ r, x ∈ l) : uq (l ++ r) = uq l := by
  induction r using snoc_ind with
  | h0 => simp
  | h1 r y ih =>
    rw [← List.append_assoc, uq_snoc, ih fun x hx => h x (by simp [hx])]
    rw [if_pos (mem_uq.mpr (h y (by simp)))]
/-- the place of a thing -/
def ix (u : List α) (x : α) : Int := (u.idxOf x : Nat)
def ch (l : List α) : List Int := l.map (ix (uq l))
theorem ch_length (l : List α) : (ch l).length = l.length := by simp [ch]
theorem ix_append {u v : List α} {x : α} (h : x ∈ u) : ix (u ++ v) x = ix u x := by
  unfold ix
  rw [List.idxOf_append, if_pos h]
theorem ix_new {u v : List α} {x : α} (h : x ∉ u) : ix (u ++ x :: v) x = u.length := by
  unfold ix
  rw [List.idxOf_append, if_neg h]
  simp
theorem ch_snoc (l : List α) (x : α) : ch (l ++ [x]) = ch l ++ [ix (uq (l ++ [x])) x] := by
  unfold ch
  rw [List.map_append, List.map_cons, List.map_nil]
  congr 1
  refine List.map_congr_left fun y hy => ?_
  rw [uq_snoc]
  split
  · rfl
  · exact ix_append (mem_uq.mpr hy)
theorem ix_lt {u : List α} {x : α} (h : x ∈ u) : ix u x < u.length := by
  unfold ix
  exact Int.ofNat_lt.mpr (List.idxOf_lt_length_of_mem h)
theorem ix_nn {u : List α} {x : α} : 0 ≤ ix u x := Int.natCast_nonneg _
theorem ix_get {u : List α} {x : α} (h : x ∈ u) : u[(ix u x).toNat]? = some x := by
  unfold ix
  have hl := List.idxOf_lt_length_of_mem h
  rw [Int.toNat_natCast, List.getElem?_eq_getElem hl, List.getElem_idxOf hl]
theorem ix_inj {u : List α} {x y : α} (hx : x ∈ u) (hy : y ∈ u) (h : ix u x = ix u y) : x = y := by
  have a := ix_get hx
  have b := ix_get hy
  rw [h, b] at a
  exact (Option.some.inj a).symm
theorem uq_map (f : α → β) {l : List α} (hf : ∀ x ∈ l, ∀ y ∈ l, f x = f y → x = y) : uq (l.map f) = (uq l).map f := by
  induction l using snoc_ind with
  | h0 => rfl
  | h1 l x ih =>
    rw [List.map_append, List.map_cons, List.map_nil, uq_snoc, ih fun a ha b hb => hf a (by simp [ha]) b (by simp [hb]), uq_snoc]
    have e : f x ∈ (uq l).map f ↔ x ∈ uq l := by
      constructor
      · intro h
        obtain ⟨y, hy, q⟩ := List.mem_map.mp h
        have := hf y (by simp [mem_uq.mp hy]) x (by simp) q
        exact this ▸ hy
      · intro h; exact List.mem_map_of_mem h
    by_cases h : x ∈ uq l
    · rw [if_pos h, if_pos (e.mpr h)]
    · rw [if_neg h, if_neg fun q => h (e.mp q)]
      simp
/-- numbers from 0 on -/
def upto (m : Nat) : List Int := (List.range m).map fun i : Nat => (i : Int)
theorem upto_length (m : Nat) : (upto m).length = m := by simp [upto]
theorem mem_upto {m : Nat} {i : Int} : i ∈ upto m ↔ 0 ≤ i ∧ i < m := by
  unfold upto
  rw [List.mem_map]
  constructor
  · rintro ⟨k, hk, rfl⟩
    have := List.mem_range.mp hk
    omega
  · rintro ⟨h, h2⟩
    exact ⟨i.toNat, List.mem_range.mpr (by omega), by omega⟩
theorem upto_nodup (m : Nat) : (upto m).Nodup := by
  unfold upto
  rw [List.nodup_iff_pairwise_ne, List.pairwise_map]
  exact (List.nodup_iff_pairwise_ne.mp List.nodup_range).imp fun h e => h (by omega)
theorem map_ix {u : List α} (h : u.Nodup) : u.map (ix u) = upto u.length := by
  unfold upto
  apply List.ext_getElem
  · simp
  · intro i h1 h2
    simp only [List.getElem_map, List.getElem_range]
    have hi : i < u.length := by simpa using h1
    unfold ix
    rw [h.idxOf_getElem i hi]
theorem uq_ch (l : List α) : uq (ch l) = upto (uq l).length := by
  unfold ch
  rw [uq_map]
  · exact map_ix (uq_nodup l)
  · intro x hx y hy h
    exact ix_inj (mem_uq.mpr hx) (mem_uq.mpr hy) h
theorem ix_upto {m : Nat} {i : Int} (h : 0 ≤ i) (h2 : i < m) : ix (upto m) i = i := by
  have e := ix_get (mem_upto.mpr ⟨h, h2⟩)
  have hl := ix_lt (mem_upto.mpr ⟨h, h2⟩)
  rw [upto_length] at hl
  have h0 : 0 ≤ ix (upto m) i := ix_nn
  generalize ix (upto m) i = k at e hl h0
  unfold upto at e
  rw [List.getElem?_map, List.getElem?_range (by omega)] at e
  simp only [Option.map_some, Option.some.injEq] at e
  omega
def IsCh (l : List Int) : Prop := ch l = l
theorem ch_ch (l : List α) : IsCh (ch l) := by
  unfold IsCh
  rw [ch, uq_ch]
  have : ∀ k ∈ ch l, ix (upto (uq l).length) k = k := by
    intro k hk
    obtain ⟨x, hx, rfl⟩ := List.mem_map.mp hk
    exact ix_upto ix_nn (ix_lt (mem_uq.mpr hx))
  conv => rhs; rw [← List.map_id (ch l)]
  exact List.map_congr_left this
theorem IsCh.uq {l : List Int} (h : IsCh l) : uq l = upto (uq l).length := by
  have := uq_ch l
  rw [h] at this
  exact this
theorem IsCh.mem {l : List Int} (h : IsCh l) {x : Int} : x ∈ l ↔ 0 ≤ x ∧ x < (Ch.uq l).length := by
  rw [← mem_uq, h.uq, mem_upto, upto_length]
theorem IsCh.app {l r : List Int} (h : IsCh l) (s : ∀ x ∈ r, x ∈ l) : IsCh (l ++ r) := by
  unfold IsCh ch
  rw [uq_sub l s, h.uq]
  conv => rhs; rw [← List.map_id (l ++ r)]
  refine List.map_congr_left fun x hx => ?_
  have hm : x ∈ l := by
    rcases List.mem_append.mp hx with q | q
    · exact q
    · exact s x q
  have := h.mem.mp hm
  exact ix_upto this.1 this.2
/-- the least number of numbers -/
def mm (l : List Int) : Nat := (uq l).length
end

/-! ### neighbours -/
def prs {α : Type} (l : List α) : List (α × α) := l.zip l.tail
/-- no like neighbours -/
def NN {α : Type} (l : List α) : Prop := ∀ p ∈ prs l, p.1 ≠ p.2
@[simp] theorem prs_nil {α : Type} : prs ([] : List α) = [] := rfl
@[simp] theorem prs_one {α : Type} {x : α} : prs [x] = [] := rfl
@[simp] theorem prs_cons {α : Type} {x y : α} {r : List α} : prs (x :: y :: r) = (x, y) :: prs (y :: r) := rfl
theorem prs_length {α : Type} (l : List α) : (prs l).length = l.length - 1 := by
  unfold prs
  rw [List.length_zip, List.length_tail]
  omega
theorem prs_mem {α : Type} {l : List α} {p : α × α} (h : p ∈ prs l) : p.1 ∈ l ∧ p.2 ∈ l := by
  unfold prs at h
  obtain ⟨a, b⟩ := p
  have := List.of_mem_zip h
  exact ⟨this.1, List.mem_of_mem_tail this.2⟩
theorem NN.map {α β : Type} (f : α → β) {l : List α} (h : NN l) (hf : ∀ x ∈ l, ∀ y ∈ l, f x = f y → x = y) : NN (l.map f) := by
  intro p hp e
  unfold prs at hp
  rw [← List.map_tail, List.zip_map, List.mem_map] at hp
  obtain ⟨q, hq, rfl⟩ := hp
  have hm := prs_mem hq
  exact h q hq (hf _ hm.1 _ hm.2 e)
theorem NN.ch {α : Type} [DecidableEq α] {l : List α} (h : NN l) : NN (ch l) := by
  unfold Ch.ch
  exact h.map _ fun x hx y hy e => ix_inj (mem_uq.mpr hx) (mem_uq.mpr hy) e

/-! ### runs -/
section
variable {α : Type} [DecidableEq α]
def rle : List α → List (α × Nat)
  | [] => []
  | x :: r => match rle r with
    | (y, k) :: t => if x = y then (x, k + 1) :: t else (x, 1) :: (y, k) :: t
    | [] => [(x, 1)]
def rlS (f : List (α × Nat)) (x : α) : List (α × Nat) := match f.getLast? with
  | some (y, k) => if y = x then f.dropLast ++ [(x, k + 1)] else f ++ [(x, 1)]
  | none => [(x, 1)]
theorem rle_ne {l : List α} (h : l ≠ []) : rle l ≠ [] := by
  cases l with
  | nil => exact absurd rfl h
  | cons x r =>
    unfold rle
    split
    · split <;> simp
    · simp
theorem rlS_cons {a : α × Nat} {f : List (α × Nat)} (h : f ≠ []) (x : α) : rlS (a :: f) x = a :: rlS f x := by
  unfold rlS
  rw [List.getLast?_cons_of_ne_nil h]
  cases hf : f.getLast? with
  | none => exact absurd (List.getLast?_eq_none_iff.mp hf) h
  | some p =>
    obtain ⟨y, k⟩ := p
    dsimp only
    rw [List.dropLast_cons_of_ne_nil h]
    split <;> simp
theorem rle_cons_head {x : α} {r : List α} : ∃ k t, rle (x :: r) = (x, k) :: t := by
  unfold rle
  split
  · split
    · exact ⟨_, _, rfl⟩
    · exact ⟨_, _, rfl⟩
  · exact ⟨_, _, rfl⟩
theorem rle_snoc (l : List α) (x : α) : rle (l ++ [x]) = rlS (rle l) x := by
  induction l with
  | nil => rfl
  | cons a l ih =>
    rw [List.cons_append, rle, ih]
    cases l with
    | nil =>
      by_cases h : a = x <;> simp [rlS, rle, h]
    | cons b l =>
      obtain ⟨k, t, e⟩ := rle_cons_head (x := b) (r := l)
      have e3 : rle (a :: b :: l) = if a = b then (a, k + 1) :: t else (a, 1) :: (b, k) :: t := by
        rw [rle, e]
      rw [e3, e]
      by_cases ht : t = []
      · subst ht
        by_cases hb : b = x
        · subst hb
          by_cases hab : a = b
          · subst hab; simp [rlS]
          · simp [rlS, hab]
        · by_cases hab : a = b
          · subst hab; simp [rlS, hb]
          · simp [rlS, hab, hb]
      · rw [rlS_cons ht]
        dsimp only
        by_cases hab : a = b
        · rw [if_pos hab, if_pos hab, rlS_cons ht]
        · rw [if_neg hab, if_neg hab, rlS_cons (by simp), rlS_cons ht]
theorem rle_mem {l : List α} {p : α × Nat} (h : p ∈ rle l) : p.1 ∈ l ∧ 1 ≤ p.2 ∧ p.2 ≤ l.length := by
  induction l generalizing p with
  | nil => simp [rle] at h
  | cons x r ih =>
    rw [rle] at h
    split at h
    · rename_i y k t e
      have hy := ih (p := (y, k)) (by rw [e]; simp)
      have ht : ∀ q ∈ t, q.1 ∈ r ∧ 1 ≤ q.2 ∧ q.2 ≤ r.length := fun q hq => ih (by rw [e]; simp [hq])
      split at h
      · rcases List.mem_cons.mp h with rfl | h
        · simp at hy ⊢; omega
        · have := ht p h
          simp at this ⊢; exact ⟨.inr this.1, this.2.1, by omega⟩
      · rcases List.mem_cons.mp h with rfl | h
        · simp
        · rcases List.mem_cons.mp h with rfl | h
          · simp at hy ⊢; exact ⟨.inr hy.1, hy.2.1, by omega⟩
          · have := ht p h
            simp at this ⊢; exact ⟨.inr this.1, this.2.1, by omega⟩
    · simp at h
      subst h
      simp
theorem rle_length (l : List α) : (rle l).length ≤ l.length := by
  induction l with
  | nil => simp [rle]
  | cons x r ih =>
    rw [rle]
    split
    · rename_i y k t e
      rw [e] at ih
      split <;> simp at ih ⊢ <;> omega
    · simp
theorem rle_NN (l : List α) : ∀ p ∈ prs (rle l), p.1.1 ≠ p.2.1 := by
  induction l with
  | nil => simp [rle]
  | cons x r ih =>
    rw [rle]
    split
    · rename_i y k t e
      rw [e] at ih
      split
      · rename_i hxy
        subst hxy
        cases t with
        | nil => simp
        | cons q t =>
          rw [prs_cons] at ih ⊢
          intro p hp
          rcases List.mem_cons.mp hp with rfl | hp
          · exact ih ((x, k), q) (by simp)
          · exact ih p (List.mem_cons_of_mem _ hp)
      · rename_i hxy
        rw [prs_cons]
        intro p hp
        rcases List.mem_cons.mp hp with rfl | hp
        · exact hxy
        · exact ih p hp
    · simp
theorem rle_nn (l : List α) : NN (rle l) := fun p hp e => rle_NN l p hp (congrArg Prod.fst e)
theorem rle_take (x : α) (r : List α) : rle (x :: r) = (x, 1 + (r.takeWhile fun y => decide (y = x)).length) :: rle (r.dropWhile fun y => decide (y = x)) := by
  induction r with
  | nil => rfl
  | cons y r ih =>
    by_cases h : y = x
    · subst h
      rw [rle, ih]
      simp
      omega
    · obtain ⟨k, t, e⟩ := rle_cons_head (x := y) (r := r)
      rw [rle, e]
      simp [h, Ne.symm h, e]
end

/-! ### pairs -/
/-- pair rounds' units, told the left numbers -/
def pru (L : List Int) : List Int → List (List Int)
  | [] => []
  | [x] => [[x]]
  | x :: y :: r => if x ∈ L ∧ y ∉ L then [x, y] :: pru L r else [x] :: pru L (y :: r)
/-- the last unit is of one left number -/
def opn (L : List Int) (f : List (List Int)) : Option Int := match f.getLast? with
  | some [y] => if y ∈ L then some y else none
  | _ => none
def prS (L : List Int) (f : List (List Int)) (x : Int) : List (List Int) := match opn L f with
  | some y => if x ∈ L then f ++ [[x]] else f.dropLast ++ [[y, x]]
  | none => f ++ [[x]]
def prf (L : List Int) (l : List Int) : List (List Int) := l.foldl (prS L) []
theorem prf_snoc (L l : List Int) (x : Int) : prf L (l ++ [x]) = prS L (prf L l) x := by
  unfold prf
  rw [List.foldl_append]
  rfl
theorem prS_app (L : List Int) (g f : List (List Int)) (h : f ≠ []) (x : Int) : prS L (g ++ f) x = g ++ prS L f x := by
  have e : opn L (g ++ f) = opn L f := by
    unfold opn
    rw [List.getLast?_append]
    cases hf : f.getLast? with
    | none => exact absurd (List.getLast?_eq_none_iff.mp hf) h
    | some p => rfl
  unfold prS
  rw [e]
  cases opn L f with
  | none => simp
  | some y =>
    dsimp only
    rw [List.dropLast_append_of_ne_nil h]
    split <;> simp
theorem prS_ne (L : List Int) (f : List (List Int)) (x : Int) : prS L f x ≠ [] := by
  unfold prS
  split
  · split <;> simp
  · simp
theorem fold_app (L : List Int) (g : List (List Int)) : ∀ (l : List Int) (f : List (List Int)), f ≠ [] → l.foldl (prS L) (g ++ f) = g ++ l.foldl (prS L) f
  | [], f, _ => rfl
  | x :: l, f, h => by
    rw [List.foldl_cons, List.foldl_cons, prS_app L g f h x]
    exact fold_app L g l _ (prS_ne L f x)
theorem prf_pru (L : List Int) : ∀ l : List Int, prf L l = pru L l
  | [] => rfl
  | [x] => rfl
  | x :: y :: r => by
    rw [pru]
    have e0 : prf L (x :: y :: r) = r.foldl (prS L) (prS L [[x]] y) := rfl
    rw [e0]
    by_cases h : x ∈ L ∧ y ∉ L
    · rw [if_pos h, ← prf_pru L r]
      have e : prS L [[x]] y = [[x, y]] := by simp [prS, opn, h.1, h.2]
      rw [e]
      cases r with
      | nil => rfl
      | cons z r =>
        have e1 : prS L [[x, y]] z = [[x, y]] ++ [[z]] := by simp [prS, opn]
        rw [List.foldl_cons, e1, fold_app L _ r _ (by simp)]
        rfl
    · rw [if_neg h, ← prf_pru L (y :: r)]
      have e : prS L [[x]] y = [[x]] ++ [[y]] := by
        by_cases hx : x ∈ L
        · have hy : y ∈ L := Classical.byContradiction fun q => h ⟨hx, q⟩
          simp [prS, opn, hx, hy]
        · simp [prS, opn, hx]
      rw [e, fold_app L _ r _ (by simp)]
      rfl
theorem pru_mem {L : List Int} : ∀ {l : List Int} {u : List Int}, u ∈ pru L l → (∃ x, u = [x] ∧ x ∈ l) ∨ ∃ x y, u = [x, y] ∧ x ∈ L ∧ y ∉ L ∧ x ∈ l ∧ y ∈ l
  | [], u, h => by simp [pru] at h
  | [x], u, h => by simp [pru] at h; exact .inl ⟨x, h, by simp⟩
  | x :: y :: r, u, h => by
    rw [pru] at h
    split at h
    · rename_i q
      rcases List.mem_cons.mp h with rfl | h
      · exact .inr ⟨x, y, rfl, q.1, q.2, by simp, by simp⟩
      · rcases pru_mem h with ⟨z, rfl, hz⟩ | ⟨a, b, rfl, h1, h2, h3, h4⟩
        · exact .inl ⟨z, rfl, by simp [hz]⟩
        · exact .inr ⟨a, b, rfl, h1, h2, by simp [h3], by simp [h4]⟩
    · rcases List.mem_cons.mp h with rfl | h
      · exact .inl ⟨x, rfl, by simp⟩
      · rcases pru_mem h with ⟨z, rfl, hz⟩ | ⟨a, b, rfl, h1, h2, h3, h4⟩
        · exact .inl ⟨z, rfl, List.mem_cons_of_mem _ hz⟩
        · exact .inr ⟨a, b, rfl, h1, h2, List.mem_cons_of_mem _ h3, List.mem_cons_of_mem _ h4⟩
theorem pru_ne {L : List Int} {l : List Int} (h : l ≠ []) : pru L l ≠ [] := by
  match l, h with
  | [x], _ => simp [pru]
  | x :: y :: r, _ => rw [pru]; split <;> simp
theorem pru_length {L : List Int} : ∀ l : List Int, (pru L l).length ≤ l.length
  | [] => by simp [pru]
  | [x] => by simp [pru]
  | x :: y :: r => by
    rw [pru]
    split
    · have := pru_length (L := L) r
      simp; omega
    · have := pru_length (L := L) (y :: r)
      simp at this ⊢; omega
end PyI.Ch

/-! JD_: dicts of first comings; loops over what is told as a map. -/
namespace PyI
open Ch PySem

theorem kyOf_kyD (k : Ky) : keyOf (kyD k) = some k := by cases k <;> rfl
theorem keysOf_kyD : ∀ l : List Ky, keysOf (l.map kyD) = some l
  | [] => rfl
  | k :: r => by simp only [List.map_cons, keysOf, kyOf_kyD, keysOf_kyD r, Option.bind_some, Option.map_some]
theorem kyD_inj {a b : Ky} (h : kyD a = kyD b) : a = b := by
  have := congrArg keyOf h
  rw [kyOf_kyD, kyOf_kyD] at this
  exact Option.some.inj this
/-- the entries of a dict of indexes -/
def dki {α κ : Type} (f : α → κ) (u : List α) : List (κ × D) := u.zipIdx.map fun p => (f p.1, D.int (p.2 : Nat))
section
variable {α κ : Type} [DecidableEq α] [DecidableEq κ] {f : α → κ}
theorem dki_snoc (u : List α) (x : α) : dki f (u ++ [x]) = dki f u ++ [(f x, .int (u.length : Nat))] := by
  unfold dki
  rw [List.zipIdx_append, List.map_append]
  simp
theorem dki_length (u : List α) : (dki f u).length = u.length := by simp [dki]
theorem dki_keys (u : List α) : (dki f u).map (·.1) = u.map f := by
  unfold dki
  rw [List.map_map]
  show List.map (f ∘ Prod.fst) u.zipIdx = _
  rw [← List.map_map, List.zipIdx_map_fst]
theorem valD_app {l r : List (κ × D)} {k : κ} : valD (l ++ r) k = (valD l k).or (valD r k) := by
  unfold valD
  rw [List.find?_append]
  cases List.find? (fun kv => decide (kv.1 = k)) l <;> rfl
theorem valD_none {l : List (κ × D)} {k : κ} (h : k ∉ l.map (·.1)) : valD l k = none := by
  unfold valD
  rw [Option.map_eq_none_iff, List.find?_eq_none]
  intro p hp
  simp only [decide_eq_true_eq]
  intro e
  exact h (List.mem_map.mpr ⟨p, hp, e⟩)
theorem putD_new {l : List (κ × D)} {k : κ} (h : k ∉ l.map (·.1)) (v : D) : putD l k v = l ++ [(k, v)] := by
  unfold putD
  rw [if_neg]
  simp only [List.any_eq_true, decide_eq_true_eq, not_exists, not_and]
  intro p hp e
  exact h (List.mem_map.mpr ⟨p, hp, e⟩)
theorem valD_dki (hf : ∀ x y, f x = f y → x = y) (u : List α) (x : α) : valD (dki f u) (f x) = if x ∈ u then some (.int (ix u x)) else none := by
  induction u using snoc_ind with
  | h0 => rfl
  | h1 u y ih =>
    rw [dki_snoc, valD_app, ih]
    by_cases h : x ∈ u
    · rw [if_pos h, if_pos (by simp [h]), ix_append h]
      rfl
    · rw [if_neg h]
      by_cases hy : y = x
      · subst hy
        rw [if_pos (by simp), ix_new h]
        simp [valD]
      · have hy2 : ¬ f y = f x := fun e => hy (hf _ _ e)
        rw [if_neg (by simp [h, Ne.symm hy])]
        simp [valD, hy2]
end

/-! ### what stands at a number, by its cell -/
def kdC : Option Cell → Option Kd
  | some (.lst _) => some .list
  | some (.dk _) => some .dict
  | some (.dt _) => some .dict
  | _ => none
def lstC : Option Cell → Option (List D)
  | some (.lst xs) => some xs
  | _ => none
def dkC : Option Cell → Option (List (Ky × D))
  | some (.dk kvs) => some kvs
  | _ => none
def dtC : Option Cell → Option (List (List Ky × D))
  | some (.dt kvs) => some kvs
  | some (.dk []) => some []
  | _ => none
def getC (c : Option Cell) (k : D) : Option (Option D) := match k with
  | .tup l => (dtC c).bind fun kvs => (keysOf l).map fun y => valD kvs y
  | k => (dkC c).bind fun kvs => (keyOf k).map fun y => valD kvs y
def putC (c : Option Cell) (k v : D) : Option Cell := match k with
  | .tup l => (dtC c).bind fun kvs => if kvs.length < 16777216 then (keysOf l).map fun y => .dt (putD kvs y v) else none
  | k => (dkC c).bind fun kvs => if kvs.length < 16777216 then (keyOf k).map fun y => .dk (putD kvs y v) else none
def lenC : Option Cell → Option Nat
  | some (.lst xs) => some xs.length
  | some (.dk kvs) => some kvs.length
  | some (.dt kvs) => some kvs.length
  | _ => none
def tupC : Option Cell → Option (List D)
  | some (.lst xs) => some xs
  | some (.dk kvs) => some (kvs.map fun p => kyD p.1)
  | some (.dt kvs) => some (kvs.map fun p => .tup (p.1.map kyD))
  | _ => none
def truC : Option Cell → Option Bool
  | some (.lst xs) => some (!xs.isEmpty)
  | some (.dk kvs) => some (!kvs.isEmpty)
  | _ => none
section
variable {st : Sto} {n : Nat} {xs : List D} {kvs : List (Ky × D)} {kvt : List (List Ky × D)}
@[simp] theorem kdOf_ref : kdOf st (.ref n) = kdC st[n]? := by
  unfold kdOf kdC
  all_goals (try dsimp only)
  all_goals (cases st[n]? with
  | none => rfl
  | some c => cases c <;> rfl)
@[simp] theorem listAt_C : listAt st n = lstC st[n]? := by
  unfold listAt lstC
  cases st[n]? with
  | none => rfl
  | some c => cases c <;> rfl
@[simp] theorem dkAt_C : dkAt st n = dkC st[n]? := by
  unfold dkAt dkC
  cases st[n]? with
  | none => rfl
  | some c => cases c <;> rfl
@[simp] theorem dtAt_C : dtAt st n = dtC st[n]? := by
  unfold dtAt dtC
  all_goals (cases st[n]? with
  | none => rfl
  | some c => cases c with
    | dk l => cases l <;> rfl
    | _ => rfl)
@[simp] theorem dget_C {k : D} : dget st n k = getC st[n]? k := by
  unfold dget getC
  simp only [dkAt_C, dtAt_C]
  all_goals (cases k <;> rfl)
@[simp] theorem dput_C {k v : D} : dput st n k v = (putC st[n]? k v).map fun c => st.set n c := by
  unfold dput putC
  simp only [dkAt_C, dtAt_C]
  cases k <;> dsimp only
  case tup l =>
    cases dtC st[n]? with
    | none => rfl
    | some kvs =>
      simp only [Option.bind_some]
      split
      · cases keysOf l <;> rfl
      · rfl
  all_goals
    cases dkC st[n]? with
    | none => rfl
    | some kvs =>
      simp only [Option.bind_some, keyOf]
      split <;> rfl
@[simp] theorem fLen_ref {Q : D → Sto → Prop} : Ok (fLen [.ref n] st) Q = Som (lenC st[n]?) (fun k => Q (.int k) st) := by
  unfold fLen
  simp only [seqOf, listAt_C]
  cases st[n]? with
  | none => with_unfolding_all rfl
  | some c => cases c <;> with_unfolding_all rfl
@[simp] theorem fTuple_ref {Q : D → Sto → Prop} : Ok (fTuple [.ref n] st) Q = Som (tupC st[n]?) (fun l => Q (.tup l) st) := by
  unfold fTuple
  simp only [seqOf, listAt_C]
  cases st[n]? with
  | none => with_unfolding_all rfl
  | some c => cases c <;> with_unfolding_all rfl
@[simp] theorem truth_ref : D.truth st (.ref n) = truC st[n]? := by
  unfold D.truth truC
  all_goals (try dsimp only)
  all_goals (cases st[n]? with
  | none => rfl
  | some c => cases c <;> rfl)
@[simp] theorem walkOf_ref : walkOf st (.ref n) = (lstC st[n]?).map fun xs => ⟨xs, some (n, .lst xs)⟩ := by
  unfold walkOf lstC
  dsimp only
  cases st[n]? with
  | none => rfl
  | some c => cases c <;> rfl
@[simp] theorem lwalk_ref : lwalk st (.ref n) = (lstC st[n]?).map fun xs => ⟨xs, some (n, .lst xs)⟩ := by
  unfold lwalk lstC
  dsimp only
  cases st[n]? with
  | none => rfl
  | some c => cases c <;> rfl
@[simp] theorem seqOf_ref : seqOf st (.ref n) = lstC st[n]? := by
  show listAt st n = _
  exact listAt_C
@[simp] theorem kdC_lst : kdC (some (.lst xs)) = some .list := rfl
@[simp] theorem kdC_dk : kdC (some (.dk kvs)) = some .dict := rfl
@[simp] theorem kdC_dt : kdC (some (.dt kvt)) = some .dict := rfl
@[simp] theorem lstC_lst : lstC (some (.lst xs)) = some xs := rfl
@[simp] theorem lstC_dk : lstC (some (.dk kvs)) = none := rfl
@[simp] theorem lstC_dt : lstC (some (.dt kvt)) = none := rfl
@[simp] theorem dkC_dk : dkC (some (.dk kvs)) = some kvs := rfl
@[simp] theorem dtC_dt : dtC (some (.dt kvt)) = some kvt := rfl
@[simp] theorem dtC_nil : dtC (some (.dk [])) = some [] := rfl
@[simp] theorem lenC_lst : lenC (some (.lst xs)) = some xs.length := rfl
@[simp] theorem lenC_dk : lenC (some (.dk kvs)) = some kvs.length := rfl
@[simp] theorem lenC_dt : lenC (some (.dt kvt)) = some kvt.length := rfl
@[simp] theorem tupC_lst : tupC (some (.lst xs)) = some xs := rfl
@[simp] theorem truC_lst : truC (some (.lst xs)) = some (!xs.isEmpty) := rfl
@[simp] theorem truC_dk : truC (some (.dk kvs)) = some (!kvs.isEmpty) := rfl
/-! the rest, by the value -/
@[simp] theorem truth_non : D.truth st .non = some false := rfl
@[simp] theorem truth_bl {b : Bool} : D.truth st (.bl b) = some b := rfl
@[simp] theorem truth_int {i : Int} : D.truth st (.int i) = some (!decide (i = 0)) := by
  show some (i != 0) = _
  by_cases h : i = 0 <;> simp [h]
@[simp] theorem truth_tup {l : List D} : D.truth st (.tup l) = some (!l.isEmpty) := rfl
@[simp] theorem truth_rol {l : List D} : D.truth st (.rol l) = some (!l.isEmpty) := rfl
@[simp] theorem kdOf_non : kdOf st .non = some .none := rfl
@[simp] theorem kdOf_bl {b : Bool} : kdOf st (.bl b) = some .bool := rfl
@[simp] theorem kdOf_int {i : Int} : kdOf st (.int i) = some .int := rfl
@[simp] theorem kdOf_str {x : List Nat} : kdOf st (.str x) = some .str := rfl
@[simp] theorem kdOf_tup {l : List D} : kdOf st (.tup l) = some .tuple := rfl
@[simp] theorem kdOf_rol {l : List D} : kdOf st (.rol l) = some .list := rfl
@[simp] theorem isTy_eq {t : Ty} {d : D} : isTy t d st = (kdOf st d).map (kdIs t) := rfl
@[simp] theorem seqOf_tup {l : List D} : seqOf st (.tup l) = some l := rfl
@[simp] theorem seqOf_rol {l : List D} : seqOf st (.rol l) = some l := rfl
@[simp] theorem walkOf_tup {l : List D} : walkOf st (.tup l) = some ⟨l, none⟩ := rfl
@[simp] theorem walkOf_rol {l : List D} : walkOf st (.rol l) = some ⟨l, none⟩ := rfl
@[simp] theorem walkOf_str {x : List Nat} : walkOf st (.str x) = some ⟨x.map fun c => .str [c], none⟩ := rfl
@[simp] theorem lwalk_rol {l : List D} : lwalk st (.rol l) = some ⟨l, none⟩ := rfl
@[simp] theorem fLen_tup {Q : D → Sto → Prop} {l : List D} : Ok (fLen [.tup l] st) Q = Q (.int l.length) st := by with_unfolding_all rfl
@[simp] theorem fLen_rol {Q : D → Sto → Prop} {l : List D} : Ok (fLen [.rol l] st) Q = Q (.int l.length) st := by with_unfolding_all rfl
@[simp] theorem fLen_str {Q : D → Sto → Prop} {x : List Nat} : Ok (fLen [.str x] st) Q = (x.length ≤ 16777216 ∧ Q (.int x.length) st) := by
  unfold fLen
  simp only [Ok_guard, decide_eq_true_eq, Ok_ok]
@[simp] theorem fTuple_tup {Q : D → Sto → Prop} {l : List D} : Ok (fTuple [.tup l] st) Q = Q (.tup l) st := by with_unfolding_all rfl
@[simp] theorem fTuple_rol {Q : D → Sto → Prop} {l : List D} : Ok (fTuple [.rol l] st) Q = Q (.tup l) st := by with_unfolding_all rfl
def un2 (f : D → D → Option Env) : List D → Option Env
  | [x, y] => f x y
  | _ => none
def un3 (f : D → D → D → Option Env) : List D → Option Env
  | [x, y, z] => f x y z
  | _ => none
@[simp] theorem un2_2 {f : D → D → Option Env} {x y : D} : un2 f [x, y] = f x y := rfl
@[simp] theorem un3_3 {f : D → D → D → Option Env} {x y z : D} : un3 f [x, y, z] = f x y z := rfl
@[simp] theorem tgSet_name {i : Nat} {d : D} {e : Env} : tgSet st (.name i) d e = some (e.set i (some d)) := by simp [tgSet]
@[simp] theorem tgSet_two {a b : Tg} {d : D} {e : Env} : tgSet st (.two a b) d e = (seqOf st d).bind (un2 fun x y => (tgSet st a x e).bind fun e => tgSet st b y e) := by
  simp only [tgSet]
  cases seqOf st d with
  | none => rfl
  | some l =>
    match l with
    | [] => rfl
    | [_] => rfl
    | [_, _] => rfl
    | _ :: _ :: _ :: _ => rfl
@[simp] theorem tgSet_three {a b c : Tg} {d : D} {e : Env} : tgSet st (.three a b c) d e = (seqOf st d).bind (un3 fun x y z => (tgSet st a x e).bind fun e => (tgSet st b y e).bind fun e => tgSet st c z e) := by
  simp only [tgSet]
  cases seqOf st d with
  | none => rfl
  | some l =>
    match l with
    | [] => rfl
    | [_] => rfl
    | [_, _] => rfl
    | [_, _, _] => rfl
    | _ :: _ :: _ :: _ :: _ => rfl
@[simp] theorem wipeE_nil {e : Env} : wipeE e [] = e := rfl
@[simp] theorem wipeE_cons {e : Env} {v : Nat} {vs : List Nat} : wipeE e (v :: vs) = (wipeE e vs).set v none := rfl
@[simp] theorem ncOf_none : ncOf .none = true := rfl
@[simp] theorem ncOf_some {e : IE} : ncOf (.some e) = false := rfl
variable {i j : Int} {a b d : D} {Q : D → Sto → Prop}
@[simp] theorem cmp_lt : cmpB .lt (.int i) (.int j) st = some (decide (i < j)) := rfl
@[simp] theorem cmp_le : cmpB .le (.int i) (.int j) st = some (decide (i ≤ j)) := rfl
@[simp] theorem cmp_gt : cmpB .gt (.int i) (.int j) st = some (decide (j < i)) := rfl
@[simp] theorem cmp_ge : cmpB .ge (.int i) (.int j) st = some (decide (j ≤ i)) := rfl
@[simp] theorem cmp_eq : cmpB .eq a b st = eqD st a b := rfl
@[simp] theorem cmp_ne : cmpB .ne a b st = (eqD st a b).map fun c => !c := rfl
@[simp] theorem cmp_is : cmpB .isN a .non st = some (decide (a = .non)) := rfl
@[simp] theorem cmp_isnt : cmpB .notN a .non st = some (!decide (a = .non)) := rfl
@[simp] theorem cmp_in : cmpB .inn a b st = inB a b st := rfl
@[simp] theorem cmp_nin : cmpB .nin a b st = (inB a b st).map fun c => !c := rfl
/-- in a list, in a dict -/
def inC (c : Option Cell) (a : D) : Option Bool := match lstC c with
  | some xs => inD a xs
  | none => (getC c a).map fun o => o.isSome
@[simp] theorem inB_ref : inB a (.ref n) st = inC st[n]? a := by
  unfold inB inC
  simp only [listAt_C, dget_C]
  all_goals (cases lstC st[n]? <;> rfl)
@[simp] theorem inC_lst : inC (some (.lst xs)) a = inD a xs := rfl
@[simp] theorem inC_dk : inC (some (.dk kvs)) a = (getC (some (.dk kvs)) a).map fun o => o.isSome := rfl
@[simp] theorem inC_dt : inC (some (.dt kvt)) a = (getC (some (.dt kvt)) a).map fun o => o.isSome := rfl
@[simp] theorem inB_tup {l : List D} : inB a (.tup l) st = inD a l := by cases a <;> rfl
@[simp] theorem bin_addi : Ok (bin2 .add (.int i) (.int j) st) Q = Q (.int (i + j)) st := by with_unfolding_all rfl
@[simp] theorem bin_subi : Ok (bin2 .sub (.int i) (.int j) st) Q = Q (.int (i - j)) st := by with_unfolding_all rfl
@[simp] theorem bin_muli : Ok (bin2 .mul (.int i) (.int j) st) Q = (mulOk i j = true ∧ Q (.int (i * j)) st) := by
  simp only [bin2, Ok_guard, Ok_ok]
@[simp] theorem bin_fdivi : Ok (bin2 .fdiv (.int i) (.int j) st) Q = ((0 < j ∧ j < 1073741824) ∧ Q (.int (i / j)) st) := by
  simp only [bin2, Ok_guard, Ok_ok, decide_eq_true_eq]
@[simp] theorem bin_modi : Ok (bin2 .mod (.int i) (.int j) st) Q = (0 < j ∧ Q (.int (i % j)) st) := by
  simp only [bin2, Ok_guard, Ok_ok, decide_eq_true_eq]
@[simp] theorem bin_powi : Ok (bin2 .pow (.int i) (.int j) st) Q = ((0 ≤ j ∧ j ≤ 1000000 ∧ i.natAbs < 2 ^ 64) ∧ Q (.int (i ^ j.toNat)) st) := by
  simp only [bin2, Ok_guard, Ok_ok, decide_eq_true_eq]
@[simp] theorem bin_addt {x y : List D} : Ok (bin2 .add (.tup x) (.tup y) st) Q = (x.length + y.length ≤ 16777216 ∧ Q (.tup (x ++ y)) st) := by
  simp only [bin2, Ok_guard, Ok_ok, decide_eq_true_eq]
@[simp] theorem bin_adds {x y : List Nat} : Ok (bin2 .add (.str x) (.str y) st) Q = (x.length + y.length ≤ 16777216 ∧ Q (.str (x ++ y)) st) := by
  simp only [bin2, Ok_guard, Ok_ok, decide_eq_true_eq]
@[simp] theorem bin_mult {x : List D} : Ok (bin2 .mul (.tup x) (.int j) st) Q = ((x ≠ [] ∧ 2 ≤ j ∧ x.length * j.toNat ≤ 1000000) ∧ Q (.tup (List.replicate j.toNat x).flatten) st) := by
  simp only [bin2, Ok_guard, Ok_ok, decide_eq_true_eq]
@[simp] theorem bin_addr {m k : Nat} : Ok (bin2 .add (.ref m) (.ref k) st) Q = Som (lstC st[m]?) (fun x => Som (lstC st[k]?) (fun y => x.length + y.length ≤ 16777216 ∧ Q (.ref st.length) (st ++ [.lst (x ++ y)]))) := by
  simp only [bin2, listAt_C]
  cases lstC st[m]? with
  | none => with_unfolding_all rfl
  | some x =>
    cases lstC st[k]? with
    | none => with_unfolding_all rfl
    | some y => simp only [Ok_guard, Ok_newL, decide_eq_true_eq, Som_some]
@[simp] theorem index_tup {l : List D} : Ok (index2 (.tup l) (.int i) st) Q = Som (L2.atI l i) (fun d => Q d st) := by
  simp only [index2, Ok_one]
@[simp] theorem index_rol {l : List D} : Ok (index2 (.rol l) (.int i) st) Q = Som (L2.atI l i) (fun d => Q d st) := by
  simp only [index2, Ok_one]
@[simp] theorem index_str {x : List Nat} : Ok (index2 (.str x) (.int i) st) Q = (x.length ≤ 16777216 ∧ Som (L2.atI x i) (fun c => Q (.str [c]) st)) := by
  simp only [index2, Ok_guard, Ok_one, decide_eq_true_eq, Som_map]
/-- a list's item, or what a dict holds -/
def ixC (c : Option Cell) (k : D) : Option D := match lstC c with
  | some xs => match k with
    | .int i => L2.atI xs i
    | _ => none
  | none => (getC c k).bind id
@[simp] theorem ixC_lst : ixC (some (.lst xs)) (.int i) = L2.atI xs i := rfl
@[simp] theorem ixC_dk {k : D} : ixC (some (.dk kvs)) k = (getC (some (.dk kvs)) k).bind id := rfl
@[simp] theorem ixC_dt {k : D} : ixC (some (.dt kvt)) k = (getC (some (.dt kvt)) k).bind id := rfl
@[simp] theorem index_ref {k : D} : Ok (index2 (.ref n) k st) Q = Som (ixC st[n]? k) (fun d => Q d st) := by
  simp only [index2, listAt_C, dget_C, ixC]
  cases lstC st[n]? with
  | none => simp only [Ok_one]
  | some xs => cases k <;> simp only [Ok_one, Ok_stuck, Som_none]
/-- a cell with another item -/
def seC (c : Option Cell) (k v : D) : Option Cell := match lstC c with
  | some xs => match k with
    | .int i => (L2.ixN xs.length i).map fun j => .lst (xs.set j v)
    | _ => none
  | none => putC c k v
@[simp] theorem seC_lst {v : D} : seC (some (.lst xs)) (.int i) v = (L2.ixN xs.length i).map fun j => .lst (xs.set j v) := rfl
@[simp] theorem seC_dk {k v : D} : seC (some (.dk kvs)) k v = putC (some (.dk kvs)) k v := rfl
@[simp] theorem seC_dt {k v : D} : seC (some (.dt kvt)) k v = putC (some (.dt kvt)) k v := rfl
@[simp] theorem setI_ref {k v : D} : setI (.ref n) k v st = (seC st[n]? k v).map fun c => st.set n c := by
  simp only [setI, listAt_C, dput_C, seC]
  cases lstC st[n]? with
  | none => rfl
  | some xs =>
    cases k <;> simp only [Option.map_map, Option.map_none]
    rfl
@[simp] theorem slice_tup {l : List D} {lo hi : Option Int} : Ok (slice1 lo hi (.tup l) st) Q = Q (.tup (cutD l lo hi)) st := by with_unfolding_all rfl
@[simp] theorem slice_rol {l : List D} {lo hi : Option Int} : Ok (slice1 lo hi (.rol l) st) Q = Q (.ref st.length) (st ++ [.lst (cutD l lo hi)]) := by with_unfolding_all rfl
@[simp] theorem slice_str {x : List Nat} {lo hi : Option Int} : Ok (slice1 lo hi (.str x) st) Q = (x.length ≤ 16777216 ∧ Q (.str (cutD x lo hi)) st) := by
  simp only [slice1, Ok_guard, Ok_ok, decide_eq_true_eq]
@[simp] theorem slice_ref {lo hi : Option Int} : Ok (slice1 lo hi (.ref n) st) Q = Som (lstC st[n]?) (fun l => Q (.ref st.length) (st ++ [.lst (cutD l lo hi)])) := by
  simp only [slice1, listAt_C]
  cases lstC st[n]? <;> with_unfolding_all rfl
@[simp] theorem b_len {ds : List D} : blt .len ds st = fLen ds st := rfl
@[simp] theorem b_abs {ds : List D} : blt .abs ds st = fAbs ds st := rfl
@[simp] theorem b_int {ds : List D} : blt .int ds st = fInt ds st := rfl
@[simp] theorem b_list {ds : List D} : blt .list ds st = fList ds st := rfl
@[simp] theorem b_tuple {ds : List D} : blt .tuple ds st = fTuple ds st := rfl
@[simp] theorem b_sum {ds : List D} : blt .sum ds st = fSum ds st := rfl
@[simp] theorem b_all {ds : List D} : blt .all ds st = fAll ds st := rfl
@[simp] theorem b_any {ds : List D} : blt .any ds st = fAny ds st := rfl
@[simp] theorem b_max {ds : List D} : blt .max ds st = fMax ds st := rfl
@[simp] theorem b_min {ds : List D} : blt .min ds st = fMin ds st := rfl
@[simp] theorem b_repr {ds : List D} : blt .repr ds st = fRepr ds st := rfl
@[simp] theorem b_ord {ds : List D} : blt .ord ds st = fOrd ds st := rfl
@[simp] theorem b_sorted {ds : List D} : blt .sorted ds st = fSorted ds st := rfl
@[simp] theorem abs_int : Ok (fAbs [.int i] st) Q = Q (.int (if i < 0 then -i else i)) st := by with_unfolding_all rfl
@[simp] theorem int_int : Ok (fInt [.int i] st) Q = Q (.int i) st := by with_unfolding_all rfl
@[simp] theorem int_bl {c : Bool} : Ok (fInt [.bl c] st) Q = Q (.int (if c then 1 else 0)) st := by with_unfolding_all rfl
@[simp] theorem list_seq : Ok (fList [d] st) Q = Som (seqOf st d) (fun l => Q (.ref st.length) (st ++ [.lst l])) := by
  unfold fList
  dsimp only
  cases seqOf st d <;> with_unfolding_all rfl
@[simp] theorem sum_ref : Ok (fSum [.ref n] st) Q = Som (lstC st[n]?) (fun l => Som (intsOf l) (fun k => Q (.int k.sum) st)) := by
  unfold fSum
  simp only [listAt_C]
  cases lstC st[n]? with
  | none => with_unfolding_all rfl
  | some l => simp only [Option.bind_some, Som_some]; cases intsOf l <;> with_unfolding_all rfl
@[simp] theorem all_ref : Ok (fAll [.ref n] st) Q = Som (lstC st[n]?) (fun l => Som (blsOf l) (fun k => Q (.bl (k.all id)) st)) := by
  unfold fAll
  simp only [listAt_C]
  cases lstC st[n]? with
  | none => with_unfolding_all rfl
  | some l => simp only [Option.bind_some, Som_some]; cases blsOf l <;> with_unfolding_all rfl
@[simp] theorem any_ref : Ok (fAny [.ref n] st) Q = Som (lstC st[n]?) (fun l => Som (blsOf l) (fun k => Q (.bl (k.any id)) st)) := by
  unfold fAny
  simp only [listAt_C]
  cases lstC st[n]? with
  | none => with_unfolding_all rfl
  | some l => simp only [Option.bind_some, Som_some]; cases blsOf l <;> with_unfolding_all rfl
@[simp] theorem max_two : Ok (fMax [.int i, .int j] st) Q = Q (.int (if j > i then j else i)) st := by with_unfolding_all rfl
@[simp] theorem min_two : Ok (fMin [.int i, .int j] st) Q = Q (.int (if j < i then j else i)) st := by with_unfolding_all rfl
@[simp] theorem max_tup {l : List D} : Ok (fMax [.tup l] st) Q = Som (intsOf l) (fun k => Som (maxI k) (fun m => Q (.int m) st)) := by
  unfold fMax
  simp only [seqOf_tup, Option.bind_some]
  cases intsOf l with
  | none => with_unfolding_all rfl
  | some k => simp only [Option.bind_some, Som_some]; cases maxI k <;> with_unfolding_all rfl
@[simp] theorem min_tup {l : List D} : Ok (fMin [.tup l] st) Q = Som (intsOf l) (fun k => Som (minI k) (fun m => Q (.int m) st)) := by
  unfold fMin
  simp only [seqOf_tup, Option.bind_some]
  cases intsOf l with
  | none => with_unfolding_all rfl
  | some k => simp only [Option.bind_some, Som_some]; cases minI k <;> with_unfolding_all rfl
@[simp] theorem max_ref : Ok (fMax [.ref n] st) Q = Som (lstC st[n]?) (fun l => Som (intsOf l) (fun k => Som (maxI k) (fun m => Q (.int m) st))) := by
  unfold fMax
  simp only [seqOf_ref]
  cases lstC st[n]? with
  | none => with_unfolding_all rfl
  | some l =>
    simp only [Option.bind_some, Som_some]
    cases intsOf l with
    | none => with_unfolding_all rfl
    | some k => simp only [Option.bind_some, Som_some]; cases maxI k <;> with_unfolding_all rfl
@[simp] theorem mKd_append : mKd .append = .list := rfl
@[simp] theorem mKd_pop : mKd .pop = .list := rfl
@[simp] theorem mKd_get : mKd .get = .dict := rfl
@[simp] theorem mKd_setd : mKd .setdefault = .dict := rfl
@[simp] theorem mKd_join : mKd .join = .str := rfl
@[simp] theorem mth_append : Ok (mth .append (.ref n) [d] st) Q = Som (lstC st[n]?) (fun l => l.length < 16777216 ∧ Q .non (st.set n (.lst (l ++ [d])))) := by
  simp only [PyI.mth, mAppend]
  simp only [listAt_C]
  cases lstC st[n]? with
  | none => with_unfolding_all rfl
  | some l => simp only [Ok_guard, Ok_ok, Som_some, decide_eq_true_eq]
@[simp] theorem mth_pop : Ok (mth .pop (.ref n) [] st) Q = Som (lstC st[n]?) (fun l => Som (l[l.length - 1]?) (fun d => Q d (st.set n (.lst l.dropLast)))) := by
  simp only [PyI.mth, mPop]
  simp only [listAt_C]
  cases lstC st[n]? with
  | none => with_unfolding_all rfl
  | some l => simp only [Som_some]; cases l[l.length - 1]? <;> with_unfolding_all rfl
@[simp] theorem mth_get {k : D} : Ok (mth .get (.ref n) [k, d] st) Q = Som (getC st[n]? k) (fun o => Q (o.getD d) st) := by
  simp only [PyI.mth, mGet]
  simp only [dget_C]
  cases getC st[n]? k <;> with_unfolding_all rfl
@[simp] theorem mth_setd {k : D} : Ok (mth .setdefault (.ref n) [k, d] st) Q = Som (getC st[n]? k) (fun o => Som (putC st[n]? k d) (fun c => match o with | some v => Q v st | none => Q d (st.set n c))) := by
  simp only [PyI.mth, mSetd]
  simp only [dget_C, dput_C]
  cases getC st[n]? k with
  | none => with_unfolding_all rfl
  | some o =>
    cases putC st[n]? k d with
    | none => cases o <;> with_unfolding_all rfl
    | some c => cases o <;> with_unfolding_all rfl
end
theorem intsOf_map : ∀ l : List Int, intsOf (l.map D.int) = some l
  | [] => rfl
  | i :: r => by simp only [List.map_cons, intsOf, intsOf_map r, Option.map_some]
theorem blsOf_map : ∀ l : List Bool, blsOf (l.map D.bl) = some l
  | [] => rfl
  | i :: r => by simp only [List.map_cons, blsOf, blsOf_map r, Option.map_some]
theorem strsOf_map : ∀ l : List (List Nat), strsOf (l.map D.str) = some l
  | [] => rfl
  | i :: r => by simp only [List.map_cons, strsOf, strsOf_map r, Option.map_some]
@[simp] theorem intsOf_mapf {α : Type} (f : α → Int) (l : List α) : intsOf (l.map fun x => D.int (f x)) = some (l.map f) := by
  rw [show (fun x => D.int (f x)) = D.int ∘ f from rfl, ← List.map_map, intsOf_map]
@[simp] theorem blsOf_mapf {α : Type} (f : α → Bool) (l : List α) : blsOf (l.map fun x => D.bl (f x)) = some (l.map f) := by
  rw [show (fun x => D.bl (f x)) = D.bl ∘ f from rfl, ← List.map_map, blsOf_map]
@[simp] theorem strsOf_mapf {α : Type} (f : α → List Nat) (l : List α) : strsOf (l.map fun x => D.str (f x)) = some (l.map f) := by
  rw [show (fun x => D.str (f x)) = D.str ∘ f from rfl, ← List.map_map, strsOf_map]
@[simp] theorem intsOf_mapi (l : List Int) : intsOf (l.map D.int) = some l := intsOf_map l
@[simp] theorem strsOf_mapi (l : List (List Nat)) : strsOf (l.map D.str) = some l := strsOf_map l
theorem getC_ky (c : Option Cell) (k : Ky) : getC c (kyD k) = (dkC c).map fun kvs => valD kvs k := by
  cases k <;> simp [getC, kyD, keyOf, Option.map_eq_bind, Function.comp_def]
theorem putC_ky (c : Option Cell) (k : Ky) (v : D) : putC c (kyD k) v = (dkC c).bind fun kvs => if kvs.length < 16777216 then some (.dk (putD kvs k v)) else none := by
  cases k <;> simp [putC, kyD, keyOf]
theorem getC_tup (c : Option Cell) (k : List Ky) : getC c (.tup (k.map kyD)) = (dtC c).map fun kvs => valD kvs k := by
  simp [getC, keysOf_kyD, Option.map_eq_bind, Function.comp_def]
theorem putC_tup (c : Option Cell) (k : List Ky) (v : D) : putC c (.tup (k.map kyD)) v = (dtC c).bind fun kvs => if kvs.length < 16777216 then some (.dt (putD kvs k v)) else none := by
  simp [putC, keysOf_kyD]

/-- a dict of first comings, by what kind of keys -/
structure DI (α : Type) [DecidableEq α] where
  key : α → D
  cell : List α → Cell
  nil : cell [] = .dk []
  kd : ∀ u, kdC (some (cell u)) = some .dict
  nl : ∀ u, lstC (some (cell u)) = none
  get : ∀ u x, getC (some (cell u)) (key x) = some (if x ∈ u then some (.int (ix u x)) else none)
  put : ∀ u x, u.length < 16777216 → x ∉ u → putC (some (cell u)) (key x) (.int u.length) = some (cell (u ++ [x]))
  puts : ∀ u x d, u.length < 16777216 → ∃ c, putC (some (cell u)) (key x) d = some c
  len : ∀ u, lenC (some (cell u)) = some u.length
  tup : ∀ u, tupC (some (cell u)) = some (u.map key)
def dkI {α : Type} [DecidableEq α] (f : α → Ky) (hf : ∀ x y, f x = f y → x = y) : DI α where
  key := fun x => kyD (f x)
  cell := fun u => .dk (dki f u)
  nil := rfl
  kd := fun u => rfl
  nl := fun u => rfl
  get := fun u x => by rw [getC_ky, dkC_dk, Option.map_some, valD_dki hf]
  put := fun u x hl hx => by
    rw [putC_ky, dkC_dk, Option.bind_some, dki_length, if_pos hl, dki_snoc, putD_new]
    rw [dki_keys]
    intro q
    obtain ⟨y, hy, e⟩ := List.mem_map.mp q
    exact hx (hf _ _ e ▸ hy)
  puts := fun u x d hl => by
    rw [putC_ky, dkC_dk, Option.bind_some, dki_length, if_pos hl]
    exact ⟨_, rfl⟩
  len := fun u => by rw [lenC_dk, dki_length]
  tup := fun u => by
    show some (List.map (kyD ∘ Prod.fst) _) = _
    rw [← List.map_map, dki_keys, List.map_map]
    rfl
def dtI {α : Type} [DecidableEq α] (f : α → List Ky) (hf : ∀ x y, f x = f y → x = y) : DI α :=
  have dt : ∀ u, dtC (some (if u = [] then .dk [] else .dt (dki f u))) = some (dki f u) := fun u => by
    split
    · rename_i h; subst h; rfl
    · rfl
  { key := fun x => .tup ((f x).map kyD)
    cell := fun u => if u = [] then .dk [] else .dt (dki f u)
    nil := by simp
    kd := fun u => by split <;> rfl
    nl := fun u => by split <;> rfl
    get := fun u x => by rw [getC_tup, dt, Option.map_some, valD_dki hf]
    put := fun u x hl hx => by
      rw [putC_tup, dt, Option.bind_some, dki_length, if_pos hl, if_neg (by simp), dki_snoc, putD_new]
      rw [dki_keys]
      intro q
      obtain ⟨y, hy, e⟩ := List.mem_map.mp q
      exact hx (hf _ _ e ▸ hy)
    puts := fun u x d hl => by
      rw [putC_tup, dt, Option.bind_some, dki_length, if_pos hl]
      exact ⟨_, rfl⟩
    len := fun u => by
      split
      · rename_i hu; subst hu; rfl
      · rw [lenC_dt, dki_length]
    tup := fun u => by
      split
      · rename_i hu; subst hu; rfl
      · show some (List.map ((fun k => D.tup (List.map kyD k)) ∘ Prod.fst) _) = _
        rw [← List.map_map, dki_keys, List.map_map]
        rfl }
/-- whole numbers -/
def iI : DI Int := dkI (fun i => .inl i) (fun x y h => by injection h)
/-- tuples of whole numbers -/
def tI : DI (List Int) := dtI (fun l => l.map .inl) (fun x y h => by
  have := congrArg (List.filterMap fun k : Ky => match k with | .inl i => some i | _ => none) h
  simpa [List.filterMap_map, Function.comp_def] using this)
/-- a number and how often -/
def rI : DI (Int × Nat) := dtI (fun p => [.inl p.1, .inl (p.2 : Int)]) (fun x y h => by
  obtain ⟨a, b⟩ := x; obtain ⟨c, d⟩ := y
  simp at h
  obtain ⟨rfl, e⟩ := h
  have : b = d := by omega
  rw [this])
/-- signs -/
def sI : DI Nat := dkI (fun c => .inr [c]) (fun x y h => by simpa using h)
@[simp] theorem iI_key : iI.key = D.int := rfl
@[simp] theorem sI_key (c : Nat) : sI.key c = D.str [c] := rfl
@[simp] theorem tI_key (l : List Int) : tI.key l = D.tup (l.map D.int) := by
  show D.tup ((l.map Sum.inl).map kyD) = _
  rw [List.map_map]; rfl
@[simp] theorem rI_key (p : Int × Nat) : rI.key p = D.tup [.int p.1, .int p.2] := rfl

/-! ### walks that stay -/
theorem walkOf_ext {st : Sto} {d : D} {w : Wk} (h : walkOf st d = some w) (u : Sto) : walkOf (st ++ u) d = some w := by
  cases d with
  | ref n =>
    simp only [walkOf] at h ⊢
    cases hn : st[n]? with
    | none => rw [hn] at h; cases h
    | some c => rw [List.getElem?_append_left (lt_of hn), hn]; rw [hn] at h; exact h
  | _ => exact h
/-- as long as what stood there stands there, it may be walked -/
def Wk.on (w : Wk) (st : Sto) : Prop := ∀ n c, w.src = some (n, c) → st[n]? = some c
theorem Wk.on_still {w : Wk} {st : Sto} (h : w.on st) : w.still st = true := by
  unfold Wk.still
  split
  · rfl
  · rename_i n c e
    rw [decide_eq_true_eq]
    exact h n c e
theorem walkOf_on {st : Sto} {d : D} {w : Wk} (h : walkOf st d = some w) : w.on st := by
  intro n c e
  cases d with
  | ref m =>
    simp only [walkOf] at h
    split at h
    · rename_i xs hx
      cases h
      simp only [Option.some.injEq, Prod.mk.injEq] at e
      obtain ⟨rfl, rfl⟩ := e
      exact hx
    · cases h
  | tup _ => simp only [walkOf, Option.some.injEq] at h; subst h; cases e
  | rol _ => simp only [walkOf, Option.some.injEq] at h; subst h; cases e
  | str _ => simp only [walkOf, Option.some.injEq] at h; subst h; cases e
  | _ => cases h
theorem Wk.on_ext {w : Wk} {st : Sto} (h : w.on st) (u : Sto) : w.on (st ++ u) := fun n c e => by
  rw [List.getElem?_append_left (lt_of (h n c e))]
  exact h n c e
theorem Wk.on_set {w : Wk} {st : Sto} (h : w.on st) {m : Nat} (c' : Cell) (hm : ∀ n c, w.src = some (n, c) → n ≠ m) : w.on (st.set m c') := fun n c e => by
  rw [List.getElem?_set_ne (Ne.symm (hm n c e))]
  exact h n c e
theorem Wk.on_none {xs : List D} {st : Sto} : (Wk.mk xs none).on st := fun n c e => by cases e

section
variable {w : Wk} {t : Tg} {f : Env → Sto → SR} {α : Type} {g : α → D}
/-- a loop by its invariant -/
theorem So_for {xs : List D} {l : List α} (hx : xs = l.map g) (I : List α → List α → Env → Sto → Prop) {N : Env → Sto → Prop} {R : D → Sto → Prop} {B C : Env → Sto → Prop} {e : Env} {s : Sto}
    (h0 : I [] l e s)
    (hw : ∀ d r e s, d ++ r = l → I d r e s → w.on s)
    (hs : ∀ d x r e s, d ++ x :: r = l → I d (x :: r) e s → Som (tgSet s t (g x) e) (fun e => So (f e s) (I (d ++ [x]) r) R N (I (d ++ [x]) r)))
    (hn : ∀ e s, I l [] e s → N e s) : So (forL w t f xs e s) N R B C := by
  rw [hx]
  have := So_forL (w := w) (t := t) (f := f) (g := g) (fun d r e s => d ++ r = l ∧ I d r e s) (N := N) (R := R) (B := B) (C := C)
    (fun d r e s h => Wk.on_still (hw d r e s h.1 h.2))
    (fun d x r e s h => by
      have q := hs d x r e s h.1 h.2
      have e1 : d ++ [x] ++ r = l := by simpa using h.1
      cases ht : tgSet s t (g x) e with
      | none => rw [ht, Som_none] at q; exact q.elim
      | some e2 =>
        rw [ht] at q
        simp only [Som_some] at q ⊢
        exact q.imp (fun a st z => ⟨e1, z⟩) (fun _ _ z => z) (fun _ _ z => z) (fun a st z => ⟨e1, z⟩))
    l [] e s ⟨rfl, h0⟩ (fun e s z => hn e s (by simpa using z.2))
  exact this
/-- a comprehension by its invariant -/
theorem Ok_comp {xs : List D} {l : List α} (hx : xs = l.map g) {f : D → Sto → Res (Option D)} {Q : List D → Sto → Prop} (I : List α → List α → List D → Sto → Prop) {s : Sto}
    (h0 : I [] l [] s)
    (hw : ∀ d r a s, d ++ r = l → I d r a s → w.on s)
    (hl : ∀ d x r a s, d ++ x :: r = l → I d (x :: r) a s → a.length < 16777216)
    (hs : ∀ d x r a s, d ++ x :: r = l → I d (x :: r) a s → Ok (f (g x) s) (fun o s => I (d ++ [x]) r (match o with | some y => a ++ [y] | none => a) s))
    (hn : ∀ a s, I l [] a s → Q a s) : Ok (compL w f xs [] s) Q := by
  rw [hx]
  refine Ok_compL (w := w) (g := g) (fun d r a s => d ++ r = l ∧ I d r a s) (fun d r a s h => Wk.on_still (hw d r a s h.1 h.2)) (fun d x r a s h => hl d x r a s h.1 h.2)
    (fun d x r a s h => ?_) l [] [] s ⟨rfl, h0⟩ (fun a s z => hn a s (by simpa using z.2))
  refine (hs d x r a s h.1 h.2).imp fun o s1 z => ⟨by simpa using h.1, z⟩
/-- a comprehension whose turns only put new things behind -/
theorem Ok_compP {xs : List D} {l : List α} (hx : xs = l.map g) {f : D → Sto → Res (Option D)} {Q : List D → Sto → Prop} (h : α → Option D) {s : Sto} (hw : w.on s) (hl : l.length ≤ 16777216)
    (hf : ∀ x ∈ l, ∀ u, Ok (f (g x) (s ++ u)) (fun o s1 => o = h x ∧ ∃ v, s1 = s ++ v))
    (hq : ∀ u, Q (l.filterMap h) (s ++ u)) : Ok (compL w f xs [] s) Q := by
  refine Ok_comp hx (fun d r a s1 => a = d.filterMap h ∧ ∃ u, s1 = s ++ u) ⟨rfl, [], by simp⟩ ?_ ?_ ?_ ?_
  · rintro d r a _ _ ⟨_, u, rfl⟩
    exact Wk.on_ext hw u
  · rintro d x r a _ e ⟨rfl, _⟩
    have h1 : (d.filterMap h).length ≤ d.length := List.length_filterMap_le _ _
    have h2 : d.length + (r.length + 1) = l.length := by rw [← e]; simp
    omega
  · rintro d x r a _ e ⟨rfl, u, rfl⟩
    refine (hf x (by rw [← e]; simp) u).imp ?_
    rintro o s1 ⟨rfl, v, rfl⟩
    refine ⟨?_, v, rfl⟩
    rw [List.filterMap_append, List.filterMap_cons, List.filterMap_nil]
    generalize h x = z
    cases z <;> simp
  · rintro a _ ⟨rfl, u, rfl⟩
    exact hq u
end
/-- what a call ends with: a value, something new behind -/
def Gv (st : Sto) (d : D) : D → Sto → Prop := fun x s => x = d ∧ ∃ u, s = st ++ u
@[simp] theorem Gv_app {st u : Sto} {d x : D} : Gv st d x (st ++ u) = (x = d) := by
  unfold Gv
  simp only [eq_iff_iff, and_iff_left_iff_imp]
  exact fun _ => ⟨u, rfl⟩
@[simp] theorem Gv_same {st : Sto} {d x : D} : Gv st d x st = (x = d) := by
  unfold Gv
  simp only [eq_iff_iff, and_iff_left_iff_imp]
  exact fun _ => ⟨[], by simp⟩
theorem Ok.gv {r : Res D} {st : Sto} {d : D} {Q : D → Sto → Prop} (h : Ok r (Gv st d)) (k : ∀ u, Q d (st ++ u)) : Ok r Q := h.imp fun a s z => by
  obtain ⟨rfl, u, rfl⟩ := z
  exact k u
theorem Gv_ex {st : Sto} {d : D} {u : Sto} : Gv st d d (st ++ u) := ⟨rfl, u, rfl⟩
/-- nothing new behind -/
theorem Ok.same {r : Res D} {st : Sto} {d : D} {Q : D → Sto → Prop} (h : Ok r (fun x s => s = st ∧ x = d)) (k : Q d st) : Ok r Q := h.imp fun a s z => by
  obtain ⟨rfl, rfl⟩ := z
  exact k
/-- a new list -/
def Gl (st : Sto) (xs : List D) : D → Sto → Prop := fun x s => ∃ n u, x = .ref n ∧ s = st ++ u ∧ st.length ≤ n ∧ (st ++ u)[n]? = some (.lst xs)
theorem Ok.gl {r : Res D} {st : Sto} {xs : List D} {Q : D → Sto → Prop} (h : Ok r (Gl st xs)) (k : ∀ n u, st.length ≤ n → (st ++ u)[n]? = some (.lst xs) → Q (.ref n) (st ++ u)) : Ok r Q := h.imp fun a s z => by
  obtain ⟨n, u, rfl, rfl, h1, h2⟩ := z
  exact k n u h1 h2
theorem Gl_at {st : Sto} {c : Cell} {u : Sto} {xs : List D} (h : c = .lst xs) : Gl st xs (.ref st.length) (st ++ c :: u) := ⟨_, _, rfl, rfl, Nat.le_refl _, by simp [h]⟩
theorem Gl_of {st : Sto} {u : Sto} {n : Nat} {xs : List D} (h1 : st.length ≤ n) (h : (st ++ u)[n]? = some (.lst xs)) : Gl st xs (.ref n) (st ++ u) := ⟨_, _, rfl, rfl, h1, h⟩
theorem Gl_last {st s : Sto} {xs : List D} (h : ∃ u, s = st ++ u) : Gl st xs (.ref s.length) (s ++ [.lst xs]) := by
  obtain ⟨u, rfl⟩ := h
  exact ⟨_, u ++ [.lst xs], rfl, by simp, by simp, by rw [← List.append_assoc]; simp⟩
/-- whether a number is among numbers -/
@[simp] theorem inD_ints {x : Int} {l : List Int} : inD (.int x) (l.map D.int) = some (decide (x ∈ l)) := by
  unfold inD
  have e : (l.map D.int).all flatD = true := by
    rw [List.all_map]
    simp [flatD]
  rw [e]
  simp only [flatD, Bool.and_self, if_true, Option.some.injEq]
  induction l with
  | nil => rfl
  | cons y l ih =>
    rw [List.map_cons, List.any_cons, ih (by rw [List.all_map]; simp [flatD])]
    by_cases h : x = y
    · subst h; simp [eqF]
    · simp [eqF, h, Ne.symm h]
section
variable {α : Type} {xs : List α} {x y z : α}
@[simp] theorem atI_m1 : L2.atI xs (-1) = xs.getLast? := by
  rw [List.getLast?_eq_getElem?]
  cases xs with
  | nil => rfl
  | cons a l => exact atI_neg (k := 1) (by omega) (by simp)
@[simp] theorem atI_0 : L2.atI (x :: xs) 0 = some x := by
  have := atI_nat (xs := x :: xs) (i := 0)
  simpa using this
@[simp] theorem atI_1 : L2.atI (x :: y :: xs) 1 = some y := by
  have := atI_nat (xs := x :: y :: xs) (i := 1)
  simpa using this
@[simp] theorem atI_2 : L2.atI (x :: y :: z :: xs) 2 = some z := by
  have := atI_nat (xs := x :: y :: z :: xs) (i := 2)
  simpa using this
end
/-! what is pure -/
@[simp] theorem pur_non : D.pur .non = true := by simp [D.pur]
@[simp] theorem pur_int {i : Int} : D.pur (.int i) = true := by simp [D.pur]
@[simp] theorem pur_tup {l : List D} : D.pur (.tup l) = D.purs l := by simp [D.pur]
@[simp] theorem pur_rol {l : List D} : D.pur (.rol l) = D.purs l := by simp [D.pur]
@[simp] theorem pur_str {x : List Nat} : D.pur (.str x) = x.all fun c => decide (c < 0x110000) := by simp [D.pur]
@[simp] theorem purs_nil : D.purs [] = true := by simp [D.purs]
@[simp] theorem purs_cons {d : D} {l : List D} : D.purs (d :: l) = (d.pur && D.purs l) := by simp [D.purs]
@[simp] theorem purs_map {α : Type} {f : α → D} {l : List α} : D.purs (l.map f) = l.all fun x => (f x).pur := by
  induction l with
  | nil => rfl
  | cons x l ih => simp [ih]
@[simp] theorem dep_non : D.dep .non = 0 := by simp [D.dep]
@[simp] theorem dep_bl {b : Bool} : D.dep (.bl b) = 0 := by simp [D.dep]
@[simp] theorem dep_int {i : Int} : D.dep (.int i) = 0 := by simp [D.dep]
@[simp] theorem dep_str {x : List Nat} : D.dep (.str x) = 0 := by simp [D.dep]
@[simp] theorem dep_tup {l : List D} : D.dep (.tup l) = D.deps l + 1 := by simp [D.dep]
@[simp] theorem dep_rol {l : List D} : D.dep (.rol l) = D.deps l + 1 := by simp [D.dep]
@[simp] theorem deps_nil : D.deps [] = 0 := by simp [D.deps]
@[simp] theorem deps_cons {d : D} {l : List D} : D.deps (d :: l) = max d.dep (D.deps l) := by simp [D.deps]
@[simp] theorem deps_map {α : Type} {f : α → D} {l : List α} {k : Nat} : (D.deps (l.map f) ≤ k) = ∀ x ∈ l, (f x).dep ≤ k := by
  rw [deps_le, eq_iff_iff]
  constructor
  · intro h x hx; exact h _ (List.mem_map_of_mem hx)
  · intro h d hd
    obtain ⟨x, hx, rfl⟩ := List.mem_map.mp hd
    exact h x hx
@[simp] theorem purs_app {l r : List D} : D.purs (l ++ r) = (D.purs l && D.purs r) := by
  induction l with
  | nil => simp
  | cons x l ih => simp [ih, Bool.and_assoc]
@[simp] theorem deps_app {l r : List D} : D.deps (l ++ r) = max (D.deps l) (D.deps r) := by
  induction l with
  | nil => simp
  | cons x l ih => simp [ih, Nat.max_assoc]
/-- two lists -/
def eqLL (st : Sto) (o p : Option (List D)) : Option Bool := o.bind fun xs => p.bind fun ys => (D.deeps (refTree st 7) xs).bind fun x => (D.deeps (refTree st 7) ys).bind fun y =>
  if SeqAt.shaped (.list x) && SeqAt.shaped (.list y) then some (PyData.eqvAll x y) else none
@[simp] theorem eqD_refs {st : Sto} {n m : Nat} : eqD st (.ref n) (.ref m) = eqLL st (lstC st[n]?) (lstC st[m]?) := by
  have e : ∀ n, tree st (.ref n) = (lstC st[n]?).bind fun xs => (D.deeps (refTree st 7) xs).map .list := fun n => by
    show refTree st 8 n = _
    rw [refTree, listAt_C]
  unfold eqD eqLL
  show eqD0 _ _ _ = _
  unfold eqD0
  rw [e n, e m]
  cases lstC st[n]? with
  | none => rfl
  | some xs =>
    simp only [Option.bind_some]
    cases lstC st[m]? with
    | none => cases D.deeps (refTree st 7) xs <;> rfl
    | some ys =>
      simp only [Option.bind_some]
      cases D.deeps (refTree st 7) xs with
      | none => rfl
      | some x =>
        cases D.deeps (refTree st 7) ys with
        | none => rfl
        | some y => simp only [Option.map_some, Option.bind_some, PyData.eqv]
@[simp] theorem eqLL_pur {st : Sto} {xs ys : List D} (h : D.purs xs = true) (h2 : D.purs ys = true) (d : D.deps xs ≤ 60) (d2 : D.deps ys ≤ 60) : eqLL st (some xs) (some ys) = some (decide (xs = ys)) := by
  obtain ⟨⟨B, g⟩, n⟩ := purs_good xs h
  obtain ⟨⟨C, g2⟩, n2⟩ := purs_good ys h2
  have gx := goods_up (Nat.le_max_left B C) xs g
  have gy := goods_up (Nat.le_max_right B C) ys g2
  have e1 : SeqAt.shaped (.list (D.dats xs)) = true := shaped_dat (d := .rol xs) (B := max B C) (by simpa [D.good] using gx) (by rw [dep_rol]; omega)
  have e2 : SeqAt.shaped (.list (D.dats ys)) = true := shaped_dat (d := .rol ys) (B := max B C) (by simpa [D.good] using gy) (by rw [dep_rol]; omega)
  simp only [eqLL, Option.bind_some, deeps_dat xs gx, deeps_dat ys gy, e1, e2, Bool.and_self, if_true, eqvs_dat xs ys gx gy n n2]
/-! a dict walked by its items -/
def lockC (n : Nat) : Option Cell → Option (Nat × Cell × Cell × List D)
  | some (.dk kvs) => some (n, .dk kvs, .fzk kvs, itemsOf kvs)
  | some (.dt kvs) => some (n, .dt kvs, .fzt kvs, itemsT kvs)
  | _ => none
@[simp] theorem lockD_ref {st : Sto} {n : Nat} : lockD st (.ref n) = lockC n st[n]? := by
  unfold lockD lockC
  all_goals (try dsimp only)
  all_goals (cases st[n]? with
  | none => rfl
  | some c => cases c <;> rfl)
@[simp] theorem v_forD {cf : Nat → List D → Sto → Res D} {env : Env} {st : Sto} {N B C : Env → Sto → Prop} {R : D → Sto → Prop} {t : Tg} {v : Nat} {b : ISs} :
    So (exS cf (.forD t v b) env st) N R B C = Som ((env[v]?.join).bind (lockD st)) (fun p => So (forL ⟨p.2.2.2, none⟩ t (exSs cf b) p.2.2.2 env (st.set p.1 p.2.2.1))
      (fun e s => N e (s.set p.1 p.2.1)) (fun d s => R d (s.set p.1 p.2.1)) (fun e s => B e (s.set p.1 p.2.1)) (fun e s => C e (s.set p.1 p.2.1))) := by
  simp only [exS]
  generalize (env[v]?.join).bind (lockD st) = q
  cases q with
  | none => with_unfolding_all rfl
  | some q =>
    obtain ⟨n, c, c', xs⟩ := q
    simp only [Som_some]
    generalize forL ⟨xs, none⟩ t (exSs cf b) xs env (st.set n c') = o
    cases o <;> with_unfolding_all rfl
section
variable (s t : Sto) (a k : Nat) (c c' : Cell)
@[simp] theorem lk_s0 : (s.set a c ++ t)[s.length]? = t[0]? := by
  have := lk_0 (s.set a c) t
  rw [List.length_set] at this
  exact this
@[simp] theorem lk_sk : (s.set a c ++ t)[s.length + k]? = t[k]? := by
  have := lk_k (s.set a c) t k
  rw [List.length_set] at this
  exact this
@[simp] theorem st_s0 : (s.set a c ++ t).set s.length c' = s.set a c ++ t.set 0 c' := by
  have := st_0 (s.set a c) t c'
  rw [List.length_set] at this
  exact this
@[simp] theorem st_sk : (s.set a c ++ t).set (s.length + k) c' = s.set a c ++ t.set k c' := by
  have := st_k (s.set a c) t k c'
  rw [List.length_set] at this
  exact this
end
/-! while -/
theorem most_eqn : most = 1000000000 := most_eq
def truR (o : Option Bool) (st : Sto) : Res Bool := match o with
  | some k => .ok k st
  | none => .stuck
@[simp] theorem v_while {cf : Nat → List D → Sto → Res D} {env : Env} {st : Sto} {N B C : Env → Sto → Prop} {R : D → Sto → Prop} {c : IE} {b : ISs} :
    So (exS cf (.whiles c b) env st) N R B C = So (whileL (fun env st => (evE cf c env st).bind fun x st => truR (x.truth st) st) (exSs cf b) most env st) N R B C := by
  simp only [exS]
  rfl
/-- a while by its invariant, with a number that goes down -/
theorem So_while {cf : Nat → List D → Sto → Res D} {c : IE} {f : Env → Sto → SR} (I : Nat → Env → Sto → Prop) {N : Env → Sto → Prop} {R : D → Sto → Prop} {B C : Env → Sto → Prop} {e : Env} {s : Sto} {k : Nat}
    (h0 : I k e s) (hk : k < 1000000000)
    (hs : ∀ k e s, I k e s → Ok (evE cf c e s) (fun x s => Cho (x.truth s) (So (f e s) (fun e s => ∃ k', k' < k ∧ I k' e s) R N (fun e s => ∃ k', k' < k ∧ I k' e s)) (N e s))) :
    So (whileL (fun env st => (evE cf c env st).bind fun x st => truR (x.truth st) st) f most e s) N R B C := by
  rw [most_eqn]
  generalize hm : 1000000000 = m at hk
  clear hm
  induction m generalizing k e s with
  | zero => omega
  | succ m ih =>
    unfold whileL
    rw [So_thn, Ok_bind]
    refine (hs k e s h0).imp fun x s1 h => ?_
    cases hx : x.truth s1 with
    | none => rw [hx, Cho_n] at h; exact h.elim
    | some b =>
      rw [hx] at h
      unfold truR
      dsimp only
      rw [Ok_ok]
      cases b with
      | false =>
        rw [Cho_f] at h
        simp only [Bool.false_eq_true, if_false, So_nx]
        exact h
      | true =>
        rw [Cho_t] at h
        simp only [if_true]
        cases hf : f e s1 with
        | nx e2 s2 =>
          rw [hf, So_nx] at h
          obtain ⟨k', h1, h2⟩ := h
          exact ih h2 (by omega)
        | cont e2 s2 =>
          rw [hf, So_cont] at h
          obtain ⟨k', h1, h2⟩ := h
          exact ih h2 (by omega)
        | brk e2 s2 => rw [hf, So_brk] at h; dsimp only; rw [So_nx]; exact h
        | ret d2 s2 => rw [hf, So_ret] at h; dsimp only; rw [So_ret]; exact h
        | exc m e2 s2 => rw [hf, So_exc] at h; exact h.elim
        | stuck => rw [hf, So_stuck] at h; exact h.elim
end PyI
namespace PyI
/-- a law's own def, by what it ends with -/
theorem says_of {tab : List Fd} {k i m : Nat} (h : ∀ ns : List Int, ns.length ≤ m → Ok (callF tab k i [.rol (ns.map D.int)] []) (Gv [] (.bl true))) : Says tab k i m := fun ns hl => by
  obtain ⟨a, st, e, h1, _⟩ := (h ns hl).get
  exact ⟨st, by rw [e, h1]⟩
end PyI

/-! JE_: dicts that count; sides of chains, plainly. -/
namespace PyI
open Ch PySem

/-! ### dicts that count -/
/-- the entries of a dict that tells how often -/
def cnd {α κ : Type} [DecidableEq α] (f : α → κ) (d : List α) : List (κ × D) := (uq d).map fun p => (f p, D.int (d.count p : Nat))
section
variable {α κ : Type} [DecidableEq α] [DecidableEq κ] {f : α → κ}
theorem cnd_length (d : List α) : (cnd f d).length = (uq d).length := by simp [cnd]
theorem cnd_keys (d : List α) : (cnd f d).map (·.1) = (uq d).map f := by
  unfold cnd
  rw [List.map_map]; rfl
theorem valD_map (hf : ∀ x y, f x = f y → x = y) (g : α → D) (u : List α) (x : α) : valD (u.map fun p => (f p, g p)) (f x) = if x ∈ u then some (g x) else none := by
  induction u with
  | nil => rfl
  | cons y u ih =>
    by_cases h : y = x
    · subst h
      simp [valD]
    · have h2 : f y ≠ f x := fun e => h (hf _ _ e)
      have e : valD (List.map (fun p => (f p, g p)) (y :: u)) (f x) = valD (List.map (fun p => (f p, g p)) u) (f x) := by
        simp [valD, List.find?_cons, h2]
      rw [e, ih]
      simp [Ne.symm h]
theorem valD_cnd (hf : ∀ x y, f x = f y → x = y) (d : List α) (x : α) : valD (cnd f d) (f x) = if x ∈ d then some (.int (d.count x : Nat)) else none := by
  unfold cnd
  rw [valD_map hf]
  simp only [mem_uq]
theorem putD_cnd (hf : ∀ x y, f x = f y → x = y) (d : List α) (x : α) : putD (cnd f d) (f x) (.int ((d.count x + 1 : Nat) : Int)) = cnd f (d ++ [x]) := by
  by_cases h : x ∈ uq d
  · unfold putD
    rw [if_pos]
    · unfold cnd
      rw [uq_snoc, if_pos h, List.map_map]
      refine List.map_congr_left fun p hp => ?_
      by_cases e : p = x
      · subst e
        simp
      · have e2 : f p ≠ f x := fun q => e (hf _ _ q)
        simp [e2, List.count_append, Ne.symm e]
    · simp only [List.any_eq_true, decide_eq_true_eq]
      exact ⟨(f x, .int (d.count x : Nat)), List.mem_map.mpr ⟨x, h, rfl⟩, rfl⟩
  · rw [putD_new]
    · unfold cnd
      rw [uq_snoc, if_neg h, List.map_append]
      congr 1
      · refine List.map_congr_left fun p hp => ?_
        have e : x ≠ p := fun q => h (q ▸ hp)
        simp [List.count_append, e]
      · simp [List.count_append]
    · rw [cnd_keys]
      intro q
      obtain ⟨y, hy, e⟩ := List.mem_map.mp q
      exact h (hf _ _ e ▸ hy)
end
/-- how often -/
def cnt {α : Type} [DecidableEq α] (d : List α) (x : α) : Nat := d.count x
theorem cnt_ne {α : Type} [DecidableEq α] {d : List α} {x : α} (h : x ∈ d) : cnt d x ≠ 0 := by
  unfold cnt
  intro e
  exact (List.count_eq_zero.mp e) h
/-- what a dict that counts holds -/
def cv {α : Type} [DecidableEq α] (d : List α) (x : α) : Option D := if cnt d x = 0 then none else some (.int (cnt d x : Nat))
@[simp] theorem cv_getD {α : Type} [DecidableEq α] (d : List α) (x : α) : (cv d x).getD (.int 0) = .int (cnt d x : Nat) := by
  unfold cv
  split
  · rename_i h; rw [h]; rfl
  · rfl
structure CD (α : Type) [DecidableEq α] where
  key : α → D
  cell : List α → Cell
  nil : cell [] = .dk []
  kd : ∀ d, kdC (some (cell d)) = some .dict
  nl : ∀ d, lstC (some (cell d)) = none
  get : ∀ d x, getC (some (cell d)) (key x) = some (cv d x)
  put : ∀ d x, d.length < 16777216 → putC (some (cell d)) (key x) (.int ((cnt d x : Nat) + 1)) = some (cell (d ++ [x]))
/-- keys that are tuples -/
def dtCD {α : Type} [DecidableEq α] (f : α → List Ky) (hf : ∀ x y, f x = f y → x = y) : CD α :=
  have dt : ∀ d, dtC (some (if d = [] then .dk [] else .dt (cnd f d))) = some (cnd f d) := fun d => by
    split
    · rename_i h; subst h; rfl
    · rfl
  { key := fun x => .tup ((f x).map kyD)
    cell := fun d => if d = [] then .dk [] else .dt (cnd f d)
    nil := by simp
    kd := fun d => by split <;> rfl
    nl := fun d => by split <;> rfl
    get := fun d x => by
      rw [getC_tup, dt, Option.map_some, valD_cnd hf]
      unfold cv cnt
      by_cases h : x ∈ d
      · have : d.count x ≠ 0 := fun e => (List.count_eq_zero.mp e) h
        rw [if_pos h, if_neg this]
      · rw [if_neg h, if_pos (List.count_eq_zero_of_not_mem h)]
    put := fun d x hl => by
      have hu := uq_length d
      have q := putD_cnd hf d x
      rw [Int.natCast_add] at q
      rw [putC_tup, dt, Option.bind_some, cnd_length, if_pos (by omega), if_neg (by simp)]
      unfold cnt
      rw [show ((d.count x : Nat) : Int) + 1 = ((d.count x : Nat) : Int) + ((1 : Nat) : Int) from rfl, q] }
/-- pairs of whole numbers -/
def pCD : CD (Int × Int) := dtCD (fun p => [.inl p.1, .inl p.2]) (fun x y h => by
  obtain ⟨a, b⟩ := x; obtain ⟨c, d⟩ := y
  simp at h
  obtain ⟨rfl, rfl⟩ := h
  rfl)
theorem CD.se {α : Type} [DecidableEq α] (I : CD α) (d : List α) (x : α) (h : d.length < 16777216) : seC (some (I.cell d)) (I.key x) (.int ((cnt d x : Nat) + 1)) = some (I.cell (d ++ [x])) := by
  unfold seC
  rw [I.nl]
  exact I.put d x h
@[simp] theorem pCD_key (p : Int × Int) : pCD.key p = .tup [.int p.1, .int p.2] := rfl
theorem pCD_cell (d : List (Int × Int)) : pCD.cell d = if d = [] then .dk [] else .dt (cnd (fun p => [.inl p.1, .inl p.2]) d) := rfl

/-! ### sums of counts -/
theorem sum_map_add {α : Type} (l : List α) (f g : α → Nat) : (l.map fun x => f x + g x).sum = (l.map f).sum + (l.map g).sum := by
  induction l with
  | nil => rfl
  | cons x l ih => simp only [List.map_cons, List.sum_cons, ih]; omega
theorem sum_uq {α : Type} [DecidableEq α] (p : α → Bool) (d : List α) : (((uq d).filter p).map fun x => cnt d x).sum = d.countP p := by
  unfold cnt
  induction d using snoc_ind with
  | h0 => rfl
  | h1 d x ih =>
    rw [uq_snoc, List.countP_append, List.countP_singleton, ← ih]
    have e1 : ∀ l : List α, (l.map fun y => (d ++ [x]).count y).sum = (l.map fun y => d.count y).sum + l.count x := by
      intro l
      induction l with
      | nil => rfl
      | cons y l ih2 =>
        rw [List.map_cons, List.sum_cons, ih2, List.map_cons, List.sum_cons, List.count_append, List.count_cons, List.count_cons, List.count_nil]
        by_cases h : y = x
        · subst h
          simp only [beq_self_eq_true, if_true]
          omega
        · have h2 : ¬ (x = y) := fun e => h e.symm
          simp only [beq_iff_eq, h, h2, if_false]
          omega
    by_cases h : x ∈ uq d
    · rw [if_pos h, e1]
      congr 1
      by_cases hp : p x = true
      · rw [if_pos hp]
        have nd : ((uq d).filter p).Nodup := (uq_nodup d).filter _
        have c1 : ((uq d).filter p).count x ≤ 1 := List.nodup_iff_count.mp nd x
        have c2 : 0 < ((uq d).filter p).count x := List.count_pos_iff.mpr (List.mem_filter.mpr ⟨h, hp⟩)
        omega
      · rw [if_neg hp]
        exact List.count_eq_zero_of_not_mem fun q => hp (List.mem_filter.mp q).2
    · rw [if_neg h, List.filter_append, List.map_append, List.sum_append, e1]
      have e2 : ((uq d).filter p).count x = 0 := List.count_eq_zero_of_not_mem fun q => h (List.mem_filter.mp q).1
      have e3 : d.count x = 0 := List.count_eq_zero_of_not_mem fun q => h (mem_uq.mpr q)
      rw [e2]
      by_cases hp : p x = true
      · simp [hp, List.count_append, e3]
      · simp [hp]

/-! ### sides -/
def mx (p : Int × Int) : Int := max p.1 p.2
def mn (p : Int × Int) : Int := min p.1 p.2
/-- a number goes right, told the sides of less ones -/
def rt (P : List (Int × Int)) (s : List Bool) (k : Int) : Bool :=
  decide (2 * P.countP (fun p => decide (mx p = k) && s.getD (mn p).toNat false) < P.countP fun p => decide (mx p = k))
def sds (P : List (Int × Int)) : Nat → List Bool
  | 0 => []
  | k + 1 => sds P k ++ [rt P (sds P k) k]
theorem sds_length (P : List (Int × Int)) : ∀ k, (sds P k).length = k
  | 0 => rfl
  | k + 1 => by rw [sds, List.length_append, sds_length P k]; rfl
/-- the side of a number -/
def side (P : List (Int × Int)) (k : Int) : Bool := rt P (sds P k.toNat) k
theorem sds_get (P : List (Int × Int)) : ∀ (m k : Nat), k < m → (sds P m)[k]? = some (side P k)
  | m + 1, k, h => by
    rw [sds]
    by_cases e : k < m
    · rw [List.getElem?_append_left (by rw [sds_length]; exact e)]
      exact sds_get P m k e
    · have : k = m := by omega
      subst this
      rw [List.getElem?_append_right (by rw [sds_length]; exact Nat.le_refl _), sds_length, Nat.sub_self]
      simp [side]
theorem sds_map (P : List (Int × Int)) (m : Nat) : sds P m = (List.range m).map fun k : Nat => side P k := by
  apply List.ext_getElem?
  intro k
  by_cases h : k < m
  · rw [sds_get P m k h, List.getElem?_map, List.getElem?_range h]; rfl
  · rw [List.getElem?_eq_none (by rw [sds_length]; omega), List.getElem?_eq_none (by simp; omega)]
/-- the left numbers -/
def lft (P : List (Int × Int)) (m : Nat) : List Int := (upto m).filter fun k => !side P k
theorem mem_lft {P : List (Int × Int)} {m : Nat} {k : Int} : k ∈ lft P m ↔ (0 ≤ k ∧ k < m) ∧ side P k = false := by
  unfold lft
  rw [List.mem_filter, mem_upto]
  simp
/-- numbers from 0 on, no like ones beside another -/
def PP (P : List (Int × Int)) (m : Nat) : Prop := ∀ p ∈ P, 0 ≤ p.1 ∧ 0 ≤ p.2 ∧ p.1 ≠ p.2 ∧ p.1 < m ∧ p.2 < m
theorem PP.side_eq {P : List (Int × Int)} {m : Nat} (h : PP P m) (k : Int) : side P k = decide (2 * P.countP (fun p => decide (mx p = k) && side P (mn p)) < P.countP fun p => decide (mx p = k)) := by
  show rt P (sds P k.toNat) k = _
  unfold rt
  congr 2
  have : ∀ p ∈ P, (decide (mx p = k) && (sds P k.toNat).getD (mn p).toNat false) = (decide (mx p = k) && side P (mn p)) := by
    intro p hp
    have q := h p hp
    by_cases e : mx p = k
    · have h1 : (mn p).toNat < k.toNat := by unfold mx at e; unfold mn; omega
      have h0 : ((mn p).toNat : Int) = mn p := by unfold mn; omega
      rw [List.getD_eq_getElem?_getD, sds_get P _ _ h1, h0]
      rfl
    · simp [e]
  rw [List.countP_congr fun p hp => by rw [this p hp]]
/-- how many pairs with less ones are on one side -/
theorem PP.half {P : List (Int × Int)} {m : Nat} (h : PP P m) (k : Int) :
    2 * P.countP (fun p => decide (mx p = k) && (side P k == side P (mn p))) ≤ P.countP (fun p => decide (mx p = k)) ∧
    (side P k = true → 2 * P.countP (fun p => decide (mx p = k) && (side P k == side P (mn p))) < P.countP fun p => decide (mx p = k)) := by
  have e := h.side_eq k
  have tot : P.countP (fun p => decide (mx p = k) && side P (mn p)) + P.countP (fun p => decide (mx p = k) && !side P (mn p)) = P.countP fun p => decide (mx p = k) := by
    clear h e
    generalize side P = g
    induction P with
    | nil => rfl
    | cons p P ih =>
      simp only [List.countP_cons]
      by_cases hk : mx p = k <;> cases g (mn p) <;> simp [hk] <;> omega
  cases hs : side P k with
  | true =>
    rw [hs] at e
    have e2 := of_decide_eq_true e.symm
    simp only [Bool.true_beq]
    omega
  | false =>
    rw [hs] at e
    have e2 := of_decide_eq_false e.symm
    simp only [Bool.false_beq]
    constructor
    · omega
    · intro q; cases q
theorem countP_split {α : Type} (P : List α) (g : α → Int) (q : α → Bool) : ∀ m : Nat, (∀ p ∈ P, 0 ≤ g p ∧ g p < m) → P.countP q = ((List.range m).map fun k : Nat => P.countP fun p => decide (g p = k) && q p).sum := by
  intro m h
  induction P with
  | nil => 
    have : ∀ l : List Nat, (l.map fun k : Nat => (0 : Nat)).sum = 0 := by
      intro l
      induction l with
      | nil => rfl
      | cons a l ih => rw [List.map_cons, List.sum_cons, ih]
    exact (this _).symm
  | cons p P ih =>
    have hp := h p (by simp)
    rw [List.countP_cons, ih fun x hx => h x (by simp [hx])]
    simp only [List.countP_cons]
    rw [sum_map_add]
    congr 1
    have : ∀ (l : List Nat), l.Nodup → ((l.map fun k : Nat => if (decide (g p = k) && q p) = true then 1 else 0).sum = if (g p).toNat ∈ l ∧ q p = true then 1 else 0) := by
      intro l
      induction l with
      | nil => intro _; rfl
      | cons a l ih2 =>
        intro nd
        rw [List.nodup_cons] at nd
        rw [List.map_cons, List.sum_cons, ih2 nd.2]
        by_cases e : g p = a
        · have e2 : (g p).toNat = a := by omega
          rw [e2]
          cases q p <;> simp [e, nd.1]
        · have e2 : (g p).toNat ≠ a := by omega
          simp [e, e2]
    rw [this _ List.nodup_range]
    have hm : (g p).toNat < m := by omega
    simp [hm]
theorem sum_le {α : Type} (l : List α) (f g : α → Nat) (h : ∀ x ∈ l, f x ≤ g x) : (l.map f).sum ≤ (l.map g).sum := by
  induction l with
  | nil => exact Nat.le_refl _
  | cons x l ih =>
    have h1 := h x (by simp)
    have h2 := ih fun y hy => h y (by simp [hy])
    simp only [List.map_cons, List.sum_cons]
    omega
theorem sum_mul {α : Type} (l : List α) (f : α → Nat) : (l.map fun x => 2 * f x).sum = 2 * (l.map f).sum := by
  induction l with
  | nil => rfl
  | cons x l ih => simp only [List.map_cons, List.sum_cons, ih]; omega
/-- at least half of the pairs go over -/
theorem PP.over {P : List (Int × Int)} {m : Nat} (h : PP P m) : P.length ≤ 2 * P.countP fun p => side P p.1 != side P p.2 := by
  have hb : ∀ p ∈ P, 0 ≤ mx p ∧ mx p < m := fun p hp => by have := h p hp; unfold mx; omega
  have a := countP_split P mx (fun p => side P p.1 == side P p.2) m hb
  have b := countP_split P mx (fun _ => true) m hb
  have e : ∀ k : Nat, (P.countP fun p => decide (mx p = k) && (side P p.1 == side P p.2)) = P.countP fun p => decide (mx p = k) && (side P k == side P (mn p)) := fun k => by
    refine List.countP_congr fun p hp => ?_
    by_cases q : mx p = k
    · rcases Int.le_total p.1 p.2 with z | z
      · have e1 : p.2 = k := by unfold mx at q; omega
        have e2 : mn p = p.1 := by unfold mn; omega
        rw [e2, e1]
        cases side P p.1 <;> cases side P (k : Int) <;> simp
      · have e1 : p.1 = k := by unfold mx at q; omega
        have e2 : mn p = p.2 := by unfold mn; omega
        rw [e2, e1]
    · simp [q]
  have c : 2 * P.countP (fun p => side P p.1 == side P p.2) ≤ P.countP fun _ => true := by
    rw [a, b, ← sum_mul]
    refine sum_le _ _ _ fun k _ => ?_
    rw [e k]
    simpa using (h.half k).1
  have d : P.countP (fun p => side P p.1 == side P p.2) + P.countP (fun p => side P p.1 != side P p.2) = P.length := by
    clear a b c e hb h
    generalize side P = g
    induction P with
    | nil => rfl
    | cons p P ih => simp only [List.countP_cons, List.length_cons]; cases g p.1 <;> cases g p.2 <;> simp <;> omega
  simp only [List.countP_true] at c
  omega
theorem PP.side0 {P : List (Int × Int)} {m : Nat} (h : PP P m) : side P 0 = false := by
  rw [h.side_eq 0]
  have : P.countP (fun p => decide (mx p = 0)) = 0 := by
    rw [List.countP_eq_zero]
    intro p hp
    have := h p hp
    simp only [decide_eq_true_eq]
    unfold mx
    omega
  rw [this]
  simp
/-! ### the greatest -/
theorem foldmax : ∀ (r : List Int) (x : Int), (r.foldl (fun a b => if decide (a < b) = true then b else a) x ∈ x :: r) ∧ ∀ y ∈ x :: r, y ≤ r.foldl (fun a b => if decide (a < b) = true then b else a) x
  | [], x => ⟨by simp, by simp⟩
  | z :: r, x => by
    have h := foldmax r (if decide (x < z) = true then z else x)
    rw [List.foldl_cons]
    generalize List.foldl (fun a b => if decide (a < b) = true then b else a) (if decide (x < z) = true then z else x) r = m at h ⊢
    obtain ⟨h1, h2⟩ := h
    by_cases c : x < z
    · simp only [c, decide_true, if_true] at h1 h2
      refine ⟨List.mem_cons_of_mem _ h1, fun y hy => ?_⟩
      rcases List.mem_cons.mp hy with rfl | hy
      · have := h2 z (by simp); omega
      · exact h2 y hy
    · simp only [c, decide_false, Bool.false_eq_true, if_false] at h1 h2
      refine ⟨?_, fun y hy => ?_⟩
      · rcases List.mem_cons.mp h1 with rfl | h1
        · simp
        · simp [h1]
      · rcases List.mem_cons.mp hy with rfl | hy
        · exact h2 _ (by simp)
        · rcases List.mem_cons.mp hy with rfl | hy
          · have := h2 x (by simp); omega
          · exact h2 y (by simp [hy])
theorem maxI_of {l : List Int} (h : l ≠ []) : ∃ m, maxI l = some m ∧ m ∈ l ∧ ∀ y ∈ l, y ≤ m := by
  cases l with
  | nil => exact absurd rfl h
  | cons x r => exact ⟨_, rfl, (foldmax r x).1, (foldmax r x).2⟩
theorem maxI_ch {l : List Int} (h : l ≠ []) (c : IsCh l) : maxI l = some ((mm l : Int) - 1) := by
  obtain ⟨m, e, h1, h2⟩ := maxI_of h
  rw [e]
  have a := c.mem.mp h1
  have b : ((mm l : Int) - 1) ∈ l := c.mem.mpr (by unfold mm; omega)
  have := h2 _ b
  unfold mm at this ⊢
  congr 1
  omega
theorem mm_pos {l : List Int} (h : l ≠ []) (c : IsCh l) : 0 < mm l := by
  cases l with
  | nil => exact absurd rfl h
  | cons x r =>
    have := c.mem.mp (List.mem_cons_self (a := x) (l := r))
    unfold mm; omega
theorem mm_le (l : List Int) : mm l ≤ l.length := uq_length l
theorem PP_of {l : List Int} (c : IsCh l) (n : NN l) : PP (prs l) (mm l) := by
  intro p hp
  have h := prs_mem hp
  have a := c.mem.mp h.1
  have b := c.mem.mp h.2
  exact ⟨a.1, b.1, n p hp, a.2, b.2⟩
@[simp] theorem ixN_m1 {n : Nat} : L2.ixN (n + 1) (-1) = some n := ixN_neg (n := n + 1) (k := 1) (by omega) (by omega)
theorem last_of {α : Type} {l : List α} {x : α} (h : l.getLast? = some x) : ∃ f, l = f ++ [x] := by
  obtain ⟨f, e⟩ := List.getLast?_eq_some_iff.mp h
  exact ⟨f, e⟩
end PyI

namespace PyI
/-- is_whole(value); names: 0=value -/
def f_is_whole : ISs := (.cons (.ret (.and (.isi (.var 0) .int) (.not (.isi (.var 0) .bool))))
    .nil)
abbrev d_is_whole : Fd := ⟨1, 1, f_is_whole⟩
abbrev i_is_whole : Nat := 525
/-- chain_by(things); names: 0=things 1=known 2=found 3=thing -/
def f_chain_by : ISs := (.cons (.asg (.tg (.name 1)) (.dct .nil))
    (.cons (.asg (.tg (.name 2)) (.comp (.mth .setdefault (.var 1) (.cons (.var 3) (.cons (.blt .len (.cons (.var 1) .nil)) .nil))) (.name 3) (.val (.var 0)) .none [3]))
    (.cons (.ret (.tup (.cons (.blt .tuple (.cons (.var 2) .nil)) (.cons (.blt .tuple (.cons (.var 1) .nil)) .nil))))
    .nil)))
abbrev d_chain_by : Fd := ⟨1, 4, f_chain_by⟩
abbrev i_chain_by : Nat := 72
/-- chain_ok(value); names: 0=value 1=number -/
def f_chain_ok : ISs := (.cons (.ifs (.or (.not (.isi (.var 0) .tup)) (.not (.cmp3 .le .le (.con (.int 1)) (.blt .len (.cons (.var 0) .nil)) (.con (.int 2000)))))
    (.cons (.ret (.con (.bl false)))
    .nil)
    .nil)
    (.cons (.ret (.and (.blt .all (.cons (.comp (.call 525 (.cons (.var 1) .nil)) (.name 1) (.val (.var 0)) .none [1]) .nil)) (.cmp .eq (.ix (.call 72 (.cons (.var 0) .nil)) (.con (.int 0))) (.var 0))))
    .nil))
abbrev d_chain_ok : Fd := ⟨1, 2, f_chain_ok⟩
abbrev i_chain_ok : Nat := 73
/-- runs_of(chain); names: 0=chain 1=found 2=number 3=many -/
def f_runs_of_l0 : ISs := (.cons (.asg (.tg (.name 3)) (.ite (.and (.cmp .ne (.var 1) (.lst .nil)) (.cmp .eq (.ix (.ix (.var 1) (.neg (.con (.int 1)))) (.con (.int 0))) (.var 2))) (.ix (.mth .pop (.var 1) .nil) (.con (.int 1))) (.con (.int 0))))
    (.cons (.expr (.mth .append (.var 1) (.cons (.tup (.cons (.var 2) (.cons (.bin .add (.var 3) (.con (.int 1))) .nil))) .nil)))
    .nil))
def f_runs_of : ISs := (.cons (.asg (.tg (.name 1)) (.lst .nil))
    (.cons (.fors (.name 2) (.val (.var 0)) f_runs_of_l0)
    (.cons (.ret (.var 1))
    .nil)))
abbrev d_runs_of : Fd := ⟨1, 4, f_runs_of⟩
abbrev i_runs_of : Nat := 74
/-- run_round_by(chain); names: 0=chain -/
def f_run_round_by : ISs := (.cons (.ret (.call 72 (.cons (.call 74 (.cons (.var 0) .nil)) .nil)))
    .nil)
abbrev d_run_round_by : Fd := ⟨1, 1, f_run_round_by⟩
abbrev i_run_round_by : Nat := 75
/-- can_pair(chain); names: 0=chain 1=one 2=two -/
def f_can_pair : ISs := (.cons (.ret (.and (.cmp .gt (.blt .len (.cons (.var 0) .nil)) (.con (.int 1))) (.blt .all (.cons (.comp (.cmp .ne (.var 1) (.var 2)) (.two (.name 1) (.name 2)) (.zip (.var 0) (.sl (.var 0) (.some (.con (.int 1))) .none)) .none [1, 2]) .nil))))
    .nil)
abbrev d_can_pair : Fd := ⟨1, 3, f_can_pair⟩
abbrev i_can_pair : Nat := 76
/-- neighbours_in(chain); names: 0=chain 1=found 2=pair -/
def f_neighbours_in_l0 : ISs := (.cons (.asg (.sub (.var 1) (.var 2)) (.bin .add (.mth .get (.var 1) (.cons (.var 2) (.cons (.con (.int 0)) .nil))) (.con (.int 1))))
    .nil)
def f_neighbours_in : ISs := (.cons (.asg (.tg (.name 1)) (.dct .nil))
    (.cons (.fors (.name 2) (.zip (.var 0) (.sl (.var 0) (.some (.con (.int 1))) .none)) f_neighbours_in_l0)
    (.cons (.ret (.var 1))
    .nil)))
abbrev d_neighbours_in : Fd := ⟨1, 3, f_neighbours_in⟩
abbrev i_neighbours_in : Nat := 77
/-- lessers_by(neighbours); names: 0=neighbours 1=found 2=many 3=one 4=two -/
def f_lessers_by_l0 : ISs := (.cons (.expr (.mth .append (.mth .setdefault (.var 1) (.cons (.blt .max (.cons (.var 3) (.cons (.var 4) .nil))) (.cons (.lst .nil) .nil))) (.cons (.tup (.cons (.blt .min (.cons (.var 3) (.cons (.var 4) .nil))) (.cons (.var 2) .nil))) .nil)))
    .nil)
def f_lessers_by : ISs := (.cons (.asg (.tg (.name 1)) (.dct .nil))
    (.cons (.forD (.two (.two (.name 3) (.name 4)) (.name 2)) 0 f_lessers_by_l0)
    (.cons (.ret (.var 1))
    .nil)))
abbrev d_lessers_by : Fd := ⟨1, 5, f_lessers_by⟩
abbrev i_lessers_by : Nat := 78
/-- goes_right(sides, lessers); names: 0=sides 1=lessers 2=right 3=number 4=many -/
def f_goes_right : ISs := (.cons (.asg (.tg (.name 2)) (.blt .sum (.cons (.comp (.var 4) (.two (.name 3) (.name 4)) (.val (.var 1)) (.some (.ix (.var 0) (.var 3))) [3, 4]) .nil)))
    (.cons (.ret (.cmp .gt (.blt .sum (.cons (.comp (.var 4) (.two (.name 3) (.name 4)) (.val (.var 1)) .none [3, 4]) .nil)) (.bin .mul (.con (.int 2)) (.var 2))))
    .nil))
abbrev d_goes_right : Fd := ⟨2, 5, f_goes_right⟩
abbrev i_goes_right : Nat := 79
/-- left_by(many, neighbours); names: 0=many 1=neighbours 2=number 3=lessers 4=sides -/
def f_left_by_l0 : ISs := (.cons (.expr (.mth .append (.var 4) (.cons (.call 79 (.cons (.var 4) (.cons (.mth .get (.var 3) (.cons (.var 2) (.cons (.lst .nil) .nil))) .nil))) .nil)))
    .nil)
def f_left_by : ISs := (.cons (.asg (.tg (.two (.name 3) (.name 4))) (.tup (.cons (.call 78 (.cons (.var 1) .nil)) (.cons (.lst .nil) .nil))))
    (.cons (.fors (.name 2) (.rng1 (.var 0)) f_left_by_l0)
    (.cons (.ret (.comp (.var 2) (.name 2) (.rng1 (.var 0)) (.some (.not (.ix (.var 4) (.var 2)))) [2]))
    .nil)))
abbrev d_left_by : Fd := ⟨2, 5, f_left_by⟩
abbrev i_left_by : Nat := 80
/-- pairs_of(chain, left); names: 0=chain 1=left 2=found 3=number -/
def f_pairs_of_l0 : ISs := (.cons (.ifs (.and (.cmp .nin (.var 3) (.var 1)) (.and (.cmp .ne (.var 2) (.lst .nil)) (.and (.cmp .eq (.blt .len (.cons (.ix (.var 2) (.neg (.con (.int 1)))) .nil)) (.con (.int 1))) (.cmp .inn (.ix (.ix (.var 2) (.neg (.con (.int 1)))) (.con (.int 0))) (.var 1)))))
    (.cons (.asg (.sub (.var 2) (.neg (.con (.int 1)))) (.tup (.cons (.ix (.ix (.var 2) (.neg (.con (.int 1)))) (.con (.int 0))) (.cons (.var 3) .nil))))
    .nil)
    (.cons (.expr (.mth .append (.var 2) (.cons (.tup (.cons (.var 3) .nil)) .nil)))
    .nil))
    .nil)
def f_pairs_of : ISs := (.cons (.asg (.tg (.name 2)) (.lst .nil))
    (.cons (.fors (.name 3) (.val (.var 0)) f_pairs_of_l0)
    (.cons (.ret (.var 2))
    .nil)))
abbrev d_pairs_of : Fd := ⟨2, 4, f_pairs_of⟩
abbrev i_pairs_of : Nat := 81
/-- left_in(chain); names: 0=chain -/
def f_left_in : ISs := (.cons (.ret (.call 80 (.cons (.bin .add (.blt .max (.cons (.var 0) .nil)) (.con (.int 1))) (.cons (.call 77 (.cons (.var 0) .nil)) .nil))))
    .nil)
abbrev d_left_in : Fd := ⟨1, 1, f_left_in⟩
abbrev i_left_in : Nat := 82
/-- pair_round_by(chain); names: 0=chain -/
def f_pair_round_by : ISs := (.cons (.ret (.call 72 (.cons (.call 81 (.cons (.var 0) (.cons (.call 82 (.cons (.var 0) .nil)) .nil))) .nil)))
    .nil)
abbrev d_pair_round_by : Fd := ⟨1, 1, f_pair_round_by⟩
abbrev i_pair_round_by : Nat := 83
/-- check_chain(chain); names: 0=chain -/
def f_check_chain : ISs := (.cons (.ifs (.not (.call 73 (.cons (.var 0) .nil)))
    (.cons .never
    .nil)
    .nil)
    .nil)
abbrev d_check_chain : Fd := ⟨1, 1, f_check_chain⟩
abbrev i_check_chain : Nat := 65
/-- check_pairable(chain); names: 0=chain -/
def f_check_pairable : ISs := (.cons (.expr (.call 65 (.cons (.var 0) .nil)))
    (.cons (.ifs (.not (.call 76 (.cons (.var 0) .nil)))
    (.cons .never
    .nil)
    .nil)
    .nil))
abbrev d_check_pairable : Fd := ⟨1, 1, f_check_pairable⟩
abbrev i_check_pairable : Nat := 66
/-- is_chain(value); names: 0=value -/
def f_is_chain : ISs := (.cons (.ret (.call 73 (.cons (.var 0) .nil)))
    .nil)
abbrev d_is_chain : Fd := ⟨1, 1, f_is_chain⟩
abbrev i_is_chain : Nat := 67
/-- run_round(chain); names: 0=chain -/
def f_run_round : ISs := (.cons (.expr (.call 65 (.cons (.var 0) .nil)))
    (.cons (.ret (.call 75 (.cons (.var 0) .nil)))
    .nil))
abbrev d_run_round : Fd := ⟨1, 1, f_run_round⟩
abbrev i_run_round : Nat := 69
/-- left_of(chain); names: 0=chain -/
def f_left_of : ISs := (.cons (.expr (.call 66 (.cons (.var 0) .nil)))
    (.cons (.ret (.blt .tuple (.cons (.call 82 (.cons (.var 0) .nil)) .nil)))
    .nil))
abbrev d_left_of : Fd := ⟨1, 1, f_left_of⟩
abbrev i_left_of : Nat := 70
/-- pair_round(chain); names: 0=chain -/
def f_pair_round : ISs := (.cons (.expr (.call 66 (.cons (.var 0) .nil)))
    (.cons (.ret (.call 83 (.cons (.var 0) .nil)))
    .nil))
abbrev d_pair_round : Fd := ⟨1, 1, f_pair_round⟩
abbrev i_pair_round : Nat := 71
structure Has_chainwork (tab : List Fd) : Prop where
  is_whole : tab[i_is_whole]? = some d_is_whole
  chain_by : tab[i_chain_by]? = some d_chain_by
  chain_ok : tab[i_chain_ok]? = some d_chain_ok
  runs_of : tab[i_runs_of]? = some d_runs_of
  run_round_by : tab[i_run_round_by]? = some d_run_round_by
  can_pair : tab[i_can_pair]? = some d_can_pair
  neighbours_in : tab[i_neighbours_in]? = some d_neighbours_in
  lessers_by : tab[i_lessers_by]? = some d_lessers_by
  goes_right : tab[i_goes_right]? = some d_goes_right
  left_by : tab[i_left_by]? = some d_left_by
  pairs_of : tab[i_pairs_of]? = some d_pairs_of
  left_in : tab[i_left_in]? = some d_left_in
  pair_round_by : tab[i_pair_round_by]? = some d_pair_round_by
  check_chain : tab[i_check_chain]? = some d_check_chain
  check_pairable : tab[i_check_pairable]? = some d_check_pairable
  is_chain : tab[i_is_chain]? = some d_is_chain
  run_round : tab[i_run_round]? = some d_run_round
  left_of : tab[i_left_of]? = some d_left_of
  pair_round : tab[i_pair_round]? = some d_pair_round
end PyI

/-! PCs_: what the functions of chains compute. -/
namespace PyI
open Ch
variable {tab : List Fd} (T : Has_chainwork tab)
include T

theorem is_whole_s (n : Nat) (d : D) (st : Sto) (hd : ∀ m, d ≠ .ref m) : Ok (callF tab (n+1) i_is_whole [d] st) (fun x s => s = st ∧ x = .bl (match d with | .int _ => true | _ => false)) := by
  refine Ok_callF T.is_whole rfl ?_
  cases d <;> simp [f_is_whole, kdIs]
  exact absurd rfl (hd _)

theorem chain_by_s {α : Type} [DecidableEq α] (I : DI α) (n : Nat) (l : List α) (d : D) (st : Sto) (w : Wk) (hw : walkOf st d = some w) (hx : w.xs = l.map I.key) (hl : l.length ≤ 1000000) :
    Ok (callF tab (n+1) i_chain_by [d] st) (Gv st (.tup [.tup ((ch l).map D.int), .tup ((uq l).map I.key)])) := by
  refine Ok_callF T.chain_by rfl ?_
  simp [f_chain_by, walkOf_ext hw]
  refine Ok_comp hx (fun d r a s => a = (ch d).map D.int ∧ s = st ++ [I.cell (uq d)]) ⟨rfl, by rw [uq_nil, I.nil]⟩ ?_ ?_ ?_ ?_
  · rintro d r a _ _ ⟨_, rfl⟩
    exact Wk.on_ext (walkOf_on hw) _
  · rintro d x r a _ e ⟨rfl, _⟩
    have : d.length + (r.length + 1) = l.length := by rw [← e]; simp
    rw [List.length_map, ch_length]
    omega
  · rintro d x r a _ e ⟨rfl, rfl⟩
    have hd : d.length + (r.length + 1) = l.length := by rw [← e]; simp
    have hu := uq_length d
    obtain ⟨c1, hs1⟩ := I.puts (uq d) x (.int (uq d).length) (by omega)
    simp [Ok_turnL, I.kd, I.len, I.get]
    rw [ch_snoc, uq_snoc]
    by_cases hm : x ∈ uq d
    · simp [hm, hs1]
    · rw [I.put _ _ (by omega) hm]
      simp [hm, ix_new]
  · rintro a _ ⟨rfl, rfl⟩
    simp [I.tup]

theorem chain_ok_s (n : Nat) (l : List Int) (st : Sto) (hl : l.length ≤ 1000000) :
    Ok (callF tab (n+2) i_chain_ok [.tup (l.map D.int)] st) (Gv st (.bl (decide (1 ≤ l.length ∧ l.length ≤ 2000 ∧ ch l = l)))) := by
  refine Ok_callF T.chain_ok rfl ?_
  simp [f_chain_ok, kdIs]
  refine ⟨fun h1 => ⟨fun h2 => ?_, fun h2 => ?_⟩, fun h1 => ?_⟩
  · refine Ok_compP rfl (fun _ => some (.bl true)) Wk.on_none (by omega) (fun x hx u => ?_) fun u => ?_
    · simp [Ok_turnL]
      refine (is_whole_s T _ _ _ (by simp)).same ?_
      simp
    · simp
      refine (chain_by_s T iI n l (.tup (l.map D.int)) _ ⟨_, none⟩ rfl rfl hl).gv fun u => ?_
      have g1 : 1 ≤ l.length := by omega
      have g2 : l.length ≤ 2000 := by omega
      simp [g1, g2]
  · omega
  · omega

theorem runs_of_s (n : Nat) (l : List Int) (st : Sto) (hl : l.length ≤ 1000000) :
    Ok (callF tab (n+1) i_runs_of [.tup (l.map D.int)] st) (Gl st ((rle l).map rI.key)) := by
  refine Ok_callF T.runs_of rfl ?_
  simp [f_runs_of]
  refine So_for rfl (fun d r e s => (∃ a b, e = [some (.tup (l.map D.int)), some (.ref st.length), a, b]) ∧ ∃ u, s = st ++ .lst ((rle d).map rI.key) :: u) ⟨⟨_, _, rfl⟩, [], rfl⟩ ?_ ?_ ?_
  · rintro d r e s _ _
    exact Wk.on_none
  · rintro d x r e s hd ⟨⟨a, b, rfl⟩, u, rfl⟩
    have hd : d.length + (r.length + 1) = l.length := by rw [← hd]; simp
    have hr := rle_length d
    rw [rle_snoc, rlS]
    cases h : (rle d).getLast? with
    | none =>
      have h0 : rle d = [] := List.getLast?_eq_none_iff.mp h
      simp [f_runs_of_l0, h0]
    | some p =>
      obtain ⟨y, k⟩ := p
      have h0 : rle d ≠ [] := fun e => by rw [e] at h; cases h
      have hl : (rle d)[(rle d).length - 1]? = some (y, k) := by rw [← List.getLast?_eq_getElem?]; exact h
      simp [f_runs_of_l0, h0, h]
      refine ⟨fun e => ?_, fun e => ?_⟩
      · subst e
        simp [hl]
        omega
      · simp [e]
        omega
  · rintro e s ⟨⟨a, b, rfl⟩, u, rfl⟩
    simp
    exact Gl_at rfl

theorem run_round_by_s (n : Nat) (l : List Int) (st : Sto) (hl : l.length ≤ 1000000) :
    Ok (callF tab (n+2) i_run_round_by [.tup (l.map D.int)] st) (Gv st (.tup [.tup ((ch (rle l)).map D.int), .tup ((uq (rle l)).map rI.key)])) := by
  refine Ok_callF T.run_round_by rfl ?_
  simp [f_run_round_by]
  refine (runs_of_s T n l _ hl).gl fun k u h1 h2 => ?_
  simp
  refine (chain_by_s T rI n (rle l) (.ref k) _ ⟨_, _⟩ (by rw [walkOf_ref, h2]; rfl) rfl (Nat.le_trans (rle_length l) hl)).gv fun u => ?_
  simp

theorem can_pair_s (n : Nat) (l : List Int) (st : Sto) (hl : l.length ≤ 1000000) :
    Ok (callF tab (n+1) i_can_pair [.tup (l.map D.int)] st) (Gv st (.bl (decide (1 < l.length) && (prs l).all fun p => decide (p.1 ≠ p.2)))) := by
  refine Ok_callF T.can_pair rfl ?_
  simp [f_can_pair, cutD_from]
  refine ⟨fun h1 => ?_, fun h1 => ?_⟩
  · have hz : zipDD (l.map D.int) (l.map D.int).tail = (prs l).map fun p => .tup [.int p.1, .int p.2] := by rw [← List.map_tail, zipDD_map]; rfl
    have h2 : 1 < l.length := by omega
    refine Ok_compP hz (fun p => some (.bl (decide (p.1 ≠ p.2)))) Wk.on_none (by rw [prs_length]; omega) (fun x hx u => ?_) fun u => ?_
    · simp [Ok_turnL]
    · simp [h2]
  · have h2 : ¬ (1 < l.length) := by omega
    simp [h2]
    omega

theorem neighbours_in_s (n : Nat) (l : List Int) (st : Sto) (hl : l.length ≤ 1000000) :
    Ok (callF tab (n+1) i_neighbours_in [.tup (l.map D.int)] st) (fun x s => ∃ k u, x = .ref k ∧ s = st ++ u ∧ st.length ≤ k ∧ s[k]? = some (pCD.cell (prs l))) := by
  refine Ok_callF T.neighbours_in rfl ?_
  have hz : zipDD (l.map D.int) (l.map D.int).tail = (prs l).map pCD.key := by rw [← List.map_tail, zipDD_map]; rfl
  simp [f_neighbours_in, cutD_from]
  refine So_for hz (fun d r e s => (∃ b, e = [some (.tup (l.map D.int)), some (.ref st.length), b]) ∧ s = st ++ [pCD.cell d]) ⟨⟨_, rfl⟩, by rw [pCD.nil]⟩ ?_ ?_ ?_
  · rintro d r e s _ _
    exact Wk.on_none
  · rintro d x r e s hd ⟨⟨b, rfl⟩, rfl⟩
    have hd2 : d.length + (r.length + 1) = l.length - 1 := by rw [← prs_length, ← hd]; simp
    have hg := pCD.get d x
    have hp := pCD.se d x (by omega)
    rw [pCD_key] at hg hp
    simp [f_neighbours_in_l0, pCD.kd, hg, hp]
  · rintro e s ⟨⟨b, rfl⟩, rfl⟩
    simp

omit T
/-- a list of pairs of numbers -/
def lsD (l : List (Int × Int)) : List D := l.map fun p => .tup [.int p.1, .int p.2]
/-- a dict of such lists, by numbers: each a list of its own -/
structure LsAt (lo b : Nat) (s : Sto) (m : Nat) (F : Int → List (Int × Int)) (kvs : List (Ky × D)) : Prop where
  at_ : s[m]? = some (.dk kvs)
  few : kvs.length ≤ b
  non : ∀ k, valD kvs (.inl k) = none → F k = []
  get : ∀ k d, valD kvs (.inl k) = some d → ∃ r, d = .ref r ∧ lo ≤ r ∧ r ≠ m ∧ s[r]? = some (.lst (lsD (F k)))
  inj : ∀ k k' r, valD kvs (.inl k) = some (.ref r) → valD kvs (.inl k') = some (.ref r) → k = k'
theorem LsAt.ext {lo b : Nat} {s : Sto} {m : Nat} {F : Int → List (Int × Int)} {kvs : List (Ky × D)} (h : LsAt lo b s m F kvs) (u : Sto) : LsAt lo b (s ++ u) m F kvs where
  at_ := by rw [lk_l (lt_of h.at_)]; exact h.at_
  few := h.few
  non := h.non
  get := fun k d e => by
    obtain ⟨r, h1, h2, h3, h4⟩ := h.get k d e
    exact ⟨r, h1, h2, h3, by rw [lk_l (lt_of h4)]; exact h4⟩
  inj := h.inj
theorem LsAt.set {lo b : Nat} {s : Sto} {m : Nat} {F : Int → List (Int × Int)} {kvs : List (Ky × D)} (h : LsAt lo b s m F kvs) {i : Nat} (hi : i < lo) (hm : lo ≤ m) (c : Cell) : LsAt lo b (s.set i c) m F kvs where
  at_ := by rw [List.getElem?_set_ne (by omega)]; exact h.at_
  few := h.few
  non := h.non
  get := fun k d e => by
    obtain ⟨r, h1, h2, h3, h4⟩ := h.get k d e
    exact ⟨r, h1, h2, h3, by rw [List.getElem?_set_ne (by omega)]; exact h4⟩
  inj := h.inj
theorem set_same {s : Sto} {m : Nat} {c : Cell} (h : s[m]? = some c) : s.set m c = s := by
  obtain ⟨h1, h2⟩ := List.getElem?_eq_some_iff.mp h
  rw [← h2, List.set_getElem_self]
theorem LsAt.up {lo b b' : Nat} {s : Sto} {m : Nat} {F : Int → List (Int × Int)} {kvs : List (Ky × D)} (h : LsAt lo b s m F kvs) (hb : b ≤ b') : LsAt lo b' s m F kvs := ⟨h.at_, Nat.le_trans h.few hb, h.non, h.get, h.inj⟩
theorem valD_snoc {κ : Type} [DecidableEq κ] (kvs : List (κ × D)) (k k' : κ) (v : D) : valD (kvs ++ [(k, v)]) k' = (valD kvs k').or (if k = k' then some v else none) := by
  rw [valD_app]
  congr 1
  by_cases h : k = k' <;> simp [valD, h]
theorem valD_none_keys {κ : Type} [DecidableEq κ] {kvs : List (κ × D)} {k : κ} (h : valD kvs k = none) : k ∉ kvs.map (·.1) := by
  intro q
  obtain ⟨p, hp, e⟩ := List.mem_map.mp q
  unfold valD at h
  rw [Option.map_eq_none_iff, List.find?_eq_none] at h
  have := h p hp
  simp [e] at this
/-- one more in its list -/
def addF (F : Int → List (Int × Int)) (k : Int) (x : Int × Int) : Int → List (Int × Int) := fun k' => if k' = k then F k ++ [x] else F k'
theorem addF_same (F : Int → List (Int × Int)) (k : Int) (x : Int × Int) : addF F k x k = F k ++ [x] := by simp [addF]
theorem addF_ne (F : Int → List (Int × Int)) {k k' : Int} (x : Int × Int) (h : k' ≠ k) : addF F k x k' = F k' := by simp [addF, h]
theorem LsAt.old {lo b : Nat} {s : Sto} {m : Nat} {F : Int → List (Int × Int)} {kvs : List (Ky × D)} (h : LsAt lo b s m F kvs) {k : Int} {r : Nat} (hv : valD kvs (.inl k) = some (.ref r)) (x : Int × Int) :
    LsAt lo (b + 1) (s.set r (.lst (lsD (F k ++ [x])))) m (addF F k x) kvs := by
  obtain ⟨r', e, h2, h3, h4⟩ := h.get k _ hv
  cases e
  refine ⟨by rw [List.getElem?_set_ne h3]; exact h.at_, Nat.le_succ_of_le h.few, fun k' e => ?_, fun k' d e => ?_, h.inj⟩
  · rw [addF_ne _ _ fun z => by rw [z, hv] at e; cases e]
    exact h.non k' e
  · obtain ⟨r', rfl, g2, g3, g4⟩ := h.get k' d e
    refine ⟨r', rfl, g2, g3, ?_⟩
    by_cases e2 : k' = k
    · subst e2; rw [hv] at e; cases e
      rw [List.getElem?_set_self (lt_of h4), addF_same]
    · have hr : r ≠ r' := fun z => e2 (h.inj _ _ r' e (z ▸ hv))
      rw [List.getElem?_set_ne hr, addF_ne _ _ e2]
      exact g4
theorem LsAt.new {lo b : Nat} {s : Sto} {m : Nat} {F : Int → List (Int × Int)} {kvs : List (Ky × D)} (h : LsAt lo b s m F kvs) (hlo : lo ≤ s.length) {k : Int} (hv : valD kvs (.inl k) = none) (x : Int × Int) :
    LsAt lo (b + 1) ((s.set m (.dk (kvs ++ [(.inl k, .ref s.length)]))) ++ [.lst (lsD (F k ++ [x]))]) m (addF F k x) (kvs ++ [(.inl k, .ref s.length)]) := by
  have hm := lt_of h.at_
  have hF : F k = [] := h.non k hv
  have hold : ∀ k' r, valD kvs (.inl k') = some (.ref r) → r < s.length := fun k' r e => by
    obtain ⟨r', e', _, _, h4⟩ := h.get k' _ e
    cases e'
    exact lt_of h4
  have hl : (s.set m (.dk (kvs ++ [(.inl k, .ref s.length)]))).length = s.length := List.length_set
  refine ⟨by rw [lk_l (by omega), List.getElem?_set_self hm], by simp; exact h.few, fun k' e => ?_, fun k' d e => ?_, fun k1 k2 r e1 e2 => ?_⟩
  · rw [valD_snoc] at e
    cases h1 : valD kvs (.inl k') with
    | some d => rw [h1] at e; cases e
    | none =>
      rw [h1, Option.none_or] at e
      rw [addF_ne _ _ fun z => by rw [z, if_pos rfl] at e; cases e]
      exact h.non k' h1
  · rw [valD_snoc] at e
    cases h1 : valD kvs (.inl k') with
    | some d1 =>
      rw [h1, Option.some_or] at e
      cases e
      obtain ⟨r', rfl, g2, g3, g4⟩ := h.get k' _ h1
      have hr := lt_of g4
      refine ⟨r', rfl, g2, g3, ?_⟩
      rw [lk_l (by omega), List.getElem?_set_ne (Ne.symm g3), addF_ne _ _ fun w => by rw [w, hv] at h1; cases h1]
      exact g4
    | none =>
      rw [h1, Option.none_or] at e
      split at e
      · rename_i z
        have z2 : k = k' := by injection z
        subst z2
        cases e
        refine ⟨_, rfl, hlo, by omega, ?_⟩
        rw [addF_same]
        have q := lk_0 (s.set m (.dk (kvs ++ [(.inl k, .ref s.length)]))) [.lst (lsD (F k ++ [x]))]
        rw [hl] at q
        rw [q]
        rfl
      · cases e
  · rw [valD_snoc] at e1 e2
    cases h1 : valD kvs (.inl k1) with
    | some d1 =>
      rw [h1, Option.some_or] at e1
      cases h2 : valD kvs (.inl k2) with
      | some d2 =>
        rw [h2, Option.some_or] at e2
        exact h.inj k1 k2 r (h1.trans e1) (h2.trans e2)
      | none =>
        rw [h2, Option.none_or] at e2
        split at e2
        · cases e2
          have := hold k1 _ (h1.trans e1)
          omega
        · cases e2
    | none =>
      rw [h1, Option.none_or] at e1
      split at e1
      · rename_i z1
        cases e1
        cases h2 : valD kvs (.inl k2) with
        | some d2 =>
          rw [h2, Option.some_or] at e2
          have := hold k2 _ (h2.trans e2)
          omega
        | none =>
          rw [h2, Option.none_or] at e2
          split at e2
          · rename_i z2
            have a : k = k1 := by injection z1
            have b : k = k2 := by injection z2
            rw [← a, ← b]
          · cases e2
      · cases e1
/-- of some neighbours those with a greater one, told by the less one -/
def FL (P d : List (Int × Int)) (k : Int) : List (Int × Int) := (d.filter fun p => decide (mx p = k)).map fun p => (mn p, ((cnt P p : Nat) : Int))
theorem FL_snoc (P d : List (Int × Int)) (x : Int × Int) : FL P (d ++ [x]) = addF (FL P d) (mx x) (mn x, ((cnt P x : Nat) : Int)) := by
  funext k
  unfold FL addF
  rw [List.filter_append, List.map_append]
  by_cases h : mx x = k
  · subst h; simp
  · simp [h, Ne.symm h]
include T
theorem lessers_by_s (n : Nat) (P : List (Int × Int)) (m : Nat) (st : Sto) (hP : P.length ≤ 1000000) (hm : st[m]? = some (pCD.cell P)) :
    Ok (callF tab (n+1) i_lessers_by [.ref m] st) (fun x s => ∃ k u kvs, x = .ref k ∧ s = st ++ u ∧ st.length ≤ k ∧ LsAt st.length 1000000 s k (FL P (uq P)) kvs) := by
  have hu := uq_length P
  obtain ⟨c', hc'⟩ : ∃ c', lockC m (some (pCD.cell P)) = some (m, pCD.cell P, c', (uq P).map fun p => .tup [.tup [.int p.1, .int p.2], .int (cnt P p : Nat)]) := by
    rw [pCD_cell]
    split
    · rename_i h; subst h; exact ⟨_, rfl⟩
    · refine ⟨.fzt (cnd (fun p => [.inl p.1, .inl p.2]) P), ?_⟩
      simp only [lockC, itemsT, cnd, List.map_map]
      rfl
  have hml := lt_of hm
  refine Ok_callF T.lessers_by rfl ?_
  simp [f_lessers_by, lk_l hml, hm, hc', st_l hml]
  refine So_for rfl (fun d r e s => (∃ a b c, e = [some (.ref m), some (.ref st.length), a, b, c]) ∧ ∃ u kvs, s = st.set m c' ++ u ∧ LsAt st.length d.length s st.length (FL P d) kvs) ?_ ?_ ?_ ?_
  · refine ⟨⟨_, _, _, rfl⟩, _, [], rfl, ?_, Nat.le_refl _, fun k _ => rfl, fun k d e => (by cases e), fun k k' r e => (by cases e)⟩
    have := lk_0 (st.set m c') [.dk []]
    rw [List.length_set] at this
    rw [this]
    rfl
  · rintro d r e s _ _
    exact Wk.on_none
  · rintro d x r e s hd ⟨⟨a, b, c, rfl⟩, u, kvs, rfl, L⟩
    have hd2 : d.length + (r.length + 1) = (uq P).length := by rw [← hd]; simp
    have hk := L.at_
    have hf := L.few
    have hsl := lt_of hk
    have hlen : (st.set m c' ++ u).length = st.length + u.length := by simp
    have e1 : (if x.2 > x.1 then x.2 else x.1) = mx x := by unfold mx; split <;> omega
    have e2 : (if x.2 < x.1 then x.2 else x.1) = mn x := by unfold mn; split <;> omega
    rw [FL_snoc, List.length_append, List.length_singleton]
    generalize hS : st.set m c' ++ u = S at L hk hsl hlen ⊢
    have hp : putC (some (.dk kvs)) (.int (mx x)) (.ref S.length) = some (.dk (putD kvs (.inl (mx x)) (.ref S.length))) := by
      have := putC_ky (some (.dk kvs)) (.inl (mx x)) (.ref S.length)
      rw [dkC_dk, Option.bind_some, if_pos (by omega)] at this
      exact this
    have hg : getC (some (.dk kvs)) (.int (mx x)) = some (valD kvs (.inl (mx x))) := getC_ky (some (.dk kvs)) (.inl (mx x))
    have e1' := e1
    have e2' := e2
    simp only [gt_iff_lt] at e1'
    simp [f_lessers_by_l0, e1', e2', lk_l hsl, hk, hp, hg]
    cases hv : valD kvs (.inl (mx x)) with
    | some d1 =>
      obtain ⟨r1, rfl, h2, h3, h4⟩ := L.get _ _ hv
      have hr := lt_of h4
      have hfl : (lsD (FL P d (mx x))).length < 16777216 := by
        have : (FL P d (mx x)).length ≤ d.length := by
          unfold FL
          rw [List.length_map]
          exact List.length_filter_le _ _
        simp [lsD]; omega
      have el : lsD (FL P d (mx x)) ++ [D.tup [D.int (mn x), D.int ↑(cnt P x)]] = lsD (FL P d (mx x) ++ [(mn x, ((cnt P x : Nat) : Int))]) := by simp [lsD]
      simp [lk_l hr, h4, hfl]
      rw [el, st_l hr]
      refine ⟨?_, kvs, (L.old hv _).ext _⟩
      rw [← hS, List.set_append_right _ _ (by simp; exact h2), List.append_assoc]
      exact ⟨_, rfl⟩
    | none =>
      have hF := L.non _ hv
      have en := putD_new (valD_none_keys hv) (.ref S.length)
      have N := L.new (by omega) hv (mn x, ((cnt P x : Nat) : Int))
      simp [hF, en, st_l hsl, lsD] at N ⊢
      refine ⟨?_, _, N⟩
      rw [← hS, List.set_append_right _ _ (by simp), List.append_assoc]
      exact ⟨_, rfl⟩
  · rintro e s ⟨⟨a, b, c, rfl⟩, u, kvs, rfl, L⟩
    have e0 : (st.set m c' ++ u).set m (pCD.cell P) = st ++ u := by
      rw [List.set_append_left _ _ (by simpa using hml), List.set_set, set_same hm]
    have L2 := (L.set hml (Nat.le_refl _) (pCD.cell P)).up (b' := 1000000) (by omega)
    rw [e0] at L2
    simp [e0]
    exact ⟨_, L2⟩

theorem goes_right_s (n : Nat) (a b : Nat) (st : Sto) (S : List Bool) (F : List (Int × Int)) (ha : st[a]? = some (.lst (S.map D.bl))) (hb : st[b]? = some (.lst (lsD F))) (hF : ∀ p ∈ F, 0 ≤ p.1 ∧ p.1 < S.length) (hl : F.length ≤ 1000000) :
    Ok (callF tab (n+1) i_goes_right [.ref a, .ref b] st) (Gv st (.bl (decide (2 * ((F.filter fun p => S.getD p.1.toNat false).map (·.2)).sum < (F.map (·.2)).sum)))) := by
  have hal := lt_of ha
  have hbl := lt_of hb
  refine Ok_callF T.goes_right rfl ?_
  simp [f_goes_right, hb]
  refine Ok_compP rfl (fun p : Int × Int => if S.getD p.1.toNat false then some (.int p.2) else none) (by intro n c e; cases e; exact hb) (by omega) (fun x hx u => ?_) fun u => ?_
  · obtain ⟨h0, h1⟩ := hF x hx
    have e : (S.map D.bl)[x.1.toNat]? = some (.bl (S.getD x.1.toNat false)) := by
      rw [List.getElem?_map, List.getD_eq_getElem?_getD]
      have : x.1.toNat < S.length := by omega
      rw [List.getElem?_eq_getElem this]
      rfl
    have e2 : L2.atI S x.1 = some (S.getD x.1.toNat false) := by
      rw [atI_pos h0, List.getD_eq_getElem?_getD]
      have : x.1.toNat < S.length := by omega
      rw [List.getElem?_eq_getElem this]
      rfl
    clear e
    generalize S.getD x.1.toNat false = z at e2 ⊢
    simp [Ok_turnL, lk_l hal, ha, e2]
    cases z <;> simp
  · have e1 : F.filterMap (fun p : Int × Int => if S.getD p.1.toNat false then some (D.int p.2) else none) = (F.filter fun p => S.getD p.1.toNat false).map fun p => D.int p.2 := by
      clear hb hF hl
      induction F with
      | nil => rfl
      | cons p F ih =>
        rw [List.filterMap_cons, List.filter_cons, ih]
        cases S.getD p.1.toNat false <;> rfl
    rw [e1]
    simp [lk_l hbl, hb]
    refine Ok_compP rfl (fun p : Int × Int => some (.int p.2)) (by intro n c e; cases e; rw [lk_l hbl]; exact hb) (by omega) (fun x hx u => ?_) fun u => ?_
    · simp [Ok_turnL]
    · simp [mulOk]

omit T in
theorem FL_mem {P : List (Int × Int)} {m : Nat} (hP : PP P m) {k : Int} {p : Int × Int} (h : p ∈ FL P (uq P) k) : 0 ≤ p.1 ∧ p.1 < k := by
  unfold FL at h
  obtain ⟨q, hq, rfl⟩ := List.mem_map.mp h
  obtain ⟨h1, h2⟩ := List.mem_filter.mp hq
  have := hP q (mem_uq.mp h1)
  have := of_decide_eq_true h2
  unfold mx at this
  unfold mn
  dsimp only
  omega
omit T in
theorem FL_sum {P : List (Int × Int)} (k : Int) (g : Int × Int → Bool) : (((FL P (uq P) k).filter fun p => g (p.1, 0)).map (·.2)).sum = (P.countP (fun p => decide (mx p = k) && g (mn p, 0)) : Nat) := by
  rw [← sum_uq]
  unfold FL
  rw [List.filter_map, List.filter_filter, List.map_map]
  generalize uq P = l
  induction l with
  | nil => rfl
  | cons p l ih =>
    simp only [List.filter_cons, Function.comp_apply]
    by_cases h1 : mx p = k
    · cases h2 : g (mn p, 0) with
      | true => simp [h1, h2] at ih ⊢; omega
      | false => simp [h1, h2] at ih ⊢; exact ih
    · simp [h1] at ih ⊢; exact ih
omit T in
theorem FL_len {P : List (Int × Int)} (k : Int) : (FL P (uq P) k).length ≤ P.length := by
  unfold FL
  rw [List.length_map]
  exact Nat.le_trans (List.length_filter_le _ _) (uq_length P)

theorem left_by_s (n : Nat) (P : List (Int × Int)) (m k : Nat) (st : Sto) (hP : PP P k) (hl : P.length ≤ 1000000) (hk : k ≤ 1000000) (hm : st[m]? = some (pCD.cell P)) :
    Ok (callF tab (n+2) i_left_by [.int k, .ref m] st) (Gl st ((lft P k).map D.int)) := by
  refine Ok_callF T.left_by rfl ?_
  simp [f_left_by]
  refine (lessers_by_s T n P m st hl hm).imp ?_
  rintro _ _ ⟨q, u0, kvs, rfl, rfl, hq, L⟩
  have hrg : rngOk (k : Int) = true := by unfold rngOk; rw [decide_eq_true_eq]; omega
  simp [hrg, rgD_map]
  refine So_for rfl (fun d r e s => (∃ b, e = [some (.int k), some (.ref m), b, some (.ref q), some (.ref (st.length + u0.length))]) ∧ ∃ g, s = (st ++ u0) ++ .lst ((sds P d.length).map D.bl) :: g) ⟨⟨_, rfl⟩, [], by simp [sds]⟩ ?_ ?_ ?_
  · rintro d r e s _ _
    exact Wk.on_none
  · rintro d x r e s hd ⟨⟨b, rfl⟩, g, rfl⟩
    have hd2 : d.length + (r.length + 1) = k := by have := congrArg List.length hd; simpa using this
    have hx : x = d.length := by
      have := congrArg (fun l => l[d.length]?) hd
      simp only [List.getElem?_append_right (Nat.le_refl _), Nat.sub_self, List.getElem?_cons_zero] at this
      rw [List.getElem?_range (by omega)] at this
      exact Option.some.inj this
    subst hx
    have hql := lt_of L.at_
    have hlen : (st ++ u0).length = st.length + u0.length := List.length_append
    rw [← hlen]
    generalize hS : st ++ u0 = S at L hql ⊢
    have hg : getC (some (.dk kvs)) (.int (d.length : Nat)) = some (valD kvs (.inl (d.length : Nat))) := getC_ky (some (.dk kvs)) (.inl (d.length : Nat))
    simp [f_left_by_l0, lk_l hql, L.at_, hg]
    have hrt : ∀ F : List (Int × Int), F = FL P (uq P) (d.length : Nat) → decide (2 * ((F.filter fun p => (sds P d.length).getD p.1.toNat false).map (·.2)).sum < (F.map (·.2)).sum) = rt P (sds P d.length) (d.length : Nat) := by
      rintro F rfl
      have e1 := FL_sum (P := P) (d.length : Nat) (fun p => (sds P d.length).getD p.1.toNat false)
      have e2 := FL_sum (P := P) (d.length : Nat) (fun _ => true)
      have e3 : (FL P (uq P) (d.length : Nat)).filter (fun _ => true) = FL P (uq P) (d.length : Nat) := List.filter_eq_self.mpr fun _ _ => rfl
      rw [e3] at e2
      unfold rt
      rw [e1, e2]
      simp only [Bool.and_true]
      exact decide_eq_decide.mpr (by omega)
    have hFm : ∀ p ∈ FL P (uq P) (d.length : Nat), 0 ≤ p.1 ∧ p.1 < (sds P d.length).length := fun p hp => by
      have := FL_mem hP hp
      rw [sds_length]
      exact this
    have hFl := FL_len (P := P) (d.length : Nat)
    have hsd : sds P (d.length + 1) = sds P d.length ++ [rt P (sds P d.length) (d.length : Nat)] := rfl
    cases hv : valD kvs (.inl (d.length : Nat)) with
    | none =>
      have hF := L.non _ hv
      have h0 := hrt [] hF.symm
      have G := goes_right_s T n S.length (S.length + (g.length + 1)) (S ++ (.lst ((sds P d.length).map D.bl) :: (g ++ [.lst []]))) (sds P d.length) [] (by simp) (by simp [lsD]) (fun p hp => by cases hp) (by simp)
      simp
      refine G.gv fun u => ?_
      simp [hsd, ← h0, sds_length]
      omega
    | some d1 =>
      obtain ⟨r1, rfl, h2, h3, h4⟩ := L.get _ _ hv
      have hr := lt_of h4
      have h0 := hrt _ rfl
      have G := goes_right_s T n S.length r1 (S ++ (.lst ((sds P d.length).map D.bl) :: (g ++ [.lst []]))) (sds P d.length) _ (by simp) (by rw [lk_l hr]; exact h4) hFm (by omega)
      rw [h0] at G
      simp
      refine G.gv fun u => ?_
      simp [hsd, sds_length]
      omega
  · rintro e s ⟨⟨b, rfl⟩, g, rfl⟩
    simp [hrg]
    refine Ok_compP (rgD_map k) (fun i : Nat => if side P i then none else some (.int i)) Wk.on_none (by simp; omega) (fun x hx u => ?_) fun u => ?_
    · have hxk := List.mem_range.mp hx
      have e1 := sds_get P k x hxk
      have e2 : L2.atI (sds P k) (x : Int) = some (side P x) := by rw [atI_nat, e1]
      have hi : (st ++ (u0 ++ .lst ((sds P k).map D.bl) :: (g ++ u)))[st.length + u0.length]? = some (.lst ((sds P k).map D.bl)) := by simp
      generalize side P x = z at e2 ⊢
      simp [Ok_turnL, hi, e2]
      cases z <;> simp
    · have e1 : (List.range k).filterMap (fun i : Nat => if side P i then none else some (D.int i)) = (lft P k).map D.int := by
        unfold lft upto
        rw [List.filter_map, List.map_map]
        generalize List.range k = l
        induction l with
        | nil => rfl
        | cons x l ih =>
          rw [List.filterMap_cons, List.filter_cons, ih]
          cases h : side P x <;> simp [h]
      rw [e1]
      exact Gl_last ⟨_, by rw [List.append_assoc]⟩

theorem pairs_of_s (n : Nat) (l L : List Int) (k : Nat) (st : Sto) (hl : l.length ≤ 1000000) (hk : st[k]? = some (.lst (L.map D.int))) :
    Ok (callF tab (n+1) i_pairs_of [.tup (l.map D.int), .ref k] st) (Gl st ((pru L l).map tI.key)) := by
  have hkl := lt_of hk
  rw [← prf_pru]
  refine Ok_callF T.pairs_of rfl ?_
  simp [f_pairs_of]
  refine So_for rfl (fun d r e s => (∃ b, e = [some (.tup (l.map D.int)), some (.ref k), some (.ref st.length), b]) ∧ ∃ g, s = st ++ .lst ((prf L d).map tI.key) :: g) ⟨⟨_, rfl⟩, [], rfl⟩ ?_ ?_ ?_
  · rintro d r e s _ _
    exact Wk.on_none
  · rintro d x r e s hd ⟨⟨b, rfl⟩, g, rfl⟩
    have hd2 : d.length + (r.length + 1) = l.length := by rw [← hd]; simp
    have hpl : (prf L d).length < 16777216 := by
      have := pru_length (L := L) d
      rw [prf_pru]; omega
    rw [prf_snoc, prS]
    by_cases hx : x ∈ L
    · cases h : opn L (prf L d) <;> simp [f_pairs_of_l0, lk_l hkl, hk, hx, hpl]
    · cases h : (prf L d).getLast? with
      | none =>
        have h0 : prf L d = [] := List.getLast?_eq_none_iff.mp h
        simp [f_pairs_of_l0, lk_l hkl, hk, h0, opn, hx]
      | some u =>
        have h0 : prf L d ≠ [] := fun e => by rw [e] at h; cases h
        by_cases h1 : u.length = 1
        · obtain ⟨y, rfl⟩ : ∃ y, u = [y] := by
            match u, h1 with
            | [y], _ => exact ⟨y, rfl⟩
          by_cases hy : y ∈ L
          · have eo : opn L (prf L d) = some y := by simp [opn, h, hy]
            rw [eo]
            obtain ⟨f, hf⟩ := last_of h
            rw [hf]
            have p1 : D.purs (List.map tI.key f ++ [D.tup [D.int y]]) = true := by simp
            have p2 : D.deps (List.map tI.key f ++ [D.tup [D.int y]]) ≤ 60 := by
              rw [deps_app]
              refine Nat.max_le.mpr ⟨?_, ?_⟩
              · simp
              · simp
            have p3 := fun s => eqLL_pur (st := s) p1 purs_nil p2 (by simp)
            simp [f_pairs_of_l0, lk_l hkl, hk, hx, hy, p3]
          · simp [f_pairs_of_l0, lk_l hkl, hk, h, h0, opn, hx, hy, hpl]
        · have e : opn L (prf L d) = none := by
            unfold opn
            rw [h]
            match u, h1 with
            | [], _ => rfl
            | [y], h1 => exact absurd rfl h1
            | _ :: _ :: _, _ => rfl
          have h2 : ¬ ((u.length : Int) = 1) := by omega
          simp [f_pairs_of_l0, lk_l hkl, hk, h, h0, hx, h2, e, hpl]
  · rintro e s ⟨⟨b, rfl⟩, g, rfl⟩
    simp
    exact Gl_at rfl

theorem left_in_s (n : Nat) (l : List Int) (st : Sto) (hl : l.length ≤ 1000000) (hn : NN l) (hc : IsCh l) (h0 : l ≠ []) :
    Ok (callF tab (n+3) i_left_in [.tup (l.map D.int)] st) (Gl st ((lft (prs l) (mm l)).map D.int)) := by
  refine Ok_callF T.left_in rfl ?_
  have hm := mm_le l
  simp [f_left_in, maxI_ch h0 hc]
  refine (neighbours_in_s T (n+1) l st hl).imp ?_
  rintro _ _ ⟨k, u, rfl, rfl, h1, h2⟩
  simp
  refine (left_by_s T n (prs l) k (mm l) _ (PP_of hc hn) (by rw [prs_length]; omega) (by omega) h2).gl fun r v h3 h4 => ?_
  rw [List.append_assoc] at h4 ⊢
  exact Gl_of (by simp at h3; omega) h4

theorem pair_round_by_s (n : Nat) (l : List Int) (st : Sto) (hl : l.length ≤ 1000000) (hn : NN l) (hc : IsCh l) (h0 : l ≠ []) :
    Ok (callF tab (n+4) i_pair_round_by [.tup (l.map D.int)] st) (Gv st (.tup [.tup ((ch (pru (lft (prs l) (mm l)) l)).map D.int), .tup ((uq (pru (lft (prs l) (mm l)) l)).map tI.key)])) := by
  refine Ok_callF T.pair_round_by rfl ?_
  simp [f_pair_round_by]
  refine (left_in_s T n l st hl hn hc h0).gl fun k u h1 h2 => ?_
  simp
  refine (pairs_of_s T (n+2) l _ k _ hl h2).gl fun k2 u2 h3 h4 => ?_
  simp
  have hp := pru_length (L := lft (prs l) (mm l)) l
  refine (chain_by_s T tI (n+2) (pru (lft (prs l) (mm l)) l) (.ref k2) _ ⟨_, _⟩ (by rw [walkOf_ref, ← List.append_assoc, h4]; rfl) rfl (by omega)).gv fun u => ?_
  simp

theorem check_chain_s (n : Nat) (l : List Int) (st : Sto) (h1 : 1 ≤ l.length) (h2 : l.length ≤ 2000) (hc : IsCh l) :
    Ok (callF tab (n+3) i_check_chain [.tup (l.map D.int)] st) (Gv st .non) := by
  refine Ok_callF T.check_chain rfl ?_
  have hc' : ch l = l := hc
  simp [f_check_chain]
  refine (chain_ok_s T n l st (by omega)).gv fun u => ?_
  simp [h1, h2, hc']

theorem check_pairable_s (n : Nat) (l : List Int) (st : Sto) (h1 : 1 < l.length) (h2 : l.length ≤ 2000) (hc : IsCh l) (hn : NN l) :
    Ok (callF tab (n+4) i_check_pairable [.tup (l.map D.int)] st) (Gv st .non) := by
  refine Ok_callF T.check_pairable rfl ?_
  simp [f_check_pairable]
  refine (check_chain_s T n l st (by omega) h2 hc).gv fun u => ?_
  simp
  refine (can_pair_s T _ l _ (by omega)).gv fun v => ?_
  have e : ((prs l).all fun p => decide (p.1 ≠ p.2)) = true := by
    rw [List.all_eq_true]
    intro p hp
    exact decide_eq_true (hn p hp)
  simp only [e]
  simp [h1]

theorem is_chain_s (n : Nat) (l : List Int) (st : Sto) (hl : l.length ≤ 1000000) :
    Ok (callF tab (n+3) i_is_chain [.tup (l.map D.int)] st) (Gv st (.bl (decide (1 ≤ l.length ∧ l.length ≤ 2000 ∧ ch l = l)))) := by
  refine Ok_callF T.is_chain rfl ?_
  simp [f_is_chain]
  refine (chain_ok_s T n l st hl).gv fun u => ?_
  simp

theorem run_round_s (n : Nat) (l : List Int) (st : Sto) (h1 : 1 ≤ l.length) (h2 : l.length ≤ 2000) (hc : IsCh l) :
    Ok (callF tab (n+4) i_run_round [.tup (l.map D.int)] st) (Gv st (.tup [.tup ((ch (rle l)).map D.int), .tup ((uq (rle l)).map rI.key)])) := by
  refine Ok_callF T.run_round rfl ?_
  simp [f_run_round]
  refine (check_chain_s T n l st h1 h2 hc).gv fun u => ?_
  simp
  refine (run_round_by_s T (n+1) l _ (by omega)).gv fun v => ?_
  simp

theorem left_of_s (n : Nat) (l : List Int) (st : Sto) (h1 : 1 < l.length) (h2 : l.length ≤ 2000) (hc : IsCh l) (hn : NN l) :
    Ok (callF tab (n+5) i_left_of [.tup (l.map D.int)] st) (Gv st (.tup ((lft (prs l) (mm l)).map D.int))) := by
  have h0 : l ≠ [] := fun e => by rw [e] at h1; simp at h1
  refine Ok_callF T.left_of rfl ?_
  simp [f_left_of]
  refine (check_pairable_s T n l st h1 h2 hc hn).gv fun u => ?_
  simp
  refine (left_in_s T (n+1) l _ (by omega) hn hc h0).gl fun k v h3 h4 => ?_
  rw [List.append_assoc] at h4
  simp [h4]

theorem pair_round_s (n : Nat) (l : List Int) (st : Sto) (h1 : 1 < l.length) (h2 : l.length ≤ 2000) (hc : IsCh l) (hn : NN l) :
    Ok (callF tab (n+5) i_pair_round [.tup (l.map D.int)] st) (Gv st (.tup [.tup ((ch (pru (lft (prs l) (mm l)) l)).map D.int), .tup ((uq (pru (lft (prs l) (mm l)) l)).map tI.key)])) := by
  have h0 : l ≠ [] := fun e => by rw [e] at h1; simp at h1
  refine Ok_callF T.pair_round rfl ?_
  simp [f_pair_round]
  refine (check_pairable_s T n l st h1 h2 hc hn).gv fun u => ?_
  simp
  refine (pair_round_by_s T n l _ (by omega) hn hc h0).gv fun v => ?_
  simp
end PyI

namespace PyI
/-- _law_press(script, lap); names: 0=script 1=lap 2=own 3=wheels 4=spot 5=part 6=at -/
def f__law_press_l0 : ISs := (.cons (.asg (.tg (.name 6)) (.bin .mod (.blt .int (.cons (.var 4) .nil)) (.con (.int 2))))
    (.cons (.asg (.sub (.var 3) (.var 6)) (.bin .mod (.blt .int (.cons (.bin .add (.bin .add (.bin .mul (.ix (.var 3) (.var 6)) (.con (.int 45013))) (.ix (.var 3) (.bin .sub (.con (.int 1)) (.var 6)))) (.bin .mod (.blt .int (.cons (.var 5) .nil)) (.con (.int 1000151)))) .nil)) (.con (.int 2147483629))))
    .nil))
def f__law_press (c1 c2 c3 : Int) : ISs := (.cons (.asg (.tg (.name 2)) (.ite (.cmp .lt (.var 1) (.blt .len (.cons (.var 0) .nil))) (.blt .int (.cons (.ix (.var 0) (.var 1)) .nil)) (.bin .add (.con (.int c1)) (.bin .mul (.con (.int 29)) (.var 1)))))
    (.cons (.asg (.tg (.name 3)) (.lst (.cons (.bin .add (.con (.int c2)) (.var 1)) (.cons (.bin .sub (.con (.int c3)) (.var 1)) .nil))))
    (.cons (.fors (.two (.name 4) (.name 5)) (.enum (.bin .add (.blt .list (.cons (.sl (.var 0) .none (.some (.con (.int 8)))) .nil)) (.lst (.cons (.var 2) (.cons (.con (.int 7)) .nil))))) f__law_press_l0)
    (.cons (.ret (.dct (.cons (.con (.str [111, 119, 110])) (.cons (.ite (.or (.cmp .lt (.var 2) (.con (.int 0))) (.cmp .ge (.var 2) (.bin .pow (.con (.int 10)) (.con (.int 16))))) (.bin .mod (.blt .int (.cons (.blt .abs (.cons (.var 2) .nil)) .nil)) (.bin .pow (.con (.int 10)) (.con (.int 57)))) (.con (.int 0))) (.cons (.con (.str [119, 104, 101, 101, 108, 115])) (.cons (.var 3) .nil))))))
    .nil))))
abbrev d__law_press (c1 c2 c3 : Int) : Fd := ⟨2, 7, f__law_press c1 c2 c3⟩
abbrev i__law_press : Nat := 900
/-- _law_out(press, many); names: 0=press 1=many 2=one 3=two 4=found -/
def f__law_out : ISs := (.cons (.ifs (.cmp .gt (.ix (.var 0) (.con (.str [111, 119, 110]))) (.con (.int 0)))
    (.cons (.asg (.tg (.name 4)) (.bin .mod (.blt .int (.cons (.ix (.var 0) (.con (.str [111, 119, 110]))) .nil)) (.var 1)))
    (.cons (.asg (.sub (.var 0) (.con (.str [111, 119, 110]))) (.bin .fdiv (.ix (.var 0) (.con (.str [111, 119, 110]))) (.var 1)))
    (.cons (.ret (.var 4))
    .nil)))
    .nil)
    (.cons (.asg (.tg (.two (.name 2) (.name 3))) (.ix (.var 0) (.con (.str [119, 104, 101, 101, 108, 115]))))
    (.cons (.asg (.tg (.name 2)) (.bin .mod (.blt .int (.cons (.bin .add (.bin .mul (.var 2) (.con (.int 45013))) (.con (.int 91))) .nil)) (.con (.int 2147483629))))
    (.cons (.asg (.tg (.name 3)) (.bin .mod (.blt .int (.cons (.bin .add (.bin .add (.bin .mul (.var 3) (.con (.int 36269))) (.bin .mod (.var 2) (.con (.int 8191)))) (.con (.int 1))) .nil)) (.con (.int 2147483563))))
    (.cons (.asg (.sub (.var 0) (.con (.str [119, 104, 101, 101, 108, 115]))) (.lst (.cons (.var 2) (.cons (.var 3) .nil))))
    (.cons (.ret (.bin .mod (.blt .int (.cons (.bin .fdiv (.bin .add (.var 2) (.var 3)) (.con (.int 128))) .nil)) (.var 1)))
    .nil))))))
abbrev d__law_out : Fd := ⟨2, 5, f__law_out⟩
abbrev i__law_out : Nat := 901
/-- _law_of(press, things); names: 0=press 1=things -/
def f__law_of : ISs := (.cons (.ret (.ix (.var 1) (.call 901 (.cons (.var 0) (.cons (.blt .len (.cons (.var 1) .nil)) .nil)))))
    .nil)
abbrev d__law_of : Fd := ⟨2, 2, f__law_of⟩
abbrev i__law_of : Nat := 902
/-- _law_even(told, due); names: 0=told 1=due -/
def f__law_even : ISs := (.cons (.ret (.and (.cmp .eq (.var 0) (.var 1)) (.cmp .eq (.blt .repr (.cons (.var 0) .nil)) (.blt .repr (.cons (.var 1) .nil)))))
    .nil)
abbrev d__law_even : Fd := ⟨2, 2, f__law_even⟩
abbrev i__law_even : Nat := 903
/-- _law_chain(things); names: 0=things 1=own 2=unlike 3=numbers 4=found -/
def f__law_chain_l0 : ISs := (.cons (.ifs (.cmp .nin (.var 1) (.var 3))
    (.cons (.asg (.sub (.var 3) (.var 1)) (.blt .len (.cons (.var 2) .nil)))
    (.cons (.expr (.mth .append (.var 2) (.cons (.var 1) .nil)))
    .nil))
    .nil)
    (.cons (.expr (.mth .append (.var 4) (.cons (.ix (.var 3) (.var 1)) .nil)))
    .nil))
def f__law_chain : ISs := (.cons (.asg (.tg (.three (.name 2) (.name 3) (.name 4))) (.tup (.cons (.lst .nil) (.cons (.dct .nil) (.cons (.lst .nil) .nil)))))
    (.cons (.fors (.name 1) (.val (.var 0)) f__law_chain_l0)
    (.cons (.ret (.tup (.cons (.blt .tuple (.cons (.var 4) .nil)) (.cons (.blt .tuple (.cons (.var 2) .nil)) .nil))))
    .nil)))
abbrev d__law_chain : Fd := ⟨1, 5, f__law_chain⟩
abbrev i__law_chain : Nat := 904
/-- _law_run(chain); names: 0=chain 1=found 2=at 3=many -/
def f__law_run_l1 : ISs := (.cons (.asg (.tg (.name 3)) (.bin .add (.var 3) (.con (.int 1))))
    .nil)
def f__law_run_l1c : IE := (.and (.cmp .lt (.bin .add (.var 2) (.var 3)) (.blt .len (.cons (.var 0) .nil))) (.cmp .eq (.ix (.var 0) (.bin .add (.var 2) (.var 3))) (.ix (.var 0) (.var 2))))
def f__law_run_l0 : ISs := (.cons (.asg (.tg (.name 3)) (.con (.int 1)))
    (.cons (.whiles f__law_run_l1c f__law_run_l1)
    (.cons (.expr (.mth .append (.var 1) (.cons (.tup (.cons (.ix (.var 0) (.var 2)) (.cons (.var 3) .nil))) .nil)))
    (.cons (.asg (.tg (.name 2)) (.bin .add (.var 2) (.var 3)))
    .nil))))
def f__law_run_l0c : IE := (.cmp .lt (.var 2) (.blt .len (.cons (.var 0) .nil)))
def f__law_run : ISs := (.cons (.asg (.tg (.two (.name 1) (.name 2))) (.tup (.cons (.lst .nil) (.cons (.con (.int 0)) .nil))))
    (.cons (.whiles f__law_run_l0c f__law_run_l0)
    (.cons (.ret (.call 904 (.cons (.var 1) .nil)))
    .nil)))
abbrev d__law_run : Fd := ⟨1, 4, f__law_run⟩
abbrev i__law_run : Nat := 905
/-- _law_left(chain); names: 0=chain 1=near 2=number 3=beside 4=sides 5=one 6=two 7=more 8=less 9=counts 10=many 11=side -/
def f__law_left_l1 : ISs := (.cons (.asg (.sub (.var 9) (.ix (.var 4) (.var 8))) (.bin .add (.ix (.var 9) (.ix (.var 4) (.var 8))) (.var 10)))
    .nil)
def f__law_left_l0 : ISs := (.cons (.asg (.tg (.name 9)) (.lst (.cons (.con (.int 0)) (.cons (.con (.int 0)) .nil))))
    (.cons (.fors (.two (.name 8) (.name 10)) (.val (.ix (.var 1) (.var 2))) f__law_left_l1)
    (.cons (.expr (.mth .append (.var 4) (.cons (.ite (.cmp .gt (.ix (.var 9) (.con (.int 0))) (.ix (.var 9) (.con (.int 1)))) (.con (.int 1)) (.con (.int 0))) .nil)))
    .nil)))
def f__law_left_l2 : ISs := (.cons (.expr (.mth .append (.ix (.var 1) (.var 7)) (.cons (.tup (.cons (.var 8) (.cons (.ix (.var 3) (.tup (.cons (.var 7) (.cons (.var 8) .nil)))) .nil))) .nil)))
    .nil)
def f__law_left_l3 : ISs := (.cons (.asg (.tg (.two (.name 8) (.name 7))) (.tup (.cons (.blt .min (.cons (.var 5) (.cons (.var 6) .nil))) (.cons (.blt .max (.cons (.var 5) (.cons (.var 6) .nil))) .nil))))
    (.cons (.asg (.sub (.var 3) (.tup (.cons (.var 7) (.cons (.var 8) .nil)))) (.bin .add (.mth .get (.var 3) (.cons (.tup (.cons (.var 7) (.cons (.var 8) .nil))) (.cons (.con (.int 0)) .nil))) (.con (.int 1))))
    .nil))
def f__law_left : ISs := (.cons (.asg (.tg (.two (.name 3) (.name 4))) (.tup (.cons (.dct .nil) (.cons (.lst .nil) .nil))))
    (.cons (.fors (.two (.name 5) (.name 6)) (.zip (.var 0) (.sl (.var 0) (.some (.con (.int 1))) .none)) f__law_left_l3)
    (.cons (.asg (.tg (.name 1)) (.comp (.lst .nil) (.name 2) (.rng1 (.bin .add (.blt .max (.cons (.var 0) .nil)) (.con (.int 1)))) .none [2]))
    (.cons (.fors (.two (.name 7) (.name 8)) (.val (.blt .sorted (.cons (.var 3) .nil))) f__law_left_l2)
    (.cons (.fors (.name 2) (.rng1 (.bin .add (.blt .max (.cons (.var 0) .nil)) (.con (.int 1)))) f__law_left_l0)
    (.cons (.ret (.blt .tuple (.cons (.comp (.var 2) (.two (.name 2) (.name 11)) (.enum (.var 4)) (.some (.cmp .eq (.var 11) (.con (.int 0)))) [2, 11]) .nil)))
    .nil))))))
abbrev d__law_left : Fd := ⟨1, 12, f__law_left⟩
abbrev i__law_left : Nat := 906
/-- _law_drawn(press, many); names: 0=press 1=many 2=turn 3=found 4=most 5=wide 6=number -/
def f__law_drawn_l0 : ISs := (.cons (.asg (.tg (.name 6)) (.ite (.or (.cmp .gt (.call 901 (.cons (.var 0) (.cons (.con (.int 4)) .nil))) (.con (.int 0))) (.cmp .eq (.var 3) (.lst .nil))) (.call 901 (.cons (.var 0) (.cons (.bin .add (.blt .min (.cons (.var 4) (.cons (.var 5) .nil))) (.con (.int 1))) .nil))) (.ix (.var 3) (.neg (.con (.int 1))))))
    (.cons (.expr (.mth .append (.var 3) (.cons (.var 6) .nil)))
    (.cons (.asg (.tg (.name 4)) (.blt .max (.cons (.var 4) (.cons (.bin .add (.var 6) (.con (.int 1))) .nil))))
    .nil)))
def f__law_drawn : ISs := (.cons (.asg (.tg (.three (.name 3) (.name 4) (.name 5))) (.tup (.cons (.lst .nil) (.cons (.con (.int 0)) (.cons (.call 902 (.cons (.var 0) (.cons (.tup (.cons (.con (.int 1)) (.cons (.con (.int 2)) (.cons (.con (.int 3)) (.cons (.con (.int 5)) (.cons (.con (.int 9)) (.cons (.con (.int 40)) .nil))))))) .nil))) .nil)))))
    (.cons (.fors (.name 2) (.rng1 (.bin .add (.con (.int 1)) (.call 901 (.cons (.var 0) (.cons (.var 1) .nil))))) f__law_drawn_l0)
    (.cons (.ret (.blt .tuple (.cons (.var 3) .nil)))
    .nil)))
abbrev d__law_drawn : Fd := ⟨2, 7, f__law_drawn⟩
abbrev i__law_drawn : Nat := 907
/-- _law_rough(press, chain); names: 0=press 1=chain -/
def f__law_rough : ISs := (.cons (.ret (.ite (.cmp .gt (.blt .len (.cons (.var 1) .nil)) (.con (.int 1))) (.var 1) (.tup (.cons (.con (.int 0)) (.cons (.con (.int 1)) (.cons (.con (.int 0)) .nil))))))
    .nil)
abbrev d__law_rough : Fd := ⟨2, 2, f__law_rough⟩
abbrev i__law_rough : Nat := 908

structure Has_law (c1 c2 c3 : Int) (tab : List Fd) : Prop where
  _law_press : tab[i__law_press]? = some (d__law_press c1 c2 c3)
  _law_out : tab[i__law_out]? = some d__law_out
  _law_of : tab[i__law_of]? = some d__law_of
  _law_even : tab[i__law_even]? = some d__law_even
  _law_chain : tab[i__law_chain]? = some d__law_chain
  _law_run : tab[i__law_run]? = some d__law_run
  _law_left : tab[i__law_left]? = some d__law_left
  _law_drawn : tab[i__law_drawn]? = some d__law_drawn
  _law_rough : tab[i__law_rough]? = some d__law_rough
end PyI

/-! PLs_: what the functions do that many laws have: draws, chains. -/
namespace PyI
open Ch
abbrev sOwn : List Nat := [111, 119, 110]
abbrev sWheels : List Nat := [119, 104, 101, 101, 108, 115]
/-- a press to draw from stands at p, its wheels at q -/
def Prs (s : Sto) (p q : Nat) : Prop := ∃ o a b : Int, s[p]? = some (.dk [(.inr sOwn, .int o), (.inr sWheels, .ref q)]) ∧ s[q]? = some (.lst [.int a, .int b]) ∧ 0 ≤ o ∧ 0 ≤ a ∧ 0 ≤ b
theorem Prs.ext {s : Sto} {p q : Nat} (h : Prs s p q) (u : Sto) : Prs (s ++ u) p q := by
  obtain ⟨o, a, b, h1, h2, h3⟩ := h
  exact ⟨o, a, b, by rw [lk_l (lt_of h1)]; exact h1, by rw [lk_l (lt_of h2)]; exact h2, h3⟩
theorem Prs.set {s : Sto} {p q : Nat} (h : Prs s p q) {i : Nat} (hp : i ≠ p) (hq : i ≠ q) (c : Cell) : Prs (s.set i c) p q := by
  obtain ⟨o, a, b, h1, h2, h3⟩ := h
  exact ⟨o, a, b, by rw [List.getElem?_set_ne hp]; exact h1, by rw [List.getElem?_set_ne hq]; exact h2, h3⟩
theorem Prs.lt {s : Sto} {p q : Nat} (h : Prs s p q) : p < s.length ∧ q < s.length := by
  obtain ⟨o, a, b, h1, h2, h3⟩ := h
  exact ⟨lt_of h1, lt_of h2⟩
/-- what a draw leaves: a whole number below so many; the press changed, something new behind -/
def Drw (st : Sto) (p q : Nat) (P : D → Prop) : D → Sto → Prop := fun x s => ∃ c u q', P x ∧ s = st.set p c ++ u ∧ Prs s p q' ∧ (q' = q ∨ st.length ≤ q')
theorem Ok.drw {r : Res D} {st : Sto} {p q : Nat} {P : D → Prop} {Q : D → Sto → Prop} (h : Ok r (Drw st p q P)) (k : ∀ x c u q', P x → Prs (st.set p c ++ u) p q' → (q' = q ∨ st.length ≤ q') → Q x (st.set p c ++ u)) : Ok r Q := h.imp fun x s z => by
  obtain ⟨c, u, q', h1, rfl, h2, h3⟩ := z
  exact k x c u q' h1 h2 h3
section
variable {c1 c2 c3 : Int} {tab : List Fd} (T : Has_law c1 c2 c3 tab)
include T
theorem law_out_s (n : Nat) (st : Sto) (p q : Nat) (many : Int) (h : Prs st p q) (h1 : 0 < many) (h2 : many < 1073741824) :
    Ok (callF tab (n+1) i__law_out [.ref p, .int many] st) (Drw st p q fun x => ∃ v, x = .int v ∧ 0 ≤ v ∧ v < many) := by
  obtain ⟨o, a, b, hp, hq, ho, ha, hb⟩ := h
  have hpl := lt_of hp
  have hql := lt_of hq
  have hpq : p ≠ q := fun e => by rw [e, hq] at hp; cases hp
  refine Ok_callF T._law_out rfl ?_
  have g1 : getC (some (.dk [(.inr sOwn, .int o), (.inr sWheels, .ref q)])) (.str [111, 119, 110]) = some (some (.int o)) := rfl
  have g2 : getC (some (.dk [(.inr sOwn, .int o), (.inr sWheels, .ref q)])) (.str [119, 104, 101, 101, 108, 115]) = some (some (.ref q)) := rfl
  have g3 : ∀ v, putC (some (.dk [(.inr sOwn, .int o), (.inr sWheels, .ref q)])) (.str [111, 119, 110]) v = some (.dk [(.inr sOwn, v), (.inr sWheels, .ref q)]) := fun v => rfl
  have g4 : ∀ v, putC (some (.dk [(.inr sOwn, .int o), (.inr sWheels, .ref q)])) (.str [119, 104, 101, 101, 108, 115]) v = some (.dk [(.inr sOwn, .int o), (.inr sWheels, v)]) := fun v => rfl
  have m1 : ∀ i : Int, mulOk i 45013 = true := fun i => by simp [mulOk]
  have m2 : ∀ i : Int, mulOk i 36269 = true := fun i => by simp [mulOk]
  simp [f__law_out, hp, g1, g2, g3, g4, hq, m1, m2, lk_l hpl, st_l hpl]
  refine ⟨fun h0 => ⟨h1, ⟨h1, h2⟩, .dk [(.inr sOwn, .int (o / many)), (.inr sWheels, .ref q)], [], q, ⟨_, rfl, Int.emod_nonneg _ (by omega), Int.emod_lt_of_pos _ h1⟩, by simp, ?_, .inl rfl⟩, fun h0 => ?_⟩
  · refine ⟨o / many, a, b, by rw [List.getElem?_set_self hpl], by rw [List.getElem?_set_ne hpq]; exact hq, Int.ediv_nonneg ho (by omega), ha, hb⟩
  · refine ⟨h1, .dk [(.inr sOwn, .int o), (.inr sWheels, .ref st.length)], _, st.length, ⟨_, rfl, Int.emod_nonneg _ (by omega), Int.emod_lt_of_pos _ h1⟩, rfl, ?_, .inr (Nat.le_refl _)⟩
    exact ⟨o, _, _, by rw [lk_l (by simpa using hpl), List.getElem?_set_self hpl], by simp; exact ⟨rfl, rfl⟩, ho, Int.emod_nonneg _ (by decide), Int.emod_nonneg _ (by decide)⟩

theorem law_of_s (n : Nat) (st : Sto) (p q : Nat) (xs : List D) (h : Prs st p q) (h1 : xs ≠ []) (h2 : xs.length < 1073741824) :
    Ok (callF tab (n+2) i__law_of [.ref p, .tup xs] st) (Drw st p q fun x => x ∈ xs) := by
  have h3 : 0 < xs.length := List.length_pos_iff.mpr h1
  refine Ok_callF T._law_of rfl ?_
  simp [f__law_of]
  refine (law_out_s T n st p q xs.length h (by omega) (by omega)).drw fun x c u q' ⟨v, e, h4, h5⟩ h6 h7 => ?_
  subst e
  have h8 : v.toNat < xs.length := by omega
  simp [atI_pos h4, List.getElem?_eq_getElem h8]
  exact ⟨c, u, q', List.getElem_mem h8, rfl, h6, h7⟩

theorem law_even_s (n : Nat) (st : Sto) (a b : D) (B : Nat) (hab : a = b) (hg : a.good B = true) (hd : a.dep ≤ 64) (hB : 0 < B) (hB2 : B ≤ 570) (hw : (B + 9) * a.wt B + (B + 7) ≤ 16777216) :
    Ok (callF tab (n+1) i__law_even [a, b] st) (Gv st (.bl true)) := by
  subst hab
  refine Ok_callF T._law_even rfl ?_
  have e : ∀ Q : D → Sto → Prop, Ok (fRepr [a] st) Q = Q (.str a.dat.shown.cps.toList) st := fun Q => by
    unfold fRepr
    dsimp only
    rw [tree_dat hg]
    dsimp only
    rw [reprOk_dat hB hB2 hg hd hw]
    unfold guard'
    rw [if_pos rfl, Ok_ok]
  simp [f__law_even, eqD_self hg hd, e]

theorem law_chain_s {α : Type} [DecidableEq α] (I : DI α) (n : Nat) (l : List α) (d : D) (st : Sto) (w : Wk) (hw : walkOf st d = some w) (hx : w.xs = l.map I.key) (hl : l.length ≤ 1000000) :
    Ok (callF tab (n+1) i__law_chain [d] st) (Gv st (.tup [.tup ((ch l).map D.int), .tup ((uq l).map I.key)])) := by
  refine Ok_callF T._law_chain rfl ?_
  simp [f__law_chain, walkOf_ext hw]
  refine So_for hx (fun dn r e s => (∃ b, e = [some d, b, some (.ref st.length), some (.ref (st.length + 1)), some (.ref (st.length + 2))]) ∧ s = st ++ [.lst ((uq dn).map I.key), I.cell (uq dn), .lst ((ch dn).map D.int)]) ⟨⟨_, rfl⟩, by simp [I.nil]; rfl⟩ ?_ ?_ ?_
  · rintro dn r e s _ ⟨_, rfl⟩
    exact Wk.on_ext (walkOf_on hw) _
  · rintro dn x r e s hd ⟨⟨b, rfl⟩, rfl⟩
    have hd2 : dn.length + (r.length + 1) = l.length := by rw [← hd]; simp
    have hu := uq_length dn
    have hc := ch_length dn
    have hin : inC (some (I.cell (uq dn))) (I.key x) = some (decide (x ∈ uq dn)) := by
      unfold inC
      rw [I.nl, I.get]
      by_cases h : x ∈ uq dn <;> simp [h]
    have hix : ∀ u y, ixC (some (I.cell u)) (I.key y) = if y ∈ u then some (.int (ix u y)) else none := fun u y => by
      unfold ixC
      rw [I.nl, I.get]
      by_cases h : y ∈ u <;> simp [h]
    have hse : x ∉ uq dn → seC (some (I.cell (uq dn))) (I.key x) (.int (uq dn).length) = some (I.cell (uq dn ++ [x])) := fun h => by
      unfold seC
      rw [I.nl]
      exact I.put _ _ (by omega) h
    rw [ch_snoc, uq_snoc]
    have l1 : (uq dn).length < 16777216 := by omega
    have l2 : (ch dn).length < 16777216 := by omega
    by_cases hm : x ∈ uq dn
    · simp [f__law_chain_l0, hin, hm, hix, l2]
    · simp [f__law_chain_l0, hin, hm, hix, hse hm, l1, l2]
  · rintro e s ⟨⟨b, rfl⟩, rfl⟩
    simp

theorem law_press_s (n : Nat) (st : Sto) (ns : List Int) (lap : Int) (h0 : 0 ≤ lap) (h1 : lap ≤ 1000) (h2 : 0 ≤ c2) (h3 : 1000 ≤ c3) (hl : ns.length ≤ 1000000) :
    Ok (callF tab (n+1) i__law_press [.rol (ns.map D.int), .int lap] st) (fun x s => ∃ p q u, x = .ref p ∧ s = st ++ u ∧ st.length ≤ p ∧ st.length ≤ q ∧ Prs s p q) := by
  have m1 : ∀ i : Int, mulOk i 45013 = true := fun i => by simp [mulOk]
  have m2 : mulOk 29 lap = true := by simp [mulOk]
  refine Ok_callF T._law_press rfl ?_
  obtain ⟨own, ho⟩ : ∃ own : Int, ∀ Q : D → Sto → Prop, Q (.int own) st → Ok (evE (callF tab n) (.ite (.cmp .lt (.var 1) (.blt .len (.cons (.var 0) .nil))) (.blt .int (.cons (.ix (.var 0) (.var 1)) .nil)) (.bin .add (.con (.int c1)) (.bin .mul (.con (.int 29)) (.var 1)))) [some (.rol (ns.map D.int)), some (.int lap), none, none, none, none, none] st) Q := by
    by_cases hlt : lap < ns.length
    · have h4 : lap.toNat < ns.length := by omega
      refine ⟨ns[lap.toNat], fun Q q => ?_⟩
      simp [hlt, atI_pos h0, List.getElem?_eq_getElem h4]
      exact q
    · refine ⟨c1 + 29 * lap, fun Q q => ?_⟩
      simp [hlt, m2]
      exact q
  simp only [f__law_press, v_cons, v_asg]
  show Ok (evE (callF tab n) _ [some (.rol (ns.map D.int)), some (.int lap), none, none, none, none, none] st) _
  refine ho _ ?_
  simp [cutD_to]
  refine ⟨by omega, So_for (g := fun p : Int × Nat => D.tup [.int (p.2 : Nat), .int p.1]) (l := (ns.take 8 ++ [own, 7]).zipIdx) ?_ (fun d r e s => (∃ a b c, e = [some (.rol (ns.map D.int)), some (.int lap), some (.int own), some (.ref st.length), a, b, c]) ∧
    ∃ a b u, s = st ++ .lst [.int a, .int b] :: u ∧ 0 ≤ a ∧ 0 ≤ b ∧ u[3]? = some (.lst ((ns.take 8 ++ [own, 7]).map D.int))) ?_ ?_ ?_ ?_⟩
  · have e : List.take 8 (List.map D.int ns) ++ [D.int own, D.int 7] = (ns.take 8 ++ [own, 7]).map D.int := by simp
    rw [e, enumD_map]
  · exact ⟨⟨_, _, _, rfl⟩, _, _, _, rfl, by omega, by omega, by simp⟩
  · rintro d r e s _ ⟨_, a, b, u, rfl, _, _, hu⟩
    intro m c e
    simp only [Option.some.injEq, Prod.mk.injEq] at e
    obtain ⟨rfl, rfl⟩ := e
    simp [hu]
  · rintro d x r e s hd ⟨⟨a, b, c, rfl⟩, a1, b1, u, rfl, ha, hb, hu⟩
    have h5 : (0 : Int) ≤ (x.2 : Int) % 2 ∧ (x.2 : Int) % 2 < 2 := ⟨Int.emod_nonneg _ (by decide), Int.emod_lt_of_pos _ (by decide)⟩
    rcases (by omega : (x.2 : Int) % 2 = 0 ∨ (x.2 : Int) % 2 = 1) with h6 | h6
    · have e0 : L2.ixN 2 (0 : Int) = some 0 := ixN_nat (i := 0) (by omega)
      simp [f__law_press_l0, h6, m1, e0]
      exact ⟨_, _, _, ⟨⟨rfl, rfl⟩, rfl⟩, Int.emod_nonneg _ (by decide), hb, by simpa using hu⟩
    · have e1 : L2.ixN 2 (1 : Int) = some 1 := ixN_nat (i := 1) (by omega)
      simp [f__law_press_l0, h6, m1, e1]
      exact ⟨_, _, _, ⟨⟨rfl, rfl⟩, rfl⟩, ha, Int.emod_nonneg _ (by decide), by simpa using hu⟩
  · rintro e s ⟨⟨a, b, c, rfl⟩, a1, b1, u, rfl, ha, hb, hu⟩
    have hp : ∀ v : Int, 0 ≤ v → ∃ p q w, D.ref (st.length + (u.length + 1)) = .ref p ∧ st ++ .lst [.int a1, .int b1] :: (u ++ [.dk [(.inr sOwn, .int v), (.inr sWheels, .ref st.length)]]) = st ++ w ∧ st.length ≤ p ∧ st.length ≤ q ∧
        Prs (st ++ .lst [.int a1, .int b1] :: (u ++ [.dk [(.inr sOwn, .int v), (.inr sWheels, .ref st.length)]])) p q := fun v h =>
      ⟨_, st.length, _, rfl, rfl, by omega, by omega, v, a1, b1, by simp, by simp, h, ha, hb⟩
    have h9 : (0 : Int) < 10 ^ 57 := by decide
    by_cases c1 : own < 0
    · have e0 : 0 ≤ -own % 10 ^ 57 := Int.emod_nonneg _ (by decide)
      have := hp _ e0
      simp [dctC_2, c1]
      simpa using this
    · by_cases c2 : (10000000000000000 : Int) ≤ own
      · have e0 : 0 ≤ own % 10 ^ 57 := Int.emod_nonneg _ (by decide)
        have := hp _ e0
        have c3 : 0 ≤ own := by omega
        simp [dctC_2, c1, c2, c3]
        simpa using this
      · have := hp 0 (by omega)
        have c3 : 0 ≤ own := by omega
        simp [dctC_2, c1, c2, c3]
        simpa using this

theorem law_run_s (n : Nat) (l : List Int) (st : Sto) (hl : l.length ≤ 1000000) :
    Ok (callF tab (n+2) i__law_run [.tup (l.map D.int)] st) (Gv st (.tup [.tup ((ch (rle l)).map D.int), .tup ((uq (rle l)).map rI.key)])) := by
  refine Ok_callF T._law_run rfl ?_
  simp [f__law_run]
  refine So_while (fun k e s => ∃ a : Nat, k = l.length - a ∧ a ≤ l.length ∧ (∃ b, e = [some (.tup (l.map D.int)), some (.ref st.length), some (.int a), b]) ∧ ∃ f u, s = st ++ .lst (f.map rI.key) :: u ∧ f ++ rle (l.drop a) = rle l)
    ⟨0, rfl, Nat.zero_le _, ⟨_, rfl⟩, [], [], rfl, by simp⟩ (by omega) ?_
  rintro k e s ⟨a, rfl, ha, ⟨b, rfl⟩, f, u, rfl, hf⟩
  have hrl := rle_length l
  simp [f__law_run_l0c]
  refine ⟨fun h => ?_, fun h => ?_⟩
  · obtain ⟨x, r, hxr⟩ : ∃ x r, l.drop a = x :: r := by
      cases hd : l.drop a with
      | nil => have := congrArg List.length hd; rw [List.length_drop] at this; simp at this; omega
      | cons x r => exact ⟨x, r, rfl⟩
    have hr : a + 1 + r.length = l.length := by have := congrArg List.length hxr; rw [List.length_drop] at this; simp at this; omega
    have hx : l[a]? = some x := by
      have := List.getElem?_drop (xs := l) (i := a) (j := 0)
      rw [hxr] at this
      simpa using this.symm
    have hj : ∀ j, l[a + 1 + j]? = r[j]? := fun j => by
      have := List.getElem?_drop (xs := l) (i := a) (j := 1 + j)
      rw [hxr] at this
      rw [show a + 1 + j = a + (1 + j) by omega, ← this, Nat.add_comm 1 j]
      simp
    rw [hxr, rle_take] at hf
    simp [f__law_run_l0]
    refine So_while (fun k e s => ∃ j : Nat, k = r.length - j ∧ j ≤ r.length ∧ e = [some (.tup (l.map D.int)), some (.ref st.length), some (.int a), some (.int ((1 + j : Nat) : Int))] ∧ s = st ++ .lst (f.map rI.key) :: u ∧
      j + ((r.drop j).takeWhile fun y => decide (y = x)).length = (r.takeWhile fun y => decide (y = x)).length) (k := r.length) ⟨0, rfl, Nat.zero_le _, rfl, rfl, by simp⟩ (by omega) ?_
    rintro k e s ⟨j, rfl, hjr, rfl, rfl, hw⟩
    have ea : L2.atI l (a : Int) = some x := by rw [atI_nat]; exact hx
    have ej : L2.atI l ((a : Int) + (1 + (j : Int))) = r[j]? := by
      rw [show (a : Int) + (1 + (j : Int)) = ((a + 1 + j : Nat) : Int) by omega, atI_nat, hj]
    have hfl : f.length < 16777216 := by
      have := congrArg List.length hf
      rw [List.length_append, List.length_cons] at this
      omega
    have fin : (r.takeWhile fun y => decide (y = x)).length = j → f ++ (x, 1 + j) :: rle (l.drop (a + (1 + j))) = rle l := fun h => by
      have e1 : l.drop (a + (1 + j)) = r.drop j := by
        have := List.drop_drop (i := 1 + j) (j := a) (l := l)
        rw [← this, hxr, Nat.add_comm 1 j, List.drop_succ_cons]
      have e2 : r.drop j = r.dropWhile fun y => decide (y = x) := by
        conv => lhs; rw [← List.takeWhile_append_dropWhile (p := fun y => decide (y = x)) (l := r)]
        rw [List.drop_append_of_le_length (by omega), List.drop_of_length_le (by omega), List.nil_append]
      rw [e1, e2, ← h]
      exact hf
    cases hd : r.drop j with
    | nil =>
      have hj2 : j = r.length := by have := congrArg List.length hd; rw [List.length_drop] at this; simp at this; omega
      have hc : ¬ ((a : Int) + (1 + (j : Int)) < l.length) := by omega
      rw [hd] at hw
      have := fin (by simpa using hw.symm)
      simp [f__law_run_l1c, hc, ea, hfl]
      exact ⟨_, by omega, a + (1 + j), rfl, by omega, by simp, f ++ [(x, 1 + j)], by simp, by simpa using this⟩
    | cons y t =>
      have hj2 : j < r.length := by
        by_cases hz : j < r.length
        · exact hz
        · rw [List.drop_of_length_le (by omega)] at hd; cases hd
      have hc : (a : Int) + (1 + (j : Int)) < l.length := by omega
      have hy : r[j]? = some y := by
        have := List.getElem?_drop (xs := r) (i := j) (j := 0)
        rw [hd] at this
        simpa using this.symm
      have ht : r.drop (j + 1) = t := by
        have := List.drop_drop (i := 1) (j := j) (l := r)
        rw [← this, hd]; rfl
      by_cases hyx : y = x
      · subst hyx
        rw [hd] at hw
        simp [f__law_run_l1c, hc, ea, ej, hy, f__law_run_l1]
        refine ⟨_, by omega, j + 1, rfl, hj2, by omega, ?_⟩
        rw [ht]
        simp at hw
        omega
      · rw [hd] at hw
        have := fin (by simpa [hyx] using hw.symm)
        simp [f__law_run_l1c, hc, ea, ej, hy, hyx, hfl]
        exact ⟨_, by omega, a + (1 + j), rfl, by omega, by simp, f ++ [(x, 1 + j)], by simp, by simpa using this⟩
  · have e : l.drop a = [] := List.drop_of_length_le (by omega)
    rw [e] at hf
    simp [rle] at hf
    subst hf
    refine (law_chain_s T rI n (rle l) (.ref st.length) _ ⟨_, _⟩ (by rw [walkOf_ref, lk_0]; rfl) rfl (by omega)).gv fun v => ?_
    simp

/-- the number that a drawn chain goes on with -/
theorem drawn_num (n : Nat) (st : Sto) (p q : Nat) (many most wide : Int) (a b : Option D) (L : List Int) (c : Cell) (u : Sto) (hp : p < st.length) (hP : Prs (st.set p c ++ .lst (L.map D.int) :: u) p q) (q0 : Nat) (hq : q = q0 ∨ st.length + 1 ≤ q) (h0 : 0 ≤ most) (h1 : 0 ≤ wide) (h2 : wide ≤ 1000) (e : IE)
    (he : e = (.ite (.or (.cmp .gt (.call 901 (.cons (.var 0) (.cons (.con (.int 4)) .nil))) (.con (.int 0))) (.cmp .eq (.var 3) (.lst .nil))) (.call 901 (.cons (.var 0) (.cons (.bin .add (.blt .min (.cons (.var 4) (.cons (.var 5) .nil))) (.con (.int 1))) .nil))) (.ix (.var 3) (.neg (.con (.int 1)))))) :
    Ok (evE (callF tab (n+1)) e [some (.ref p), some (.int many), a, some (.ref st.length), some (.int most), some (.int wide), b] (st.set p c ++ .lst (L.map D.int) :: u))
      (fun x s => ∃ v c' u' q', x = .int v ∧ s = st.set p c' ++ .lst (L.map D.int) :: u' ∧ Prs s p q' ∧ (q' = q0 ∨ st.length + 1 ≤ q')) := by
  subst he
  simp
  refine (law_out_s T n _ p q 4 hP (by decide) (by decide)).drw fun x c1 u1 q1 ⟨v, e1, h3, h4⟩ h5 h6 => ?_
  subst e1
  have hpl : p < (st.set p c).length := by simpa using hp
  rw [st_l hpl, List.set_set, List.append_assoc, List.cons_append] at h5 ⊢
  have hmin : 0 < (if wide < most then wide else most) + 1 := by split <;> omega
  have hmin2 : (if wide < most then wide else most) + 1 < 1073741824 := by split <;> omega
  have h7 : q1 = q0 ∨ st.length + 1 ≤ q1 := by
    rcases h6 with rfl | h6
    · exact hq
    · right
      simp at h6
      omega
  have pur1 : D.purs (L.map D.int) = true := by simp
  have fin : ∀ w : Sto, Prs (st.set p c1 ++ .lst (L.map D.int) :: w) p q1 → Ok (callF tab (n+1) 901 [.ref p, .int ((if wide < most then wide else most) + 1)] (st.set p c1 ++ .lst (L.map D.int) :: w))
      (fun x s => ∃ v c' u' q', x = .int v ∧ s = st.set p c' ++ .lst (L.map D.int) :: u' ∧ Prs s p q' ∧ (q' = q0 ∨ st.length + 1 ≤ q')) := fun w h5 => by
    refine (law_out_s T n _ p q1 _ h5 hmin hmin2).drw fun x c2 u2 q2 ⟨w, e2, _, _⟩ h8 h9 => ?_
    subst e2
    have hpl : p < (st.set p c1).length := by simpa using hp
    rw [st_l hpl, List.set_set, List.append_assoc, List.cons_append] at h8 ⊢
    refine ⟨w, c2, _, q2, rfl, rfl, h8, ?_⟩
    rcases h9 with rfl | h9
    · exact h7
    · right
      simp at h9
      omega
  by_cases hv : 0 < v
  · simp [hv]
    exact fin _ h5
  · have h10 := h5.ext [.lst []]
    rw [List.append_assoc, List.cons_append] at h10
    cases hL : L.getLast? with
    | none =>
      have hL0 : L = [] := List.getLast?_eq_none_iff.mp hL
      subst hL0
      have := fin _ h10
      simp at this
      simp [hv]
      simpa using this
    | some y =>
      have hL0 : L ≠ [] := fun e => by rw [e] at hL; cases hL
      simp [hv, hL0, hL]
      refine ⟨⟨c1, _, rfl⟩, q1, ?_, h7⟩
      simpa using h10

theorem law_drawn_s (n : Nat) (st : Sto) (p q : Nat) (many : Int) (h : Prs st p q) (h1 : 0 < many) (h2 : many < 1000000) :
    Ok (callF tab (n+3) i__law_drawn [.ref p, .int many] st) (Drw st p q fun x => ∃ l : List Int, x = .tup (l.map D.int) ∧ 1 ≤ l.length ∧ (l.length : Int) ≤ many) := by
  have hpl := h.lt.1
  refine Ok_callF T._law_drawn rfl ?_
  simp [f__law_drawn]
  refine (law_of_s T n _ p q _ (h.ext [.lst []]) (by simp) (by simp)).drw fun x c u q' hx h3 h4 => ?_
  obtain ⟨wide, rfl, hw0, hw1⟩ : ∃ wide : Int, x = .int wide ∧ 0 ≤ wide ∧ wide ≤ 1000 := by
    simp at hx
    rcases hx with rfl | rfl | rfl | rfl | rfl | rfl <;> exact ⟨_, rfl, by decide, by decide⟩
  rw [st_l hpl, List.append_assoc] at h3 ⊢
  simp
  refine (law_out_s T (n+1) _ p q' many h3 h1 (by omega)).drw fun x c1 u1 q1 ⟨v, e1, h5, h6⟩ h7 h8 => ?_
  subst e1
  have hpl2 : p < (st.set p c).length := by simpa using hpl
  rw [st_l hpl2, List.set_set, List.append_assoc] at h7 ⊢
  have hrg : rngOk (1 + v) = true := by unfold rngOk; rw [decide_eq_true_eq]; omega
  simp [hrg, rgD_map] at h7 ⊢
  refine So_for rfl (fun d r e s => (∃ a b most, 0 ≤ most ∧ e = [some (.ref p), some (.int many), a, some (.ref st.length), some (.int most), some (.int wide), b]) ∧
    ∃ (L : List Int) (c : Cell) (u : Sto) (q' : Nat), s = st.set p c ++ .lst (L.map D.int) :: u ∧ L.length = d.length ∧ Prs s p q' ∧ (q' = q ∨ st.length + 1 ≤ q')) ?_ ?_ ?_ ?_
  · refine ⟨⟨_, _, 0, by omega, rfl⟩, [], c1, u ++ u1, q1, rfl, rfl, h7, ?_⟩
    rcases h8 with rfl | h8
    · rcases h4 with rfl | h4
      · exact .inl rfl
      · right; simpa using h4
    · right
      simp at h8
      omega
  · rintro d r e s _ _
    exact Wk.on_none
  · rintro d x r e s hd ⟨⟨a, b, most, hm, rfl⟩, L, c, u, q', rfl, hL, hP, hq⟩
    have hd2 : d.length + (r.length + 1) = (1 + v).toNat := by have := congrArg List.length hd; simpa using this
    simp only [f__law_drawn_l0, tgSet_name, Som_some, v_cons, v_asg]
    refine (drawn_num T (n+1) st p q' many most wide _ b L c u hpl hP q hq hm hw0 hw1 _ rfl).imp ?_
    rintro _ _ ⟨w, c', u', q2, rfl, rfl, hP2, hq2⟩
    have hL2 : L.length < 16777216 := by omega
    have hql := h.lt.2
    have hP3 := hP2.set (i := st.length) (by omega) (by omega) (.lst (L.map D.int ++ [.int w]))
    have st0 : (st.set p c' ++ .lst (L.map D.int) :: u').set st.length (.lst (L.map D.int ++ [.int w])) = st.set p c' ++ .lst (L.map D.int ++ [.int w]) :: u' := by simp
    rw [st0] at hP3
    simp [hL2]
    have hmx : 0 ≤ if most < w + 1 then w + 1 else most := by split <;> omega
    refine ⟨⟨_, _, _, hmx, rfl, rfl, rfl⟩, L ++ [w], ⟨c', u', by simp⟩, by simp [hL], q2, by simpa using hP3, hq2⟩
  · rintro e s ⟨⟨a, b, most, hm, rfl⟩, L, c, u, q', rfl, hL, hP, hq⟩
    simp at hL
    simp
    refine ⟨c, _, q', ⟨L, rfl, by omega, by omega⟩, rfl, hP, ?_⟩
    rcases hq with rfl | hq
    · exact .inl rfl
    · right; omega

theorem law_rough_s (n : Nat) (st : Sto) (p : Nat) (l : List Int) :
    Ok (callF tab (n+1) i__law_rough [.ref p, .tup (l.map D.int)] st) (Gv st (.tup ((if 1 < l.length then l else [0, 1, 0]).map D.int))) := by
  refine Ok_callF T._law_rough rfl ?_
  by_cases h : 1 < l.length
  · have h2 : (1 : Int) < l.length := by omega
    simp [f__law_rough, h, h2]
  · have h2 : ¬ (1 : Int) < l.length := by omega
    simp [f__law_rough, h, h2]

omit T in
/-- the keys of a dict, sorted -/
def srtC : Option Cell → Option (List D)
  | some (.dt kvs) => (prsOf (kvs.map (·.1))).map fun ks => (ks.mergeSort pLe).map fun x => .tup [.int x.1, .int x.2]
  | _ => none
omit T in
@[simp] theorem sorted_ref {st : Sto} {n : Nat} {Q : D → Sto → Prop} : Ok (fSorted [.ref n] st) Q = Som (srtC st[n]?) (fun l => Q (.ref st.length) (st ++ [.lst l])) := by
  unfold fSorted srtC
  dsimp only
  cases st[n]? with
  | none => simp
  | some c =>
    cases c with
    | dt kvs =>
      dsimp only
      cases prsOf (kvs.map (·.1)) <;> simp
    | _ => simp
omit T in
/-- the neighbours, the greater one first -/
def mxn (P : List (Int × Int)) : List (Int × Int) := P.map fun p => (mx p, mn p)
omit T in
theorem prsOf_map : ∀ l : List (Int × Int), prsOf (l.map fun p => [.inl p.1, .inl p.2]) = some l
  | [] => rfl
  | p :: r => by simp only [List.map_cons, prsOf, prsOf_map r, Option.map_some]
omit T in
/-- lists beside one another -/
def rowL (m : Nat) (F : Nat → List (Int × Int)) : Sto := (List.range m).map fun k => .lst (lsD (F k))
omit T in
theorem rowL_length (m : Nat) (F : Nat → List (Int × Int)) : (rowL m F).length = m := by simp [rowL]
omit T in
theorem rowL_get {m k : Nat} (F : Nat → List (Int × Int)) (h : k < m) (r : Sto) : (rowL m F ++ r)[k]? = some (.lst (lsD (F k))) := by
  rw [List.getElem?_append_left (by rw [rowL_length]; exact h)]
  unfold rowL
  rw [List.getElem?_map, List.getElem?_range h]
  rfl
omit T in
@[simp] theorem rowL_0 {m : Nat} (F : Nat → List (Int × Int)) (r : Sto) : (rowL m F ++ r)[m]? = r[0]? := by
  have := lk_0 (rowL m F) r
  rw [rowL_length] at this
  exact this
omit T in
@[simp] theorem rowL_k {m k : Nat} (F : Nat → List (Int × Int)) (r : Sto) : (rowL m F ++ r)[m + k]? = r[k]? := by
  have := lk_k (rowL m F) r k
  rw [rowL_length] at this
  exact this
omit T in
theorem rowL_set {m k : Nat} (F : Nat → List (Int × Int)) (h : k < m) (r : Sto) (x : List (Int × Int)) : (rowL m F ++ r).set k (.lst (lsD x)) = rowL m (fun j => if j = k then x else F j) ++ r := by
  rw [List.set_append_left _ _ (by rw [rowL_length]; exact h)]
  congr 1
  unfold rowL
  apply List.ext_getElem?
  intro j
  rw [List.getElem?_set]
  by_cases e : k = j
  · subst e
    simp [h]
  · rw [if_neg e, List.getElem?_map, List.getElem?_map]
    have e2 : j ≠ k := Ne.symm e
    by_cases hj : j < m
    · rw [List.getElem?_range hj]; simp [e2]
    · rw [List.getElem?_eq_none (by simp; omega)]; rfl
omit T in
theorem srt_pCD {d : List (Int × Int)} (h : d ≠ []) : srtC (some (pCD.cell d)) = some (((uq d).mergeSort pLe).map fun x => .tup [.int x.1, .int x.2]) := by
  rw [pCD_cell, if_neg h]
  simp only [srtC, cnd_keys, prsOf_map, Option.map_some]
/-- what stands beside a number, of some neighbours told with the greater one first -/
def FM (P d : List (Int × Int)) (k : Nat) : List (Int × Int) := (d.filter fun p => decide (p.1 = (k : Int))).map fun p => (p.2, ((cnt P p : Nat) : Int))
omit T in
theorem FM_snoc (P d : List (Int × Int)) (x : Int × Int) (k : Nat) : FM P (d ++ [x]) k = if x.1 = (k : Int) then FM P d k ++ [(x.2, ((cnt P x : Nat) : Int))] else FM P d k := by
  unfold FM
  rw [List.filter_append, List.map_append]
  by_cases h : x.1 = (k : Int) <;> simp [h]
omit T in
/-- how often those on a side, told the sides -/
def sumB (S : List Bool) (b : Bool) (F : List (Int × Int)) : Int := ((F.filter fun p => S.getD p.1.toNat false == b).map (·.2)).sum
omit T in
theorem sumB_snoc (S : List Bool) (b : Bool) (F : List (Int × Int)) (x : Int × Int) : sumB S b (F ++ [x]) = sumB S b F + if S.getD x.1.toNat false == b then x.2 else 0 := by
  unfold sumB
  rw [List.filter_append, List.map_append, List.sum_append]
  congr 1
  rw [List.filter_cons]
  split <;> simp
omit T in
theorem sumB_FM {P : List (Int × Int)} {K : List (Int × Int)} (hK : K.Perm (uq (mxn P))) (S : List Bool) (b : Bool) (k : Nat) :
    sumB S b (FM (mxn P) K k) = (P.countP (fun p => decide (mx p = (k : Int)) && (S.getD (mn p).toNat false == b)) : Nat) := by
  have e1 : ∀ L : List (Int × Int), sumB S b (FM (mxn P) L k) = (((L.filter fun x => decide (x.1 = (k : Int)) && (S.getD x.2.toNat false == b)).map fun x => cnt (mxn P) x).sum : Nat) := by
    intro L
    unfold sumB FM
    induction L with
    | nil => rfl
    | cons x L ih =>
      rw [List.filter_cons]
      by_cases h : x.1 = (k : Int)
      · simp only [h, decide_true, if_true, List.map_cons, List.filter_cons, Bool.true_and]
        cases hb : (S.getD x.2.toNat false == b) <;> simp [h, hb] at ih ⊢ <;> omega
      · simp [h] at ih ⊢
        exact ih
  rw [e1, ((hK.filter _).map _).sum_nat, sum_uq]
  unfold mxn
  rw [List.countP_map]
  rfl
omit T in
theorem sumB_rt {P : List (Int × Int)} {K : List (Int × Int)} (hK : K.Perm (uq (mxn P))) (S : List Bool) (k : Nat) :
    decide (sumB S true (FM (mxn P) K k) < sumB S false (FM (mxn P) K k)) = rt P S k := by
  rw [sumB_FM hK, sumB_FM hK]
  unfold rt
  have tot : P.countP (fun p => decide (mx p = (k : Int)) && (S.getD (mn p).toNat false == true)) + P.countP (fun p => decide (mx p = (k : Int)) && (S.getD (mn p).toNat false == false)) = P.countP fun p => decide (mx p = (k : Int)) := by
    clear hK
    induction P with
    | nil => rfl
    | cons p P ih =>
      simp only [List.countP_cons]
      generalize S.getD (mn p).toNat false = z
      by_cases h : mx p = (k : Int) <;> cases z <;> simp [h] at ih ⊢ <;> omega
  have e : P.countP (fun p => decide (mx p = (k : Int)) && (S.getD (mn p).toNat false == true)) = P.countP (fun p => decide (mx p = (k : Int)) && S.getD (mn p).toNat false) := by
    congr 1
    funext p
    cases S.getD (mn p).toNat false <;> rfl
  rw [e] at tot ⊢
  exact decide_eq_decide.mpr (by omega)
theorem law_left_s (n : Nat) (l : List Int) (st : Sto) (h1 : 1 < l.length) (hl : l.length ≤ 100000) (hc : IsCh l) (hn : NN l) :
    Ok (callF tab (n+1) i__law_left [.tup (l.map D.int)] st) (Gv st (.tup ((lft (prs l) (mm l)).map D.int))) := by
  have h0 : l ≠ [] := fun e => by rw [e] at h1; simp at h1
  have hm := mm_le l
  have hmp := mm_pos h0 hc
  have hPP := PP_of hc hn
  have hz : zipDD (l.map D.int) (l.map D.int).tail = (prs l).map fun p => .tup [.int p.1, .int p.2] := by rw [← List.map_tail, zipDD_map]; rfl
  refine Ok_callF T._law_left rfl ?_
  simp [f__law_left, cutD_from]
  refine So_for hz (fun d r e s => (∃ a b c f, e = [some (.tup (l.map D.int)), none, none, some (.ref st.length), some (.ref (st.length + 1)), a, b, c, f, none, none, none]) ∧ s = st ++ [pCD.cell (mxn d), .lst []]) ⟨⟨_, _, _, _, rfl⟩, by simp [mxn, pCD.nil]⟩ ?_ ?_ ?_
  · rintro d r e s _ _
    exact Wk.on_none
  · rintro d x r e s hd ⟨⟨a, b, c, f, rfl⟩, rfl⟩
    have hd2 : d.length + (r.length + 1) = l.length - 1 := by rw [← prs_length, ← hd]; simp
    have hg := pCD.get (mxn d) (mx x, mn x)
    have hp := pCD.se (mxn d) (mx x, mn x) (by unfold mxn; rw [List.length_map]; omega)
    rw [pCD_key] at hg hp
    dsimp only at hg hp
    have e1 : (if x.1 < x.2 then x.2 else x.1) = mx x := by unfold mx; split <;> omega
    have e2 : (if x.2 < x.1 then x.2 else x.1) = mn x := by unfold mn; split <;> omega
    have e3 : mxn (d ++ [x]) = mxn d ++ [(mx x, mn x)] := by simp [mxn]
    rw [e3]
    simp [f__law_left_l3, pCD.kd, e1, e2, hg, hp]
  · rintro e s ⟨⟨a, b, c, f, rfl⟩, rfl⟩
    have hrg : rngOk (mm l : Int) = true := by unfold rngOk; rw [decide_eq_true_eq]; omega
    simp [maxI_ch h0 hc, hrg, rgD_map]
    refine Ok_comp rfl (fun d r a s => a = (List.range d.length).map (fun k => D.ref (st.length + (k + 2))) ∧ s = st ++ pCD.cell (mxn (prs l)) :: .lst [] :: rowL d.length fun _ => []) ⟨rfl, rfl⟩ ?_ ?_ ?_ ?_
    · rintro d r a s _ _
      exact Wk.on_none
    · rintro d x r a s hd ⟨rfl, _⟩
      have := congrArg List.length hd
      simp at this ⊢
      omega
    · rintro d x r a s hd ⟨rfl, rfl⟩
      simp [Ok_turnL]
      refine ⟨?_, ?_⟩
      · rw [List.range_succ, List.map_append, rowL_length]
        rfl
      · unfold rowL
        rw [List.range_succ, List.map_append]
        rfl
    · rintro a s ⟨rfl, rfl⟩
      have hne : mxn (prs l) ≠ [] := by
        intro e
        have := congrArg List.length e
        unfold mxn at this
        rw [List.length_map, prs_length] at this
        simp at this
        omega
      have hK : ((uq (mxn (prs l))).mergeSort pLe).Perm (uq (mxn (prs l))) := List.mergeSort_perm _ _
      have hKl := hK.length_eq
      have hul := uq_length (mxn (prs l))
      have hml : (mxn (prs l)).length = l.length - 1 := by unfold mxn; rw [List.length_map, prs_length]
      simp [srt_pCD hne]
      generalize (uq (mxn (prs l))).mergeSort pLe = K at hK hKl ⊢
      have hKm : ∀ x ∈ K, x ∈ mxn (prs l) ∧ 0 ≤ x.2 ∧ x.2 < x.1 ∧ x.1 < mm l := fun x hx => by
        have h2 := mem_uq.mp (hK.mem_iff.mp hx)
        refine ⟨h2, ?_⟩
        unfold mxn at h2
        obtain ⟨p, hp, rfl⟩ := List.mem_map.mp h2
        have := hPP p hp
        unfold mx mn
        dsimp only
        omega
      have hFl : ∀ (d : List (Int × Int)) k, (FM (mxn (prs l)) d k).length ≤ d.length := fun d k => by
        unfold FM
        rw [List.length_map]
        exact List.length_filter_le _ _
      rw [rowL_length]
      refine So_for rfl (fun d r e s => (∃ a b c d', e = [some (.tup (l.map D.int)), some (.ref (st.length + (mm l + 1 + 1))), none, some (.ref st.length), some (.ref (st.length + 1)), a, b, c, d', none, none, none]) ∧
        s = st ++ pCD.cell (mxn (prs l)) :: .lst [] :: (rowL (mm l) (FM (mxn (prs l)) d) ++ [.lst ((List.range (mm l)).map fun k => D.ref (st.length + (k + 2))), .lst (K.map fun x => .tup [.int x.1, .int x.2])])) ?_ ?_ ?_ ?_
      · exact ⟨⟨_, _, _, _, rfl⟩, rfl⟩
      · rintro d r e s _ ⟨_, rfl⟩
        intro m c e
        simp only [Option.some.injEq, Prod.mk.injEq] at e
        obtain ⟨rfl, rfl⟩ := e
        simp
      · rintro d x r e s hd ⟨⟨a, b, c, d', rfl⟩, rfl⟩
        obtain ⟨g1, g2, g3, g4⟩ := hKm x (by rw [← hd]; simp)
        obtain ⟨k, hk⟩ := Int.eq_ofNat_of_zero_le (by omega : 0 ≤ x.1)
        have hkm : k < mm l := by omega
        have ea : L2.atI (List.map (fun k => D.ref (st.length + (k + 2))) (List.range (mm l))) x.1 = some (.ref (st.length + (k + 2))) := by
          rw [hk, atI_nat, List.getElem?_map, List.getElem?_range hkm]; rfl
        have eg := rowL_get (FM (mxn (prs l)) d) hkm
        have es := rowL_set (FM (mxn (prs l)) d) hkm
        have ec : ixC (some (pCD.cell (mxn (prs l)))) (.tup [.int x.1, .int x.2]) = some (.int (cnt (mxn (prs l)) x : Nat)) := by
          have hg := pCD.get (mxn (prs l)) x
          rw [pCD_key] at hg
          unfold ixC
          rw [pCD.nl, hg]
          have := cnt_ne g1
          simp [cv, this]
        have hln : (lsD (FM (mxn (prs l)) d k)).length < 16777216 := by
          have := hFl d k
          have hdl : d.length + (r.length + 1) = K.length := by rw [← hd]; simp
          simp only [lsD, List.length_map]
          omega
        have e5 : lsD (FM (mxn (prs l)) d k) ++ [D.tup [D.int x.2, D.int (cnt (mxn (prs l)) x : Nat)]] = lsD (FM (mxn (prs l)) d k ++ [(x.2, ((cnt (mxn (prs l)) x : Nat) : Int))]) := by simp [lsD]
        have e6 : (fun j => if j = k then FM (mxn (prs l)) d k ++ [(x.2, ((cnt (mxn (prs l)) x : Nat) : Int))] else FM (mxn (prs l)) d j) = FM (mxn (prs l)) (d ++ [x]) := by
          funext j
          rw [FM_snoc]
          by_cases hj : j = k
          · subst hj; rw [if_pos rfl, if_pos hk]
          · rw [if_neg hj, if_neg (by omega)]
        simp [f__law_left_l2, ea, eg, ec, hln, e5, es, e6]
      · rintro e s ⟨⟨a, b, c, d', rfl⟩, rfl⟩
        simp [maxI_ch h0 hc, hrg, rgD_map]
        refine So_for rfl (fun d r e s => (∃ x a b c d' f g, e = [some (.tup (l.map D.int)), some (.ref (st.length + (mm l + 1 + 1))), x, some (.ref st.length), some (.ref (st.length + 1)), a, b, c, d', f, g, none]) ∧
          ∃ g, s = st ++ pCD.cell (mxn (prs l)) :: .lst ((sds (prs l) d.length).map fun b => .int (if b then 1 else 0)) :: (rowL (mm l) (FM (mxn (prs l)) K) ++ .lst ((List.range (mm l)).map fun k => D.ref (st.length + (k + 2))) :: g)) ?_ ?_ ?_ ?_
        · exact ⟨⟨_, _, _, _, _, _, _, rfl⟩, _, rfl⟩
        · rintro d r e s _ _
          exact Wk.on_none
        · rintro d x r e s hd ⟨⟨x0, a, b, c, d', f, g, rfl⟩, w, rfl⟩
          have hd2 : d.length + (r.length + 1) = mm l := by have := congrArg List.length hd; simpa using this
          have hx : x = d.length := by
            have := congrArg (fun l => l[d.length]?) hd
            simp only [List.getElem?_append_right (Nat.le_refl _), Nat.sub_self, List.getElem?_cons_zero] at this
            rw [List.getElem?_range (by omega)] at this
            exact Option.some.inj this
          subst hx
          have hxm : d.length < mm l := by omega
          have eg := rowL_get (FM (mxn (prs l)) K) hxm (.lst ((List.range (mm l)).map fun k => D.ref (st.length + (k + 2))) :: w)
          have hFm : ∀ p ∈ FM (mxn (prs l)) K d.length, 0 ≤ p.1 ∧ p.1 < (d.length : Int) := fun p hp => by
            unfold FM at hp
            obtain ⟨y, hy, rfl⟩ := List.mem_map.mp hp
            obtain ⟨h3, h4⟩ := List.mem_filter.mp hy
            have := hKm y h3
            have := of_decide_eq_true h4
            dsimp only
            omega
          have hrt := sumB_rt hK (sds (prs l) d.length) d.length
          have hS := sds_length (prs l) d.length
          have hsd : sds (prs l) (d.length + 1) = sds (prs l) d.length ++ [rt (prs l) (sds (prs l) d.length) (d.length : Nat)] := rfl
          rw [List.length_append, List.length_singleton, hsd]
          generalize hSS : sds (prs l) d.length = S at hrt hS ⊢
          generalize hFF : FM (mxn (prs l)) K d.length = F at hrt hFm eg
          have ea : L2.atI (List.map (fun k => D.ref (st.length + (k + 2))) (List.range (mm l))) (d.length : Int) = some (.ref (st.length + (d.length + 2))) := by
            rw [atI_nat, List.getElem?_map, List.getElem?_range hxm]; rfl
          have hset : ∀ c, (st ++ pCD.cell (mxn (prs l)) :: .lst (S.map fun b => .int (if b then 1 else 0)) :: (rowL (mm l) (FM (mxn (prs l)) K) ++ .lst ((List.range (mm l)).map fun k => D.ref (st.length + (k + 2))) :: w)).set (st.length + 1) c =
            st ++ pCD.cell (mxn (prs l)) :: c :: (rowL (mm l) (FM (mxn (prs l)) K) ++ .lst ((List.range (mm l)).map fun k => D.ref (st.length + (k + 2))) :: w) := fun c => by simp
          have hs1 : (st ++ pCD.cell (mxn (prs l)) :: .lst (S.map fun b => .int (if b then 1 else 0)) :: (rowL (mm l) (FM (mxn (prs l)) K) ++ .lst ((List.range (mm l)).map fun k => D.ref (st.length + (k + 2))) :: w))[st.length + 1]? = some (.lst (S.map fun b => .int (if b then 1 else 0))) := by simp
          have hs2 : (st ++ pCD.cell (mxn (prs l)) :: .lst (S.map fun b => .int (if b then 1 else 0)) :: (rowL (mm l) (FM (mxn (prs l)) K) ++ .lst ((List.range (mm l)).map fun k => D.ref (st.length + (k + 2))) :: w))[st.length + (mm l + 1 + 1)]? = some (.lst ((List.range (mm l)).map fun k => D.ref (st.length + (k + 2)))) := by simp
          have hs3 : (st ++ pCD.cell (mxn (prs l)) :: .lst (S.map fun b => .int (if b then 1 else 0)) :: (rowL (mm l) (FM (mxn (prs l)) K) ++ .lst ((List.range (mm l)).map fun k => D.ref (st.length + (k + 2))) :: w))[st.length + (d.length + 2)]? = some (.lst (lsD F)) := by simp [eg]
          generalize st ++ pCD.cell (mxn (prs l)) :: .lst (S.map fun b => .int (if b then 1 else 0)) :: (rowL (mm l) (FM (mxn (prs l)) K) ++ .lst ((List.range (mm l)).map fun k => D.ref (st.length + (k + 2))) :: w) = Bs at hset hs1 hs2 hs3 ⊢
          have l1 := lt_of hs1
          have l2 := lt_of hs2
          have l3 := lt_of hs3
          simp [f__law_left_l0, lk_l l2, hs2, ea, lk_l l3, hs3]
          refine So_for rfl (fun dn r e s => (∃ x1 x2, e = [some (.tup (l.map D.int)), some (.ref (st.length + (mm l + 1 + 1))), some (.int d.length), some (.ref st.length), some (.ref (st.length + 1)), a, b, c, x1, some (.ref Bs.length), x2, none]) ∧
            s = Bs ++ [.lst [.int (sumB S false dn), .int (sumB S true dn)]]) ?_ ?_ ?_ ?_
          · exact ⟨⟨_, _, rfl⟩, rfl⟩
          · rintro dn r e s _ ⟨_, rfl⟩
            intro m c e
            simp only [Option.some.injEq, Prod.mk.injEq] at e
            obtain ⟨rfl, rfl⟩ := e
            rw [lk_l l3, hs3]
          · rintro dn p r e s hdn ⟨⟨x1, x2, rfl⟩, rfl⟩
            obtain ⟨p0, p1⟩ := hFm p (by rw [← hdn]; simp)
            have e2 : L2.atI S p.1 = some (S.getD p.1.toNat false) := by
              rw [atI_pos p0, List.getD_eq_getElem?_getD, List.getElem?_eq_getElem (by omega)]
              rfl
            have i0 : L2.ixN 2 (0 : Int) = some 0 := ixN_nat (i := 0) (by omega)
            have i1 : L2.ixN 2 (1 : Int) = some 1 := ixN_nat (i := 1) (by omega)
            rw [sumB_snoc, sumB_snoc]
            generalize S.getD p.1.toNat false = z at e2 ⊢
            cases z <;> simp [f__law_left_l1, lk_l l1, hs1, e2, i0, i1]
          · rintro e s ⟨⟨x1, x2, rfl⟩, rfl⟩
            have hSl : S.length < 16777216 := by omega
            have hif : ∀ Q : D → Sto → Prop, True := fun _ => trivial
            rw [← hrt]
            by_cases hlt : sumB S true F < sumB S false F
            · simp [hlt, lk_l l1, hs1, hSl, st_l l1, hset]
            · simp [hlt, lk_l l1, hs1, hSl, st_l l1, hset]
        · rintro e s ⟨⟨x0, a, b, c, d', f, g, rfl⟩, w, rfl⟩
          simp
          refine Ok_compP (enumD_map (fun b => D.int (if b then 1 else 0)) (sds (prs l) (mm l))) (fun p : Bool × Nat => if p.1 then none else some (.int (p.2 : Nat))) ?_ (by simp [sds_length]; omega) (fun x hx u => ?_) fun u => ?_
          · intro n c e
            simp only [Option.some.injEq, Prod.mk.injEq] at e
            obtain ⟨rfl, rfl⟩ := e
            simp
          · cases hb : x.1 <;> simp [Ok_turnL, hb]
          · have e1 : (sds (prs l) (mm l)).zipIdx.filterMap (fun p : Bool × Nat => if p.1 then none else some (D.int (p.2 : Nat))) = (lft (prs l) (mm l)).map D.int := by
              rw [sds_map, List.zipIdx_map]
              unfold lft upto
              rw [List.filter_map, List.map_map, List.filterMap_map]
              have : ∀ m : Nat, (List.range m).zipIdx = (List.range m).map fun k => (k, k) := fun m => by
                apply List.ext_getElem?
                intro j
                rw [List.getElem?_zipIdx, List.getElem?_map]
                by_cases hj : j < m
                · rw [List.getElem?_range hj]; simp
                · rw [List.getElem?_eq_none (by simp; omega)]; rfl
              rw [this, List.filterMap_map]
              generalize List.range (mm l) = L
              induction L with
              | nil => rfl
              | cons y L ih =>
                rw [List.filterMap_cons, List.filter_cons, ih]
                cases h : side (prs l) y <;> simp [h]
            rw [e1]
            simp
end
end PyI

namespace PyI.L15
open PyI
/-- _law_sides_right(chain); names: 0=chain 1=due 2=over 3=number 4=near 5=less 6=like 7=firsts 8=units 9=own 10=one 11=two 12=unit -/
def f__law_sides_right_l0 : ISs := (.cons (.asg (.tg (.name 4)) (.comp (.ite (.cmp .eq (.var 10) (.var 3)) (.var 11) (.var 10)) (.two (.name 10) (.name 11)) (.zip (.var 0) (.sl (.var 0) (.some (.con (.int 1))) .none)) (.some (.or (.cmp .eq (.var 10) (.var 3)) (.cmp .eq (.var 11) (.var 3)))) [10, 11]))
    (.cons (.asg (.tg (.name 5)) (.comp (.var 9) (.name 9) (.val (.var 4)) (.some (.cmp .lt (.var 9) (.var 3))) [9]))
    (.cons (.asg (.tg (.name 6)) (.blt .len (.cons (.comp (.var 9) (.name 9) (.val (.var 5)) (.some (.cmp .eq (.cmp .inn (.var 9) (.var 1)) (.cmp .inn (.var 3) (.var 1)))) [9]) .nil)))
    (.cons (.ifs (.or (.cmp .gt (.bin .mul (.con (.int 2)) (.var 6)) (.blt .len (.cons (.var 5) .nil))) (.and (.cmp .nin (.var 3) (.var 1)) (.cmp .eq (.bin .mul (.con (.int 2)) (.var 6)) (.blt .len (.cons (.var 5) .nil)))))
    (.cons (.ret (.con (.bl false)))
    .nil)
    .nil)
    .nil))))
def f__law_sides_right : ISs := (.cons (.asg (.tg (.name 1)) (.call 906 (.cons (.var 0) .nil)))
    (.cons (.ifs (.or (.not (.call 903 (.cons (.tup (.cons (.call 70 (.cons (.var 0) .nil)) (.cons (.call 70 (.cons (.var 0) .nil)) (.cons (.call 67 (.cons (.var 0) .nil)) .nil)))) (.cons (.tup (.cons (.var 1) (.cons (.var 1) (.cons (.con (.bl true)) .nil)))) .nil)))) (.cmp .ne (.ix (.var 1) (.con (.int 0))) (.con (.int 0))))
    (.cons (.ret (.con (.bl false)))
    .nil)
    .nil)
    (.cons (.asg (.tg (.name 2)) (.blt .len (.cons (.comp (.con (.int 1)) (.two (.name 10) (.name 11)) (.zip (.var 0) (.sl (.var 0) (.some (.con (.int 1))) .none)) (.some (.cmp .ne (.cmp .inn (.var 10) (.var 1)) (.cmp .inn (.var 11) (.var 1)))) [10, 11]) .nil)))
    (.cons (.ifs (.cmp .lt (.bin .mul (.con (.int 2)) (.var 2)) (.bin .sub (.blt .len (.cons (.var 0) .nil)) (.con (.int 1))))
    (.cons (.ret (.con (.bl false)))
    .nil)
    .nil)
    (.cons (.fors (.name 3) (.rng1 (.bin .add (.blt .max (.cons (.var 0) .nil)) (.con (.int 1)))) f__law_sides_right_l0)
    (.cons (.asg (.tg (.two (.name 7) (.name 8))) (.call 71 (.cons (.var 0) .nil)))
    (.cons (.ret (.and (.blt .all (.cons (.comp (.ite (.cmp .eq (.blt .len (.cons (.var 12) .nil)) (.con (.int 2))) (.and (.cmp .inn (.ix (.var 12) (.con (.int 0))) (.var 1)) (.cmp .nin (.ix (.var 12) (.con (.int 1))) (.var 1))) (.con (.bl true))) (.name 12) (.val (.var 8)) .none [12]) .nil)) (.call 67 (.cons (.var 7) .nil))))
    .nil)))))))
abbrev d__law_sides_right : Fd := ⟨1, 13, f__law_sides_right⟩
abbrev i__law_sides_right : Nat := 1000
/-- _law_formulas_right(); names: 0=rows 1=chain 2=due -/
def f__law_formulas_right : ISs := (.cons (.asg (.tg (.name 0)) (.lst (.cons (.tup (.cons (.tup (.cons (.con (.int 0)) (.cons (.con (.int 1)) .nil))) (.cons (.tup (.cons (.con (.int 0)) .nil)) .nil))) (.cons (.tup (.cons (.tup (.cons (.con (.int 0)) (.cons (.con (.int 1)) (.cons (.con (.int 0)) .nil)))) (.cons (.tup (.cons (.con (.int 0)) .nil)) .nil))) (.cons (.tup (.cons (.tup (.cons (.con (.int 0)) (.cons (.con (.int 1)) (.cons (.con (.int 2)) .nil)))) (.cons (.tup (.cons (.con (.int 0)) (.cons (.con (.int 2)) .nil))) .nil))) (.cons (.tup (.cons (.tup (.cons (.con (.int 0)) (.cons (.con (.int 1)) (.cons (.con (.int 2)) (.cons (.con (.int 0)) .nil))))) (.cons (.tup (.cons (.con (.int 0)) (.cons (.con (.int 2)) .nil))) .nil))) .nil))))))
    (.cons (.asg (.tg (.name 0)) (.bin .add (.var 0) (.lst (.cons (.tup (.cons (.tup (.cons (.con (.int 0)) (.cons (.con (.int 1)) (.cons (.con (.int 2)) (.cons (.con (.int 3)) (.cons (.con (.int 0)) (.cons (.con (.int 2)) .nil))))))) (.cons (.tup (.cons (.con (.int 0)) (.cons (.con (.int 2)) .nil))) .nil))) (.cons (.tup (.cons (.tup (.cons (.con (.int 0)) (.cons (.con (.int 1)) (.cons (.con (.int 0)) (.cons (.con (.int 2)) (.cons (.con (.int 1)) (.cons (.con (.int 2)) .nil))))))) (.cons (.tup (.cons (.con (.int 0)) (.cons (.con (.int 2)) .nil))) .nil))) (.cons (.tup (.cons (.tup (.cons (.con (.int 0)) (.cons (.con (.int 1)) (.cons (.con (.int 0)) (.cons (.con (.int 2)) (.cons (.con (.int 0)) (.cons (.con (.int 2)) (.cons (.con (.int 1)) .nil)))))))) (.cons (.tup (.cons (.con (.int 0)) .nil)) .nil))) (.cons (.tup (.cons (.tup (.cons (.con (.int 0)) (.cons (.con (.int 1)) (.cons (.con (.int 2)) (.cons (.con (.int 0)) (.cons (.con (.int 2)) .nil)))))) (.cons (.tup (.cons (.con (.int 0)) .nil)) .nil))) .nil)))))))
    (.cons (.asg (.tg (.name 0)) (.bin .add (.var 0) (.lst (.cons (.tup (.cons (.tupI (.rng1 (.con (.int 2000)))) (.cons (.tupI (.rng3 (.con (.int 0)) (.con (.int 2000)) (.con (.int 2)))) .nil))) (.cons (.tup (.cons (.bin .mul (.tup (.cons (.con (.int 0)) (.cons (.con (.int 1)) .nil))) (.con (.int 1000))) (.cons (.tup (.cons (.con (.int 0)) .nil)) .nil))) (.cons (.tup (.cons (.bin .mul (.tup (.cons (.con (.int 0)) (.cons (.con (.int 1)) (.cons (.con (.int 2)) .nil)))) (.con (.int 600))) (.cons (.tup (.cons (.con (.int 0)) (.cons (.con (.int 2)) .nil))) .nil))) .nil))))))
    (.cons (.asg (.tg (.name 0)) (.bin .add (.var 0) (.lst (.cons (.tup (.cons (.bin .mul (.tup (.cons (.con (.int 0)) (.cons (.con (.int 1)) (.cons (.con (.int 2)) (.cons (.con (.int 3)) .nil))))) (.con (.int 500))) (.cons (.tup (.cons (.con (.int 0)) (.cons (.con (.int 2)) .nil))) .nil))) (.cons (.tup (.cons (.bin .mul (.tup (.cons (.con (.int 0)) (.cons (.con (.int 1)) (.cons (.con (.int 2)) (.cons (.con (.int 1)) .nil))))) (.con (.int 500))) (.cons (.tup (.cons (.con (.int 0)) (.cons (.con (.int 2)) .nil))) .nil))) (.cons (.tup (.cons (.bin .mul (.tup (.cons (.con (.int 0)) (.cons (.con (.int 1)) (.cons (.con (.int 0)) (.cons (.con (.int 2)) .nil))))) (.con (.int 500))) (.cons (.tup (.cons (.con (.int 0)) .nil)) .nil))) .nil))))))
    (.cons (.ret (.blt .all (.cons (.comp (.and (.call 903 (.cons (.call 70 (.cons (.var 1) .nil)) (.cons (.var 2) .nil))) (.cmp .eq (.call 906 (.cons (.var 1) .nil)) (.var 2))) (.two (.name 1) (.name 2)) (.val (.var 0)) .none [1, 2]) .nil)))
    .nil)))))
abbrev d__law_formulas_right : Fd := ⟨0, 3, f__law_formulas_right⟩
abbrev i__law_formulas_right : Nat := 1001
/-- _law_holds_all(press); names: 0=press 1=lap 2=chain 3=later -/
def f__law_holds_all_l0 : ISs := (.cons (.asg (.tg (.name 2)) (.call 908 (.cons (.var 0) (.cons (.ix (.call 905 (.cons (.call 907 (.cons (.var 0) (.cons (.call 902 (.cons (.var 0) (.cons (.tup (.cons (.con (.int 4)) (.cons (.con (.int 12)) (.cons (.con (.int 60)) (.cons (.con (.int 300)) .nil))))) .nil))) .nil))) .nil)) (.con (.int 0))) .nil))))
    (.cons (.ifs (.not (.call 1000 (.cons (.var 2) .nil)))
    (.cons (.ret (.con (.bl false)))
    .nil)
    .nil)
    (.cons (.asg (.tg (.name 3)) (.ix (.call 69 (.cons (.ix (.call 71 (.cons (.var 2) .nil)) (.con (.int 0))) .nil)) (.con (.int 0))))
    (.cons (.ifs (.and (.cmp .gt (.blt .len (.cons (.var 3) .nil)) (.con (.int 1))) (.not (.call 1000 (.cons (.var 3) .nil))))
    (.cons (.ret (.con (.bl false)))
    .nil)
    .nil)
    (.cons (.ifs (.not (.call 903 (.cons (.call 70 (.cons (.bin .add (.var 2) (.back (.var 2) (.some (.neg (.con (.int 2)))))) .nil)) (.cons (.call 906 (.cons (.bin .add (.var 2) (.back (.var 2) (.some (.neg (.con (.int 2)))))) .nil)) .nil))))
    (.cons (.ret (.con (.bl false)))
    .nil)
    .nil)
    .nil)))))
def f__law_holds_all : ISs := (.cons (.fors (.name 1) (.rng1 (.con (.int 14))) f__law_holds_all_l0)
    (.cons (.ret (.call 1001 .nil))
    .nil))
abbrev d__law_holds_all : Fd := ⟨1, 4, f__law_holds_all⟩
abbrev i__law_holds_all : Nat := 1002
/-- law(script); names: 0=script 1=lap -/
def f_law : ISs := (.cons (.ret (.blt .all (.cons (.comp (.call 1002 (.cons (.call 900 (.cons (.var 0) (.cons (.var 1) .nil))) .nil)) (.name 1) (.val (.tup (.cons (.con (.int 0)) (.cons (.con (.int 1)) .nil)))) .none [1]) .nil)))
    .nil)
abbrev d_law : Fd := ⟨1, 2, f_law⟩
abbrev i_law : Nat := 1003
end PyI.L15

/-! L15s_: what the law's own functions tell. -/
namespace PyI.L15
open PyI Ch
/-! the sides, told by being left -/
theorem in_lft {P : List (Int × Int)} {m : Nat} {x : Int} (h : 0 ≤ x) (h2 : x < m) : decide (x ∈ lft P m) = !side P x := by
  cases hs : side P x with
  | true => simp [mem_lft, hs]
  | false => simp [mem_lft, hs, h, h2]
theorem ints_wt {B : Nat} (l : List Int) : D.wts B (l.map D.int) ≤ (4 * B + 1) * l.length := by
  have := wts_le (B := B) (l := l.map D.int) (k := 4 * B) fun d hd => by
    obtain ⟨i, _, rfl⟩ := List.mem_map.mp hd
    simp [D.wt]
  simpa using this
@[simp] theorem eqD_bl {st : Sto} {a b : Bool} : eqD st (.bl a) (.bl b) = some (a == b) := by
  cases a <;> cases b <;> rfl
theorem lft_small {P : List (Int × Int)} {m : Nat} (h : m ≤ 2000) : ∀ i ∈ lft P m, i.natAbs < 10 ^ 5 := by
  intro i hi
  have := (mem_lft.mp hi).1
  have e : (10 : Nat) ^ 5 = 100000 := by decide
  omega
theorem lft_len {P : List (Int × Int)} {m : Nat} : (lft P m).length ≤ m := by
  unfold lft
  have := List.length_filter_le (fun k => !side P k) (upto m)
  rw [upto_length] at this
  exact this
theorem lft_head {P : List (Int × Int)} {m : Nat} (h : PP P m) (hm : 0 < m) : L2.atI (lft P m) 0 = some 0 := by
  obtain ⟨k, rfl⟩ : ∃ k, m = k + 1 := ⟨m - 1, by omega⟩
  have e : upto (k + 1) = 0 :: (List.range k).map fun i : Nat => ((i + 1 : Nat) : Int) := by
    unfold upto
    rw [List.range_succ_eq_map, List.map_cons, List.map_map]
    rfl
  unfold lft
  rw [e, List.filter_cons, h.side0]
  simp
/-- what is told of the neighbours of a number -/
theorem near_len {P : List (Int × Int)} {m : Nat} (h : PP P m) (n : Int) (g : Int → Bool) :
    (((P.filter fun p => decide (p.1 = n) || decide (p.2 = n)).map fun p => if p.1 = n then p.2 else p.1).filter fun x => decide (x < n) && g x).length = P.countP fun p => decide (mx p = n) && g (mn p) := by
  induction P with
  | nil => rfl
  | cons p P ih =>
    have hp := h p (by simp)
    have ih2 := ih fun q hq => h q (by simp [hq])
    rw [List.countP_cons, ← ih2, List.filter_cons]
    by_cases a : p.1 = n
    · have hb : mx p = n ↔ p.2 < n := by unfold mx; omega
      by_cases c : p.2 < n
      · have e1 : mx p = n := hb.mpr c
        have e2 : mn p = p.2 := by unfold mn; omega
        cases hg : g p.2 <;> simp [a, c, e1, e2, hg]
      · have e1 : ¬ mx p = n := fun z => c (hb.mp z)
        simp [a, c, e1]
    · by_cases b : p.2 = n
      · have hb : mx p = n ↔ p.1 < n := by unfold mx; omega
        by_cases c : p.1 < n
        · have e1 : mx p = n := hb.mpr c
          have e2 : mn p = p.1 := by unfold mn; omega
          cases hg : g p.1 <;> simp [a, b, c, e1, e2, hg]
        · have e1 : ¬ mx p = n := fun z => c (hb.mp z)
          simp [a, b, c, e1]
      · have e1 : ¬ mx p = n := by unfold mx; omega
        simp [a, b, e1]
variable {c1 c2 c3 : Int} {tab : List Fd} (T : Has_law c1 c2 c3 tab) (TC : Has_chainwork tab)
/-- what is asked of a law's own functions: where they stand -/
structure Own (tab : List Fd) : Prop where
  sides : tab[i__law_sides_right]? = some d__law_sides_right
  formulas : tab[i__law_formulas_right]? = some d__law_formulas_right
  all : tab[i__law_holds_all]? = some d__law_holds_all
  law : tab[i_law]? = some d_law
variable (O : Own tab)
include T TC O
theorem sides_right_s (n : Nat) (l : List Int) (st : Sto) (h1 : 1 < l.length) (hl : l.length ≤ 2000) (hc : IsCh l) (hn : NN l) :
    Ok (callF tab (n+6) i__law_sides_right [.tup (l.map D.int)] st) (Gv st (.bl true)) := by
  have h0 : l ≠ [] := fun e => by rw [e] at h1; simp at h1
  have hm := mm_le l
  have hmp := mm_pos h0 hc
  have hPP := PP_of hc hn
  have hc' : ch l = l := hc
  have hz : zipDD (l.map D.int) (l.map D.int).tail = (prs l).map fun p => .tup [.int p.1, .int p.2] := by rw [← List.map_tail, zipDD_map]; rfl
  refine Ok_callF O.sides rfl ?_
  simp [f__law_sides_right]
  refine (law_left_s T (n+4) l st h1 (by omega) hc hn).gv fun u => ?_
  simp
  refine (left_of_s TC n l _ h1 hl hc hn).gv fun u1 => ?_
  simp
  refine (left_of_s TC n l _ h1 hl hc hn).gv fun u2 => ?_
  simp
  refine (is_chain_s TC (n+2) l _ (by omega)).gv fun u3 => ?_
  have hlen : 1 ≤ l.length := by omega
  simp [hlen, hl, hc']
  have hlw := ints_wt (B := 5) (lft (prs l) (mm l))
  have hll := lft_len (P := prs l) (m := mm l)
  have hg : D.goods 5 ((lft (prs l) (mm l)).map D.int) = true := ints_good (lft_small (by omega))
  have hwt : D.wt 5 (D.tup [.tup ((lft (prs l) (mm l)).map D.int), .tup ((lft (prs l) (mm l)).map D.int), .bl true]) ≤ 100000 := by
    simp only [D.wt, D.wts]
    omega
  refine (law_even_s T (n+4) _ _ _ 5 rfl (by simp [D.good, D.goods, hg]) (by simp [ints_dep]) (by decide) (by decide) (by omega)).gv fun u4 => ?_
  simp [lft_head hPP hmp, cutD_from]
  refine Ok_compP hz (fun p : Int × Int => if (side (prs l) p.1 != side (prs l) p.2) then some (.int 1) else none) Wk.on_none (by rw [prs_length]; omega) (fun x hx v => ?_) fun v => ?_
  · have hp := hPP x hx
    have d1 := in_lft (P := prs l) hp.1 hp.2.2.2.1
    have d2 := in_lft (P := prs l) hp.2.1 hp.2.2.2.2
    simp [Ok_turnL, d1, d2]
    cases side (prs l) x.1 <;> cases side (prs l) x.2 <;> simp
  · have hov := hPP.over
    have hfl : ((prs l).filterMap fun p : Int × Int => if (side (prs l) p.1 != side (prs l) p.2) then some (D.int 1) else none).length = (prs l).countP fun p => side (prs l) p.1 != side (prs l) p.2 := by
      generalize prs l = P
      generalize side P = g
      induction P with
      | nil => rfl
      | cons p P ih =>
        rw [List.filterMap_cons, List.countP_cons]
        cases hb : (g p.1 != g p.2) <;> simp [hb] at ih ⊢ <;> exact ih
    have hpl := prs_length l
    generalize ((prs l).filterMap fun p : Int × Int => if (side (prs l) p.1 != side (prs l) p.2) then some (D.int 1) else none) = ov at hfl ⊢
    have m2 : mulOk 2 (ov.length : Int) = true := by simp [mulOk]
    have hnl : ¬ (2 * (ov.length : Int) < (l.length : Int) - 1) := by omega
    have hrg : rngOk (mm l : Int) = true := by unfold rngOk; rw [decide_eq_true_eq]; omega
    simp [m2, hnl, maxI_ch h0 hc, hrg, rgD_map]
    have hS0 : ∃ w, st ++ (u ++ (u1 ++ (u2 ++ (u3 ++ (u4 ++ (v ++ [Cell.lst ov])))))) = st ++ w := ⟨_, rfl⟩
    refine So_for rfl (fun d r e s => (∃ x3 x4 x5 x6, e = [some (.tup (l.map D.int)), some (.tup ((lft (prs l) (mm l)).map D.int)), some (.int ov.length), x3, x4, x5, x6, none, none, none, none, none, none]) ∧ ∃ g, s = st ++ g) ⟨⟨_, _, _, _, rfl⟩, hS0⟩ ?_ ?_ ?_
    · rintro d r e s _ _
      exact Wk.on_none
    · rintro d x r e s hd ⟨⟨x3, x4, x5, x6, rfl⟩, g, rfl⟩
      have hxm : x < mm l := by
        have : x ∈ List.range (mm l) := by rw [← hd]; simp
        exact List.mem_range.mp this
      have dn := in_lft (P := prs l) (m := mm l) (x := (x : Int)) (by omega) (by omega)
      have hls := near_len hPP (x : Int) (fun _ => true)
      have hlk := near_len hPP (x : Int) (fun y => side (prs l) y == side (prs l) x)
      have hhf := hPP.half (x : Int)
      have hNm : ∀ y : Int, y ∈ (((prs l).filter fun p => decide (p.1 = (x : Int)) || decide (p.2 = (x : Int))).map fun p => if p.1 = (x : Int) then p.2 else p.1) → 0 ≤ y ∧ y < mm l := fun y hy => by
        obtain ⟨p, hp, rfl⟩ := List.mem_map.mp hy
        have := hPP p (List.mem_filter.mp hp).1
        split <;> omega
      have hNl : (((prs l).filter fun p => decide (p.1 = (x : Int)) || decide (p.2 = (x : Int))).map fun p => if p.1 = (x : Int) then p.2 else p.1).length ≤ 2000 := by
        rw [List.length_map]
        have := List.length_filter_le (fun p : Int × Int => decide (p.1 = (x : Int)) || decide (p.2 = (x : Int))) (prs l)
        omega
      simp [f__law_sides_right_l0, cutD_from]
      refine Ok_compP hz (fun p : Int × Int => if decide (p.1 = (x : Int)) || decide (p.2 = (x : Int)) then some (.int (if p.1 = (x : Int) then p.2 else p.1)) else none) Wk.on_none (by omega) (fun p hp v => ?_) fun v => ?_
      · by_cases a : p.1 = (x : Int)
        · simp [Ok_turnL, a]
        · by_cases b : p.2 = (x : Int)
          · simp [Ok_turnL, a, b]
          · simp [Ok_turnL, a, b]
      · have en : ∀ P : List (Int × Int), P.filterMap (fun p : Int × Int => if decide (p.1 = (x : Int)) || decide (p.2 = (x : Int)) then some (D.int (if p.1 = (x : Int) then p.2 else p.1)) else none) =
            ((P.filter fun p => decide (p.1 = (x : Int)) || decide (p.2 = (x : Int))).map fun p => if p.1 = (x : Int) then p.2 else p.1).map D.int := fun P => by
          induction P with
          | nil => rfl
          | cons p P ih =>
            rw [List.filterMap_cons, List.filter_cons, ih]
            cases (decide (p.1 = (x : Int)) || decide (p.2 = (x : Int))) <;> simp
        rw [en]
        generalize (((prs l).filter fun p => decide (p.1 = (x : Int)) || decide (p.2 = (x : Int))).map fun p => if p.1 = (x : Int) then p.2 else p.1) = NL at hls hlk hNm hNl ⊢
        have eL : ∀ q : Int → Bool, NL.filterMap (fun y : Int => if q y then some (D.int y) else none) = (NL.filter q).map D.int := fun q => by
          clear hls hlk hNm hNl
          induction NL with
          | nil => rfl
          | cons p P ih =>
            rw [List.filterMap_cons, List.filter_cons, ih]
            cases q p <;> simp
        simp
        refine Ok_compP rfl (fun y : Int => if decide (y < (x : Int)) then some (.int y) else none) (by intro n c e; cases e; simp) (by omega) (fun y hy v => ?_) fun v => ?_
        · by_cases c : y < (x : Int) <;> simp [Ok_turnL, c]
        · rw [eL]
          have hlsub : ∀ y ∈ NL.filter (fun y => decide (y < (x : Int))), 0 ≤ y ∧ y < mm l := fun y hy => hNm y (List.mem_filter.mp hy).1
          have hll2 := List.length_filter_le (fun y => decide (y < (x : Int))) NL
          rw [show (fun x_1 : Int => decide (x_1 < (x : Int)) && side (prs l) x_1 == side (prs l) x) = fun y => (side (prs l) y == side (prs l) x) && decide (y < (x : Int)) from by funext y; rw [Bool.and_comm], ← List.filter_filter] at hlk
          simp only [Bool.and_true] at hls
          generalize NL.filter (fun y => decide (y < (x : Int))) = LS at hlsub hll2 hls hlk ⊢
          have eS : LS.filterMap (fun y : Int => if (side (prs l) y == side (prs l) x) then some (D.int y) else none) = (LS.filter fun y => side (prs l) y == side (prs l) x).map D.int := by
            clear hlsub hll2 hls hlk
            induction LS with
            | nil => rfl
            | cons p P ih =>
              rw [List.filterMap_cons, List.filter_cons, ih]
              cases (side (prs l) p == side (prs l) x) <;> simp
          simp
          refine Ok_compP rfl (fun y : Int => if (side (prs l) y == side (prs l) x) then some (.int y) else none) (by intro n c e; cases e; simp) (by omega) (fun y hy v => ?_) fun v => ?_
          · have hym := hlsub y hy
            have dy := in_lft (P := prs l) (m := mm l) hym.1 hym.2
            simp [Ok_turnL, dy, dn]
            cases side (prs l) y <;> cases side (prs l) x <;> simp
          · rw [eS]
            generalize LS.filter (fun y => side (prs l) y == side (prs l) x) = LK at hlk ⊢
            have e1 : (prs l).countP (fun p => decide (mx p = (x : Int)) && (side (prs l) (mn p) == side (prs l) x)) = (prs l).countP (fun p => decide (mx p = (x : Int)) && (side (prs l) x == side (prs l) (mn p))) := by
              exact List.countP_congr fun p _ => by cases side (prs l) (mn p) <;> cases side (prs l) x <;> simp
            have m3 : mulOk 2 (LK.length : Int) = true := by simp [mulOk]
            have q1 : ¬ ((LS.length : Int) < 2 * (LK.length : Int)) := by omega
            cases hsx : side (prs l) x with
            | false =>
              rw [hsx] at dn
              simp [m3, q1, dn]
            | true =>
              have q2 : ¬ (2 * (LK.length : Int) = (LS.length : Int)) := by
                have := hhf.2 hsx
                omega
              rw [hsx] at dn
              simp [m3, q1, dn, q2]
    · rintro e s ⟨⟨x3, x4, x5, x6, rfl⟩, g, rfl⟩
      have hpru := pru_length (L := lft (prs l) (mm l)) l
      have hprn := pru_ne (L := lft (prs l) (mm l)) h0
      have huq := uq_length (pru (lft (prs l) (mm l)) l)
      simp
      refine (pair_round_s TC n l _ h1 hl hc hn).gv fun u5 => ?_
      simp
      refine Ok_compP rfl (fun _ : List Int => some (.bl true)) Wk.on_none (by omega) (fun y hy v => ?_) fun v => ?_
      · rcases pru_mem (mem_uq.mp hy) with ⟨a, rfl, _⟩ | ⟨a, b, rfl, ha, hb, _, _⟩
        · simp [Ok_turnL]
        · simp [Ok_turnL, ha, hb]
      · simp
        refine (is_chain_s TC (n+2) (ch (pru (lft (prs l) (mm l)) l)) _ (by rw [ch_length]; omega)).gv fun u6 => ?_
        have hcc : ch (ch (pru (lft (prs l) (mm l)) l)) = ch (pru (lft (prs l) (mm l)) l) := ch_ch _
        have hcl : 1 ≤ (pru (lft (prs l) (mm l)) l).length := List.length_pos_iff.mpr hprn
        simp [ch_length, hcc]
        omega
end PyI.L15

/-! L15t_: the law's end. -/
namespace PyI.L15
open PyI Ch
/-! known chains -/
theorem uq_nodup' {l : List Int} (h : l.Nodup) : uq l = l := by
  induction l using snoc_ind with
  | h0 => rfl
  | h1 l x ih =>
    rw [List.nodup_append] at h
    rw [uq_snoc, ih h.1, if_neg]
    intro hx
    exact h.2.2 x hx x (by simp) rfl
theorem upto_ch (m : Nat) : IsCh (upto m) := by
  unfold IsCh ch
  rw [uq_nodup' (upto_nodup m), map_ix (upto_nodup m), upto_length]
theorem upto_mm (m : Nat) : mm (upto m) = m := by
  unfold mm
  rw [uq_nodup' (upto_nodup m), upto_length]
theorem prs_range' (f : Nat → Int) : ∀ n a : Nat, prs ((List.range' a (n + 1)).map f) = (List.range' a n).map fun i => (f i, f (i + 1))
  | 0, a => rfl
  | n + 1, a => by
    have ih := prs_range' f n (a + 1)
    rw [List.range'_succ, List.map_cons]
    rw [List.range'_succ, List.map_cons] at ih ⊢
    rw [prs_cons, ih, List.range'_succ, List.map_cons]
theorem prs_upto (m : Nat) : prs (upto (m + 1)) = (List.range m).map fun i : Nat => ((i : Int), ((i + 1 : Nat) : Int)) := by
  unfold upto
  rw [List.range_eq_range', List.range_eq_range']
  exact prs_range' _ m 0
theorem countP_one (q : Nat → Bool) (j : Nat) : ∀ n : Nat, (List.range n).countP (fun i => decide (i + 1 = j + 1) && q i) = if j < n ∧ q j = true then 1 else 0
  | 0 => by simp
  | n + 1 => by
    rw [List.range_succ, List.countP_append, countP_one q j n, List.countP_singleton]
    by_cases h : j = n
    · subst h
      cases q j <;> simp
    · have h2 : ¬ n = j := Ne.symm h
      by_cases h3 : j < n
      · have : j < n + 1 := by omega
        simp [h2, h3, this]
      · have : ¬ j < n + 1 := by omega
        simp [h2, h3, this]
theorem upto_NN (m : Nat) : NN (upto (m + 1)) := by
  intro p hp
  rw [prs_upto, List.mem_map] at hp
  obtain ⟨i, _, rfl⟩ := hp
  dsimp only
  omega
theorem side_upto (m : Nat) : ∀ k : Nat, k < m + 1 → side (prs (upto (m + 1))) k = decide (k % 2 = 1) := by
  have hPP : PP (prs (upto (m + 1))) (m + 1) := by
    have := PP_of (upto_ch (m + 1)) (upto_NN m)
    rw [upto_mm] at this
    exact this
  intro k
  induction k with
  | zero => intro _; rw [show ((0 : Nat) : Int) = 0 from rfl, hPP.side0]; rfl
  | succ k ih =>
    intro hk
    have ihk := ih (by omega)
    rw [hPP.side_eq]
    have e : ∀ g : Int → Bool, (prs (upto (m + 1))).countP (fun p => decide (mx p = ((k + 1 : Nat) : Int)) && g (mn p)) = if g k then 1 else 0 := fun g => by
      rw [prs_upto, List.countP_map]
      have := countP_one (fun i => g (i : Int)) k m
      rw [show (fun i : Nat => decide (i + 1 = k + 1) && g (i : Int)) = ((fun p : Int × Int => decide (mx p = ((k + 1 : Nat) : Int)) && g (mn p)) ∘ fun i : Nat => ((i : Int), ((i + 1 : Nat) : Int))) from by
        funext i
        have e1 : mx ((i : Int), ((i + 1 : Nat) : Int)) = ((i + 1 : Nat) : Int) := by unfold mx; dsimp only; omega
        have e2 : mn ((i : Int), ((i + 1 : Nat) : Int)) = (i : Int) := by unfold mn; dsimp only; omega
        simp only [Function.comp_apply, e1, e2]
        congr 1
        exact decide_eq_decide.mpr (by omega)] at this
      rw [this]
      have : k < m := by omega
      simp [this]
    have e1 := e (side (prs (upto (m + 1))))
    have e2 := e (fun _ => true)
    simp only [Bool.and_true] at e2
    rw [e1, e2, ihk]
    by_cases h : k % 2 = 1
    · have : ¬ (k + 1) % 2 = 1 := by omega
      simp [h, this]
    · have : (k + 1) % 2 = 1 := by omega
      simp [h, this]
theorem lft_upto (m : Nat) : lft (prs (upto (m + 1))) (m + 1) = (upto (m + 1)).filter fun k => decide (k % 2 = 0) := by
  unfold lft
  refine List.filter_congr fun k hk => ?_
  obtain ⟨h1, h2⟩ := mem_upto.mp hk
  obtain ⟨j, rfl⟩ := Int.eq_ofNat_of_zero_le h1
  rw [side_upto m j (by omega)]
  by_cases h : j % 2 = 1
  · have : ¬ ((j : Int) % 2 = 0) := by omega
    simp [h, this]
  · have : ((j : Int) % 2 = 0) := by omega
    simp [h, this]
/-- whether a row tells a chain and its left numbers -/
def chk (l due : List Int) : Bool := decide (1 < l.length) && (decide (l.length ≤ 2000) && (decide (ch l = l) && ((prs l).all (fun p => decide (p.1 ≠ p.2)) && decide (lft (prs l) (mm l) = due))))
structure Row (p : List Int × List Int) : Prop where
  h1 : 1 < p.1.length
  h2 : p.1.length ≤ 2000
  c : IsCh p.1
  n : NN p.1
  l : lft (prs p.1) (mm p.1) = p.2
theorem row_of {l due : List Int} (h : chk l due = true) : Row (l, due) := by
  unfold chk at h
  simp only [Bool.and_eq_true, decide_eq_true_eq] at h
  obtain ⟨a, b, c, d, e⟩ := h
  refine ⟨a, b, c, fun p hp => ?_, e⟩
  have := List.all_eq_true.mp d p hp
  simpa using this
def evens : List Int := (List.range 1000).map fun i : Nat => ((2 * i : Nat) : Int)
def reps (k : Nat) (b : List Int) : List Int := (List.replicate k b).flatten
def rows : List (List Int × List Int) := [([0, 1], [0]), ([0, 1, 0], [0]), ([0, 1, 2], [0, 2]), ([0, 1, 2, 0], [0, 2]),
  ([0, 1, 2, 3, 0, 2], [0, 2]), ([0, 1, 0, 2, 1, 2], [0, 2]), ([0, 1, 0, 2, 0, 2, 1], [0]), ([0, 1, 2, 0, 2], [0]),
  (upto 2000, evens), (reps 1000 [0, 1], [0]), (reps 600 [0, 1, 2], [0, 2]), (reps 500 [0, 1, 2, 3], [0, 2]), (reps 500 [0, 1, 2, 1], [0, 2]), (reps 500 [0, 1, 0, 2], [0])]
theorem upto_row : Row (upto 2000, evens) where
  h1 := by rw [upto_length]; decide
  h2 := by rw [upto_length]; decide
  c := upto_ch 2000
  n := upto_NN 1999
  l := by
    dsimp only
    rw [upto_mm, lft_upto 1999]
    decide +kernel
theorem rows_ok : ∀ p ∈ rows, Row p := by
  unfold rows
  simp only [List.forall_mem_cons]
  refine ⟨row_of (by decide +kernel), row_of (by decide +kernel), row_of (by decide +kernel), row_of (by decide +kernel), row_of (by decide +kernel), row_of (by decide +kernel), row_of (by decide +kernel), row_of (by decide +kernel), upto_row,
    row_of (by decide +kernel), row_of (by decide +kernel), row_of (by decide +kernel), row_of (by decide +kernel), row_of (by decide +kernel), fun p hp => by cases hp⟩
end PyI.L15

/-! L15u_: the law's end. -/
namespace PyI.L15
open PyI Ch
theorem rgC_evens : rgC 0 2 (PySem.Builtin.Range.rangeSize 0 2000 2).toNat = evens.map D.int := by
  have : (PySem.Builtin.Range.rangeSize 0 2000 2).toNat = 1000 := by decide +kernel
  rw [this]
  unfold rgC evens
  rw [List.map_map]
  refine List.map_congr_left fun i _ => ?_
  simp
  omega
theorem rgD_upto (m : Nat) : rgD 0 m = (upto m).map D.int := by
  rw [rgD_map]
  unfold upto
  rw [List.map_map]
  rfl
theorem reps_map (k : Nat) (b : List Int) : (List.replicate k (b.map D.int)).flatten = (reps k b).map D.int := by
  unfold reps
  rw [List.map_flatten, List.map_replicate]
variable {c1 c2 c3 : Int} {tab : List Fd} (T : Has_law c1 c2 c3 tab) (TC : Has_chainwork tab) (O : Own tab)
include T TC O
theorem formulas_s (n : Nat) (st : Sto) : Ok (callF tab (n+6) i__law_formulas_right [] st) (Gv st (.bl true)) := by
  refine Ok_callF O.formulas rfl ?_
  have r1 : rngOk 2000 = true := by decide
  have r2 : r3Ok 0 2000 2 = true := by decide +kernel
  have e3 : List.replicate 3 (none : Option D) = [none, none, none] := rfl
  have l1 : (rgD 0 2000).length ≤ 16777216 := by rw [rgD_upto, List.length_map, upto_length]; decide
  have l2 : (rgC 0 2 (PySem.Builtin.Range.rangeSize 0 2000 2).toNat).length ≤ 16777216 := by
    rw [rgC_evens, List.length_map]
    unfold evens
    rw [List.length_map, List.length_range]; decide
  simp [f__law_formulas_right, r1, r2, e3, l1, l2, -List.reduceReplicate]
  refine Ok_compP (g := fun p : List Int × List Int => D.tup [.tup (p.1.map D.int), .tup (p.2.map D.int)]) (l := rows) ?_ (fun _ => some (.bl true)) ?_ (by decide) (fun p hp u => ?_) fun u => ?_
  · unfold rows
    simp only [List.map_cons, List.map_nil, ← rgC_evens, ← reps_map]
    rw [← rgD_upto]
  · intro n c e
    simp only [Option.some.injEq, Prod.mk.injEq] at e
    obtain ⟨rfl, rfl⟩ := e
    simp [-List.reduceReplicate]
  · have h := rows_ok p hp
    obtain ⟨l, due⟩ := p
    obtain ⟨h1, h2, hc, hn, hl⟩ := h
    dsimp only at h1 h2 hc hn hl
    have hm := mm_le l
    have hlw := ints_wt (B := 5) due
    have hll := lft_len (P := prs l) (m := mm l)
    rw [hl] at hll
    have hg : D.goods 5 (due.map D.int) = true := by
      rw [← hl]
      exact ints_good (lft_small (by omega))
    have hwt : D.wt 5 (D.tup (due.map D.int)) ≤ 100000 := by
      simp only [D.wt]
      omega
    simp [Ok_turnL]
    refine (left_of_s TC n l _ h1 h2 hc hn).gv fun v => ?_
    rw [hl]
    simp
    refine (law_even_s T (n+4) _ _ _ 5 rfl (by simp [D.good, hg]) (by simp [ints_dep]) (by decide) (by decide) (by omega)).gv fun v2 => ?_
    simp
    refine (law_left_s T (n+4) l _ h1 (by omega) hc hn).gv fun v3 => ?_
    simp [hl]
  · simp
end PyI.L15

/-! L15v_: the law says True. -/
namespace PyI.L15
open PyI Ch
theorem NN_iff {l : List Int} : NN l ↔ ∀ i a b, l[i]? = some a → l[i + 1]? = some b → a ≠ b := by
  constructor
  · intro h i a b ha hb
    refine h (a, b) ?_
    unfold prs
    rw [List.mem_iff_getElem?]
    refine ⟨i, ?_⟩
    rw [List.getElem?_zip_eq_some]
    exact ⟨ha, by rw [List.getElem?_tail]; exact hb⟩
  · intro h p hp
    unfold prs at hp
    rw [List.mem_iff_getElem?] at hp
    obtain ⟨i, hi⟩ := hp
    rw [List.getElem?_zip_eq_some, List.getElem?_tail] at hi
    exact h i _ _ hi.1 hi.2
/-- there and back -/
def tf (l : List Int) : List Int := l ++ (l.take (l.length - 1)).reverse
theorem tf_get {l : List Int} (h : 1 < l.length) (i : Nat) (hi : i < 2 * l.length - 1) : (tf l)[i]? = if i < l.length then l[i]? else l[2 * l.length - 2 - i]? := by
  unfold tf
  by_cases c : i < l.length
  · rw [if_pos c, List.getElem?_append_left c]
  · rw [if_neg c, List.getElem?_append_right (by omega), List.getElem?_reverse (by rw [List.length_take]; omega), List.length_take, List.getElem?_take]
    rw [if_pos (by omega)]
    congr 1
    omega
theorem tf_length {l : List Int} (h : 1 < l.length) : (tf l).length = 2 * l.length - 1 := by
  unfold tf
  rw [List.length_append, List.length_reverse, List.length_take]
  omega
theorem tf_NN {l : List Int} (h : 1 < l.length) (hn : NN l) : NN (tf l) := by
  rw [NN_iff] at hn ⊢
  intro i a b ha hb
  have hl := tf_length h
  have hi : i + 1 < 2 * l.length - 1 := by
    have := (List.getElem?_eq_some_iff.mp hb).1
    omega
  rw [tf_get h i (by omega)] at ha
  rw [tf_get h (i + 1) hi] at hb
  by_cases c : i + 1 < l.length
  · rw [if_pos (by omega)] at ha
    rw [if_pos c] at hb
    exact hn i a b ha hb
  · rw [if_neg c] at hb
    by_cases d : i < l.length
    · rw [if_pos d] at ha
      have e : i = (2 * l.length - 2 - (i + 1)) + 1 := by omega
      rw [e] at ha
      exact (hn _ b a hb ha).symm
    · rw [if_neg d] at ha
      have e : 2 * l.length - 2 - i = (2 * l.length - 2 - (i + 1)) + 1 := by omega
      rw [e] at ha
      exact (hn _ b a hb ha).symm
theorem tf_ch {l : List Int} (hc : IsCh l) : IsCh (tf l) := hc.app fun x hx => List.mem_of_mem_take (List.mem_reverse.mp hx)
theorem back2_tup {xs : List D} {i : Int} {st : Sto} {Q : D → Sto → Prop} : Ok (back2 (.tup xs) (some i) st) Q = ((-(xs.length : Int) ≤ i ∧ i < 0) ∧ Q (.tup (xs.take (i + xs.length + 1).toNat).reverse) st) := by
  simp only [back2, Ok_guard, Ok_ok, decide_eq_true_eq]
/-- drawn chains -/
def ruf (l : List Int) : List Int := if 1 < (ch (rle l)).length then ch (rle l) else [0, 1, 0]
theorem ruf_ok {l : List Int} (h : 1 ≤ l.length) (h2 : l.length ≤ 300) : 1 < (ruf l).length ∧ (ruf l).length ≤ 300 ∧ IsCh (ruf l) ∧ NN (ruf l) := by
  unfold ruf
  split
  · rename_i c
    have := rle_length l
    exact ⟨c, by rw [ch_length]; omega, ch_ch _, (rle_nn l).ch⟩
  · exact ⟨by decide, by decide, by unfold IsCh; decide, by unfold NN; decide⟩
variable {c1 c2 c3 : Int} {tab : List Fd} (T : Has_law c1 c2 c3 tab) (TC : Has_chainwork tab) (O : Own tab)
include T TC O
theorem holds_all_s (n : Nat) (st : Sto) (p q : Nat) (h : Prs st p q) : Ok (callF tab (n+7) i__law_holds_all [.ref p] st) (fun x s => x = .bl true ∧ ∃ c u, s = st.set p c ++ u) := by
  have hpl := h.lt.1
  have hrg : rngOk 14 = true := by decide
  refine Ok_callF O.all rfl ?_
  simp [f__law_holds_all, hrg, rgD_map]
  refine So_for rfl (fun d r e s => (∃ a b c, e = [some (.ref p), a, b, c]) ∧ ∃ c u q', s = st.set p c ++ u ∧ Prs s p q') ⟨⟨_, _, _, rfl⟩, ?_⟩ ?_ ?_ ?_
  · obtain ⟨o, a, b, h1, h2, h3⟩ := h
    exact ⟨_, [], q, by rw [set_same h1, List.append_nil], ⟨o, a, b, h1, h2, h3⟩⟩
  · rintro d r e s _ _
    exact Wk.on_none
  · rintro d x r e s hd ⟨⟨a, b, c0, rfl⟩, c, u, q1, rfl, hP⟩
    have hp2 : ∀ c : Cell, p < (st.set p c).length := fun c => by simpa using hpl
    simp [f__law_holds_all_l0]
    refine (law_of_s T (n+4) _ p q1 _ hP (by simp) (by simp)).drw fun x c1 u1 q2 hx h3 h4 => ?_
    rw [st_l (hp2 c), List.set_set, List.append_assoc] at h3 ⊢
    obtain ⟨many, rfl, hm0, hm1⟩ : ∃ many : Int, x = .int many ∧ 0 < many ∧ many ≤ 300 := by
      simp at hx
      rcases hx with rfl | rfl | rfl | rfl <;> exact ⟨_, rfl, by decide, by decide⟩
    simp
    refine (law_drawn_s T (n+3) _ p q2 many h3 hm0 (by omega)).drw fun x c2 u2 q3 ⟨l, e, hl1, hl2⟩ h5 h6 => ?_
    rw [st_l (hp2 c1), List.set_set, List.append_assoc] at h5 ⊢
    subst e
    simp
    refine (law_run_s T (n+4) l _ (by omega)).gv fun u3 => ?_
    simp
    refine (law_rough_s T (n+5) _ p (ch (rle l))).gv fun u4 => ?_
    obtain ⟨k1, k2, kc, kn⟩ := ruf_ok (l := l) hl1 (by omega)
    have e0 : (if 1 < (ch (rle l)).length then ch (rle l) else [0, 1, 0]) = ruf l := rfl
    rw [e0]
    generalize ruf l = ln at k1 k2 kc kn ⊢
    have h8 := fun w => h5.ext w
    simp
    refine (sides_right_s T TC O n ln _ k1 (by omega) kc kn).gv fun u5 => ?_
    have k0 : ln ≠ [] := fun e => by rw [e] at k1; simp at k1
    have hpru := pru_length (L := lft (prs ln) (mm ln)) ln
    have hprn := pru_ne (L := lft (prs ln) (mm ln)) k0
    simp
    refine (pair_round_s TC (n+1) ln _ k1 (by omega) kc kn).gv fun u6 => ?_
    simp
    have hcl : 1 ≤ (ch (pru (lft (prs ln) (mm ln)) ln)).length := by rw [ch_length]; exact List.length_pos_iff.mpr hprn
    have hcl2 : (ch (pru (lft (prs ln) (mm ln)) ln)).length ≤ 300 := by rw [ch_length]; omega
    have hcc : IsCh (ch (pru (lft (prs ln) (mm ln)) ln)) := ch_ch _
    generalize ch (pru (lft (prs ln) (mm ln)) ln) = l2 at hcl hcl2 hcc ⊢
    refine (run_round_s TC (n+2) l2 _ hcl (by omega) hcc).gv fun u7 => ?_
    simp
    have lc : IsCh (ch (rle l2)) := ch_ch _
    have ln2 : NN (ch (rle l2)) := (rle_nn l2).ch
    have ll2 : (ch (rle l2)).length ≤ 300 := by have := rle_length l2; rw [ch_length]; omega
    generalize ch (rle l2) = l3 at lc ln2 ll2 ⊢
    have g1 : -(ln.length : Int) ≤ -2 := by omega
    have g2 : (-2 + (ln.length : Int) + 1).toNat = ln.length - 1 := by omega
    have g3 : ln.length + min (ln.length - 1) ln.length ≤ 16777216 := by omega
    have eT : ln.map D.int ++ (List.take (ln.length - 1) (ln.map D.int)).reverse = (tf ln).map D.int := by
      unfold tf
      rw [List.map_append, List.map_reverse, List.map_take]
    have tl := tf_length k1
    have tc := tf_ch kc
    have tn := tf_NN k1 kn
    have g4 : ln.length + (ln.length - 1) ≤ 16777216 := by omega
    have hm := mm_le (tf ln)
    have hlw := ints_wt (B := 5) (lft (prs (tf ln)) (mm (tf ln)))
    have hll := lft_len (P := prs (tf ln)) (m := mm (tf ln))
    have hg : D.goods 5 ((lft (prs (tf ln)) (mm (tf ln))).map D.int) = true := ints_good (lft_small (by omega))
    have hwt : D.wt 5 (D.tup ((lft (prs (tf ln)) (mm (tf ln))).map D.int)) ≤ 100000 := by
      simp only [D.wt]
      omega
    by_cases hk : (1 : Int) < l3.length
    · simp only [hk, true_implies, true_and, not_true_eq_false, false_implies, and_true]
      refine ⟨?_, ?_⟩
      · refine (sides_right_s T TC O n l3 _ (by omega) (by omega) lc ln2).gv fun u8 => ?_
        simp [back2_tup, g1, g2, g4, eT]
        refine (left_of_s TC (n+1) (tf ln) _ (by omega) (by omega) tc tn).gv fun v1 => ?_
        simp [back2_tup, g1, g2, g4, eT]
        refine (law_left_s T (n+5) (tf ln) _ (by omega) (by omega) tc tn).gv fun v2 => ?_
        simp
        refine (law_even_s T (n+5) _ _ _ 5 rfl (by simp [D.good, hg]) (by simp [ints_dep]) (by decide) (by decide) (by omega)).gv fun v3 => ?_
        simp
        exact ⟨⟨c2, _, rfl⟩, q3, by simpa using h8 _⟩
      · intro hk2; omega
    · refine ⟨fun h => absurd h hk, fun _ => ?_⟩
      have hk2 : (l3.length : Int) ≤ 1 := by omega
      simp [hk2, back2_tup, g1, g2, g4, eT]
      refine (left_of_s TC (n+1) (tf ln) _ (by omega) (by omega) tc tn).gv fun v1 => ?_
      simp [back2_tup, g1, g2, g4, eT]
      refine (law_left_s T (n+5) (tf ln) _ (by omega) (by omega) tc tn).gv fun v2 => ?_
      simp
      refine (law_even_s T (n+5) _ _ _ 5 rfl (by simp [D.good, hg]) (by simp [ints_dep]) (by decide) (by decide) (by omega)).gv fun v3 => ?_
      simp
      exact ⟨⟨c2, _, rfl⟩, q3, by simpa using h8 _⟩
  · rintro e s ⟨⟨a, b, c0, rfl⟩, c, u, q1, rfl, hP⟩
    simp
    refine (formulas_s T TC O n _).gv fun v => ?_
    simp
    exact ⟨_, _, rfl⟩

theorem law_s (hc2 : 0 ≤ c2) (hc3 : 1000 ≤ c3) (n : Nat) (st : Sto) (ns : List Int) (hl : ns.length ≤ 1000000) : Ok (callF tab (n+8) i_law [.rol (ns.map D.int)] st) (Gv st (.bl true)) := by
  refine Ok_callF O.law rfl ?_
  simp [f_law]
  refine Ok_compP (g := D.int) (l := [0, 1]) rfl (fun _ => some (.bl true)) Wk.on_none (by decide) (fun x hx u => ?_) fun u => ?_
  · have hx2 : 0 ≤ x ∧ x ≤ 1000 := by
      simp at hx
      omega
    simp [Ok_turnL]
    refine (law_press_s T (n+6) _ ns x hx2.1 hx2.2 hc2 hc3 hl).imp ?_
    rintro _ _ ⟨p, q, u1, rfl, rfl, hp, hq, hP⟩
    rw [List.append_assoc] at hP ⊢
    simp
    refine (holds_all_s T TC O n _ p q hP).imp ?_
    rintro _ _ ⟨rfl, c, u2, rfl⟩
    simp at hp
    refine ⟨rfl, ?_⟩
    rw [List.set_append_right _ _ (by omega), List.append_assoc]
    exact ⟨_, rfl⟩
  · simp
    simp [blsOf]
end PyI.L15

namespace PyI.E15
open PySem PySem.Spec PyProof.Rows L2 PyI PyI.L15
abbrev prg : Program := PySem.Challenge.pw_pressedwrits_k15_whole_partings_of_chain
def topS (i : Nat) : Stmt := prg.main.body.getD i (.Pass ⟨0, 0, 0, 0⟩)
def fns : List (Str × Nat × List Str) := [("is_whole", 525, ["value"]),
  ("chain_by", 72, ["things"]),
  ("chain_ok", 73, ["value"]),
  ("runs_of", 74, ["chain"]),
  ("run_round_by", 75, ["chain"]),
  ("can_pair", 76, ["chain"]),
  ("neighbours_in", 77, ["chain"]),
  ("lessers_by", 78, ["neighbours"]),
  ("goes_right", 79, ["sides", "lessers"]),
  ("left_by", 80, ["many", "neighbours"]),
  ("pairs_of", 81, ["chain", "left"]),
  ("left_in", 82, ["chain"]),
  ("pair_round_by", 83, ["chain"]),
  ("check_chain", 65, ["chain"]),
  ("check_pairable", 66, ["chain"]),
  ("is_chain", 67, ["value"]),
  ("run_round", 69, ["chain"]),
  ("left_of", 70, ["chain"]),
  ("pair_round", 71, ["chain"]),
  ("_law_press", 900, ["script", "lap"]),
  ("_law_out", 901, ["press", "many"]),
  ("_law_of", 902, ["press", "things"]),
  ("_law_even", 903, ["told", "due"]),
  ("_law_chain", 904, ["things"]),
  ("_law_run", 905, ["chain"]),
  ("_law_left", 906, ["chain"]),
  ("_law_drawn", 907, ["press", "many"]),
  ("_law_rough", 908, ["press", "chain"]),
  ("_law_sides_right", 1000, ["chain"]),
  ("_law_formulas_right", 1001, []),
  ("_law_holds_all", 1002, ["press"]),
  ("law", 1003, ["script"])]
def globs : List (Str × D) := [("MOST_IN_CHAIN", .int 2000)]
def tab : List Fd := List.replicate 65 ⟨0, 0, .nil⟩ ++ ([⟨1, 1, f_check_chain⟩] ++ ([⟨1, 1, f_check_pairable⟩] ++ ([⟨1, 1, f_is_chain⟩] ++ (List.replicate 1 ⟨0, 0, .nil⟩ ++ ([⟨1, 1, f_run_round⟩] ++ ([⟨1, 1, f_left_of⟩] ++ ([⟨1, 1, f_pair_round⟩] ++ ([⟨1, 4, f_chain_by⟩] ++ ([⟨1, 2, f_chain_ok⟩] ++ ([⟨1, 4, f_runs_of⟩] ++ ([⟨1, 1, f_run_round_by⟩] ++ ([⟨1, 3, f_can_pair⟩] ++ ([⟨1, 3, f_neighbours_in⟩] ++ ([⟨1, 5, f_lessers_by⟩] ++ ([⟨2, 5, f_goes_right⟩] ++ ([⟨2, 5, f_left_by⟩] ++ ([⟨2, 4, f_pairs_of⟩] ++ ([⟨1, 1, f_left_in⟩] ++ ([⟨1, 1, f_pair_round_by⟩] ++ (List.replicate 441 ⟨0, 0, .nil⟩ ++ ([⟨1, 1, f_is_whole⟩] ++ (List.replicate 374 ⟨0, 0, .nil⟩ ++ ([⟨2, 7, (f__law_press 3946 83981 87982)⟩] ++ ([⟨2, 5, f__law_out⟩] ++ ([⟨2, 2, f__law_of⟩] ++ ([⟨2, 2, f__law_even⟩] ++ ([⟨1, 5, f__law_chain⟩] ++ ([⟨1, 4, f__law_run⟩] ++ ([⟨1, 12, f__law_left⟩] ++ ([⟨2, 7, f__law_drawn⟩] ++ ([⟨2, 2, f__law_rough⟩] ++ (List.replicate 91 ⟨0, 0, .nil⟩ ++ ([⟨1, 13, f__law_sides_right⟩] ++ ([⟨0, 3, f__law_formulas_right⟩] ++ ([⟨1, 4, f__law_holds_all⟩] ++ ([⟨1, 2, f_law⟩]))))))))))))))))))))))))))))))))))))
abbrev s0 : Stmt := topS 1
abbrev n0 : List Str := ["value"]
theorem sc0 : FnScope n0 ["value"] (defScope s0) := ⟨rfl, rfl, rfl, by decide +kernel, rfl, by decide +kernel, by decide +kernel⟩
theorem ta0 : tab[525]? = some ⟨1, 1, f_is_whole⟩ := by kernel_rfl
theorem tr0 : trSs 200 ⟨n0, defScope s0, none, fns, globs⟩ (defBody s0) = some f_is_whole := by kernel_rfl
abbrev s1 : Stmt := topS 4
abbrev n1 : List Str := ["things", "known", "found", "thing"]
theorem sc1 : FnScope n1 ["things"] (defScope s1) := ⟨rfl, rfl, rfl, by decide +kernel, rfl, by decide +kernel, by decide +kernel⟩
theorem ta1 : tab[72]? = some ⟨1, 4, f_chain_by⟩ := by kernel_rfl
theorem tr1 : trSs 200 ⟨n1, defScope s1, none, fns, globs⟩ (defBody s1) = some f_chain_by := by kernel_rfl
abbrev s2 : Stmt := topS 5
abbrev n2 : List Str := ["value", "number"]
theorem sc2 : FnScope n2 ["value"] (defScope s2) := ⟨rfl, rfl, rfl, by decide +kernel, rfl, by decide +kernel, by decide +kernel⟩
theorem ta2 : tab[73]? = some ⟨1, 2, f_chain_ok⟩ := by kernel_rfl
theorem tr2 : trSs 200 ⟨n2, defScope s2, none, fns, globs⟩ (defBody s2) = some f_chain_ok := by kernel_rfl
abbrev s3 : Stmt := topS 6
abbrev n3 : List Str := ["chain", "found", "number", "many"]
theorem sc3 : FnScope n3 ["chain"] (defScope s3) := ⟨rfl, rfl, rfl, by decide +kernel, rfl, by decide +kernel, by decide +kernel⟩
theorem ta3 : tab[74]? = some ⟨1, 4, f_runs_of⟩ := by kernel_rfl
theorem tr3 : trSs 200 ⟨n3, defScope s3, none, fns, globs⟩ (defBody s3) = some f_runs_of := by kernel_rfl
abbrev s4 : Stmt := topS 7
abbrev n4 : List Str := ["chain"]
theorem sc4 : FnScope n4 ["chain"] (defScope s4) := ⟨rfl, rfl, rfl, by decide +kernel, rfl, by decide +kernel, by decide +kernel⟩
theorem ta4 : tab[75]? = some ⟨1, 1, f_run_round_by⟩ := by kernel_rfl
theorem tr4 : trSs 200 ⟨n4, defScope s4, none, fns, globs⟩ (defBody s4) = some f_run_round_by := by kernel_rfl
abbrev s5 : Stmt := topS 8
abbrev n5 : List Str := ["chain", "one", "two"]
theorem sc5 : FnScope n5 ["chain"] (defScope s5) := ⟨rfl, rfl, rfl, by decide +kernel, rfl, by decide +kernel, by decide +kernel⟩
theorem ta5 : tab[76]? = some ⟨1, 3, f_can_pair⟩ := by kernel_rfl
theorem tr5 : trSs 200 ⟨n5, defScope s5, none, fns, globs⟩ (defBody s5) = some f_can_pair := by kernel_rfl
abbrev s6 : Stmt := topS 9
abbrev n6 : List Str := ["chain", "found", "pair"]
theorem sc6 : FnScope n6 ["chain"] (defScope s6) := ⟨rfl, rfl, rfl, by decide +kernel, rfl, by decide +kernel, by decide +kernel⟩
theorem ta6 : tab[77]? = some ⟨1, 3, f_neighbours_in⟩ := by kernel_rfl
theorem tr6 : trSs 200 ⟨n6, defScope s6, none, fns, globs⟩ (defBody s6) = some f_neighbours_in := by kernel_rfl
abbrev s7 : Stmt := topS 10
abbrev n7 : List Str := ["neighbours", "found", "many", "one", "two"]
theorem sc7 : FnScope n7 ["neighbours"] (defScope s7) := ⟨rfl, rfl, rfl, by decide +kernel, rfl, by decide +kernel, by decide +kernel⟩
theorem ta7 : tab[78]? = some ⟨1, 5, f_lessers_by⟩ := by kernel_rfl
theorem tr7 : trSs 200 ⟨n7, defScope s7, none, fns, globs⟩ (defBody s7) = some f_lessers_by := by kernel_rfl
abbrev s8 : Stmt := topS 11
abbrev n8 : List Str := ["sides", "lessers", "right", "number", "many"]
theorem sc8 : FnScope n8 ["sides", "lessers"] (defScope s8) := ⟨rfl, rfl, rfl, by decide +kernel, rfl, by decide +kernel, by decide +kernel⟩
theorem ta8 : tab[79]? = some ⟨2, 5, f_goes_right⟩ := by kernel_rfl
theorem tr8 : trSs 200 ⟨n8, defScope s8, none, fns, globs⟩ (defBody s8) = some f_goes_right := by kernel_rfl
abbrev s9 : Stmt := topS 12
abbrev n9 : List Str := ["many", "neighbours", "number", "lessers", "sides"]
theorem sc9 : FnScope n9 ["many", "neighbours"] (defScope s9) := ⟨rfl, rfl, rfl, by decide +kernel, rfl, by decide +kernel, by decide +kernel⟩
theorem ta9 : tab[80]? = some ⟨2, 5, f_left_by⟩ := by kernel_rfl
theorem tr9 : trSs 200 ⟨n9, defScope s9, none, fns, globs⟩ (defBody s9) = some f_left_by := by kernel_rfl
abbrev s10 : Stmt := topS 13
abbrev n10 : List Str := ["chain", "left", "found", "number"]
theorem sc10 : FnScope n10 ["chain", "left"] (defScope s10) := ⟨rfl, rfl, rfl, by decide +kernel, rfl, by decide +kernel, by decide +kernel⟩
theorem ta10 : tab[81]? = some ⟨2, 4, f_pairs_of⟩ := by kernel_rfl
theorem tr10 : trSs 200 ⟨n10, defScope s10, none, fns, globs⟩ (defBody s10) = some f_pairs_of := by kernel_rfl
abbrev s11 : Stmt := topS 14
abbrev n11 : List Str := ["chain"]
theorem sc11 : FnScope n11 ["chain"] (defScope s11) := ⟨rfl, rfl, rfl, by decide +kernel, rfl, by decide +kernel, by decide +kernel⟩
theorem ta11 : tab[82]? = some ⟨1, 1, f_left_in⟩ := by kernel_rfl
theorem tr11 : trSs 200 ⟨n11, defScope s11, none, fns, globs⟩ (defBody s11) = some f_left_in := by kernel_rfl
abbrev s12 : Stmt := topS 15
abbrev n12 : List Str := ["chain"]
theorem sc12 : FnScope n12 ["chain"] (defScope s12) := ⟨rfl, rfl, rfl, by decide +kernel, rfl, by decide +kernel, by decide +kernel⟩
theorem ta12 : tab[83]? = some ⟨1, 1, f_pair_round_by⟩ := by kernel_rfl
theorem tr12 : trSs 200 ⟨n12, defScope s12, none, fns, globs⟩ (defBody s12) = some f_pair_round_by := by kernel_rfl
abbrev s13 : Stmt := topS 20
abbrev n13 : List Str := ["chain"]
theorem sc13 : FnScope n13 ["chain"] (defScope s13) := ⟨rfl, rfl, rfl, by decide +kernel, rfl, by decide +kernel, by decide +kernel⟩
theorem ta13 : tab[65]? = some ⟨1, 1, f_check_chain⟩ := by kernel_rfl
theorem tr13 : trSs 200 ⟨n13, defScope s13, none, fns, globs⟩ (defBody s13) = some f_check_chain := by kernel_rfl
abbrev s14 : Stmt := topS 21
abbrev n14 : List Str := ["chain"]
theorem sc14 : FnScope n14 ["chain"] (defScope s14) := ⟨rfl, rfl, rfl, by decide +kernel, rfl, by decide +kernel, by decide +kernel⟩
theorem ta14 : tab[66]? = some ⟨1, 1, f_check_pairable⟩ := by kernel_rfl
theorem tr14 : trSs 200 ⟨n14, defScope s14, none, fns, globs⟩ (defBody s14) = some f_check_pairable := by kernel_rfl
abbrev s15 : Stmt := topS 22
abbrev n15 : List Str := ["value"]
theorem sc15 : FnScope n15 ["value"] (defScope s15) := ⟨rfl, rfl, rfl, by decide +kernel, rfl, by decide +kernel, by decide +kernel⟩
theorem ta15 : tab[67]? = some ⟨1, 1, f_is_chain⟩ := by kernel_rfl
theorem tr15 : trSs 200 ⟨n15, defScope s15, none, fns, globs⟩ (defBody s15) = some f_is_chain := by kernel_rfl
abbrev s16 : Stmt := topS 23
abbrev n16 : List Str := ["chain"]
theorem sc16 : FnScope n16 ["chain"] (defScope s16) := ⟨rfl, rfl, rfl, by decide +kernel, rfl, by decide +kernel, by decide +kernel⟩
theorem ta16 : tab[69]? = some ⟨1, 1, f_run_round⟩ := by kernel_rfl
theorem tr16 : trSs 200 ⟨n16, defScope s16, none, fns, globs⟩ (defBody s16) = some f_run_round := by kernel_rfl
abbrev s17 : Stmt := topS 24
abbrev n17 : List Str := ["chain"]
theorem sc17 : FnScope n17 ["chain"] (defScope s17) := ⟨rfl, rfl, rfl, by decide +kernel, rfl, by decide +kernel, by decide +kernel⟩
theorem ta17 : tab[70]? = some ⟨1, 1, f_left_of⟩ := by kernel_rfl
theorem tr17 : trSs 200 ⟨n17, defScope s17, none, fns, globs⟩ (defBody s17) = some f_left_of := by kernel_rfl
abbrev s18 : Stmt := topS 25
abbrev n18 : List Str := ["chain"]
theorem sc18 : FnScope n18 ["chain"] (defScope s18) := ⟨rfl, rfl, rfl, by decide +kernel, rfl, by decide +kernel, by decide +kernel⟩
theorem ta18 : tab[71]? = some ⟨1, 1, f_pair_round⟩ := by kernel_rfl
theorem tr18 : trSs 200 ⟨n18, defScope s18, none, fns, globs⟩ (defBody s18) = some f_pair_round := by kernel_rfl
abbrev s19 : Stmt := topS 27
abbrev n19 : List Str := ["script", "lap", "own", "wheels", "spot", "part", "at"]
theorem sc19 : FnScope n19 ["script", "lap"] (defScope s19) := ⟨rfl, rfl, rfl, by decide +kernel, rfl, by decide +kernel, by decide +kernel⟩
theorem ta19 : tab[900]? = some ⟨2, 7, (f__law_press 3946 83981 87982)⟩ := by kernel_rfl
theorem tr19 : trSs 200 ⟨n19, defScope s19, none, fns, globs⟩ (defBody s19) = some (f__law_press 3946 83981 87982) := by kernel_rfl
abbrev s20 : Stmt := topS 28
abbrev n20 : List Str := ["press", "many", "one", "two", "found"]
theorem sc20 : FnScope n20 ["press", "many"] (defScope s20) := ⟨rfl, rfl, rfl, by decide +kernel, rfl, by decide +kernel, by decide +kernel⟩
theorem ta20 : tab[901]? = some ⟨2, 5, f__law_out⟩ := by kernel_rfl
theorem tr20 : trSs 200 ⟨n20, defScope s20, none, fns, globs⟩ (defBody s20) = some f__law_out := by kernel_rfl
abbrev s21 : Stmt := topS 29
abbrev n21 : List Str := ["press", "things"]
theorem sc21 : FnScope n21 ["press", "things"] (defScope s21) := ⟨rfl, rfl, rfl, by decide +kernel, rfl, by decide +kernel, by decide +kernel⟩
theorem ta21 : tab[902]? = some ⟨2, 2, f__law_of⟩ := by kernel_rfl
theorem tr21 : trSs 200 ⟨n21, defScope s21, none, fns, globs⟩ (defBody s21) = some f__law_of := by kernel_rfl
abbrev s22 : Stmt := topS 30
abbrev n22 : List Str := ["told", "due"]
theorem sc22 : FnScope n22 ["told", "due"] (defScope s22) := ⟨rfl, rfl, rfl, by decide +kernel, rfl, by decide +kernel, by decide +kernel⟩
theorem ta22 : tab[903]? = some ⟨2, 2, f__law_even⟩ := by kernel_rfl
theorem tr22 : trSs 200 ⟨n22, defScope s22, none, fns, globs⟩ (defBody s22) = some f__law_even := by kernel_rfl
abbrev s23 : Stmt := topS 31
abbrev n23 : List Str := ["things", "own", "unlike", "numbers", "found"]
theorem sc23 : FnScope n23 ["things"] (defScope s23) := ⟨rfl, rfl, rfl, by decide +kernel, rfl, by decide +kernel, by decide +kernel⟩
theorem ta23 : tab[904]? = some ⟨1, 5, f__law_chain⟩ := by kernel_rfl
theorem tr23 : trSs 200 ⟨n23, defScope s23, none, fns, globs⟩ (defBody s23) = some f__law_chain := by kernel_rfl
abbrev s24 : Stmt := topS 32
abbrev n24 : List Str := ["chain", "found", "at", "many"]
theorem sc24 : FnScope n24 ["chain"] (defScope s24) := ⟨rfl, rfl, rfl, by decide +kernel, rfl, by decide +kernel, by decide +kernel⟩
theorem ta24 : tab[905]? = some ⟨1, 4, f__law_run⟩ := by kernel_rfl
theorem tr24 : trSs 200 ⟨n24, defScope s24, none, fns, globs⟩ (defBody s24) = some f__law_run := by kernel_rfl
abbrev s25 : Stmt := topS 33
abbrev n25 : List Str := ["chain", "near", "number", "beside", "sides", "one", "two", "more", "less", "counts", "many", "side"]
theorem sc25 : FnScope n25 ["chain"] (defScope s25) := ⟨rfl, rfl, rfl, by decide +kernel, rfl, by decide +kernel, by decide +kernel⟩
theorem ta25 : tab[906]? = some ⟨1, 12, f__law_left⟩ := by kernel_rfl
theorem tr25 : trSs 200 ⟨n25, defScope s25, none, fns, globs⟩ (defBody s25) = some f__law_left := by kernel_rfl
abbrev s26 : Stmt := topS 34
abbrev n26 : List Str := ["press", "many", "turn", "found", "most", "wide", "number"]
theorem sc26 : FnScope n26 ["press", "many"] (defScope s26) := ⟨rfl, rfl, rfl, by decide +kernel, rfl, by decide +kernel, by decide +kernel⟩
theorem ta26 : tab[907]? = some ⟨2, 7, f__law_drawn⟩ := by kernel_rfl
theorem tr26 : trSs 200 ⟨n26, defScope s26, none, fns, globs⟩ (defBody s26) = some f__law_drawn := by kernel_rfl
abbrev s27 : Stmt := topS 35
abbrev n27 : List Str := ["press", "chain"]
theorem sc27 : FnScope n27 ["press", "chain"] (defScope s27) := ⟨rfl, rfl, rfl, by decide +kernel, rfl, by decide +kernel, by decide +kernel⟩
theorem ta27 : tab[908]? = some ⟨2, 2, f__law_rough⟩ := by kernel_rfl
theorem tr27 : trSs 200 ⟨n27, defScope s27, none, fns, globs⟩ (defBody s27) = some f__law_rough := by kernel_rfl
abbrev s28 : Stmt := topS 36
abbrev n28 : List Str := ["chain", "due", "over", "number", "near", "less", "like", "firsts", "units", "own", "one", "two", "unit"]
theorem sc28 : FnScope n28 ["chain"] (defScope s28) := ⟨rfl, rfl, rfl, by decide +kernel, rfl, by decide +kernel, by decide +kernel⟩
theorem ta28 : tab[1000]? = some ⟨1, 13, f__law_sides_right⟩ := by kernel_rfl
theorem tr28 : trSs 200 ⟨n28, defScope s28, none, fns, globs⟩ (defBody s28) = some f__law_sides_right := by kernel_rfl
abbrev s29 : Stmt := topS 37
abbrev n29 : List Str := ["rows", "chain", "due"]
theorem sc29 : FnScope n29 [] (defScope s29) := ⟨rfl, rfl, rfl, by decide +kernel, rfl, by decide +kernel, by decide +kernel⟩
theorem ta29 : tab[1001]? = some ⟨0, 3, f__law_formulas_right⟩ := by kernel_rfl
theorem tr29 : trSs 200 ⟨n29, defScope s29, none, fns, globs⟩ (defBody s29) = some f__law_formulas_right := by kernel_rfl
abbrev s30 : Stmt := topS 38
abbrev n30 : List Str := ["press", "lap", "chain", "later"]
theorem sc30 : FnScope n30 ["press"] (defScope s30) := ⟨rfl, rfl, rfl, by decide +kernel, rfl, by decide +kernel, by decide +kernel⟩
theorem ta30 : tab[1002]? = some ⟨1, 4, f__law_holds_all⟩ := by kernel_rfl
theorem tr30 : trSs 200 ⟨n30, defScope s30, none, fns, globs⟩ (defBody s30) = some f__law_holds_all := by kernel_rfl
abbrev s31 : Stmt := topS 39
abbrev n31 : List Str := ["script", "lap"]
theorem sc31 : FnScope n31 ["script"] (defScope s31) := ⟨rfl, rfl, rfl, by decide +kernel, rfl, by decide +kernel, by decide +kernel⟩
theorem ta31 : tab[1003]? = some ⟨1, 2, f_law⟩ := by kernel_rfl
theorem tr31 : trSs 200 ⟨n31, defScope s31, none, fns, globs⟩ (defBody s31) = some f_law := by kernel_rfl
theorem hL : Has_law 3946 83981 87982 tab := ⟨by kernel_rfl, by kernel_rfl, by kernel_rfl, by kernel_rfl, by kernel_rfl, by kernel_rfl, by kernel_rfl, by kernel_rfl, by kernel_rfl⟩
theorem hC : Has_chainwork tab := ⟨by kernel_rfl, by kernel_rfl, by kernel_rfl, by kernel_rfl, by kernel_rfl, by kernel_rfl, by kernel_rfl, by kernel_rfl, by kernel_rfl, by kernel_rfl, by kernel_rfl, by kernel_rfl, by kernel_rfl, by kernel_rfl, by kernel_rfl, by kernel_rfl, by kernel_rfl, by kernel_rfl, by kernel_rfl⟩
theorem hO : L15.Own tab := ⟨by kernel_rfl, by kernel_rfl, by kernel_rfl, by kernel_rfl⟩
theorem says : Says tab 20 1003 63 := says_of fun ns h => L15.law_s hL hC hO (by decide) (by decide) 12 [] ns (by omega)

theorem all_mk {l : PySem.W.OpenLaw} {w : World} {K : PySem.W.Frag} {h : Heap} {mg : Str → Option Value} {fa : Addr} (X : K.In h) (G : h.Ns mainGlobals mg) (hfa : mg "law" = some (.ref fa))
    {f0 f1 f2 f3 f4 f5 f6 f7 f8 f9 f10 f11 f12 f13 f14 f15 f16 f17 f18 f19 f20 f21 f22 f23 f24 f25 f26 f27 f28 f29 f30 f31 : Addr} {od0 an0 od1 an1 od2 an2 od3 an3 od4 an4 od5 an5 od6 an6 od7 an7 od8 an8 od9 an9 od10 an10 od11 an11 od12 an12 od13 an13 od14 an14 od15 an15 od16 an16 od17 an17 od18 an18 od19 an19 od20 an20 od21 an21 od22 an22 od23 an23 od24 an24 od25 an25 od26 an26 od27 an27 od28 an28 od29 an29 od30 an30 od31 an31 : Option Addr} {sl0 sl1 sl2 sl3 sl4 sl5 sl6 sl7 sl8 sl9 sl10 sl11 sl12 sl13 sl14 sl15 sl16 sl17 sl18 sl19 sl20 sl21 sl22 sl23 sl24 sl25 sl26 sl27 sl28 sl29 sl30 sl31 : Array (Option Value)} {oc0 kV0 dc0 pm0 cd0 ct0 oc1 kV1 dc1 pm1 cd1 ct1 oc2 kV2 dc2 pm2 cd2 ct2 oc3 kV3 dc3 pm3 cd3 ct3 oc4 kV4 dc4 pm4 cd4 ct4 oc5 kV5 dc5 pm5 cd5 ct5 oc6 kV6 dc6 pm6 cd6 ct6 oc7 kV7 dc7 pm7 cd7 ct7 oc8 kV8 dc8 pm8 cd8 ct8 oc9 kV9 dc9 pm9 cd9 ct9 oc10 kV10 dc10 pm10 cd10 ct10 oc11 kV11 dc11 pm11 cd11 ct11 oc12 kV12 dc12 pm12 cd12 ct12 oc13 kV13 dc13 pm13 cd13 ct13 oc14 kV14 dc14 pm14 cd14 ct14 oc15 kV15 dc15 pm15 cd15 ct15 oc16 kV16 dc16 pm16 cd16 ct16 oc17 kV17 dc17 pm17 cd17 ct17 oc18 kV18 dc18 pm18 cd18 ct18 oc19 kV19 dc19 pm19 cd19 ct19 oc20 kV20 dc20 pm20 cd20 ct20 oc21 kV21 dc21 pm21 cd21 ct21 oc22 kV22 dc22 pm22 cd22 ct22 oc23 kV23 dc23 pm23 cd23 ct23 oc24 kV24 dc24 pm24 cd24 ct24 oc25 kV25 dc25 pm25 cd25 ct25 oc26 kV26 dc26 pm26 cd26 ct26 oc27 kV27 dc27 pm27 cd27 ct27 oc28 kV28 dc28 pm28 cd28 ct28 oc29 kV29 dc29 pm29 cd29 ct29 oc30 kV30 dc30 pm30 cd30 ct30 oc31 kV31 dc31 pm31 cd31 ct31 : Value} {gt0 : Tok}
    (a0 : PySem.W.nsIn K mainGlobals "is_whole" = some (some (.ref f0)))
    (l0 : K.lookup f0 = some ⟨oc0, od0, .func (PySem.W.fnOf "is_whole" "is_whole" (defArgs s0) (defBody s0) (defScope s0) .none kV0 dc0 pm0 an0 cd0 ct0), sl0⟩)
    (c0 : PySem.W.codeIn K cd0 "is_whole" = true)
    (k0 : PySem.W.keepIn K (.ref f0) = true)
    (a1 : PySem.W.nsIn K mainGlobals "chain_by" = some (some (.ref f1)))
    (l1 : K.lookup f1 = some ⟨oc1, od1, .func (PySem.W.fnOf "chain_by" "chain_by" (defArgs s1) (defBody s1) (defScope s1) .none kV1 dc1 pm1 an1 cd1 ct1), sl1⟩)
    (c1 : PySem.W.codeIn K cd1 "chain_by" = true)
    (k1 : PySem.W.keepIn K (.ref f1) = true)
    (a2 : PySem.W.nsIn K mainGlobals "chain_ok" = some (some (.ref f2)))
    (l2 : K.lookup f2 = some ⟨oc2, od2, .func (PySem.W.fnOf "chain_ok" "chain_ok" (defArgs s2) (defBody s2) (defScope s2) .none kV2 dc2 pm2 an2 cd2 ct2), sl2⟩)
    (c2 : PySem.W.codeIn K cd2 "chain_ok" = true)
    (k2 : PySem.W.keepIn K (.ref f2) = true)
    (a3 : PySem.W.nsIn K mainGlobals "runs_of" = some (some (.ref f3)))
    (l3 : K.lookup f3 = some ⟨oc3, od3, .func (PySem.W.fnOf "runs_of" "runs_of" (defArgs s3) (defBody s3) (defScope s3) .none kV3 dc3 pm3 an3 cd3 ct3), sl3⟩)
    (c3 : PySem.W.codeIn K cd3 "runs_of" = true)
    (k3 : PySem.W.keepIn K (.ref f3) = true)
    (a4 : PySem.W.nsIn K mainGlobals "run_round_by" = some (some (.ref f4)))
    (l4 : K.lookup f4 = some ⟨oc4, od4, .func (PySem.W.fnOf "run_round_by" "run_round_by" (defArgs s4) (defBody s4) (defScope s4) .none kV4 dc4 pm4 an4 cd4 ct4), sl4⟩)
    (c4 : PySem.W.codeIn K cd4 "run_round_by" = true)
    (k4 : PySem.W.keepIn K (.ref f4) = true)
    (a5 : PySem.W.nsIn K mainGlobals "can_pair" = some (some (.ref f5)))
    (l5 : K.lookup f5 = some ⟨oc5, od5, .func (PySem.W.fnOf "can_pair" "can_pair" (defArgs s5) (defBody s5) (defScope s5) .none kV5 dc5 pm5 an5 cd5 ct5), sl5⟩)
    (c5 : PySem.W.codeIn K cd5 "can_pair" = true)
    (k5 : PySem.W.keepIn K (.ref f5) = true)
    (a6 : PySem.W.nsIn K mainGlobals "neighbours_in" = some (some (.ref f6)))
    (l6 : K.lookup f6 = some ⟨oc6, od6, .func (PySem.W.fnOf "neighbours_in" "neighbours_in" (defArgs s6) (defBody s6) (defScope s6) .none kV6 dc6 pm6 an6 cd6 ct6), sl6⟩)
    (c6 : PySem.W.codeIn K cd6 "neighbours_in" = true)
    (k6 : PySem.W.keepIn K (.ref f6) = true)
    (a7 : PySem.W.nsIn K mainGlobals "lessers_by" = some (some (.ref f7)))
    (l7 : K.lookup f7 = some ⟨oc7, od7, .func (PySem.W.fnOf "lessers_by" "lessers_by" (defArgs s7) (defBody s7) (defScope s7) .none kV7 dc7 pm7 an7 cd7 ct7), sl7⟩)
    (c7 : PySem.W.codeIn K cd7 "lessers_by" = true)
    (k7 : PySem.W.keepIn K (.ref f7) = true)
    (a8 : PySem.W.nsIn K mainGlobals "goes_right" = some (some (.ref f8)))
    (l8 : K.lookup f8 = some ⟨oc8, od8, .func (PySem.W.fnOf "goes_right" "goes_right" (defArgs s8) (defBody s8) (defScope s8) .none kV8 dc8 pm8 an8 cd8 ct8), sl8⟩)
    (c8 : PySem.W.codeIn K cd8 "goes_right" = true)
    (k8 : PySem.W.keepIn K (.ref f8) = true)
    (a9 : PySem.W.nsIn K mainGlobals "left_by" = some (some (.ref f9)))
    (l9 : K.lookup f9 = some ⟨oc9, od9, .func (PySem.W.fnOf "left_by" "left_by" (defArgs s9) (defBody s9) (defScope s9) .none kV9 dc9 pm9 an9 cd9 ct9), sl9⟩)
    (c9 : PySem.W.codeIn K cd9 "left_by" = true)
    (k9 : PySem.W.keepIn K (.ref f9) = true)
    (a10 : PySem.W.nsIn K mainGlobals "pairs_of" = some (some (.ref f10)))
    (l10 : K.lookup f10 = some ⟨oc10, od10, .func (PySem.W.fnOf "pairs_of" "pairs_of" (defArgs s10) (defBody s10) (defScope s10) .none kV10 dc10 pm10 an10 cd10 ct10), sl10⟩)
    (c10 : PySem.W.codeIn K cd10 "pairs_of" = true)
    (k10 : PySem.W.keepIn K (.ref f10) = true)
    (a11 : PySem.W.nsIn K mainGlobals "left_in" = some (some (.ref f11)))
    (l11 : K.lookup f11 = some ⟨oc11, od11, .func (PySem.W.fnOf "left_in" "left_in" (defArgs s11) (defBody s11) (defScope s11) .none kV11 dc11 pm11 an11 cd11 ct11), sl11⟩)
    (c11 : PySem.W.codeIn K cd11 "left_in" = true)
    (k11 : PySem.W.keepIn K (.ref f11) = true)
    (a12 : PySem.W.nsIn K mainGlobals "pair_round_by" = some (some (.ref f12)))
    (l12 : K.lookup f12 = some ⟨oc12, od12, .func (PySem.W.fnOf "pair_round_by" "pair_round_by" (defArgs s12) (defBody s12) (defScope s12) .none kV12 dc12 pm12 an12 cd12 ct12), sl12⟩)
    (c12 : PySem.W.codeIn K cd12 "pair_round_by" = true)
    (k12 : PySem.W.keepIn K (.ref f12) = true)
    (a13 : PySem.W.nsIn K mainGlobals "check_chain" = some (some (.ref f13)))
    (l13 : K.lookup f13 = some ⟨oc13, od13, .func (PySem.W.fnOf "check_chain" "check_chain" (defArgs s13) (defBody s13) (defScope s13) .none kV13 dc13 pm13 an13 cd13 ct13), sl13⟩)
    (c13 : PySem.W.codeIn K cd13 "check_chain" = true)
    (k13 : PySem.W.keepIn K (.ref f13) = true)
    (a14 : PySem.W.nsIn K mainGlobals "check_pairable" = some (some (.ref f14)))
    (l14 : K.lookup f14 = some ⟨oc14, od14, .func (PySem.W.fnOf "check_pairable" "check_pairable" (defArgs s14) (defBody s14) (defScope s14) .none kV14 dc14 pm14 an14 cd14 ct14), sl14⟩)
    (c14 : PySem.W.codeIn K cd14 "check_pairable" = true)
    (k14 : PySem.W.keepIn K (.ref f14) = true)
    (a15 : PySem.W.nsIn K mainGlobals "is_chain" = some (some (.ref f15)))
    (l15 : K.lookup f15 = some ⟨oc15, od15, .func (PySem.W.fnOf "is_chain" "is_chain" (defArgs s15) (defBody s15) (defScope s15) .none kV15 dc15 pm15 an15 cd15 ct15), sl15⟩)
    (c15 : PySem.W.codeIn K cd15 "is_chain" = true)
    (k15 : PySem.W.keepIn K (.ref f15) = true)
    (a16 : PySem.W.nsIn K mainGlobals "run_round" = some (some (.ref f16)))
    (l16 : K.lookup f16 = some ⟨oc16, od16, .func (PySem.W.fnOf "run_round" "run_round" (defArgs s16) (defBody s16) (defScope s16) .none kV16 dc16 pm16 an16 cd16 ct16), sl16⟩)
    (c16 : PySem.W.codeIn K cd16 "run_round" = true)
    (k16 : PySem.W.keepIn K (.ref f16) = true)
    (a17 : PySem.W.nsIn K mainGlobals "left_of" = some (some (.ref f17)))
    (l17 : K.lookup f17 = some ⟨oc17, od17, .func (PySem.W.fnOf "left_of" "left_of" (defArgs s17) (defBody s17) (defScope s17) .none kV17 dc17 pm17 an17 cd17 ct17), sl17⟩)
    (c17 : PySem.W.codeIn K cd17 "left_of" = true)
    (k17 : PySem.W.keepIn K (.ref f17) = true)
    (a18 : PySem.W.nsIn K mainGlobals "pair_round" = some (some (.ref f18)))
    (l18 : K.lookup f18 = some ⟨oc18, od18, .func (PySem.W.fnOf "pair_round" "pair_round" (defArgs s18) (defBody s18) (defScope s18) .none kV18 dc18 pm18 an18 cd18 ct18), sl18⟩)
    (c18 : PySem.W.codeIn K cd18 "pair_round" = true)
    (k18 : PySem.W.keepIn K (.ref f18) = true)
    (a19 : PySem.W.nsIn K mainGlobals "_law_press" = some (some (.ref f19)))
    (l19 : K.lookup f19 = some ⟨oc19, od19, .func (PySem.W.fnOf "_law_press" "_law_press" (defArgs s19) (defBody s19) (defScope s19) .none kV19 dc19 pm19 an19 cd19 ct19), sl19⟩)
    (c19 : PySem.W.codeIn K cd19 "_law_press" = true)
    (k19 : PySem.W.keepIn K (.ref f19) = true)
    (a20 : PySem.W.nsIn K mainGlobals "_law_out" = some (some (.ref f20)))
    (l20 : K.lookup f20 = some ⟨oc20, od20, .func (PySem.W.fnOf "_law_out" "_law_out" (defArgs s20) (defBody s20) (defScope s20) .none kV20 dc20 pm20 an20 cd20 ct20), sl20⟩)
    (c20 : PySem.W.codeIn K cd20 "_law_out" = true)
    (k20 : PySem.W.keepIn K (.ref f20) = true)
    (a21 : PySem.W.nsIn K mainGlobals "_law_of" = some (some (.ref f21)))
    (l21 : K.lookup f21 = some ⟨oc21, od21, .func (PySem.W.fnOf "_law_of" "_law_of" (defArgs s21) (defBody s21) (defScope s21) .none kV21 dc21 pm21 an21 cd21 ct21), sl21⟩)
    (c21 : PySem.W.codeIn K cd21 "_law_of" = true)
    (k21 : PySem.W.keepIn K (.ref f21) = true)
    (a22 : PySem.W.nsIn K mainGlobals "_law_even" = some (some (.ref f22)))
    (l22 : K.lookup f22 = some ⟨oc22, od22, .func (PySem.W.fnOf "_law_even" "_law_even" (defArgs s22) (defBody s22) (defScope s22) .none kV22 dc22 pm22 an22 cd22 ct22), sl22⟩)
    (c22 : PySem.W.codeIn K cd22 "_law_even" = true)
    (k22 : PySem.W.keepIn K (.ref f22) = true)
    (a23 : PySem.W.nsIn K mainGlobals "_law_chain" = some (some (.ref f23)))
    (l23 : K.lookup f23 = some ⟨oc23, od23, .func (PySem.W.fnOf "_law_chain" "_law_chain" (defArgs s23) (defBody s23) (defScope s23) .none kV23 dc23 pm23 an23 cd23 ct23), sl23⟩)
    (c23 : PySem.W.codeIn K cd23 "_law_chain" = true)
    (k23 : PySem.W.keepIn K (.ref f23) = true)
    (a24 : PySem.W.nsIn K mainGlobals "_law_run" = some (some (.ref f24)))
    (l24 : K.lookup f24 = some ⟨oc24, od24, .func (PySem.W.fnOf "_law_run" "_law_run" (defArgs s24) (defBody s24) (defScope s24) .none kV24 dc24 pm24 an24 cd24 ct24), sl24⟩)
    (c24 : PySem.W.codeIn K cd24 "_law_run" = true)
    (k24 : PySem.W.keepIn K (.ref f24) = true)
    (a25 : PySem.W.nsIn K mainGlobals "_law_left" = some (some (.ref f25)))
    (l25 : K.lookup f25 = some ⟨oc25, od25, .func (PySem.W.fnOf "_law_left" "_law_left" (defArgs s25) (defBody s25) (defScope s25) .none kV25 dc25 pm25 an25 cd25 ct25), sl25⟩)
    (c25 : PySem.W.codeIn K cd25 "_law_left" = true)
    (k25 : PySem.W.keepIn K (.ref f25) = true)
    (a26 : PySem.W.nsIn K mainGlobals "_law_drawn" = some (some (.ref f26)))
    (l26 : K.lookup f26 = some ⟨oc26, od26, .func (PySem.W.fnOf "_law_drawn" "_law_drawn" (defArgs s26) (defBody s26) (defScope s26) .none kV26 dc26 pm26 an26 cd26 ct26), sl26⟩)
    (c26 : PySem.W.codeIn K cd26 "_law_drawn" = true)
    (k26 : PySem.W.keepIn K (.ref f26) = true)
    (a27 : PySem.W.nsIn K mainGlobals "_law_rough" = some (some (.ref f27)))
    (l27 : K.lookup f27 = some ⟨oc27, od27, .func (PySem.W.fnOf "_law_rough" "_law_rough" (defArgs s27) (defBody s27) (defScope s27) .none kV27 dc27 pm27 an27 cd27 ct27), sl27⟩)
    (c27 : PySem.W.codeIn K cd27 "_law_rough" = true)
    (k27 : PySem.W.keepIn K (.ref f27) = true)
    (a28 : PySem.W.nsIn K mainGlobals "_law_sides_right" = some (some (.ref f28)))
    (l28 : K.lookup f28 = some ⟨oc28, od28, .func (PySem.W.fnOf "_law_sides_right" "_law_sides_right" (defArgs s28) (defBody s28) (defScope s28) .none kV28 dc28 pm28 an28 cd28 ct28), sl28⟩)
    (c28 : PySem.W.codeIn K cd28 "_law_sides_right" = true)
    (k28 : PySem.W.keepIn K (.ref f28) = true)
    (a29 : PySem.W.nsIn K mainGlobals "_law_formulas_right" = some (some (.ref f29)))
    (l29 : K.lookup f29 = some ⟨oc29, od29, .func (PySem.W.fnOf "_law_formulas_right" "_law_formulas_right" (defArgs s29) (defBody s29) (defScope s29) .none kV29 dc29 pm29 an29 cd29 ct29), sl29⟩)
    (c29 : PySem.W.codeIn K cd29 "_law_formulas_right" = true)
    (k29 : PySem.W.keepIn K (.ref f29) = true)
    (a30 : PySem.W.nsIn K mainGlobals "_law_holds_all" = some (some (.ref f30)))
    (l30 : K.lookup f30 = some ⟨oc30, od30, .func (PySem.W.fnOf "_law_holds_all" "_law_holds_all" (defArgs s30) (defBody s30) (defScope s30) .none kV30 dc30 pm30 an30 cd30 ct30), sl30⟩)
    (c30 : PySem.W.codeIn K cd30 "_law_holds_all" = true)
    (k30 : PySem.W.keepIn K (.ref f30) = true)
    (a31 : PySem.W.nsIn K mainGlobals "law" = some (some (.ref f31)))
    (l31 : K.lookup f31 = some ⟨oc31, od31, .func (PySem.W.fnOf "law" "law" (defArgs s31) (defBody s31) (defScope s31) .none kV31 dc31 pm31 an31 cd31 ct31), sl31⟩)
    (c31 : PySem.W.codeIn K cd31 "law" = true)
    (k31 : PySem.W.keepIn K (.ref f31) = true)
    (z0 : PySem.W.nsIn K mainGlobals "len" = some none)
    (z1 : PySem.W.nsIn K mainGlobals "abs" = some none)
    (z2 : PySem.W.nsIn K mainGlobals "int" = some none)
    (z3 : PySem.W.nsIn K mainGlobals "list" = some none)
    (z4 : PySem.W.nsIn K mainGlobals "tuple" = some none)
    (z5 : PySem.W.nsIn K mainGlobals "sum" = some none)
    (z6 : PySem.W.nsIn K mainGlobals "all" = some none)
    (z7 : PySem.W.nsIn K mainGlobals "any" = some none)
    (z8 : PySem.W.nsIn K mainGlobals "max" = some none)
    (z9 : PySem.W.nsIn K mainGlobals "min" = some none)
    (z10 : PySem.W.nsIn K mainGlobals "repr" = some none)
    (z11 : PySem.W.nsIn K mainGlobals "ord" = some none)
    (z12 : PySem.W.nsIn K mainGlobals "isinstance" = some none)
    (z13 : PySem.W.nsIn K mainGlobals "bool" = some none)
    (z14 : PySem.W.nsIn K mainGlobals "str" = some none)
    (z15 : PySem.W.nsIn K mainGlobals "range" = some none)
    (z16 : PySem.W.nsIn K mainGlobals "enumerate" = some none)
    (z17 : PySem.W.nsIn K mainGlobals "zip" = some none)
    (z18 : PySem.W.nsIn K mainGlobals "sorted" = some none)
    (glob0 : PySem.W.nsIn K mainGlobals "MOST_IN_CHAIN" = some (some (.int 2000 gt0))) :
    ∃ fd : FuncData, (∀ (s : Shared) (v : Value), K.In s.heap → BindsTo s fd ⟨[v], []⟩ [("script", v)]) ∧ ∀ base : Heap, K.In base → base.Ns mainGlobals mg → FnG l.prog w K mg base (L2.CX l.prog w) 20 fa fd ["script"] (spF K (fun _ _ _ _ _ => False) 1 (callF tab 20 1003)) := by
  have e := hfa.symm.trans (PySem.W.mg_of X G a31)
  have T : Txt0 K mg fns globs tab := by
    refine ⟨?_, ?_, ?_⟩
    · refine List.forall_mem_cons.mpr ⟨PySem.W.mg_none_of X G z0, ?_⟩
      refine List.forall_mem_cons.mpr ⟨PySem.W.mg_none_of X G z1, ?_⟩
      refine List.forall_mem_cons.mpr ⟨PySem.W.mg_none_of X G z2, ?_⟩
      refine List.forall_mem_cons.mpr ⟨PySem.W.mg_none_of X G z3, ?_⟩
      refine List.forall_mem_cons.mpr ⟨PySem.W.mg_none_of X G z4, ?_⟩
      refine List.forall_mem_cons.mpr ⟨PySem.W.mg_none_of X G z5, ?_⟩
      refine List.forall_mem_cons.mpr ⟨PySem.W.mg_none_of X G z6, ?_⟩
      refine List.forall_mem_cons.mpr ⟨PySem.W.mg_none_of X G z7, ?_⟩
      refine List.forall_mem_cons.mpr ⟨PySem.W.mg_none_of X G z8, ?_⟩
      refine List.forall_mem_cons.mpr ⟨PySem.W.mg_none_of X G z9, ?_⟩
      refine List.forall_mem_cons.mpr ⟨PySem.W.mg_none_of X G z10, ?_⟩
      refine List.forall_mem_cons.mpr ⟨PySem.W.mg_none_of X G z11, ?_⟩
      refine List.forall_mem_cons.mpr ⟨PySem.W.mg_none_of X G z12, ?_⟩
      refine List.forall_mem_cons.mpr ⟨PySem.W.mg_none_of X G z13, ?_⟩
      refine List.forall_mem_cons.mpr ⟨PySem.W.mg_none_of X G z14, ?_⟩
      refine List.forall_mem_cons.mpr ⟨PySem.W.mg_none_of X G z15, ?_⟩
      refine List.forall_mem_cons.mpr ⟨PySem.W.mg_none_of X G z16, ?_⟩
      refine List.forall_mem_cons.mpr ⟨PySem.W.mg_none_of X G z17, ?_⟩
      refine List.forall_mem_cons.mpr ⟨PySem.W.mg_none_of X G z18, ?_⟩
      exact fun x hx => by cases hx
    · refine globs_all ?_
      refine List.forall_mem_cons.mpr ⟨⟨.int _, _, PySem.W.mg_of X G glob0, ⟨_, rfl⟩, .int _⟩, ?_⟩
      exact fun x hx => by cases hx
    · refine ents_all ?_
      refine List.forall_mem_cons.mpr ⟨⟨f0, _, s0, n0, f_is_whole, ⟨fun_mk (st := s0) l0 c0 k0, PySem.W.mg_of X G a0, (fun s us ws _ hl => match us, ws, hl with | [], [_], _ => .of_eq rfl | [_], [], _ => .of_eq rfl), sc0, ta0, tr0⟩⟩, ?_⟩
      refine List.forall_mem_cons.mpr ⟨⟨f1, _, s1, n1, f_chain_by, ⟨fun_mk (st := s1) l1 c1 k1, PySem.W.mg_of X G a1, (fun s us ws _ hl => match us, ws, hl with | [], [_], _ => .of_eq rfl | [_], [], _ => .of_eq rfl), sc1, ta1, tr1⟩⟩, ?_⟩
      refine List.forall_mem_cons.mpr ⟨⟨f2, _, s2, n2, f_chain_ok, ⟨fun_mk (st := s2) l2 c2 k2, PySem.W.mg_of X G a2, (fun s us ws _ hl => match us, ws, hl with | [], [_], _ => .of_eq rfl | [_], [], _ => .of_eq rfl), sc2, ta2, tr2⟩⟩, ?_⟩
      refine List.forall_mem_cons.mpr ⟨⟨f3, _, s3, n3, f_runs_of, ⟨fun_mk (st := s3) l3 c3 k3, PySem.W.mg_of X G a3, (fun s us ws _ hl => match us, ws, hl with | [], [_], _ => .of_eq rfl | [_], [], _ => .of_eq rfl), sc3, ta3, tr3⟩⟩, ?_⟩
      refine List.forall_mem_cons.mpr ⟨⟨f4, _, s4, n4, f_run_round_by, ⟨fun_mk (st := s4) l4 c4 k4, PySem.W.mg_of X G a4, (fun s us ws _ hl => match us, ws, hl with | [], [_], _ => .of_eq rfl | [_], [], _ => .of_eq rfl), sc4, ta4, tr4⟩⟩, ?_⟩
      refine List.forall_mem_cons.mpr ⟨⟨f5, _, s5, n5, f_can_pair, ⟨fun_mk (st := s5) l5 c5 k5, PySem.W.mg_of X G a5, (fun s us ws _ hl => match us, ws, hl with | [], [_], _ => .of_eq rfl | [_], [], _ => .of_eq rfl), sc5, ta5, tr5⟩⟩, ?_⟩
      refine List.forall_mem_cons.mpr ⟨⟨f6, _, s6, n6, f_neighbours_in, ⟨fun_mk (st := s6) l6 c6 k6, PySem.W.mg_of X G a6, (fun s us ws _ hl => match us, ws, hl with | [], [_], _ => .of_eq rfl | [_], [], _ => .of_eq rfl), sc6, ta6, tr6⟩⟩, ?_⟩
      refine List.forall_mem_cons.mpr ⟨⟨f7, _, s7, n7, f_lessers_by, ⟨fun_mk (st := s7) l7 c7 k7, PySem.W.mg_of X G a7, (fun s us ws _ hl => match us, ws, hl with | [], [_], _ => .of_eq rfl | [_], [], _ => .of_eq rfl), sc7, ta7, tr7⟩⟩, ?_⟩
      refine List.forall_mem_cons.mpr ⟨⟨f8, _, s8, n8, f_goes_right, ⟨fun_mk (st := s8) l8 c8 k8, PySem.W.mg_of X G a8, (fun s us ws _ hl => match us, ws, hl with | [], [_, _], _ => .of_eq rfl | [_], [_], _ => .of_eq rfl | [_, _], [], _ => .of_eq rfl), sc8, ta8, tr8⟩⟩, ?_⟩
      refine List.forall_mem_cons.mpr ⟨⟨f9, _, s9, n9, f_left_by, ⟨fun_mk (st := s9) l9 c9 k9, PySem.W.mg_of X G a9, (fun s us ws _ hl => match us, ws, hl with | [], [_, _], _ => .of_eq rfl | [_], [_], _ => .of_eq rfl | [_, _], [], _ => .of_eq rfl), sc9, ta9, tr9⟩⟩, ?_⟩
      refine List.forall_mem_cons.mpr ⟨⟨f10, _, s10, n10, f_pairs_of, ⟨fun_mk (st := s10) l10 c10 k10, PySem.W.mg_of X G a10, (fun s us ws _ hl => match us, ws, hl with | [], [_, _], _ => .of_eq rfl | [_], [_], _ => .of_eq rfl | [_, _], [], _ => .of_eq rfl), sc10, ta10, tr10⟩⟩, ?_⟩
      refine List.forall_mem_cons.mpr ⟨⟨f11, _, s11, n11, f_left_in, ⟨fun_mk (st := s11) l11 c11 k11, PySem.W.mg_of X G a11, (fun s us ws _ hl => match us, ws, hl with | [], [_], _ => .of_eq rfl | [_], [], _ => .of_eq rfl), sc11, ta11, tr11⟩⟩, ?_⟩
      refine List.forall_mem_cons.mpr ⟨⟨f12, _, s12, n12, f_pair_round_by, ⟨fun_mk (st := s12) l12 c12 k12, PySem.W.mg_of X G a12, (fun s us ws _ hl => match us, ws, hl with | [], [_], _ => .of_eq rfl | [_], [], _ => .of_eq rfl), sc12, ta12, tr12⟩⟩, ?_⟩
      refine List.forall_mem_cons.mpr ⟨⟨f13, _, s13, n13, f_check_chain, ⟨fun_mk (st := s13) l13 c13 k13, PySem.W.mg_of X G a13, (fun s us ws _ hl => match us, ws, hl with | [], [_], _ => .of_eq rfl | [_], [], _ => .of_eq rfl), sc13, ta13, tr13⟩⟩, ?_⟩
      refine List.forall_mem_cons.mpr ⟨⟨f14, _, s14, n14, f_check_pairable, ⟨fun_mk (st := s14) l14 c14 k14, PySem.W.mg_of X G a14, (fun s us ws _ hl => match us, ws, hl with | [], [_], _ => .of_eq rfl | [_], [], _ => .of_eq rfl), sc14, ta14, tr14⟩⟩, ?_⟩
      refine List.forall_mem_cons.mpr ⟨⟨f15, _, s15, n15, f_is_chain, ⟨fun_mk (st := s15) l15 c15 k15, PySem.W.mg_of X G a15, (fun s us ws _ hl => match us, ws, hl with | [], [_], _ => .of_eq rfl | [_], [], _ => .of_eq rfl), sc15, ta15, tr15⟩⟩, ?_⟩
      refine List.forall_mem_cons.mpr ⟨⟨f16, _, s16, n16, f_run_round, ⟨fun_mk (st := s16) l16 c16 k16, PySem.W.mg_of X G a16, (fun s us ws _ hl => match us, ws, hl with | [], [_], _ => .of_eq rfl | [_], [], _ => .of_eq rfl), sc16, ta16, tr16⟩⟩, ?_⟩
      refine List.forall_mem_cons.mpr ⟨⟨f17, _, s17, n17, f_left_of, ⟨fun_mk (st := s17) l17 c17 k17, PySem.W.mg_of X G a17, (fun s us ws _ hl => match us, ws, hl with | [], [_], _ => .of_eq rfl | [_], [], _ => .of_eq rfl), sc17, ta17, tr17⟩⟩, ?_⟩
      refine List.forall_mem_cons.mpr ⟨⟨f18, _, s18, n18, f_pair_round, ⟨fun_mk (st := s18) l18 c18 k18, PySem.W.mg_of X G a18, (fun s us ws _ hl => match us, ws, hl with | [], [_], _ => .of_eq rfl | [_], [], _ => .of_eq rfl), sc18, ta18, tr18⟩⟩, ?_⟩
      refine List.forall_mem_cons.mpr ⟨⟨f19, _, s19, n19, (f__law_press 3946 83981 87982), ⟨fun_mk (st := s19) l19 c19 k19, PySem.W.mg_of X G a19, (fun s us ws _ hl => match us, ws, hl with | [], [_, _], _ => .of_eq rfl | [_], [_], _ => .of_eq rfl | [_, _], [], _ => .of_eq rfl), sc19, ta19, tr19⟩⟩, ?_⟩
      refine List.forall_mem_cons.mpr ⟨⟨f20, _, s20, n20, f__law_out, ⟨fun_mk (st := s20) l20 c20 k20, PySem.W.mg_of X G a20, (fun s us ws _ hl => match us, ws, hl with | [], [_, _], _ => .of_eq rfl | [_], [_], _ => .of_eq rfl | [_, _], [], _ => .of_eq rfl), sc20, ta20, tr20⟩⟩, ?_⟩
      refine List.forall_mem_cons.mpr ⟨⟨f21, _, s21, n21, f__law_of, ⟨fun_mk (st := s21) l21 c21 k21, PySem.W.mg_of X G a21, (fun s us ws _ hl => match us, ws, hl with | [], [_, _], _ => .of_eq rfl | [_], [_], _ => .of_eq rfl | [_, _], [], _ => .of_eq rfl), sc21, ta21, tr21⟩⟩, ?_⟩
      refine List.forall_mem_cons.mpr ⟨⟨f22, _, s22, n22, f__law_even, ⟨fun_mk (st := s22) l22 c22 k22, PySem.W.mg_of X G a22, (fun s us ws _ hl => match us, ws, hl with | [], [_, _], _ => .of_eq rfl | [_], [_], _ => .of_eq rfl | [_, _], [], _ => .of_eq rfl), sc22, ta22, tr22⟩⟩, ?_⟩
      refine List.forall_mem_cons.mpr ⟨⟨f23, _, s23, n23, f__law_chain, ⟨fun_mk (st := s23) l23 c23 k23, PySem.W.mg_of X G a23, (fun s us ws _ hl => match us, ws, hl with | [], [_], _ => .of_eq rfl | [_], [], _ => .of_eq rfl), sc23, ta23, tr23⟩⟩, ?_⟩
      refine List.forall_mem_cons.mpr ⟨⟨f24, _, s24, n24, f__law_run, ⟨fun_mk (st := s24) l24 c24 k24, PySem.W.mg_of X G a24, (fun s us ws _ hl => match us, ws, hl with | [], [_], _ => .of_eq rfl | [_], [], _ => .of_eq rfl), sc24, ta24, tr24⟩⟩, ?_⟩
      refine List.forall_mem_cons.mpr ⟨⟨f25, _, s25, n25, f__law_left, ⟨fun_mk (st := s25) l25 c25 k25, PySem.W.mg_of X G a25, (fun s us ws _ hl => match us, ws, hl with | [], [_], _ => .of_eq rfl | [_], [], _ => .of_eq rfl), sc25, ta25, tr25⟩⟩, ?_⟩
      refine List.forall_mem_cons.mpr ⟨⟨f26, _, s26, n26, f__law_drawn, ⟨fun_mk (st := s26) l26 c26 k26, PySem.W.mg_of X G a26, (fun s us ws _ hl => match us, ws, hl with | [], [_, _], _ => .of_eq rfl | [_], [_], _ => .of_eq rfl | [_, _], [], _ => .of_eq rfl), sc26, ta26, tr26⟩⟩, ?_⟩
      refine List.forall_mem_cons.mpr ⟨⟨f27, _, s27, n27, f__law_rough, ⟨fun_mk (st := s27) l27 c27 k27, PySem.W.mg_of X G a27, (fun s us ws _ hl => match us, ws, hl with | [], [_, _], _ => .of_eq rfl | [_], [_], _ => .of_eq rfl | [_, _], [], _ => .of_eq rfl), sc27, ta27, tr27⟩⟩, ?_⟩
      refine List.forall_mem_cons.mpr ⟨⟨f28, _, s28, n28, f__law_sides_right, ⟨fun_mk (st := s28) l28 c28 k28, PySem.W.mg_of X G a28, (fun s us ws _ hl => match us, ws, hl with | [], [_], _ => .of_eq rfl | [_], [], _ => .of_eq rfl), sc28, ta28, tr28⟩⟩, ?_⟩
      refine List.forall_mem_cons.mpr ⟨⟨f29, _, s29, n29, f__law_formulas_right, ⟨fun_mk (st := s29) l29 c29 k29, PySem.W.mg_of X G a29, (fun s us ws _ hl => match us, ws, hl with | [], [], _ => .of_eq rfl), sc29, ta29, tr29⟩⟩, ?_⟩
      refine List.forall_mem_cons.mpr ⟨⟨f30, _, s30, n30, f__law_holds_all, ⟨fun_mk (st := s30) l30 c30 k30, PySem.W.mg_of X G a30, (fun s us ws _ hl => match us, ws, hl with | [], [_], _ => .of_eq rfl | [_], [], _ => .of_eq rfl), sc30, ta30, tr30⟩⟩, ?_⟩
      refine List.forall_mem_cons.mpr ⟨⟨f31, _, s31, n31, f_law, ⟨fun_mk (st := s31) l31 c31 k31, PySem.W.mg_of X G a31, (fun s us ws _ hl => match us, ws, hl with | [], [_], _ => .of_eq rfl | [_], [], _ => .of_eq rfl), sc31, ta31, tr31⟩⟩, ?_⟩
      exact fun x hx => by cases hx
  obtain ⟨f, fd, hm, hk, kb, F, ar⟩ := tab_ok (P := l.prog) (w := w) (EX := fun _ _ _ _ _ => False) T 20 "law" 1003 ["script"] (by decide +kernel)
  have e2 := hm.symm.trans hfa
  cases e2
  exact ⟨fd, fun s v hk => kb s [v] [] hk rfl, fun base _ _ => F base⟩
end PyI.E15
open PySem PySem.W PyProof.Rows
set_option maxHeartbeats 0 in
theorem PySem.Challenge.cw_pressedwrits_k15_whole_partings_of_chain_holds : PySem.Challenge.rw_pressedwrits_k15_whole_partings_of_chain.Holds := by
  w_on; o_law; k_head; (case hw => w_witness2)
  k_fill
  refine PyI.walk_ofG (l := PySem.Challenge.rw_pressedwrits_k15_whole_partings_of_chain) (n := 63) (k := 20) (x := "script") (sp := fun K => PyI.spF K (fun _ _ _ _ _ => False) 1 (PyI.callF PyI.E15.tab 20 1003)) rfl (by decide) rfl ⟨rfl, by decide, by decide⟩ (fun w h Y => PySem.W.kIn_of Y) ?F (fun K H a ns hl hO hS => PyI.says_sp PyI.E15.says H a ns hl hO hS)
  case F =>
    intro w mg fa h KX G hmg
    refine' PyI.E15.all_mk KX G hmg ?a0 ?l0 ?c0 ?k0 ?a1 ?l1 ?c1 ?k1 ?a2 ?l2 ?c2 ?k2 ?a3 ?l3 ?c3 ?k3 ?a4 ?l4 ?c4 ?k4 ?a5 ?l5 ?c5 ?k5 ?a6 ?l6 ?c6 ?k6 ?a7 ?l7 ?c7 ?k7 ?a8 ?l8 ?c8 ?k8 ?a9 ?l9 ?c9 ?k9 ?a10 ?l10 ?c10 ?k10 ?a11 ?l11 ?c11 ?k11 ?a12 ?l12 ?c12 ?k12 ?a13 ?l13 ?c13 ?k13 ?a14 ?l14 ?c14 ?k14 ?a15 ?l15 ?c15 ?k15 ?a16 ?l16 ?c16 ?k16 ?a17 ?l17 ?c17 ?k17 ?a18 ?l18 ?c18 ?k18 ?a19 ?l19 ?c19 ?k19 ?a20 ?l20 ?c20 ?k20 ?a21 ?l21 ?c21 ?k21 ?a22 ?l22 ?c22 ?k22 ?a23 ?l23 ?c23 ?k23 ?a24 ?l24 ?c24 ?k24 ?a25 ?l25 ?c25 ?k25 ?a26 ?l26 ?c26 ?k26 ?a27 ?l27 ?c27 ?k27 ?a28 ?l28 ?c28 ?k28 ?a29 ?l29 ?c29 ?k29 ?a30 ?l30 ?c30 ?k30 ?a31 ?l31 ?c31 ?k31 ?z0 ?z1 ?z2 ?z3 ?z4 ?z5 ?z6 ?z7 ?z8 ?z9 ?z10 ?z11 ?z12 ?z13 ?z14 ?z15 ?z16 ?z17 ?z18 ?glob0
    (case a0 => k_is); (case l0 => k_is); (case c0 => k_is); (case k0 => k_is)
    (case a1 => k_is); (case l1 => k_is); (case c1 => k_is); (case k1 => k_is)
    (case a2 => k_is); (case l2 => k_is); (case c2 => k_is); (case k2 => k_is)
    (case a3 => k_is); (case l3 => k_is); (case c3 => k_is); (case k3 => k_is)
    (case a4 => k_is); (case l4 => k_is); (case c4 => k_is); (case k4 => k_is)
    (case a5 => k_is); (case l5 => k_is); (case c5 => k_is); (case k5 => k_is)
    (case a6 => k_is); (case l6 => k_is); (case c6 => k_is); (case k6 => k_is)
    (case a7 => k_is); (case l7 => k_is); (case c7 => k_is); (case k7 => k_is)
    (case a8 => k_is); (case l8 => k_is); (case c8 => k_is); (case k8 => k_is)
    (case a9 => k_is); (case l9 => k_is); (case c9 => k_is); (case k9 => k_is)
    (case a10 => k_is); (case l10 => k_is); (case c10 => k_is); (case k10 => k_is)
    (case a11 => k_is); (case l11 => k_is); (case c11 => k_is); (case k11 => k_is)
    (case a12 => k_is); (case l12 => k_is); (case c12 => k_is); (case k12 => k_is)
    (case a13 => k_is); (case l13 => k_is); (case c13 => k_is); (case k13 => k_is)
    (case a14 => k_is); (case l14 => k_is); (case c14 => k_is); (case k14 => k_is)
    (case a15 => k_is); (case l15 => k_is); (case c15 => k_is); (case k15 => k_is)
    (case a16 => k_is); (case l16 => k_is); (case c16 => k_is); (case k16 => k_is)
    (case a17 => k_is); (case l17 => k_is); (case c17 => k_is); (case k17 => k_is)
    (case a18 => k_is); (case l18 => k_is); (case c18 => k_is); (case k18 => k_is)
    (case a19 => k_is); (case l19 => k_is); (case c19 => k_is); (case k19 => k_is)
    (case a20 => k_is); (case l20 => k_is); (case c20 => k_is); (case k20 => k_is)
    (case a21 => k_is); (case l21 => k_is); (case c21 => k_is); (case k21 => k_is)
    (case a22 => k_is); (case l22 => k_is); (case c22 => k_is); (case k22 => k_is)
    (case a23 => k_is); (case l23 => k_is); (case c23 => k_is); (case k23 => k_is)
    (case a24 => k_is); (case l24 => k_is); (case c24 => k_is); (case k24 => k_is)
    (case a25 => k_is); (case l25 => k_is); (case c25 => k_is); (case k25 => k_is)
    (case a26 => k_is); (case l26 => k_is); (case c26 => k_is); (case k26 => k_is)
    (case a27 => k_is); (case l27 => k_is); (case c27 => k_is); (case k27 => k_is)
    (case a28 => k_is); (case l28 => k_is); (case c28 => k_is); (case k28 => k_is)
    (case a29 => k_is); (case l29 => k_is); (case c29 => k_is); (case k29 => k_is)
    (case a30 => k_is); (case l30 => k_is); (case c30 => k_is); (case k30 => k_is)
    (case a31 => k_is); (case l31 => k_is); (case c31 => k_is); (case k31 => k_is)
    (case z0 => k_is); (case z1 => k_is); (case z2 => k_is); (case z3 => k_is)
    (case z4 => k_is); (case z5 => k_is); (case z6 => k_is); (case z7 => k_is)
    (case z8 => k_is); (case z9 => k_is); (case z10 => k_is); (case z11 => k_is)
    (case z12 => k_is); (case z13 => k_is); (case z14 => k_is); (case z15 => k_is)
    (case z16 => k_is); (case z17 => k_is); (case z18 => k_is); (case glob0 => k_is)

