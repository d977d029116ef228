import PyProof.Rows.All
import HandS.ForMost
import HandS.Defaults
import HandS.Deep
import HandS.TupAny
import HandS.Zip
import HandS.Walk
import HandS.Conv
import HandS.TupLe
import KE.SortData
import KE.DataCmp
import HandS.Lambda
import KE.OsArith
import HandS.WideBits
import HandS.Text
import HandS.Style
import HandS.IsInst
import HandS.Star
import HandS.Ends
import HandS.More
import HandS.SortInts
import KE.SortKeyHeap
import HandS.SortKw
import PyProof.ReprRoads
import PyProof.ReprLen
import HandS.SetFor
import HandS.Strs
import KE.KStateDown
import HandS.Words
import HandS.WordsExc
import HandS.Head0
import HandS.Head1
import HandS.Head2
import HandS.HeadEnd
import HandS.HeadHook1
import HandS.HeadHook2
import HandS.HeadHook4
import HandS.EndTab
import PySem.Challenge.RW_contendings_k40_whole_ground_by_steps_an
set_option Elab.async false
set_option linter.all false
set_option maxRecDepth 100000
set_option maxHeartbeats 0
set_option autoImplicit false
/-! MP: an evaluator for a small Python, over pure values. Own work. -/
namespace MP

/-- set: a list of the text's own part, or one handed in: never changed -/
inductive PV where
  | non
  | bl (b : Bool)
  | int (i : Int)
  | str (s : List Nat)
  | tup (xs : List PV)
  | lst (xs : List PV)
  | set (xs : List PV)
  | dic (ks vs : List PV)
  | obj (c : Nat) (ks : List Nat) (vs : List PV)
  | ref (n : Nat)
  | fn (f : Nat)

mutual
def PV.beq : PV → PV → Bool
  | .non, .non => true
  | .bl a, .bl b => a == b
  | .int a, .int b => a == b
  | .str a, .str b => a == b
  | .tup a, .tup b => PV.beqs a b
  | .lst a, .lst b => PV.beqs a b
  | .set a, .set b => PV.beqs a b
  | .dic a b, .dic c d => PV.beqs a c && PV.beqs b d
  | .obj c ks vs, .obj d ls ws => c == d && ks == ls && PV.beqs vs ws
  | .ref a, .ref b => a == b
  | .fn a, .fn b => a == b
  | _, _ => false
def PV.beqs : List PV → List PV → Bool
  | [], [] => true
  | x :: xs, y :: ys => PV.beq x y && PV.beqs xs ys
  | _, _ => false
end

mutual
theorem PV.beq_eq : ∀ (a b : PV), PV.beq a b = true → a = b
  | .non, b, h => by cases b <;> simp_all [PV.beq]
  | .bl a, b, h => by cases b <;> simp_all [PV.beq]
  | .int a, b, h => by cases b <;> simp_all [PV.beq]
  | .str a, b, h => by cases b <;> simp_all [PV.beq]
  | .tup a, b, h => by
    cases b <;> simp [PV.beq] at h
    exact congrArg _ (PV.beqs_eq _ _ h)
  | .lst a, b, h => by
    cases b <;> simp [PV.beq] at h
    exact congrArg _ (PV.beqs_eq _ _ h)
  | .set a, b, h => by
    cases b <;> simp [PV.beq] at h
    exact congrArg _ (PV.beqs_eq _ _ h)
  | .dic a b', b, h => by
    cases b <;> simp [PV.beq] at h
    rw [PV.beqs_eq _ _ h.1, PV.beqs_eq _ _ h.2]
  | .obj c ks vs, b, h => by
    cases b <;> simp [PV.beq] at h
    rw [h.1.1, h.1.2, PV.beqs_eq _ _ h.2]
  | .ref a, b, h => by cases b <;> simp_all [PV.beq]
  | .fn a, b, h => by cases b <;> simp_all [PV.beq]
theorem PV.beqs_eq : ∀ (a b : List PV), PV.beqs a b = true → a = b
  | [], b, h => by cases b <;> simp_all [PV.beqs]
  | x :: xs, b, h => by
    cases b with
    | nil => simp [PV.beqs] at h
    | cons y ys =>
      simp [PV.beqs] at h
      rw [PV.beq_eq x y h.1, PV.beqs_eq xs ys h.2]
end
mutual
theorem PV.beq_refl : ∀ a : PV, PV.beq a a = true
  | .non => rfl
  | .bl _ => by simp [PV.beq]
  | .int _ => by simp [PV.beq]
  | .str _ => by simp [PV.beq]
  | .tup a => by simp [PV.beq, PV.beqs_refl a]
  | .lst a => by simp [PV.beq, PV.beqs_refl a]
  | .set a => by simp [PV.beq, PV.beqs_refl a]
  | .dic a b => by simp [PV.beq, PV.beqs_refl a, PV.beqs_refl b]
  | .obj _ _ vs => by simp [PV.beq, PV.beqs_refl vs]
  | .ref _ => by simp [PV.beq]
  | .fn _ => by simp [PV.beq]
theorem PV.beqs_refl : ∀ a : List PV, PV.beqs a a = true
  | [] => rfl
  | x :: xs => by simp [PV.beqs, PV.beq_refl x, PV.beqs_refl xs]
end
instance : DecidableEq PV := fun a b => if h : PV.beq a b = true then .isTrue (PV.beq_eq a b h) else .isFalse fun e => h (e ▸ PV.beq_refl a)

inductive MO where
  | lst (xs : List PV)
  | dic (ks vs : List PV)
  | ins (c : Nat) (ks : List Nat) (vs : List PV)
  /-- the t-th def's table of code objects -/
  | tbl (t : Nat)
deriving DecidableEq

abbrev Store := List MO
abbrev Env := List (Option PV)

/-! ### outcomes -/
inductive Res (α : Type) where
  | ok (a : α) (st : Store)
  | exc (e : PV) (st : Store)
  | bad
def Res.bind {α β : Type} (r : Res α) (f : α → Store → Res β) : Res β := match r with
  | .ok a st => f a st
  | .exc e st => .exc e st
  | .bad => .bad
@[simp] theorem Res.bind_ok {α β : Type} (a : α) (st : Store) (f : α → Store → Res β) : (Res.ok a st).bind f = f a st := rfl
@[simp] theorem Res.bind_exc {α β : Type} (a : PV) (st : Store) (f : α → Store → Res β) : (Res.exc a st).bind f = .exc a st := rfl
@[simp] theorem Res.bind_bad {α β : Type} (f : α → Store → Res β) : (Res.bad : Res α).bind f = .bad := rfl
theorem Res.bind_eq_ok {α β : Type} {r : Res α} {f : α → Store → Res β} {b : β} {st' : Store} (h : r.bind f = .ok b st') : ∃ a st1, r = .ok a st1 ∧ f a st1 = .ok b st' := by
  cases r with
  | ok a st => exact ⟨a, st, rfl, h⟩
  | exc e st => cases h
  | bad => cases h
def Res.opt {α : Type} (o : Option α) (st : Store) : Res α := match o with
  | some a => .ok a st
  | none => .bad
@[simp] theorem Res.opt_some {α : Type} (a : α) (st : Store) : Res.opt (some a) st = .ok a st := rfl
@[simp] theorem Res.opt_none {α : Type} (st : Store) : (Res.opt none st : Res α) = .bad := rfl
theorem Res.opt_eq_ok {α : Type} {o : Option α} {st st' : Store} {a : α} (h : Res.opt o st = .ok a st') : o = some a ∧ st' = st := by
  cases o with
  | none => cases h
  | some b => cases h; exact ⟨rfl, rfl⟩

/-! ### equality and order of data -/
def b2i (b : Bool) : Int := if b then 1 else 0
mutual
/-- none of it a reference, a set, a dict, an instance, a def -/
def PV.isD : PV → Bool
  | .non | .bl _ | .int _ => true
  | .str s => s.all fun c => decide (c < 1114112)
  | .tup xs | .lst xs => PV.isDs xs
  | _ => false
def PV.isDs : List PV → Bool
  | [] => true
  | x :: xs => PV.isD x && PV.isDs xs
end
mutual
/-- Python's == of data -/
def PV.eqv : PV → PV → Bool
  | .non, .non => true
  | .bl a, .bl b => a == b
  | .bl a, .int j => b2i a == j
  | .int i, .bl b => i == b2i b
  | .int i, .int j => i == j
  | .str x, .str y => x == y
  | .lst xs, .lst ys => PV.eqvs xs ys
  | .tup xs, .tup ys => PV.eqvs xs ys
  | _, _ => false
def PV.eqvs : List PV → List PV → Bool
  | [], [] => true
  | x :: xs, y :: ys => PV.eqv x y && PV.eqvs xs ys
  | _, _ => false
end
mutual
/-- data that Python compares place by place -/
def PV.alike : PV → PV → Bool
  | .non, .non => true
  | .bl _, .bl _ => true
  | .int _, .int _ => true
  | .str _, .str _ => true
  | .lst xs, .lst ys => PV.alikes xs ys
  | .tup xs, .tup ys => PV.alikes xs ys
  | _, _ => false
def PV.alikes : List PV → List PV → Bool
  | x :: xs, y :: ys => PV.alike x y && PV.alikes xs ys
  | _, _ => true
end
def ltNats : List Nat → List Nat → Bool
  | [], [] => false
  | [], _ :: _ => true
  | _ :: _, [] => false
  | x :: xs, y :: ys => if x = y then ltNats xs ys else decide (x < y)
mutual
/-- Python's < of data that are alike -/
def PV.lt : PV → PV → Bool
  | .bl a, .bl b => !a && b
  | .int a, .int b => decide (a < b)
  | .str a, .str b => ltNats a b
  | .tup a, .tup b => PV.lts a b
  | .lst a, .lst b => PV.lts a b
  | _, _ => false
def PV.lts : List PV → List PV → Bool
  | [], [] => false
  | [], _ :: _ => true
  | _ :: _, [] => false
  | x :: xs, y :: ys => if PV.eqv x y then PV.lts xs ys else PV.lt x y
end
def PV.depth0 : Nat → PV → Bool
  | _, .non | _, .bl _ | _, .int _ | _, .str _ => true
  | 0, _ => false
  | n + 1, .tup xs => xs.all (PV.depth0 n)
  | n + 1, .lst xs => xs.all (PV.depth0 n)
  | _, _ => false

/-- sorted, those that are not less stay in their order -/
def sortBy {α : Type} (lt : α → α → Bool) (xs : List α) : List α := xs.mergeSort fun a b => !lt b a

/-! ### the program's form -/
inductive BOp where | add | sub | mul | fdiv | mod | band | bor | bxor | shl | shr | pow
deriving DecidableEq
inductive COp where | eq | ne | lt | le | gt | ge | isin | notin | is | isnot
deriving DecidableEq
/-- built-ins of one argument, handed a value -/
inductive P1 where | len | tuple | list | sum | any | all | sorted | set | abs | int | bool | str | repr | dict | min | max
deriving DecidableEq
inductive P2 where | max | min | divmod
deriving DecidableEq
/-- types, for isinstance -/
inductive Ty where | none | int | str | tuple | bool | list | dict | cls (c : Nat)
deriving DecidableEq

inductive IE where
  | nil
  | cons (e r : IE)
  | star (e r : IE)
  | var (i : Nat)
  | con (v : PV)
  | tup (es : IE)
  | lst (es : IE)
  | nw (e : IE)
  | bin (op : BOp) (a b : IE)
  | cmp (op : COp) (a b : IE)
  | chn (op op' : COp) (a b c : IE)
  | and (a b : IE)
  | or (a b : IE)
  | not (a : IE)
  | neg (a : IE)
  | ite (c a b : IE)
  | idx (a i : IE)
  | slc (a lo hi : IE)
  | call (f : Nat) (es : IE)
  | callk (f : Nat) (perm : List Nat) (es : IE)
  | make (c : Nat) (es : IE)
  | meth (m : Nat) (o es : IE)
  | fld (k : Nat) (o : IE)
  | pr1 (p : P1) (a : IE)
  | pr2 (p : P2) (a b : IE)
  | isi (a : IE) (ts : List Ty)
  | comp (tg it cond elt : IE)
  | comp2 (tg it cond tg2 it2 cond2 elt : IE)
  | sortk (t : Nat) (a key : IE)
  | rng (lo hi : IE)
  | enm (a : IE)
  | zip (a b : IE)
  | append (o e : IE)
  | extend (o e : IE)
  | pop (o : IE)
  | popat (o e : IE)
  | insert (o i e : IE)
  | index (o e : IE)
  | rpr (a : IE)
  | join (o e : IE)
  | get (o e : IE)

inductive IS where
  | nil
  | cons (s r : IS)
  | asg (t e : IE)
  | exp (e : IE)
  | ret (e : IE)
  | iff (c : IE) (a b : IS)
  | whl (n : Nat) (c : IE) (b : IS)
  | fors (t it : IE) (b : IS)
  | pass
  | rse (e : IE)

structure Fun where
  np : Nat
  nl : Nat
  gc : Bool
  body : IS
structure Cls where
  init : Nat
  frz : Bool
  meths : List (Nat × Nat)
structure Prog where
  funs : Nat → Option Fun
  cls : Nat → Option Cls
  /-- what repr says -/
  rpr : PV → Option (List Nat) := fun _ => none

/-! ### values by operations -/
def lim : Nat := 16777216
/-- a mutable list as it stands -/
def der (st : Store) : PV → PV
  | .ref n => match st[n]? with
    | some (.lst xs) => .lst xs
    | some (.dic ks vs) => .dic ks vs
    | _ => .ref n
  | v => v
def i64 : Int := 18446744073709551616
def i62 : Int := 4611686018427387904
def seqIx (n : Nat) (i : Int) : Option Nat := if 0 ≤ i then (if i < n then some i.toNat else none) else if -(n : Int) ≤ i then some (i + n).toNat else none
/-- where a slice's end lies -/
def cutIx (n d : Nat) : Option Int → Nat
  | none => d
  | some i => if i < 0 then (i + n).toNat else min i.toNat n
def cut {α : Type} (xs : List α) (lo hi : Option Int) : List α := (xs.drop (cutIx xs.length 0 lo)).take (cutIx xs.length xs.length hi - cutIx xs.length 0 lo)
def binop : BOp → PV → PV → Option PV
  | .add, .int i, .int j => some (.int (i + j))
  | .add, .str x, .str y => if x.length + y.length ≤ lim then some (.str (x ++ y)) else none
  | .add, .tup x, .tup y => if x.length + y.length ≤ lim then some (.tup (x ++ y)) else none
  | .add, .lst x, .lst y => if x.length + y.length ≤ lim then some (.lst (x ++ y)) else none
  | .add, .lst x, .set y => if x.length + y.length ≤ lim then some (.lst (x ++ y)) else none
  | .sub, .int i, .int j => some (.int (i - j))
  | .mul, .int i, .int j => if (-i64 < i ∧ i < i64) ∨ (-i64 < j ∧ j < i64) then some (.int (i * j)) else none
  | .mul, .lst x, .int k => if -i62 ≤ k ∧ k < i62 ∧ x.length * k.toNat ≤ lim then some (.lst (List.replicate k.toNat x).flatten) else none
  | .fdiv, .int i, .int j => if 0 < j ∧ j < i64 then some (.int (i / j)) else none
  | .mod, .int i, .int j => if 0 < j then some (.int (i % j)) else none
  | .band, .int i, .int j => if 0 ≤ i ∧ 0 ≤ j then some (.int ((i.toNat &&& j.toNat : Nat) : Int)) else none
  | .bor, .int i, .int j => if 0 ≤ i ∧ 0 ≤ j then some (.int ((i.toNat ||| j.toNat : Nat) : Int)) else none
  | .bxor, .int i, .int j => if 0 ≤ i ∧ 0 ≤ j then some (.int ((i.toNat ^^^ j.toNat : Nat) : Int)) else none
  | .shl, .int i, .int j => if 0 ≤ j ∧ j ≤ 1000000 ∧ (-i64 < i ∧ i < i64) then some (.int (i * 2 ^ j.toNat)) else none
  | .shr, .int i, .int j => if 0 ≤ j then some (.int (i / 2 ^ j.toNat)) else none
  | .pow, .int i, .int j => if 0 ≤ j ∧ j ≤ 1000000 ∧ (-i64 < i ∧ i < i64) then some (.int (i ^ j.toNat)) else none
  | _, _, _ => none
def depthOk (v : PV) : Bool := PV.isD v && PV.depth0 60 v
def ltOk (x y : PV) : Bool := depthOk x && depthOk y && PV.alike x y && !PV.beq x .non
def cmpop : COp → PV → PV → Option Bool
  | .eq, .str x, .str y => some (x == y)
  | .eq, .int x, .int y => some (x == y)
  | .eq, x, y => if depthOk x && depthOk y then some (PV.eqv x y) else none
  | .ne, .str x, .str y => some (x != y)
  | .ne, .int x, .int y => some (x != y)
  | .ne, x, y => if depthOk x && depthOk y then some (!PV.eqv x y) else none
  | .lt, x, y => if ltOk x y then some (PV.lt x y) else none
  | .gt, x, y => if ltOk x y then some (PV.lt y x) else none
  | .le, x, y => if ltOk x y then some (!PV.lt y x) else none
  | .ge, x, y => if ltOk x y then some (!PV.lt x y) else none
  | .isin, x, .tup ys => if depthOk x && depthOk (.tup ys) then some (ys.any fun y => PV.eqv y x) else none
  | .isin, x, .lst ys => if depthOk x && depthOk (.lst ys) then some (ys.any fun y => PV.eqv y x) else none
  | .isin, .str [c], .str z => some (decide (c ∈ z))
  | .notin, x, .tup ys => if depthOk x && depthOk (.tup ys) then some (!ys.any fun y => PV.eqv y x) else none
  | .notin, x, .lst ys => if depthOk x && depthOk (.lst ys) then some (!ys.any fun y => PV.eqv y x) else none
  | .notin, .str [c], .str z => some (!decide (c ∈ z))
  | .is, x, .non => some (PV.beq x .non)
  | .isnot, x, .non => some (!PV.beq x .non)
  | .is, .bl a, .bl b => some (a == b)
  | .isnot, .bl a, .bl b => some (a != b)
  | _, _, _ => none
/-- the items of what can be walked -/
def itemsOf : PV → Option (List PV)
  | .tup xs => some xs
  | .lst xs => some xs
  | .set xs => some xs
  | .str s => if s.length ≤ 1000000 then some (s.map fun c => .str [c]) else none
  | _ => none
def seqOf : PV → Option (List PV)
  | .tup xs => some xs
  | .lst xs => some xs
  | _ => none
def partOf : IE → PV → Option (Option Int)
  | .con .non, _ => some none
  | _, .int i => some (some i)
  | _, _ => none
def allInts : List PV → Option (List Int)
  | [] => some []
  | .int i :: r => (allInts r).map (i :: ·)
  | _ => none
def allBls : List PV → Option (List Bool)
  | [] => some []
  | .bl b :: r => (allBls r).map (b :: ·)
  | _ => none
def dedup : List PV → List PV → List PV
  | acc, [] => acc
  | acc, x :: xs => if acc.any (fun y => PV.eqv y x) then dedup acc xs else dedup (acc ++ [x]) xs
def isTupC : PV → Bool
  | .tup (_ :: _) => true
  | _ => false
def isTup0 : PV → Bool
  | .tup _ => true
  | _ => false
def sortOk (xs : List PV) : Bool := xs.all (fun x => depthOk x && xs.all fun y => PV.alike x y) && (xs.all isTupC || xs.all fun x => !PV.beq x .non && !isTup0 x)
/-- into a rising list, once -/
def insI (x : Int) : List Int → List Int
  | [] => [x]
  | y :: ys => if x < y then x :: y :: ys else if x = y then y :: ys else y :: insI x ys
def setI (ns : List Int) : List Int := ns.foldr insI []
def prim1 : P1 → PV → Option PV
  | .len, .tup xs => some (.int xs.length)
  | .len, .lst xs => some (.int xs.length)
  | .len, .set xs => some (.int xs.length)
  | .tuple, .lst xs => some (.tup xs)
  | .tuple, .tup xs => some (.tup xs)
  | .list, .lst xs => some (.lst xs)
  | .list, .tup xs => some (.lst xs)
  | .sum, .lst xs => (allInts xs).map fun ns => .int ns.sum
  | .any, .lst xs => (allBls xs).map fun bs => .bl (bs.any id)
  | .all, .lst xs => (allBls xs).map fun bs => .bl (bs.all id)
  | .sorted, .lst xs => if sortOk xs then some (.lst (sortBy PV.lt xs)) else none
  | .set, .tup xs => (allInts xs).bind fun ns => if ns.length < 64 then some (.lst ((setI ns).map .int)) else none
  | .set, .lst xs => (allInts xs).bind fun ns => if ns.length < 64 then some (.lst ((setI ns).map .int)) else none
  | .abs, .int i => some (.int (if i < 0 then -i else i))
  | .int, .int i => some (.int i)
  | .int, .bl b => some (.int (b2i b))
  | _, _ => none
def prim2 : P2 → PV → PV → Option PV
  | .max, .int i, .int j => some (.int (if j > i then j else i))
  | .min, .int i, .int j => some (.int (if j < i then j else i))
  | .divmod, .int i, .int j => if 0 < j ∧ j < 1073741824 then some (.tup [.int (i / j), .int (i % j)]) else none
  | _, _, _ => none
def tyOf (st : Store) : PV → Option Ty
  | .non => some .none
  | .bl _ => some .bool
  | .int _ => some .int
  | .str _ => some .str
  | .tup _ => some .tuple
  | .lst _ => some .list
  | .set _ => some .list
  | .ref n => match st[n]? with
    | some (.lst _) => some .list
    | _ => none
  | _ => none
def isiOne (t want : Ty) : Bool := t == want || (t == .bool && want == .int)
def index1 : PV → PV → Option PV
  | .tup xs, .int i => (seqIx xs.length i).bind fun j => xs[j]?
  | .lst xs, .int i => (seqIx xs.length i).bind fun j => xs[j]?
  | .set xs, .int i => (seqIx xs.length i).bind fun j => xs[j]?
  | _, _ => none
def optInt : PV → Option (Option Int)
  | .non => some none
  | .int i => some (some i)
  | _ => none
def slice1 : PV → Option Int → Option Int → Option PV
  | .tup xs, lo, hi => some (.tup (cut xs lo hi))
  | .lst xs, lo, hi => some (.lst (cut xs lo hi))
  | .set xs, lo, hi => some (.lst (cut xs lo hi))
  | _, _, _ => none
def lookK (k : Nat) : List Nat → List PV → Option PV
  | a :: ks, v :: vs => if a = k then some v else lookK k ks vs
  | _, _ => none
def putK (k : Nat) (x : PV) : List Nat → List PV → List Nat × List PV
  | a :: ks, v :: vs => if a = k then (a :: ks, x :: vs) else ((a :: (putK k x ks vs).1), (v :: (putK k x ks vs).2))
  | _, _ => ([k], [x])
def field1 (st : Store) (k : Nat) : PV → Option PV
  | .obj _ ks vs => lookK k ks vs
  | .ref n => match st[n]? with
    | some (.ins _ ks vs) => lookK k ks vs
    | _ => none
  | _ => none
def clsOf (st : Store) : PV → Option Nat
  | .obj c _ _ => some c
  | .ref n => match st[n]? with
    | some (.ins c _ _) => some c
    | _ => none
  | _ => none
/-- a place of a mutable list set -/
def setIdx (st : Store) : PV → PV → PV → Option Store
  | .ref n, .int i, v => match st[n]? with
    | some (.lst xs) => (seqIx xs.length i).map fun j => st.set n (.lst (xs.set j v))
    | _ => none
  | _, _, _ => none
def setFld (st : Store) (k : Nat) : PV → PV → Option Store
  | .ref n, v => match st[n]? with
    | some (.ins c ks vs) => if ks.length < 900 then some (st.set n (.ins c (putK k v ks vs).1 (putK k v ks vs).2)) else none
    | _ => none
  | _, _ => none
/-- the list at n -/
def lstAt (st : Store) : PV → Option (Nat × List PV)
  | .ref n => match st[n]? with
    | some (.lst xs) => some (n, xs)
    | _ => none
  | _ => none

/-! ### what a call leaves -/
mutual
/-- references at k and above become values -/
def thaw (st : Store) (k : Nat) : Nat → PV → Option PV
  | _, .non => some .non
  | _, .bl b => some (.bl b)
  | _, .int i => some (.int i)
  | _, .str s => some (.str s)
  | _, .fn f => some (.fn f)
  | 0, _ => none
  | d + 1, .tup xs => (thaws st k d xs).map .tup
  | d + 1, .lst xs => (thaws st k d xs).map .lst
  | d + 1, .set xs => (thaws st k d xs).map .set
  | d + 1, .obj c ks vs => (thaws st k d vs).map (.obj c ks)
  | d + 1, .ref n => if n < k then some (.ref n) else match st[n]? with
    | some (.lst xs) => (thaws st k d xs).map .lst
    | some (.ins c ks vs) => (thaws st k d vs).map (.obj c ks)
    | _ => none
  | _, _ => none
def thaws (st : Store) (k : Nat) : Nat → List PV → Option (List PV)
  | _, [] => some []
  | 0, _ => none
  | d + 1, x :: xs => (thaw st k d x).bind fun y => (thaws st k d xs).map (y :: ·)
end
def gcAt (st0 : Store) (v : PV) (st : Store) : Res PV :=
  if st.take st0.length = st0 then (match thaw st st0.length 1000000 v with
    | some u => .ok u st0
    | none => .bad) else .bad

inductive Flow where
  | nx (env : Env)
  | rt (v : PV)

/-! ### the evaluator; cf: how defs are called -/
def compL (f : PV → Store → Res (Option PV)) (guard : Store → Bool) : List PV → Store → Res (List PV)
  | [], st => .ok [] st
  | x :: xs, st => (f x st).bind fun o st => if guard st then (compL f guard xs st).bind fun ys st => .ok (match o with
    | some y => y :: ys
    | none => ys) st else .bad
def forL (f : PV → Env → Store → Res Flow) (guard : Store → Bool) : List PV → Env → Store → Res Flow
  | [], env, st => .ok (.nx env) st
  | x :: xs, env, st => (f x env st).bind fun fl st => match fl with
    | .rt v => .ok (.rt v) st
    | .nx env => if guard st then forL f guard xs env st else .bad
def whileL (c : Env → Store → Res Bool) (f : Env → Store → Res Flow) : Nat → Env → Store → Res Flow
  | 0, _, _ => .bad
  | n + 1, env, st => (c env st).bind fun b st => if b then (f env st).bind fun fl st => (match fl with
    | .rt v => .ok (.rt v) st
    | .nx env => whileL c f n env st) else .ok (.nx env) st

/-- a walked value: its items, and what must stand meanwhile -/
def walk (st : Store) (v : PV) : Option (List PV × (Store → Bool)) := match v with
  | .ref n => match st[n]? with
    | some (.lst xs) => some (xs, fun st => decide (st[n]? = some (.lst xs)))
    | _ => none
  | v => (itemsOf v).map fun xs => (xs, fun _ => true)

def asBool : PV → Option Bool
  | .bl b => some b
  | _ => none

/-- an instance: its class, the names of its fields -/
def insOf (st : Store) : PV → Option (Nat × List Nat)
  | .obj c ks _ => some (c, ks)
  | .ref n => match st[n]? with
    | some (.ins c ks _) => some (c, ks)
    | _ => none
  | _ => none
def methOf (P : Prog) (st : Store) (m : Nat) (x : PV) : Option Nat := (insOf st x).bind fun c => if m ∈ c.2 then none else (P.cls c.1).bind fun cl => cl.meths.lookup m
def bindT : IE → PV → Env → Option Env
  | .var i, v, env => if i < env.length then some (env.set i (some v)) else none
  | .tup t, .tup vs, env => bindT t (.lst vs) env
  | .nil, .lst [], env => some env
  | .cons t r, .lst (v :: vs), env => (bindT t v env).bind (bindT r (.lst vs))
  | _, _, _ => none

section
variable (P : Prog) (cf : Nat → List PV → Store → Res PV)

mutual
def evalE : IE → Env → Store → Res PV
  | .var i, env, st => match env[i]? with
    | some (some v) => .ok v st
    | _ => .bad
  | .con v, _, st => .ok v st
  | .tup es, env, st => (evalEs es env st).bind fun vs st => .ok (.tup vs) st
  | .lst es, env, st => (evalEs es env st).bind fun vs st => .ok (.lst vs) st
  | .nw e, env, st => (evalE e env st).bind fun v st => match v with
    | .lst xs => .ok (.ref st.length) (st ++ [.lst xs])
    | _ => .bad
  | .bin op a b, env, st => (evalE a env st).bind fun x st => (evalE b env st).bind fun y st => .opt (binop op (der st x) (der st y)) st
  | .cmp op a b, env, st => (evalE a env st).bind fun x st => (evalE b env st).bind fun y st => (Res.opt (cmpop op (der st x) (der st y)) st).bind fun b st => .ok (.bl b) st
  | .chn op op' a b c, env, st => (evalE a env st).bind fun x st => (evalE b env st).bind fun y st => (Res.opt (cmpop op (der st x) (der st y)) st).bind fun k st =>
      if k then (evalE c env st).bind fun z st => (Res.opt (cmpop op' (der st y) (der st z)) st).bind fun b st => .ok (.bl b) st else .ok (.bl false) st
  | .and a b, env, st => (evalE a env st).bind fun x st => match x with
    | .bl true => evalE b env st
    | .bl false => .ok (.bl false) st
    | _ => .bad
  | .or a b, env, st => (evalE a env st).bind fun x st => match x with
    | .bl false => evalE b env st
    | .bl true => .ok (.bl true) st
    | _ => .bad
  | .not a, env, st => (evalE a env st).bind fun x st => match x with
    | .bl b => .ok (.bl !b) st
    | _ => .bad
  | .neg a, env, st => (evalE a env st).bind fun x st => match x with
    | .int i => .ok (.int (-i)) st
    | _ => .bad
  | .ite c a b, env, st => (evalE c env st).bind fun x st => match x with
    | .bl true => evalE a env st
    | .bl false => evalE b env st
    | _ => .bad
  | .idx a i, env, st => (evalE a env st).bind fun x st => (evalE i env st).bind fun y st => .opt (index1 (der st x) y) st
  | .slc a lo hi, env, st => (evalE a env st).bind fun x st => (evalE lo env st).bind fun l st => (evalE hi env st).bind fun h st =>
      .opt ((partOf lo l).bind fun l => (partOf hi h).bind fun h => slice1 (der st x) l h) st
  | .call f es, env, st => (evalEs es env st).bind fun vs st => cf f vs st
  | .callk f perm es, env, st => (evalEs es env st).bind fun vs st => (Res.opt (perm.mapM fun i => vs[i]?) st).bind fun ws st => cf f ws st
  | .make c es, env, st => (evalEs es env st).bind fun vs st => match P.cls c with
    | none => .bad
    | some cl => (cf cl.init (.ref st.length :: vs) (st ++ [.ins c [] []])).bind fun v st1 => if v = .non then (if cl.frz then gcAt st (.ref st.length) st1 else .ok (.ref st.length) st1) else .bad
  | .meth m o es, env, st => (evalE o env st).bind fun x st => match methOf P st m x with
    | none => .bad
    | some f => (evalEs es env st).bind fun vs st => cf f (x :: vs) st
  | .fld k o, env, st => (evalE o env st).bind fun x st => .opt ((clsOf st x).bind fun c => (P.cls c).bind fun cl => if (cl.meths.lookup k).isSome then none else field1 st k x) st
  | .pr1 p a, env, st => (evalE a env st).bind fun x st => .opt (prim1 p (der st x)) st
  | .rpr a, env, st => (evalE a env st).bind fun x st => .opt ((P.rpr (der st x)).map .str) st
  | .pr2 p a b, env, st => (evalE a env st).bind fun x st => (evalE b env st).bind fun y st => .opt (prim2 p x y) st
  | .isi a ts, env, st => (evalE a env st).bind fun x st => match tyOf st x with
    | some t => .ok (.bl (ts.any (isiOne t))) st
    | none => .bad
  | .comp tg it cond elt, env, st => (evalE it env st).bind fun wv st => (Res.opt (walk st wv) st).bind fun w st => (compL (fun x st => match bindT tg x env with
      | none => .bad
      | some env => (evalE cond env st).bind fun k st => match k with
        | .bl true => (evalE elt env st).bind fun y st => .ok (some y) st
        | .bl false => .ok none st
        | _ => .bad) w.2 w.1 st).bind fun ys st => .ok (.lst ys) st
  | .sortk t a key, env, st => (evalE a env st).bind fun x st => match der st x with
    | .lst xs => if st[t]? = some (.tbl t) then (compL (fun x st => (evalE key [some x] st).bind fun y st' => if st' = st then .ok (some y) st else .bad) (fun _ => true) xs st).bind fun ks st =>
      (if sortOk ks ∧ ks.length = xs.length then .ok (.lst ((sortBy (fun p q => PV.lt p.1 q.1) (ks.zip xs)).map Prod.snd)) st else .bad) else .bad
    | _ => .bad
  | .append o e, env, st => (evalE o env st).bind fun x st => if (lstAt st x).isSome then (evalE e env st).bind fun y st => (match lstAt st x with
    | some (n, xs) => if xs.length < lim then .ok .non (st.set n (.lst (xs ++ [y]))) else .bad
    | none => .bad) else .bad
  | .insert o i e, env, st => (evalE o env st).bind fun x st => if (lstAt st x).isSome then (evalE i env st).bind fun k st => (evalE e env st).bind fun y st => (match lstAt st x, k with
    | some (n, xs), .int j => if xs.length < lim ∧ 0 ≤ j ∧ j < i62 then .ok .non (st.set n (.lst (xs.take j.toNat ++ [y] ++ xs.drop j.toNat))) else .bad
    | _, _ => .bad) else .bad
  | .extend o e, env, st => (evalE o env st).bind fun x st => if (lstAt st x).isSome then (evalE e env st).bind fun y st => (match lstAt st x, der st y with
    | some (n, xs), .lst ys => if xs.length + ys.length ≤ lim then .ok .non (st.set n (.lst (xs ++ ys))) else .bad
    | _, _ => .bad) else .bad
  | .pop o, env, st => (evalE o env st).bind fun x st => match lstAt st x with
    | some (n, xs) => (match xs.getLast? with
      | some y => .ok y (st.set n (.lst xs.dropLast))
      | none => .bad)
    | none => .bad
  | .rng lo hi, env, st => (evalE lo env st).bind fun x st => (evalE hi env st).bind fun y st => match x, y with
    | .int a, .int b => if -i62 ≤ a ∧ a < i62 ∧ -i62 ≤ b ∧ b < i62 ∧ b - a ≤ 1000000 then .ok (.lst ((List.range (b - a).toNat).map fun i => PV.int (a + (i : Nat)))) st else .bad
    | _, _ => .bad
  | .enm a, env, st => (evalE a env st).bind fun x st => match x with
    | .lst xs => .ok (.lst ((List.range xs.length).zipWith (fun i x => PV.tup [.int (i : Nat), x]) xs)) st
    | .tup xs => .ok (.lst ((List.range xs.length).zipWith (fun i x => PV.tup [.int (i : Nat), x]) xs)) st
    | _ => .bad
  | .zip a b, env, st => (evalE a env st).bind fun x st => (evalE b env st).bind fun y st => match x, y with
    | .lst xs, .lst ys => .ok (.lst (xs.zipWith (fun x y => PV.tup [x, y]) ys)) st
    | .tup xs, .tup ys => .ok (.lst (xs.zipWith (fun x y => PV.tup [x, y]) ys)) st
    | _, _ => .bad
  | _, _, _ => .bad
def evalEs : IE → Env → Store → Res (List PV)
  | .nil, _, st => .ok [] st
  | .cons e r, env, st => (evalE e env st).bind fun v st => (evalEs r env st).bind fun vs st => .ok (v :: vs) st
  | .star e r, env, st => (evalE e env st).bind fun v st => match seqOf (der st v) with
    | none => .bad
    | some xs => (evalEs r env st).bind fun vs st => if xs.length + vs.length ≤ 1000000 then .ok (xs ++ vs) st else .bad
  | _, _, _ => .bad
end

def assign : IE → PV → Env → Store → Res Env
  | .var i, v, env, st => if i < env.length then .ok (env.set i (some v)) st else .bad
  | .idx o i, v, env, st => (evalE P cf o env st).bind fun x st => (evalE P cf i env st).bind fun y st => match setIdx st x y v with
    | some st => .ok env st
    | none => .bad
  | .fld k o, v, env, st => (evalE P cf o env st).bind fun x st => match (clsOf st x).bind fun c => (P.cls c).bind fun cl => if (cl.meths.lookup k).isSome then none else setFld st k x v with
    | some st => .ok env st
    | none => .bad
  | .tup t, .tup vs, env, st => assign t (.lst vs) env st
  | .nil, .lst [], env, st => .ok env st
  | .cons t r, .lst (v :: vs), env, st => (assign t v env st).bind fun env st => assign r (.lst vs) env st
  | _, _, _, _ => .bad

def exec : IS → Env → Store → Res Flow
  | .nil, env, st => .ok (.nx env) st
  | .pass, env, st => .ok (.nx env) st
  | .cons s r, env, st => (exec s env st).bind fun fl st => match fl with
    | .nx env => exec r env st
    | .rt v => .ok (.rt v) st
  | .asg t e, env, st => (evalE P cf e env st).bind fun v st => (assign P cf t v env st).bind fun env st => .ok (.nx env) st
  | .exp e, env, st => (evalE P cf e env st).bind fun _ st => .ok (.nx env) st
  | .ret e, env, st => (evalE P cf e env st).bind fun v st => .ok (.rt v) st
  | .iff c a b, env, st => (evalE P cf c env st).bind fun x st => match x with
    | .bl true => exec a env st
    | .bl false => exec b env st
    | _ => .bad
  | .whl n c b, env, st => whileL (fun env st => (evalE P cf c env st).bind fun x st => .opt (asBool x) st) (fun env st => exec b env st) n env st
  | .fors t it b, env, st => (evalE P cf it env st).bind fun wv st => (Res.opt (walk st wv) st).bind fun w st => forL (fun x env st => match bindT t x env with
      | none => .bad
      | some env => exec b env st) w.2 w.1 env st
  | .rse e, env, st => (evalE P cf e env st).bind fun v st => .exc v st
end

/-- a def called, so many calls deep -/
def callF (P : Prog) : Nat → Nat → List PV → Store → Res PV
  | 0, _, _, _ => .bad
  | n + 1, f, vs, st => match P.funs f with
    | none => .bad
    | some d => if vs.length = d.np then (exec P (callF P n) d.body (vs.map some ++ List.replicate (d.nl - d.np) none) st).bind fun fl st1 => match fl with
      | .nx _ => if d.gc then gcAt st .non st1 else .ok .non st1
      | .rt v => if d.gc then gcAt st v st1 else .ok v st1
      else .bad
end MP
namespace MP
open PySem PySem.Spec PyProof.Rows L2

abbrev Fg := PySem.W.Frag
/-! ### what a value stands for -/
/-- a list, a tuple that nobody changes: not one of the mutable objects at μ, or of the written part -/
def SqLm (h : List Addr) (H : Hp) (μ : List Addr) (a : Addr) (xs : List V) : Prop := Rd H a (.lst xs) ∧ a ∉ μ ∧ a ∉ h
def SqTm (K : Fg) (h : List Addr) (H : Hp) (μ : List Addr) (a : Addr) (xs : List V) : Prop :=
  (Rd H a (.tup xs) ∧ a ∉ μ ∧ a ∉ h) ∨
    ∃ (o : Obj) (its : Array Value) (n : Nat), K.lookup a = some o ∧ o.cls = .type "tuple" ∧ o.data = .seq its n ∧ its.size ≤ sizeLine ∧ Vals xs its.toList
def SqSm (K : Fg) (h : List Addr) (H : Hp) (μ : List Addr) (a : Addr) (xs : List V) : Prop :=
  (Rd H a (.lst xs) ∧ a ∉ μ ∧ a ∉ h) ∨
    ∃ (its : Array Value) (n : Nat), K.lookup a = some { cls := .type "list", data := .seq its n } ∧ its.size ≤ sizeLine ∧ Vals xs its.toList
theorem SqSm.sq {K : Fg} {l : List Addr} {H : Hp} {μ : List Addr} {a : Addr} {xs : List V} (h : SqSm K l H μ a xs) : SqL K H a xs := h.imp (fun h => h.1) fun ⟨its, n, e, z, v⟩ => ⟨_, its, n, e, rfl, rfl, rfl, z, v⟩
theorem SqLm.sq {K : Fg} {l : List Addr} {H : Hp} {μ : List Addr} {a : Addr} {xs : List V} (h : SqLm l H μ a xs) : SqL K H a xs := .inl h.1
theorem SqTm.sq {K : Fg} {l : List Addr} {H : Hp} {μ : List Addr} {a : Addr} {xs : List V} (h : SqTm K l H μ a xs) : SqT K H a xs := h.imp (fun h => h.1) id

/-- where classes and fields stand -/
structure Lay where
  K : Fg
  cls : Nat → Addr
  nm : Nat → Str
  fna : Nat → Addr
  hid : List Addr := []
  /-- tables of code objects -/
  tab : Nat → Addr := fun _ => 0
  tq : Nat → Str := fun _ => Str.empty

mutual
def Rep (L : Lay) (H : Hp) (μ : List Addr) : PV → V → Prop
  | .non, x => x = .non
  | .bl b, x => x = .bl b
  | .int i, x => x = .int i
  | .str s, x => x = .str ⟨s.toArray⟩
  | .tup xs, x => ∃ a vs, x = .ref a ∧ SqTm L.K L.hid H μ a vs ∧ Reps L H μ xs vs
  | .lst xs, x => ∃ a vs, x = .ref a ∧ SqLm L.hid H μ a vs ∧ Reps L H μ xs vs
  | .set xs, x => ∃ a vs, x = .ref a ∧ SqSm L.K L.hid H μ a vs ∧ Reps L H μ xs vs
  | .dic _ _, _ => False
  | .obj c ks vs, x => ∃ a dx ws, x = .ref a ∧ H a = some (.ins (L.cls c) dx ((ks.map L.nm).zip ws)) ∧ a ∉ μ ∧ a ∉ L.hid ∧ ks.length = ws.length ∧ Reps L H μ vs ws
  | .ref n, x => ∃ a, μ[n]? = some a ∧ x = .ref a
  | .fn f, x => x = .ref (L.fna f)
def Reps (L : Lay) (H : Hp) (μ : List Addr) : List PV → List V → Prop
  | [], vs => vs = []
  | x :: xs, vs => ∃ v r, vs = v :: r ∧ Rep L H μ x v ∧ Reps L H μ xs r
end

section
variable {L : Lay} {H H' : Hp} {μ μ' : List Addr}
theorem Reps.nil : Reps L H μ [] [] := by rw [Reps]
theorem Reps.cons {x : PV} {v : V} {xs : List PV} {vs : List V} (h : Rep L H μ x v) (t : Reps L H μ xs vs) : Reps L H μ (x :: xs) (v :: vs) := by
  rw [Reps]; exact ⟨v, vs, rfl, h, t⟩
theorem Reps.of_nil {vs : List V} (h : Reps L H μ [] vs) : vs = [] := by rw [Reps] at h; exact h
theorem Reps.of_cons {x : PV} {xs : List PV} {vs : List V} (h : Reps L H μ (x :: xs) vs) : ∃ v r, vs = v :: r ∧ Rep L H μ x v ∧ Reps L H μ xs r := by rw [Reps] at h; exact h
theorem Reps.length : ∀ {xs : List PV} {vs : List V}, Reps L H μ xs vs → xs.length = vs.length
  | [], vs, h => by rw [h.of_nil]; rfl
  | x :: xs, vs, h => by
    obtain ⟨v, r, rfl, _, t⟩ := h.of_cons
    rw [List.length_cons, List.length_cons, t.length]
theorem Reps.get : ∀ {xs : List PV} {vs : List V} {i : Nat} {x : PV}, Reps L H μ xs vs → xs[i]? = some x → ∃ v, vs[i]? = some v ∧ Rep L H μ x v
  | [], _, _, _, _, e => by simp at e
  | y :: ys, vs, i, x, h, e => by
    obtain ⟨v, r, rfl, h1, t⟩ := h.of_cons
    cases i with
    | zero => simp at e; subst e; exact ⟨v, rfl, h1⟩
    | succ i => simpa using Reps.get t (by simpa using e)
theorem Reps.get' : ∀ {xs : List PV} {vs : List V} {i : Nat} {v : V}, Reps L H μ xs vs → vs[i]? = some v → ∃ x, xs[i]? = some x ∧ Rep L H μ x v
  | [], _, _, _, h, e => by rw [h.of_nil] at e; simp at e
  | y :: ys, vs, i, x, h, e => by
    obtain ⟨v, r, rfl, h1, t⟩ := h.of_cons
    cases i with
    | zero => simp at e; subst e; exact ⟨y, rfl, h1⟩
    | succ i => simpa using Reps.get' t (by simpa using e)
theorem Reps.append : ∀ {xs ys : List PV} {vs ws : List V}, Reps L H μ xs vs → Reps L H μ ys ws → Reps L H μ (xs ++ ys) (vs ++ ws)
  | [], ys, vs, ws, h, t => by rw [h.of_nil]; exact t
  | x :: xs, ys, vs, ws, h, t => by
    obtain ⟨v, r, rfl, h1, h2⟩ := h.of_cons
    exact .cons h1 (Reps.append h2 t)
theorem Reps.take : ∀ (n : Nat) {xs : List PV} {vs : List V}, Reps L H μ xs vs → Reps L H μ (xs.take n) (vs.take n)
  | 0, _, _, _ => by simp; exact .nil
  | n + 1, [], vs, h => by rw [h.of_nil]; exact .nil
  | n + 1, x :: xs, vs, h => by
    obtain ⟨v, r, rfl, h1, h2⟩ := h.of_cons
    exact .cons h1 (Reps.take n h2)
theorem Reps.drop : ∀ (n : Nat) {xs : List PV} {vs : List V}, Reps L H μ xs vs → Reps L H μ (xs.drop n) (vs.drop n)
  | 0, _, _, h => h
  | n + 1, [], vs, h => by rw [h.of_nil]; exact .nil
  | n + 1, x :: xs, vs, h => by
    obtain ⟨v, r, rfl, h1, h2⟩ := h.of_cons
    exact Reps.drop n h2
theorem Reps.set : ∀ (i : Nat) {x : PV} {v : V} {xs : List PV} {vs : List V}, Reps L H μ xs vs → Rep L H μ x v → Reps L H μ (xs.set i x) (vs.set i v)
  | _, _, _, [], vs, h, _ => by rw [h.of_nil]; exact .nil
  | 0, _, _, y :: ys, vs, h, q => by
    obtain ⟨v, r, rfl, h1, h2⟩ := h.of_cons
    exact .cons q h2
  | i + 1, _, _, y :: ys, vs, h, q => by
    obtain ⟨v, r, rfl, h1, h2⟩ := h.of_cons
    exact .cons h1 (Reps.set i h2 q)
theorem Reps.dropLast {xs : List PV} {vs : List V} (h : Reps L H μ xs vs) : Reps L H μ xs.dropLast vs.dropLast := by
  rw [List.dropLast_eq_take, List.dropLast_eq_take, h.length]; exact h.take _
theorem Reps.rep {xs : List PV} {vs : List V} (h : Reps L H μ xs vs) : ∀ k : Nat, Reps L H μ (List.replicate k xs).flatten (List.replicate k vs).flatten
  | 0 => .nil
  | k + 1 => by rw [List.replicate_succ, List.replicate_succ, List.flatten_cons, List.flatten_cons]; exact h.append (Reps.rep h k)
theorem Reps.of_get : ∀ {xs : List PV} {vs : List V}, xs.length = vs.length → (∀ (i : Nat) x v, xs[i]? = some x → vs[i]? = some v → Rep L H μ x v) → Reps L H μ xs vs
  | [], [], _, _ => .nil
  | [], _ :: _, e, _ => by simp at e
  | _ :: _, [], e, _ => by simp at e
  | x :: xs, v :: vs, e, h => .cons (h 0 x v rfl rfl) (Reps.of_get (by simpa using e) fun i y w e1 e2 => h (i + 1) y w (by simpa using e1) (by simpa using e2))

/-! ### what comes later keeps it -/
structure Ext (μ : List Addr) (H : Hp) (μ' : List Addr) (H' : Hp) : Prop where
  fr : ∀ a o, H a = some o → a ∉ μ → H' a = some o
  pre : ∃ l, μ' = μ ++ l
  new : ∀ a ∈ μ', a ∈ μ ∨ H a = none
theorem Ext.refl (μ : List Addr) (H : Hp) : Ext μ H μ H := ⟨fun _ _ e _ => e, ⟨[], by simp⟩, fun _ h => .inl h⟩
theorem Ext.trans {μ1 μ2 μ3 : List Addr} {H1 H2 H3 : Hp} (a : Ext μ1 H1 μ2 H2) (b : Ext μ2 H2 μ3 H3) : Ext μ1 H1 μ3 H3 := by
  refine ⟨fun c o e n => ?_, ?_, fun c hc => ?_⟩
  · refine b.fr c o (a.fr c o e n) fun h => ?_
    rcases a.new c h with z | z
    · exact n z
    · rw [z] at e; cases e
  · obtain ⟨l, rfl⟩ := a.pre
    obtain ⟨l', rfl⟩ := b.pre
    exact ⟨l ++ l', by simp⟩
  · rcases b.new c hc with z | z
    · exact a.new c z
    · by_cases h : c ∈ μ1
      · exact .inl h
      · refine .inr ?_
        cases e : H1 c with
        | none => rfl
        | some o => rw [a.fr c o e h] at z; cases z
theorem Ext.off (E : Ext μ H μ' H') {a : Addr} {o : HO} (e : H a = some o) (n : a ∉ μ) : a ∉ μ' := fun h => by
  rcases E.new a h with z | z
  · exact n z
  · rw [z] at e; cases e
theorem SqLm.ext {l : List Addr} {a : Addr} {xs : List V} (h : SqLm l H μ a xs) (E : Ext μ H μ' H') : SqLm l H' μ' a xs := by
  obtain ⟨h | ⟨o, h⟩, n, m⟩ := h
  · exact ⟨.inl (E.fr _ _ h n), E.off h n, m⟩
  · exact ⟨.inr ⟨o, E.fr _ _ h n⟩, E.off h n, m⟩
theorem SqTm.ext {K : Fg} {l : List Addr} {a : Addr} {xs : List V} (h : SqTm K l H μ a xs) (E : Ext μ H μ' H') : SqTm K l H' μ' a xs := by
  rcases h with ⟨h, n, m⟩ | h
  · rcases h with h | ⟨o, h⟩
    · exact .inl ⟨.inl (E.fr _ _ h n), E.off h n, m⟩
    · exact .inl ⟨.inr ⟨o, E.fr _ _ h n⟩, E.off h n, m⟩
  · exact .inr h
theorem SqSm.ext {K : Fg} {l : List Addr} {a : Addr} {xs : List V} (h : SqSm K l H μ a xs) (E : Ext μ H μ' H') : SqSm K l H' μ' a xs := by
  rcases h with ⟨h, n, m⟩ | h
  · rcases h with h | ⟨o, h⟩
    · exact .inl ⟨.inl (E.fr _ _ h n), E.off h n, m⟩
    · exact .inl ⟨.inr ⟨o, E.fr _ _ h n⟩, E.off h n, m⟩
  · exact .inr h
mutual
theorem Rep.ext (E : Ext μ H μ' H') : ∀ {v : PV} {x : V}, Rep L H μ v x → Rep L H' μ' v x
  | .non, x, h => by rw [Rep] at h ⊢; exact h
  | .bl _, x, h => by rw [Rep] at h ⊢; exact h
  | .int _, x, h => by rw [Rep] at h ⊢; exact h
  | .str _, x, h => by rw [Rep] at h ⊢; exact h
  | .tup xs, x, h => by
    rw [Rep] at h ⊢
    obtain ⟨a, vs, e, s, r⟩ := h
    exact ⟨a, vs, e, s.ext E, Reps.ext E r⟩
  | .lst xs, x, h => by
    rw [Rep] at h ⊢
    obtain ⟨a, vs, e, s, r⟩ := h
    exact ⟨a, vs, e, s.ext E, Reps.ext E r⟩
  | .set xs, x, h => by
    rw [Rep] at h ⊢
    obtain ⟨a, vs, e, s, r⟩ := h
    exact ⟨a, vs, e, s.ext E, Reps.ext E r⟩
  | .dic _ _, x, h => by rw [Rep] at h; exact h.elim
  | .obj c ks vs, x, h => by
    rw [Rep] at h ⊢
    obtain ⟨a, dx, ws, e, s, n, m, l, r⟩ := h
    exact ⟨a, dx, ws, e, E.fr _ _ s n, E.off s n, m, l, Reps.ext E r⟩
  | .ref n, x, h => by
    rw [Rep] at h ⊢
    obtain ⟨a, e, rfl⟩ := h
    obtain ⟨l, rfl⟩ := E.pre
    exact ⟨a, by rw [List.getElem?_append_left (List.getElem?_eq_some_iff.mp e).1]; exact e, rfl⟩
  | .fn f, x, h => by rw [Rep] at h ⊢; exact h
theorem Reps.ext (E : Ext μ H μ' H') : ∀ {vs : List PV} {xs : List V}, Reps L H μ vs xs → Reps L H' μ' vs xs
  | [], xs, h => by rw [h.of_nil]; exact .nil
  | v :: vs, xs, h => by
    obtain ⟨x, r, rfl, h1, h2⟩ := h.of_cons
    exact .cons (Rep.ext E h1) (Reps.ext E h2)
end

/-! ### the store, the frame -/
/-- a table; its code objects are not among the objects that change -/
def TabRep (h : List Addr) (H : Hp) (μ : List Addr) (a : Addr) (q : Str) : Prop := ∃ ps : Array Value, H a = some (.tbl ps) ∧ TriplesOk ps.toList ∧ ∀ (pos : Pos) (cv : Value), codeAmong pos ps.toList = some cv → ∃ c, cv = .ref c ∧ H c = some (LamX.CodeO c q) ∧ c ∉ μ ∧ c ∉ h
def ObjRep (L : Lay) (H : Hp) (μ : List Addr) (a : Addr) : MO → Prop
  | .tbl t => a = L.tab t ∧ TabRep L.hid H μ a (L.tq t)
  | .lst xs => ∃ vs, H a = some (.lst vs) ∧ Reps L H μ xs vs
  | .dic _ _ => False
  | .ins c ks vs => ∃ dx ws, H a = some (.ins (L.cls c) dx ((ks.map L.nm).zip ws)) ∧ ks.length = ws.length ∧ Reps L H μ vs ws
structure StoreRep (L : Lay) (H : Hp) (μ : List Addr) (st : Store) : Prop where
  len : μ.length = st.length
  nd : μ.Nodup
  hd : ∀ a ∈ L.hid, a ∉ μ ∧ ∃ o, H a = some o
  at_ : ∀ (n : Nat) (o : MO), st[n]? = some o → ∃ a, μ[n]? = some a ∧ ObjRep L H μ a o
structure SR (L : Lay) (μ : List Addr) (env : Env) (st : Store) (σ : L2.St) (H : Hp) : Prop where
  evr : ∀ (i : Nat) (v : PV), env[i]? = some (some v) → ∃ x, σ[i]? = some (some x) ∧ Rep L H μ v x
  len : env.length = σ.length
  sto : StoreRep L H μ st
theorem ObjRep.there {a : Addr} {o : MO} (h : ObjRep L H μ a o) : ∃ u, H a = some u := by
  cases o with
  | lst xs => obtain ⟨vs, e, _⟩ := h; exact ⟨_, e⟩
  | dic _ _ => exact (show False from h).elim
  | ins c ks vs => obtain ⟨dx, ws, e, _⟩ := h; exact ⟨_, e⟩
  | tbl t => obtain ⟨_, ps, e, _⟩ := h; exact ⟨_, e⟩
theorem TabRep.go {h h' : List Addr} {a b : Addr} {q : Str} (r : TabRep h H μ a q) (k : ∀ a o, H a = some o → a ∉ μ → a ∉ h → H' a = some o ∧ a ∉ μ' ∧ a ∉ h') (e : H' b = H a) : TabRep h' H' μ' b q := by
  obtain ⟨ps, e1, t, hc⟩ := r
  refine ⟨ps, e.trans e1, t, fun pos cv h => ?_⟩
  obtain ⟨c, z, e2, n, m⟩ := hc pos cv h
  obtain ⟨k1, k2, k3⟩ := k _ _ e2 n m
  exact ⟨c, z, k1, k2, k3⟩
theorem Ext.kk {h : List Addr} (E : Ext μ H μ' H') : ∀ a o, H a = some o → a ∉ μ → a ∉ h → H' a = some o ∧ a ∉ μ' ∧ a ∉ h := fun a o e n m => ⟨E.fr a o e n, E.off e n, m⟩
theorem StoreRep.mem {st : Store} (S : StoreRep L H μ st) {a : Addr} (h : a ∈ μ) : ∃ u, H a = some u := by
  obtain ⟨n, hn, e⟩ := List.getElem_of_mem h
  obtain ⟨b, e1, r⟩ := S.at_ n (st[n]'(S.len ▸ hn)) (by simp)
  have : μ[n]? = some a := by rw [List.getElem?_eq_getElem hn, e]
  rw [this] at e1; cases e1
  exact r.there
theorem StoreRep.off {st : Store} (S : StoreRep L H μ st) {p : Addr} (h : H p = none) : p ∉ μ := fun hp => by
  obtain ⟨u, e⟩ := S.mem hp
  rw [h] at e; cases e
theorem StoreRep.offh {st : Store} (S : StoreRep L H μ st) {p : Addr} (h : H p = none) : p ∉ L.hid := fun hp => by
  obtain ⟨_, u, e⟩ := S.hd p hp
  rw [h] at e; cases e
theorem Ext.hd (E : Ext μ H μ' H') (S : ∀ a ∈ L.hid, a ∉ μ ∧ ∃ o, H a = some o) : ∀ a ∈ L.hid, a ∉ μ' ∧ ∃ o, H' a = some o := fun a ha =>
  let ⟨n, o, e⟩ := S a ha
  ⟨E.off e n, o, E.fr _ _ e n⟩
theorem Ext.new_ {p : Addr} {o : HO} (h : H p = none) : Ext μ H μ (upd H p o) :=
  ⟨fun a u e _ => by rw [upd_ne (fun z => by subst z; rw [h] at e; cases e)]; exact e, ⟨[], by simp⟩, fun _ h => .inl h⟩
theorem StoreRep.ext {st : Store} (S : StoreRep L H μ st) (E : Ext μ H μ H') (k : ∀ a ∈ μ, H' a = H a) : StoreRep L H' μ st := by
  refine ⟨S.len, S.nd, E.hd S.hd, fun n o e => ?_⟩
  obtain ⟨a, e1, r⟩ := S.at_ n o e
  refine ⟨a, e1, ?_⟩
  have ha := k a (List.mem_of_getElem? e1)
  cases o with
  | lst xs => obtain ⟨vs, q, r⟩ := r; exact ⟨vs, by rw [ha]; exact q, r.ext E⟩
  | dic _ _ => exact (show False from r).elim
  | ins c ks vs => obtain ⟨dx, ws, q, l, r⟩ := r; exact ⟨dx, ws, by rw [ha]; exact q, l, r.ext E⟩
  | tbl t => obtain ⟨q, r⟩ := r; exact ⟨q, r.go E.kk ha⟩
theorem StoreRep.new {st : Store} {p : Addr} {o : HO} (S : StoreRep L H μ st) (h : H p = none) : StoreRep L (upd H p o) μ st :=
  S.ext (Ext.new_ h) fun a ha => upd_ne (fun z => by subst z; exact S.off h ha)
theorem SR.ext {env : Env} {st st' : Store} {σ : L2.St} (S : SR L μ env st σ H) (E : Ext μ H μ' H') (T : StoreRep L H' μ' st') : SR L μ' env st' σ H' :=
  ⟨fun i v e => let ⟨x, e1, r⟩ := S.evr i v e; ⟨x, e1, r.ext E⟩, S.len, T⟩
theorem SR.new {env : Env} {st : Store} {σ : L2.St} {p : Addr} {o : HO} (S : SR L μ env st σ H) (h : H p = none) : SR L μ env st σ (upd H p o) :=
  S.ext (Ext.new_ h) (S.sto.new h)
/-- a new mutable object -/
theorem StoreRep.push {st : Store} {p : Addr} {u : HO} {o : MO} (S : StoreRep L H μ st) (h : H p = none) (r : ObjRep L (upd H p u) (μ ++ [p]) p o) : StoreRep L (upd H p u) (μ ++ [p]) (st ++ [o]) := by
  have E : Ext μ H (μ ++ [p]) (upd H p u) := ⟨fun a q e _ => by rw [upd_ne (fun z => by subst z; rw [h] at e; cases e)]; exact e, ⟨[p], rfl⟩, fun a ha => by
    rcases List.mem_append.mp ha with z | z
    · exact .inl z
    · rw [List.mem_singleton.mp z]; exact .inr h⟩
  refine ⟨by simp [S.len], ?_, E.hd S.hd, fun n q e => ?_⟩
  · rw [List.nodup_append]
    refine ⟨S.nd, by simp, fun a ha b hb z => ?_⟩
    rw [List.mem_singleton.mp hb] at z
    rw [z] at ha
    exact S.off h ha
  · by_cases hn : n < st.length
    · rw [List.getElem?_append_left hn] at e
      obtain ⟨a, e1, r⟩ := S.at_ n q e
      have hne : a ≠ p := fun z => by subst z; exact S.off h (List.mem_of_getElem? e1)
      refine ⟨a, by rw [List.getElem?_append_left (by rw [S.len]; exact hn)]; exact e1, ?_⟩
      cases q with
      | lst xs => obtain ⟨vs, q, r⟩ := r; exact ⟨vs, by rw [upd_ne hne]; exact q, r.ext E⟩
      | dic _ _ => exact (show False from r).elim
      | ins c ks vs => obtain ⟨dx, ws, q, l, r⟩ := r; exact ⟨dx, ws, by rw [upd_ne hne]; exact q, l, r.ext E⟩
      | tbl t => obtain ⟨q, r⟩ := r; exact ⟨q, r.go E.kk (upd_ne hne)⟩
    · have hl := (List.getElem?_eq_some_iff.mp e).1
      rw [List.length_append] at hl
      have hn' : n = st.length := by simp at hl; omega
      subst hn'
      rw [List.getElem?_append_right (Nat.le_refl _)] at e
      simp at e
      subst e
      refine ⟨p, by rw [List.getElem?_append_right (by rw [S.len]; exact Nat.le_refl _), S.len]; simp, r⟩
theorem Ext.push {p : Addr} {u : HO} (h : H p = none) : Ext μ H (μ ++ [p]) (upd H p u) :=
  ⟨fun a q e _ => by rw [upd_ne (fun z => by subst z; rw [h] at e; cases e)]; exact e, ⟨[p], rfl⟩, fun a ha => by
    rcases List.mem_append.mp ha with z | z
    · exact .inl z
    · rw [List.mem_singleton.mp z]; exact .inr h⟩
/-- a mutable object written -/
theorem Ext.write {a : Addr} {u : HO} (h : a ∈ μ) : Ext μ H μ (upd H a u) :=
  ⟨fun b q e n => by rw [upd_ne (fun z => by subst z; exact n h)]; exact e, ⟨[], by simp⟩, fun _ h => .inl h⟩
theorem StoreRep.write {st : Store} {n : Nat} {a : Addr} {u : HO} {o : MO} (S : StoreRep L H μ st) (h : μ[n]? = some a) (r : ObjRep L (upd H a u) μ a o) : StoreRep L (upd H a u) μ (st.set n o) := by
  have E : Ext μ H μ (upd H a u) := Ext.write (List.mem_of_getElem? h)
  refine ⟨by simp [S.len], S.nd, E.hd S.hd, fun m q e => ?_⟩
  by_cases hm : m = n
  · subst hm
    have hl := (List.getElem?_eq_some_iff.mp e).1
    rw [List.getElem?_set_self (by simpa using hl)] at e
    cases e
    exact ⟨a, h, r⟩
  · rw [List.getElem?_set_ne (Ne.symm hm)] at e
    obtain ⟨b, e1, rb⟩ := S.at_ m q e
    have hne : b ≠ a := fun z => by
      subst z
      exact hm (nodup_ix_addr S.nd e1 h)
    refine ⟨b, e1, ?_⟩
    cases q with
    | lst xs => obtain ⟨vs, q, r⟩ := rb; exact ⟨vs, by rw [upd_ne hne]; exact q, r.ext E⟩
    | dic _ _ => exact (show False from rb).elim
    | ins c ks vs => obtain ⟨dx, ws, q, l, r⟩ := rb; exact ⟨dx, ws, by rw [upd_ne hne]; exact q, l, r.ext E⟩
    | tbl t => obtain ⟨q, r⟩ := rb; exact ⟨q, r.go E.kk (upd_ne hne)⟩
where
  nodup_ix_addr {N : List Addr} (hN : N.Nodup) {i j : Nat} {x : Addr} (a : N[i]? = some x) (b : N[j]? = some x) : i = j := by
    obtain ⟨h1, e1⟩ := List.getElem?_eq_some_iff.mp a
    obtain ⟨h2, e2⟩ := List.getElem?_eq_some_iff.mp b
    exact (List.getElem_inj hN).mp (e1.trans e2.symm)
def Lay.wh (L : Lay) (h : List Addr) : Lay := { L with hid := h }
mutual
theorem Rep.chg {h' : List Addr} (k : ∀ a o, H a = some o → a ∉ μ → a ∉ L.hid → H' a = some o ∧ a ∉ μ' ∧ a ∉ h') (p : ∃ l, μ' = μ ++ l) : ∀ {v : PV} {x : V}, Rep L H μ v x → Rep (L.wh h') H' μ' v x
  | .non, x, h => by rw [Rep] at h ⊢; exact h
  | .bl _, x, h => by rw [Rep] at h ⊢; exact h
  | .int _, x, h => by rw [Rep] at h ⊢; exact h
  | .str _, x, h => by rw [Rep] at h ⊢; exact h
  | .tup xs, x, h => by
    rw [Rep] at h ⊢
    obtain ⟨a, vs, e, s, r⟩ := h
    refine ⟨a, vs, e, ?_, Reps.chg k p r⟩
    rcases s with ⟨s | ⟨o, s⟩, n, m⟩ | s
    · obtain ⟨k1, k2, k3⟩ := k _ _ s n m
      exact .inl ⟨.inl k1, k2, k3⟩
    · obtain ⟨k1, k2, k3⟩ := k _ _ s n m
      exact .inl ⟨.inr ⟨o, k1⟩, k2, k3⟩
    · exact .inr s
  | .lst xs, x, h => by
    rw [Rep] at h ⊢
    obtain ⟨a, vs, e, s, r⟩ := h
    refine ⟨a, vs, e, ?_, Reps.chg k p r⟩
    obtain ⟨s | ⟨o, s⟩, n, m⟩ := s
    · obtain ⟨k1, k2, k3⟩ := k _ _ s n m
      exact ⟨.inl k1, k2, k3⟩
    · obtain ⟨k1, k2, k3⟩ := k _ _ s n m
      exact ⟨.inr ⟨o, k1⟩, k2, k3⟩
  | .set xs, x, h => by
    rw [Rep] at h ⊢
    obtain ⟨a, vs, e, s, r⟩ := h
    refine ⟨a, vs, e, ?_, Reps.chg k p r⟩
    rcases s with ⟨s | ⟨o, s⟩, n, m⟩ | s
    · obtain ⟨k1, k2, k3⟩ := k _ _ s n m
      exact .inl ⟨.inl k1, k2, k3⟩
    · obtain ⟨k1, k2, k3⟩ := k _ _ s n m
      exact .inl ⟨.inr ⟨o, k1⟩, k2, k3⟩
    · exact .inr s
  | .dic _ _, x, h => by rw [Rep] at h; exact h.elim
  | .obj c ks vs, x, h => by
    rw [Rep] at h ⊢
    obtain ⟨a, dx, ws, e, s, n, m, l, r⟩ := h
    obtain ⟨k1, k2, k3⟩ := k _ _ s n m
    exact ⟨a, dx, ws, e, k1, k2, k3, l, Reps.chg k p r⟩
  | .ref n, x, h => by
    rw [Rep] at h ⊢
    obtain ⟨a, e, rfl⟩ := h
    obtain ⟨l, rfl⟩ := p
    exact ⟨a, by rw [List.getElem?_append_left (List.getElem?_eq_some_iff.mp e).1]; exact e, rfl⟩
  | .fn f, x, h => by rw [Rep] at h ⊢; exact h
theorem Reps.chg {h' : List Addr} (k : ∀ a o, H a = some o → a ∉ μ → a ∉ L.hid → H' a = some o ∧ a ∉ μ' ∧ a ∉ h') (p : ∃ l, μ' = μ ++ l) : ∀ {vs : List PV} {xs : List V}, Reps L H μ vs xs → Reps (L.wh h') H' μ' vs xs
  | [], xs, h => by rw [h.of_nil]; exact .nil
  | v :: vs, xs, h => by
    obtain ⟨x, r, rfl, h1, h2⟩ := h.of_cons
    exact .cons (Rep.chg k p h1) (Reps.chg k p h2)
end
/-- later, with others hidden that were not there before -/
theorem Ext.k {h' : List Addr} (E : Ext μ H μ' H') (hh : ∀ a ∈ h', a ∈ L.hid ∨ H a = none) : ∀ a o, H a = some o → a ∉ μ → a ∉ L.hid → H' a = some o ∧ a ∉ μ' ∧ a ∉ h' := fun a o e n m =>
  ⟨E.fr a o e n, E.off e n, fun z => (hh a z).elim m fun q => by rw [q] at e; cases e⟩
theorem Rep.go {h' : List Addr} {v : PV} {x : V} (r : Rep L H μ v x) (E : Ext μ H μ' H') (hh : ∀ a ∈ h', a ∈ L.hid ∨ H a = none) : Rep (L.wh h') H' μ' v x := r.chg (E.k hh) E.pre
theorem Reps.go {h' : List Addr} {v : List PV} {x : List V} (r : Reps L H μ v x) (E : Ext μ H μ' H') (hh : ∀ a ∈ h', a ∈ L.hid ∨ H a = none) : Reps (L.wh h') H' μ' v x := r.chg (E.k hh) E.pre
theorem StoreRep.chg {st : Store} {h' : List Addr} (S : StoreRep L H μ st) (k : ∀ a o, H a = some o → a ∉ μ → a ∉ L.hid → H' a = some o ∧ a ∉ μ ∧ a ∉ h') (kμ : ∀ a ∈ μ, H' a = H a) (hd : ∀ a ∈ h', a ∉ μ ∧ ∃ o, H' a = some o) : StoreRep (L.wh h') H' μ st := by
  refine ⟨S.len, S.nd, hd, fun n o e => ?_⟩
  obtain ⟨a, e1, r⟩ := S.at_ n o e
  refine ⟨a, e1, ?_⟩
  have ha := kμ a (List.mem_of_getElem? e1)
  cases o with
  | lst xs => obtain ⟨vs, q, r⟩ := r; exact ⟨vs, by rw [ha]; exact q, r.chg k ⟨[], by simp⟩⟩
  | dic _ _ => exact (show False from r).elim
  | ins c ks vs => obtain ⟨dx, ws, q, l, r⟩ := r; exact ⟨dx, ws, by rw [ha]; exact q, l, r.chg k ⟨[], by simp⟩⟩
  | tbl t => obtain ⟨q, r⟩ := r; exact ⟨q, r.go k ha⟩
theorem SR.chg {env : Env} {st : Store} {σ : L2.St} {h' : List Addr} (S : SR L μ env st σ H) (k : ∀ a o, H a = some o → a ∉ μ → a ∉ L.hid → H' a = some o ∧ a ∉ μ ∧ a ∉ h') (kμ : ∀ a ∈ μ, H' a = H a) (hd : ∀ a ∈ h', a ∉ μ ∧ ∃ o, H' a = some o) : SR (L.wh h') μ env st σ H' :=
  ⟨fun i v e => let ⟨x, e1, r⟩ := S.evr i v e; ⟨x, e1, r.chg k ⟨[], by simp⟩⟩, S.len, S.sto.chg k kμ hd⟩
/-- a new object, hidden -/
theorem SR.hide {env : Env} {st : Store} {σ : L2.St} {D : Addr} {o : HO} (S : SR L μ env st σ H) (h : H D = none) : SR (L.wh (D :: L.hid)) μ env st σ (upd H D o) := by
  have hμ : D ∉ μ := S.sto.off h
  refine S.chg (fun a q e n m => ?_) (fun a ha => upd_ne fun z => hμ (z ▸ ha)) fun a ha => ?_
  · have ne : a ≠ D := fun z => by subst z; rw [h] at e; cases e
    exact ⟨by rw [upd_ne ne]; exact e, n, fun z => (List.mem_cons.mp z).elim ne m⟩
  · rcases List.mem_cons.mp ha with rfl | ha
    · exact ⟨hμ, o, upd_same⟩
    · obtain ⟨n, q, e⟩ := S.sto.hd a ha
      exact ⟨n, q, by rw [upd_ne (fun z => by subst z; rw [h] at e; cases e)]; exact e⟩
/-- shown again -/
theorem SR.unhide {env : Env} {st : Store} {σ : L2.St} {D : Addr} {l : List Addr} (S : SR (L.wh (D :: l)) μ env st σ H) : SR (L.wh l) μ env st σ H :=
  S.chg (L := L.wh (D :: l)) (fun a q e n m => ⟨e, n, fun z => m (List.mem_cons_of_mem _ z)⟩) (fun _ _ => rfl) fun a ha => S.sto.hd a (List.mem_cons_of_mem _ ha)
theorem Reps.unhide {D : Addr} {l : List Addr} {vs : List PV} {xs : List V} (r : Reps (L.wh (D :: l)) H μ vs xs) : Reps (L.wh l) H μ vs xs :=
  r.chg (L := L.wh (D :: l)) (fun a q e n m => ⟨e, n, fun z => m (List.mem_cons_of_mem _ z)⟩) ⟨[], by simp⟩
/-- a hidden one written -/
theorem hset_k {D : Addr} {o : HO} (hD : D ∈ L.hid) : ∀ a q, H a = some q → a ∉ μ → a ∉ L.hid → upd H D o a = some q ∧ a ∉ μ ∧ a ∉ L.hid := fun a q e n m =>
  ⟨by rw [upd_ne (fun z => m (by rw [z]; exact hD))]; exact e, n, m⟩
theorem SR.hset {env : Env} {st : Store} {σ : L2.St} {D : Addr} {o : HO} (S : SR L μ env st σ H) (hD : D ∈ L.hid) : SR L μ env st σ (upd H D o) :=
  S.chg (h' := L.hid) (hset_k hD) (fun a ha => upd_ne fun z => (S.sto.hd D hD).1 (z ▸ ha)) fun a ha => by
    by_cases z : a = D
    · subst z; exact ⟨(S.sto.hd a ha).1, o, upd_same⟩
    · rw [upd_ne z]; exact S.sto.hd a ha
theorem Reps.hset {D : Addr} {o : HO} {vs : List PV} {xs : List V} (r : Reps L H μ vs xs) (hD : D ∈ L.hid) : Reps L (upd H D o) μ vs xs := r.chg (h' := L.hid) (hset_k hD) ⟨[], by simp⟩
end
end MP
namespace MP
open PySem PySem.Spec PyProof.Rows L2

/-! ### data -/
mutual
def toD : PV → PyData
  | .bl b => .bool b
  | .int i => .int i
  | .str s => .str ⟨s.toArray⟩
  | .tup xs => .tuple (toDs xs)
  | .lst xs => .list (toDs xs)
  | _ => .none
def toDs : List PV → List PyData
  | [] => []
  | x :: xs => toD x :: toDs xs
end
section
variable {L : Lay} {H : Hp} {μ : List Addr}
mutual
theorem Rep.dp : ∀ {v : PV} {x : V}, Rep L H μ v x → PV.isD v = true → Dp L.K H x (toD v)
  | .non, x, h, _ => by rw [Rep] at h; subst h; rw [toD]; exact .non; all_goals simp
  | .bl b, x, h, _ => by rw [Rep] at h; subst h; rw [toD]; exact .bl b
  | .int i, x, h, _ => by rw [Rep] at h; subst h; rw [toD]; exact .int i
  | .str s, x, h, _ => by rw [Rep] at h; subst h; rw [toD]; exact .str _
  | .tup xs, x, h, d => by
    rw [Rep] at h
    obtain ⟨a, vs, rfl, s, r⟩ := h
    rw [toD]
    exact .tup s.sq (Reps.dp r (by simpa [PV.isD] using d))
  | .lst xs, x, h, d => by
    rw [Rep] at h
    obtain ⟨a, vs, rfl, s, r⟩ := h
    rw [toD]
    exact .lst s.sq (Reps.dp r (by simpa [PV.isD] using d))
  | .set _, x, h, d => by simp [PV.isD] at d
  | .dic _ _, x, h, d => by simp [PV.isD] at d
  | .obj _ _ _, x, h, d => by simp [PV.isD] at d
  | .ref _, x, h, d => by simp [PV.isD] at d
  | .fn _, x, h, d => by simp [PV.isD] at d
theorem Reps.dp : ∀ {vs : List PV} {xs : List V}, Reps L H μ vs xs → PV.isDs vs = true → DpAll L.K H xs (toDs vs)
  | [], xs, h, _ => by rw [h.of_nil, toDs]; exact .nil
  | v :: vs, xs, h, d => by
    obtain ⟨x, r, rfl, h1, h2⟩ := h.of_cons
    simp only [PV.isDs, Bool.and_eq_true] at d
    rw [toDs]
    exact .cons (Rep.dp h1 d.1) (Reps.dp h2 d.2)
end
end
mutual
theorem eqv_toD : ∀ (x y : PV), PV.isD x = true → PV.isD y = true → PyData.eqv (toD x) (toD y) = PV.eqv x y
  | .non, y, _, h => by cases y <;> simp_all [toD, PyData.eqv, PV.eqv, PV.isD]
  | .bl b, y, _, h => by cases y <;> simp_all [toD, PyData.eqv, PV.eqv, PV.isD, b2i]
  | .int b, y, _, h => by cases y <;> simp_all [toD, PyData.eqv, PV.eqv, PV.isD, b2i]
  | .str s, y, _, h => by
    cases y <;> simp_all [toD, PyData.eqv, PV.eqv, PV.isD]
    rename_i t
    rw [Bool.eq_iff_iff, beq_iff_eq, beq_iff_eq]
    constructor
    · intro e; simpa using congrArg (fun z : Str => z.cps.toList) e
    · intro e; rw [e]
  | .tup xs, y, h, h' => by
    cases y <;> simp_all [toD, PyData.eqv, PV.eqv, PV.isD]
    exact eqvs_toD _ _ (by assumption) (by assumption)
  | .lst xs, y, h, h' => by
    cases y <;> simp_all [toD, PyData.eqv, PV.eqv, PV.isD]
    exact eqvs_toD _ _ (by assumption) (by assumption)
  | .set _, y, h, _ => by simp [PV.isD] at h
  | .dic _ _, y, h, _ => by simp [PV.isD] at h
  | .obj _ _ _, y, h, _ => by simp [PV.isD] at h
  | .ref _, y, h, _ => by simp [PV.isD] at h
  | .fn _, y, h, _ => by simp [PV.isD] at h
theorem eqvs_toD : ∀ (xs ys : List PV), PV.isDs xs = true → PV.isDs ys = true → PyData.eqvAll (toDs xs) (toDs ys) = PV.eqvs xs ys
  | [], [], _, _ => by simp [toDs, PyData.eqvAll, PV.eqvs]
  | [], _ :: _, _, _ => by simp [toDs, PyData.eqvAll, PV.eqvs]
  | _ :: _, [], _, _ => by simp [toDs, PyData.eqvAll, PV.eqvs]
  | x :: xs, y :: ys, h, h' => by
    simp only [PV.isDs, Bool.and_eq_true] at h h'
    simp only [toDs, PyData.eqvAll, PV.eqvs]
    rw [eqv_toD x y h.1 h'.1, eqvs_toD xs ys h.2 h'.2]
end
mutual
theorem canLay_toD : ∀ (x : PV), PV.isD x = true → (toD x).canLay0 = true
  | .non, _ => by simp [toD, PyData.canLay0]
  | .bl _, _ => by simp [toD, PyData.canLay0]
  | .int _, _ => by simp [toD, PyData.canLay0]
  | .str s, h => by
    simp only [PV.isD, List.all_eq_true, decide_eq_true_eq] at h
    simp only [toD, PyData.canLay0, PyData.strOk]
    rw [← Array.all_toList, List.all_eq_true]
    intro c hc
    exact decide_eq_true (h c (by simpa using hc))
  | .tup xs, h => by simp only [toD, PyData.canLay0]; exact canLays_toD xs (by simpa [PV.isD] using h)
  | .lst xs, h => by simp only [toD, PyData.canLay0]; exact canLays_toD xs (by simpa [PV.isD] using h)
  | .set _, h => by simp [PV.isD] at h
  | .dic _ _, h => by simp [PV.isD] at h
  | .obj _ _ _, h => by simp [PV.isD] at h
  | .ref _, h => by simp [PV.isD] at h
  | .fn _, h => by simp [PV.isD] at h
theorem canLays_toD : ∀ (xs : List PV), PV.isDs xs = true → PyData.canLayAll0 (toDs xs) = true
  | [], _ => by simp [toDs, PyData.canLayAll0]
  | x :: xs, h => by
    simp only [PV.isDs, Bool.and_eq_true] at h
    simp [toDs, PyData.canLayAll0, canLay_toD x h.1, canLays_toD xs h.2]
end
theorem depths_le : ∀ (n : Nat) (xs : List PV), (∀ x ∈ xs, (toD x).depth ≤ n) → PyData.depthAll (toDs xs) ≤ n
  | _, [], _ => by simp [toDs, PyData.depthAll]
  | n, x :: xs, h => by
    have h1 := h x (by simp)
    have h2 := depths_le n xs fun y hy => h y (by simp [hy])
    simp only [toDs, PyData.depthAll]
    omega
theorem depth_toD : ∀ (n : Nat) (x : PV), PV.depth0 n x = true → (toD x).depth ≤ n
  | n, .non, _ => by simp [toD, PyData.depth]
  | n, .bl _, _ => by simp [toD, PyData.depth]
  | n, .int _, _ => by simp [toD, PyData.depth]
  | n, .str _, _ => by simp [toD, PyData.depth]
  | 0, .tup xs, h => by simp [PV.depth0] at h
  | 0, .lst xs, h => by simp [PV.depth0] at h
  | n + 1, .tup xs, h => by
    have := depths_le n xs fun x hx => depth_toD n x (by simp [PV.depth0] at h; exact h x hx)
    simp only [toD, PyData.depth]; omega
  | n + 1, .lst xs, h => by
    have := depths_le n xs fun x hx => depth_toD n x (by simp [PV.depth0] at h; exact h x hx)
    simp only [toD, PyData.depth]; omega
  | n, .set _, _ => by simp [toD, PyData.depth]
  | n, .dic _ _, _ => by simp [toD, PyData.depth]
  | n, .obj _ _ _, _ => by simp [toD, PyData.depth]
  | n, .ref _, _ => by simp [toD, PyData.depth]
  | n, .fn _, _ => by simp [toD, PyData.depth]
theorem shaped_toD {x : PV} (h : depthOk x = true) : SeqAt.shaped (toD x) = true := by
  unfold depthOk at h
  rw [Bool.and_eq_true] at h
  have := depth_toD 60 x h.2
  unfold SeqAt.shaped
  rw [Bool.and_eq_true]
  exact ⟨canLay_toD x h.1, decide_eq_true (by omega)⟩
theorem isD_of {x : PV} (h : depthOk x = true) : PV.isD x = true := by
  unfold depthOk at h
  rw [Bool.and_eq_true] at h
  exact h.1
theorem toDs_map : ∀ xs : List PV, toDs xs = xs.map toD
  | [] => by simp [toDs]
  | x :: xs => by simp [toDs, toDs_map xs]
theorem isDs_iff : ∀ {xs : List PV}, PV.isDs xs = true ↔ ∀ x ∈ xs, PV.isD x = true
  | [] => by simp [PV.isDs]
  | x :: xs => by simp [PV.isDs, isDs_iff (xs := xs)]

/-! ### order -/
mutual
theorem alike_toD : ∀ (x y : PV), PV.alike x y = true → PySem.W.alike (toD x) (toD y) = true
  | .non, y, h => by cases y <;> simp_all [PV.alike, toD, PySem.W.alike]
  | .bl _, y, h => by cases y <;> simp_all [PV.alike, toD, PySem.W.alike]
  | .int _, y, h => by cases y <;> simp_all [PV.alike, toD, PySem.W.alike]
  | .str _, y, h => by cases y <;> simp_all [PV.alike, toD, PySem.W.alike]
  | .tup xs, y, h => by
    cases y <;> simp_all [PV.alike, toD, PySem.W.alike]
    exact alikes_toD _ _ h
  | .lst xs, y, h => by
    cases y <;> simp_all [PV.alike, toD, PySem.W.alike]
    exact alikes_toD _ _ h
  | .set _, y, h => by simp [PV.alike] at h
  | .dic _ _, y, h => by simp [PV.alike] at h
  | .obj _ _ _, y, h => by simp [PV.alike] at h
  | .ref _, y, h => by simp [PV.alike] at h
  | .fn _, y, h => by simp [PV.alike] at h
theorem alikes_toD : ∀ (xs ys : List PV), PV.alikes xs ys = true → PySem.W.alikeAll (toDs xs) (toDs ys) = true
  | [], _, _ => by simp [toDs, PySem.W.alikeAll]
  | _ :: _, [], _ => by simp [toDs, PySem.W.alikeAll]
  | x :: xs, y :: ys, h => by
    simp only [PV.alikes, Bool.and_eq_true] at h
    simp only [toDs, PySem.W.alikeAll, Bool.and_eq_true]
    exact ⟨alike_toD x y h.1, alikes_toD xs ys h.2⟩
end

theorem lexNats : ∀ (a b : List Nat), decide (a < b) = ltNats a b
  | [], [] => by simp [ltNats]
  | [], _ :: _ => by simp [ltNats]
  | _ :: _, [] => by simp [ltNats]
  | x :: xs, y :: ys => by
    have ih := lexNats xs ys
    rw [ltNats]
    by_cases h : x = y
    · subst h
      rw [if_pos rfl, ← ih]
      refine decide_eq_decide.mpr ?_
      rw [List.cons_lt_cons_iff]
      exact ⟨fun q => q.elim (fun z => absurd z (Nat.lt_irrefl _)) (fun z => z.2), fun q => .inr ⟨rfl, q⟩⟩
    · rw [if_neg h]
      refine decide_eq_decide.mpr ?_
      rw [List.cons_lt_cons_iff]
      exact ⟨fun q => q.elim id fun z => absurd z.1 h, .inl⟩
mutual
theorem lt_toD : ∀ (x y : PV), PV.isD x = true → PV.isD y = true → PV.alike x y = true → PySem.W.dataLt (toD x) (toD y) = PV.lt x y
  | .non, y, _, _, h => by
    cases y <;> simp_all [PV.alike]
    simp [toD, PySem.W.dataLt, PySem.W.keyToks, PyProof.Rows.lexLt, PV.lt]
  | .bl a, y, _, _, h => by
    cases y with
    | bl b => rw [toD, toD, PySem.W.dataLt_bool]; cases a <;> cases b <;> rfl
    | _ => simp [PV.alike] at h
  | .int _, y, _, _, h => by
    cases y <;> simp_all [PV.alike]
    rw [toD, toD, PySem.W.dataLt_int, PV.lt]
  | .str s, y, _, _, h => by
    cases y <;> simp_all [PV.alike]
    rw [toD, toD, PySem.W.dataLt_str, PV.lt]
    exact lexNats _ _
  | .tup xs, y, d, d', h => by
    cases y <;> simp_all [PV.alike]
    rw [toD, toD, PySem.W.dataLt_tuple, PV.lt]
    exact lts_toD _ _ (by simpa [PV.isD] using d) (by simpa [PV.isD] using d') h
  | .lst xs, y, d, d', h => by
    cases y <;> simp_all [PV.alike]
    rw [toD, toD, PySem.W.dataLt_list, PV.lt]
    exact lts_toD _ _ (by simpa [PV.isD] using d) (by simpa [PV.isD] using d') h
  | .set _, y, h, _, _ => by simp [PV.isD] at h
  | .dic _ _, y, h, _, _ => by simp [PV.isD] at h
  | .obj _ _ _, y, h, _, _ => by simp [PV.isD] at h
  | .ref _, y, h, _, _ => by simp [PV.isD] at h
  | .fn _, y, h, _, _ => by simp [PV.isD] at h
theorem lts_toD : ∀ (xs ys : List PV), PV.isDs xs = true → PV.isDs ys = true → PV.alikes xs ys = true → PyProof.Rows.lexLt itemOrd (PySem.W.keyToksAll (toDs xs)) (PySem.W.keyToksAll (toDs ys)) = PV.lts xs ys
  | [], [], _, _, _ => by simp [toDs, PySem.W.keyToksAll, PV.lts, PyProof.Rows.lex_irrefl]
  | [], y :: ys, _, _, _ => by
    simp only [toDs, PySem.W.toks_all_cons, PySem.W.keyToksAll, PV.lts]
    rw [PyProof.Rows.lex_diff (O := itemOrd) (by simp)]
    simp [PyProof.Rows.itemLt]
  | x :: xs, [], _, _, _ => by
    simp only [toDs, PySem.W.toks_all_cons, PySem.W.keyToksAll, PV.lts]
    rw [PyProof.Rows.lex_diff (O := itemOrd) (by simp)]
    simp [PyProof.Rows.itemLt]
  | x :: xs, y :: ys, d, d', h => by
    simp only [PV.isDs, Bool.and_eq_true] at d d'
    simp only [PV.alikes, Bool.and_eq_true] at h
    have ha := alike_toD x y h.1
    have he := eqv_toD x y d.1 d'.1
    simp only [toDs, PV.lts]
    cases q : PV.eqv x y with
    | true =>
      rw [if_pos rfl, PySem.W.dataLt_all_yes ha (he.trans q)]
      exact lts_toD xs ys d.2 d'.2 h.2
    | false =>
      rw [if_neg Bool.false_ne_true, PySem.W.dataLt_all_no ha (he.trans q)]
      exact lt_toD x y d.1 d'.1 h.1
end

/-! ### judgements -/
theorem _root_.L2.PE.mono {X : Cx} {e : Expr} {t t' : TE} (h : PE X e t) (m : ∀ σ H Q, t' σ H Q → t σ H Q) : PE X e t' := ⟨fun pins s σ H Q I q => h.run pins s σ H Q I (m σ H Q q)⟩
theorem _root_.L2.PT.mono {X : Cx} {e : Expr} {t t' : TT} (h : PT X e t) (m : ∀ σ H Q, t' σ H Q → t σ H Q) : PT X e t' := ⟨fun pins s σ H Q I q => h.run pins s σ H Q I (m σ H Q q)⟩
theorem _root_.L2.PW.mono {X : Cx} {e : Expr} {t t' : TT} (h : PW X e t) (m : ∀ σ H Q, t' σ H Q → t σ H Q) : PW X e t' := ⟨fun w pins s σ H Q I q => h.run w pins s σ H Q I (m σ H Q q)⟩
theorem _root_.L2.PA.mono {X : Cx} {e : List Expr} {t t' : TA} (h : PA X e t) (m : ∀ σ H Q, t' σ H Q → t σ H Q) : PA X e t' := ⟨fun p pins s σ H Q I q => h.run p pins s σ H Q I (m σ H Q q)⟩
theorem _root_.L2.PK.mono {X : Cx} {e : List Keyword} {t t' : TA} (h : PK X e t) (m : ∀ σ H Q, t' σ H Q → t σ H Q) : PK X e t' := ⟨fun p pins s σ H Q I q => h.run p pins s σ H Q I (m σ H Q q)⟩
theorem _root_.L2.PSs.mono {X : Cx} {e : List Stmt} {t t' : TS} (h : PSs X e t) (m : ∀ D σ H, t' D σ H → t D σ H) : PSs X e t' := ⟨fun pins s σ H D I q => h.run pins s σ H D I (m D σ H q)⟩
theorem _root_.L2.PS.mono {X : Cx} {e : Stmt} {t t' : TS} (h : PS X e t) (m : ∀ D σ H, t' D σ H → t D σ H) : PS X e t' := ⟨fun pins s σ H D I q => h.run pins s σ H D I (m D σ H q)⟩

section
variable (P : Prog) (cf : Nat → List PV → Store → Res PV) (L : Lay)
def tE (ie : IE) : TE := fun σ H Q => ∃ μ env st v st', SR L μ env st σ H ∧ evalE P cf ie env st = .ok v st' ∧
  ∀ μ' H' x, SR L μ' env st' σ H' → Rep L H' μ' v x → Ext μ H μ' H' → Q x H'
def tT (ie : IE) : TT := fun σ H Q => ∃ μ env st b st', SR L μ env st σ H ∧ evalE P cf ie env st = .ok (.bl b) st' ∧
  ∀ μ' H', SR L μ' env st' σ H' → Ext μ H μ' H' → Q b H'
def tA (ie : IE) : TA := fun σ H Q => ∃ μ env st vs st', SR L μ env st σ H ∧ evalEs P cf ie env st = .ok vs st' ∧
  ∀ μ' H' xs, SR L μ' env st' σ H' → Reps L H' μ' vs xs → Ext μ H μ' H' → Q xs H'
/-- a list that was just made -/
def tN (ie : IE) : TE := fun σ H Q => ∃ μ env st xs st', SR L μ env st σ H ∧ evalE P cf ie env st = .ok (.lst xs) st' ∧
  ∀ μ' H' p vs, SR L μ' env st' σ H' → Reps L H' μ' xs vs → Ext μ H μ' H' → H' p = none → Q (.ref p) (upd H' p (.lst vs))
end
theorem SR.upl {L : Lay} {H : Hp} {μ : List Addr} {env : Env} {st : Store} {σ : L2.St} {p : Addr} {vs : List V} {xs : List PV} (S : SR L μ env st σ H) (h : H p = none) (r : Reps L H μ xs vs) :
    SR L μ env st σ (upd H p (.lst vs)) ∧ Rep L (upd H p (.lst vs)) μ (.lst xs) (.ref p) ∧ Ext μ H μ (upd H p (.lst vs)) := by
  refine ⟨S.new h, ?_, Ext.new_ h⟩
  rw [Rep]
  exact ⟨p, vs, rfl, ⟨.inl upd_same, S.sto.off h, S.sto.offh h⟩, r.ext (Ext.new_ h)⟩
theorem SR.upt {L : Lay} {H : Hp} {μ : List Addr} {env : Env} {st : Store} {σ : L2.St} {p : Addr} {vs : List V} {xs : List PV} (S : SR L μ env st σ H) (h : H p = none) (r : Reps L H μ xs vs) :
    SR L μ env st σ (upd H p (.tup vs)) ∧ Rep L (upd H p (.tup vs)) μ (.tup xs) (.ref p) ∧ Ext μ H μ (upd H p (.tup vs)) := by
  refine ⟨S.new h, ?_, Ext.new_ h⟩
  rw [Rep]
  exact ⟨p, vs, rfl, .inl ⟨.inl upd_same, S.sto.off h, S.sto.offh h⟩, r.ext (Ext.new_ h)⟩
/-- two-place operations by values -/
def r2 (L : Lay) (g : Store → PV → PV → Option PV) : R2 := fun x1 y1 H Q => ∃ μ env st σ x y v, SR L μ env st σ H ∧ Rep L H μ x x1 ∧ Rep L H μ y y1 ∧ g st x y = some v ∧
  ∀ μ' H' z, SR L μ' env st σ H' → Rep L H' μ' v z → Ext μ H μ' H' → Q z H'
/-- .. of values that aren't looked up in the store -/
def r2p (L : Lay) (g : PV → PV → Option PV) : R2 := fun x1 y1 H Q => ∃ μ env st σ x y v, SR L μ env st σ H ∧ Rep L H μ x x1 ∧ Rep L H μ y y1 ∧ g x y = some v ∧
  ∀ μ' H' z, SR L μ' env st σ H' → Rep L H' μ' v z → Ext μ H μ' H' → Q z H'
/-- what a value is, a mutable list too -/
def RepD (L : Lay) (H : Hp) (μ : List Addr) (v : PV) (x : V) : Prop := match v with
  | .lst xs => ∃ a vs, x = .ref a ∧ Rd H a (.lst vs) ∧ Reps L H μ xs vs
  | v => Rep L H μ v x
theorem Rep.d {L : Lay} {H : Hp} {μ : List Addr} {env : Env} {st : Store} {σ : L2.St} {v : PV} {x : V} (S : SR L μ env st σ H) (r : Rep L H μ v x) : RepD L H μ (der st v) x := by
  cases v with
  | ref n =>
    cases e : st[n]? with
    | none => simp only [der, e]; exact r
    | some o =>
      cases o with
      | lst xs =>
        simp only [der, e]
        obtain ⟨a, e1, vs, e2, rv⟩ := S.sto.at_ n _ e
        rw [Rep] at r
        obtain ⟨b, e3, rfl⟩ := r
        rw [e1] at e3; cases e3
        exact ⟨a, vs, rfl, .inl e2, rv⟩
      | dic _ _ => obtain ⟨_, _, z⟩ := S.sto.at_ n _ e; exact z.elim
      | ins _ _ _ => simp only [der, e]; exact r
      | tbl _ => simp only [der, e]; exact r
  | lst xs =>
    rw [Rep] at r
    obtain ⟨a, vs, e, s, q⟩ := r
    exact ⟨a, vs, e, s.1, q⟩
  | _ => exact r
section
variable {P : Prog} {cf : Nat → List PV → Store → Res PV} {L : Lay} {X : Cx}
theorem pt_of {e : Expr} {ie : IE} (h : PE X e (tE P cf L ie)) (he : ∀ whole, isTrue e X.env whole = (do let v ← whole; standAt e.pos; holding [v] (truthy v))) : PT X e (tT P cf L ie) := by
  refine (pt_val h he).mono fun σ H Q q => ?_
  obtain ⟨μ, env, st, b, st', S, ev, q⟩ := q
  refine ⟨μ, env, st, _, st', S, ev, fun μ' H' x S' r E => ?_⟩
  rw [Rep] at r
  exact ⟨b, r, q μ' H' S' E⟩
theorem pe_new {e : Expr} {ie : IE} (h : PE X e (tN P cf L ie)) : PE X e (tN P cf L ie) := h
/-- a fresh list as a value -/
theorem pe_fresh {e : Expr} {ie : IE} (h : PE X e (tN P cf L ie)) (hl : ∀ env st v st', evalE P cf ie env st = .ok v st' → ∃ xs, v = .lst xs) : PE X e (tE P cf L ie) := by
  refine h.mono fun σ H Q q => ?_
  obtain ⟨μ, env, st, v, st', S, ev, q⟩ := q
  obtain ⟨xs, rfl⟩ := hl _ _ _ _ ev
  refine ⟨μ, env, st, xs, st', S, ev, fun μ' H' p vs S' r E n => ?_⟩
  obtain ⟨a, b, c⟩ := S'.upl n r
  exact q μ' _ _ a b (E.trans c)
/-- .. as a mutable object -/
theorem pe_nw {e : Expr} {ie : IE} (h : PE X e (tN P cf L ie)) : PE X e (tE P cf L (.nw ie)) := by
  refine h.mono fun σ H Q q => ?_
  obtain ⟨μ, env, st, v, st', S, ev, q⟩ := q
  rw [evalE] at ev
  obtain ⟨w, st1, e1, ev⟩ := Res.bind_eq_ok ev
  cases w with
  | lst xs =>
    cases ev
    refine ⟨μ, env, st, xs, st1, S, e1, fun μ' H' p vs S' r E n => ?_⟩
    have Ep : Ext μ' H' (μ' ++ [p]) (upd H' p (.lst vs)) := Ext.push n
    refine q (μ' ++ [p]) _ _ (S'.ext Ep (S'.sto.push n ⟨vs, upd_same, r.ext Ep⟩)) ?_ (E.trans Ep)
    rw [Rep]
    exact ⟨p, by rw [List.getElem?_append_right (by rw [S'.sto.len]; exact Nat.le_refl _), S'.sto.len]; simp, rfl⟩
  | _ => cases ev
theorem pe_bin {op : Operator} {bop : BOp} {a b : Expr} {ia ib : IE} {pos : Pos} (ho : OpR X (binaryOp op) (r2 L fun st x y => binop bop (der st x) (der st y))) (ha : PE X a (tE P cf L ia)) (hb : PE X b (tE P cf L ib)) :
    PE X (.BinOp a op b pos) (tE P cf L (.bin bop ia ib)) := by
  refine (pe_op ho ha hb).mono fun σ H Q q => ?_
  obtain ⟨μ, env, st, v, st', S, ev, q⟩ := q
  rw [evalE] at ev
  obtain ⟨x, st1, e1, ev⟩ := Res.bind_eq_ok ev
  obtain ⟨y, st2, e2, ev⟩ := Res.bind_eq_ok ev
  obtain ⟨e3, rfl⟩ := Res.opt_eq_ok ev
  refine ⟨μ, env, st, x, st1, S, e1, fun μ1 H1 x1 S1 r1 E1 => ⟨μ1, env, st1, y, st', S1, e2, fun μ2 H2 y1 S2 r2 E2 => ?_⟩⟩
  exact ⟨μ2, env, st', σ, x, y, v, S2, r1.ext E2, r2, e3, fun μ3 H3 z S3 r3 E3 => q μ3 H3 z S3 r3 ((E1.trans E2).trans E3)⟩
end
end MP
namespace MP
open PySem PySem.Spec PyProof.Rows L2

theorem lim_eq : (lim : Nat) = sizeLine := by rw [sizeLine_eq]; rfl
section
variable {X : Cx} {L : Lay} {H : Hp} {μ : List Addr} {pins : List (Addr × Obj)} {σ : L2.St} {s : Shared}
theorem _root_.L2.Inv.rdL (I : Inv X pins σ H s) {a : Addr} {xs : List V} (h : Rd H a (.lst xs)) : xs.length ≤ sizeLine ∧ ∃ (its : List Value) (n : Nat), Vals xs its ∧ xs.length = its.length ∧ s.heap.get? a = some { cls := .type "list", data := .seq its.toArray n } := by
  obtain ⟨z, its, n, r, e⟩ := h.ok I.hok
  exact ⟨z, its, n, r, r.length, e⟩
/-- list + list, whoever holds them -/
def rCatR : R2 := fun x y H Q => ∃ l b xs zs, x = .ref l ∧ y = .ref b ∧ Rd H l (.lst xs) ∧ Rd H b (.lst zs) ∧ xs.length + zs.length ≤ sizeLine ∧ ∀ p, H p = none → Q (.ref p) (upd H p (.lst (xs ++ zs)))
theorem op_catR : OpR X (binaryOp .Add) rCatR := by
  intro pins s σ H x y v u Q I rx ry h
  obtain ⟨l, b, xs, zs, rfl, rfl, hH, hB, hz, q⟩ := h
  cases rx
  cases ry
  obtain ⟨z, its, n, r, hl, e⟩ := I.rdL hH
  obtain ⟨z2, its2, n2, r2, hl2, e2⟩ := I.rdL hB
  refine PySem.P.add_list e e2 ?_ (by rw [List.size_toArray, List.size_toArray]; omega)
  have ea : its.toArray ++ its2.toArray = (its ++ its2).toArray := by simp
  rw [ea]
  exact ⟨.ref _, _, I.lnew (t' := s.toks) (r.append r2) (by rw [List.length_append]; omega), rfl, q _ I.fresh⟩
/-- list + the script -/
theorem _root_.L2.Inv.rdS (hK : X.K = L.K) (I : Inv X pins σ H s) {h : List Addr} {a : Addr} {xs : List V} (r : SqSm L.K h H μ a xs) : xs.length ≤ sizeLine ∧ ∃ (its : List Value) (n : Nat), Vals xs its ∧ xs.length = its.length ∧ s.heap.get? a = some { cls := .type "list", data := .seq its.toArray n } := by
  rcases r with r | ⟨its, n, e, z, v⟩
  · exact I.rdL r.1
  · have hl := v.length
    refine ⟨Nat.le_trans (Nat.le_of_eq (hl.trans Array.length_toList)) z, its.toList, n, v, hl, ?_⟩
    rw [Array.toArray_toList]
    exact I.kIn _ _ (by rw [hK]; exact e)
def rCatS (L : Lay) : R2 := fun x y H Q => ∃ l b xs zs h μ, x = .ref l ∧ y = .ref b ∧ Rd H l (.lst xs) ∧ SqSm L.K h H μ b zs ∧ xs.length + zs.length ≤ sizeLine ∧ ∀ p, H p = none → Q (.ref p) (upd H p (.lst (xs ++ zs)))
theorem op_catS (hK : X.K = L.K) : OpR X (binaryOp .Add) (rCatS L) := by
  intro pins s σ H x y v u Q I rx ry h
  obtain ⟨l, b, xs, zs, h, μ, rfl, rfl, hH, hB, hz, q⟩ := h
  cases rx
  cases ry
  obtain ⟨z, its, n, r, hl, e⟩ := I.rdL hH
  obtain ⟨z2, its2, n2, r2, hl2, e2⟩ := I.rdS hK hB
  refine PySem.P.add_list e e2 ?_ (by rw [List.size_toArray, List.size_toArray]; omega)
  have ea : its.toArray ++ its2.toArray = (its ++ its2).toArray := by simp
  rw [ea]
  exact ⟨.ref _, _, I.lnew (t' := s.toks) (r.append r2) (by rw [List.length_append]; omega), rfl, q _ I.fresh⟩
def rRepR : R2 := fun x y H Q => ∃ l k xs, x = .ref l ∧ y = .int k ∧ Rd H l (.lst xs) ∧ -(2 ^ 63) ≤ k ∧ k < 2 ^ 63 ∧ xs.length * k.toNat ≤ sizeLine ∧
  ∀ p, H p = none → Q (.ref p) (upd H p (.lst (List.replicate k.toNat xs).flatten))
theorem op_repR : OpR X (binaryOp .Mult) rRepR := by
  intro pins s σ H x y v u Q I rx ry h
  obtain ⟨l, k, xs, rfl, rfl, hH, h1, h2, hz, q⟩ := h
  cases rx
  obtain ⟨t, rfl⟩ := ry
  obtain ⟨z, its, n, r, hl, e⟩ := I.rdL hH
  have hlen : its.toArray.size * k.toNat ≤ sizeLine := by rw [List.size_toArray, ← hl]; exact hz
  have hcap : ¬ its.toArray.size * k.toNat > (2 ^ 63 - 1) / 8 := by
    have : (sizeLine : Nat) ≤ (2 ^ 63 - 1) / 8 := by decide
    omega
  have hfit : ¬ (!Builtin.List.listFitsIndex k) = true := by
    rw [fitsIndex_both h1 h2]
    exact Bool.false_ne_true
  have hlong : ¬ Builtin.List.listTooLong (its.toArray.size * k.toNat) = true := by
    rw [notLongL hlen]
    exact Bool.false_ne_true
  have hnew : List.foldl (fun x1 x2 => x1 ++ x2) #[] (List.replicate (if its.toArray.isEmpty = true then 0 else k.toNat) its.toArray) = (List.replicate k.toNat its).flatten.toArray := by
    have f0 : ∀ m : Nat, List.foldl (fun x1 x2 => x1 ++ x2) #[] (List.replicate m its.toArray) = (List.replicate m its).flatten.toArray := fun m => by
      have := foldl_rep its m []
      rw [List.nil_append] at this
      exact this
    rw [f0]
    cases its with
    | nil => simp
    | cons a r' => rw [if_neg (by simp)]
  refine wpAny_binaryOp_repeat_ref (T := "list") (U := "int") (by decide) ⟨_, e, rfl⟩ (fun s' => typeIs_int s' k t) noFill_list_mul F.fills_int_mul F.slot_int_rmul repeat_list F.slot_int_index.lookup
    (call_meets F.slot_int_rmul (typeIs_int s k t) F.entry_int_rmul (F.args_int_rmul_2 _ _) (int___rmul___int_list k t l its.toArray n)
      ⟨e, rfl, ⟨_, e, rfl⟩, call_meets F.slot_list_mul ⟨_, e, rfl⟩ F.entry_list_mul (F.args_list_mul_2 _ _) (AutoListH.list___mul___list_int_3 l its.toArray n k t hfit hcap hlong) ⟨e, ?_⟩⟩)
  rw [hnew]
  exact ⟨.ref _, _, I.lnew (t' := s.toks) (r.rep k.toNat) (by rw [PyProof.Rows.lm_len_rep_flat, Nat.mul_comm]; exact hz), rfl, q _ I.fresh⟩

theorem RepD.lst {xs : List PV} {x : V} (h : RepD L H μ (.lst xs) x) : ∃ a vs, x = .ref a ∧ Rd H a (.lst vs) ∧ Reps L H μ xs vs := h
theorem RepD.set {xs : List PV} {x : V} (h : RepD L H μ (.set xs) x) : ∃ a vs, x = .ref a ∧ SqSm L.K L.hid H μ a vs ∧ Reps L H μ xs vs := by
  have h : Rep L H μ (.set xs) x := h
  rwa [Rep] at h
theorem RepD.tup {xs : List PV} {x : V} (h : RepD L H μ (.tup xs) x) : ∃ a vs, x = .ref a ∧ SqTm L.K L.hid H μ a vs ∧ Reps L H μ xs vs := by
  have h : Rep L H μ (.tup xs) x := h
  rwa [Rep] at h
theorem RepD.int {i : Int} {x : V} (h : RepD L H μ (.int i) x) : x = .int i := by
  have h : Rep L H μ (.int i) x := h
  rwa [Rep] at h
theorem RepD.bl {i : Bool} {x : V} (h : RepD L H μ (.bl i) x) : x = .bl i := by
  have h : Rep L H μ (.bl i) x := h
  rwa [Rep] at h
theorem RepD.str {i : List Nat} {x : V} (h : RepD L H μ (.str i) x) : x = .str ⟨i.toArray⟩ := by
  have h : Rep L H μ (.str i) x := h
  rwa [Rep] at h
theorem Rep.int_ {i : Int} : Rep L H μ (.int i) (.int i) := by rw [Rep]
theorem Rep.bl_ {i : Bool} : Rep L H μ (.bl i) (.bl i) := by rw [Rep]
theorem Rep.non_ : Rep L H μ .non .non := by rw [Rep]
theorem Rep.str_ {i : List Nat} : Rep L H μ (.str i) (.str ⟨i.toArray⟩) := by rw [Rep]
theorem Rep.tup_ {xs : List PV} {a : Addr} {vs : List V} (h : SqTm L.K L.hid H μ a vs) (r : Reps L H μ xs vs) : Rep L H μ (.tup xs) (.ref a) := by rw [Rep]; exact ⟨a, vs, rfl, h, r⟩

theorem add_inv {x y v : PV} (h : binop .add x y = some v) : (∃ i j, x = .int i ∧ y = .int j ∧ v = .int (i + j)) ∨ (∃ i j, x = .str i ∧ y = .str j ∧ i.length + j.length ≤ lim ∧ v = .str (i ++ j)) ∨
    (∃ i j, x = .tup i ∧ y = .tup j ∧ i.length + j.length ≤ lim ∧ v = .tup (i ++ j)) ∨ (∃ i j, x = .lst i ∧ y = .lst j ∧ i.length + j.length ≤ lim ∧ v = .lst (i ++ j)) ∨ (∃ i j, x = .lst i ∧ y = .set j ∧ i.length + j.length ≤ lim ∧ v = .lst (i ++ j)) := by
  cases x <;> cases y <;> simp_all [binop]
theorem mul_inv {x y v : PV} (h : binop .mul x y = some v) : (∃ i j, x = .int i ∧ y = .int j ∧ ((-i64 < i ∧ i < i64) ∨ (-i64 < j ∧ j < i64)) ∧ v = .int (i * j)) ∨
    (∃ i k, x = .lst i ∧ y = .int k ∧ (-i62 ≤ k ∧ k < i62 ∧ i.length * k.toNat ≤ lim) ∧ v = .lst (List.replicate k.toNat i).flatten) := by
  cases x <;> cases y <;> simp_all [binop]
theorem int_inv {op : BOp} (ha : op ≠ .add) (hm : op ≠ .mul) {x y v : PV} (h : binop op x y = some v) : ∃ i j, x = .int i ∧ y = .int j := by
  cases op <;> cases x <;> cases y <;> simp_all [binop]

/-- ints in, an int out -/
theorem r2_int {op : Operator} {bop : BOp} (ha : bop ≠ .add) (hm : bop ≠ .mul)
    (rule : ∀ (i j : Int) v, binop bop (.int i) (.int j) = some v → ∃ k, v = .int k ∧ ∀ (t u : Tok) (s : Shared) (Q E : Value → Shared → Prop), Q (.int k s.toks) { s with toks := s.toks + 1 } → wpAny (model X.prog X.w) X.A (binaryOp op (.int i t) (.int j u)) Q E s) :
    OpR X (binaryOp op) (r2 L fun st x y => binop bop (der st x) (der st y)) := by
  intro pins s σ H x1 y1 v1 u1 Q I rx ry ⟨μ, env, st, σ', x, y, v, S, r1, r2, e, q⟩
  simp only at e
  have d1 := r1.d S
  have d2 := r2.d S
  generalize der st x = x' at d1 e
  generalize der st y = y' at d2 e
  obtain ⟨i, j, rfl, rfl⟩ := int_inv ha hm e
  obtain rfl := d1.int
  obtain rfl := d2.int
  obtain ⟨k, rfl, hr⟩ := rule i j v e
  obtain ⟨t, rfl⟩ := rx
  obtain ⟨u, rfl⟩ := ry
  exact hr t u s _ _ ⟨.int k, H, I.tok _, ⟨_, rfl⟩, q μ H (.int k) S Rep.int_ (Ext.refl _ _)⟩
theorem o_sub : OpR X (binaryOp .Sub) (r2 L fun st x y => binop .sub (der st x) (der st y)) := r2_int (by decide) (by decide) fun i j v e => by
  simp only [binop, Option.some.injEq] at e; exact ⟨_, e.symm, fun t u s Q E q => sub_int q⟩
theorem o_fdiv : OpR X (binaryOp .FloorDiv) (r2 L fun st x y => binop .fdiv (der st x) (der st y)) := r2_int (by decide) (by decide) fun i j v e => by
  simp only [binop, Option.ite_none_right_eq_some, Option.some.injEq] at e
  obtain ⟨⟨h1, h2⟩, rfl⟩ := e
  unfold i64 at h2
  have h9 : j.natAbs.log2 < 9000 := by
    by_cases hz : j.natAbs = 0
    · rw [hz]; decide
    · exact Nat.lt_of_lt_of_le ((Nat.log2_lt hz).mpr (show j.natAbs < 2 ^ 64 by omega)) (by decide)
  exact ⟨_, rfl, fun t u s Q E q => floordiv_int (by omega) (by rw [Int.fdiv_eq_ediv_of_nonneg i (by omega)]; exact q) (.inl (PyProof.noPylong_of_log2 h9))⟩
theorem o_mod : OpR X (binaryOp .Mod) (r2 L fun st x y => binop .mod (der st x) (der st y)) := r2_int (by decide) (by decide) fun i j v e => by
  simp only [binop, Option.ite_none_right_eq_some, Option.some.injEq] at e
  obtain ⟨h1, rfl⟩ := e
  exact ⟨_, rfl, fun t u s Q E q => mod_int' (by omega) (by rw [Int.fmod_eq_emod_of_nonneg i (by omega)]; exact q)⟩
theorem o_pow : OpR X (binaryOp .Pow) (r2 L fun st x y => binop .pow (der st x) (der st y)) := r2_int (by decide) (by decide) fun i j v e => by
  simp only [binop, Option.ite_none_right_eq_some, Option.some.injEq] at e
  obtain ⟨⟨h1, h2, h3, h4⟩, rfl⟩ := e
  unfold i64 at h3 h4
  exact ⟨_, rfl, fun t u s Q E q => pow_int_small h1 h2 (by omega) q⟩
theorem o_shl : OpR X (binaryOp .LShift) (r2 L fun st x y => binop .shl (der st x) (der st y)) := r2_int (by decide) (by decide) fun i j v e => by
  simp only [binop, Option.ite_none_right_eq_some, Option.some.injEq] at e
  obtain ⟨⟨h1, h2, h3, h4⟩, rfl⟩ := e
  unfold i64 at h3 h4
  exact ⟨_, rfl, fun t u s Q E q => lshift_int_small h1 h2 (by omega) q⟩
theorem o_shr : OpR X (binaryOp .RShift) (r2 L fun st x y => binop .shr (der st x) (der st y)) := r2_int (by decide) (by decide) fun i j v e => by
  simp only [binop, Option.ite_none_right_eq_some, Option.some.injEq] at e
  obtain ⟨h1, rfl⟩ := e
  exact ⟨_, rfl, fun t u s Q E q => rshift_int h1 (by rw [Int.fdiv_eq_ediv_of_nonneg i (two_pow_nn _)]; exact q)⟩
theorem o_and : OpR X (binaryOp .BitAnd) (r2 L fun st x y => binop .band (der st x) (der st y)) := r2_int (by decide) (by decide) fun i j v e => by
  simp only [binop, Option.ite_none_right_eq_some, Option.some.injEq] at e
  obtain ⟨⟨h1, h2⟩, rfl⟩ := e
  obtain ⟨n, rfl⟩ := Int.eq_ofNat_of_zero_le h1
  obtain ⟨m, rfl⟩ := Int.eq_ofNat_of_zero_le h2
  exact ⟨_, rfl, fun t u s Q E q => and_int (by rw [PySem.W.os_band]; exact q)⟩
theorem o_or : OpR X (binaryOp .BitOr) (r2 L fun st x y => binop .bor (der st x) (der st y)) := r2_int (by decide) (by decide) fun i j v e => by
  simp only [binop, Option.ite_none_right_eq_some, Option.some.injEq] at e
  obtain ⟨⟨h1, h2⟩, rfl⟩ := e
  obtain ⟨n, rfl⟩ := Int.eq_ofNat_of_zero_le h1
  obtain ⟨m, rfl⟩ := Int.eq_ofNat_of_zero_le h2
  exact ⟨_, rfl, fun t u s Q E q => or_int (by rw [bitOr_nn h1 h2]; exact q)⟩
theorem o_add (hK : X.K = L.K) : OpR X (binaryOp .Add) (r2 L fun st x y => binop .add (der st x) (der st y)) := by
  intro pins s σ H x1 y1 v1 u1 Q I rx ry ⟨μ, env, st, σ', x, y, v, S, r1, r2, e, q⟩
  simp only at e
  have d1 := r1.d S
  have d2 := r2.d S
  generalize der st x = x' at d1 e
  generalize der st y = y' at d2 e
  rcases add_inv e with ⟨i, j, rfl, rfl, rfl⟩ | ⟨i, j, rfl, rfl, hz, rfl⟩ | ⟨i, j, rfl, rfl, hz, rfl⟩ | ⟨i, j, rfl, rfl, hz, rfl⟩ | ⟨i, j, rfl, rfl, hz, rfl⟩
  · exact op_add pins s σ H x1 y1 v1 u1 Q I rx ry ⟨i, j, d1.int, d2.int, q μ H _ S Rep.int_ (Ext.refl _ _)⟩
  · refine op_add_str pins s σ H x1 y1 v1 u1 Q I rx ry ⟨_, _, d1.str, d2.str, ?_, ?_⟩
    · rw [← lim_eq]; simpa [Str.length] using hz
    · have e1 : (⟨i.toArray⟩ ++ ⟨j.toArray⟩ : Str) = ⟨(i ++ j).toArray⟩ := by
        show (⟨i.toArray ++ j.toArray⟩ : Str) = _
        simp
      rw [e1]
      exact q μ H _ S Rep.str_ (Ext.refl _ _)
  · obtain ⟨a, vs, rfl, s1, rv⟩ := d1.tup
    obtain ⟨b, ws, rfl, s2, rw'⟩ := d2.tup
    have l1 := rv.length
    have l2 := rw'.length
    refine op_catA pins s σ H _ _ v1 u1 Q I rx ry ⟨a, b, vs, ws, rfl, rfl, by rw [hK]; exact s1.sq, by rw [hK]; exact s2.sq, by rw [← lim_eq]; omega, fun h => ?_, fun _ h => ?_, fun _ _ p hp => ?_⟩
    · have : i = [] := by cases i with
        | nil => rfl
        | cons _ _ => rw [h] at l1; simp at l1
      subst this
      exact q μ H _ S (Rep.tup_ s2 (by simpa using rw')) (Ext.refl _ _)
    · have : j = [] := by cases j with
        | nil => rfl
        | cons _ _ => rw [h] at l2; simp at l2
      subst this
      exact q μ H _ S (Rep.tup_ s1 (by simpa using rv)) (Ext.refl _ _)
    · obtain ⟨a', b', c'⟩ := S.upt hp (rv.append rw')
      exact q μ _ _ a' b' c'
  · obtain ⟨a, vs, rfl, s1, rv⟩ := d1.lst
    obtain ⟨b, ws, rfl, s2, rw'⟩ := d2.lst
    have l1 := rv.length
    have l2 := rw'.length
    refine op_catR pins s σ H _ _ v1 u1 Q I rx ry ⟨a, b, vs, ws, rfl, rfl, s1, s2, by rw [← lim_eq]; omega, fun p hp => ?_⟩
    obtain ⟨a', b', c'⟩ := S.upl hp (rv.append rw')
    exact q μ _ _ a' b' c'
  · obtain ⟨a, vs, rfl, s1, rv⟩ := d1.lst
    obtain ⟨b, ws, rfl, s2, rw'⟩ := d2.set
    have l1 := rv.length
    have l2 := rw'.length
    refine op_catS hK pins s σ H _ _ v1 u1 Q I rx ry ⟨a, b, vs, ws, _, _, rfl, rfl, s1, s2, by rw [← lim_eq]; omega, fun p hp => ?_⟩
    obtain ⟨a', b', c'⟩ := S.upl hp (rv.append rw')
    exact q μ _ _ a' b' c'
theorem o_mul : OpR X (binaryOp .Mult) (r2 L fun st x y => binop .mul (der st x) (der st y)) := by
  intro pins s σ H x1 y1 v1 u1 Q I rx ry ⟨μ, env, st, σ', x, y, v, S, r1, r2, e, q⟩
  simp only at e
  have d1 := r1.d S
  have d2 := r2.d S
  generalize der st x = x' at d1 e
  generalize der st y = y' at d2 e
  rcases mul_inv e with ⟨i, j, rfl, rfl, hz, rfl⟩ | ⟨i, k, rfl, rfl, hz, rfl⟩
  · exact op_mul pins s σ H x1 y1 v1 u1 Q I rx ry ⟨i, j, d1.int, d2.int, by simpa [CMul, i64] using hz, q μ H _ S Rep.int_ (Ext.refl _ _)⟩
  · obtain ⟨a, vs, rfl, s1, rv⟩ := d1.lst
    have l1 := rv.length
    simp only [i62] at hz
    refine op_repR pins s σ H _ _ v1 u1 Q I rx ry ⟨a, k, vs, rfl, d2.int, s1, by omega, by omega, by rw [← lim_eq, ← l1]; exact hz.2.2, fun p hp => ?_⟩
    obtain ⟨a', b', c'⟩ := S.upl hp (rv.rep k.toNat)
    exact q μ _ _ a' b' c'
/-- list * int makes a fresh list -/
theorem pe_mulN {P : Prog} {cf : Nat → List PV → Store → Res PV} {a b : Expr} {ia ib : IE} {pos : Pos} (ha : PE X a (tE P cf L ia)) (hb : PE X b (tE P cf L ib)) : PE X (.BinOp a .Mult b pos) (tN P cf L (.bin .mul ia ib)) := by
  refine (pe_op op_repR ha hb).mono fun σ H Q q => ?_
  obtain ⟨μ, env, st, xs, st', S, ev, q⟩ := q
  rw [evalE] at ev
  obtain ⟨x, st1, e1, ev⟩ := Res.bind_eq_ok ev
  obtain ⟨y, st2, e2, ev⟩ := Res.bind_eq_ok ev
  obtain ⟨e3, rfl⟩ := Res.opt_eq_ok ev
  refine ⟨μ, env, st, x, st1, S, e1, fun μ1 H1 x1 S1 r1 E1 => ⟨μ1, env, st1, y, st', S1, e2, fun μ2 H2 y1 S2 r2 E2 => ?_⟩⟩
  have d1 := (r1.ext E2).d S2
  have d2 := r2.d S2
  generalize der st' x = x' at d1 e3
  generalize der st' y = y' at d2 e3
  rcases mul_inv e3 with ⟨i, j, rfl, rfl, hz, e4⟩ | ⟨i, k, rfl, rfl, hz, e4⟩
  · cases e4
  · cases e4
    obtain ⟨a, vs, rfl, s1, rv⟩ := d1.lst
    have l1 := rv.length
    simp only [i62] at hz
    exact ⟨a, k, vs, rfl, d2.int, s1, by omega, by omega, by rw [← lim_eq, ← l1]; exact hz.2.2, fun p hp => q μ2 H2 p _ S2 (rv.rep k.toNat) (E1.trans E2) hp⟩
end
end MP
namespace MP
open PySem PySem.Spec PyProof.Rows L2

section
variable {X : Cx} {L : Lay} {H : Hp} {μ : List Addr} {pins : List (Addr × Obj)} {σ : L2.St} {s : Shared}
theorem RepD.dp {v : PV} {x : V} (h : RepD L H μ v x) (d : PV.isD v = true) : Dp L.K H x (toD v) := by
  cases v with
  | lst xs =>
    obtain ⟨a, vs, rfl, q, r⟩ := h
    rw [toD]
    exact .lst (.inl q) (r.dp (by simpa [PV.isD] using d))
  | _ => exact Rep.dp (μ := μ) h d
theorem reads_of (hK : X.K = L.K) (I : Inv X pins σ H s) {v : PV} {x : V} {u : Value} (h : RepD L H μ v x) (d : depthOk v = true) (r : RelV x u) : ∃ as, Reads s.heap u (toD v) as :=
  Dp.reads I (toD v) x u (by rw [hK]; exact h.dp (isD_of d)) r
theorem depth_of {v : PV} (d : depthOk v = true) : (toD v).depth ≤ 60 := by
  unfold depthOk at d
  rw [Bool.and_eq_true] at d
  exact depth_toD 60 v d.2
theorem fin_b {Q : VK} {k : Bool} (I : Inv X pins σ H s) (q : Q (.bl k) H) : EP X pins σ Q (.bool k) s := ⟨.bl k, H, I, rfl, q⟩
theorem any_eqv {x : PV} (dx : PV.isD x = true) : ∀ {ys : List PV}, PV.isDs ys = true → ((toDs ys).any fun z => PyData.eqv z (toD x)) = ys.any fun y => PV.eqv y x
  | [], _ => by simp [toDs]
  | y :: ys, h => by
    simp only [PV.isDs, Bool.and_eq_true] at h
    simp only [toDs, List.any_cons, any_eqv dx h.2, eqv_toD y x h.1 dx]

/-- a comparison by values -/
abbrev rC (L : Lay) (cop : COp) : R2 := r2 L fun st x y => (cmpop cop (der st x) (der st y)).map .bl
theorem rC_of {op : CmpOp} {cop : COp}
    (rule : ∀ (H : Hp) (s : Shared) (pins : List (Addr × Obj)) (σ : L2.St) (μ : List Addr) (x y : PV) (x1 y1 : V) (v u : Value) (b : Bool) (Q : Value → Shared → Prop), Inv X pins σ H s → RepD L H μ x x1 → RepD L H μ y y1 → RelV x1 v → RelV y1 u →
      cmpop cop x y = some b → (∀ s', Inv X pins σ H s' → Q (.bool b) s') → wpAny (model X.prog X.w) X.A (compareOp op v u) Q X.xe s) :
    OpR X (compareOp op) (rC L cop) := by
  intro pins s σ H x1 y1 v1 u1 Q I rx ry ⟨μ, env, st, σ', x, y, v, S, r1, r2, e, q⟩
  simp only at e
  have d1 := r1.d S
  have d2 := r2.d S
  generalize der st x = x' at d1 e
  generalize der st y = y' at d2 e
  cases hb : cmpop cop x' y' with
  | none => rw [hb] at e; cases e
  | some b =>
    rw [hb] at e
    cases e
    exact rule H s pins σ μ x' y' x1 y1 v1 u1 b _ I d1 d2 rx ry hb fun s' I' => fin_b I' (q μ H _ S Rep.bl_ (Ext.refl _ _))
theorem eq_inv {x y : PV} {b : Bool} (h : cmpop .eq x y = some b) : (∃ i j, x = .str i ∧ y = .str j ∧ b = (i == j)) ∨ (∃ i j, x = .int i ∧ y = .int j ∧ b = (i == j)) ∨ (depthOk x = true ∧ depthOk y = true ∧ b = PV.eqv x y) := by
  unfold cmpop at h
  split at h <;> simp_all
theorem ne_inv {x y : PV} {b : Bool} (h : cmpop .ne x y = some b) : (∃ i j, x = .str i ∧ y = .str j ∧ b = (i != j)) ∨ (∃ i j, x = .int i ∧ y = .int j ∧ b = (i != j)) ∨ (depthOk x = true ∧ depthOk y = true ∧ b = !PV.eqv x y) := by
  unfold cmpop at h
  split at h <;> simp_all
theorem str_dec (i j : List Nat) : decide (V.str ⟨i.toArray⟩ = V.str ⟨j.toArray⟩) = (i == j) := by
  rw [Bool.eq_iff_iff, beq_iff_eq, decide_eq_true_iff]
  constructor
  · intro e
    injection e with e
    simpa using congrArg (fun z : Str => z.cps.toList) e
  · intro e; rw [e]
theorem c_eq (hK : X.K = L.K) (hu : X.A.units + 64 < cLine) : OpR X (compareOp .Eq) (rC L .eq) := rC_of fun H s pins σ μ x y x1 y1 v u b Q I r1 r2 rx ry e q => by
  rcases eq_inv e with ⟨i, j, rfl, rfl, rfl⟩ | ⟨i, j, rfl, rfl, rfl⟩ | ⟨d1, d2, rfl⟩
  · obtain rfl := r1.str
    obtain rfl := r2.str
    refine wpAny_mono (op_eq pins s σ H _ _ v u (fun z H' => z = .bl (i == j) ∧ H' = H) I rx ry ⟨rfl, by rw [str_dec], rfl⟩) (fun a s' h => ?_) fun _ _ h => h
    obtain ⟨z, H', I', rz, e1, e2⟩ := h
    subst e1 e2
    cases rz
    exact q s' I'
  · obtain rfl := r1.int
    obtain rfl := r2.int
    obtain ⟨t, rfl⟩ := rx
    obtain ⟨t', rfl⟩ := ry
    exact eq_int (q s I)
  · obtain ⟨as, h1⟩ := reads_of hK I r1 d1 rx
    obtain ⟨bs, h2⟩ := reads_of hK I r2 d2 ry
    refine SeqAt.compareEq_shaped h1 h2 (shaped_toD d1) (shaped_toD d2) hu ?_
    rw [eqv_toD x y (isD_of d1) (isD_of d2)]
    exact q s I
theorem c_ne (hK : X.K = L.K) (hu : X.A.units + 64 < cLine) : OpR X (compareOp .NotEq) (rC L .ne) := rC_of fun H s pins σ μ x y x1 y1 v u b Q I r1 r2 rx ry e q => by
  rcases ne_inv e with ⟨i, j, rfl, rfl, rfl⟩ | ⟨i, j, rfl, rfl, rfl⟩ | ⟨d1, d2, rfl⟩
  · obtain rfl := r1.str
    obtain rfl := r2.str
    refine wpAny_mono (op_ne pins s σ H _ _ v u (fun z H' => z = .bl (i != j) ∧ H' = H) I rx ry ⟨rfl, by rw [str_dec]; rfl, rfl⟩) (fun a s' h => ?_) fun _ _ h => h
    obtain ⟨z, H', I', rz, e1, e2⟩ := h
    subst e1 e2
    cases rz
    exact q s' I'
  · obtain rfl := r1.int
    obtain rfl := r2.int
    obtain ⟨t, rfl⟩ := rx
    obtain ⟨t', rfl⟩ := ry
    exact ne_int (q s I)
  · obtain ⟨as, h1⟩ := reads_of hK I r1 d1 rx
    obtain ⟨bs, h2⟩ := reads_of hK I r2 d2 ry
    refine SeqAt.compareNe_shaped h1 h2 (shaped_toD d1) (shaped_toD d2) hu ?_
    rw [eqv_toD x y (isD_of d1) (isD_of d2)]
    exact q s I
theorem ltOk_inv {x y : PV} (h : ltOk x y = true) : depthOk x = true ∧ depthOk y = true ∧ PV.alike x y = true ∧ x ≠ .non := by
  unfold ltOk at h
  simp only [Bool.and_eq_true, Bool.not_eq_true'] at h
  refine ⟨h.1.1.1, h.1.1.2, h.1.2, fun e => ?_⟩
  subst e
  exact absurd h.2 (by simp [PV.beq])
theorem toD_ne {x : PV} (d : PV.isD x = true) (h : x ≠ .non) : toD x ≠ .none := by
  cases x <;> simp_all [toD, PV.isD]
theorem alike_comm : ∀ (x y : PV), PV.alike x y = true → PySem.W.alike (toD y) (toD x) = true := fun x y h => by
  rw [PySem.W.alike_comm]; exact alike_toD x y h
theorem alikeC : ∀ (x y : PV), PV.alike x y = PV.alike y x
  | .non, y | .bl _, y | .int _, y | .str _, y => by cases y <;> simp [PV.alike]
  | .tup xs, y => by
    cases y <;> simp [PV.alike]
    exact alikesC _ _
  | .lst xs, y => by
    cases y <;> simp [PV.alike]
    exact alikesC _ _
  | .set _, y | .dic _ _, y | .obj _ _ _, y | .ref _, y | .fn _, y => by cases y <;> simp [PV.alike]
where alikesC : ∀ (xs ys : List PV), PV.alikes xs ys = PV.alikes ys xs
  | [], [] => rfl
  | [], _ :: _ => by simp [PV.alikes]
  | _ :: _, [] => by simp [PV.alikes]
  | x :: xs, y :: ys => by simp only [PV.alikes]; rw [alikeC x y, alikesC xs ys]
theorem c_ord {op : CmpOp} {cop : COp} (hK : X.K = L.K) (hu : X.A.units + 64 < cLine) {f : PV → PV → Bool} {g : PyData → PyData → Bool} (hc : ∀ x y b, cmpop cop x y = some b → ltOk x y = true ∧ b = f x y)
    (hg : ∀ x y, PV.isD x = true → PV.isD y = true → PV.alike x y = true → g (toD x) (toD y) = f x y)
    (rule : ∀ {s : Shared} {a b : Value} {da db : PyData} {as bs : List Addr} {Q E : Value → Shared → Prop}, Reads s.heap a da as → Reads s.heap b db bs → PySem.W.alike da db = true → da ≠ .none → X.A.units + min da.depth db.depth < cLine → Q (.bool (g da db)) s → wpAny (model X.prog X.w) X.A (compareOp op a b) Q E s) :
    OpR X (compareOp op) (rC L cop) := rC_of fun H s pins σ μ x y x1 y1 v u b Q I r1 r2 rx ry e q => by
  obtain ⟨h, rfl⟩ := hc x y b e
  obtain ⟨d1, d2, al, nn⟩ := ltOk_inv h
  obtain ⟨as, h1⟩ := reads_of hK I r1 d1 rx
  obtain ⟨bs, h2⟩ := reads_of hK I r2 d2 ry
  have k1 := depth_of d1
  refine rule h1 h2 (alike_toD x y al) (toD_ne (isD_of d1) nn) (by omega) ?_
  rw [hg x y (isD_of d1) (isD_of d2) al]
  exact q s I
theorem if_inv {c b k : Bool} (h : (if c = true then some k else none) = some b) : c = true ∧ b = k := by
  split at h
  · cases h; exact ⟨by assumption, rfl⟩
  · cases h
theorem c_lt (hK : X.K = L.K) (hu : X.A.units + 64 < cLine) : OpR X (compareOp .Lt) (rC L .lt) :=
  c_ord (f := PV.lt) (g := PySem.W.dataLt) hK hu (fun x y b h => if_inv h) (fun x y a b c => lt_toD x y a b c) fun h1 h2 h3 h4 h5 h6 => PySem.W.lt_data h1 h2 h3 h4 h5 h6
theorem c_gt (hK : X.K = L.K) (hu : X.A.units + 64 < cLine) : OpR X (compareOp .Gt) (rC L .gt) :=
  c_ord (f := fun x y => PV.lt y x) (g := fun x y => PySem.W.dataLt y x) hK hu (fun x y b h => if_inv h) (fun x y a b c => lt_toD y x b a (by rw [alikeC]; exact c)) fun h1 h2 h3 h4 h5 h6 => PySem.W.gt_data h1 h2 h3 h4 h5 h6
theorem c_le (hK : X.K = L.K) (hu : X.A.units + 64 < cLine) : OpR X (compareOp .LtE) (rC L .le) :=
  c_ord (f := fun x y => !PV.lt y x) (g := fun x y => !PySem.W.dataLt y x) hK hu (fun x y b h => if_inv h) (fun x y a b c => by rw [lt_toD y x b a (by rw [alikeC]; exact c)]) fun h1 h2 h3 h4 h5 h6 => PySem.W.le_data h1 h2 h3 h4 h5 h6
theorem c_ge (hK : X.K = L.K) (hu : X.A.units + 64 < cLine) : OpR X (compareOp .GtE) (rC L .ge) :=
  c_ord (f := fun x y => !PV.lt x y) (g := fun x y => !PySem.W.dataLt x y) hK hu (fun x y b h => if_inv h) (fun x y a b c => by rw [lt_toD x y a b c]) fun h1 h2 h3 h4 h5 h6 => PySem.W.ge_data h1 h2 h3 h4 h5 h6
theorem isDs_of_tup {ys : List PV} (h : depthOk (.tup ys) = true) : PV.isDs ys = true := by
  have := isD_of h
  simpa [PV.isD] using this
theorem isDs_of_lst {ys : List PV} (h : depthOk (.lst ys) = true) : PV.isDs ys = true := by
  have := isD_of h
  simpa [PV.isD] using this
theorem in_inv {x y : PV} {b : Bool} (h : cmpop .isin x y = some b) : (∃ ys, (y = .tup ys ∨ y = .lst ys) ∧ depthOk x = true ∧ depthOk y = true ∧ b = ys.any fun y => PV.eqv y x) ∨ (∃ c z, x = .str [c] ∧ y = .str z ∧ b = decide (c ∈ z)) := by
  unfold cmpop at h
  split at h <;> simp_all
theorem notin_inv {x y : PV} {b : Bool} (h : cmpop .notin x y = some b) : (∃ ys, (y = .tup ys ∨ y = .lst ys) ∧ depthOk x = true ∧ depthOk y = true ∧ b = !ys.any fun y => PV.eqv y x) ∨ (∃ c z, x = .str [c] ∧ y = .str z ∧ b = !decide (c ∈ z)) := by
  unfold cmpop at h
  split at h <;> simp_all
theorem c_in (hK : X.K = L.K) (hu : X.A.units + 65 < cLine) : OpR X (compareOp .In) (rC L .isin) := rC_of fun H s pins σ μ x y x1 y1 v u b Q I r1 r2 rx ry e q => by
  rcases in_inv e with ⟨ys, h, d1, d2, rfl⟩ | ⟨c, z, rfl, rfl, rfl⟩
  · obtain ⟨as, h1⟩ := reads_of hK I r1 d1 rx
    obtain ⟨bs, h2⟩ := reads_of hK I r2 d2 ry
    rcases h with rfl | rfl
    · rw [toD] at h2
      refine SeqAt.in_tuple_reads h2 h1 (canLays_toD ys (isDs_of_tup d2)) (canLay_toD x (isD_of d1)) (room_in_shaped (shaped_toD d1) hu) ?_
      rw [any_eqv (isD_of d1) (isDs_of_tup d2)]
      exact q s I
    · rw [toD] at h2
      refine SeqAt.in_list_reads h2 h1 (canLays_toD ys (isDs_of_lst d2)) (canLay_toD x (isD_of d1)) (room_in_shaped (shaped_toD d1) hu) ?_
      rw [any_eqv (isD_of d1) (isDs_of_lst d2)]
      exact q s I
  · obtain rfl := r1.str
    obtain rfl := r2.str
    refine wpAny_mono (op_in_sign pins s σ H _ _ v u (fun z' H' => z' = .bl (decide (c ∈ z)) ∧ H' = H) I rx ry ⟨c, _, rfl, rfl, by simp, rfl⟩) (fun a s' h => ?_) fun _ _ h => h
    obtain ⟨z, H', I', rz, e1, e2⟩ := h
    subst e1 e2
    cases rz
    exact q s' I'
theorem c_notin (hK : X.K = L.K) (hu : X.A.units + 65 < cLine) : OpR X (compareOp .NotIn) (rC L .notin) := rC_of fun H s pins σ μ x y x1 y1 v u b Q I r1 r2 rx ry e q => by
  rcases notin_inv e with ⟨ys, h, d1, d2, rfl⟩ | ⟨c, z, rfl, rfl, rfl⟩
  · obtain ⟨as, h1⟩ := reads_of hK I r1 d1 rx
    obtain ⟨bs, h2⟩ := reads_of hK I r2 d2 ry
    rcases h with rfl | rfl
    · rw [toD] at h2
      refine SeqAt.notIn_tuple_reads h2 h1 (canLays_toD ys (isDs_of_tup d2)) (canLay_toD x (isD_of d1)) (room_in_shaped (shaped_toD d1) hu) ?_
      rw [any_eqv (isD_of d1) (isDs_of_tup d2)]
      exact q s I
    · rw [toD] at h2
      refine SeqAt.notIn_list_reads h2 h1 (canLays_toD ys (isDs_of_lst d2)) (canLay_toD x (isD_of d1)) (room_in_shaped (shaped_toD d1) hu) ?_
      rw [any_eqv (isD_of d1) (isDs_of_lst d2)]
      exact q s I
  · obtain rfl := r1.str
    obtain rfl := r2.str
    refine wpAny_mono (op_notIn_sign pins s σ H _ _ v u (fun z' H' => z' = .bl (!decide (c ∈ z)) ∧ H' = H) I rx ry ⟨c, _, rfl, rfl, by simp, rfl⟩) (fun a s' h => ?_) fun _ _ h => h
    obtain ⟨z, H', I', rz, e1, e2⟩ := h
    subst e1 e2
    cases rz
    exact q s' I'
theorem is_inv {x y : PV} {b : Bool} (h : cmpop .is x y = some b) : (y = .non ∧ b = PV.beq x .non) ∨ (∃ i j, x = .bl i ∧ y = .bl j ∧ b = (i == j)) := by
  unfold cmpop at h
  split at h <;> simp_all
theorem isnot_inv {x y : PV} {b : Bool} (h : cmpop .isnot x y = some b) : (y = .non ∧ b = !PV.beq x .non) ∨ (∃ i j, x = .bl i ∧ y = .bl j ∧ b = (i != j)) := by
  unfold cmpop at h
  split at h <;> simp_all
theorem RepD.non {x : V} (h : RepD L H μ .non x) : x = .non := by
  have h : Rep L H μ .non x := h
  rwa [Rep] at h
theorem RepD.isnon {v : PV} {x : V} (h : RepD L H μ v x) : decide (x = .non) = PV.beq v .non := by
  cases v with
  | lst xs => obtain ⟨a, vs, rfl, _, _⟩ := h; simp [PV.beq]
  | non => rw [h.non]; simp [PV.beq]
  | bl b => rw [h.bl]; simp [PV.beq]
  | int b => rw [h.int]; simp [PV.beq]
  | str b => rw [h.str]; simp [PV.beq]
  | tup xs => obtain ⟨a, vs, rfl, _, _⟩ := h.tup; simp [PV.beq]
  | set xs => have h : Rep L H μ (.set xs) x := h; rw [Rep] at h; obtain ⟨a, vs, rfl, _⟩ := h; simp [PV.beq]
  | dic xs ys => have h : Rep L H μ (.dic xs ys) x := h; rw [Rep] at h; exact h.elim
  | obj c ks vs => have h : Rep L H μ (.obj c ks vs) x := h; rw [Rep] at h; obtain ⟨a, dx, ws, rfl, _⟩ := h; simp [PV.beq]
  | ref n => have h : Rep L H μ (.ref n) x := h; rw [Rep] at h; obtain ⟨a, _, rfl⟩ := h; simp [PV.beq]
  | fn n => have h : Rep L H μ (.fn n) x := h; rw [Rep] at h; rw [h]; simp [PV.beq]
theorem c_is : OpR X (compareOp .Is) (rC L .is) := rC_of fun H s pins σ μ x y x1 y1 v u b Q I r1 r2 rx ry e q => by
  rcases is_inv e with ⟨rfl, rfl⟩ | ⟨i, j, rfl, rfl, rfl⟩
  · obtain rfl := r2.non
    refine wpAny_mono (op_isN pins s σ H _ _ v u (fun z' H' => z' = .bl (PV.beq x .non) ∧ H' = H) I rx ry ⟨rfl, by rw [r1.isnon], rfl⟩) (fun a s' h => ?_) fun _ _ h => h
    obtain ⟨z, H', I', rz, e1, e2⟩ := h
    subst e1 e2
    cases rz
    exact q s' I'
  · obtain rfl := r1.bl
    obtain rfl := r2.bl
    refine wpAny_mono (op_is_bl pins s σ H _ _ v u (fun z' H' => z' = .bl (i == j) ∧ H' = H) I rx ry ⟨i, j, rfl, rfl, by cases i <;> cases j <;> rfl, rfl⟩) (fun a s' h => ?_) fun _ _ h => h
    obtain ⟨z, H', I', rz, e1, e2⟩ := h
    subst e1 e2
    cases rz
    exact q s' I'
theorem c_isnot : OpR X (compareOp .IsNot) (rC L .isnot) := rC_of fun H s pins σ μ x y x1 y1 v u b Q I r1 r2 rx ry e q => by
  rcases isnot_inv e with ⟨rfl, rfl⟩ | ⟨i, j, rfl, rfl, rfl⟩
  · obtain rfl := r2.non
    refine wpAny_mono (op_notN pins s σ H _ _ v u (fun z' H' => z' = .bl (!PV.beq x .non) ∧ H' = H) I rx ry ⟨rfl, by rw [r1.isnon], rfl⟩) (fun a s' h => ?_) fun _ _ h => h
    obtain ⟨z, H', I', rz, e1, e2⟩ := h
    subst e1 e2
    cases rz
    exact q s' I'
  · obtain rfl := r1.bl
    obtain rfl := r2.bl
    refine wpAny_mono (op_isnot_bl pins s σ H _ _ v u (fun z' H' => z' = .bl (i != j) ∧ H' = H) I rx ry ⟨i, j, rfl, rfl, by cases i <;> cases j <;> rfl, rfl⟩) (fun a s' h => ?_) fun _ _ h => h
    obtain ⟨z, H', I', rz, e1, e2⟩ := h
    subst e1 e2
    cases rz
    exact q s' I'
end
end MP
namespace MP
open PySem PySem.Spec PyProof.Rows L2

section
variable {X : Cx} {L : Lay} {H : Hp} {μ : List Addr} {pins : List (Addr × Obj)} {σ : L2.St} {s : Shared}
/-! ### subscripts -/
theorem seqIx_ixN (n : Nat) (i : Int) : seqIx n i = ixN n i := rfl
theorem ix_ok (hK : X.K = L.K) : IxR X (r2 L fun st x y => index1 (der st x) y) := by
  intro va sl pins s σ H x1 y1 v1 u1 Q I rx ry ⟨μ, env, st, σ', x, y, v, S, r1, r2, e, q⟩ hp
  simp only at e
  have d1 := r1.d S
  generalize der st x = x' at d1 e
  refine ix_seq va sl pins s σ H x1 y1 v1 u1 Q I rx ry ?_ hp
  unfold index1 at e
  split at e
  · rename_i xs i
    obtain ⟨a, vs, rfl, s1, rv⟩ := d1.tup
    rw [Rep] at r2
    cases hj : seqIx xs.length i with
    | none => rw [hj] at e; cases e
    | some j =>
      rw [hj] at e
      have e : xs[j]? = some v := e
      obtain ⟨z, hz, rz⟩ := rv.get e
      refine .inr (.inl ⟨a, vs, i, z, rfl, r2, by rw [hK]; exact s1.sq, ?_, q μ H z S rz (Ext.refl _ _)⟩)
      unfold atI
      rw [← rv.length, ← seqIx_ixN, hj]
      exact hz
  · rename_i xs i
    obtain ⟨a, vs, rfl, s1, rv⟩ := d1.lst
    rw [Rep] at r2
    cases hj : seqIx xs.length i with
    | none => rw [hj] at e; cases e
    | some j =>
      rw [hj] at e
      have e : xs[j]? = some v := e
      obtain ⟨z, hz, rz⟩ := rv.get e
      refine .inl ⟨a, vs, i, z, rfl, r2, .inl s1, ?_, q μ H z S rz (Ext.refl _ _)⟩
      unfold atI
      rw [← rv.length, ← seqIx_ixN, hj]
      exact hz
  · rename_i xs i
    have d1 : Rep L H μ (.set xs) x1 := d1
    rw [Rep] at d1
    obtain ⟨a, vs, rfl, s1, rv⟩ := d1
    rw [Rep] at r2
    cases hj : seqIx xs.length i with
    | none => rw [hj] at e; cases e
    | some j =>
      rw [hj] at e
      have e : xs[j]? = some v := e
      obtain ⟨z, hz, rz⟩ := rv.get e
      refine .inl ⟨a, vs, i, z, rfl, r2, by rw [hK]; exact s1.sq, ?_, q μ H z S rz (Ext.refl _ _)⟩
      unfold atI
      rw [← rv.length, ← seqIx_ixN, hj]
      exact hz
  · cases e
/-! ### slices -/
theorem cutIx_sIx (n d : Nat) (o : Option Int) : cutIx n d o = HT.sIx n d o := by
  cases o <;> rfl
theorem cut_cutV (xs : List V) (lo hi : Option Int) : cut xs lo hi = cutV xs lo hi := by
  unfold cut cutV
  rw [cutIx_sIx, cutIx_sIx]
theorem Reps.cut {xs : List PV} {vs : List V} (r : Reps L H μ xs vs) (lo hi : Option Int) : Reps L H μ (cut xs lo hi) (cutV vs lo hi) := by
  rw [← cut_cutV]
  unfold MP.cut
  rw [r.length]
  exact (r.drop _).take _
def rSl (L : Lay) : V → Option Int → Option Int → Hp → VK → Prop := fun x1 lo hi H Q => ∃ μ env st σ x v, SR L μ env st σ H ∧ Rep L H μ x x1 ∧ slice1 (der st x) lo hi = some v ∧
  ∀ μ' H' z, SR L μ' env st σ H' → Rep L H' μ' v z → Ext μ H μ' H' → Q z H'
theorem sl_ok (hK : X.K = L.K) : SlR X (rSl L) := by
  have base := SlR.or (sl_tupA (X := X)) (sl_list (X := X))
  intro pins s σ H x1 v1 vl vu lo hi sl Q I rx hs pl pu ⟨μ, env, st, σ', x, v, S, r1, e, q⟩
  have d1 := r1.d S
  generalize der st x = x' at d1 e
  refine base pins s σ H x1 v1 vl vu lo hi sl Q I rx hs pl pu ?_
  cases x' with
  | tup xs =>
    cases e
    obtain ⟨a, vs, rfl, s1, rv⟩ := d1.tup
    refine .inl ⟨a, vs, rfl, by rw [hK]; exact s1.sq, fun h => ?_, fun _ p hp => ?_⟩
    · have e : cut xs lo hi = xs := by
        unfold MP.cut
        rw [cutIx_sIx, cutIx_sIx, rv.length, h.1, h.2]
        simp [← rv.length]
      exact q μ H _ S (Rep.tup_ s1 (by rw [e]; exact rv)) (Ext.refl _ _)
    · obtain ⟨a', b', c'⟩ := S.upt hp (rv.cut lo hi)
      exact q μ _ _ a' b' c'
  | lst xs =>
    cases e
    obtain ⟨a, vs, rfl, s1, rv⟩ := d1.lst
    refine .inr ⟨a, vs, rfl, .inl s1, fun p hp => ?_⟩
    obtain ⟨a', b', c'⟩ := S.upl hp (rv.cut lo hi)
    exact q μ _ _ a' b' c'
  | set xs =>
    cases e
    have d1 : Rep L H μ (.set xs) x1 := d1
    rw [Rep] at d1
    obtain ⟨a, vs, rfl, s1, rv⟩ := d1
    refine .inr ⟨a, vs, rfl, by rw [hK]; exact s1.sq, fun p hp => ?_⟩
    obtain ⟨a', b', c'⟩ := S.upl hp (rv.cut lo hi)
    exact q μ _ _ a' b' c'
  | _ => cases e
/-! ### built-ins of one argument -/
def r1 (L : Lay) (g : Store → PV → Option PV) : List V → Hp → VK → Prop := fun xs H Q => ∃ μ env st σ x v x1, xs = [x1] ∧ SR L μ env st σ H ∧ Rep L H μ x x1 ∧ g st x = some v ∧
  ∀ μ' H' z, SR L μ' env st σ H' → Rep L H' μ' v z → Ext μ H μ' H' → Q z H'
abbrev rP (L : Lay) (p : P1) := r1 L fun st x => prim1 p (der st x)
theorem rP_of {f : Value} {p : P1} {r : List V → Hp → VK → Prop} (h : CallR X f r)
    (m : ∀ (H : Hp) (μ : List Addr) (env : Env) (st : Store) (σ : L2.St) (x v : PV) (x1 : V) (Q : VK), SR L μ env st σ H → RepD L H μ x x1 → prim1 p x = some v → (∀ μ' H' z, SR L μ' env st σ H' → Rep L H' μ' v z → Ext μ H μ' H' → Q z H') → r [x1] H Q) :
    CallR X f (rP L p) := by
  intro pins s σ H xs us Q I rv h
  obtain ⟨μ, env, st, σ', x, v, x1, rfl, S, r1, e, q⟩ := h
  exact h pins s σ H _ us Q I rv (m H μ env st σ' (der st x) v x1 Q S (r1.d S) e q)
theorem len_le_line (I : Inv X pins σ H s) {x : List Nat} : True := trivial
theorem p_len (hK : X.K = L.K) : CallR X (.builtin "len") (rP L .len) := by
  refine rP_of call_len fun H μ env st σ x v x1 Q S d e q => ?_
  cases x with
  | tup xs =>
    simp only [prim1, Option.some.injEq] at e; subst e
    obtain ⟨a, vs, rfl, s1, rv⟩ := d.tup
    exact ⟨_, vs.length, rfl, .inr ⟨vs, by rw [hK]; exact s1.sq, rfl⟩, q μ H _ S (by rw [rv.length]; exact Rep.int_) (Ext.refl _ _)⟩
  | lst xs =>
    simp only [prim1, Option.some.injEq] at e; subst e
    obtain ⟨a, vs, rfl, s1, rv⟩ := d.lst
    exact ⟨_, vs.length, rfl, .inl ⟨vs, .inl s1, rfl⟩, q μ H _ S (by rw [rv.length]; exact Rep.int_) (Ext.refl _ _)⟩
  | set xs =>
    simp only [prim1, Option.some.injEq] at e; subst e
    have d : Rep L H μ (.set xs) x1 := d
    rw [Rep] at d
    obtain ⟨a, vs, rfl, s1, rv⟩ := d
    exact ⟨_, vs.length, rfl, .inl ⟨vs, by rw [hK]; exact s1.sq, rfl⟩, q μ H _ S (by rw [rv.length]; exact Rep.int_) (Ext.refl _ _)⟩
  | _ => simp [prim1] at e
theorem p_tuple (hK : X.K = L.K) : CallR X (.type "tuple") (rP L .tuple) := by
  refine rP_of call_tuple_of fun H μ env st σ x v x1 Q S d e q => ?_
  cases x with
  | tup xs =>
    simp only [prim1, Option.some.injEq] at e; subst e
    obtain ⟨a, vs, rfl, s1, rv⟩ := d.tup
    exact ⟨a, vs, rfl, .inr ⟨by rw [hK]; exact s1.sq, q μ H _ S (Rep.tup_ s1 rv) (Ext.refl _ _)⟩⟩
  | lst xs =>
    simp only [prim1, Option.some.injEq] at e; subst e
    obtain ⟨a, vs, rfl, s1, rv⟩ := d.lst
    refine ⟨a, vs, rfl, .inl ⟨.inl s1, fun p hp => ?_⟩⟩
    obtain ⟨a', b', c'⟩ := S.upt hp rv
    exact q μ _ _ a' b' c'
  | _ => simp [prim1] at e
theorem list_inv {x v : PV} (e : prim1 .list x = some v) : ∃ xs, (x = .tup xs ∨ x = .lst xs) ∧ v = .lst xs := by
  cases x with
  | tup xs => cases e; exact ⟨xs, .inl rfl, rfl⟩
  | lst xs => cases e; exact ⟨xs, .inr rfl, rfl⟩
  | _ => cases e
theorem p_list (hK : X.K = L.K) : CallR X (.type "list") (rP L .list) := by
  refine rP_of call_list_of fun H μ env st σ x v x1 Q S d e q => ?_
  obtain ⟨xs, h, rfl⟩ := list_inv e
  rcases h with rfl | rfl
  · obtain ⟨a, vs, rfl, s1, rv⟩ := d.tup
    refine ⟨a, vs, rfl, .inr (by rw [hK]; exact s1.sq), fun p hp => ?_⟩
    obtain ⟨a', b', c'⟩ := S.upl hp rv
    exact q μ _ _ a' b' c'
  · obtain ⟨a, vs, rfl, s1, rv⟩ := d.lst
    refine ⟨a, vs, rfl, .inl (.inl s1), fun p hp => ?_⟩
    obtain ⟨a', b', c'⟩ := S.upl hp rv
    exact q μ _ _ a' b' c'
theorem Reps.ints : ∀ {xs : List PV} {vs : List V} {ns : List Int}, Reps L H μ xs vs → allInts xs = some ns → vs = ns.map V.int
  | [], vs, ns, r, e => by simp [allInts] at e; subst e; rw [r.of_nil]; rfl
  | x :: xs, vs, ns, r, e => by
    obtain ⟨v, t, rfl, h1, h2⟩ := r.of_cons
    cases x with
    | int i =>
      simp only [allInts, Option.map_eq_some_iff] at e
      obtain ⟨ms, e1, rfl⟩ := e
      rw [Rep] at h1
      rw [h1, Reps.ints h2 e1]; rfl
    | _ => simp [allInts] at e
theorem Reps.bls : ∀ {xs : List PV} {vs : List V} {ns : List Bool}, Reps L H μ xs vs → allBls xs = some ns → vs = ns.map V.bl
  | [], vs, ns, r, e => by simp [allBls] at e; subst e; rw [r.of_nil]; rfl
  | x :: xs, vs, ns, r, e => by
    obtain ⟨v, t, rfl, h1, h2⟩ := r.of_cons
    cases x with
    | bl i =>
      simp only [allBls, Option.map_eq_some_iff] at e
      obtain ⟨ms, e1, rfl⟩ := e
      rw [Rep] at h1
      rw [h1, Reps.bls h2 e1]; rfl
    | _ => simp [allBls] at e
theorem p_sum (hc : X.calm = true) : CallR X (.builtin "sum") (rP L .sum) := by
  refine rP_of (cr_sum hc) fun H μ env st σ x v x1 Q S d e q => ?_
  cases x with
  | lst xs =>
    simp only [prim1, Option.map_eq_some_iff] at e
    obtain ⟨ns, e1, rfl⟩ := e
    obtain ⟨a, vs, rfl, s1, rv⟩ := d.lst
    obtain rfl := rv.ints e1
    exact ⟨a, ns, rfl, .inl s1, q μ H _ S Rep.int_ (Ext.refl _ _)⟩
  | _ => simp [prim1] at e
theorem p_any (hc : X.calm = true) : CallR X (.builtin "any") (rP L .any) := by
  refine rP_of (cr_any hc) fun H μ env st σ x v x1 Q S d e q => ?_
  cases x with
  | lst xs =>
    simp only [prim1, Option.map_eq_some_iff] at e
    obtain ⟨ns, e1, rfl⟩ := e
    obtain ⟨a, vs, rfl, s1, rv⟩ := d.lst
    obtain rfl := rv.bls e1
    exact ⟨a, ns, rfl, .inl s1, q μ H _ S Rep.bl_ (Ext.refl _ _)⟩
  | _ => simp [prim1] at e
theorem p_all (hc : X.calm = true) : CallR X (.builtin "all") (rP L .all) := by
  refine rP_of (cr_all hc) fun H μ env st σ x v x1 Q S d e q => ?_
  cases x with
  | lst xs =>
    simp only [prim1, Option.map_eq_some_iff] at e
    obtain ⟨ns, e1, rfl⟩ := e
    obtain ⟨a, vs, rfl, s1, rv⟩ := d.lst
    obtain rfl := rv.bls e1
    exact ⟨a, ns, rfl, .inl s1, q μ H _ S Rep.bl_ (Ext.refl _ _)⟩
  | _ => simp [prim1] at e
theorem p_abs : CallR X (.builtin "abs") (rP L .abs) := by
  refine rP_of call_abs fun H μ env st σ x v x1 Q S d e q => ?_
  cases x with
  | int i =>
    simp only [prim1, Option.some.injEq] at e; subst e
    exact ⟨i, by rw [d.int], q μ H _ S Rep.int_ (Ext.refl _ _)⟩
  | _ => simp [prim1] at e
theorem p_int : CallR X (.type "int") (rP L .int) := by
  refine rP_of call_int1 fun H μ env st σ x v x1 Q S d e q => ?_
  cases x with
  | int i =>
    simp only [prim1, Option.some.injEq] at e; subst e
    exact .inl ⟨i, by rw [d.int], q μ H _ S Rep.int_ (Ext.refl _ _)⟩
  | bl b =>
    simp only [prim1, Option.some.injEq] at e; subst e
    exact .inr ⟨b, by rw [d.bl], q μ H _ S Rep.int_ (Ext.refl _ _)⟩
  | _ => simp [prim1] at e
/-! ### of two -/
abbrev rP2 (L : Lay) (p : P2) : List V → Hp → VK → Prop := fun xs H Q => ∃ μ env st σ x y v x1 y1, xs = [x1, y1] ∧ SR L μ env st σ H ∧ Rep L H μ x x1 ∧ Rep L H μ y y1 ∧ prim2 p x y = some v ∧
  ∀ μ' H' z, SR L μ' env st σ H' → Rep L H' μ' v z → Ext μ H μ' H' → Q z H'
theorem max_inv {x y v : PV} (e : prim2 .max x y = some v) : ∃ i j, x = .int i ∧ y = .int j ∧ v = .int (if j > i then j else i) := by
  cases x <;> cases y <;> simp_all [prim2]
theorem min_inv {x y v : PV} (e : prim2 .min x y = some v) : ∃ i j, x = .int i ∧ y = .int j ∧ v = .int (if j < i then j else i) := by
  cases x <;> cases y <;> simp_all [prim2]
theorem divmod_inv {x y v : PV} (e : prim2 .divmod x y = some v) : ∃ i j, x = .int i ∧ y = .int j ∧ (0 < j ∧ j < 1073741824) ∧ v = .tup [.int (i / j), .int (i % j)] := by
  cases x <;> cases y <;> simp_all [prim2]
theorem p_max (hc : X.calm = true) : CallR X (.builtin "max") (rP2 L .max) := by
  intro pins s σ H xs us Q I rv h
  obtain ⟨μ, env, st, σ', x, y, v, x1, y1, rfl, S, r1, r2, e, q⟩ := h
  obtain ⟨i, j, rfl, rfl, rfl⟩ := max_inv e
  rw [Rep] at r1 r2
  subst r1 r2
  exact call_max2 hc pins s σ H _ us Q I rv ⟨i, j, rfl, q μ H _ S Rep.int_ (Ext.refl _ _)⟩
theorem p_min (hc : X.calm = true) : CallR X (.builtin "min") (rP2 L .min) := by
  intro pins s σ H xs us Q I rv h
  obtain ⟨μ, env, st, σ', x, y, v, x1, y1, rfl, S, r1, r2, e, q⟩ := h
  obtain ⟨i, j, rfl, rfl, rfl⟩ := min_inv e
  rw [Rep] at r1 r2
  subst r1 r2
  exact call_min2 hc pins s σ H _ us Q I rv ⟨i, j, rfl, q μ H _ S Rep.int_ (Ext.refl _ _)⟩
theorem p_divmod : CallR X (.builtin "divmod") (rP2 L .divmod) := by
  intro pins s σ H xs us Q I rv h
  obtain ⟨μ, env, st, σ', x, y, v, x1, y1, rfl, S, r1, r2, e, q⟩ := h
  obtain ⟨i, j, rfl, rfl, hz, rfl⟩ := divmod_inv e
  rw [Rep] at r1 r2
  subst r1 r2
  refine call_divmod pins s σ H _ us Q I rv ⟨i, j, rfl, hz, fun p hp => ?_⟩
  obtain ⟨a', b', c'⟩ := S.upt (xs := [.int (i / j), .int (i % j)]) (vs := [.int (i / j), .int (i % j)]) hp (.cons Rep.int_ (.cons Rep.int_ .nil))
  exact q μ _ _ a' b' c'
end
end MP
namespace MP
open PySem PySem.Spec PyProof.Rows L2

/-- what is walked gives the items xs, while g stands -/
structure IterOk (L : Lay) (μ0 : List Addr) (H0 : Hp) (J : It) (xs : List PV) (g : Store → Bool) : Prop where
  sm : xs.length ≤ sizeLine
  ex : ∃ (G : Hp → Prop) (Y : Nat → Hp → V → Hp → Prop), Walk J xs.length G Y ∧
    (∀ h μ env st σ H, SR (L.wh h) μ env st σ H → Ext μ0 H0 μ H → g st = true → G H) ∧
    ∀ h i H x H' μ env st σ, (∀ a ∈ h, a ∈ L.hid ∨ H0 a = none) → i < xs.length → SR (L.wh h) μ env st σ H → Ext μ0 H0 μ H → g st = true → Y i H x H' → ∃ v, xs[i]? = some v ∧ SR (L.wh h) μ env st σ H' ∧ Rep (L.wh h) H' μ v x ∧ Ext μ H μ H'
section
variable (P : Prog) (cf : Nat → List PV → Store → Res PV) (L : Lay)
def tI (ie : IE) : TI := fun σ H R => ∃ μ env st wv st' xs g, SR L μ env st σ H ∧ evalE P cf ie env st = .ok wv st' ∧ walk st' wv = some (xs, g) ∧
  ∀ μ' H' J, SR L μ' env st' σ H' → Ext μ H μ' H' → IterOk L μ' H' J xs g → R J H'
end
theorem _root_.L2.PI.mono {X : Cx} {tg e : Expr} {t t' : TI} (h : PI X tg e t) (m : ∀ σ H Q, t' σ H Q → t σ H Q) : PI X tg e t' := ⟨fun pins s σ H Q I q => h.run pins s σ H Q I (m σ H Q q)⟩
/-- lists and tuples of the heap are not too long -/
structure Know (K : Fg) (H : Hp) : Prop where
  l : ∀ a xs, SqL K H a xs → xs.length ≤ sizeLine
  t : ∀ a xs, SqT K H a xs → xs.length ≤ sizeLine
theorem _root_.L2.Inv.know {X : Cx} {pins : List (Addr × Obj)} {σ : L2.St} {H : Hp} {s : Shared} (I : Inv X pins σ H s) : Know X.K H :=
  ⟨fun _ _ h => let ⟨_, _, _, z⟩ := I.list h; z, fun _ _ h => let ⟨_, _, _, z⟩ := I.tuple h; z⟩
theorem pe_know {X : Cx} {e : Expr} {t : TE} (h : PE X e t) : PE X e (fun σ H Q => t σ H fun x H1 => Know X.K H1 → Q x H1) :=
  ⟨fun pins s σ H Q I q => thn (h.run pins s σ H _ I q) fun _ _ ⟨v, H', I', r, q⟩ => ⟨v, H', I', r, q I'.know⟩⟩
section
variable {X : Cx} {L : Lay} {P : Prog} {cf : Nat → List PV → Store → Res PV}
def iAny (K : Fg) (tl : TE) : TI := fun σ H R => tl σ H fun x H1 => (∃ a, x = .ref a ∧ (∃ xs, SqL K H1 a xs) ∧ R (Itl K a) H1) ∨ (∃ a, x = .ref a ∧ (∃ xs, SqT K H1 a xs) ∧ R (Itt K a) H1) ∨ (∃ z, x = .str z ∧ R (Its z) H1)
theorem pi_any {tg l : Expr} {tl : TE} (hl : PE X l tl) : PI X tg l (iAny X.K tl) := by
  refine ⟨fun pins s σ H R I h => ?_⟩
  refine thn (hl.run pins s σ H _ I h) fun v s1 ⟨x, H1, I1, r1, q1⟩ => ?_
  rcases q1 with ⟨a, e, ⟨xs, hq⟩, q⟩ | ⟨a, e, ⟨xs, hq⟩, q⟩ | ⟨z, e, q⟩
  · subst e
    cases r1
    obtain ⟨its, rv, p, hz⟩ := I1.list hq
    refine wpAny_pyIter_list p.isList ?_
    refine ⟨s1.heap.objs.size, [s1.heap.objs.size], _, _, H1, rfl, I1.kept (t' := s1.toks) fun b o e => Heap.get?_push_of_some _ e, turn_list a _, ⟨_, Heap.get?_push_size _ rfl, rfl, rfl⟩, fun b hb => ?_, q⟩
    have e : b = s1.heap.objs.size := by simpa using hb
    subst e
    exact I1.fpOk (Nat.le_refl _) (I1.hok.fresh (Nat.le_refl _))
  · subst e
    cases r1
    obtain ⟨its, rv, p, hz⟩ := I1.tuple hq
    refine wpAny_pyIter_tuple (show s1.heap.IsTuple a its.toArray from p) ?_
    refine ⟨s1.heap.objs.size, [s1.heap.objs.size], _, _, H1, rfl, I1.kept (t' := s1.toks) fun b o e => Heap.get?_push_of_some _ e, turn_tuple a _, ⟨_, Heap.get?_push_size _ rfl, rfl, rfl⟩, fun b hb => ?_, q⟩
    have e : b = s1.heap.objs.size := by simpa using hb
    subst e
    exact I1.fpOk (Nat.le_refl _) (I1.hok.fresh (Nat.le_refl _))
  · subst e
    obtain ⟨t, rfl⟩ := r1
    exact pi_str_at I1 q
where
  pi_str_at {tg : Expr} {pins : List (Addr × Obj)} {σ : L2.St} {H : Hp} {s : Shared} {R : It → Hp → Prop} {z : Str} {t : Tok} (I : Inv X pins σ H s) (q : R (Its z) H) : wpAny (model X.prog X.w) X.A (pyIter (.str z t)) (PIE X pins σ tg R) X.xe s := by
    cases ha : z.cps.all (· < 128)
    · exact wpAny_pyIter_wide ha (pi_one (tk := s.toks) I _ (turn_str _ z t "str_iterator" (.inr rfl)) ⟨_, Heap.get?_push_size _ rfl, rfl, rfl⟩ q)
    · exact wpAny_pyIter_ascii ha (pi_one (tk := s.toks) I _ (turn_str _ z t "str_ascii_iterator" (.inl rfl)) ⟨_, Heap.get?_push_size _ rfl, rfl, rfl⟩ q)

theorem walkL {K : Fg} {a : Addr} {n : Nat} : Walk (Itl K a) n (fun H => ∃ vs, SqL K H a vs ∧ vs.length = n) (fun i H x H' => H' = H ∧ ∀ vs, SqL K H a vs → vs[i]? = some x) :=
  ⟨fun i H hi ⟨vs, q, e⟩ => ⟨vs, vs[i]'(by omega), q, by simp [e ▸ hi]⟩, fun H ⟨vs, q, e⟩ => ⟨vs, q, by omega⟩, fun _ _ _ _ _ _ y => y⟩
theorem walkT {K : Fg} {a : Addr} {n : Nat} : Walk (Itt K a) n (fun H => ∃ vs, SqT K H a vs ∧ vs.length = n) (fun i H x H' => H' = H ∧ ∀ vs, SqT K H a vs → vs[i]? = some x) :=
  ⟨fun i H hi ⟨vs, q, e⟩ => ⟨vs, vs[i]'(by omega), q, by simp [e ▸ hi]⟩, fun H ⟨vs, q, e⟩ => ⟨vs, q, by omega⟩, fun _ _ _ _ _ _ y => y⟩
theorem iter_lst {μ0 : List Addr} {H0 : Hp} {a : Addr} {vs0 : List V} {xs : List PV} (s : SqLm L.hid H0 μ0 a vs0) (r : Reps L H0 μ0 xs vs0) (kn : Know L.K H0) : IterOk L μ0 H0 (Itl L.K a) xs (fun _ => true) := by
  refine ⟨r.length ▸ kn.l _ _ s.sq, _, _, walkL, fun h μ env st σ H S E _ => ⟨vs0, (s.ext E).sq, r.length.symm⟩, fun h i H x H' μ env st σ hh hi S E _ ⟨e, y⟩ => ?_⟩
  subst e
  have hx := y vs0 (s.ext E).sq
  obtain ⟨v, hv, rv⟩ := (r.go E hh).get' hx
  exact ⟨v, hv, S, rv, Ext.refl _ _⟩
theorem iter_set {μ0 : List Addr} {H0 : Hp} {a : Addr} {vs0 : List V} {xs : List PV} (s : SqSm L.K L.hid H0 μ0 a vs0) (r : Reps L H0 μ0 xs vs0) (kn : Know L.K H0) : IterOk L μ0 H0 (Itl L.K a) xs (fun _ => true) := by
  refine ⟨r.length ▸ kn.l _ _ s.sq, _, _, walkL, fun h μ env st σ H S E _ => ⟨vs0, (s.ext E).sq, r.length.symm⟩, fun h i H x H' μ env st σ hh hi S E _ ⟨e, y⟩ => ?_⟩
  subst e
  have hx := y vs0 (s.ext E).sq
  obtain ⟨v, hv, rv⟩ := (r.go E hh).get' hx
  exact ⟨v, hv, S, rv, Ext.refl _ _⟩
theorem iter_tup {μ0 : List Addr} {H0 : Hp} {a : Addr} {vs0 : List V} {xs : List PV} (s : SqTm L.K L.hid H0 μ0 a vs0) (r : Reps L H0 μ0 xs vs0) (kn : Know L.K H0) : IterOk L μ0 H0 (Itt L.K a) xs (fun _ => true) := by
  refine ⟨r.length ▸ kn.t _ _ s.sq, _, _, walkT, fun h μ env st σ H S E _ => ⟨vs0, (s.ext E).sq, r.length.symm⟩, fun h i H x H' μ env st σ hh hi S E _ ⟨e, y⟩ => ?_⟩
  subst e
  have hx := y vs0 (s.ext E).sq
  obtain ⟨v, hv, rv⟩ := (r.go E hh).get' hx
  exact ⟨v, hv, S, rv, Ext.refl _ _⟩
theorem iter_ref {μ0 : List Addr} {H0 : Hp} {n : Nat} {a : Addr} {xs : List PV} (h : μ0[n]? = some a) (sm : xs.length ≤ sizeLine) : IterOk L μ0 H0 (Itl L.K a) xs (fun st => decide (st[n]? = some (.lst xs))) := by
  have at_ : ∀ h μ env st σ H, SR (L.wh h) μ env st σ H → Ext μ0 H0 μ H → decide (st[n]? = some (.lst xs)) = true → ∃ vs, H a = some (.lst vs) ∧ Reps (L.wh h) H μ xs vs := fun h0 μ env st σ H S E g => by
    obtain ⟨b, e1, vs, e2, rv⟩ := S.sto.at_ n _ (of_decide_eq_true g)
    obtain ⟨l, rfl⟩ := E.pre
    rw [List.getElem?_append_left (List.getElem?_eq_some_iff.mp h).1, h] at e1
    cases e1
    exact ⟨vs, e2, rv⟩
  refine ⟨sm, _, _, walkL, fun h μ env st σ H S E g => ?_, fun h i H x H' μ env st σ hh hi S E g ⟨e, y⟩ => ?_⟩
  · obtain ⟨vs, e, r⟩ := at_ h μ env st σ H S E g
    exact ⟨vs, SqL.of e, r.length.symm⟩
  · subst e
    obtain ⟨vs, e, r⟩ := at_ h μ env st σ _ S E g
    obtain ⟨v, hv, rv⟩ := r.get' (y vs (SqL.of e))
    exact ⟨v, hv, S, rv, Ext.refl _ _⟩
theorem iter_str {μ0 : List Addr} {H0 : Hp} {z : List Nat} (hz : z.length ≤ 1000000) : IterOk L μ0 H0 (Its ⟨z.toArray⟩) (z.map fun c => .str [c]) (fun _ => true) := by
  have w := walk_str (z := ⟨z.toArray⟩)
  refine ⟨by rw [List.length_map]; exact Nat.le_trans hz (by decide), _, _, by simpa using w, fun h μ env st σ H S E _ => True.intro, fun h i H x H' μ env st σ hh hi S E _ y => ?_⟩
  obtain ⟨e, c, hc, rfl⟩ := y
  subst e
  refine ⟨.str [c], ?_, S, ?_, Ext.refl _ _⟩
  · rw [List.getElem?_map]
    have : z[i]? = some c := by simpa using hc
    rw [this]; rfl
  · rw [Rep]
theorem i_any (hK : X.K = L.K) {tg e : Expr} {ie : IE} (he : PE X e (tE P cf L ie)) : PI X tg e (tI P cf L ie) := by
  refine (pi_any (pe_know he)).mono fun σ H R q => ?_
  obtain ⟨μ, env, st, wv, st', xs, g, S, ev, hw, q⟩ := q
  refine ⟨μ, env, st, wv, st', S, ev, fun μ' H' x S' r E kn => ?_⟩
  rw [hK] at kn
  unfold walk at hw
  split at hw
  · rename_i n
    split at hw
    · rename_i ys e
      cases hw
      obtain ⟨a, e1, vs, e2, rv⟩ := S'.sto.at_ n _ e
      rw [Rep] at r
      obtain ⟨b, e3, rfl⟩ := r
      rw [e1] at e3; cases e3
      exact .inl ⟨a, rfl, ⟨vs, SqL.of e2⟩, by rw [hK]; exact q μ' H' _ S' E (iter_ref e1 (rv.length ▸ kn.l _ _ (SqL.of e2)))⟩
    · cases hw
  · simp only [Option.map_eq_some_iff] at hw
    obtain ⟨ys, e1, e2⟩ := hw
    cases e2
    unfold itemsOf at e1
    split at e1
    · cases e1
      rw [Rep] at r
      obtain ⟨a, vs, rfl, s, rv⟩ := r
      exact .inr (.inl ⟨a, rfl, ⟨vs, by rw [hK]; exact s.sq⟩, by rw [hK]; exact q μ' H' _ S' E (iter_tup s rv kn)⟩)
    · cases e1
      rw [Rep] at r
      obtain ⟨a, vs, rfl, s, rv⟩ := r
      exact .inl ⟨a, rfl, ⟨vs, s.sq⟩, by rw [hK]; exact q μ' H' _ S' E (iter_lst s rv kn)⟩
    · cases e1
      rw [Rep] at r
      obtain ⟨a, vs, rfl, s, rv⟩ := r
      exact .inl ⟨a, rfl, ⟨vs, by rw [hK]; exact s.sq⟩, by rw [hK]; exact q μ' H' _ S' E (iter_set s rv kn)⟩
    · split at e1
      · cases e1
        rw [Rep] at r
        subst r
        exact .inr (.inr ⟨_, rfl, q μ' H' _ S' E (iter_str (by assumption))⟩)
      · cases e1
    · cases e1
/-! ### range -/
theorem iter_rng {μ0 : List Addr} {H0 : Hp} {a b : Int} (hz : b - a ≤ 1000000) : IterOk L μ0 H0 (Itr a (b - a).toNat) ((List.range (b - a).toNat).map fun i => PV.int (a + (i : Nat))) (fun _ => true) := by
  refine ⟨by rw [List.length_map, List.length_range]; have : (1000000 : Nat) ≤ sizeLine := by decide
             omega, _, _, by simpa using walk_range, fun h μ env st σ H S E _ => True.intro, fun h i H x H' μ env st σ hh hi S E _ y => ?_⟩
  obtain ⟨e, rfl⟩ := y
  subst e
  refine ⟨.int (a + (i : Nat)), ?_, S, Rep.int_, Ext.refl _ _⟩
  rw [List.length_map, List.length_range] at hi
  rw [List.getElem?_map, List.getElem?_range hi]; rfl
theorem rng_inv {lo hi : IE} {env : Env} {st st' : Store} {v : PV} (h : evalE P cf (.rng lo hi) env st = .ok v st') : ∃ st1 a b, evalE P cf lo env st = .ok (.int a) st1 ∧ evalE P cf hi env st1 = .ok (.int b) st' ∧ (-i62 ≤ a ∧ a < i62 ∧ -i62 ≤ b ∧ b < i62 ∧ b - a ≤ 1000000) ∧ v = .lst ((List.range (b - a).toNat).map fun i => PV.int (a + (i : Nat))) := by
  rw [evalE] at h
  obtain ⟨x, st1, e1, h⟩ := Res.bind_eq_ok h
  obtain ⟨y, st2, e2, h⟩ := Res.bind_eq_ok h
  cases x with
  | int a =>
    cases y with
    | int b =>
      simp only at h
      split at h
      · cases h; exact ⟨st1, a, b, e1, e2, by assumption, rfl⟩
      · cases h
    | _ => cases h
  | _ => cases h
theorem i_rng1 {tg a : Expr} {ia : IE} {p pos : Pos} (hg : Gl X "range") (hm : X.mg "range" = none) (ha : PE X a (tE P cf L ia)) (hs : starEach [a] X.env = (false, eval a X.env) :: starEach [] X.env) : PI X tg (.Call (.Name "range" p) [a] [] pos) (tI P cf L (.rng (.con (.int 0)) ia)) := by
  refine (pi_range1 hg hm (pa_cons ha pa_nil hs) hs).mono fun σ H R q => ?_
  obtain ⟨μ, env, st, wv, st', xs, g, S, ev, hw, q⟩ := q
  obtain ⟨st1, a', b, e1, e2, ⟨_, _, h3, h4, h5⟩, rfl⟩ := rng_inv ev
  rw [evalE] at e1
  cases e1
  cases hw
  refine ⟨μ, env, st, _, st', S, e2, fun μ1 H1 x S1 r1 E1 => ?_⟩
  rw [Rep] at r1
  subst r1
  unfold i62 at h3 h4
  refine ⟨b, rfl, by omega, by omega, ?_⟩
  have := q μ1 H1 (Itr 0 (b - 0).toNat) S1 E1 (iter_rng h5)
  simpa using this
theorem i_rng2 {tg a b : Expr} {ia ib : IE} {p pos : Pos} (hg : Gl X "range") (hm : X.mg "range" = none) (ha : PE X a (tE P cf L ia)) (hb : PE X b (tE P cf L ib)) (hs : starEach [a, b] X.env = (false, eval a X.env) :: starEach [b] X.env) (hs2 : starEach [b] X.env = (false, eval b X.env) :: starEach [] X.env) :
    PI X tg (.Call (.Name "range" p) [a, b] [] pos) (tI P cf L (.rng ia ib)) := by
  refine (pi_range2 hg hm (pa_cons ha (pa_cons hb pa_nil hs2) hs) (by rw [hs, hs2]; rfl) hs2).mono fun σ H R q => ?_
  obtain ⟨μ, env, st, wv, st', xs, g, S, ev, hw, q⟩ := q
  obtain ⟨st1, a', b', e1, e2, ⟨h1, h2, h3, h4, h5⟩, rfl⟩ := rng_inv ev
  cases hw
  refine ⟨μ, env, st, _, st1, S, e1, fun μ1 H1 x S1 r1 E1 => ⟨μ1, env, st1, _, st', S1, e2, fun μ2 H2 y S2 r2 E2 => ?_⟩⟩
  rw [Rep] at r1 r2
  subst r1 r2
  unfold i62 at h1 h2 h3 h4
  exact ⟨a', b', rfl, ⟨by omega, by omega, by omega, by omega⟩, q μ2 H2 (Itr a' (b' - a').toNat) S2 (E1.trans E2) (iter_rng h5)⟩
/-! ### zip -/
theorem SR.upt2 {μ : List Addr} {H : Hp} {env : Env} {st : Store} {σ : L2.St} {T : Addr} {x y : PV} {x1 y1 : V} (S : SR L μ env st σ H) (h : H T = none) (r1 : Rep L H μ x x1) (r2 : Rep L H μ y y1) :
    SR L μ env st σ (upd H T (.tup [x1, y1])) ∧ Rep L (upd H T (.tup [x1, y1])) μ (.tup [x, y]) (.ref T) ∧ Ext μ H μ (upd H T (.tup [x1, y1])) :=
  S.upt h (.cons r1 (.cons r2 .nil))
theorem walkZ {K : Fg} {a b : Addr} {n m : Nat} : Walk (Itz K a b) (min n m) (fun H => (∃ vs, SqL K H a vs ∧ vs.length = n) ∧ ∃ vs, SqL K H b vs ∧ vs.length = m)
    (fun i H v H' => ∃ T x y, v = .ref T ∧ H T = none ∧ H' = upd H T (.tup [x, y]) ∧ (∀ xs, SqL K H a xs → xs[i]? = some x) ∧ ∀ ys, SqL K H b ys → ys[i]? = some y) :=
  ⟨fun i H hi ⟨⟨vs, q, e⟩, ws, q', e'⟩ => ⟨vs, ws, vs[i]'(by omega), ws[i]'(by omega), q, q', by simp, by simp⟩, fun H ⟨⟨vs, q, e⟩, ws, q', e'⟩ => ⟨vs, ws, q, q', by omega⟩, fun _ _ _ _ _ _ y => y⟩
theorem walkZT {K : Fg} {a b : Addr} {n m : Nat} : Walk (RZ.ItzT K a b) (min n m) (fun H => (∃ vs, SqT K H a vs ∧ vs.length = n) ∧ ∃ vs, SqT K H b vs ∧ vs.length = m)
    (fun i H v H' => ∃ T x y, v = .ref T ∧ H T = none ∧ H' = upd H T (.tup [x, y]) ∧ (∀ xs, SqT K H a xs → xs[i]? = some x) ∧ ∀ ys, SqT K H b ys → ys[i]? = some y) :=
  ⟨fun i H hi ⟨⟨vs, q, e⟩, ws, q', e'⟩ => ⟨vs, ws, vs[i]'(by omega), ws[i]'(by omega), q, q', by simp, by simp⟩, fun H ⟨⟨vs, q, e⟩, ws, q', e'⟩ => ⟨vs, ws, q, q', by omega⟩, fun _ _ _ _ _ _ y => y⟩
theorem zip_get {xs ys : List PV} {i : Nat} {x y : PV} (h1 : xs[i]? = some x) (h2 : ys[i]? = some y) : (xs.zipWith (fun x y => PV.tup [x, y]) ys)[i]? = some (.tup [x, y]) := by
  rw [List.getElem?_zipWith, h1, h2]
theorem iter_zipL {μ0 : List Addr} {H0 : Hp} {a b : Addr} {vs ws : List V} {xs ys : List PV} (s : SqLm L.hid H0 μ0 a vs) (r : Reps L H0 μ0 xs vs) (s' : SqLm L.hid H0 μ0 b ws) (r' : Reps L H0 μ0 ys ws) (kn : Know L.K H0) :
    IterOk L μ0 H0 (Itz L.K a b) (xs.zipWith (fun x y => PV.tup [x, y]) ys) (fun _ => true) := by
  have w := walkZ (K := L.K) (a := a) (b := b) (n := xs.length) (m := ys.length)
  rw [← List.length_zipWith (f := fun x y => PV.tup [x, y])] at w
  refine ⟨by rw [List.length_zipWith]; exact Nat.le_trans (Nat.min_le_left _ _) (r.length ▸ kn.l _ _ s.sq), _, _, w, fun h μ env st σ H S E _ => ⟨⟨vs, (s.ext E).sq, r.length.symm⟩, ws, (s'.ext E).sq, r'.length.symm⟩, fun h i H x H' μ env st σ hh hi S E _ hy => ?_⟩
  obtain ⟨T, y, z, rfl, hT, rfl, h1, h2⟩ := hy
  obtain ⟨v, hv, rv⟩ := (r.go E hh).get' (h1 vs (s.ext E).sq)
  obtain ⟨w, hw, rw'⟩ := (r'.go E hh).get' (h2 ws (s'.ext E).sq)
  obtain ⟨a', b', c'⟩ := S.upt2 hT rv rw'
  exact ⟨_, zip_get hv hw, a', b', c'⟩
theorem iter_zipT {μ0 : List Addr} {H0 : Hp} {a b : Addr} {vs ws : List V} {xs ys : List PV} (s : SqTm L.K L.hid H0 μ0 a vs) (r : Reps L H0 μ0 xs vs) (s' : SqTm L.K L.hid H0 μ0 b ws) (r' : Reps L H0 μ0 ys ws) (kn : Know L.K H0) :
    IterOk L μ0 H0 (RZ.ItzT L.K a b) (xs.zipWith (fun x y => PV.tup [x, y]) ys) (fun _ => true) := by
  have w := walkZT (K := L.K) (a := a) (b := b) (n := xs.length) (m := ys.length)
  rw [← List.length_zipWith (f := fun x y => PV.tup [x, y])] at w
  refine ⟨by rw [List.length_zipWith]; exact Nat.le_trans (Nat.min_le_left _ _) (r.length ▸ kn.t _ _ s.sq), _, _, w, fun h μ env st σ H S E _ => ⟨⟨vs, (s.ext E).sq, r.length.symm⟩, ws, (s'.ext E).sq, r'.length.symm⟩, fun h i H x H' μ env st σ hh hi S E _ hy => ?_⟩
  obtain ⟨T, y, z, rfl, hT, rfl, h1, h2⟩ := hy
  obtain ⟨v, hv, rv⟩ := (r.go E hh).get' (h1 vs (s.ext E).sq)
  obtain ⟨w, hw, rw'⟩ := (r'.go E hh).get' (h2 ws (s'.ext E).sq)
  obtain ⟨a', b', c'⟩ := S.upt2 hT rv rw'
  exact ⟨_, zip_get hv hw, a', b', c'⟩
theorem zip_inv {lo hi : IE} {env : Env} {st st' : Store} {v : PV} (h : evalE P cf (.zip lo hi) env st = .ok v st') : ∃ st1 x y xs ys, evalE P cf lo env st = .ok x st1 ∧ evalE P cf hi env st1 = .ok y st' ∧ ((x = .lst xs ∧ y = .lst ys) ∨ (x = .tup xs ∧ y = .tup ys)) ∧ v = .lst (xs.zipWith (fun x y => PV.tup [x, y]) ys) := by
  rw [evalE] at h
  obtain ⟨x, st1, e1, h⟩ := Res.bind_eq_ok h
  obtain ⟨y, st2, e2, h⟩ := Res.bind_eq_ok h
  cases x with
  | lst xs =>
    cases y with
    | lst ys => cases h; exact ⟨st1, _, _, xs, ys, e1, e2, .inl ⟨rfl, rfl⟩, rfl⟩
    | _ => cases h
  | tup xs =>
    cases y with
    | tup ys => cases h; exact ⟨st1, _, _, xs, ys, e1, e2, .inr ⟨rfl, rfl⟩, rfl⟩
    | _ => cases h
  | _ => cases h
theorem i_zip (hK : X.K = L.K) {a b : Expr} {ia ib : IE} {p pos tpos : Pos} {elts : List Expr} {kk : Nat} (hg : Gl X "zip") (hm : X.mg "zip" = none) (ha : PE X a (tE P cf L ia)) (hb : PE X b (tE P cf L ib)) (hs : starEach [a, b] X.env = (false, eval a X.env) :: starEach [b] X.env) (hs2 : starEach [b] X.env = (false, eval b X.env) :: starEach [] X.env) :
    PI X (.Tuple elts kk tpos) (.Call (.Name "zip" p) [a, b] [] pos) (tI P cf L (.zip ia ib)) := by
  refine (RZ.pi_zipA hg hm (pa_cons ha (pa_cons (pe_know hb) pa_nil hs2) hs) hs (by rw [hs2]; rfl)).mono fun σ H R q => ?_
  obtain ⟨μ, env, st, wv, st', xs, g, S, ev, hw, q⟩ := q
  obtain ⟨st1, x, y, xs', ys', e1, e2, h, rfl⟩ := zip_inv ev
  cases hw
  refine ⟨μ, env, st, _, st1, S, e1, fun μ1 H1 x1 S1 r1 E1 => ⟨μ1, env, st1, _, st', S1, e2, fun μ2 H2 y1 S2 r2 E2 kn => ?_⟩⟩
  rw [hK] at kn
  have r1 := r1.ext E2
  rcases h with ⟨rfl, rfl⟩ | ⟨rfl, rfl⟩
  · rw [Rep] at r1 r2
    obtain ⟨a1, vs, rfl, s1, rv⟩ := r1
    obtain ⟨b1, ws, rfl, s2, rw'⟩ := r2
    exact ⟨a1, b1, vs, ws, rfl, .inl ⟨s1.sq, s2.sq, by rw [hK]; exact q μ2 H2 _ S2 (E1.trans E2) (iter_zipL s1 rv s2 rw' kn)⟩⟩
  · rw [Rep] at r1 r2
    obtain ⟨a1, vs, rfl, s1, rv⟩ := r1
    obtain ⟨b1, ws, rfl, s2, rw'⟩ := r2
    exact ⟨a1, b1, vs, ws, rfl, .inr ⟨by rw [hK]; exact s1.sq, by rw [hK]; exact s2.sq, by rw [hK]; exact q μ2 H2 _ S2 (E1.trans E2) (iter_zipT s1 rv s2 rw' kn)⟩⟩
end
end MP
namespace MP
open PySem PySem.Spec PyProof.Rows L2

def slots : IE → List Nat
  | .var i => [i]
  | .tup t => slots t
  | .cons t r => slots t ++ slots r
  | _ => []
section
variable {X : Cx} {L : Lay} {P : Prog} {cf : Nat → List PV → Store → Res PV}
theorem SR.setv {μ : List Addr} {env : Env} {st : Store} {σ : L2.St} {H : Hp} {i : Nat} {v : PV} {x : V} (S : SR L μ env st σ H) (r : Rep L H μ v x) : SR L μ (env.set i (some v)) st (σ.set i (some x)) H := by
  refine ⟨fun j w e => ?_, by simp [S.len], S.sto⟩
  by_cases h : j = i
  · subst h
    have hl := (List.getElem?_eq_some_iff.mp e).1
    rw [List.getElem?_set_self (by simpa using hl)] at e
    cases e
    exact ⟨x, List.getElem?_set_self (by rw [← S.len]; simpa using hl), r⟩
  · rw [List.getElem?_set_ne (Ne.symm h)] at e
    obtain ⟨y, e1, r1⟩ := S.evr j w e
    exact ⟨y, by rw [List.getElem?_set_ne (Ne.symm h)]; exact e1, r1⟩
/-- stores that only touch slots among vs -/
def Only (vs : List Nat) (σ σ' : L2.St) : Prop := σ'.length = σ.length ∧ ∀ j, j ∉ vs → σ'[j]? = σ[j]?
theorem Only.refl (vs : List Nat) (σ : L2.St) : Only vs σ σ := ⟨rfl, fun _ _ => rfl⟩
theorem Only.trans {vs ws : List Nat} {a b c : L2.St} (h : Only vs a b) (k : Only ws b c) : Only (vs ++ ws) a c :=
  ⟨k.1.trans h.1, fun j hj => (k.2 j fun z => hj (List.mem_append_right _ z)).trans (h.2 j fun z => hj (List.mem_append_left _ z))⟩
theorem Only.set {σ : L2.St} {i : Nat} {x : Option V} : Only [i] σ (σ.set i x) := ⟨by simp, fun j hj => List.getElem?_set_ne (fun z => hj (by simp [z]))⟩
theorem wipe_get {σ : L2.St} : ∀ (vs : List Nat) (j : Nat), (wipe σ vs)[j]? = if j ∈ vs ∧ j < σ.length then some none else σ[j]?
  | [], j => by simp [wipe]
  | v :: vs, j => by
    unfold wipe
    have ih := wipe_get (σ := σ) vs j
    by_cases h : v = j
    · subst h
      by_cases hl : v < σ.length
      · rw [List.getElem?_set_self (by rw [wipe_length]; exact hl)]
        simp [hl]
      · rw [List.getElem?_eq_none (by simp [wipe_length]; omega)]
        rw [if_neg (by omega), List.getElem?_eq_none (by omega)]
    · rw [List.getElem?_set_ne h, ih]
      by_cases h2 : j ∈ vs
      · simp [h2]
      · have : ¬ j = v := fun z => h z.symm
        simp [h2, this]
theorem Only.wipe {vs : List Nat} {σ σ' : L2.St} (h : Only vs σ σ') : wipe σ' vs = wipe σ vs := by
  apply List.ext_getElem?
  intro j
  rw [wipe_get, wipe_get, h.1]
  by_cases hj : j ∈ vs
  · by_cases hl : j < σ.length
    · simp [hj, hl]
    · rw [if_neg (by omega), if_neg (by omega), List.getElem?_eq_none (by rw [h.1]; omega), List.getElem?_eq_none (by omega)]
  · rw [if_neg (fun z => hj z.1), if_neg (fun z => hj z.1)]
    exact h.2 j hj
variable (L) in
def tG (tg : IE) : TG := fun x σ H Q => ∃ μ env st v env', SR L μ env st σ H ∧ Rep L H μ v x ∧ bindT tg v env = some env' ∧ ∀ σ', SR L μ env' st σ' H → Only (slots tg) σ σ' → Q σ' H
variable (L) in
def tGs (tg : IE) : TGs := fun xs σ H Q => ∃ μ env st vs env', SR L μ env st σ H ∧ Reps L H μ vs xs ∧ bindT tg (.lst vs) env = some env' ∧ ∀ σ', SR L μ env' st σ' H → Only (slots tg) σ σ' → Q σ' H
theorem _root_.L2.PG.mono {tg : Expr} {t t' : TG} (h : PG X tg t) (m : ∀ x σ H Q, t' x σ H Q → t x σ H Q) : PG X tg t' := ⟨fun pins s σ H v u Q I r q => h.run pins s σ H v u Q I r (m v σ H Q q)⟩
theorem _root_.L2.PGs.mono {tg : List Expr} {t t' : TGs} (h : PGs X tg t) (m : ∀ x σ H Q, t' x σ H Q → t x σ H Q) : PGs X tg t' := ⟨fun pins s σ H v u Q I r q => h.run pins s σ H v u Q I r (m v σ H Q q)⟩
theorem g_name {i : Nat} {x : Str} {pos : Pos} (hN : X.N.Nodup) (hi : X.N[i]? = some x) (hx : Loc X.env.scope x) (hf : X.fn x = true ∨ X.env.scope.names.lookup x = some .local) : PG X (.Name x pos) (tG L (.var i)) := by
  refine (pg_name hN hi hx hf).mono fun x σ H Q q => ?_
  obtain ⟨μ, env, st, v, env', S, r, e, q⟩ := q
  rw [bindT] at e
  split at e
  · cases e
    exact q _ (S.setv r) Only.set
  · cases e
theorem gs_nil : PGs X [] (tGs L .nil) := by
  refine pgs_nil.mono fun xs σ H Q q => ?_
  obtain ⟨μ, env, st, vs, env', S, r, e, q⟩ := q
  cases vs with
  | nil =>
    rw [bindT] at e
    cases e
    exact ⟨r.of_nil, q _ S (Only.refl _ _)⟩
  | cons _ _ => simp [bindT] at e
theorem gs_cons {e : Expr} {es : List Expr} {t r : IE} (h1 : PG X e (tG L t)) (h2 : PGs X es (tGs L r)) (hs : (assignEach (e :: es) X.env).map (·.2) = PySem.assign e X.env :: (assignEach es X.env).map (·.2)) : PGs X (e :: es) (tGs L (.cons t r)) := by
  refine (pgs_cons h1 h2 hs).mono fun xs σ H Q q => ?_
  obtain ⟨μ, env, st, vs, env', S, rv, e, q⟩ := q
  cases vs with
  | nil => simp [bindT] at e
  | cons v vs =>
    obtain ⟨x, xr, rfl, r1, r2⟩ := rv.of_cons
    rw [bindT, Option.bind_eq_some_iff] at e
    obtain ⟨env1, e1, e2⟩ := e
    exact ⟨x, xr, rfl, μ, env, st, v, env1, S, r1, e1, fun σ1 S1 o1 => ⟨μ, env1, st, vs, env', S1, r2, e2, fun σ2 S2 o2 => q σ2 S2 (by rw [slots]; exact o1.trans o2)⟩⟩
theorem bindT_len : ∀ (tg : IE) {vs : List PV} {env env' : Env}, bindT tg (.lst vs) env = some env' → (∀ i, tg ≠ .var i) → ∃ n, n = vs.length ∧ True
  | _, vs, _, _, _, _ => ⟨vs.length, rfl, trivial⟩
def tlen : IE → Nat
  | .cons _ r => tlen r + 1
  | _ => 0
def isTs : IE → Bool
  | .nil => true
  | .cons _ r => isTs r
  | _ => false
theorem bindT_len' : ∀ (tg : IE) (vs : List PV) (env env' : Env), isTs tg = true → bindT tg (.lst vs) env = some env' → vs.length = tlen tg
  | .nil, [], _, _, _, _ => rfl
  | .nil, _ :: _, _, _, _, h => by simp [bindT] at h
  | .cons t r, [], _, _, _, h => by simp [bindT] at h
  | .cons t r, v :: vs, env, env', hi, h => by
    rw [bindT, Option.bind_eq_some_iff] at h
    obtain ⟨env1, e1, e2⟩ := h
    rw [List.length_cons, tlen, bindT_len' r vs env1 env' hi e2]
theorem g_tup {es : List Expr} {k : Nat} {pos : Pos} {t : IE} (hK : X.K = L.K) (hc : X.calm = true) (h : PGs X es (tGs L t)) (ht : isTs t = true) (hn : (assignEach es X.env).length = tlen t) (hst : (assignEach es X.env).findIdx? (·.1) = none) : PG X (.Tuple es k pos) (tG L (.tup t)) := by
  refine (pg_tup hc h hn hst).mono fun x σ H Q q => ?_
  obtain ⟨μ, env, st, v, env', S, r, e, q⟩ := q
  cases v with
  | tup vs =>
    rw [Rep] at r
    obtain ⟨a, xs, rfl, s, rv⟩ := r
    rw [bindT] at e
    refine ⟨a, xs, rfl, by rw [hK]; exact s.sq, by rw [← rv.length]; exact bindT_len' t vs env env' ht e, μ, env, st, vs, env', S, rv, e, fun σ' S' o => q σ' S' (by rw [slots]; exact o)⟩
  | _ => simp [bindT] at e

/-! ### the targets of an assignment -/
variable (P cf L) in
def tQ (tg : IE) : TG := fun x σ H Q => ∃ μ env st v env' st', SR L μ env st σ H ∧ Rep L H μ v x ∧ assign P cf tg v env st = .ok env' st' ∧ ∀ μ' H' σ', SR L μ' env' st' σ' H' → Ext μ H μ' H' → Q σ' H'
variable (P cf L) in
def tQs (tg : IE) : TGs := fun xs σ H Q => ∃ μ env st vs env' st', SR L μ env st σ H ∧ Reps L H μ vs xs ∧ assign P cf tg (.lst vs) env st = .ok env' st' ∧ ∀ μ' H' σ', SR L μ' env' st' σ' H' → Ext μ H μ' H' → Q σ' H'
theorem q_name {i : Nat} {x : Str} {pos : Pos} (hN : X.N.Nodup) (hi : X.N[i]? = some x) (hx : Loc X.env.scope x) (hf : X.fn x = true ∨ X.env.scope.names.lookup x = some .local) : PG X (.Name x pos) (tQ L P cf (.var i)) := by
  refine (pg_name hN hi hx hf).mono fun x σ H Q q => ?_
  obtain ⟨μ, env, st, v, env', st', S, r, e, q⟩ := q
  rw [assign] at e
  split at e
  · cases e
    exact q _ _ _ (S.setv r) (Ext.refl _ _)
  · cases e
theorem q_sub {o i : Expr} {io ii : IE} {pos : Pos} (hK : X.K = L.K) (ho : PE X o (tE P cf L io)) (hi : PE X i (tE P cf L ii))
    (ha : ∀ v, PySem.assign (.Subscript o i pos) X.env v = (do
      let ov ← holding [v] (eval o X.env)
      let iv ← holding [v, ov] (eval i X.env)
      standAt pos
      holding [v, ov, iv] (setItem ov iv v)
      release [v, ov, iv] [])) : PG X (.Subscript o i pos) (tQ L P cf (.idx io ii)) := by
  refine (pg_sub ho hi set_list ha).mono fun x σ H Q q => ?_
  obtain ⟨μ, env, st, v, env', st', S, r, e, q⟩ := q
  rw [assign] at e
  obtain ⟨y, st1, e1, e⟩ := Res.bind_eq_ok e
  obtain ⟨z, st2, e2, e⟩ := Res.bind_eq_ok e
  refine ⟨μ, env, st, y, st1, S, e1, fun μ1 H1 y1 S1 r1 E1 => ⟨μ1, env, st1, z, st2, S1, e2, fun μ2 H2 z1 S2 r2 E2 => ?_⟩⟩
  have r1 := r1.ext E2
  unfold setIdx at e
  split at e
  · rename_i st3 hst
    cases e
    cases y with
    | ref n =>
      cases z with
      | int k =>
        simp only at hst
        cases hn : st2[n]? with
        | none => rw [hn] at hst; cases hst
        | some o =>
          rw [hn] at hst
          cases o with
          | lst xs =>
            simp only [Option.map_eq_some_iff] at hst
            obtain ⟨j, hj, rfl⟩ := hst
            obtain ⟨a, ea, vs, eH, rv⟩ := S2.sto.at_ n _ hn
            rw [Rep] at r1; rw [Rep] at r2
            obtain ⟨b, eb, rfl⟩ := r1
            rw [ea] at eb; cases eb
            subst r2
            have rx := r.ext (E1.trans E2)
            have Ew : Ext μ2 H2 μ2 (upd H2 a (.lst (vs.set j x))) := Ext.write (List.mem_of_getElem? ea)
            refine ⟨a, vs, k, j, rfl, rfl, eH, by rw [← rv.length]; exact hj, q μ2 _ _ (S2.ext Ew (S2.sto.write ea ⟨_, upd_same, ?_⟩)) ((E1.trans E2).trans Ew)⟩
            exact (rv.set j rx).ext Ew
          | _ => cases hst
      | _ => cases hst
    | _ => cases hst
  · cases e
theorem pg_att {o : Expr} {f : Str} {pos : Pos} {to : TE} (ho : PE X o to) : PG X (.Attribute o f pos) (fun y σ H Q => to σ H fun x H2 => ∃ a C dx fs, x = .ref a ∧ H2 a = some (.ins C dx fs) ∧ L2.Cls X.K C ∧ NoAttr X.K C f ∧ fs.length < 1000 ∧ Q σ (upd H2 a (.ins C dx (putF f y fs)))) := by
  refine ⟨fun pins s σ H v u Q I r h => ?_⟩
  show wpAny _ _ (do
      let ov ← holding [u] (eval o X.env)
      standAt pos.atName
      holding [u, ov] (setAttr ov f u)
      release [u, ov] []) _ _ _
  refine wpAny_bind (wpAny_holding (thn (ho.run pins s σ H _ I h) fun ov s1 ⟨x, H1, I1, r1, a, C, dx, fs, ex, ea, c, n, l, q⟩ => ?_))
  subst ex
  obtain rfl : ov = Value.ref a := r1
  refine wpAny_bind (wpAny_standAt (wpAny_bind (wpAny_holding (setattr_ok I1 ea c n l r fun s2 I2 => ?_))))
  exact wpAny_release ⟨σ, _, I2, q⟩
theorem putK_putF {H : Hp} {μ : List Addr} (hnm : ∀ a b : Nat, L.nm a = L.nm b → a = b) {k : Nat} {v : PV} {x : V} (r : Rep L H μ v x) : ∀ {ks : List Nat} {vs : List PV} {ws : List V}, ks.length = ws.length → Reps L H μ vs ws →
    ∃ ws', putF (L.nm k) x ((ks.map L.nm).zip ws) = ((putK k v ks vs).1.map L.nm).zip ws' ∧ (putK k v ks vs).1.length = ws'.length ∧ Reps L H μ (putK k v ks vs).2 ws'
  | [], vs, ws, hl, rv => by
    cases ws with
    | nil =>
      cases vs with
      | nil => exact ⟨[x], rfl, rfl, .cons r .nil⟩
      | cons _ _ => have := rv.length; simp at this
    | cons _ _ => simp at hl
  | a :: ks, vs, ws, hl, rv => by
    cases ws with
    | nil => simp at hl
    | cons w ws =>
      cases vs with
      | nil => have := rv.length; simp at this
      | cons u us =>
        obtain ⟨_, _, e, r1, r2⟩ := rv.of_cons
        cases e
        simp only [List.map_cons, List.zip_cons_cons]
        rw [putK]
        by_cases h : a = k
        · subst h
          rw [if_pos rfl]
          exact ⟨x :: ws, by simp [putF], by simpa using hl, .cons r r2⟩
        · rw [if_neg h]
          obtain ⟨ws', e1, e2, e3⟩ := putK_putF hnm (k := k) r (ks := ks) (vs := us) (ws := ws) (by simpa using hl) r2
          refine ⟨w :: ws', ?_, by simpa using e2, .cons r1 e3⟩
          rw [putF, if_neg (fun z => h (hnm _ _ z)), e1]
          rfl
theorem q_att {o : Expr} {io : IE} {k : Nat} {pos : Pos} (hK : X.K = L.K) (hnm : ∀ a b : Nat, L.nm a = L.nm b → a = b) (ho : PE X o (tE P cf L io)) (hcl : ∀ c cl, P.cls c = some cl → L2.Cls X.K (L.cls c)) (hno : ∀ c cl, P.cls c = some cl → cl.meths.lookup k = none → NoAttr X.K (L.cls c) (L.nm k)) :
    PG X (.Attribute o (L.nm k) pos) (tQ L P cf (.fld k io)) := by
  refine (pg_att ho).mono fun x σ H Q q => ?_
  obtain ⟨μ, env, st, v, env', st', S, r, e, q⟩ := q
  rw [assign] at e
  obtain ⟨y, st1, e1, e⟩ := Res.bind_eq_ok e
  refine ⟨μ, env, st, y, st1, S, e1, fun μ1 H1 y1 S1 r1 E1 => ?_⟩
  split at e
  · rename_i st3 hst
    cases e
    rw [Option.bind_eq_some_iff] at hst
    obtain ⟨c0, hc0, hst⟩ := hst
    rw [Option.bind_eq_some_iff] at hst
    obtain ⟨cl0, hcl0, hst⟩ := hst
    have hmn : cl0.meths.lookup k = none := by
      cases hq : cl0.meths.lookup k with
      | none => rfl
      | some _ => rw [hq] at hst; cases hst
    rw [hmn] at hst
    simp only [Option.isSome_none, Bool.false_eq_true, if_false] at hst
    unfold setFld at hst
    cases y with
    | ref n =>
      simp only at hst
      cases hn : st1[n]? with
      | none => rw [hn] at hst; cases hst
      | some o =>
        rw [hn] at hst
        cases o with
        | ins c ks vs =>
          simp only at hst
          split at hst
          · rename_i hlen
            cases hst
            have hc' : P.cls c = some cl0 := by
              simp only [clsOf, hn] at hc0
              cases hc0
              exact hcl0
            obtain ⟨a, ea, dx, ws, eH, hl, rv⟩ := S1.sto.at_ n _ hn
            rw [Rep] at r1
            obtain ⟨b, eb, rfl⟩ := r1
            rw [ea] at eb; cases eb
            have rx := r.ext E1
            obtain ⟨ws', p1, p2, p3⟩ := putK_putF hnm (k := k) rx hl rv
            have Ew : Ext μ1 H1 μ1 (upd H1 a (.ins (L.cls c) dx (putF (L.nm k) x ((ks.map L.nm).zip ws)))) := Ext.write (List.mem_of_getElem? ea)
            refine ⟨a, L.cls c, dx, _, rfl, eH, hcl c cl0 hc', hno c cl0 hc' hmn, ?_, q μ1 _ _ (S1.ext Ew (S1.sto.write ea ⟨dx, ws', ?_, p2, p3.ext Ew⟩)) (E1.trans Ew)⟩
            · rw [List.length_zip, List.length_map]; omega
            · rw [upd_same, p1]
          · cases hst
        | _ => cases hst
    | _ => cases hst
  · cases e
theorem qs_nil : PGs X [] (tQs L P cf .nil) := by
  refine pgs_nil.mono fun xs σ H Q q => ?_
  obtain ⟨μ, env, st, vs, env', st', S, r, e, q⟩ := q
  cases vs with
  | nil =>
    rw [assign] at e
    cases e
    exact ⟨r.of_nil, q _ _ _ S (Ext.refl _ _)⟩
  | cons _ _ => simp [assign] at e
theorem qs_cons {e : Expr} {es : List Expr} {t r : IE} (h1 : PG X e (tQ L P cf t)) (h2 : PGs X es (tQs L P cf r)) (hs : (assignEach (e :: es) X.env).map (·.2) = PySem.assign e X.env :: (assignEach es X.env).map (·.2)) : PGs X (e :: es) (tQs L P cf (.cons t r)) := by
  refine (pgs_cons h1 h2 hs).mono fun xs σ H Q q => ?_
  obtain ⟨μ, env, st, vs, env', st', S, rv, e, q⟩ := q
  cases vs with
  | nil => simp [assign] at e
  | cons v vs =>
    obtain ⟨x, xr, rfl, r1, r2⟩ := rv.of_cons
    rw [assign] at e
    obtain ⟨env1, st1, e1, e2⟩ := Res.bind_eq_ok e
    exact ⟨x, xr, rfl, μ, env, st, v, env1, st1, S, r1, e1, fun μ1 H1 σ1 S1 E1 => ⟨μ1, env1, st1, vs, env', st', S1, r2.ext E1, e2, fun μ2 H2 σ2 S2 E2 => q μ2 H2 σ2 S2 (E1.trans E2)⟩⟩
theorem assign_len : ∀ (tg : IE) (vs : List PV) (env env' : Env) (st st' : Store), isTs tg = true → assign P cf tg (.lst vs) env st = .ok env' st' → vs.length = tlen tg
  | .nil, [], _, _, _, _, _, _ => rfl
  | .nil, _ :: _, _, _, _, _, _, h => by simp [assign] at h
  | .cons t r, [], _, _, _, _, _, h => by simp [assign] at h
  | .cons t r, v :: vs, env, env', st, st', hi, h => by
    rw [assign] at h
    obtain ⟨env1, st1, e1, e2⟩ := Res.bind_eq_ok h
    rw [List.length_cons, tlen, assign_len r vs env1 env' st1 st' hi e2]
theorem q_tup {es : List Expr} {k : Nat} {pos : Pos} {t : IE} (hK : X.K = L.K) (hc : X.calm = true) (h : PGs X es (tQs L P cf t)) (ht : isTs t = true) (hn : (assignEach es X.env).length = tlen t) (hst : (assignEach es X.env).findIdx? (·.1) = none) : PG X (.Tuple es k pos) (tQ L P cf (.tup t)) := by
  refine (pg_tup hc h hn hst).mono fun x σ H Q q => ?_
  obtain ⟨μ, env, st, v, env', st', S, r, e, q⟩ := q
  cases v with
  | tup vs =>
    rw [assign] at e
    rw [Rep] at r
    obtain ⟨a, xs, rfl, s, rv⟩ := r
    exact ⟨a, xs, rfl, by rw [hK]; exact s.sq, by rw [← rv.length]; exact assign_len t vs env _ st _ ht e, μ, env, st, vs, _, _, S, rv, e, q⟩
  | _ => simp [assign] at e
end
end MP
namespace MP
open PySem PySem.Spec PyProof.Rows L2

section
variable {X : Cx} {L : Lay} {P : Prog} {cf : Nat → List PV → Store → Res PV} {pos : Pos}
/-! ### names, constants -/
theorem e_var {i : Nat} {x : Str} (hN : X.N[i]? = some x) (hv : Vis X.env.scope x) (hd : (x == ("__debug__" : Str)) = false) (hcd : (x == ("__classdict__" : Str)) = false) : PE X (.Name x pos) (tE P cf L (.var i)) := by
  refine (pe_var hN hv hd hcd).mono fun σ H Q q => ?_
  obtain ⟨μ, env, st, v, st', S, ev, q⟩ := q
  rw [evalE] at ev
  split at ev
  · rename_i w hw
    cases ev
    obtain ⟨x, e, r⟩ := S.evr i _ hw
    exact ⟨x, e, q μ H x S r (Ext.refl _ _)⟩
  · cases ev
theorem e_con {e : Expr} {v : PV} {w : V} (h : PE X e (tC w)) (hr : ∀ H μ, Rep L H μ v w) : PE X e (tE P cf L (.con v)) := by
  refine h.mono fun σ H Q q => ?_
  obtain ⟨μ, env, st, v', st', S, ev, q⟩ := q
  rw [evalE] at ev
  cases ev
  exact q μ H w S (hr _ _) (Ext.refl _ _)
/-! ### argument lists -/
theorem a_nil : PA X [] (tA P cf L .nil) := by
  refine pa_nil.mono fun σ H Q q => ?_
  obtain ⟨μ, env, st, vs, st', S, ev, q⟩ := q
  rw [evalEs] at ev
  cases ev
  exact q μ H [] S .nil (Ext.refl _ _)
theorem cons_inv {e r : IE} {env : Env} {st st' : Store} {vs : List PV} (h : evalEs P cf (.cons e r) env st = .ok vs st') : ∃ v ws st1, evalE P cf e env st = .ok v st1 ∧ evalEs P cf r env st1 = .ok ws st' ∧ vs = v :: ws := by
  rw [evalEs] at h
  obtain ⟨v, st1, e1, h⟩ := Res.bind_eq_ok h
  obtain ⟨ws, st2, e2, h⟩ := Res.bind_eq_ok h
  cases h
  exact ⟨v, ws, st1, e1, e2, rfl⟩
theorem a_cons {e : Expr} {es : List Expr} {ie ir : IE} (ha : PE X e (tE P cf L ie)) (hr : PA X es (tA P cf L ir)) (hs : starEach (e :: es) X.env = (false, eval e X.env) :: starEach es X.env) : PA X (e :: es) (tA P cf L (.cons ie ir)) := by
  refine (pa_cons ha hr hs).mono fun σ H Q q => ?_
  obtain ⟨μ, env, st, vs, st', S, ev, q⟩ := q
  obtain ⟨v, ws, st1, e1, e2, rfl⟩ := cons_inv ev
  exact ⟨μ, env, st, v, st1, S, e1, fun μ1 H1 x S1 r1 E1 => ⟨μ1, env, st1, ws, st', S1, e2, fun μ2 H2 xs S2 r2 E2 => q μ2 H2 _ S2 (.cons (r1.ext E2) r2) (E1.trans E2)⟩⟩
theorem star_inv {e r : IE} {env : Env} {st st' : Store} {vs : List PV} (h : evalEs P cf (.star e r) env st = .ok vs st') : ∃ v xs ws st1, evalE P cf e env st = .ok v st1 ∧ seqOf (der st1 v) = some xs ∧ evalEs P cf r env st1 = .ok ws st' ∧ xs.length + ws.length ≤ 1000000 ∧ vs = xs ++ ws := by
  rw [evalEs] at h
  obtain ⟨v, st1, e1, h⟩ := Res.bind_eq_ok h
  split at h
  · cases h
  · rename_i xs hx
    obtain ⟨ws, st2, e2, h⟩ := Res.bind_eq_ok h
    split at h
    · cases h; exact ⟨v, xs, ws, st1, e1, hx, e2, by assumption, rfl⟩
    · cases h
theorem a_star (hK : X.K = L.K) {e : Expr} {es : List Expr} {p : Pos} {ie ir : IE} (ha : PE X e (tE P cf L ie)) (hr : PA X es (tA P cf L ir)) (hs : starEach (.Starred e p :: es) X.env = (true, eval e X.env) :: starEach es X.env) : PA X (.Starred e p :: es) (tA P cf L (.star ie ir)) := by
  refine (StX.pa_star ha hr hs).mono fun σ H Q q => ?_
  obtain ⟨μ, env, st, vs, st', S, ev, q⟩ := q
  obtain ⟨v, xs, ws, st1, e1, hx, e2, hl, rfl⟩ := star_inv ev
  refine ⟨μ, env, st, v, st1, S, e1, fun μ1 H1 x S1 r1 E1 => ?_⟩
  have d := r1.d S1
  cases hd : der st1 v with
  | tup ys =>
    rw [hd] at d hx
    cases hx
    obtain ⟨a, us, rfl, s, rv⟩ := d.tup
    exact ⟨a, us, rfl, .inl (hK ▸ s.sq), μ1, env, st1, ws, st', S1, e2, fun μ2 H2 ys S2 r2 E2 => q μ2 H2 _ S2 ((rv.ext E2).append r2) (E1.trans E2)⟩
  | lst ys =>
    rw [hd] at d hx
    cases hx
    obtain ⟨a, us, rfl, s, rv⟩ := d.lst
    exact ⟨a, us, rfl, .inr (.inl s), μ1, env, st1, ws, st', S1, e2, fun μ2 H2 ys S2 r2 E2 => q μ2 H2 _ S2 ((rv.ext E2).append r2) (E1.trans E2)⟩
  | _ => rw [hd] at hx; cases hx
def icnt : IE → Nat
  | .cons _ r => icnt r + 1
  | .star _ r => icnt r
  | _ => 0
theorem evalEs_len : ∀ (es : IE) {env : Env} {st st' : Store} {vs : List PV}, evalEs P cf es env st = .ok vs st' → vs.length ≤ 1000000 + icnt es
  | .nil, env, st, st', vs, h => by rw [evalEs] at h; cases h; simp
  | .cons e r, env, st, st', vs, h => by
    obtain ⟨v, ws, st1, e1, e2, rfl⟩ := cons_inv h
    have := evalEs_len r e2
    rw [icnt, List.length_cons]; omega
  | .star e r, env, st, st', vs, h => by
    obtain ⟨v, xs, ws, st1, e1, hx, e2, hl, rfl⟩ := star_inv h
    rw [List.length_append]; omega
  | .var _, _, _, _, _, h | .con _, _, _, _, _, h | .tup _, _, _, _, _, h | .lst _, _, _, _, _, h | .nw _, _, _, _, _, h | .bin .., _, _, _, _, h | .cmp .., _, _, _, _, h | .chn .., _, _, _, _, h | .and .., _, _, _, _, h | .or .., _, _, _, _, h
  | .not _, _, _, _, _, h | .neg _, _, _, _, _, h | .ite .., _, _, _, _, h | .idx .., _, _, _, _, h | .slc .., _, _, _, _, h | .call .., _, _, _, _, h | .callk .., _, _, _, _, h | .make .., _, _, _, _, h | .meth .., _, _, _, _, h | .fld .., _, _, _, _, h
  | .pr1 .., _, _, _, _, h | .pr2 .., _, _, _, _, h | .isi .., _, _, _, _, h | .comp .., _, _, _, _, h | .comp2 .., _, _, _, _, h | .sortk .., _, _, _, _, h | .rng .., _, _, _, _, h | .enm .., _, _, _, _, h | .zip .., _, _, _, _, h
  | .append .., _, _, _, _, h | .extend .., _, _, _, _, h | .pop .., _, _, _, _, h | .popat .., _, _, _, _, h | .insert .., _, _, _, _, h | .index .., _, _, _, _, h | .rpr .., _, _, _, _, h | .join .., _, _, _, _, h | .get .., _, _, _, _, h => nomatch (show (Res.bad : Res (List PV)) = _ from h)
theorem small_line : 2000000 ≤ sizeLine := by decide
theorem e_tup {es : List Expr} {k : Nat} {ies : IE} (h : PA X es (tA P cf L ies)) (hc : icnt ies ≤ 1000000) : PE X (.Tuple es k pos) (tE P cf L (.tup ies)) := by
  refine (pe_tup h).mono fun σ H Q q => ?_
  obtain ⟨μ, env, st, v, st', S, ev, q⟩ := q
  rw [evalE] at ev
  obtain ⟨vs, st1, e1, ev⟩ := Res.bind_eq_ok ev
  cases ev
  have hl := evalEs_len ies e1
  have := small_line
  refine ⟨μ, env, st, vs, st', S, e1, fun μ1 H1 xs S1 r1 E1 => ⟨by rw [← r1.length]; omega, fun p hp => ?_⟩⟩
  obtain ⟨a, b, c⟩ := S1.upt hp r1
  exact q μ1 _ _ a b (E1.trans c)
theorem n_lst {es : List Expr} {ies : IE} (h : PA X es (tA P cf L ies)) (hc : icnt ies ≤ 1000000) : PE X (.List es pos) (tN P cf L (.lst ies)) := by
  refine (pe_lst h).mono fun σ H Q q => ?_
  obtain ⟨μ, env, st, ws, st', S, ev, q⟩ := q
  rw [evalE] at ev
  obtain ⟨vs, st1, e1, ev⟩ := Res.bind_eq_ok ev
  cases ev
  have hl := evalEs_len ies e1
  have := small_line
  exact ⟨μ, env, st, ws, st', S, e1, fun μ1 H1 xs S1 r1 E1 => ⟨by rw [← r1.length]; omega, fun p hp => q μ1 _ _ _ S1 r1 E1 hp⟩⟩
theorem lst_isl {ies : IE} : ∀ env st v st', evalE P cf (.lst ies) env st = .ok v st' → ∃ xs, v = .lst xs := fun env st v st' h => by
  rw [evalE] at h
  obtain ⟨vs, st1, e1, h⟩ := Res.bind_eq_ok h
  cases h
  exact ⟨vs, rfl⟩
/-! ### comparisons -/
theorem cmp_inv {op : COp} {a b : IE} {env : Env} {st st' : Store} {v : PV} (h : evalE P cf (.cmp op a b) env st = .ok v st') : ∃ x y k st1, evalE P cf a env st = .ok x st1 ∧ evalE P cf b env st1 = .ok y st' ∧ cmpop op (der st' x) (der st' y) = some k ∧ v = .bl k := by
  rw [evalE] at h
  obtain ⟨x, st1, e1, h1⟩ := Res.bind_eq_ok h
  obtain ⟨y, st2, e2, h2⟩ := Res.bind_eq_ok h1
  obtain ⟨k, st3, e3, h3⟩ := Res.bind_eq_ok h2
  obtain ⟨e3', rfl⟩ := Res.opt_eq_ok e3
  cases h3
  exact ⟨x, y, k, st1, e1, e2, e3', rfl⟩
theorem e_cmp {op : CmpOp} {cop : COp} {a b : Expr} {ia ib : IE} (ho : OpR X (compareOp op) (rC L cop)) (ha : PE X a (tE P cf L ia)) (hb : PE X b (tE P cf L ib)) (hm : behindInMarks op b = false) : PE X (.Compare a [op] [b] pos) (tE P cf L (.cmp cop ia ib)) := by
  refine (pe_cmpR ho ha hb hm).mono fun σ H Q q => ?_
  obtain ⟨μ, env, st, v, st', S, ev, q⟩ := q
  obtain ⟨x, y, k, st1, e1, e2, e3, rfl⟩ := cmp_inv ev
  refine ⟨μ, env, st, x, st1, S, e1, fun μ1 H1 x1 S1 r1 E1 => ⟨μ1, env, st1, y, st', S1, e2, fun μ2 H2 y1 S2 r2 E2 => ?_⟩⟩
  exact ⟨μ2, env, st', σ, x, y, .bl k, S2, r1.ext E2, r2, by simp only; rw [e3]; rfl, fun μ3 H3 z S3 r3 E3 => q μ3 H3 z S3 r3 ((E1.trans E2).trans E3)⟩
theorem t_cmp {op : CmpOp} {cop : COp} {a b : Expr} {ia ib : IE} (ho : OpR X (compareOp op) (rC L cop)) (ha : PE X a (tE P cf L ia)) (hb : PE X b (tE P cf L ib)) (hm : behindInMarks op b = false) : PT X (.Compare a [op] [b] pos) (tT P cf L (.cmp cop ia ib)) := by
  refine (pt_cmpR ho ha hb hm).mono fun σ H Q q => ?_
  obtain ⟨μ, env, st, v, st', S, ev, q⟩ := q
  obtain ⟨x, y, k, st1, e1, e2, e3, h⟩ := cmp_inv ev
  cases h
  refine ⟨μ, env, st, x, st1, S, e1, fun μ1 H1 x1 S1 r1 E1 => ⟨μ1, env, st1, y, st', S1, e2, fun μ2 H2 y1 S2 r2 E2 => ?_⟩⟩
  refine ⟨μ2, env, st', σ, x, y, .bl v, S2, r1.ext E2, r2, by simp only; rw [e3]; rfl, fun μ3 H3 z S3 r3 E3 => ?_⟩
  rw [Rep] at r3
  exact ⟨v, r3, q μ3 H3 S3 ((E1.trans E2).trans E3)⟩
theorem chn_inv {op op' : COp} {a b c : IE} {env : Env} {st st' : Store} {v : PV} (h : evalE P cf (.chn op op' a b c) env st = .ok v st') : ∃ x y k st1 st2, evalE P cf a env st = .ok x st1 ∧ evalE P cf b env st1 = .ok y st2 ∧ cmpop op (der st2 x) (der st2 y) = some k ∧
    ((k = true ∧ ∃ z b, evalE P cf c env st2 = .ok z st' ∧ cmpop op' (der st' y) (der st' z) = some b ∧ v = .bl b) ∨ (k = false ∧ st' = st2 ∧ v = .bl false)) := by
  rw [evalE] at h
  obtain ⟨x, st1, e1, h1⟩ := Res.bind_eq_ok h
  obtain ⟨y, st2, e2, h2⟩ := Res.bind_eq_ok h1
  obtain ⟨k, st3, e3, h3⟩ := Res.bind_eq_ok h2
  obtain ⟨e3', rfl⟩ := Res.opt_eq_ok e3
  refine ⟨x, y, k, st1, st3, e1, e2, e3', ?_⟩
  cases k with
  | false => cases h3; exact .inr ⟨rfl, rfl, rfl⟩
  | true =>
    obtain ⟨z, st4, e4, h4⟩ := Res.bind_eq_ok h3
    obtain ⟨b, st5, e5, h5⟩ := Res.bind_eq_ok h4
    obtain ⟨e5', rfl⟩ := Res.opt_eq_ok e5
    cases h5
    exact .inl ⟨rfl, z, b, e4, e5', rfl⟩
theorem e_chn {op op' : CmpOp} {cop cop' : COp} {a b c : Expr} {ia ib ic : IE} (ho : OpR X (compareOp op) (rC L cop)) (ho' : OpR X (compareOp op') (rC L cop')) (ha : PE X a (tE P cf L ia)) (hb : PE X b (tE P cf L ib)) (hc : PE X c (tE P cf L ic)) (hm : lastMarks [op, op'] [b, c] = false) :
    PE X (.Compare a [op, op'] [b, c] pos) (tE P cf L (.chn cop cop' ia ib ic)) := by
  refine (pe_chain ho ho' ha hb hc hm).mono fun σ H Q q => ?_
  obtain ⟨μ, env, st, v, st', S, ev, q⟩ := q
  obtain ⟨x, y, k, st1, st2, e1, e2, e3, h⟩ := chn_inv ev
  refine ⟨μ, env, st, x, st1, S, e1, fun μ1 H1 x1 S1 r1 E1 => ⟨μ1, env, st1, y, st2, S1, e2, fun μ2 H2 y1 S2 r2 E2 => ?_⟩⟩
  refine ⟨μ2, env, st2, σ, x, y, .bl k, S2, r1.ext E2, r2, by simp only; rw [e3]; rfl, fun μ3 H3 z S3 r3 E3 => ?_⟩
  rw [Rep] at r3
  refine ⟨k, r3, ?_⟩
  rcases h with ⟨rfl, z, b, e4, e5, rfl⟩ | ⟨rfl, rfl, rfl⟩
  · rw [if_pos rfl]
    exact ⟨μ3, env, st2, z, st', S3, e4, fun μ4 H4 z1 S4 r4 E4 => ⟨μ4, env, st', σ, y, z, .bl b, S4, (r2.ext E3).ext E4, r4, by simp only; rw [e5]; rfl, fun μ5 H5 z S5 r5 E5 => q μ5 H5 z S5 r5 ((((E1.trans E2).trans E3).trans E4).trans E5)⟩⟩
  · rw [if_neg Bool.false_ne_true]
    exact q μ3 H3 _ S3 Rep.bl_ ((E1.trans E2).trans E3)
theorem t_chn {op op' : CmpOp} {cop cop' : COp} {a b c : Expr} {ia ib ic : IE} (ho : OpR X (compareOp op) (rC L cop)) (ho' : OpR X (compareOp op') (rC L cop')) (ha : PE X a (tE P cf L ia)) (hb : PE X b (tE P cf L ib)) (hc : PE X c (tE P cf L ic)) (hm : lastMarks [op, op'] [b, c] = false) :
    PT X (.Compare a [op, op'] [b, c] pos) (tT P cf L (.chn cop cop' ia ib ic)) := by
  refine (pt_chain ho ho' ha hb hc hm).mono fun σ H Q q => ?_
  obtain ⟨μ, env, st, v, st', S, ev, q⟩ := q
  obtain ⟨x, y, k, st1, st2, e1, e2, e3, h⟩ := chn_inv ev
  refine ⟨μ, env, st, x, st1, S, e1, fun μ1 H1 x1 S1 r1 E1 => ⟨μ1, env, st1, y, st2, S1, e2, fun μ2 H2 y1 S2 r2 E2 => ?_⟩⟩
  refine ⟨μ2, env, st2, σ, x, y, .bl k, S2, r1.ext E2, r2, by simp only; rw [e3]; rfl, fun μ3 H3 z S3 r3 E3 => ?_⟩
  rw [Rep] at r3
  refine ⟨k, r3, ?_⟩
  rcases h with ⟨rfl, z, b, e4, e5, h⟩ | ⟨rfl, rfl, h⟩
  · cases h
    rw [if_pos rfl]
    refine ⟨μ3, env, st2, z, st', S3, e4, fun μ4 H4 z1 S4 r4 E4 => ⟨μ4, env, st', σ, y, z, .bl v, S4, (r2.ext E3).ext E4, r4, by simp only; rw [e5]; rfl, fun μ5 H5 z S5 r5 E5 => ?_⟩⟩
    rw [Rep] at r5
    exact ⟨v, r5, q μ5 H5 S5 ((((E1.trans E2).trans E3).trans E4).trans E5)⟩
  · cases h
    rw [if_neg Bool.false_ne_true]
    exact ⟨false, rfl, q μ3 H3 S3 ((E1.trans E2).trans E3)⟩
/-! ### and, or, not, if -/
theorem and_inv {a b : IE} {env : Env} {st st' : Store} {v : PV} (h : evalE P cf (.and a b) env st = .ok v st') : ∃ k st1, evalE P cf a env st = .ok (.bl k) st1 ∧ ((k = true ∧ evalE P cf b env st1 = .ok v st') ∨ (k = false ∧ st' = st1 ∧ v = .bl false)) := by
  rw [evalE] at h
  obtain ⟨x, st1, e1, h⟩ := Res.bind_eq_ok h
  split at h
  · exact ⟨true, st1, e1, .inl ⟨rfl, h⟩⟩
  · cases h; exact ⟨false, _, e1, .inr ⟨rfl, rfl, rfl⟩⟩
  · cases h
theorem or_inv {a b : IE} {env : Env} {st st' : Store} {v : PV} (h : evalE P cf (.or a b) env st = .ok v st') : ∃ k st1, evalE P cf a env st = .ok (.bl k) st1 ∧ ((k = false ∧ evalE P cf b env st1 = .ok v st') ∨ (k = true ∧ st' = st1 ∧ v = .bl true)) := by
  rw [evalE] at h
  obtain ⟨x, st1, e1, h⟩ := Res.bind_eq_ok h
  split at h
  · exact ⟨false, st1, e1, .inl ⟨rfl, h⟩⟩
  · cases h; exact ⟨true, _, e1, .inr ⟨rfl, rfl, rfl⟩⟩
  · cases h
variable {a b c : Expr} {ia ib ic : IE} {rest : List Expr}
theorem e_and (ha : PE X a (tE P cf L ia)) (hb : PE X (.BoolOp .And (b :: rest) pos) (tE P cf L ib)) : PE X (.BoolOp .And (a :: b :: rest) pos) (tE P cf L (.and ia ib)) := by
  refine (pe_and ha hb).mono fun σ H Q q => ?_
  obtain ⟨μ, env, st, v, st', S, ev, q⟩ := q
  obtain ⟨k, st1, e1, h⟩ := and_inv ev
  refine ⟨μ, env, st, _, st1, S, e1, fun μ1 H1 x1 S1 r1 E1 => ?_⟩
  rw [Rep] at r1
  refine ⟨k, r1, ?_⟩
  rcases h with ⟨rfl, h⟩ | ⟨rfl, rfl, rfl⟩
  · rw [if_pos rfl]
    exact ⟨μ1, env, st1, v, st', S1, h, fun μ2 H2 x S2 r2 E2 => q μ2 H2 x S2 r2 (E1.trans E2)⟩
  · rw [if_neg Bool.false_ne_true]
    exact q μ1 H1 _ S1 Rep.bl_ E1
theorem e_or (ha : PE X a (tE P cf L ia)) (hb : PE X (.BoolOp .Or (b :: rest) pos) (tE P cf L ib)) : PE X (.BoolOp .Or (a :: b :: rest) pos) (tE P cf L (.or ia ib)) := by
  refine (pe_or ha hb).mono fun σ H Q q => ?_
  obtain ⟨μ, env, st, v, st', S, ev, q⟩ := q
  obtain ⟨k, st1, e1, h⟩ := or_inv ev
  refine ⟨μ, env, st, _, st1, S, e1, fun μ1 H1 x1 S1 r1 E1 => ?_⟩
  rw [Rep] at r1
  refine ⟨k, r1, ?_⟩
  rcases h with ⟨rfl, h⟩ | ⟨rfl, rfl, rfl⟩
  · rw [if_neg Bool.false_ne_true]
    exact ⟨μ1, env, st1, v, st', S1, h, fun μ2 H2 x S2 r2 E2 => q μ2 H2 x S2 r2 (E1.trans E2)⟩
  · rw [if_pos rfl]
    exact q μ1 H1 _ S1 Rep.bl_ E1
theorem w_and (ha : PT X a (tT P cf L ia)) (hb : PW X (.BoolOp .And (b :: rest) pos) (tT P cf L ib)) : PW X (.BoolOp .And (a :: b :: rest) pos) (tT P cf L (.and ia ib)) := by
  refine (pw_and ha hb).mono fun σ H Q q => ?_
  obtain ⟨μ, env, st, v, st', S, ev, q⟩ := q
  obtain ⟨k, st1, e1, h⟩ := and_inv ev
  refine ⟨μ, env, st, _, st1, S, e1, fun μ1 H1 S1 E1 => ?_⟩
  rcases h with ⟨rfl, h⟩ | ⟨rfl, rfl, h⟩
  · rw [if_pos rfl]
    exact ⟨μ1, env, st1, v, st', S1, h, fun μ2 H2 S2 E2 => q μ2 H2 S2 (E1.trans E2)⟩
  · cases h
    rw [if_neg Bool.false_ne_true]
    exact q μ1 H1 S1 E1
theorem w_or (ha : PT X a (tT P cf L ia)) (hb : PW X (.BoolOp .Or (b :: rest) pos) (tT P cf L ib)) : PW X (.BoolOp .Or (a :: b :: rest) pos) (tT P cf L (.or ia ib)) := by
  refine (pw_or ha hb).mono fun σ H Q q => ?_
  obtain ⟨μ, env, st, v, st', S, ev, q⟩ := q
  obtain ⟨k, st1, e1, h⟩ := or_inv ev
  refine ⟨μ, env, st, _, st1, S, e1, fun μ1 H1 S1 E1 => ?_⟩
  rcases h with ⟨rfl, h⟩ | ⟨rfl, rfl, h⟩
  · rw [if_neg Bool.false_ne_true]
    exact ⟨μ1, env, st1, v, st', S1, h, fun μ2 H2 S2 E2 => q μ2 H2 S2 (E1.trans E2)⟩
  · cases h
    rw [if_pos rfl]
    exact q μ1 H1 S1 E1
theorem not_inv {a : IE} {env : Env} {st st' : Store} {v : PV} (h : evalE P cf (.not a) env st = .ok v st') : ∃ k, evalE P cf a env st = .ok (.bl k) st' ∧ v = .bl (!k) := by
  rw [evalE] at h
  obtain ⟨x, st1, e1, h⟩ := Res.bind_eq_ok h
  split at h
  · cases h; exact ⟨_, e1, rfl⟩
  · cases h
theorem e_not (ha : PE X a (tE P cf L ia)) : PE X (.UnaryOp .Not a pos) (tE P cf L (.not ia)) := by
  refine (pe_not ha).mono fun σ H Q q => ?_
  obtain ⟨μ, env, st, v, st', S, ev, q⟩ := q
  obtain ⟨k, e1, rfl⟩ := not_inv ev
  refine ⟨μ, env, st, _, st', S, e1, fun μ1 H1 x1 S1 r1 E1 => ?_⟩
  rw [Rep] at r1
  exact ⟨k, r1, q μ1 H1 _ S1 Rep.bl_ E1⟩
theorem t_not (ha : PT X a (tT P cf L ia)) : PT X (.UnaryOp .Not a pos) (tT P cf L (.not ia)) := by
  refine (pt_not ha).mono fun σ H Q q => ?_
  obtain ⟨μ, env, st, v, st', S, ev, q⟩ := q
  obtain ⟨k, e1, h⟩ := not_inv ev
  cases h
  exact ⟨μ, env, st, _, st', S, e1, fun μ1 H1 S1 E1 => q μ1 H1 S1 E1⟩
theorem ite_inv {c a b : IE} {env : Env} {st st' : Store} {v : PV} (h : evalE P cf (.ite c a b) env st = .ok v st') : ∃ k st1, evalE P cf c env st = .ok (.bl k) st1 ∧ (if k = true then evalE P cf a env st1 = .ok v st' else evalE P cf b env st1 = .ok v st') := by
  rw [evalE] at h
  obtain ⟨x, st1, e1, h⟩ := Res.bind_eq_ok h
  split at h
  · exact ⟨true, st1, e1, h⟩
  · exact ⟨false, st1, e1, h⟩
  · cases h
theorem e_ite (hc : PT X c (tT P cf L ic)) (ha : PE X a (tE P cf L ia)) (hb : PE X b (tE P cf L ib)) : PE X (.IfExp c a b pos) (tE P cf L (.ite ic ia ib)) := by
  refine (pe_ifExp hc ha hb).mono fun σ H Q q => ?_
  obtain ⟨μ, env, st, v, st', S, ev, q⟩ := q
  obtain ⟨k, st1, e1, h⟩ := ite_inv ev
  refine ⟨μ, env, st, k, st1, S, e1, fun μ1 H1 S1 E1 => ?_⟩
  cases k with
  | true => exact ⟨μ1, env, st1, v, st', S1, h, fun μ2 H2 x S2 r2 E2 => q μ2 H2 x S2 r2 (E1.trans E2)⟩
  | false => exact ⟨μ1, env, st1, v, st', S1, h, fun μ2 H2 x S2 r2 E2 => q μ2 H2 x S2 r2 (E1.trans E2)⟩
theorem e_neg (ha : PE X a (tE P cf L ia)) : PE X (.UnaryOp .USub a pos) (tE P cf L (.neg ia)) := by
  refine (pe_un un_neg ha).mono fun σ H Q q => ?_
  obtain ⟨μ, env, st, v, st', S, ev, q⟩ := q
  rw [evalE] at ev
  obtain ⟨x, st1, e1, ev⟩ := Res.bind_eq_ok ev
  split at ev
  · cases ev
    refine ⟨μ, env, st, _, st', S, e1, fun μ1 H1 x1 S1 r1 E1 => ?_⟩
    rw [Rep] at r1
    exact ⟨_, r1, q μ1 H1 _ S1 Rep.int_ E1⟩
  · cases ev
/-! ### subscripts -/
theorem e_idx (hK : X.K = L.K) (ha : PE X a (tE P cf L ia)) (hb : PE X b (tE P cf L ib)) (hs : PlainIx b) : PE X (.Subscript a b pos) (tE P cf L (.idx ia ib)) := by
  refine (pe_ix (ix_ok hK) ha hb hs).mono fun σ H Q q => ?_
  obtain ⟨μ, env, st, v, st', S, ev, q⟩ := q
  rw [evalE] at ev
  obtain ⟨x, st1, e1, ev⟩ := Res.bind_eq_ok ev
  obtain ⟨y, st2, e2, ev⟩ := Res.bind_eq_ok ev
  obtain ⟨e3, rfl⟩ := Res.opt_eq_ok ev
  refine ⟨μ, env, st, x, st1, S, e1, fun μ1 H1 x1 S1 r1 E1 => ⟨μ1, env, st1, y, st', S1, e2, fun μ2 H2 y1 S2 r2 E2 => ?_⟩⟩
  exact ⟨μ2, env, st', σ, x, y, v, S2, r1.ext E2, r2, e3, fun μ3 H3 z S3 r3 E3 => q μ3 H3 z S3 r3 ((E1.trans E2).trans E3)⟩
variable (P cf L) in
def tO (ie : IE) : TO := fun σ H Q => ∃ μ env st v st' o, SR L μ env st σ H ∧ evalE P cf ie env st = .ok v st' ∧ partOf ie v = some o ∧ ∀ μ' H', SR L μ' env st' σ H' → Ext μ H μ' H' → Q o H'
theorem _root_.L2.PO.mono {X : Cx} {e : Option Expr} {t t' : TO} (h : PO X e t) (m : ∀ σ H Q, t' σ H Q → t σ H Q) : PO X e t' := ⟨fun pins s σ H Q I q => h.run pins s σ H Q I (m σ H Q q)⟩
theorem o_none : PO X none (tO L P cf (.con .non)) := by
  refine po_none.mono fun σ H Q q => ?_
  obtain ⟨μ, env, st, v, st', o, S, ev, ho, q⟩ := q
  rw [evalE] at ev
  cases ev
  cases ho
  exact q μ H S (Ext.refl _ _)
theorem o_some {e : Expr} {ie : IE} (h : PE X e (tE P cf L ie)) (hn : ie ≠ .con .non) : PO X (some e) (tO L P cf ie) := by
  refine (po_some h).mono fun σ H Q q => ?_
  obtain ⟨μ, env, st, v, st', o, S, ev, ho, q⟩ := q
  unfold partOf at ho
  split at ho
  · exact absurd rfl hn
  · cases ho
    refine ⟨μ, env, st, _, st', S, ev, fun μ1 H1 x1 S1 r1 E1 => ?_⟩
    rw [Rep] at r1
    exact ⟨_, r1, q μ1 H1 S1 E1⟩
  · cases ho
theorem e_slc (hK : X.K = L.K) {lo hi : Option Expr} {il ih : IE} {p2 : Pos} (ha : PE X a (tE P cf L ia)) (hl : PO X lo (tO L P cf il)) (hh : PO X hi (tO L P cf ih)) : PE X (.Subscript a (.Slice lo hi none p2) pos) (tE P cf L (.slc ia il ih)) := by
  refine (pe_slice (sl_ok hK) ha hl hh).mono fun σ H Q q => ?_
  obtain ⟨μ, env, st, v, st', S, ev, q⟩ := q
  rw [evalE] at ev
  obtain ⟨x, st1, e1, ev⟩ := Res.bind_eq_ok ev
  obtain ⟨l, st2, e2, ev⟩ := Res.bind_eq_ok ev
  obtain ⟨h, st3, e3, ev⟩ := Res.bind_eq_ok ev
  obtain ⟨e4, rfl⟩ := Res.opt_eq_ok ev
  rw [Option.bind_eq_some_iff] at e4
  obtain ⟨l', hl', e4⟩ := e4
  rw [Option.bind_eq_some_iff] at e4
  obtain ⟨h', hh', e4⟩ := e4
  refine ⟨μ, env, st, x, st1, S, e1, fun μ1 H1 x1 S1 r1 E1 => ⟨μ1, env, st1, l, st2, l', S1, e2, hl', fun μ2 H2 S2 E2 => ⟨μ2, env, st2, h, st', h', S2, e3, hh', fun μ3 H3 S3 E3 => ?_⟩⟩⟩
  exact ⟨μ3, env, st', σ, x, v, S3, (r1.ext E2).ext E3, e4, fun μ4 H4 z S4 r4 E4 => q μ4 H4 z S4 r4 (((E1.trans E2).trans E3).trans E4)⟩
/-! ### built-ins -/
theorem pr1_inv {p : P1} {a : IE} {env : Env} {st st' : Store} {v : PV} (h : evalE P cf (.pr1 p a) env st = .ok v st') : ∃ x, evalE P cf a env st = .ok x st' ∧ prim1 p (der st' x) = some v := by
  rw [evalE] at h
  obtain ⟨x, st1, e1, h⟩ := Res.bind_eq_ok h
  obtain ⟨e2, rfl⟩ := Res.opt_eq_ok h
  exact ⟨x, e1, e2⟩
theorem tcb1 {p : P1} (ha : PA X [a] (tA P cf L (.cons ia .nil))) {x : Str} {pp : Pos} (h : ∀ t, PA X [a] t → PE X (.Call (.Name x pp) [a] [] pos) (tCB (rP L p) t)) : PE X (.Call (.Name x pp) [a] [] pos) (tE P cf L (.pr1 p ia)) := by
  refine (h _ ha).mono fun σ H Q q => ?_
  obtain ⟨μ, env, st, v, st', S, ev, q⟩ := q
  obtain ⟨y, e1, e2⟩ := pr1_inv ev
  refine ⟨μ, env, st, [y], st', S, by rw [evalEs, e1]; simp [evalEs], fun μ1 H1 xs S1 r1 E1 => ?_⟩
  obtain ⟨x1, xr, rfl, r1', rr⟩ := r1.of_cons
  obtain rfl := rr.of_nil
  exact ⟨μ1, env, st', σ, y, v, x1, rfl, S1, r1', e2, fun μ2 H2 z S2 r2 E2 => q μ2 H2 z S2 r2 (E1.trans E2)⟩
theorem tcb2 {p : P2} (ha : PA X [a, b] (tA P cf L (.cons ia (.cons ib .nil)))) {x : Str} {pp : Pos} (h : ∀ t, PA X [a, b] t → PE X (.Call (.Name x pp) [a, b] [] pos) (tCB (rP2 L p) t)) : PE X (.Call (.Name x pp) [a, b] [] pos) (tE P cf L (.pr2 p ia ib)) := by
  refine (h _ ha).mono fun σ H Q q => ?_
  obtain ⟨μ, env, st, v, st', S, ev, q⟩ := q
  rw [evalE] at ev
  obtain ⟨y, st1, e1, ev⟩ := Res.bind_eq_ok ev
  obtain ⟨z, st2, e2, ev⟩ := Res.bind_eq_ok ev
  obtain ⟨e3, rfl⟩ := Res.opt_eq_ok ev
  refine ⟨μ, env, st, [y, z], st', S, by rw [evalEs, e1, Res.bind_ok, evalEs, e2]; simp [evalEs], fun μ1 H1 xs S1 r1 E1 => ?_⟩
  obtain ⟨x1, xr, rfl, r1', rr⟩ := r1.of_cons
  obtain ⟨x2, xr2, rfl, r2', rr2⟩ := rr.of_cons
  obtain rfl := rr2.of_nil
  exact ⟨μ1, env, st', σ, y, z, v, x1, x2, rfl, S1, r1', r2', e3, fun μ2 H2 z S2 r2 E2 => q μ2 H2 z S2 r2 (E1.trans E2)⟩
/-! ### fields -/
theorem lookK_zip (hnm : ∀ a b : Nat, L.nm a = L.nm b → a = b) {H : Hp} {μ : List Addr} {k : Nat} {v : PV} : ∀ {ks : List Nat} {vs : List PV} {ws : List V}, ks.length = ws.length → Reps L H μ vs ws → lookK k ks vs = some v →
    ∃ w, ((ks.map L.nm).zip ws).lookup (L.nm k) = some w ∧ Rep L H μ v w
  | [], vs, ws, hl, rv, h => by simp [lookK] at h
  | a :: ks, [], ws, hl, rv, h => by simp [lookK] at h
  | a :: ks, u :: us, ws, hl, rv, h => by
    obtain ⟨w, wr, rfl, r1, r2⟩ := rv.of_cons
    rw [lookK] at h
    simp only [List.map_cons, List.zip_cons_cons]
    by_cases hk : a = k
    · subst hk
      rw [if_pos rfl] at h
      cases h
      exact ⟨w, by simp, r1⟩
    · rw [if_neg hk] at h
      obtain ⟨w', e, r⟩ := lookK_zip hnm (by simpa using hl) r2 h
      refine ⟨w', ?_, r⟩
      have hne : (L.nm k == L.nm a) = false := by
        rw [beq_eq_false_iff_ne]
        exact fun z => hk (hnm _ _ z.symm)
      rw [List.lookup_cons, hne]
      exact e
theorem e_fld (hnm : ∀ a b : Nat, L.nm a = L.nm b → a = b) (hcl : ∀ c cl, P.cls c = some cl → L2.Cls X.K (L.cls c)) (k : Nat) (hno : ∀ c cl, P.cls c = some cl → cl.meths.lookup k = none → NoAttr X.K (L.cls c) (L.nm k)) (ha : PE X a (tE P cf L ia)) (hb : attributeBase a (L.nm k) X.env (eval a X.env) = eval a X.env) : PE X (.Attribute a (L.nm k) pos) (tE P cf L (.fld k ia)) := by
  refine (pe_fld ha hb).mono fun σ H Q q => ?_
  obtain ⟨μ, env, st, v, st', S, ev, q⟩ := q
  rw [evalE] at ev
  obtain ⟨x, st1, e1, ev⟩ := Res.bind_eq_ok ev
  obtain ⟨e2, rfl⟩ := Res.opt_eq_ok ev
  refine ⟨μ, env, st, x, st', S, e1, fun μ1 H1 x1 S1 r1 E1 => ?_⟩
  rw [Option.bind_eq_some_iff] at e2
  obtain ⟨c0, hc0, e2⟩ := e2
  rw [Option.bind_eq_some_iff] at e2
  obtain ⟨cl0, hcl0, e2⟩ := e2
  have hmn : cl0.meths.lookup k = none := by
    cases hq : cl0.meths.lookup k with
    | none => rfl
    | some _ => rw [hq] at e2; cases e2
  rw [hmn] at e2
  simp only [Option.isSome_none, Bool.false_eq_true, if_false] at e2
  unfold field1 at e2
  split at e2
  · rename_i c ks vs
    cases hc0
    rw [Rep] at r1
    obtain ⟨p, dx, ws, rfl, hH, hp, hq, hl, rv⟩ := r1
    obtain ⟨w, e3, rw'⟩ := lookK_zip hnm hl rv e2
    exact ⟨p, L.cls _, dx, _, w, rfl, hH, hcl _ _ hcl0, hno _ _ hcl0 hmn, e3, q μ1 H1 w S1 rw' E1⟩
  · rename_i n
    split at e2
    · rename_i c ks vs hst
      simp only [clsOf, hst] at hc0
      cases hc0
      rw [Rep] at r1
      obtain ⟨p, hp, rfl⟩ := r1
      obtain ⟨p', hp', dx, ws, hH, hl, rv⟩ := S1.sto.at_ n _ hst
      rw [hp] at hp'; cases hp'
      obtain ⟨w, e3, rw'⟩ := lookK_zip hnm hl rv e2
      exact ⟨p, L.cls _, dx, _, w, rfl, hH, hcl _ _ hcl0, hno _ _ hcl0 hmn, e3, q μ1 H1 w S1 rw' E1⟩
    · cases e2
  · cases e2
end
end MP
namespace MP
open PySem PySem.Spec PyProof.Rows L2

/-! ### the slots of a comprehension's names are put away -/
def wipeE (env : Env) : List Nat → Env
  | [] => env
  | v :: vs => (wipeE env vs).set v none
theorem wipeE_length (env : Env) : ∀ vs : List Nat, (wipeE env vs).length = env.length
  | [] => rfl
  | v :: vs => by unfold wipeE; rw [List.length_set, wipeE_length env vs]
theorem wipeE_get {env : Env} : ∀ (vs : List Nat) (j : Nat), (wipeE env vs)[j]? = if j ∈ vs ∧ j < env.length then some none else env[j]?
  | [], j => by simp [wipeE]
  | v :: vs, j => by
    unfold wipeE
    have ih := wipeE_get (env := env) vs j
    by_cases h : v = j
    · subst h
      by_cases hl : v < env.length
      · rw [List.getElem?_set_self (by rw [wipeE_length]; exact hl)]
        simp [hl]
      · rw [List.getElem?_eq_none (by simp [wipeE_length]; omega)]
        rw [if_neg (by omega), List.getElem?_eq_none (by omega)]
    · rw [List.getElem?_set_ne h, ih]
      by_cases h2 : j ∈ vs
      · simp [h2]
      · have : ¬ j = v := fun z => h z.symm
        simp [h2, this]
theorem bindT_agree : ∀ (tg : IE) (v : PV) (e1 e2 e1' : Env), e1.length = e2.length → bindT tg v e1 = some e1' → ∃ e2', bindT tg v e2 = some e2' ∧ e1'.length = e2'.length ∧ ∀ j, (j ∈ slots tg ∨ e1[j]? = e2[j]?) → e1'[j]? = e2'[j]?
  | .var i, v, e1, e2, e1', hl, h => by
    rw [bindT] at h
    split at h
    · rename_i hi
      cases h
      refine ⟨e2.set i (some v), by rw [bindT, if_pos (by omega)], by simpa using hl, fun j hj => ?_⟩
      by_cases hij : i = j
      · subst hij
        rw [List.getElem?_set_self hi, List.getElem?_set_self (by omega)]
      · rw [List.getElem?_set_ne hij, List.getElem?_set_ne hij]
        exact hj.elim (fun z => absurd (by simpa [slots, eq_comm] using z) hij) id
    · cases h
  | .tup t, v, e1, e2, e1', hl, h => by
    cases v with
    | tup vs =>
      rw [bindT] at h ⊢
      rw [slots]
      exact bindT_agree t _ e1 e2 e1' hl h
    | _ => simp [bindT] at h
  | .nil, v, e1, e2, e1', hl, h => by
    cases v with
    | lst vs =>
      cases vs with
      | nil => rw [bindT] at h ⊢; cases h; exact ⟨e2, rfl, hl, fun j hj => hj.elim (fun z => by simp [slots] at z) id⟩
      | cons _ _ => simp [bindT] at h
    | _ => simp [bindT] at h
  | .cons t r, v, e1, e2, e1', hl, h => by
    cases v with
    | lst vs =>
      cases vs with
      | nil => simp [bindT] at h
      | cons v vs =>
        rw [bindT, Option.bind_eq_some_iff] at h
        obtain ⟨m1, h1, h2⟩ := h
        obtain ⟨m2, k1, k2, k3⟩ := bindT_agree t v e1 e2 m1 hl h1
        obtain ⟨n2, l1, l2, l3⟩ := bindT_agree r _ m1 m2 e1' k2 h2
        refine ⟨n2, by rw [bindT, k1]; exact l1, l2, fun j hj => ?_⟩
        rw [slots, List.mem_append] at hj
        rcases hj with (z | z) | z
        · exact l3 j (.inr (k3 j (.inl z)))
        · exact l3 j (.inl z)
        · exact l3 j (.inr (k3 j (.inr z)))
    | _ => simp [bindT] at h
  | .star _ _, _, _, _, _, _, h | .con _, _, _, _, _, _, h | .lst _, _, _, _, _, _, h | .nw _, _, _, _, _, _, h | .bin .., _, _, _, _, _, h | .cmp .., _, _, _, _, _, h | .chn .., _, _, _, _, _, h | .and .., _, _, _, _, _, h | .or .., _, _, _, _, _, h
  | .not _, _, _, _, _, _, h | .neg _, _, _, _, _, _, h | .ite .., _, _, _, _, _, h | .idx .., _, _, _, _, _, h | .slc .., _, _, _, _, _, h | .call .., _, _, _, _, _, h | .callk .., _, _, _, _, _, h | .make .., _, _, _, _, _, h | .meth .., _, _, _, _, _, h | .fld .., _, _, _, _, _, h
  | .pr1 .., _, _, _, _, _, h | .pr2 .., _, _, _, _, _, h | .isi .., _, _, _, _, _, h | .comp .., _, _, _, _, _, h | .comp2 .., _, _, _, _, _, h | .sortk .., _, _, _, _, _, h | .rng .., _, _, _, _, _, h | .enm .., _, _, _, _, _, h | .zip .., _, _, _, _, _, h
  | .append .., _, _, _, _, _, h | .extend .., _, _, _, _, _, h | .pop .., _, _, _, _, _, h | .popat .., _, _, _, _, _, h | .insert .., _, _, _, _, _, h | .index .., _, _, _, _, _, h | .rpr .., _, _, _, _, _, h | .join .., _, _, _, _, _, h | .get .., _, _, _, _, _, h => nomatch (show (none : Option Env) = _ from h)
theorem bindT_wipe {tg : IE} {v : PV} {env env' : Env} {vs : List Nat} (hv : ∀ i ∈ vs, i ∈ slots tg) (h : bindT tg v env = some env') : bindT tg v (wipeE env vs) = some env' := by
  obtain ⟨e2, k1, k2, k3⟩ := bindT_agree tg v env (wipeE env vs) env' (wipeE_length env vs).symm h
  rw [k1]
  congr 1
  apply List.ext_getElem?
  intro j
  refine (k3 j ?_).symm
  rw [wipeE_get]
  by_cases hj : j ∈ vs
  · exact .inl (hv j hj)
  · exact .inr (by rw [if_neg (fun z => hj z.1)])
section
variable {X : Cx} {L : Lay} {P : Prog} {cf : Nat → List PV → Store → Res PV}
theorem SR.wipe {μ : List Addr} {env : Env} {st : Store} {σ : L2.St} {H : Hp} (S : SR L μ env st σ H) (vs : List Nat) : SR L μ (wipeE env vs) st (wipe σ vs) H := by
  refine ⟨fun i v e => ?_, by rw [wipeE_length, wipe_length, S.len], S.sto⟩
  rw [wipeE_get] at e
  rw [wipe_get]
  by_cases h : i ∈ vs
  · by_cases hl : i < env.length
    · rw [if_pos ⟨h, hl⟩] at e; cases e
    · rw [if_neg (fun z => hl z.2), List.getElem?_eq_none (by omega)] at e; cases e
  · rw [if_neg (fun z => h z.1)] at e
    rw [if_neg (fun z => h z.1)]
    exact S.evr i v e
theorem walk_g {st : Store} {v : PV} {xs : List PV} {g : Store → Bool} (h : walk st v = some (xs, g)) : g st = true := by
  unfold walk at h
  split at h
  · split at h
    · cases h; exact decide_eq_true (by assumption)
    · cases h
  · simp only [Option.map_eq_some_iff] at h
    obtain ⟨ys, _, e⟩ := h
    cases e; rfl
theorem PG.any {ι : Type} {tg : Expr} {t : ι → TG} (h : ∀ i, PG X tg (t i)) : PG X tg (fun x σ H Q => ∃ i, t i x σ H Q) := ⟨fun pins s σ H v u Q I r ⟨i, q⟩ => (h i).run pins s σ H v u Q I r q⟩
theorem PTs.any {ι : Type} {ifs : List Expr} {t : ι → TT} (h : ∀ i, PTs X ifs (t i)) : PTs X ifs (fun σ H Q => ∃ i, t i σ H Q) := ⟨fun pins s σ H Q I ⟨i, q⟩ => (h i).run pins s σ H Q I q⟩
theorem PE.any {ι : Type} {e : Expr} {t : ι → TE} (h : ∀ i, PE X e (t i)) : PE X e (fun σ H Q => ∃ i, t i σ H Q) := ⟨fun pins s σ H Q I ⟨i, q⟩ => (h i).run pins s σ H Q I q⟩
theorem _root_.L2.PTs.mono {ifs : List Expr} {t t' : TT} (h : PTs X ifs t) (m : ∀ σ H Q, t' σ H Q → t σ H Q) : PTs X ifs t' := ⟨fun pins s σ H Q I q => h.run pins s σ H Q I (m σ H Q q)⟩
theorem ts_nil : PTs X [] (tT P cf L (.con (.bl true))) := by
  refine pts_nil.mono fun σ H Q q => ?_
  obtain ⟨μ, env, st, b, st', S, ev, q⟩ := q
  rw [evalE] at ev
  cases ev
  exact q μ H S (Ext.refl _ _)
/-- one turn -/
def turnE (P : Prog) (cf : Nat → List PV → Store → Res PV) (tg cond elt : IE) (env : Env) (x : PV) (st : Store) : Res (Option PV) := match bindT tg x env with
      | none => .bad
      | some env => (evalE P cf cond env st).bind fun k st => match k with
        | .bl true => (evalE P cf elt env st).bind fun y st => .ok (some y) st
        | .bl false => .ok none st
        | _ => .bad
theorem turn_inv {tg cond elt : IE} {env : Env} {x : PV} {st st' : Store} {o : Option PV} (h : turnE P cf tg cond elt env x st = .ok o st') :
    ∃ env' k st1, bindT tg x env = some env' ∧ evalE P cf cond env' st = .ok (.bl k) st1 ∧ ((k = true ∧ ∃ y, evalE P cf elt env' st1 = .ok y st' ∧ o = some y) ∨ (k = false ∧ st' = st1 ∧ o = none)) := by
  unfold turnE at h
  split at h
  · cases h
  · rename_i env' he
    obtain ⟨k, st1, e1, h1⟩ := Res.bind_eq_ok h
    split at h1
    · obtain ⟨y, st2, e2, h2⟩ := Res.bind_eq_ok h1
      cases h2
      exact ⟨env', true, st1, he, e1, .inl ⟨rfl, y, e2, rfl⟩⟩
    · cases h1
      exact ⟨env', false, _, he, e1, .inr ⟨rfl, rfl, rfl⟩⟩
    · cases h1
theorem compL_cons {f : PV → Store → Res (Option PV)} {g : Store → Bool} {x : PV} {xs : List PV} {st st' : Store} {ys : List PV} (h : compL f g (x :: xs) st = .ok ys st') :
    ∃ o st1 zs, f x st = .ok o st1 ∧ g st1 = true ∧ compL f g xs st1 = .ok zs st' ∧ ys = (match o with | some y => y :: zs | none => zs) := by
  rw [compL] at h
  obtain ⟨o, st1, e1, h1⟩ := Res.bind_eq_ok h
  split at h1
  · rename_i hg
    obtain ⟨zs, st2, e2, h2⟩ := Res.bind_eq_ok h1
    cases h2
    exact ⟨o, st1, zs, e1, hg, e2, rfl⟩
  · cases h1
theorem comp_inv {tg it cond elt : IE} {env : Env} {st st' : Store} {v : PV} (h : evalE P cf (.comp tg it cond elt) env st = .ok v st') :
    ∃ wv st1 xs g ys, evalE P cf it env st = .ok wv st1 ∧ walk st1 wv = some (xs, g) ∧ compL (turnE P cf tg cond elt env) g xs st1 = .ok ys st' ∧ v = .lst ys := by
  rw [evalE] at h
  obtain ⟨wv, st1, e1, h1⟩ := Res.bind_eq_ok h
  obtain ⟨w, st2, e2, h2⟩ := Res.bind_eq_ok h1
  obtain ⟨e2', rfl⟩ := Res.opt_eq_ok e2
  obtain ⟨ys, st3, e3, h3⟩ := Res.bind_eq_ok h2
  cases h3
  exact ⟨wv, st2, w.1, w.2, ys, e1, e2', e3, rfl⟩
theorem comp_isl {tg it cond elt : IE} : ∀ env st v st', evalE P cf (.comp tg it cond elt) env st = .ok v st' → ∃ xs, v = .lst xs := fun env st v st' h => by
  obtain ⟨_, _, _, _, ys, _, _, _, rfl⟩ := comp_inv h
  exact ⟨ys, rfl⟩
variable {elt tg iter : Expr} {ifs : List Expr} {scope : Scope} {own : List (Str × Nat)} {pos : Pos} {itg iit icond ielt : IE}
theorem wipe_wipe (σ : L2.St) (vs : List Nat) : wipe (wipe σ vs) vs = wipe σ vs := by
  apply List.ext_getElem?
  intro j
  rw [wipe_get, wipe_get, wipe_length]
  split
  · rfl
  · rfl
theorem compL_nil {f : PV → Store → Res (Option PV)} {g : Store → Bool} {st st' : Store} {ys : List PV} (h : compL f g [] st = .ok ys st') : ys = [] ∧ st' = st := by
  rw [compL] at h; cases h; exact ⟨rfl, rfl⟩
/-- the loop of a comprehension, in the kit's terms -/
theorem lc_turns (vs : List Nat) (hv : ∀ i, i ∈ vs ↔ i ∈ slots itg) {σ : L2.St} {H : Hp} {Q : VK} {μ : List Addr} {env : Env} {st st' : Store} {ys : List PV} (S : SR L μ env st σ H) (ev : evalE P cf (.comp itg iit icond ielt) env st = .ok (.lst ys) st')
    (q : ∀ μ' H' p vs, SR L μ' env st' σ H' → Reps L H' μ' ys vs → Ext μ H μ' H' → H' p = none → Q (.ref p) (upd H' p (.lst vs))) :
    tLc (tI P cf L iit) (fun x σ H Q => ∃ D, tG (L.wh (D :: L.hid)) itg x σ H Q) (fun σ H Q => ∃ D, tT P cf (L.wh (D :: L.hid)) icond σ H Q) (fun σ H Q => ∃ D, tE P cf (L.wh (D :: L.hid)) ielt σ H Q) vs σ H Q := by
  obtain ⟨wv, st1, xs, g, ys', e1, hw, e2, ey⟩ := comp_inv ev
  cases ey
  refine ⟨μ, env, st, wv, st1, xs, g, S, e1, hw, fun μ1 H1 J S1 E1 W D hD => ?_⟩
  obtain ⟨sm, G, Y, w, wG, wY⟩ := W
  have hh : ∀ a ∈ D :: L.hid, a ∈ L.hid ∨ H1 a = none := fun a ha => (List.mem_cons.mp ha).elim (fun z => .inr (z ▸ hD)) .inl
  have hDm : D ∈ (L.wh (D :: L.hid)).hid := List.mem_cons_self
  refine lc_it (g := fun x σ H Q => ∃ D, tG (L.wh (D :: L.hid)) itg x σ H Q) (tt := fun σ H Q => ∃ D, tT P cf (L.wh (D :: L.hid)) icond σ H Q) (te := fun σ H Q => ∃ D, tE P cf (L.wh (D :: L.hid)) ielt σ H Q) (σ := σ) (vs := vs) (Qd := fun H => Q (.ref D) H) w
    (fun i H2 => i ≤ xs.length ∧ ∃ μ2 st2 acc accV rest, SR (L.wh (D :: L.hid)) μ2 env st2 σ H2 ∧ Ext μ1 H1 μ2 H2 ∧ g st2 = true ∧ H2 D = some (.lst accV) ∧ Reps (L.wh (D :: L.hid)) H2 μ2 acc accV ∧
    compL (turnE P cf itg icond ielt env) g (xs.drop i) st2 = .ok rest st' ∧ ys = acc ++ rest ∧ acc.length ≤ i) ?_ ?_ ?_ ?_
  · refine ⟨Nat.zero_le _, μ1, st1, [], [], ys, S1.hide hD, ?_, walk_g hw, upd_same, .nil, by simpa using e2, rfl, Nat.le_refl _⟩
    exact Ext.new_ hD
  · rintro i H2 _ ⟨hi, μ2, st2, acc, accV, rest, S2, E2, g2, _⟩
    exact wG _ μ2 env st2 σ H2 S2 E2 g2
  · rintro i x H2 H2' hi ⟨_, μ2, st2, acc, accV, rest, S2, E2, g2, hDa, ra, e3, ey, hl⟩ y
    obtain ⟨v, hv', S2', rx, E2'⟩ := wY _ i H2 x H2' μ2 env st2 σ hh hi S2 E2 g2 y
    have hx : xs.drop i = v :: xs.drop (i + 1) := by
      rw [List.getElem?_eq_getElem hi] at hv'
      cases hv'
      exact List.drop_eq_getElem_cons hi
    rw [hx] at e3
    obtain ⟨o, st3, zs, t1, g3, t2, t3⟩ := compL_cons e3
    obtain ⟨env', k, st4, b1, b2, b3⟩ := turn_inv t1
    have hDn : D ∉ μ2 := (S2.sto.hd D hDm).1
    have hD2 : H2' D = some (.lst accV) := E2'.fr _ _ hDa hDn
    have E3 := E2.trans E2'
    have ra3 := ra.ext E2'
    refine ⟨D, μ2, wipeE env vs, st2, v, env', S2'.wipe vs, rx, bindT_wipe (fun i hi => (hv i).mp hi) b1, fun σ3 S3 o3 => ⟨?_, D, μ2, env', st2, k, st4, S3, b2, fun μ4 H4 S4 E4 => ?_⟩⟩
    · rw [Only.wipe (vs := vs) (σ := wipe σ vs) ⟨o3.1, fun j hj => o3.2 j fun z => hj ((hv j).mpr z)⟩, wipe_wipe]
    · have hD3 : D ∉ μ2 := hDn
      have hD4 : H4 D = some (.lst accV) := E4.fr _ _ hD2 hDn
      have hDn4 : D ∉ μ4 := E4.off hD2 hDn
      -- the state without the comprehension's own names
      have back : ∀ {μ' H' st''}, SR (L.wh (D :: L.hid)) μ' env' st'' (σ3) H' → Ext μ2 H2' μ' H' → SR (L.wh (D :: L.hid)) μ' env st'' σ H' := fun {μ' H' st''} S' E' => S2'.ext E' S'.sto
      rcases b3 with ⟨rfl, yv, b4, rfl⟩ | ⟨rfl, rfl, rfl⟩
      · dsimp only
        rw [if_pos rfl]
        refine ⟨D, μ4, env', st4, yv, st3, S4, b4, fun μ5 H5 y5 S5 r5 E5 => ?_⟩
        have hD5 : H5 D = some (.lst accV) := E5.fr _ _ hD4 hDn4
        have E25 : Ext μ2 H2' μ5 H5 := E4.trans E5
        have ra5 := ra3.ext E25
        have S5' := back S5 E25
        refine ⟨accV, hD5, by rw [← ra5.length]; omega, by omega, μ5, st3, acc ++ [yv], accV ++ [y5], zs, S5'.hset hDm, ?_, g3, upd_same, (ra5.append (.cons r5 .nil)).hset hDm, t2, by rw [ey, t3]; simp, by simp; omega⟩
        have E15 := E3.trans E25
        exact ⟨fun a o e n => by rw [upd_ne (fun z => by subst z; rw [hD] at e; cases e)]; exact E15.fr a o e n, E15.pre, E15.new⟩
      · dsimp only
        rw [if_neg Bool.false_ne_true]
        exact ⟨by omega, μ4, _, acc, accV, zs, back S4 E4, E3.trans E4, g3, hD4, ra3.ext E4, t2, by rw [ey, t3], by omega⟩
  · rintro H2 ⟨_, μ2, st2, acc, accV, rest, S2, E2, g2, hDa, ra, e3, ey, hl⟩
    rw [List.drop_length] at e3
    obtain ⟨rfl, rfl⟩ := compL_nil e3
    rw [List.append_nil] at ey
    subst ey
    have hDn : D ∉ μ2 := (S2.sto.hd D hDm).1
    have hne : ∀ {a : Addr} {o : HO}, H1 a = some o → a ≠ D := fun {a o} e z => by subst z; rw [hD] at e; cases e
    have k : ∀ a o, H2 a = some o → a ∉ μ2 → a ∉ (L.wh (D :: L.hid)).hid → (fun b => if b = D then none else H2 b) a = some o ∧ a ∉ μ2 ∧ a ∉ L.hid := fun a o e n m =>
      ⟨(if_neg (fun z => m (by rw [z]; exact hDm))).trans e, n, fun z => m (List.mem_cons_of_mem _ z)⟩
    have S' : SR L μ2 env _ σ (fun b => if b = D then none else H2 b) := S2.chg (h' := L.hid) k (fun a ha => if_neg (fun z : a = D => hDn (z ▸ ha))) fun a ha => by
      obtain ⟨n, o, e⟩ := S1.sto.hd a ha
      obtain ⟨n2, o2, e2⟩ := S2.sto.hd a (List.mem_cons_of_mem _ ha)
      exact ⟨n2, o2, (if_neg (hne e)).trans e2⟩
    have r' : Reps L (fun b => if b = D then none else H2 b) μ2 ys accV := ra.chg (h' := L.hid) k ⟨[], by simp⟩
    have E' : Ext μ1 H1 μ2 (fun b => if b = D then none else H2 b) := ⟨fun a o e n => (if_neg (hne e)).trans (E2.fr a o e n), E2.pre, E2.new⟩
    have z := q μ2 _ D accV S' r' (E1.trans E') (if_pos rfl)
    have eH : upd (fun b => if b = D then none else H2 b) D (.lst accV) = H2 := by
      funext b
      by_cases hb : b = D
      · subst hb; rw [upd_same]; exact hDa.symm
      · rw [upd_ne hb]; exact if_neg hb
    rw [eH] at z
    exact z
/-- [elt for tg in iter if ..] -/
theorem n_comp (hc : X.calm = true) (hN : X.N.Nodup) (hi : PI X tg iter (tI P cf L iit)) (ok : BlkOk X.N X.env.scope scope own) (hv : ∀ i, i ∈ own.map (·.2) ↔ i ∈ slots itg)
    (hg : ∀ (D : Addr) (s : Shared) (H : Hp) (C : Addr) (cl : List (Str × Addr)) (fp : List Addr), PG (X.blk s H scope (compEnvC scope cl C X.env) fp) tg (tG (L.wh (D :: L.hid)) itg))
    (ht : ∀ (D : Addr) (s : Shared) (H : Hp) (C : Addr) (cl : List (Str × Addr)) (fp : List Addr), PTs (X.blk s H scope (compEnvC scope cl C X.env) fp) ifs (tT P cf (L.wh (D :: L.hid)) icond))
    (he : ∀ (D : Addr) (s : Shared) (H : Hp) (C : Addr) (cl : List (Str × Addr)) (fp : List Addr), PE (X.blk s H scope (compEnvC scope cl C X.env) fp) elt (tE P cf (L.wh (D :: L.hid)) ielt)) (hs : ∀ x, foldedSetIterable iter X.env x = pure x) :
    PE X (.ListComp elt [⟨tg, iter, ifs, 0⟩] scope pos) (tN P cf L (.comp itg iit icond ielt)) := by
  refine (pe_lc hc hN hi ok (fun s H C cl fp => PG.any fun D => hg D s H C cl fp) (fun s H C cl fp => PTs.any fun D => ht D s H C cl fp) (fun s H C cl fp => PE.any fun D => he D s H C cl fp) hs).mono fun σ H Q q => ?_
  obtain ⟨μ, env, st, ys, st', S, ev, q⟩ := q
  exact lc_turns _ hv S ev q
/-- name = [..] on one line, the name a plain local: stored within -/
theorem s_setLc {i : Nat} {y : Str} {py spos : Pos} (hc : X.calm = true) (hN : X.N.Nodup) (hy : X.N[i]? = some y) (hyl : X.env.scope.names.lookup y = some .local)
    (hsw : swapsWith (.ListComp elt [⟨tg, iter, ifs, 0⟩] scope pos) (some (.Name y py)) spos.line X.env = pure true)
    (hi : PI X tg iter (tI P cf L iit)) (ok : BlkOk X.N X.env.scope scope own) (hv : ∀ i, i ∈ own.map (·.2) ↔ i ∈ slots itg)
    (hg : ∀ (D : Addr) (s : Shared) (H : Hp) (C : Addr) (cl : List (Str × Addr)) (fp : List Addr), PG (X.blk s H scope (compEnvC scope cl C X.env) fp) tg (tG (L.wh (D :: L.hid)) itg))
    (ht : ∀ (D : Addr) (s : Shared) (H : Hp) (C : Addr) (cl : List (Str × Addr)) (fp : List Addr), PTs (X.blk s H scope (compEnvC scope cl C X.env) fp) ifs (tT P cf (L.wh (D :: L.hid)) icond))
    (he : ∀ (D : Addr) (s : Shared) (H : Hp) (C : Addr) (cl : List (Str × Addr)) (fp : List Addr), PE (X.blk s H scope (compEnvC scope cl C X.env) fp) elt (tE P cf (L.wh (D :: L.hid)) ielt)) (hs : ∀ x, foldedSetIterable iter X.env x = pure x) :
    PS X (.Assign [.Name y py] (.ListComp elt [⟨tg, iter, ifs, 0⟩] scope pos) spos) (tAsg (tN P cf L (.comp itg iit icond ielt)) (gName i)) := by
  refine (ps_setLc hc hN hy hyl hsw hi ok (fun s H C cl fp => PG.any fun D => hg D s H C cl fp) (fun s H C cl fp => PTs.any fun D => ht D s H C cl fp) (fun s H C cl fp => PE.any fun D => he D s H C cl fp) hs).mono fun D σ H q => ?_
  obtain ⟨μ, env, st, ys, st', S, ev, q⟩ := q
  exact lc_turns _ hv S ev q
end
end MP
namespace MP
open PySem PySem.Spec PyProof.Rows L2

/-- what is wanted behind a statement that ended so -/
def FlOk (L : Lay) (D : Ends) (μ : List Addr) (H : Hp) (σ : L2.St) (st : Store) : Flow → Prop
  | .nx env => ∀ μ' H' σ', SR L μ' env st σ' H' → Ext μ H μ' H' → D.nx σ' H'
  | .rt v => ∀ μ' H' x, StoreRep L H' μ' st → Rep L H' μ' v x → Ext μ H μ' H' → D.rt x H'
section
variable (P : Prog) (cf : Nat → List PV → Store → Res PV) (L : Lay)
def tS (is : IS) : TS := fun D σ H => ∃ μ env st fl st', SR L μ env st σ H ∧ exec P cf is env st = .ok fl st' ∧ FlOk L D μ H σ st' fl
end
section
variable {X : Cx} {L : Lay} {P : Prog} {cf : Nat → List PV → Store → Res PV} {pos : Pos} {D D' : Ends} {μ μ1 : List Addr} {H H1 : Hp} {σ σ1 : L2.St} {st st' : Store} {fl : Flow}
theorem FlOk.ext (h : FlOk L D μ H σ st fl) (E : Ext μ H μ1 H1) : FlOk L D μ1 H1 σ1 st fl := by
  cases fl with
  | nx env => exact fun μ' H' σ' S E' => h μ' H' σ' S (E.trans E')
  | rt v => exact fun μ' H' x S r E' => h μ' H' x S r (E.trans E')
theorem FlOk.rt {v : PV} (h : FlOk L D μ H σ st (.rt v)) (e : D'.rt = D.rt) : FlOk L D' μ H σ st (.rt v) := fun μ' H' x S r E' => by rw [e]; exact h μ' H' x S r E'
theorem ss_nil : PSs X [] (tS P cf L .nil) := by
  refine pss_nil.mono fun D σ H q => ?_
  obtain ⟨μ, env, st, fl, st', S, ev, q⟩ := q
  rw [exec] at ev
  cases ev
  exact q μ H σ S (Ext.refl _ _)
theorem s_pass : PS X (.Pass pos) (tS P cf L .pass) := by
  refine ps_pass.mono fun D σ H q => ?_
  obtain ⟨μ, env, st, fl, st', S, ev, q⟩ := q
  rw [exec] at ev
  cases ev
  exact q μ H σ S (Ext.refl _ _)
theorem ss_cons {s : Stmt} {r : List Stmt} {is ir : IS} (h1 : PS X s (tS P cf L is)) (h2 : PSs X r (tS P cf L ir)) : PSs X (s :: r) (tS P cf L (.cons is ir)) := by
  refine (pss_cons h1 h2).mono fun D σ H q => ?_
  obtain ⟨μ, env, st, fl, st', S, ev, q⟩ := q
  rw [exec] at ev
  obtain ⟨f1, st1, e1, ev⟩ := Res.bind_eq_ok ev
  refine ⟨μ, env, st, f1, st1, S, e1, ?_⟩
  cases f1 with
  | nx env1 => exact fun μ1 H1 σ1 S1 E1 => ⟨μ1, env1, st1, fl, st', S1, ev, q.ext E1⟩
  | rt v => cases ev; exact FlOk.rt q rfl
theorem s_expr {e : Expr} {ie : IE} (he : PE X e (tE P cf L ie)) (hs : swapsWith e none pos.line X.env = pure false) : PS X (.Expr e pos) (tS P cf L (.exp ie)) := by
  refine (ps_expr he hs).mono fun D σ H q => ?_
  obtain ⟨μ, env, st, fl, st', S, ev, q⟩ := q
  rw [exec] at ev
  obtain ⟨v, st1, e1, ev⟩ := Res.bind_eq_ok ev
  cases ev
  exact ⟨μ, env, st, v, st', S, e1, fun μ1 H1 x S1 r1 E1 => q μ1 H1 σ S1 E1⟩
theorem s_ret {e : Expr} {ie : IE} (he : PE X e (tE P cf L ie)) : PS X (.Return (some e) pos) (tS P cf L (.ret ie)) := by
  refine (ps_ret he).mono fun D σ H q => ?_
  obtain ⟨μ, env, st, fl, st', S, ev, q⟩ := q
  rw [exec] at ev
  obtain ⟨v, st1, e1, ev⟩ := Res.bind_eq_ok ev
  cases ev
  exact ⟨μ, env, st, v, st', S, e1, fun μ1 H1 x S1 r1 E1 => q μ1 H1 x S1.sto r1 E1⟩
theorem s_retN : PS X (.Return none pos) (tS P cf L (.ret (.con .non))) := by
  refine ps_retN.mono fun D σ H q => ?_
  obtain ⟨μ, env, st, fl, st', S, ev, q⟩ := q
  rw [exec] at ev
  obtain ⟨v, st1, e1, ev⟩ := Res.bind_eq_ok ev
  rw [evalE] at e1
  cases e1
  cases ev
  exact q μ H .non S.sto Rep.non_ (Ext.refl _ _)
theorem s_rse {s : Stmt} {ie : IE} : PS X s (tS P cf L (.rse ie)) := by
  refine ps_never.mono fun D σ H q => ?_
  obtain ⟨μ, env, st, fl, st', S, ev, q⟩ := q
  rw [exec] at ev
  obtain ⟨v, st1, e1, ev⟩ := Res.bind_eq_ok ev
  cases ev
theorem s_if {c : Expr} {a b : List Stmt} {ic : IE} {ia ib : IS} (hc : PT X c (tT P cf L ic)) (ha : PSs X a (tS P cf L ia)) (hb : PSs X b (tS P cf L ib)) : PS X (.If c a b pos) (tS P cf L (.iff ic ia ib)) := by
  refine (ps_if hc ha hb).mono fun D σ H q => ?_
  obtain ⟨μ, env, st, fl, st', S, ev, q⟩ := q
  rw [exec] at ev
  obtain ⟨v, st1, e1, ev⟩ := Res.bind_eq_ok ev
  split at ev
  · exact ⟨μ, env, st, true, st1, S, e1, fun μ1 H1 S1 E1 => ⟨μ1, env, st1, fl, st', S1, ev, q.ext E1⟩⟩
  · exact ⟨μ, env, st, false, st1, S, e1, fun μ1 H1 S1 E1 => ⟨μ1, env, st1, fl, st', S1, ev, q.ext E1⟩⟩
  · cases ev
theorem s_asg {tg e : Expr} {itg ie : IE} (he : PE X e (tE P cf L ie)) (hg : PG X tg (tQ L P cf itg)) (hs : swapsWithSole [tg] e pos.line X.env = pure false) (hw : swappedStores [tg] e X.env = pure none)
    (h1 : (assignEach [tg] X.env).map (·.2) = [PySem.assign tg X.env]) : PS X (.Assign [tg] e pos) (tS P cf L (.asg itg ie)) := by
  refine (ps_asg he hg hs hw h1).mono fun D σ H q => ?_
  obtain ⟨μ, env, st, fl, st', S, ev, q⟩ := q
  rw [exec] at ev
  obtain ⟨v, st1, e1, ev⟩ := Res.bind_eq_ok ev
  obtain ⟨env2, st2, e2, ev⟩ := Res.bind_eq_ok ev
  cases ev
  exact ⟨μ, env, st, v, st1, S, e1, fun μ1 H1 x S1 r1 E1 => ⟨μ1, env, st1, v, env2, _, S1, r1, e2, fun μ2 H2 σ2 S2 E2 => q μ2 H2 σ2 S2 (E1.trans E2)⟩⟩
/-- [..] for a name, stored within -/
theorem s_asgN {s : Stmt} {i : Nat} {ie : IE} (h : PS X s (tAsg (tN P cf L ie) (gName i))) (hl : ∀ env st v st', evalE P cf ie env st = .ok v st' → ∃ xs, v = .lst xs) : PS X s (tS P cf L (.asg (.var i) ie)) := by
  refine h.mono fun D σ H q => ?_
  obtain ⟨μ, env, st, fl, st', S, ev, q⟩ := q
  rw [exec] at ev
  obtain ⟨v, st1, e1, ev⟩ := Res.bind_eq_ok ev
  obtain ⟨env2, st2, e2, ev⟩ := Res.bind_eq_ok ev
  cases ev
  obtain ⟨xs, rfl⟩ := hl _ _ _ _ e1
  rw [assign] at e2
  split at e2
  · cases e2
    refine ⟨μ, env, st, xs, _, S, e1, fun μ1 H1 p vs S1 r1 E1 hp => ?_⟩
    obtain ⟨a, b, c⟩ := S1.upl hp r1
    exact q μ1 _ _ (a.setv b) (E1.trans c)
  · cases e2
theorem s_asgM {s : Stmt} {i : Nat} {ie : IE} (h : PS X s (tAsg (tN P cf L ie) (gName i))) : PS X s (tS P cf L (.asg (.var i) (.nw ie))) := by
  refine h.mono fun D σ H q => ?_
  obtain ⟨μ, env, st, fl, st', S, ev, q⟩ := q
  rw [exec] at ev
  obtain ⟨v, st1, e1, ev⟩ := Res.bind_eq_ok ev
  obtain ⟨env2, st2, e2, ev⟩ := Res.bind_eq_ok ev
  cases ev
  rw [evalE] at e1
  obtain ⟨w, st3, e3, e1⟩ := Res.bind_eq_ok e1
  cases w with
  | lst xs =>
    cases e1
    rw [assign] at e2
    split at e2
    · cases e2
      refine ⟨μ, env, st, xs, st3, S, e3, fun μ1 H1 p vs S1 r1 E1 hp => ?_⟩
      have Ep : Ext μ1 H1 (μ1 ++ [p]) (upd H1 p (.lst vs)) := Ext.push hp
      have S2 := S1.ext Ep (S1.sto.push (o := .lst xs) hp ⟨vs, upd_same, r1.ext Ep⟩)
      refine q (μ1 ++ [p]) _ _ (S2.setv ?_) (E1.trans Ep)
      rw [Rep]
      exact ⟨p, by rw [List.getElem?_append_right (by rw [S1.sto.len]; exact Nat.le_refl _), S1.sto.len]; simp, rfl⟩
    · cases e2
  | _ => cases e1
/-! ### loops -/
theorem while_inv {c : Env → Store → Res Bool} {f : Env → Store → Res Flow} {n : Nat} {env : Env} (h : whileL c f (n + 1) env st = .ok fl st') :
    ∃ b st1, c env st = .ok b st1 ∧ ((b = true ∧ ∃ f1 st2, f env st1 = .ok f1 st2 ∧ ((∃ v, f1 = .rt v ∧ fl = .rt v ∧ st' = st2) ∨ ∃ env2, f1 = .nx env2 ∧ whileL c f n env2 st2 = .ok fl st')) ∨ (b = false ∧ fl = .nx env ∧ st' = st1)) := by
  rw [whileL] at h
  obtain ⟨b, st1, e1, h1⟩ := Res.bind_eq_ok h
  refine ⟨b, st1, e1, ?_⟩
  split at h1
  · rename_i hb
    obtain ⟨f1, st2, e2, h2⟩ := Res.bind_eq_ok h1
    refine .inl ⟨hb, f1, st2, e2, ?_⟩
    cases f1 with
    | rt v => cases h2; exact .inl ⟨v, rfl, rfl, rfl⟩
    | nx env2 => exact .inr ⟨env2, rfl, h2⟩
  · rename_i hb
    cases h1
    exact .inr ⟨by simpa using hb, rfl, rfl⟩
theorem test_inv {ic : IE} {env : Env} {b : Bool} (h : ((evalE P cf ic env st).bind fun x st => .opt (asBool x) st) = .ok b st') : evalE P cf ic env st = .ok (.bl b) st' := by
  obtain ⟨x, st1, e1, h1⟩ := Res.bind_eq_ok h
  obtain ⟨h2, rfl⟩ := Res.opt_eq_ok h1
  cases x with
  | bl k => cases h2; exact e1
  | _ => cases h2
theorem s_whl {c : Expr} {body : List Stmt} {n : Nat} {ic : IE} {ib : IS} (hp : PassesOwn (model X.prog X.w) X.A X.env X.xe) (hc : PT X c (tT P cf L ic)) (hb : PSs X body (tS P cf L ib)) : PS X (.While c body [] pos) (tS P cf L (.whl n ic ib)) := by
  refine (ps_while hp hc hb).mono fun D σ H q => ?_
  obtain ⟨μ, env, st, fl, st', S, ev, q⟩ := q
  rw [exec] at ev
  refine ⟨fun m σ2 H2 => ∃ μ2 env2 st2, SR L μ2 env2 st2 σ2 H2 ∧ Ext μ H μ2 H2 ∧ whileL (fun env st => (evalE P cf ic env st).bind fun x st => .opt (asBool x) st) (fun env st => exec P cf ib env st) m env2 st2 = .ok fl st', ⟨n, μ, env, st, S, Ext.refl _ _, ev⟩, ?_⟩
  rintro m σ2 H2 ⟨μ2, env2, st2, S2, E2, e2⟩
  cases m with
  | zero => rw [whileL] at e2; cases e2
  | succ m =>
    obtain ⟨b, st3, e3, h⟩ := while_inv e2
    have e3 := test_inv e3
    refine ⟨μ2, env2, st2, b, st3, S2, e3, fun μ3 H3 S3 E3 => ?_⟩
    rcases h with ⟨rfl, f1, st4, e4, h⟩ | ⟨rfl, rfl, rfl⟩
    · rw [if_pos rfl]
      refine ⟨fun σ5 H5 => ∃ μ2 env2 st2, SR L μ2 env2 st2 σ5 H5 ∧ Ext μ H μ2 H5 ∧ whileL (fun env st => (evalE P cf ic env st).bind fun x st => .opt (asBool x) st) (fun env st => exec P cf ib env st) m env2 st2 = .ok fl st', fun σ5 H5 h5 => ⟨m, Nat.lt_succ_self _, h5⟩, μ3, env2, st3, f1, st4, S3, e4, ?_⟩
      rcases h with ⟨v, rfl, rfl, rfl⟩ | ⟨env5, rfl, h⟩
      · exact FlOk.rt (q.ext (E2.trans E3)) rfl
      · exact fun μ6 H6 σ6 S6 E6 => ⟨μ6, env5, st4, S6, (E2.trans E3).trans E6, h⟩
    · rw [if_neg Bool.false_ne_true]
      exact q μ3 H3 _ S3 (E2.trans E3)
/-- one turn of a for -/
def turnS (P : Prog) (cf : Nat → List PV → Store → Res PV) (t : IE) (b : IS) (x : PV) (env : Env) (st : Store) : Res Flow := match bindT t x env with
  | none => .bad
  | some env => exec P cf b env st
theorem forL_cons {f : PV → Env → Store → Res Flow} {g : Store → Bool} {x : PV} {xs : List PV} {env : Env} (h : forL f g (x :: xs) env st = .ok fl st') :
    ∃ f1 st1, f x env st = .ok f1 st1 ∧ ((∃ v, f1 = .rt v ∧ fl = .rt v ∧ st' = st1) ∨ ∃ env1, f1 = .nx env1 ∧ g st1 = true ∧ forL f g xs env1 st1 = .ok fl st') := by
  rw [forL] at h
  obtain ⟨f1, st1, e1, h1⟩ := Res.bind_eq_ok h
  refine ⟨f1, st1, e1, ?_⟩
  cases f1 with
  | rt v => cases h1; exact .inl ⟨v, rfl, rfl, rfl⟩
  | nx env1 =>
    simp only at h1
    split at h1
    · exact .inr ⟨env1, rfl, by assumption, h1⟩
    · cases h1
theorem s_for {tg iter : Expr} {body : List Stmt} {itg iit : IE} {ib : IS} (hK : X.K = L.K) (hp : PassesOwn (model X.prog X.w) X.A X.env X.xe) (hc : X.calm = true) (hi : PI X tg iter (tI P cf L iit)) (hg : PG X tg (tG L itg)) (hb : PSs X body (tS P cf L ib))
    (hs : ∀ x, foldedSetIterable iter X.env x = pure x) : PS X (.For tg iter body [] pos) (tS P cf L (.fors itg iit ib)) := by
  refine (ps_for hp hc hi hg hb hs).mono fun D σ H q => ?_
  obtain ⟨μ, env, st, fl, st', S, ev, q⟩ := q
  rw [exec] at ev
  obtain ⟨wv, st1, e1, h1⟩ := Res.bind_eq_ok ev
  obtain ⟨w, st2, e2, h2⟩ := Res.bind_eq_ok h1
  obtain ⟨e2', rfl⟩ := Res.opt_eq_ok e2
  obtain ⟨xs, g⟩ := w
  refine ⟨μ, env, st, wv, st2, xs, g, S, e1, e2', fun μ1 H1 J S1 E1 W => ?_⟩
  obtain ⟨sm, G, Y, w, wG, wY⟩ := W
  refine for_it (g := tG L itg) (tb := tS P cf L ib) (D := D) w (fun i σ2 H2 => i ≤ xs.length ∧ ∃ μ2 env2 st3, SR L μ2 env2 st3 σ2 H2 ∧ Ext μ1 H1 μ2 H2 ∧ g st3 = true ∧ forL (turnS P cf itg ib) g (xs.drop i) env2 st3 = .ok fl st') ?_ ?_ ?_ ?_
  · exact ⟨Nat.zero_le _, μ1, env, st2, S1, Ext.refl _ _, walk_g e2', by rw [List.drop_zero]; exact h2⟩
  · rintro i σ2 H2 _ ⟨hi, μ2, env2, st3, S2, E2, g2, _⟩
    exact wG L.hid μ2 env2 st3 σ2 H2 S2 E2 g2
  · rintro i x σ2 H2 H2' hi ⟨_, μ2, env2, st3, S2, E2, g2, e3⟩ y
    obtain ⟨v, hv', S2', rx, E2'⟩ := wY L.hid i H2 x H2' μ2 env2 st3 σ2 (fun a ha => .inl ha) hi S2 E2 g2 y
    have hx : xs.drop i = v :: xs.drop (i + 1) := by
      rw [List.getElem?_eq_getElem hi] at hv'
      cases hv'
      exact List.drop_eq_getElem_cons hi
    rw [hx] at e3
    obtain ⟨f1, st4, t1, h⟩ := forL_cons e3
    unfold turnS at t1
    split at t1
    · cases t1
    · rename_i env3 hb3
      refine ⟨μ2, env2, st3, v, env3, S2', rx, hb3, fun σ3 S3 o3 => ⟨μ2, env3, st3, f1, st4, S3, t1, ?_⟩⟩
      rcases h with ⟨v, rfl, rfl, rfl⟩ | ⟨env4, rfl, g4, h⟩
      · exact FlOk.rt (q.ext (E1.trans (E2.trans E2'))) rfl
      · exact fun μ6 H6 σ6 S6 E6 => ⟨by omega, μ6, env4, st4, S6, (E2.trans E2').trans E6, g4, h⟩
  · rintro σ2 H2 ⟨_, μ2, env2, st3, S2, E2, g2, e3⟩
    rw [List.drop_length, forL] at e3
    cases e3
    exact q μ2 H2 σ2 S2 (E1.trans E2)
end
end MP
namespace MP
open PySem PySem.Spec PyProof.Rows L2

/-! ### promises of defs that run where no guard stands -/
abbrev noX : CXT := fun _ _ _ _ _ _ => False
structure FnG (P : Program) (w : World) (K : Fg) (mg : Str → Option Value) (base : Heap) (k : Nat) (f : Addr) (fd : FuncData) (ps : List Str) (sp : Sp) : Prop where
  len : ∀ vs H Q E, sp vs H Q E → vs.length = ps.length
  go : ∀ (A : Around) (outer : List PySem.Env) (s : Shared) (H : Hp) (args : Args) (us : List Value) (vs : List V) (Q : VK) (E : XK),
    Room k A → A.guards = some [] → Env0 P w K mg base A outer s H → BindsTo s fd args (ps.zip us) → Vals vs us → sp vs H Q E →
    codeAny (model P w) A (.call (.ref f) args) (CR noX outer P w H s Q E) s
section
variable {X : Cx} {k : Nat} {f C : Addr} {fd : FuncData} {ps : List Str} {sp : Sp} {E : XK} {x m : Str} {p pos apos : Pos} {e o : Expr} {es : List Expr} {ta : TE} {t : TA} {pins : List (Addr × Obj)} {σ : L2.St} {H : Hp} {s : Shared} {Q : VK}
theorem g_end {s' : Shared} {r : Result} (I : Inv X pins σ H s) (hq : CR noX X.stack X.prog X.w H s Q E r s') : (match r with
    | .ok (.ret u) => EP X pins σ Q u s'
    | .ok _ => False
    | .error _ => False) := by
  cases r with
  | error e => exact hq
  | ok fl =>
    cases fl with
    | ret u => exact I.after hq
    | _ => exact hq
theorem g_run {args : Args} {us : List Value} {vs : List V} {kw : List (Str × Value)} {as : List Value} (F : FnG X.prog X.w X.K X.mg X.base k f fd ps sp) (hr : Room k X.A) (hg : X.A.guards = some []) (I : Inv X pins σ H s)
    (hb : BindsTo s fd ⟨as, kw⟩ (ps.zip us)) (r : Vals vs us) (h : sp vs H Q E) : wpAny (model X.prog X.w) X.A (call (.ref f) as kw) (EP X pins σ Q) X.xe s := by
  refine wpAny_call (codeAny_mono (F.go X.A X.stack s H ⟨as, kw⟩ us vs Q E hr hg I.env0 hb r h) fun res s' hq => ?_)
  have z := g_end I hq
  cases res with
  | error e => exact z.elim
  | ok fl =>
    cases fl with
    | ret u => exact z
    | _ => exact z.elim
theorem g_pos {us : List Value} {vs : List V} (F : FnG X.prog X.w X.K X.mg X.base k f fd ps sp) (hr : Room k X.A) (hg : X.A.guards = some []) (hb : Binds X.K fd ps []) (I : Inv X pins σ H s) (r : Vals vs us) (h : sp vs H Q E) :
    wpAny (model X.prog X.w) X.A (call (.ref f) us) (EP X pins σ Q) X.xe s := by
  have hl : (us ++ []).length = ps.length := by rw [List.append_nil, ← r.length]; exact F.len _ _ _ _ h
  have bt := hb s us I.kIn hl
  rw [List.append_nil] at bt
  exact g_run (args := ⟨us, []⟩) F hr hg I bt r h
theorem g_call (F : FnG X.prog X.w X.K X.mg X.base k f fd ps sp) (hr : Room k X.A) (hgd : X.A.guards = some []) (hg : Gl X x) (hm : X.mg x = some (.ref f)) (hk : PySem.W.keepIn X.K (.ref f) = true) (hb : Binds X.K fd ps [])
    (ha : PA X (e :: es) t) (hdb : (x == ("__debug__" : Str)) = false) (he : starEach (e :: es) X.env = (false, eval e X.env) :: starEach es X.env) (hpl : (backTo pos (starEach es X.env)).any (·.1) = false) :
    PE X (.Call (.Name x p) (e :: es) [] pos) (fun σ H Q => t σ H fun vs H1 => sp vs H1 Q E) := by
  constructor
  intro pins s σ H Q I h
  refine wpAny_Call_Name_kw (ld_glob I hg hm ?_ hdb)
  exact PySem.W.callWith_K (h₀ := X.base) I.ok.mod.kin hk (thn (ha.run pos pins s σ H _ I h) fun us s1 ⟨vs, H1, I1, r, q⟩ => ⟨I1.kIn, g_pos F hr hgd hb I1 r q⟩) he hpl
theorem g_call0 (F : FnG X.prog X.w X.K X.mg X.base k f fd ps sp) (hr : Room k X.A) (hgd : X.A.guards = some []) (hg : Gl X x) (hm : X.mg x = some (.ref f)) (hk : PySem.W.keepIn X.K (.ref f) = true) (hb : Binds X.K fd ps [])
    (hdb : (x == ("__debug__" : Str)) = false) : PE X (.Call (.Name x p) [] [] pos) (fun σ H Q => sp [] H Q E) := by
  constructor
  intro pins s σ H Q I h
  exact wpAny_Call_Name_kw (ld_glob I hg hm (PySem.W.callWith_K0 I.kIn hk (g_pos (us := []) F hr hgd hb I .nil h)) hdb)
/-- only keywords -/
theorem g_callK {ks : List Keyword} {nm : List Str} {perm : List Nat} (F : FnG X.prog X.w X.K X.mg X.base k f fd ps sp) (hr : Room k X.A) (hgd : X.A.guards = some []) (hg : Gl X x) (hm : X.mg x = some (.ref f)) (hk : PySem.W.keepIn X.K (.ref f) = true)
    (hb : ∀ (s : Shared) (ws : List Value), X.K.In s.heap → ws.length = nm.length → BindsTo s fd ⟨[], nm.zip ws⟩ (ps.zip (perm.filterMap fun i => ws[i]?)))
    (hv : ∀ {vs : List V} {us : List Value}, Vals vs us → Vals (perm.filterMap fun i => vs[i]?) (perm.filterMap fun i => us[i]?))
    (hkw : PK X ks t) (hall : (backToKw pos (keywordEach ks X.env)).all (·.1.isSome) = true) (hks : (backToKw pos (keywordEach ks X.env)).filterMap (·.1) = nm)
    (hdb : (x == ("__debug__" : Str)) = false) (hpl : ((backTo pos (starEach [] X.env)).any (·.1) || (backToKw pos (keywordEach ks X.env)).any (·.1.isNone)) = false) :
    PE X (.Call (.Name x p) [] ks pos) (fun σ H Q => t σ H fun zs H1 => zs.length = nm.length ∧ sp (perm.filterMap fun i => zs[i]?) H1 Q E) := by
  constructor
  intro pins s σ H Q I h
  refine wpAny_Call_Name_kw (ld_glob I hg hm ?_ hdb)
  refine PySem.W.callWith_KW0 (h₀ := X.base) I.ok.mod.kin hk hall (thn (hkw.run pos pins s σ H _ I h) fun us s2 ⟨zs, H2, I2, rz, l2, q2⟩ => ⟨I2.kIn, ?_⟩) hpl
  rw [hks]
  exact g_run (args := ⟨[], nm.zip us⟩) F hr hgd I2 (hb s2 us I2.kIn (by rw [← rz.length]; exact l2)) (hv rz) q2
/-- methods -/
def gMeth (C : Addr) (m : Str) (sp : Sp) (E : XK) (ta : TE) (t : TA) : TE := fun σ H Q => ta σ H fun x H1 => ∃ a dx fs, x = .ref a ∧ H1 a = some (.ins C dx fs) ∧ fs.lookup m = none ∧ t σ H1 fun vs H2 => sp (x :: vs) H2 Q E
theorem g_meth {pl : Sem Bool} (he : PE X o ta) (c : L2.Cls X.K C) (hm : Meth X.K C m f) (F : FnG X.prog X.w X.K X.mg X.base k f fd ps sp) (hr : Room k X.A) (hgd : X.A.guards = some []) (hb : Binds X.K fd ps []) (ha : PA X (e :: es) t)
    (hst : starEach (e :: es) X.env = (false, eval e X.env) :: starEach es X.env) (hpl : (backTo pos (starEach es X.env)).any (·.1) = false)
    (ht : eval (.Call (.Attribute o m apos) (e :: es) [] pos) X.env = (do
      let ov ← eval o X.env
      standAt apos.atName
      let (f, first) ← holding [ov] (getMethod ov m pl)
      callWith pos f first (backTo pos (starEach (e :: es) X.env)) (backToKw pos (keywordEach [] X.env)))) :
    PE X (.Call (.Attribute o m apos) (e :: es) [] pos) (gMeth C m sp E ta t) := by
  constructor
  intro pins s σ H Q I h
  refine PySem.W.methodCall_KW (pl := pl) (thn (he.run pins s σ H _ I h) fun u s1 ⟨x, H1, I1, rx, a, dx, fs, ex, ea, l, q⟩ => ?_) ht
  cases ex
  cases rx
  refine getmeth_ok I1 ea c hm l (PySem.W.callWith_K (first := [.ref a]) (h₀ := X.base) I.ok.mod.kin hm.kp (thn (ha.run pos pins s1 σ H1 _ I1 q) fun us s2 ⟨vs, H2, I2, r, q2⟩ => ⟨I2.kIn, ?_⟩) hst hpl)
  exact g_pos (us := .ref a :: us) (vs := .ref a :: vs) F hr hgd hb I2 (.cons rfl r) q2
theorem g_meth0 {pl : Sem Bool} (he : PE X o ta) (c : L2.Cls X.K C) (hm : Meth X.K C m f) (F : FnG X.prog X.w X.K X.mg X.base k f fd ps sp) (hr : Room k X.A) (hgd : X.A.guards = some []) (hb : Binds X.K fd ps [])
    (ht : eval (.Call (.Attribute o m apos) [] [] pos) X.env = (do
      let ov ← eval o X.env
      standAt apos.atName
      let (f, first) ← holding [ov] (getMethod ov m pl)
      callWith pos f first (backTo pos (starEach [] X.env)) (backToKw pos (keywordEach [] X.env)))) :
    PE X (.Call (.Attribute o m apos) [] [] pos) (gMeth C m sp E ta tNil) := by
  constructor
  intro pins s σ H Q I h
  refine PySem.W.methodCall_KW (pl := pl) (thn (he.run pins s σ H _ I h) fun u s1 ⟨x, H1, I1, rx, a, dx, fs, ex, ea, l, q⟩ => ?_) ht
  cases ex
  cases rx
  exact getmeth_ok I1 ea c hm l (PySem.W.callWith_K0 (first := [.ref a]) I1.kIn hm.kp (g_pos (us := [.ref a]) (vs := [.ref a]) F hr hgd hb I1 (.cons rfl .nil) q))
theorem make_gd {A : Around} {C : Addr} {us : List Value} (h : A.guards = some []) : (A.under (.builtin "type.__call__" ⟨.ref C :: us, []⟩)).guards = some [] := h
def gMake (C : Addr) (sp : Sp) (E : XK) (t : TA) : TE := fun σ H Q => t σ H fun vs H1 => ∀ x dx, H1 x = none → H1 dx = none → dx ≠ x →
  sp (.ref x :: vs) (upd (upd H1 dx (.own x)) x (.ins C dx [])) (fun v H2 => v = .non ∧ Q (.ref x) H2) E
theorem g_mk {us : List Value} {vs : List V} (M : Mk X.K C f) (F : FnG X.prog X.w X.K X.mg X.base k f fd ps sp) (hr : Room (k + 1) X.A) (hgd : X.A.guards = some []) (hb : Binds X.K fd ps []) (I : Inv X pins σ H s) (r : Vals vs us)
    (h : ∀ x dx, H x = none → H dx = none → dx ≠ x → sp (.ref x :: vs) (upd (upd H dx (.own x)) x (.ins C dx [])) (fun v H2 => v = .non ∧ Q (.ref x) H2) E) :
    wpAny (model X.prog X.w) X.A (call (.ref C) us) (EP X pins σ Q) X.xe s := by
  have frs := I.hok.fresh (Nat.le_refl s.heap.objs.size)
  have frs' := I.hok.fresh (Nat.le_succ s.heap.objs.size)
  have hq := h (s.heap.objs.size + 1) s.heap.objs.size frs' frs (Nat.ne_of_lt (Nat.lt_succ_self _))
  have J := Inv.made (C := C) I
  have rr : Vals (V.ref (s.heap.objs.size + 1) :: vs) (Value.ref (s.heap.objs.size + 1) :: us) := .cons rfl r
  have nl : ((Value.ref (s.heap.objs.size + 1) :: us) ++ []).length = ps.length := by
    rw [List.append_nil, ← rr.length]; exact F.len _ _ _ _ hq
  have bt := hb _ (Value.ref (s.heap.objs.size + 1) :: us) J.kIn nl
  rw [List.append_nil] at bt
  refine wpAny_call (make_map (f := f) I.kIn M.makes M.init (beq_iff_eq.mp M.fn) (codeAny_mono (F.go _ X.stack _ _ ⟨Value.ref (s.heap.objs.size + 1) :: us, []⟩ _ _ _ E (hr.make C us []) (make_gd hgd) (J.env0.make C us []) bt rr hq) fun res s' hq' => ?_))
  have z := g_end J hq'
  cases res with
  | error e => exact z.elim
  | ok fl =>
    cases fl with
    | ret u =>
      obtain ⟨v, H', J', rv, ev, q3⟩ := z
      subst ev
      exact ⟨rv, V.ref (s.heap.objs.size + 1), H', J', rfl, q3⟩
    | _ => exact z.elim
theorem g_make (M : Mk X.K C f) (F : FnG X.prog X.w X.K X.mg X.base k f fd ps sp) (hr : Room (k + 1) X.A) (hgd : X.A.guards = some []) (hg : Gl X x) (hm : X.mg x = some (.ref C)) (hb : Binds X.K fd ps [])
    (ha : PA X (e :: es) t) (hdb : (x == ("__debug__" : Str)) = false) (he : starEach (e :: es) X.env = (false, eval e X.env) :: starEach es X.env) (hpl : (backTo pos (starEach es X.env)).any (·.1) = false) :
    PE X (.Call (.Name x p) (e :: es) [] pos) (gMake C sp E t) := by
  constructor
  intro pins s σ H Q I h
  exact wpAny_Call_Name_kw (ld_glob I hg hm (PySem.W.callWith_K (h₀ := X.base) I.ok.mod.kin M.kp (thn (ha.run pos pins s σ H _ I h) fun us s1 ⟨vs, H1, I1, r, q⟩ => ⟨I1.kIn, g_mk M F hr hgd hb I1 r q⟩) he hpl) hdb)
theorem g_make0 (M : Mk X.K C f) (F : FnG X.prog X.w X.K X.mg X.base k f fd ps sp) (hr : Room (k + 1) X.A) (hgd : X.A.guards = some []) (hg : Gl X x) (hm : X.mg x = some (.ref C)) (hb : Binds X.K fd ps [])
    (hdb : (x == ("__debug__" : Str)) = false) : PE X (.Call (.Name x p) [] [] pos) (gMake C sp E tNil) := by
  constructor
  intro pins s σ H Q I h
  exact wpAny_Call_Name_kw (ld_glob I hg hm (PySem.W.callWith_K0 I.kIn M.kp (g_mk (us := []) M F hr hgd hb I .nil h)) hdb)
end
/-- a def by its body -/
theorem g_of {P : Program} {w : World} {K : Fg} {mg : Str → Option Value} {base : Heap} {k : Nat} {f : Addr} {fd : FuncData} {x qual : Str} {params : Arguments} {body : List Stmt} {scope : Scope} {N ps : List Str} {sp : Sp} (F : FunD K x qual params body scope [] [] f fd) (S : FnScope N ps scope)
    (len : ∀ vs H Q E, sp vs H Q E → vs.length = ps.length)
    (hbody : ∀ (cdv : Value) (A : Around) (outer : List PySem.Env) (s : Shared) (H : Hp) (vs : List V) (Q : VK) (E : XK), Room k (A.deeper (envOfC qual scope s.heap.objs.size f cdv)) → A.guards = some [] → (∃ (oc : Value) (od : Option Addr) (fd : FuncData) (osl : Array (Option Value)), K.lookup f = some ⟨oc, od, .func fd, osl⟩ ∧ fd.code = cdv) → sp vs H Q E →
      ∃ t, PSs (cxOf noX P w K mg base N qual scope f cdv A outer s H E) body t ∧ t { nx := fun _ H' => Q .non H', rt := Q } (L2.start N vs) H) : FnG P w K mg base (k + 1) f fd ps sp := by
  obtain ⟨oc, od, dV, kV, doc, pm, an, cdv, ct, osl, rfl, lk, hcd, _, _⟩ := F.ex
  refine ⟨len, fun A outer s H args us vs Q E room gd e0 bt rv hsp => ?_⟩
  have keep := fun (b : Addr) (o : Obj) (e : base.get? b = some o) => (e0.bs b o e).1
  have kin : K.In s.heap := e0.mod.kin.keeps keep
  have kinds : ∀ y ∈ ps.zip us, scope.names.lookup y.1 = some .local ∨ (scope.names.lookup y.1 = some .cell ∧ ((cellsFrom (s.heap.objs.size + 1) scope.names []).lookup y.1).isSome = true) := by
    rintro ⟨a, v⟩ hy
    exact (S.par a (List.of_mem_zip hy).1).imp id fun q => ⟨q, PySem.W.cellsFrom_some _ _ _ (.inl q)⟩
  refine codeAny_call_function room.depth (kin _ _ lk) rfl S.co S.gen rfl (PySem.W.codeRec_of kin hcd) (bt _ _ _ _ ?_)
  refine wpAny_newFunctionEnv_cells S.kind kinds fun env he s1 y => ?_
  cases he
  refine ⟨(e0.mod.nolimit.keeps keep).keeps y.toInCall.keep, codeAny_func ?_⟩
  obtain ⟨t, ht, hq⟩ := hbody cdv A outer s H vs Q E (room.deeper _) gd ⟨_, _, _, _, lk, rfl⟩ hsp
  have J : Inv (cxOf noX P w K mg base N qual scope f cdv A outer s H E) [] (L2.start N vs) H s1 := inv_start S room.hd e0 (len _ _ _ _ hsp) rv y
  refine wpAny_mono (ht.run [] s1 (L2.start N vs) H _ J hq) (fun fl s' hs => ?_) fun e s' hs => hs
  cases fl with
  | ret u =>
    obtain ⟨v, σ', H', J', rv', q⟩ := hs
    exact ⟨v, H', J'.os, J'.bare, J'.base, J'.hok, rv', q⟩
  | next =>
    obtain ⟨σ', H', J', q⟩ := hs
    exact ⟨V.non, H', J'.os, J'.bare, J'.base, J'.hok, rfl, q⟩
  | brk =>
    obtain ⟨_, _, _, q⟩ := hs
    exact q.elim
  | cont =>
    obtain ⟨_, _, _, q⟩ := hs
    exact q.elim
end MP
namespace MP
open PySem PySem.Spec PyProof.Rows L2

/-! ### what a call leaves -/
section
variable {L : Lay} {H H0 : Hp} {μ μ0 : List Addr}
mutual
theorem Rep.trim {l : List Addr} (hm : μ = μ0 ++ l) : ∀ {v : PV} {x0 x : V}, Rep L H0 μ0 v x0 → Rep L H μ v x → Rep L H μ0 v x
  | .non, _, x, _, h => by rw [Rep] at h ⊢; exact h
  | .bl _, _, x, _, h => by rw [Rep] at h ⊢; exact h
  | .int _, _, x, _, h => by rw [Rep] at h ⊢; exact h
  | .str _, _, x, _, h => by rw [Rep] at h ⊢; exact h
  | .tup xs, _, x, h0, h => by
    rw [Rep] at h0 h ⊢
    obtain ⟨a0, vs0, _, _, r0⟩ := h0
    obtain ⟨a, vs, e, s, r⟩ := h
    refine ⟨a, vs, e, ?_, Reps.trim hm r0 r⟩
    rcases s with ⟨s, n, m⟩ | s
    · exact .inl ⟨s, fun z => n (by rw [hm]; exact List.mem_append_left _ z), m⟩
    · exact .inr s
  | .lst xs, _, x, h0, h => by
    rw [Rep] at h0 h ⊢
    obtain ⟨a0, vs0, _, _, r0⟩ := h0
    obtain ⟨a, vs, e, ⟨s, n, m⟩, r⟩ := h
    exact ⟨a, vs, e, ⟨s, fun z => n (by rw [hm]; exact List.mem_append_left _ z), m⟩, Reps.trim hm r0 r⟩
  | .set xs, _, x, h0, h => by
    rw [Rep] at h0 h ⊢
    obtain ⟨a0, vs0, _, _, r0⟩ := h0
    obtain ⟨a, vs, e, s, r⟩ := h
    refine ⟨a, vs, e, ?_, Reps.trim hm r0 r⟩
    rcases s with ⟨s, n, m⟩ | s
    · exact .inl ⟨s, fun z => n (by rw [hm]; exact List.mem_append_left _ z), m⟩
    · exact .inr s
  | .dic _ _, _, x, _, h => by rw [Rep] at h; exact h.elim
  | .obj c ks vs, _, x, h0, h => by
    rw [Rep] at h0 h ⊢
    obtain ⟨a0, dx0, ws0, _, _, _, _, _, r0⟩ := h0
    obtain ⟨a, dx, ws, e, s, n, m, l, r⟩ := h
    exact ⟨a, dx, ws, e, s, fun z => n (by rw [hm]; exact List.mem_append_left _ z), m, l, Reps.trim hm r0 r⟩
  | .ref n, _, x, h0, h => by
    rw [Rep] at h0 h ⊢
    obtain ⟨a0, e0, rfl⟩ := h0
    obtain ⟨a, e, rfl⟩ := h
    rw [hm, List.getElem?_append_left (List.getElem?_eq_some_iff.mp e0).1] at e
    exact ⟨a, e, rfl⟩
  | .fn f, _, x, _, h => by rw [Rep] at h ⊢; exact h
theorem Reps.trim {l : List Addr} (hm : μ = μ0 ++ l) : ∀ {v : List PV} {x0 x : List V}, Reps L H0 μ0 v x0 → Reps L H μ v x → Reps L H μ0 v x
  | [], _, x, _, h => by rw [h.of_nil]; exact .nil
  | v :: vs, _, x, h0, h => by
    obtain ⟨y0, r0, rfl, a0, b0⟩ := h0.of_cons
    obtain ⟨y, r, rfl, a, b⟩ := h.of_cons
    exact .cons (Rep.trim hm a0 a) (Reps.trim hm b0 b)
end
theorem StoreRep.trim {st0 st : Store} (S0 : StoreRep L H0 μ0 st0) (S : StoreRep L H μ st) (E : Ext μ0 H0 μ H) (e : st.take st0.length = st0) : StoreRep L H μ0 st0 := by
  obtain ⟨l, hm⟩ := E.pre
  refine ⟨S0.len, S0.nd, fun a ha => ?_, fun n o hn => ?_⟩
  · obtain ⟨n, q⟩ := S.hd a ha
    exact ⟨fun z => n (by rw [hm]; exact List.mem_append_left _ z), q⟩
  · obtain ⟨a0, e0, r0⟩ := S0.at_ n o hn
    have hn' : st[n]? = some o := by
      rw [← e, List.getElem?_take] at hn
      split at hn
      · exact hn
      · cases hn
    obtain ⟨a, e1, r⟩ := S.at_ n o hn'
    have e1' := e1
    rw [hm, List.getElem?_append_left (List.getElem?_eq_some_iff.mp e0).1, e0] at e1'
    cases e1'
    refine ⟨a0, e0, ?_⟩
    cases o with
    | lst xs =>
      obtain ⟨vs0, _, r0⟩ := r0
      obtain ⟨vs, q, r⟩ := r
      exact ⟨vs, q, Reps.trim hm r0 r⟩
    | dic _ _ => exact (show False from r).elim
    | ins c ks vs =>
      obtain ⟨_, _, _, _, r0⟩ := r0
      obtain ⟨dx, ws, q, l, r⟩ := r
      exact ⟨dx, ws, q, l, Reps.trim hm r0 r⟩
    | tbl t =>
      obtain ⟨q, ps, e1, ht, hc⟩ := r
      refine ⟨q, ps, e1, ht, fun pos cv h => ?_⟩
      obtain ⟨c, z, e2, n, m⟩ := hc pos cv h
      exact ⟨c, z, e2, fun w => n (by rw [hm]; exact List.mem_append_left _ w), m⟩
mutual
theorem thaw_rep {l : List Addr} {st : Store} (S : StoreRep L H μ st) (hm : μ = μ0 ++ l) : ∀ (d : Nat) {v u : PV} {x : V}, thaw st μ0.length d v = some u → Rep L H μ v x → Rep L H μ0 u x
  | d, .non, u, x, h, r => by
    rw [thaw] at h; cases h; rw [Rep] at r ⊢; exact r
  | d, .bl _, u, x, h, r => by
    rw [thaw] at h; cases h; rw [Rep] at r ⊢; exact r
  | d, .int _, u, x, h, r => by
    rw [thaw] at h; cases h; rw [Rep] at r ⊢; exact r
  | d, .str _, u, x, h, r => by
    rw [thaw] at h; cases h; rw [Rep] at r ⊢; exact r
  | d, .fn _, u, x, h, r => by
    rw [thaw] at h; cases h; rw [Rep] at r ⊢; exact r
  | 0, .tup _, u, x, h, r => by simp [thaw] at h
  | 0, .lst _, u, x, h, r => by simp [thaw] at h
  | 0, .obj _ _ _, u, x, h, r => by simp [thaw] at h
  | 0, .ref _, u, x, h, r => by simp [thaw] at h
  | 0, .set _, u, x, h, r => by simp [thaw] at h
  | d + 1, .set xs, u, x, h, r => by
    rw [thaw, Option.map_eq_some_iff] at h
    obtain ⟨us, h, rfl⟩ := h
    rw [Rep] at r ⊢
    obtain ⟨a, vs, e, s, r⟩ := r
    refine ⟨a, vs, e, ?_, thaws_rep S hm d h r⟩
    rcases s with ⟨s, n, m⟩ | s
    · exact .inl ⟨s, fun z => n (by rw [hm]; exact List.mem_append_left _ z), m⟩
    · exact .inr s
  | d, .dic _ _, u, x, h, r => by rw [Rep] at r; exact r.elim
  | d + 1, .tup xs, u, x, h, r => by
    rw [thaw, Option.map_eq_some_iff] at h
    obtain ⟨us, h, rfl⟩ := h
    rw [Rep] at r ⊢
    obtain ⟨a, vs, e, s, r⟩ := r
    refine ⟨a, vs, e, ?_, thaws_rep S hm d h r⟩
    rcases s with ⟨s, n, m⟩ | s
    · exact .inl ⟨s, fun z => n (by rw [hm]; exact List.mem_append_left _ z), m⟩
    · exact .inr s
  | d + 1, .lst xs, u, x, h, r => by
    rw [thaw, Option.map_eq_some_iff] at h
    obtain ⟨us, h, rfl⟩ := h
    rw [Rep] at r ⊢
    obtain ⟨a, vs, e, ⟨s, n, m⟩, r⟩ := r
    exact ⟨a, vs, e, ⟨s, fun z => n (by rw [hm]; exact List.mem_append_left _ z), m⟩, thaws_rep S hm d h r⟩
  | d + 1, .obj c ks xs, u, x, h, r => by
    rw [thaw, Option.map_eq_some_iff] at h
    obtain ⟨us, h, rfl⟩ := h
    rw [Rep] at r ⊢
    obtain ⟨a, dx, ws, e, s, n, m, l, r⟩ := r
    exact ⟨a, dx, ws, e, s, fun z => n (by rw [hm]; exact List.mem_append_left _ z), m, l, thaws_rep S hm d h r⟩
  | d + 1, .ref n, u, x, h, r => by
    rw [thaw] at h
    rw [Rep] at r
    obtain ⟨a, e, rfl⟩ := r
    split at h
    · rename_i hn
      cases h
      rw [hm, List.getElem?_append_left hn] at e
      rw [Rep]
      exact ⟨a, e, rfl⟩
    · rename_i hn
      have hno : a ∉ μ0 := fun z => by
        obtain ⟨j, hj, ej⟩ := List.getElem_of_mem z
        have e2 : μ[j]? = some a := by rw [hm, List.getElem?_append_left hj, List.getElem?_eq_getElem hj, ej]
        exact hn ((StoreRep.write.nodup_ix_addr S.nd e2 e) ▸ hj)
      have hnh : a ∉ L.hid := fun z => (S.hd a z).1 (List.mem_of_getElem? e)
      split at h
      · rename_i xs hst
        rw [Option.map_eq_some_iff] at h
        obtain ⟨us, h, rfl⟩ := h
        obtain ⟨b, eb, vs, eH, rv⟩ := S.at_ n _ hst
        rw [e] at eb; cases eb
        rw [Rep]
        exact ⟨a, vs, rfl, ⟨.inl eH, hno, hnh⟩, thaws_rep S hm d h rv⟩
      · rename_i c ks xs hst
        rw [Option.map_eq_some_iff] at h
        obtain ⟨us, h, rfl⟩ := h
        obtain ⟨b, eb, dx, ws, eH, hl, rv⟩ := S.at_ n _ hst
        rw [e] at eb; cases eb
        rw [Rep]
        exact ⟨a, dx, ws, rfl, eH, hno, hnh, hl, thaws_rep S hm d h rv⟩
      · cases h
theorem thaws_rep {l : List Addr} {st : Store} (S : StoreRep L H μ st) (hm : μ = μ0 ++ l) : ∀ (d : Nat) {v u : List PV} {x : List V}, thaws st μ0.length d v = some u → Reps L H μ v x → Reps L H μ0 u x
  | d, [], u, x, h, r => by
    rw [thaws] at h; cases h; rw [r.of_nil]; exact .nil
  | 0, _ :: _, u, x, h, r => by simp [thaws] at h
  | d + 1, v :: vs, u, x, h, r => by
    rw [thaws, Option.bind_eq_some_iff] at h
    obtain ⟨y, h1, h⟩ := h
    rw [Option.map_eq_some_iff] at h
    obtain ⟨ys, h2, rfl⟩ := h
    obtain ⟨a, b, rfl, r1, r2⟩ := r.of_cons
    exact .cons (thaw_rep S hm d h1 r1) (thaws_rep S hm d h2 r2)
end
theorem gc_ok {st0 st st1 : Store} {v u : PV} {x : V} (S0 : StoreRep L H0 μ0 st0) (S : StoreRep L H μ st) (E : Ext μ0 H0 μ H) (r : Rep L H μ v x) (h : gcAt st0 v st = .ok u st1) :
    StoreRep L H μ0 st1 ∧ Rep L H μ0 u x ∧ Ext μ0 H0 μ0 H := by
  unfold gcAt at h
  split at h
  · rename_i ht
    split at h
    · rename_i w hw
      cases h
      obtain ⟨l, hm⟩ := E.pre
      refine ⟨S0.trim S E ht, ?_, ⟨E.fr, ⟨[], by simp⟩, fun _ z => .inl z⟩⟩
      rw [← S0.len] at hw
      exact thaw_rep S hm _ hw r
    · cases h
  · cases h
end
/-! ### promises -/
/-- the fixed part -/
structure Gb where
  prog : Program
  w : World
  K : Fg
  mg : Str → Option Value
  base : Heap
def spF (L : Lay) (P : Prog) (n f : Nat) (ps : List Str) : Sp := fun vs H Q _ => vs.length = ps.length ∧ ∃ h μ st pvs v st', StoreRep (L.wh h) H μ st ∧ Reps (L.wh h) H μ pvs vs ∧ callF P n f pvs st = .ok v st' ∧
  ∀ μ' H' x, StoreRep (L.wh h) H' μ' st' → Rep (L.wh h) H' μ' v x → Ext μ H μ' H' → Q x H'
/-- how keywords are bound -/
def KwOk (K : Fg) (fd : FuncData) (ps : List Str) (ks : List Str) (perm : List Nat) : Prop :=
  ∀ (s : Shared) (ws : List Value), K.In s.heap → ws.length = ks.length → BindsTo s fd ⟨[], ks.zip ws⟩ (ps.zip (perm.filterMap fun i => ws[i]?))
structure FnAt (G : Gb) (L : Lay) (P : Prog) (n f : Nat) (fd : FuncData) (ps : List Str) : Prop where
  ok : FnG G.prog G.w G.K G.mg G.base (3 * n) (L.fna f) fd ps (spF L P n f ps)
  kp : PySem.W.keepIn G.K (.ref (L.fna f)) = true
  bn : Binds G.K fd ps []
/-- all defs, to a depth -/
def FnsOk (G : Gb) (L : Lay) (P : Prog) (kws : List (Nat × List Str × List Nat)) (n : Nat) : Prop := ∀ f d, P.funs f = some d → ∃ fd ps, FnAt G L P n f fd ps ∧ ps.length = d.np ∧ ∀ q ∈ kws, q.1 = f → KwOk G.K fd ps q.2.1 q.2.2
section
variable {X : Cx} {L : Lay} {P : Prog} {n : Nat} {pos : Pos}
structure CxG (G : Gb) (X : Cx) : Prop where
  prog : X.prog = G.prog
  w : X.w = G.w
  K : X.K = G.K
  mg : X.mg = G.mg
  base : X.base = G.base
  xe : X.xe = fun _ _ => False
  gd : X.A.guards = some []
theorem callF_np {f : Nat} {pvs : List PV} {st st' : Store} {v : PV} {d : Fun} (hd : P.funs f = some d) (h : callF P n f pvs st = .ok v st') : pvs.length = d.np := by
  cases n with
  | zero => rw [callF] at h; cases h
  | succ n =>
    rw [callF, hd] at h
    simp only at h
    split at h
    · assumption
    · cases h
theorem callF_some {f : Nat} {pvs : List PV} {st st' : Store} {v : PV} (h : callF P n f pvs st = .ok v st') : ∃ d, P.funs f = some d := by
  cases n with
  | zero => rw [callF] at h; cases h
  | succ n =>
    rw [callF] at h
    cases hd : P.funs f with
    | none => rw [hd] at h; cases h
    | some d => exact ⟨d, rfl⟩
variable {G : Gb} {kws : List (Nat × List Str × List Nat)} {x : Str} {p : Pos} {e o : Expr} {es : List Expr} {ie io ies : IE} {f : Nat}
/-- the arguments go to the callee, its value comes back -/
theorem to_sp {ps : List Str} {μ : List Addr} {env : Env} {st st' : Store} {σ : L2.St} {H : Hp} {xs : List V} {pvs : List PV} {v : PV} {Q : VK} {E : XK} (S : SR L μ env st σ H) (r : Reps L H μ pvs xs) (hl : pvs.length = ps.length) (ev : callF P n f pvs st = .ok v st')
    (q : ∀ μ' H' x, SR L μ' env st' σ H' → Rep L H' μ' v x → Ext μ H μ' H' → Q x H') : spF L P n f ps xs H Q E :=
  ⟨by rw [← r.length]; exact hl, L.hid, μ, st, pvs, v, st', S.sto, r, ev, fun μ' H' x S' r' E' => q μ' H' x (S.ext E' S') r' E'⟩
theorem e_call (c : CxG G X) (F : FnsOk G L P kws n) (hr : Room (3 * n) X.A) (hg : Gl X x) (hm : G.mg x = some (.ref (L.fna f))) (ha : PA X (e :: es) (tA P (callF P n) L ies))
    (hdb : (x == ("__debug__" : Str)) = false) (he : starEach (e :: es) X.env = (false, eval e X.env) :: starEach es X.env) (hpl : (backTo pos (starEach es X.env)).any (·.1) = false) (hf : (P.funs f).isSome = true) :
    PE X (.Call (.Name x p) (e :: es) [] pos) (tE P (callF P n) L (.call f ies)) := by
  obtain ⟨d, hd⟩ := Option.isSome_iff_exists.mp hf
  obtain ⟨fd, ps, FA, hps, _⟩ := F f d hd
  have Fk := FA.ok
  rw [← c.prog, ← c.w, ← c.K, ← c.mg, ← c.base] at Fk
  refine (g_call (E := fun _ _ _ => False) Fk hr c.gd hg (by rw [c.mg]; exact hm) (by rw [c.K]; exact FA.kp) (by rw [c.K]; exact FA.bn) ha hdb he hpl).mono fun σ H Q q => ?_
  obtain ⟨μ, env, st, v, st', S, ev, q⟩ := q
  rw [evalE] at ev
  obtain ⟨pvs, st1, e1, e2⟩ := Res.bind_eq_ok ev
  refine ⟨μ, env, st, pvs, st1, S, e1, fun μ1 H1 xs S1 r1 E1 => ?_⟩
  exact to_sp S1 r1 (by rw [hps]; exact callF_np hd e2) e2 fun μ2 H2 y S2 r2 E2 => q μ2 H2 y S2 r2 (E1.trans E2)
theorem e_call0 (c : CxG G X) (F : FnsOk G L P kws n) (hr : Room (3 * n) X.A) (hg : Gl X x) (hm : G.mg x = some (.ref (L.fna f)))
    (hdb : (x == ("__debug__" : Str)) = false) (hf : (P.funs f).isSome = true) :
    PE X (.Call (.Name x p) [] [] pos) (tE P (callF P n) L (.call f .nil)) := by
  obtain ⟨d, hd⟩ := Option.isSome_iff_exists.mp hf
  obtain ⟨fd, ps, FA, hps, _⟩ := F f d hd
  have Fk := FA.ok
  rw [← c.prog, ← c.w, ← c.K, ← c.mg, ← c.base] at Fk
  refine (g_call0 (E := fun _ _ _ => False) Fk hr c.gd hg (by rw [c.mg]; exact hm) (by rw [c.K]; exact FA.kp) (by rw [c.K]; exact FA.bn) hdb).mono fun σ H Q q => ?_
  obtain ⟨μ, env, st, v, st', S, ev, q⟩ := q
  rw [evalE] at ev
  obtain ⟨pvs, st1, e1, e2⟩ := Res.bind_eq_ok ev
  rw [evalEs] at e1
  cases e1
  exact to_sp (xs := []) S .nil (by rw [hps]; exact callF_np hd e2) e2 q
/-! ### methods -/
theorem insOf_rep {μ : List Addr} {env : Env} {st : Store} {σ : L2.St} {H : Hp} {v : PV} {y : V} {c : Nat} {ks : List Nat} (S : SR L μ env st σ H) (r : Rep L H μ v y) (h : insOf st v = some (c, ks)) :
    ∃ a dx ws, y = .ref a ∧ H a = some (.ins (L.cls c) dx ((ks.map L.nm).zip ws)) := by
  unfold insOf at h
  split at h
  · cases h
    rw [Rep] at r
    obtain ⟨a, dx, ws, rfl, hH, _⟩ := r
    exact ⟨a, dx, ws, rfl, hH⟩
  · split at h
    · rename_i c ks vs hst
      cases h
      rw [Rep] at r
      obtain ⟨a, ha, rfl⟩ := r
      obtain ⟨b, hb, dx, ws, hH, _⟩ := S.sto.at_ _ _ hst
      rw [ha] at hb; cases hb
      exact ⟨a, dx, ws, rfl, hH⟩
    · cases h
  · cases h
theorem lookup_zip_none {m : Str} : ∀ {ns : List Str} {ws : List V}, m ∉ ns → (ns.zip ws).lookup m = none
  | [], _, _ => by simp
  | _ :: _, [], _ => by simp
  | a :: ns, w :: ws, h => by
    have h1 : m ≠ a := fun z => h (z ▸ List.mem_cons_self)
    have h2 : (m == a) = false := by rw [beq_eq_false_iff_ne]; exact h1
    simp only [List.zip_cons_cons, List.lookup_cons, h2]
    exact lookup_zip_none fun z => h (List.mem_cons_of_mem _ z)
/-- o.m(..) whatever the class is: the facts of each class of the program -/
structure ClassAt (G : Gb) (L : Lay) (P : Prog) (c : Nat) (cl : MP.Cls) : Prop where
  clo : L2.Cls G.K (L.cls c)
  mt : ∀ m f, cl.meths.lookup m = some f → L2.Meth G.K (L.cls c) (L.nm m) (L.fna f)
  mkr : L2.Mk G.K (L.cls c) (L.fna cl.init)
theorem nm_notin (hnm : ∀ a b : Nat, L.nm a = L.nm b → a = b) {m : Nat} {ks : List Nat} (h : m ∉ ks) : L.nm m ∉ ks.map L.nm := fun z => by
  obtain ⟨k, hk, e⟩ := List.mem_map.mp z
  exact h ((hnm _ _ e) ▸ hk)
theorem any_meth {apos : Pos} {pl : Sem Bool} {m : Nat} {to : TE} {t : TA} (c : CxG G X) (F : FnsOk G L P kws n) (hr : Room (3 * n) X.A) (hC : ∀ c cl, P.cls c = some cl → ClassAt G L P c cl) (hnm : ∀ a b : Nat, L.nm a = L.nm b → a = b) (ho : PE X o to) (ha : PA X (e :: es) t)
    (hst : starEach (e :: es) X.env = (false, eval e X.env) :: starEach es X.env) (hpl : (backTo pos (starEach es X.env)).any (·.1) = false)
    (ht : eval (.Call (.Attribute o (L.nm m) apos) (e :: es) [] pos) X.env = (do
      let ov ← eval o X.env
      standAt apos.atName
      let (f, first) ← holding [ov] (getMethod ov (L.nm m) pl)
      callWith pos f first (backTo pos (starEach (e :: es) X.env)) (backToKw pos (keywordEach [] X.env)))) :
    PE X (.Call (.Attribute o (L.nm m) apos) (e :: es) [] pos) (fun σ H Q => ∃ c cl f d, P.cls c = some cl ∧ cl.meths.lookup m = some f ∧ P.funs f = some d ∧
      ∀ ps, ps.length = d.np → gMeth (L.cls c) (L.nm m) (spF L P n f ps) (fun _ _ _ => False) to t σ H Q) := by
  refine ⟨fun pins s σ H Q I h => ?_⟩
  obtain ⟨k, cl, f, d, hk, hm, hd, h⟩ := h
  obtain ⟨fd, ps, FA, hps, _⟩ := F f d hd
  have Fk := FA.ok
  rw [← c.prog, ← c.w, ← c.K, ← c.mg, ← c.base] at Fk
  have CA := hC k cl hk
  exact (g_meth ho (by rw [c.K]; exact CA.clo) (by rw [c.K]; exact CA.mt m f hm) Fk hr c.gd (by rw [c.K]; exact FA.bn) ha hst hpl ht).run pins s σ H Q I (h ps hps)
theorem meth_inv {m : Nat} {env : Env} {st st' : Store} {v : PV} (h : evalE P (callF P n) (.meth m io ies) env st = .ok v st') :
    ∃ y st1 c ks cl f d vs st2, evalE P (callF P n) io env st = .ok y st1 ∧ insOf st1 y = some (c, ks) ∧ m ∉ ks ∧ P.cls c = some cl ∧ cl.meths.lookup m = some f ∧ P.funs f = some d ∧ evalEs P (callF P n) ies env st1 = .ok vs st2 ∧ callF P n f (y :: vs) st2 = .ok v st' := by
  rw [evalE] at h
  obtain ⟨y, st1, e1, h1⟩ := Res.bind_eq_ok h
  split at h1
  · cases h1
  · rename_i f hf
    obtain ⟨vs, st2, e2, h2⟩ := Res.bind_eq_ok h1
    unfold methOf at hf
    rw [Option.bind_eq_some_iff] at hf
    obtain ⟨⟨c, ks⟩, hc, hf⟩ := hf
    split at hf
    · cases hf
    · rename_i hk
      rw [Option.bind_eq_some_iff] at hf
      obtain ⟨cl, hcl, hf⟩ := hf
      obtain ⟨d, hd⟩ := callF_some h2
      exact ⟨y, st1, c, ks, cl, f, d, vs, st2, e1, hc, hk, hcl, hf, hd, e2, h2⟩
theorem e_meth {apos : Pos} {pl : Sem Bool} {m : Nat} (c : CxG G X) (F : FnsOk G L P kws n) (hr : Room (3 * n) X.A) (hC : ∀ c cl, P.cls c = some cl → ClassAt G L P c cl) (hnm : ∀ a b : Nat, L.nm a = L.nm b → a = b) (ho : PE X o (tE P (callF P n) L io)) (ha : PA X (e :: es) (tA P (callF P n) L ies))
    (hst : starEach (e :: es) X.env = (false, eval e X.env) :: starEach es X.env) (hpl : (backTo pos (starEach es X.env)).any (·.1) = false)
    (ht : eval (.Call (.Attribute o (L.nm m) apos) (e :: es) [] pos) X.env = (do
      let ov ← eval o X.env
      standAt apos.atName
      let (f, first) ← holding [ov] (getMethod ov (L.nm m) pl)
      callWith pos f first (backTo pos (starEach (e :: es) X.env)) (backToKw pos (keywordEach [] X.env)))) :
    PE X (.Call (.Attribute o (L.nm m) apos) (e :: es) [] pos) (tE P (callF P n) L (.meth m io ies)) := by
  refine (any_meth c F hr hC hnm ho ha hst hpl ht).mono fun σ H Q q => ?_
  obtain ⟨μ, env, st, v, st', S, ev, q⟩ := q
  obtain ⟨y, st1, c, ks, cl, f, d, vs, st2, e1, hi, hk, hcl, hm, hd, e2, e3⟩ := meth_inv ev
  refine ⟨c, cl, f, d, hcl, hm, hd, fun ps hps => ⟨μ, env, st, y, st1, S, e1, fun μ1 H1 y1 S1 r1 E1 => ?_⟩⟩
  obtain ⟨a, dx, ws, rfl, hH⟩ := insOf_rep S1 r1 hi
  refine ⟨a, dx, _, rfl, hH, lookup_zip_none (nm_notin hnm hk), μ1, env, st1, vs, st2, S1, e2, fun μ2 H2 xs S2 r2 E2 => ?_⟩
  exact to_sp S2 (.cons (r1.ext E2) r2) (by rw [hps]; exact callF_np hd e3) e3 fun μ3 H3 z S3 r3 E3 => q μ3 H3 z S3 r3 ((E1.trans E2).trans E3)
theorem any_meth0 {apos : Pos} {pl : Sem Bool} {m : Nat} {to : TE} (c : CxG G X) (F : FnsOk G L P kws n) (hr : Room (3 * n) X.A) (hC : ∀ c cl, P.cls c = some cl → ClassAt G L P c cl) (ho : PE X o to)
    (ht : eval (.Call (.Attribute o (L.nm m) apos) [] [] pos) X.env = (do
      let ov ← eval o X.env
      standAt apos.atName
      let (f, first) ← holding [ov] (getMethod ov (L.nm m) pl)
      callWith pos f first (backTo pos (starEach [] X.env)) (backToKw pos (keywordEach [] X.env)))) :
    PE X (.Call (.Attribute o (L.nm m) apos) [] [] pos) (fun σ H Q => ∃ c cl f d, P.cls c = some cl ∧ cl.meths.lookup m = some f ∧ P.funs f = some d ∧
      ∀ ps, ps.length = d.np → gMeth (L.cls c) (L.nm m) (spF L P n f ps) (fun _ _ _ => False) to tNil σ H Q) := by
  refine ⟨fun pins s σ H Q I h => ?_⟩
  obtain ⟨k, cl, f, d, hk, hm, hd, h⟩ := h
  obtain ⟨fd, ps, FA, hps, _⟩ := F f d hd
  have Fk := FA.ok
  rw [← c.prog, ← c.w, ← c.K, ← c.mg, ← c.base] at Fk
  have CA := hC k cl hk
  exact (g_meth0 ho (by rw [c.K]; exact CA.clo) (by rw [c.K]; exact CA.mt m f hm) Fk hr c.gd (by rw [c.K]; exact FA.bn) ht).run pins s σ H Q I (h ps hps)
theorem e_meth0 {apos : Pos} {pl : Sem Bool} {m : Nat} (c : CxG G X) (F : FnsOk G L P kws n) (hr : Room (3 * n) X.A) (hC : ∀ c cl, P.cls c = some cl → ClassAt G L P c cl) (hnm : ∀ a b : Nat, L.nm a = L.nm b → a = b) (ho : PE X o (tE P (callF P n) L io))
    (ht : eval (.Call (.Attribute o (L.nm m) apos) [] [] pos) X.env = (do
      let ov ← eval o X.env
      standAt apos.atName
      let (f, first) ← holding [ov] (getMethod ov (L.nm m) pl)
      callWith pos f first (backTo pos (starEach [] X.env)) (backToKw pos (keywordEach [] X.env)))) :
    PE X (.Call (.Attribute o (L.nm m) apos) [] [] pos) (tE P (callF P n) L (.meth m io .nil)) := by
  refine (any_meth0 c F hr hC ho ht).mono fun σ H Q q => ?_
  obtain ⟨μ, env, st, v, st', S, ev, q⟩ := q
  obtain ⟨y, st1, c, ks, cl, f, d, vs, st2, e1, hi, hk, hcl, hm, hd, e2, e3⟩ := meth_inv ev
  rw [evalEs] at e2
  cases e2
  refine ⟨c, cl, f, d, hcl, hm, hd, fun ps hps => ⟨μ, env, st, y, _, S, e1, fun μ1 H1 y1 S1 r1 E1 => ?_⟩⟩
  obtain ⟨a, dx, ws, rfl, hH⟩ := insOf_rep S1 r1 hi
  refine ⟨a, dx, _, rfl, hH, lookup_zip_none (nm_notin hnm hk), ?_⟩
  exact to_sp (E := fun _ _ _ => False) (xs := [V.ref a]) S1 (.cons r1 .nil) (by rw [hps]; exact callF_np hd e3) e3 fun μ3 H3 z S3 r3 E3 => q μ3 H3 z S3 r3 (E1.trans E3)
/-! ### instances made -/
theorem make_inv {c : Nat} {env : Env} {st st' : Store} {v : PV} (h : evalE P (callF P n) (.make c ies) env st = .ok v st') :
    ∃ vs st1 cl st2, evalEs P (callF P n) ies env st = .ok vs st1 ∧ P.cls c = some cl ∧ callF P n cl.init (.ref st1.length :: vs) (st1 ++ [.ins c [] []]) = .ok .non st2 ∧ (if cl.frz = true then gcAt st1 (.ref st1.length) st2 = .ok v st' else v = .ref st1.length ∧ st' = st2) := by
  rw [evalE] at h
  obtain ⟨vs, st1, e1, h1⟩ := Res.bind_eq_ok h
  split at h1
  · cases h1
  · rename_i cl hcl
    obtain ⟨w, st2, e2, h2⟩ := Res.bind_eq_ok h1
    split at h2
    · rename_i hw
      subst hw
      refine ⟨vs, st1, cl, st2, e1, hcl, e2, ?_⟩
      split at h2
      · rename_i hf
        rw [if_pos hf]; exact h2
      · rename_i hf
        rw [if_neg hf]; cases h2; exact ⟨rfl, rfl⟩
    · cases h2
theorem make_sp {c : Nat} {cl : MP.Cls} {ps : List Str} {μ : List Addr} {env : Env} {st st1 st2 : Store} {σ : L2.St} {H : Hp} {xs : List V} {pvs : List PV} {v : PV} {Q : VK} {E : XK} (S : SR L μ env st σ H) (r : Reps L H μ pvs xs) (hl : pvs.length + 1 = ps.length)
    (ev : callF P n cl.init (.ref st.length :: pvs) (st ++ [.ins c [] []]) = .ok .non st2) (hv : if cl.frz = true then gcAt st (.ref st.length) st2 = .ok v st1 else v = .ref st.length ∧ st1 = st2)
    (q : ∀ μ' H' x, SR L μ' env st1 σ H' → Rep L H' μ' v x → Ext μ H μ' H' → Q x H') : ∀ x dx, H x = none → H dx = none → dx ≠ x →
      spF L P n cl.init ps (.ref x :: xs) (upd (upd H dx (.own x)) x (.ins (L.cls c) dx [])) (fun v H2 => v = .non ∧ Q (.ref x) H2) E := by
  intro x dx hx hdx hne
  have hx1 : upd H dx (.own x) x = none := by rw [upd_ne (Ne.symm hne)]; exact hx
  have S1 : SR L μ env st σ (upd H dx (.own x)) := S.new hdx
  have E1 : Ext μ H μ (upd H dx (.own x)) := Ext.new_ hdx
  have E2 : Ext μ (upd H dx (.own x)) (μ ++ [x]) (upd (upd H dx (.own x)) x (.ins (L.cls c) dx [])) := Ext.push hx1
  have E12 := E1.trans E2
  have T2 := S1.sto.push (u := .ins (L.cls c) dx []) (o := .ins c [] []) hx1 ⟨dx, [], by rw [upd_same]; rfl, rfl, .nil⟩
  have S2 := S1.ext E2 T2
  have rx : Rep L (upd (upd H dx (.own x)) x (.ins (L.cls c) dx [])) (μ ++ [x]) (.ref st.length) (.ref x) := by
    rw [Rep]
    exact ⟨x, by rw [List.getElem?_append_right (by rw [S.sto.len]; exact Nat.le_refl _), S.sto.len]; simp, rfl⟩
  refine to_sp S2 (.cons rx (r.ext E12)) (by simpa using hl) ev fun μ3 H3 y S3 r3 E3 => ?_
  rw [Rep] at r3
  refine ⟨r3, ?_⟩
  have rx3 := rx.ext E3
  have E03 := E12.trans E3
  split at hv
  · obtain ⟨T, ru, E'⟩ := gc_ok S.sto S3.sto E03 rx3 hv
    exact q μ H3 _ (S.ext E' T) ru E'
  · obtain ⟨rfl, rfl⟩ := hv
    exact q μ3 H3 _ S3 rx3 E03
theorem e_make {k : Nat} (c : CxG G X) (F : FnsOk G L P kws n) (hr : Room (3 * n + 1) X.A) (hC : ∀ c cl, P.cls c = some cl → ClassAt G L P c cl) (hcl : (P.cls k).isSome = true) (hg : Gl X x) (hm : G.mg x = some (.ref (L.cls k))) (ha : PA X (e :: es) (tA P (callF P n) L ies))
    (hdb : (x == ("__debug__" : Str)) = false) (he : starEach (e :: es) X.env = (false, eval e X.env) :: starEach es X.env) (hpl : (backTo pos (starEach es X.env)).any (·.1) = false) (hfi : ∀ cl, P.cls k = some cl → (P.funs cl.init).isSome = true) :
    PE X (.Call (.Name x p) (e :: es) [] pos) (tE P (callF P n) L (.make k ies)) := by
  obtain ⟨cl, hk⟩ := Option.isSome_iff_exists.mp hcl
  obtain ⟨d, hd⟩ := Option.isSome_iff_exists.mp (hfi cl hk)
  obtain ⟨fd, ps, FA, hps, _⟩ := F cl.init d hd
  have Fk := FA.ok
  rw [← c.prog, ← c.w, ← c.K, ← c.mg, ← c.base] at Fk
  have CA := hC k cl hk
  refine (g_make (E := fun _ _ _ => False) (by rw [c.K]; exact CA.mkr) Fk hr c.gd hg (by rw [c.mg]; exact hm) (by rw [c.K]; exact FA.bn) ha hdb he hpl).mono fun σ H Q q => ?_
  obtain ⟨μ, env, st, v, st', S, ev, q⟩ := q
  obtain ⟨vs, st1, cl', st2, e1, hk', e2, hv⟩ := make_inv ev
  rw [hk] at hk'
  cases hk'
  refine ⟨μ, env, st, vs, st1, S, e1, fun μ1 H1 xs S1 r1 E1 => ?_⟩
  exact make_sp S1 r1 (by have := callF_np hd e2; rw [List.length_cons] at this; rw [hps]; exact this) e2 hv fun μ2 H2 y S2 r2 E2 => q μ2 H2 y S2 r2 (E1.trans E2)
theorem e_make0 {k : Nat} (c : CxG G X) (F : FnsOk G L P kws n) (hr : Room (3 * n + 1) X.A) (hC : ∀ c cl, P.cls c = some cl → ClassAt G L P c cl) (hcl : (P.cls k).isSome = true) (hg : Gl X x) (hm : G.mg x = some (.ref (L.cls k)))
    (hdb : (x == ("__debug__" : Str)) = false) (hfi : ∀ cl, P.cls k = some cl → (P.funs cl.init).isSome = true) :
    PE X (.Call (.Name x p) [] [] pos) (tE P (callF P n) L (.make k .nil)) := by
  obtain ⟨cl, hk⟩ := Option.isSome_iff_exists.mp hcl
  obtain ⟨d, hd⟩ := Option.isSome_iff_exists.mp (hfi cl hk)
  obtain ⟨fd, ps, FA, hps, _⟩ := F cl.init d hd
  have Fk := FA.ok
  rw [← c.prog, ← c.w, ← c.K, ← c.mg, ← c.base] at Fk
  have CA := hC k cl hk
  refine (g_make0 (E := fun _ _ _ => False) (by rw [c.K]; exact CA.mkr) Fk hr c.gd hg (by rw [c.mg]; exact hm) (by rw [c.K]; exact FA.bn) hdb).mono fun σ H Q q => ?_
  obtain ⟨μ, env, st, v, st', S, ev, q⟩ := q
  obtain ⟨vs, st1, cl', st2, e1, hk', e2, hv⟩ := make_inv ev
  rw [hk] at hk'
  cases hk'
  rw [evalEs] at e1
  cases e1
  exact make_sp S .nil (by have := callF_np hd e2; rw [List.length_cons] at this; rw [hps]; exact this) e2 hv q
end
end MP
namespace MP
open PySem PySem.Spec PyProof.Rows L2

/-! ### isinstance -/
def tyS : Ty → String
  | .none => "NoneType"
  | .int => "int"
  | .str => "str"
  | .tuple => "tuple"
  | .bool => "bool"
  | .list => "list"
  | .dict => "dict"
  | .cls _ => ""
def okTy : Ty → Bool
  | .int | .str | .tuple | .bool | .list | .dict => true
  | _ => false
def vTy : Ty → Bool
  | .none | .int | .str | .tuple | .bool | .list => true
  | _ => false
theorem kit_all : ∀ t w : Ty, vTy t = true → okTy w = true → kitB (tyS t) (tyS w) = some (isiOne t w)
  | .none, .int, _, _ | .none, .str, _, _ | .none, .tuple, _, _ | .none, .bool, _, _ | .none, .list, _, _ | .none, .dict, _, _ => by decide +kernel
  | .int, .int, _, _ | .int, .str, _, _ | .int, .tuple, _, _ | .int, .bool, _, _ | .int, .list, _, _ | .int, .dict, _, _ => by decide +kernel
  | .str, .int, _, _ | .str, .str, _, _ | .str, .tuple, _, _ | .str, .bool, _, _ | .str, .list, _, _ | .str, .dict, _, _ => by decide +kernel
  | .tuple, .int, _, _ | .tuple, .str, _, _ | .tuple, .tuple, _, _ | .tuple, .bool, _, _ | .tuple, .list, _, _ | .tuple, .dict, _, _ => by decide +kernel
  | .bool, .int, _, _ | .bool, .str, _, _ | .bool, .tuple, _, _ | .bool, .bool, _, _ | .bool, .list, _, _ | .bool, .dict, _, _ => by decide +kernel
  | .list, .int, _, _ | .list, .str, _, _ | .list, .tuple, _, _ | .list, .bool, _, _ | .list, .list, _, _ | .list, .dict, _, _ => by decide +kernel
  | .dict, _, h, _ => by cases h
  | .cls _, _, h, _ => by cases h
  | _, .none, _, h => by cases h
  | _, .cls _, _, h => by cases h
section
variable {X : Cx} {L : Lay} {P : Prog} {cf : Nat → List PV → Store → Res PV} {pos : Pos} {H : Hp} {μ : List Addr}
theorem tyx_of (hK : X.K = L.K) {env : Env} {st : Store} {σ : L2.St} {v : PV} {x : V} {t : Ty} (S : SR L μ env st σ H) (r : Rep L H μ v x) (h : tyOf st v = some t) : vTy t = true ∧ TyX X.K H x (.type (tyS t)) := by
  cases v with
  | non => cases h; rw [Rep] at r; subst r; exact ⟨rfl, .base .non⟩
  | bl b => cases h; rw [Rep] at r; subst r; exact ⟨rfl, .base (.bl b)⟩
  | int i => cases h; rw [Rep] at r; subst r; exact ⟨rfl, .base (.int i)⟩
  | str s => cases h; rw [Rep] at r; subst r; exact ⟨rfl, .base (.str _)⟩
  | tup xs =>
    cases h; rw [Rep] at r
    obtain ⟨a, vs, rfl, s, _⟩ := r
    rcases s with ⟨s | ⟨o, s⟩, _⟩ | ⟨o, its, n, hk, hc, _⟩
    · exact ⟨rfl, .base (.tup s)⟩
    · exact ⟨rfl, .fTuple s⟩
    · exact ⟨rfl, .kTuple (by rw [hK]; exact hk) hc⟩
  | lst xs =>
    cases h; rw [Rep] at r
    obtain ⟨a, vs, rfl, ⟨s | ⟨o, s⟩, _⟩, _⟩ := r
    · exact ⟨rfl, .base (.lst s)⟩
    · exact ⟨rfl, .base (.frz s)⟩
  | ref n =>
    rw [tyOf] at h
    split at h
    · rename_i xs hst
      cases h
      obtain ⟨a, ha, vs, hH, _⟩ := S.sto.at_ n _ hst
      rw [Rep] at r
      obtain ⟨b, hb, rfl⟩ := r
      rw [ha] at hb; cases hb
      exact ⟨rfl, .base (.lst hH)⟩
    · cases h
  | set xs =>
    cases h; rw [Rep] at r
    obtain ⟨a, vs, rfl, s, _⟩ := r
    rcases s with ⟨s | ⟨o, s⟩, _⟩ | ⟨its, n, hk, _⟩
    · exact ⟨rfl, .base (.lst s)⟩
    · exact ⟨rfl, .base (.frz s)⟩
    · exact ⟨rfl, .kList (by rw [hK]; exact hk) rfl⟩
  | dic _ _ => cases h
  | obj _ _ _ => cases h
  | fn _ => cases h
variable {a b : Expr} {ia ib : IE} {es : List Expr} {p : Pos}
theorem isi_inv {ts : List Ty} {env : Env} {st st' : Store} {v : PV} (h : evalE P cf (.isi ia ts) env st = .ok v st') : ∃ x t, evalE P cf ia env st = .ok x st' ∧ tyOf st' x = some t ∧ v = .bl (ts.any (isiOne t)) := by
  rw [evalE] at h
  obtain ⟨x, st1, e1, h1⟩ := Res.bind_eq_ok h
  split at h1
  · cases h1; exact ⟨x, _, e1, by assumption, rfl⟩
  · cases h1
theorem e_isi1 {w : Ty} (hK : X.K = L.K) (hg : Gl X "isinstance") (hm : X.mg "isinstance" = none) (ha : PE X a (tE P cf L ia)) (hb : PE X b (tC (.ty (tyS w)))) (hw : okTy w = true)
    (he : starEach [a, b] X.env = (false, eval a X.env) :: starEach [b] X.env) (he2 : starEach [b] X.env = (false, eval b X.env) :: starEach [] X.env) (hpl : (backTo pos (starEach [b] X.env)).any (·.1) = false) :
    PE X (.Call (.Name "isinstance" p) [a, b] [] pos) (tE P cf L (.isi ia [w])) := by
  refine (pe_callB call_isi hg hm boot_isinstance (pa_cons ha (pa_cons hb pa_nil he2) he) (by decide) (by decide) he hpl).mono fun σ H Q q => ?_
  obtain ⟨μ, env, st, v, st', S, ev, q⟩ := q
  obtain ⟨x, t, e1, e2, rfl⟩ := isi_inv ev
  refine ⟨μ, env, st, x, st', S, e1, fun μ1 H1 x1 S1 r1 E1 => ?_⟩
  obtain ⟨vt, tx⟩ := tyx_of hK S1 r1 e2
  refine ⟨x1, .ty (tyS w), _, _, isiOne t w, rfl, .ty _, tx, kit_ty (kit_all t w vt hw), ?_⟩
  have := q μ1 H1 (.bl (isiOne t w)) S1 (by simp only [List.any_cons, List.any_nil, Bool.or_false]; exact Rep.bl_) E1
  exact this
/-! ### lists' methods -/
theorem lstAt_inv {st : Store} {x : PV} {n : Nat} {xs : List PV} (h : lstAt st x = some (n, xs)) : x = .ref n ∧ st[n]? = some (.lst xs) := by
  unfold lstAt at h
  split at h
  · split at h
    · cases h; exact ⟨rfl, by assumption⟩
    · cases h
  · cases h
theorem app_inv {o e : IE} {env : Env} {st st' : Store} {v : PV} (h : evalE P cf (.append o e) env st = .ok v st') : ∃ st1 y st2 n xs xs1, evalE P cf o env st = .ok (.ref n) st1 ∧ st1[n]? = some (.lst xs1) ∧ evalE P cf e env st1 = .ok y st2 ∧ st2[n]? = some (.lst xs) ∧ xs.length < lim ∧ v = .non ∧ st' = st2.set n (.lst (xs ++ [y])) := by
  rw [evalE] at h
  obtain ⟨x, st1, e1, h1⟩ := Res.bind_eq_ok h
  split at h1
  · rename_i hs
    obtain ⟨⟨n, xs1⟩, hs⟩ := Option.isSome_iff_exists.mp hs
    obtain ⟨rfl, hn⟩ := lstAt_inv hs
    obtain ⟨y, st2, e2, h2⟩ := Res.bind_eq_ok h1
    split at h2
    · rename_i m xs hm
      split at h2
      · obtain ⟨hx, hm⟩ := lstAt_inv hm
        cases hx
        cases h2
        exact ⟨st1, y, st2, n, xs, xs1, e1, hn, e2, hm, by assumption, rfl, rfl⟩
      · cases h2
    · cases h2
  · cases h1
/-- o.append(e): the list may be changed by e -/
theorem pe_app {X : Cx} {o e : Expr} {apos cpos : Pos} {to te : TE} (ho : PE X o to) (ha : PE X e te)
    (hbase : attributeBase o "append" X.env (eval o X.env) = eval o X.env)
    (hfew : ((backTo cpos (starEach [e] X.env)).all (fun x => !x.1) && (backToKw cpos (keywordEach [] X.env)).all (fun x => x.1.isSome)
      && decide (([e] : List Expr).length + ([] : List Keyword).length + (if ([] : List Keyword).isEmpty then 0 else 1) < 30)) = true)
    (hline : (apos.endLine == cpos.line) = true) (hs : starEach [e] X.env = (false, eval e X.env) :: starEach [] X.env) (hplain : (backTo cpos (starEach [] X.env)).any (·.1) = false) :
    PE X (.Call (.Attribute o "append" apos) [e] [] cpos) (tBM X.K "list" rAppend to (tCons te tNil)) :=
  pe_bm F.plainAttrs_list F.slot_list_append rfl (fun pins s σ H x xs v us Q I rx rs q => mt_append pins s σ H x xs v us Q I rx rs q) ho (pa_cons ha pa_nil hs) hbase hfew hline hs hplain
theorem e_app {o e : Expr} {io ie : IE} {apos cpos : Pos} (h : PE X (.Call (.Attribute o "append" apos) [e] [] cpos) (tBM X.K "list" rAppend (tE P cf L io) (tCons (tE P cf L ie) tNil))) :
    PE X (.Call (.Attribute o "append" apos) [e] [] cpos) (tE P cf L (.append io ie)) := by
  refine h.mono fun σ H Q q => ?_
  obtain ⟨μ, env, st, v, st', S, ev, q⟩ := q
  obtain ⟨st1, y, st2, n, xs, xs1, e1, e2, e3, e4, hl, rfl, rfl⟩ := app_inv ev
  refine ⟨μ, env, st, _, st1, S, e1, fun μ1 H1 x1 S1 r1 E1 => ?_⟩
  rw [Rep] at r1
  obtain ⟨a, ha, rfl⟩ := r1
  obtain ⟨b, hb, vs1, hH1, _⟩ := S1.sto.at_ n _ e2
  rw [ha] at hb; cases hb
  refine ⟨.inl ⟨rfl, vs1, SqL.of hH1⟩, μ1, env, st1, y, st2, S1, e3, fun μ2 H2 y2 S2 r2 E2 => ?_⟩
  obtain ⟨l, rfl⟩ := E2.pre
  obtain ⟨b, hb, vs, hH, rv⟩ := S2.sto.at_ n _ e4
  have ha2 : (μ1 ++ l)[n]? = some a := by rw [List.getElem?_append_left (List.getElem?_eq_some_iff.mp ha).1]; exact ha
  rw [ha2] at hb; cases hb
  have Ew : Ext (μ1 ++ l) H2 (μ1 ++ l) (upd H2 a (.lst (vs ++ [y2]))) := Ext.write (List.mem_of_getElem? ha2)
  have T := S2.sto.write (u := .lst (vs ++ [y2])) (o := .lst (xs ++ [y])) ha2 ⟨_, upd_same, (rv.append (.cons r2 .nil)).ext Ew⟩
  exact ⟨a, vs, y2, rfl, rfl, hH, by rw [← rv.length, ← lim_eq]; exact hl, q _ _ _ (S2.ext Ew T) Rep.non_ ((E1.trans E2).trans Ew)⟩
/-! ### insert -/
theorem ins_inv {o i e : IE} {env : Env} {st st' : Store} {v : PV} (h : evalE P cf (.insert o i e) env st = .ok v st') : ∃ st1 j st2 y st3 n xs xs1, evalE P cf o env st = .ok (.ref n) st1 ∧ st1[n]? = some (.lst xs1) ∧ evalE P cf i env st1 = .ok (.int j) st2 ∧ evalE P cf e env st2 = .ok y st3 ∧ st3[n]? = some (.lst xs) ∧
    xs.length < lim ∧ 0 ≤ j ∧ j < i62 ∧ v = .non ∧ st' = st3.set n (.lst (xs.take j.toNat ++ [y] ++ xs.drop j.toNat)) := by
  rw [evalE] at h
  obtain ⟨x, st1, e1, h1⟩ := Res.bind_eq_ok h
  split at h1
  · rename_i hs
    obtain ⟨⟨n, xs1⟩, hs⟩ := Option.isSome_iff_exists.mp hs
    obtain ⟨rfl, hn⟩ := lstAt_inv hs
    obtain ⟨k, st2, e2, h2⟩ := Res.bind_eq_ok h1
    obtain ⟨y, st3, e3, h3⟩ := Res.bind_eq_ok h2
    split at h3
    · rename_i m xs j hm
      split at h3
      · rename_i hc
        obtain ⟨hx, hm⟩ := lstAt_inv hm
        cases hx
        cases h3
        exact ⟨st1, j, st2, y, st3, n, xs, xs1, e1, hn, e2, e3, hm, hc.1, hc.2.1, hc.2.2, rfl, rfl⟩
      · cases h3
    · cases h3
  · cases h1
def rIns : V → List V → Hp → VK → Prop := fun x vs H Q => ∃ (l : Addr) (xs : List V) (i : Int) (y : V), x = .ref l ∧ vs = [.int i, y] ∧ H l = some (.lst xs) ∧ xs.length < sizeLine ∧ 0 ≤ i ∧ i < 2 ^ 63 ∧ Q .non (upd H l (.lst (xs.take i.toNat ++ [y] ++ xs.drop i.toNat)))
theorem pe_ins {X : Cx} {o a b : Expr} {apos cpos : Pos} {to ta tb : TE} (ho : PE X o to) (ha : PE X a ta) (hb : PE X b tb)
    (hbase : attributeBase o "insert" X.env (eval o X.env) = eval o X.env)
    (hfew : ((backTo cpos (starEach [a, b] X.env)).all (fun x => !x.1) && (backToKw cpos (keywordEach [] X.env)).all (fun x => x.1.isSome)
      && decide (([a, b] : List Expr).length + ([] : List Keyword).length + (if ([] : List Keyword).isEmpty then 0 else 1) < 30)) = true)
    (hline : (apos.endLine == cpos.line) = true) (h1 : starEach [a, b] X.env = (false, eval a X.env) :: starEach [b] X.env) (h2 : starEach [b] X.env = (false, eval b X.env) :: starEach [] X.env) (hplain : (backTo cpos (starEach [b] X.env)).any (·.1) = false) :
    PE X (.Call (.Attribute o "insert" apos) [a, b] [] cpos) (tBM X.K "list" rIns to (tCons ta (tCons tb tNil))) :=
  pe_bm F.plainAttrs_list F.slot_list_insert rfl (fun pins s σ H x xs v us Q I rx rs q => mt_insert pins s σ H x xs v us Q I rx rs q) ho (pa_cons ha (pa_cons hb pa_nil h2) h1) hbase hfew hline h1 hplain
theorem e_ins {o a b : Expr} {io ia ib : IE} {apos cpos : Pos} (h : PE X (.Call (.Attribute o "insert" apos) [a, b] [] cpos) (tBM X.K "list" rIns (tE P cf L io) (tCons (tE P cf L ia) (tCons (tE P cf L ib) tNil)))) :
    PE X (.Call (.Attribute o "insert" apos) [a, b] [] cpos) (tE P cf L (.insert io ia ib)) := by
  refine h.mono fun σ H Q q => ?_
  obtain ⟨μ, env, st, v, st', S, ev, q⟩ := q
  obtain ⟨st1, j, st2, y, st3, n, xs, xs1, e1, e2, e3, e4, e5, hl, j0, j1, rfl, rfl⟩ := ins_inv ev
  refine ⟨μ, env, st, _, st1, S, e1, fun μ1 H1 x1 S1 r1 E1 => ?_⟩
  rw [Rep] at r1
  obtain ⟨a, ha, rfl⟩ := r1
  obtain ⟨b, hb, vs1, hH1, _⟩ := S1.sto.at_ n _ e2
  rw [ha] at hb; cases hb
  refine ⟨.inl ⟨rfl, vs1, SqL.of hH1⟩, μ1, env, st1, _, st2, S1, e3, fun μ2 H2 x2 S2 r2 E2 => ?_⟩
  rw [Rep] at r2
  subst r2
  refine ⟨μ2, env, st2, y, st3, S2, e4, fun μ3 H3 y3 S3 r3 E3 => ?_⟩
  have E13 := E2.trans E3
  obtain ⟨l, rfl⟩ := E13.pre
  obtain ⟨b, hb, vs, hH, rv⟩ := S3.sto.at_ n _ e5
  have ha2 : (μ1 ++ l)[n]? = some a := by rw [List.getElem?_append_left (List.getElem?_eq_some_iff.mp ha).1]; exact ha
  rw [ha2] at hb; cases hb
  have Ew : Ext (μ1 ++ l) H3 (μ1 ++ l) (upd H3 a (.lst (vs.take j.toNat ++ [y3] ++ vs.drop j.toNat))) := Ext.write (List.mem_of_getElem? ha2)
  have T := S3.sto.write (u := .lst (vs.take j.toNat ++ [y3] ++ vs.drop j.toNat)) (o := .lst (xs.take j.toNat ++ [y] ++ xs.drop j.toNat)) ha2 ⟨_, upd_same, ((((rv.take _).append (.cons r3 .nil)).append (rv.drop _))).ext Ew⟩
  exact ⟨a, vs, j, y3, rfl, rfl, hH, by rw [← rv.length, ← lim_eq]; exact hl, j0, by unfold i62 at j1; omega, q _ _ _ (S3.ext Ew T) Rep.non_ ((E1.trans E13).trans Ew)⟩
end
end MP
namespace MP
open PySem PySem.Spec PyProof.Rows L2

theorem vals_at {vs : List V} {us : List Value} (r : Vals vs us) : ∀ (perm : List Nat), Vals (perm.filterMap fun i => vs[i]?) (perm.filterMap fun i => us[i]?)
  | [] => .nil
  | i :: perm => by
    simp only [List.filterMap_cons]
    cases e : vs[i]? with
    | none =>
      have hl := r.length
      have : us[i]? = none := by rw [List.getElem?_eq_none_iff] at e ⊢; omega
      rw [this]
      exact vals_at r perm
    | some v =>
      obtain ⟨u, hu, ru⟩ := r.get e
      rw [hu]
      exact .cons ru (vals_at r perm)
section
variable {X : Cx} {L : Lay} {P : Prog} {n : Nat} {pos : Pos} {G : Gb} {kws : List (Nat × List Str × List Nat)} {x : Str} {p : Pos} {e : Expr} {es : List Expr} {ks : List Keyword} {f : Nat}
/-- the keywords' values -/
theorem k_nil {cf : Nat → List PV → Store → Res PV} : PK X [] (tA P cf L .nil) := by
  refine pk_nil.mono fun σ H Q q => ?_
  obtain ⟨μ, env, st, vs, st', S, ev, q⟩ := q
  rw [evalEs] at ev
  cases ev
  exact q μ H [] S .nil (Ext.refl _ _)
theorem k_cons {cf : Nat → List PV → Store → Res PV} {nm : Option Str} {kp : Pos} {ie ir : IE} (ha : PE X e (tE P cf L ie)) (hr : PK X ks (tA P cf L ir)) : PK X (⟨nm, e, kp⟩ :: ks) (tA P cf L (.cons ie ir)) := by
  refine (pk_cons ha hr).mono fun σ H Q q => ?_
  obtain ⟨μ, env, st, vs, st', S, ev, q⟩ := q
  obtain ⟨v, ws, st1, e1, e2, rfl⟩ := cons_inv ev
  exact ⟨μ, env, st, v, st1, S, e1, fun μ1 H1 x S1 r1 E1 => ⟨μ1, env, st1, ws, st', S1, e2, fun μ2 H2 xs S2 r2 E2 => q μ2 H2 _ S2 (.cons (r1.ext E2) r2) (E1.trans E2)⟩⟩
theorem callk_inv {perm : List Nat} {ies : IE} {env : Env} {st st' : Store} {v : PV} (h : evalE P (callF P n) (.callk f perm ies) env st = .ok v st') :
    ∃ vs st1 ws, evalEs P (callF P n) ies env st = .ok vs st1 ∧ perm.mapM (fun i => vs[i]?) = some ws ∧ callF P n f ws st1 = .ok v st' := by
  rw [evalE] at h
  obtain ⟨vs, st1, e1, h1⟩ := Res.bind_eq_ok h
  obtain ⟨ws, st2, e2, h2⟩ := Res.bind_eq_ok h1
  obtain ⟨e2', rfl⟩ := Res.opt_eq_ok e2
  exact ⟨vs, st2, ws, e1, e2', h2⟩
theorem reps_at {H : Hp} {μ : List Addr} {vs : List PV} {xs : List V} (r : Reps L H μ vs xs) : ∀ {perm : List Nat} {ws : List PV}, perm.mapM (fun i => vs[i]?) = some ws → Reps L H μ ws (perm.filterMap fun i => xs[i]?)
  | [], ws, h => by
    simp at h; subst h; exact .nil
  | i :: perm, ws, h => by
    rw [List.mapM_cons] at h
    cases e : vs[i]? with
    | none => rw [e] at h; simp at h
    | some v =>
      rw [e] at h
      cases e2 : perm.mapM (fun i => vs[i]?) with
      | none => rw [e2] at h; simp at h
      | some us =>
        rw [e2] at h
        have h : some (v :: us) = some ws := h
        cases h
        obtain ⟨x, hx, rx⟩ := r.get e
        simp only [List.filterMap_cons, hx]
        exact .cons rx (reps_at r e2)
/-- only keywords -/
theorem e_callk0 {ies : IE} {perm : List Nat} {nm : List Str} (c : CxG G X) (F : FnsOk G L P kws n) (hr : Room (3 * n) X.A) (hg : Gl X x) (hm : G.mg x = some (.ref (L.fna f))) (hkw : PK X ks (tA P (callF P n) L ies))
    (hall : (backToKw pos (keywordEach ks X.env)).all (·.1.isSome) = true) (hks : (backToKw pos (keywordEach ks X.env)).filterMap (·.1) = nm) (hlen : ∀ env st vs st', evalEs P (callF P n) ies env st = .ok vs st' → vs.length = nm.length)
    (hdb : (x == ("__debug__" : Str)) = false) (hpl : ((backTo pos (starEach [] X.env)).any (·.1) || (backToKw pos (keywordEach ks X.env)).any (·.1.isNone)) = false) (hf : (P.funs f).isSome = true) (hq : (f, nm, perm) ∈ kws) :
    PE X (.Call (.Name x p) [] ks pos) (tE P (callF P n) L (.callk f perm ies)) := by
  obtain ⟨d, hd⟩ := Option.isSome_iff_exists.mp hf
  obtain ⟨fd, ps, FA, hps, hk⟩ := F f d hd
  have Fk := FA.ok
  rw [← c.prog, ← c.w, ← c.K, ← c.mg, ← c.base] at Fk
  have KB := hk _ hq rfl
  rw [← c.K] at KB
  refine (g_callK (E := fun _ _ _ => False) Fk hr c.gd hg (by rw [c.mg]; exact hm) (by rw [c.K]; exact FA.kp) KB (fun r => vals_at r perm) hkw hall hks hdb hpl).mono fun σ H Q q => ?_
  obtain ⟨μ, env, st, v, st', S, ev, q⟩ := q
  obtain ⟨vs, st1, ws, e1, e2, e3⟩ := callk_inv ev
  refine ⟨μ, env, st, vs, st1, S, e1, fun μ1 H1 xs S1 r1 E1 => ⟨by rw [← r1.length]; exact hlen _ _ _ _ e1, ?_⟩⟩
  exact to_sp S1 (reps_at r1 e2) (by rw [hps]; exact callF_np hd e3) e3 fun μ2 H2 y S2 r2 E2 => q μ2 H2 y S2 r2 (E1.trans E2)
end
end MP
namespace MP
open PySem PySem.Spec PyProof.Rows L2

section
variable {X : Cx} {L : Lay} {H : Hp} {μ : List Addr} {pins : List (Addr × Obj)} {σ : L2.St} {s : Shared}
theorem Rep.dd {v : PV} {x : V} (r : Rep L H μ v x) (d : PV.isD v = true) : RepD L H μ v x := by
  cases v with
  | lst xs =>
    rw [Rep] at r
    obtain ⟨a, vs, e, s, q⟩ := r
    exact ⟨a, vs, e, s.1, q⟩
  | _ => exact r
theorem zip_each (hK : X.K = L.K) (I : Inv X pins σ H s) : ∀ {xs : List PV} {vs : List V} {us : List Value}, Reps L H μ xs vs → Vals vs us → (∀ x ∈ xs, depthOk x = true) →
    PySem.W.EachIs (fun v (b : PV × V) => RelV b.2 v) us (xs.zip vs) ∧ PySem.W.EachIs (fun v (b : PV × V) => ∃ as, Reads s.heap v (toD b.1) as) us (xs.zip vs)
  | [], vs, us, r, h, _ => by
    obtain rfl := r.of_nil
    cases h
    exact ⟨.nil, .nil⟩
  | x :: xs, vs, us, r, h, d => by
    obtain ⟨v, vr, rfl, r1, r2⟩ := r.of_cons
    cases h with
    | cons h1 h2 =>
      obtain ⟨a, b⟩ := zip_each hK I r2 h2 fun y hy => d y (List.mem_cons_of_mem _ hy)
      have dx := d x List.mem_cons_self
      exact ⟨.cons h1 a, .cons (reads_of hK I (r1.dd (isD_of dx)) dx h1) b⟩
theorem each_vals : ∀ {bs : List (PV × V)} {us : List Value}, PySem.W.EachIs (fun v (b : PV × V) => RelV b.2 v) us bs → Vals (bs.map (·.2)) us
  | _, _, .nil => .nil
  | _, _, .cons h t => .cons h (each_vals t)
theorem reps_of_mem : ∀ {bs : List (PV × V)}, (∀ b ∈ bs, Rep L H μ b.1 b.2) → Reps L H μ (bs.map (·.1)) (bs.map (·.2))
  | [], _ => .nil
  | b :: bs, h => .cons (h b List.mem_cons_self) (reps_of_mem fun c hc => h c (List.mem_cons_of_mem _ hc))
theorem zip_mem : ∀ {xs : List PV} {vs : List V}, Reps L H μ xs vs → ∀ b ∈ xs.zip vs, Rep L H μ b.1 b.2 ∧ b.1 ∈ xs
  | [], vs, r, b, hb => by simp at hb
  | x :: xs, vs, r, b, hb => by
    obtain ⟨v, vr, rfl, r1, r2⟩ := r.of_cons
    rw [List.zip_cons_cons] at hb
    rcases List.mem_cons.mp hb with rfl | hb
    · exact ⟨r1, List.mem_cons_self⟩
    · obtain ⟨a, c⟩ := zip_mem r2 b hb
      exact ⟨a, List.mem_cons_of_mem _ c⟩
theorem sortOk_inv {xs : List PV} (h : sortOk xs = true) : (∀ x ∈ xs, depthOk x = true) ∧ (∀ x ∈ xs, ∀ y ∈ xs, PV.alike x y = true) ∧ ((∀ x ∈ xs, ∃ y r, x = .tup (y :: r)) ∨ ∀ x ∈ xs, x ≠ .non ∧ ∀ ys, x ≠ .tup ys) := by
  unfold sortOk at h
  simp only [Bool.and_eq_true, List.all_eq_true, Bool.or_eq_true] at h
  obtain ⟨h1, h2⟩ := h
  refine ⟨fun x hx => (h1 x hx).1, fun x hx y hy => (h1 x hx).2 y hy, h2.imp (fun h x hx => ?_) fun h x hx => ?_⟩
  · have := h x hx
    unfold isTupC at this
    split at this
    · exact ⟨_, _, rfl⟩
    · cases this
  · have := h x hx
    refine ⟨fun z => ?_, fun ys z => ?_⟩
    · subst z; exact absurd this.1 (by decide)
    · subst z; exact absurd this.2 (by simp [isTup0])
theorem toD_tup {x y : PV} {r : List PV} (h : x = .tup (y :: r)) : ∃ a b, toD x = .tuple (a :: b) := by
  subst h
  exact ⟨toD y, toDs r, by rw [toD, toDs]⟩
theorem toD_oth {x : PV} (d : PV.isD x = true) (h : x ≠ .non ∧ ∀ ys, x ≠ .tup ys) : toD x ≠ .none ∧ ∀ xs, toD x ≠ .tuple xs := by
  cases x with
  | non => exact absurd rfl h.1
  | tup ys => exact absurd rfl (h.2 ys)
  | bl b => rw [toD]; exact ⟨nofun, nofun⟩
  | int b => rw [toD]; exact ⟨nofun, nofun⟩
  | str b => rw [toD]; exact ⟨nofun, nofun⟩
  | lst b => rw [toD]; exact ⟨nofun, nofun⟩
  | _ => simp [PV.isD] at d
/-- sorted(list) makes a new list -/
def rSt (L : Lay) : List V → Hp → VK → Prop := fun vs H Q => ∃ μ a xs ws, vs = [.ref a] ∧ Rd H a (.lst ws) ∧ Reps L H μ xs ws ∧ sortOk xs = true ∧ ∀ p ws', H p = none → Reps L H μ (sortBy PV.lt xs) ws' → Q (.ref p) (upd H p (.lst ws'))
theorem cr_sort (hK : X.K = L.K) (hu : X.A.units + 65 < cLine) : CallR X (.builtin "sorted") (rSt L) := by
  intro pins s σ H vs us Q I r h
  obtain ⟨μ, a, xs, ws, rfl, hl, rw', ok, q⟩ := h
  obtain ⟨u, rfl, ru⟩ := r.one
  cases ru
  obtain ⟨d, al, sb⟩ := sortOk_inv ok
  obtain ⟨z, its, n, rv, hlen, e⟩ := I.rdL hl
  obtain ⟨e1, e2⟩ := zip_each hK I rw' rv d
  have hm := zip_mem rw'
  have hf : (xs.zip ws).map Prod.fst = xs := by rw [List.map_fst_zip (Nat.le_of_eq rw'.length)]
  have hb : (xs.zip ws).length = xs.length := by rw [List.length_zip, ← rw'.length]; omega
  refine PySem.W.sorted_data (enc := fun b : PV × V => toD b.1) (R := fun v (b : PV × V) => RelV b.2 v) (vs := its) ⟨_, e, rfl, n, rfl⟩ e1 e2 ?_ ?_ ?_ ?_ fun out ho hE => ?_
  · intro p hp p' hp'
    obtain ⟨b, hb, rfl⟩ := List.mem_map.mp hp
    obtain ⟨b', hb', rfl⟩ := List.mem_map.mp hp'
    exact alike_toD _ _ (al _ (hm b hb).2 _ (hm b' hb').2)
  · refine sb.imp (fun h p hp => ?_) fun h p hp => ?_
    · obtain ⟨b, hb, rfl⟩ := List.mem_map.mp hp
      obtain ⟨y, r, e⟩ := h _ (hm b hb).2
      exact toD_tup e
    · obtain ⟨b, hb, rfl⟩ := List.mem_map.mp hp
      exact toD_oth (isD_of (d _ (hm b hb).2)) (h _ (hm b hb).2)
  · rw [hb, rw'.length]; exact z
  · intro b hb
    have := depth_of (d _ (hm b hb).2)
    show X.A.units + 2 + (toD b.1).depth < cLine
    omega
  · obtain ⟨ep, he'⟩ := PyProof.Rows.sortedAll_at s.heap its out.toArray
    have hv := each_vals hE
    have hs : ((xs.zip ws).mergeSort (PySem.W.dataLe false fun b : PV × V => toD b.1)).map (·.1) = sortBy PV.lt xs := by
      unfold sortBy
      rw [List.map_mergeSort (s := fun a b => !PV.lt b a) (f := fun b : PV × V => b.1), hf]
      intro b hb c hc
      rw [PySem.W.dataLe_eq]
      show (!PySem.W.dataLt (toD c.1) (toD b.1)) = _
      rw [lt_toD _ _ (isD_of (d _ (hm c hc).2)) (isD_of (d _ (hm b hb).2)) (al _ (hm c hc).2 _ (hm b hb).2)]
    have hr : Reps L H μ (sortBy PV.lt xs) (((xs.zip ws).mergeSort (PySem.W.dataLe false fun b : PV × V => toD b.1)).map (·.2)) := by
      rw [← hs]
      exact reps_of_mem fun b hb => (hm b (List.mem_mergeSort.mp hb)).1
    refine ⟨.ref _, upd H (s.heap.objs.size + 1) (.lst _), I.laid (t' := s.toks) (fun _ _ => PyProof.Rows.sortedAll_old) (Nat.le_succ _) ⟨?_, out, ep, hv, he'⟩, rfl, q _ _ (I.hok.fresh (Nat.le_succ _)) hr⟩
    rw [List.length_map, List.length_mergeSort, hb, rw'.length]; exact z
end
end MP
namespace MP
open PySem PySem.Spec PyProof.Rows L2

/-! ### sorted(.., key=f): f's calls under an invariant of one's own -/
section
variable {prog : Program} {w : World} {A : Around} {E : Value → Shared → Prop} {s : Shared} {D kS : Addr} {b : Bool} {vs : List Value} {e1 : Nat} {R : PySem.Fin → Shared → Prop} {f : Value}
/-- the turns; J i ks: what holds behind i of them, the keys being ks -/
theorem key_turns (J : Nat → Array Value → Shared → Prop) (hz : vs.length ≤ sizeLine) (start : J 0 #[] s)
    (turn : ∀ (i : Nat) (v : Value) (ks : Array Value) (s' : Shared), vs[i]? = some v → ks.size = i → J i ks s' → wpAny (model prog w) A (call f [v]) (fun k s2 => (∃ e, s2.heap.get? kS = some (seqObj "list" ks e)) ∧
      ∀ (h' : Heap) (c : Nat), Heap.SameBut kS s2.heap h' → h'.get? kS = some (seqObj "list" (ks.push k) c) → J (i + 1) (ks.push k) { s2 with heap := h' }) (fun _ _ => False) s')
    (done : ∀ (ks : Array Value) (s' : Shared), ks.size = vs.length → J vs.length ks s' → (∃ e, s'.heap.get? kS = some (seqObj "list" ks e)) ∧ wpAny (model prog w) A (PyProof.Rows.ksk_end D b vs.toArray e1 (.ref kS) ks) R E s') :
    wpAny (model prog w) A (PyProof.Rows.ksk_rest D f b vs.toArray e1 (.ref kS)) R E s := by
  unfold PyProof.Rows.ksk_rest
  refine wpAny_bind (wpAny_rule ?_)
  first
    | rw [List.forIn_toArray]
    | (rw [← Array.forIn_toList]; simp only [List.toList_toArray])
    | rw [← Array.forIn_toList]
  refine wpAny_bind (PyProof.Rows.ksk_fold (fun i s' => ∃ ks : Array Value, ks.size = i ∧ J i ks s') vs 0 s ⟨#[], rfl, start⟩ (fun j x s' hx h => ?_) fun s' h => ?_)
  · rw [Nat.zero_add] at h
    obtain ⟨ks, hk, hJ⟩ := h
    have hj : j < vs.length := (List.getElem?_eq_some_iff.mp hx).1
    refine wpAny_bind (wpAny_attempt (wpAny_mono (turn j x ks s' hx hk hJ) (fun k s2 q => ?_) fun _ _ no => no.elim))
    obtain ⟨⟨e, q1⟩, q2⟩ := q
    dsimp only
    obtain ⟨c, hc⟩ : ∃ c, (s2.heap.update kS (Obj.mapSeq (·.push k))).get? kS = some (seqObj "list" (ks.push k) c) := ⟨_, get?_update_seq q1 (·.push k)⟩
    refine wpAny_bind (listUpdate_at q1 rfl ?_ (by omega) (by rw [Array.size_push]; omega))
    exact wpAny_pure ⟨rfl, ks.push k, by rw [Array.size_push, hk]; omega, by rw [Nat.zero_add]; exact q2 _ c (Heap.SameBut.update s2.heap kS _) hc⟩
  · rw [Nat.zero_add] at h
    obtain ⟨ks, hk, hJ⟩ := h
    obtain ⟨⟨e, q⟩, q2⟩ := done ks s' hk hJ
    try dsimp only
    exact wpAny_bind (listItems_at q rfl q2)
/-- the whole of it: D the new list -/
theorem sorted_key {l : Addr} {kw : List (Str × Value)} {Q : Value → Shared → Prop} (hl : s.heap.IsList l vs.toArray) (hz : vs.length ≤ sizeLine) (ha1 : argsOk "sorted" ⟨[.ref l], kw⟩) (ha2 : ∀ x, argsOk "list.sort" ⟨[.ref x], kw⟩)
    (ht : ∀ x, Builtin.«list.sort» ⟨[.ref x], kw⟩ = PyProof.Rows.ksk_tree x f b)
    (body : ∀ (D kS : Addr) (e1 : Nat) (h1 : Heap), s.heap.objs.size ≤ D → s.heap.objs.size ≤ kS → kS ≠ D → (∀ c o, s.heap.get? c = some o → h1.get? c = some o) → h1.get? D = some (seqObj "list" #[] e1) → h1.get? kS = some (seqObj "list" #[] 0) →
      ∀ E' : Value → Shared → Prop, wpAny (model prog w) A.in1.in1 (PyProof.Rows.ksk_rest D f b vs.toArray e1 (.ref kS)) (fun r s' => r = .done (.ret .none) ∧ Q (.ref D) s') E' { s with heap := h1 }) :
    wpAny (model prog w) A (call (.builtin "sorted") [.ref l] kw) Q E s := by
  refine PySem.W.sorted_of_sort hl hz ha1 ha2 fun E' => ?_
  rw [ht]
  have h0 : (PySem.W.copyHeap s.heap vs).get? (s.heap.objs.size + 1) = some (seqObj "list" vs.toArray 0) := PySem.W.copyHeap_at s.heap vs
  have hD : s.heap.objs.size + 1 < (PySem.W.copyHeap s.heap vs).objs.size := Heap.lt_size h0
  obtain ⟨e1, he⟩ : ∃ e1, ((PySem.W.copyHeap s.heap vs).update (s.heap.objs.size + 1) (Obj.mapSeq fun _ => (#[] : Array Value))).get? (s.heap.objs.size + 1) = some (seqObj "list" #[] e1) := ⟨_, get?_update_seq h0 fun _ => #[]⟩
  unfold PyProof.Rows.ksk_tree
  refine wpAny_bind (listItems_at (s := { s with heap := PySem.W.copyHeap s.heap vs }) h0 rfl ?_)
  refine wpAny_bind (listUpdate_at (s := { s with heap := PySem.W.copyHeap s.heap vs }) h0 rfl ?_ (by rw [List.size_toArray]; exact hz) (Nat.zero_le _))
  refine wpAny_bind (seqEpoch_at he rfl ?_)
  refine wpAny_bind (wpAny_newTuple ?_ (by show vs.length ≤ _; exact hz))
  refine wpAny_bind (wpAny_newList ?_ (Nat.zero_le _))
  refine wpAny_holding ?_
  have sz : (((PySem.W.copyHeap s.heap vs).update (s.heap.objs.size + 1) (Obj.mapSeq fun _ => (#[] : Array Value))).push (seqObj "tuple" vs.toArray 0)).objs.size = (PySem.W.copyHeap s.heap vs).objs.size + 1 := by rw [size_push', Heap.size_update]
  refine body (s.heap.objs.size + 1) (((PySem.W.copyHeap s.heap vs).update (s.heap.objs.size + 1) (Obj.mapSeq fun _ => (#[] : Array Value))).push (seqObj "tuple" vs.toArray 0)).objs.size e1 ((((PySem.W.copyHeap s.heap vs).update (s.heap.objs.size + 1) (Obj.mapSeq fun _ => (#[] : Array Value))).push (seqObj "tuple" vs.toArray 0)).push (seqObj "list" #[] 0)) (Nat.le_succ _) ?_ ?_ (fun c o q => ?_) ?_ (Heap.get?_push_size _ rfl) E'
  · rw [sz]; omega
  · exact Nat.ne_of_gt (by rw [sz]; omega)
  · refine Heap.get?_push_of_some _ (Heap.get?_push_of_some _ ?_)
    exact ((Heap.SameBut.update (PySem.W.copyHeap s.heap vs) (s.heap.objs.size + 1) (Obj.mapSeq fun _ => (#[] : Array Value))).2 c (Nat.ne_of_lt (Nat.lt_succ_of_lt (Heap.lt_size q)))).trans (PySem.W.copyHeap_old q)
  · exact Heap.get?_push_of_some _ (Heap.get?_push_of_some _ he)
end
end MP
namespace MP
open PySem PySem.Spec PyProof.Rows L2 LamX

/-! ### a lambda without names of the outer def -/
def lamOf (q : Str) (params : Arguments) (body : Expr) (scope : Scope) (pm : Value) (c' : Addr) (ctv : Value) : Obj := PySem.W.kla_obj "<lambda>" q params body scope [] pm c' ctv
def LamO (f : Addr) (o : Obj) : HO := .ext fun h => h.get? f = some o
theorem lamO_ok {P : Program} {w : World} {H : Hp} {h : Heap} {f : Addr} {o : Obj} (e : h.get? f = some o) : ObjOk P w H h f (LamO f o) := ⟨e, ⟨o, e⟩, fun _ _ p st => st _ p⟩
theorem clo_none (cells : List (Str × Addr)) : ∀ (names : List (Str × NameKind)) (acc : List (Str × Addr)), (∀ y ∈ names, y.2 ≠ .free) → cloFrom cells names acc = acc
  | [], _, _ => rfl
  | (x, k) :: r, acc, h => by
    have hk : (k == NameKind.free) = false := by
      have := h (x, k) List.mem_cons_self
      cases k <;> first | rfl | exact absurd rfl this
    show (if k == .free then _ else cloFrom cells r acc) = acc
    rw [hk]
    exact clo_none cells r acc fun y hy => h y (List.mem_cons_of_mem _ hy)
section
variable {X : Cx} {pins : List (Addr × Obj)} {σ : L2.St} {H : Hp} {s : Shared}
theorem lam_mk {c P : Addr} {q : Str} {params : Arguments} {body : Expr} {scope : Scope} {pos : Pos} {E : Value → Shared → Prop} {Q : Value → Shared → Prop} (I : Inv X pins σ H s) (TB : TabB X.base X.mg c P) (hcode : X.env.code = .ref c) (hq : X.env.qual ++ "<lambda>" = q)
    {hl μ : List Addr} (hT : TabRep hl H μ P q) (hμ : ∀ a, H a = none → a ∉ μ ∧ a ∉ hl) (hdef : defaultsOf params X.env = ([], [])) (hfree : ∀ y ∈ scope.names, y.2 ≠ .free)
    (h : ∀ (f c' : Addr) (pm ctv : Value) (H1 : Hp) (s' : Shared), Inv X pins σ H1 s' → H f = none → f ≠ P → (∀ a o, H a = some o → a ≠ P → H1 a = some o) → TabRep hl H1 μ P q →
      H1 f = some (LamO f (lamOf q params body scope pm c' ctv)) → H1 c' = some (CodeO c' q) → c' ∉ μ → Q (.ref f) s') :
    wpAny (model X.prog X.w) X.A (eval (.Lambda params body scope pos) X.env) Q E s := by
  obtain ⟨ps, hP, ht, ha⟩ := hT
  refine PySem.W.kla_eval hdef ?_
  rw [hq]
  have bP : s.heap.BuiltinsAt X.mg P := TB.bm.keeps I.bk
  have hP' : s.heap.get? P = some { cls := .none, data := .fields ps } := I.hok P _ hP
  have hcl : cloFrom X.env.cells scope.names [] = [] := clo_none _ _ _ hfree
  have hcl2 := closure_ok (env := X.env) (scope := scope) fun y hy e => absurd e (hfree y hy)
  rw [hcl] at hcl2
  cases hc : codeAmong pos ps.toList with
  | none =>
    refine PySem.W.kla_makeFunction (mg := X.mg) (c := c) (P := P) (ps := ps) hcl2 I.ok.glob (I.mod.glob.keeps I.bk) hcode (TB.code.keeps I.bk) hP' ht hc TB.gP bP fun c' ctv h' tk hx hge hlt hrec htb => ?_
    obtain ⟨c2, oc, vs, t, e2, hoc, hd, hv⟩ := hrec
    cases e2
    have nC : H c' = none := I.hok.fresh hge
    have J := inv_table (t' := tk) (more := #[rawInt pos.line, rawInt pos.col, .ref c']) I hP hx htb hge ⟨oc, vs, t, hoc, hd, hv⟩
    have nPc : P ≠ c' := ne_of_none hP nC
    have szf : s.heap.objs.size ≤ h'.objs.size := Nat.le_trans hge (Nat.le_of_lt hlt)
    have nF : H h'.objs.size = none := I.hok.fresh szf
    have nPf : P ≠ h'.objs.size := ne_of_none hP nF
    have nfc : h'.objs.size ≠ c' := Nat.ne_of_gt hlt
    have J2 := Inv.laid (a := h'.objs.size) (o := LamO h'.objs.size (lamOf q params body scope ((X.mg "__name__").getD .none) c' ctv)) (t' := tk) J (fun b u e => Heap.get?_push_of_some (lamOf q params body scope ((X.mg "__name__").getD .none) c' ctv) e) (Nat.le_refl _) (lamO_ok (Heap.get?_push_size _ rfl))
    have keep : ∀ a o, H a = some o → a ≠ P → (upd (upd (upd H P (.tbl (ps ++ #[rawInt pos.line, rawInt pos.col, .ref c']))) c' (CodeO c' q)) h'.objs.size (LamO h'.objs.size (lamOf q params body scope ((X.mg "__name__").getD .none) c' ctv))) a = some o := fun a o e n => by
      rw [upd_ne (ne_of_none e nF), upd_ne (ne_of_none e nC), upd_ne n]; exact e
    refine h h'.objs.size c' _ ctv _ _ J2 nF nPf.symm keep ⟨_, by rw [upd_ne nPf, upd_ne nPc, upd_same], ?_, fun p' cv hcv => ?_⟩ upd_same (by rw [upd_ne nfc.symm, upd_same]) (hμ c' nC).1
    · have eL : (ps ++ #[rawInt pos.line, rawInt pos.col, .ref c']).toList = ps.toList ++ [rawInt pos.line, rawInt pos.col, .ref c'] := by simp
      rw [eL]
      exact PySem.TriplesOk_snoc _ _ _ _ ht
    · have eL : (ps ++ #[rawInt pos.line, rawInt pos.col, .ref c']).toList = ps.toList ++ [rawInt pos.line, rawInt pos.col, .ref c'] := by simp
      rw [eL] at hcv
      rcases among_app _ ht hcv with z | z
      · obtain ⟨c0, e1, e2, m1, m2⟩ := ha p' cv z
        refine ⟨c0, e1, keep _ _ e2 fun z2 => ?_, m1, m2⟩
        rw [z2, hP] at e2
        exact codeO_ne ps (Option.some.inj e2).symm
      · exact ⟨c', z, by rw [upd_ne nfc.symm, upd_same], hμ c' nC⟩
  | some cv =>
    obtain ⟨c', e, hco, m1, m2⟩ := ha pos cv hc
    subst e
    refine PySem.W.kla_makeFunctionHit (mg := X.mg) (c := c) (P := P) (ps := ps) hcl2 I.ok.glob (I.mod.glob.keeps I.bk) hcode (TB.code.keeps I.bk) hP' ht hc bP fun ctv h' tk hx hsz => ?_
    have nF : H h'.objs.size = none := I.hok.fresh hsz
    have nPf : P ≠ h'.objs.size := ne_of_none hP nF
    have J := Inv.laid (a := h'.objs.size) (h' := h'.push (lamOf q params body scope ((X.mg "__name__").getD .none) c' ctv)) (o := LamO h'.objs.size (lamOf q params body scope ((X.mg "__name__").getD .none) c' ctv)) (t' := tk) I (fun b u e => Heap.get?_push_of_some _ (hx b u e)) hsz (lamO_ok (Heap.get?_push_size _ rfl))
    have keep : ∀ a o, H a = some o → (upd H h'.objs.size (LamO h'.objs.size (lamOf q params body scope ((X.mg "__name__").getD .none) c' ctv))) a = some o := fun a o e => by
      rw [upd_ne (ne_of_none e nF)]; exact e
    refine h h'.objs.size c' _ ctv _ _ J nF nPf.symm (fun a o e _ => keep a o e) ⟨ps, keep _ _ hP, ht, fun p' cv hcv => ?_⟩ upd_same (keep _ _ hco) m1
    obtain ⟨c0, e1, e2, n1, n2⟩ := ha p' cv hcv
    exact ⟨c0, e1, keep _ _ e2, n1, n2⟩
/-- the lambda called with one value -/
theorem lam_call {A' : Around} {k : Nat} {f c' : Addr} {q a : Str} {params : Arguments} {body : Expr} {scope : Scope} {pm ctv u : Value} {v : V} {t : TE} {Q : VK} {E : XK} (I : Inv X pins σ H s) (e0 : Env0 X.prog X.w X.K X.mg X.base A' X.stack s H) (hr : Room (k + 1) A')
    (hf : H f = some (LamO f (lamOf q params body scope pm c' ctv))) (hc : H c' = some (CodeO c' q)) (S : FnScope [a] [a] scope) (hb : ∀ fd : FuncData, fd.params = params → fd.defaults = .none → fd.kwdefaults = .none → fd.qualname = q → ∀ u, bindArgs fd ⟨[u], []⟩ = pure [(a, u)]) (rv : RelV v u)
    (hbody : PE (cxOf noX X.prog X.w X.K X.mg X.base [a] q scope f (.ref c') A' X.stack s H E) body t) (ht : t (L2.start [a] [v]) H Q) :
    wpAny (model X.prog X.w) A' (call (.ref f) [u]) (EP X pins σ Q) (fun _ _ => False) s := by
  obtain ⟨of, _, _⟩ := I.hok f _ hf
  obtain ⟨⟨oc, vs, t0, hoc, hdc, hvc⟩, _, _⟩ := I.hok c' _ hc
  have kinds : ∀ y ∈ [a].zip [u], scope.names.lookup y.1 = some .local ∨ (scope.names.lookup y.1 = some .cell ∧ ((cellsFrom (s.heap.objs.size + 1) scope.names []).lookup y.1).isSome = true) := by
    intro y hy
    have : y.1 = a := by simp at hy; rw [hy]
    rw [this]
    exact (S.par a List.mem_cons_self).imp id fun q => ⟨q, PySem.W.cellsFrom_some _ _ _ (.inl q)⟩
  have run : codeAny (model X.prog X.w) A' (.call (.ref f) ⟨[u], []⟩) (CR noX X.stack X.prog X.w H s Q E) s := by
    refine PySem.W.kla_callFunE hr.depth of rfl S.co S.gen rfl ⟨c', oc, vs, t0, rfl, hoc, hdc, hvc⟩ ?_
    rw [hb _ rfl rfl rfl rfl]
    refine wpAny_pure (wpAny_newFunctionEnv_cells S.kind kinds fun env he s1 y => ?_)
    cases he
    have keep := fun (b : Addr) (o : Obj) (e : X.base.get? b = some o) => (e0.bs b o e).1
    refine ⟨(e0.mod.nolimit.keeps keep).keeps y.toInCall.keep, ?_⟩
    have J : Inv (cxOf noX X.prog X.w X.K X.mg X.base [a] q scope f (.ref c') A' X.stack s H E) [] (L2.start [a] [v]) H s1 := inv_start S hr.hd e0 rfl (.cons rv .nil) y
    refine PySem.W.kla_codeExpr (wpAny_mono (hbody.run [] _ _ H Q J ht) (fun v' s' hq => ?_) fun e s' hq => hq)
    obtain ⟨w', H', J', rv', q'⟩ := hq
    exact ⟨w', H', J'.os, J'.bare, J'.base, J'.hok, rv', q'⟩
  refine wpAny_call (codeAny_mono run fun r s' hq => ?_)
  cases r with
  | error e => exact hq
  | ok fl =>
    cases fl with
    | ret u => exact I.after hq
    | next => exact False.elim hq
    | brk => exact False.elim hq
    | cont => exact False.elim hq
end
end MP
namespace MP
open PySem PySem.Spec PyProof.Rows L2 LamX

/-! ### sorted(xs, key=lambda x: ..) -/
def ArrO (a : Addr) (ks : Array Value) : HO := .ext fun h => ∃ e, h.get? a = some (seqObj "list" ks e)
theorem arrO_ok {P : Program} {w : World} {H : Hp} {h : Heap} {a : Addr} {ks : Array Value} {e : Nat} (q : h.get? a = some (seqObj "list" ks e)) : ObjOk P w H h a (ArrO a ks) := ⟨⟨e, q⟩, ⟨_, q⟩, fun _ _ ⟨e, p⟩ st => ⟨e, st _ p⟩⟩
section
variable {L : Lay}
theorem start_rep {h : List Addr} {H : Hp} {μ : List Addr} {st : Store} {N : List Str} {pvs : List PV} {vs : List V} (S : StoreRep (L.wh h) H μ st) (r : Reps (L.wh h) H μ pvs vs) (hl : vs.length ≤ N.length) :
    SR (L.wh h) μ (pvs.map some ++ List.replicate (N.length - pvs.length) none) st (L2.start N vs) H := by
  refine ⟨fun i v e => ?_, ?_, S⟩
  · by_cases hi : i < pvs.length
    · rw [List.getElem?_append_left (by simpa using hi), List.getElem?_map] at e
      cases hv : pvs[i]? with
      | none => rw [hv] at e; cases e
      | some w =>
        rw [hv] at e
        cases e
        obtain ⟨x, hx, rx⟩ := r.get hv
        refine ⟨x, ?_, rx⟩
        unfold L2.start
        rw [List.getElem?_append_left (by rw [List.length_map, ← r.length]; exact hi), List.getElem?_map, hx]; rfl
    · rw [List.getElem?_append_right (by simpa using hi), List.getElem?_replicate] at e
      split at e <;> cases e
  · unfold L2.start
    rw [List.length_append, List.length_append, List.length_map, List.length_map, List.length_replicate, List.length_replicate, r.length]
end
/-- the keys of the items, one after another -/
def KeysOk (P : Prog) (cf : Nat → List PV → Store → Res PV) (ik : IE) (st : Store) : List PV → List PV → Prop
  | [], ks => ks = []
  | x :: xs, ks => ∃ y r, ks = y :: r ∧ evalE P cf ik [some x] st = .ok y st ∧ KeysOk P cf ik st xs r
section
variable {P : Prog} {cf : Nat → List PV → Store → Res PV} {ik : IE} {st : Store}
theorem KeysOk.get : ∀ {xs ks : List PV} {i : Nat} {x : PV}, KeysOk P cf ik st xs ks → xs[i]? = some x → ∃ y, ks[i]? = some y ∧ evalE P cf ik [some x] st = .ok y st
  | [], _, _, _, _, e => by simp at e
  | z :: xs, ks, i, x, h, e => by
    obtain ⟨y, r, rfl, h1, h2⟩ := h
    cases i with
    | zero => simp at e; subst e; exact ⟨y, rfl, h1⟩
    | succ i => simpa using h2.get (by simpa using e)
theorem KeysOk.length : ∀ {xs ks : List PV}, KeysOk P cf ik st xs ks → ks.length = xs.length
  | [], _, h => by rw [show _ = [] from h]
  | z :: xs, ks, h => by
    obtain ⟨y, r, rfl, h1, h2⟩ := h
    rw [List.length_cons, List.length_cons, h2.length]
theorem keys_of : ∀ {xs ks : List PV} {st' : Store}, compL (fun x st => (evalE P cf ik [some x] st).bind fun y st' => if st' = st then .ok (some y) st else .bad) (fun _ => true) xs st = .ok ks st' → st' = st ∧ KeysOk P cf ik st xs ks
  | [], ks, st', h => by rw [compL] at h; cases h; exact ⟨rfl, rfl⟩
  | x :: xs, ks, st', h => by
    rw [compL] at h
    obtain ⟨o, st1, e1, h1⟩ := Res.bind_eq_ok h
    obtain ⟨y, st2, e2, e3⟩ := Res.bind_eq_ok e1
    split at e3
    · rename_i hs
      have hs' := hs.symm
      subst hs'
      cases e3
      simp only [if_true] at h1
      obtain ⟨ys, st3, e4, h2⟩ := Res.bind_eq_ok h1
      obtain ⟨rfl, hk⟩ := keys_of e4
      cases h2
      exact ⟨rfl, y, ys, rfl, e2, hk⟩
    · cases e3
theorem sortk_inv {t : Nat} {ia : IE} {env : Env} {st0 st' : Store} {v : PV} (h : evalE P cf (.sortk t ia ik) env st0 = .ok v st') : ∃ x xs ks, evalE P cf ia env st0 = .ok x st' ∧ der st' x = .lst xs ∧ st'[t]? = some (.tbl t) ∧ KeysOk P cf ik st' xs ks ∧ sortOk ks = true ∧
    v = .lst ((sortBy (fun p q => PV.lt p.1 q.1) (ks.zip xs)).map Prod.snd) := by
  rw [evalE] at h
  obtain ⟨x, st1, e1, h1⟩ := Res.bind_eq_ok h
  split at h1
  · rename_i xs hx
    split at h1
    · rename_i ht
      obtain ⟨ks, st2, e2, h2⟩ := Res.bind_eq_ok h1
      obtain ⟨rfl, hk⟩ := keys_of e2
      split at h2
      · rename_i hs
        cases h2
        exact ⟨x, xs, ks, e1, hx, ht, hk, hs.1, rfl⟩
      · cases h2
    · cases h1
  · cases h1
end
section
variable {X : Cx} {pins : List (Addr × Obj)} {σ : L2.St} {H : Hp} {s : Shared}
/-- two new objects -/
theorem inv_two {D K : Addr} {o u : HO} {h1 : Heap} (I : Inv X pins σ H s) (hD : s.heap.objs.size ≤ D) (hK : s.heap.objs.size ≤ K) (hne : K ≠ D) (hx : ∀ c q, s.heap.get? c = some q → h1.get? c = some q)
    (o1 : ∀ H', ObjOk X.prog X.w H' h1 D o) (o2 : ∀ H', ObjOk X.prog X.w H' h1 K u) : Inv X pins σ (upd (upd H D o) K u) { s with heap := h1 } := by
  have nD : H D = none := I.hok.fresh hD
  have nK : H K = none := I.hok.fresh hK
  have old : ∀ b, b ≠ D → b ≠ K → upd (upd H D o) K u b = H b := fun b n m => by rw [upd_ne m, upd_ne n]
  have lt : ∀ b q, s.heap.get? b = some q → b ≠ D ∧ b ≠ K := fun b q e => ⟨Nat.ne_of_lt (Nat.lt_of_lt_of_le (Heap.lt_size e) hD), Nat.ne_of_lt (Nat.lt_of_lt_of_le (Heap.lt_size e) hK)⟩
  have sm : ∀ b q, H b = some q → upd (upd H D o) K u b = some q := fun b q e => by rw [old b (ne_of_none e nD) (ne_of_none e nK)]; exact e
  refine I.step (g' := s.gens) (d' := s.drawn) (t' := s.toks) (h' := h1) (ch := []) (fun b hb => absurd hb (by simp)) (fun b q _ _ _ e _ => hx b q e) (fun b q _ _ _ e _ => ⟨q.slots, hx b q e⟩) (fun b q _ e n => by rw [old b (lt b q e).1 (lt b q e).2]; exact n)
    (fun b q _ e => ⟨q, hx b q e⟩) (fun b xs e => sm _ _ e) (fun b q v e => sm _ _ e) (fun b ps e => ⟨#[], by rw [sm _ _ e]; simp⟩) (fun m ⟨ob, es, ep, ho, r⟩ => ⟨ob, es, ep, hx _ _ ho, r⟩) (fun b v e => ?_) I.bare
  by_cases h : b = K
  · subst h; rw [upd_same] at e; cases e; exact o2 _
  · by_cases h' : b = D
    · subst h'; rw [upd_ne h, upd_same] at e; cases e; exact o1 _
    · rw [old b h' h] at e
      exact (I.hok b v e).stay (fun c q _ e => hx c q e) (fun c e => sm _ _ e) fun c xs e => sm _ _ e
/-- a tracked object written by hand -/
theorem inv_put {K : Addr} {o u : HO} {h1 : Heap} (I : Inv X pins σ H s) (hK : H K = some o) (ho : (∀ xs, o ≠ .tup xs) ∧ (∀ q v, o ≠ .frz q v) ∧ (∀ ps, o ≠ .tbl ps) ∧ ∀ x, o ≠ .own x) (hs : Heap.SameBut K s.heap h1) (hz : ∃ q, h1.get? K = some q) (o2 : ∀ H', ObjOk X.prog X.w H' h1 K u) :
    Inv X pins σ (upd H K u) { s with heap := h1 } := by
  have hx : ∀ c q, c ≠ K → s.heap.get? c = some q → h1.get? c = some q := fun c q n e => (hs.2 c n).trans e
  have neK : ∀ b, H b = none → b ≠ K := fun b n z => by rw [z, hK] at n; cases n
  have sm : ∀ b q, H b = some q → q ≠ o → upd H K u b = some q := fun b q e n => by
    rw [upd_ne (fun z => n (by rw [z, hK] at e; exact (Option.some.inj e).symm))]; exact e
  refine I.step (g' := s.gens) (d' := s.drawn) (t' := s.toks) (h' := h1) (ch := []) (fun b hb => absurd hb (by simp)) (fun b q _ _ _ e n => hx b q (neK b n) e) (fun b q _ _ _ e n => ⟨q.slots, hx b q (neK b n) e⟩) (fun b q _ e n => by rw [upd_ne (neK b n)]; exact n)
    (fun b q _ e => ?_) (fun b xs e => sm _ _ e (ho.1 xs).symm) (fun b q v e => sm _ _ e (ho.2.1 q v).symm) (fun b ps e => ⟨#[], by rw [sm _ _ e (ho.2.2.1 ps).symm]; simp⟩) (fun m ⟨ob, es, ep, h0, r⟩ => ⟨ob, es, ep, hx _ _ (neK _ I.free) h0, r⟩) (fun b v e => ?_) I.bare
  · by_cases h : b = K
    · subst h; exact hz
    · exact ⟨q, hx b q h e⟩
  · by_cases h : b = K
    · subst h; rw [upd_same] at e; cases e; exact o2 _
    · rw [upd_ne h] at e
      refine (I.hok b v e).stay (fun c q hc e2 => hx c q ?_ e2) (fun c e2 => sm _ _ e2 (ho.2.2.2 b).symm) fun c xs e2 => sm _ _ e2 (ho.1 xs).symm
      rcases hc with rfl | hc
      · exact h
      · intro z; subst z; rw [hK] at hc; cases hc; exact ho.2.2.2 b rfl
/-- what a key's sorting ends with: D the new list, K dropped -/
theorem inv_end {D K : Addr} {o u : HO} {ys : List V} {out : List Value} {h1 : Heap} {c tk : Nat} (I : Inv X pins σ H s) (hD : H D = some o) (hK : H K = some u) (ho : (∀ xs, o ≠ .tup xs) ∧ (∀ q v, o ≠ .frz q v) ∧ (∀ ps, o ≠ .tbl ps) ∧ ∀ x, o ≠ .own x) (hu : (∀ xs, u ≠ .tup xs) ∧ (∀ q v, u ≠ .frz q v) ∧ (∀ ps, u ≠ .tbl ps) ∧ ∀ x, u ≠ .own x)
    (hne : K ≠ D) (hx : ∀ b q, b ≠ K → b ≠ D → s.heap.get? b = some q → h1.get? b = some q) (hd : h1.get? D = some (seqObj "list" out.toArray c)) (rv : Vals ys out) (hz : ys.length ≤ sizeLine)
    (hch : X.s_0.heap.objs.size ≤ K ∧ K ≠ X.env.locals ∧ (∀ x c, X.env.cells.lookup x = some c → c ≠ K) ∧ ∀ p ∈ X.pn ++ pins, p.1 ≠ K) :
    Inv X pins σ (fun b => if b = K then none else upd H D (.lst ys) b) { s with heap := h1, toks := tk } := by
  have neK : ∀ b, H b = none → b ≠ K := fun b n z => by rw [z, hK] at n; cases n
  have neD : ∀ b, H b = none → b ≠ D := fun b n z => by rw [z, hD] at n; cases n
  have sm : ∀ b q, H b = some q → q ≠ o → q ≠ u → (fun b => if b = K then none else upd H D (.lst ys) b) b = some q := fun b q e n m => by
    have h1 : b ≠ K := fun z => m (by rw [z, hK] at e; exact (Option.some.inj e).symm)
    have h2 : b ≠ D := fun z => n (by rw [z, hD] at e; exact (Option.some.inj e).symm)
    show (if b = K then none else upd H D (.lst ys) b) = some q
    rw [if_neg h1, upd_ne h2]; exact e
  refine I.step (g' := s.gens) (d' := s.drawn) (t' := tk) (h' := h1) (ch := [K]) (fun b hb => ?_) (fun b q _ _ _ e n => hx b q (neK b n) (neD b n) e) (fun b q _ _ _ e n => ⟨q.slots, hx b q (neK b n) (neD b n) e⟩) (fun b q _ e n => ?_)
    (fun b q hb e => ?_) (fun b xs e => sm _ _ e (ho.1 xs).symm (hu.1 xs).symm) (fun b q v e => sm _ _ e (ho.2.1 q v).symm (hu.2.1 q v).symm) (fun b ps e => ⟨#[], by rw [Array.append_empty]; exact sm _ _ e (ho.2.2.1 ps).symm (hu.2.2.1 ps).symm⟩) (fun m ⟨ob, es, ep, h0, r⟩ => ⟨ob, es, ep, hx _ _ (neK _ I.free) (neD _ I.free) h0, r⟩) (fun b v e => ?_) I.bare
  · rw [List.mem_singleton.mp hb]
    exact ⟨.inr hch.1, hch.2⟩
  · show (if b = K then none else upd H D (.lst ys) b) = none
    rw [if_neg (neK b n), upd_ne (neD b n)]; exact n
  · by_cases h : b = D
    · subst h; exact ⟨_, hd⟩
    · exact ⟨q, hx b q (by simpa using hb) h e⟩
  · have e : (if b = K then none else upd H D (.lst ys) b) = some v := e
    by_cases h : b = K
    · rw [if_pos h] at e; cases e
    · rw [if_neg h] at e
      by_cases h2 : b = D
      · subst h2; rw [upd_same] at e; cases e
        exact ⟨hz, out, c, rv, hd⟩
      · rw [upd_ne h2] at e
        refine (I.hok b v e).stay (fun c q hc e2 => ?_) (fun c e2 => sm _ _ e2 (ho.2.2.2 b).symm (hu.2.2.2 b).symm) fun c xs e2 => sm _ _ e2 (ho.1 xs).symm (hu.1 xs).symm
        rcases hc with rfl | hc
        · exact hx _ _ h h2 e2
        · refine hx _ _ (fun z => ?_) (fun z => ?_) e2
          · subst z; rw [hK] at hc; cases hc; exact hu.2.2.2 b rfl
          · subst z; rw [hD] at hc; cases hc; exact ho.2.2.2 b rfl
theorem ext_no {φ : Heap → Prop} : (∀ xs, HO.ext φ ≠ .tup xs) ∧ (∀ q v, HO.ext φ ≠ .frz q v) ∧ (∀ ps, HO.ext φ ≠ .tbl ps) ∧ ∀ x, HO.ext φ ≠ .own x := ⟨fun _ h => (nomatch h), fun _ _ h => (nomatch h), fun _ h => (nomatch h), fun _ h => (nomatch h)⟩
end
end MP
namespace MP
open PySem PySem.Spec PyProof.Rows L2 LamX
theorem Reps.mono_take {L : Lay} {H : Hp} {μ : List Addr} {xs : List PV} {vs : List V} {i : Nat} {x : PV} {v : V} (r : Reps L H μ (xs.take i) vs) (h : xs[i]? = some x) (q : Rep L H μ x v) : Reps L H μ (xs.take (i + 1)) (vs ++ [v]) := by
  have : xs.take (i + 1) = xs.take i ++ [x] := by rw [List.take_add_one, h]; rfl
  rw [this]
  exact r.append (.cons q .nil)
theorem vals_get : ∀ {vs : List V} {us : List Value} {i : Nat} {u : Value}, Vals vs us → us[i]? = some u → ∃ v, vs[i]? = some v ∧ RelV v u
  | _, _, i, u, .nil, e => by simp at e
  | _, _, i, u, .cons h t, e => by
    cases i with
    | zero => simp at e; subst e; exact ⟨_, rfl, h⟩
    | succ i => simpa using vals_get t (by simpa using e)
section
variable {X : Cx} {L : Lay} {P : Prog} {cf : Nat → List PV → Store → Res PV} {ik : IE} {t : Nat}
theorem StoreRep.hput {st : Store} {H : Hp} {μ : List Addr} {D : Addr} {o : HO} (S : StoreRep L H μ st) (hD : D ∈ L.hid) : StoreRep L (upd H D o) μ st :=
  S.chg (h' := L.hid) (hset_k hD) (fun a ha => upd_ne fun z => (S.hd D hD).1 (z ▸ ha)) fun a ha => by
    by_cases z : a = D
    · subst z; exact ⟨(S.hd a ha).1, o, upd_same⟩
    · rw [upd_ne z]; exact S.hd a ha
/-- three lists side by side -/
def tri (ks xs : List PV) (ws : List V) : List (PV × PV × V) := ks.zip (xs.zip ws)
theorem tri_each : ∀ {xs : List PV} {ks : List PV} {ws : List V} {us : List Value}, Vals ws us → ks.length = xs.length → xs.length = ws.length → PySem.W.EachIs (fun v (b : PV × PV × V) => RelV b.2.2 v) us (tri ks xs ws)
  | [], [], [], [], .nil, _, _ => .nil
  | x :: xs, k :: ks, w :: ws, u :: us, .cons h t, h1, h2 => .cons h (tri_each t (by simpa using h1) (by simpa using h2))
  | [], _ :: _, _, _, _, h, _ => by simp at h
  | _ :: _, [], _, _, _, h, _ => by simp at h
  | [], [], _ :: _, _, _, _, h => by simp at h
  | _ :: _, _ :: _, [], _, _, _, h => by simp at h
theorem each_vals3 : ∀ {bs : List (PV × PV × V)} {us : List Value}, PySem.W.EachIs (fun v (b : PV × PV × V) => RelV b.2.2 v) us bs → Vals (bs.map (·.2.2)) us
  | _, _, .nil => .nil
  | _, _, .cons h t => .cons h (each_vals3 t)
theorem tri_key : ∀ {xs ks : List PV} {ws : List V}, ks.length = xs.length → xs.length = ws.length → (tri ks xs ws).map (fun b => b.1) = ks
  | [], [], [], _, _ => rfl
  | x :: xs, k :: ks, w :: ws, h1, h2 => by
    show k :: (tri ks xs ws).map _ = _
    rw [tri_key (by simpa using h1) (by simpa using h2)]
  | [], _ :: _, _, h, _ => by simp at h
  | _ :: _, [], _, h, _ => by simp at h
  | [], [], _ :: _, _, h => by simp at h
  | _ :: _, _ :: _, [], _, h => by simp at h
theorem tri_pair : ∀ {xs ks : List PV} {ws : List V}, ks.length = xs.length → xs.length = ws.length → (tri ks xs ws).map (fun b => (b.1, b.2.1)) = ks.zip xs
  | [], [], [], _, _ => rfl
  | x :: xs, k :: ks, w :: ws, h1, h2 => by
    show (k, x) :: (tri ks xs ws).map _ = (k, x) :: _
    rw [tri_pair (by simpa using h1) (by simpa using h2)]; rfl
  | [], _ :: _, _, h, _ => by simp at h
  | _ :: _, [], _, h, _ => by simp at h
  | [], [], _ :: _, _, h => by simp at h
  | _ :: _, _ :: _, [], _, h => by simp at h
theorem tri_mem {H : Hp} {μ : List Addr} : ∀ {xs ks : List PV} {ws : List V}, Reps L H μ xs ws → ∀ b ∈ tri ks xs ws, b.1 ∈ ks ∧ Rep L H μ b.2.1 b.2.2 := by
  intro xs ks ws r b hb
  have h := List.of_mem_zip (show (b.1, b.2) ∈ ks.zip (xs.zip ws) from hb)
  exact ⟨h.1, (zip_mem r b.2 h.2).1⟩
theorem reps_of_mem3 {H : Hp} {μ : List Addr} : ∀ {bs : List (PV × PV × V)}, (∀ b ∈ bs, Rep L H μ b.2.1 b.2.2) → Reps L H μ (bs.map (·.2.1)) (bs.map (·.2.2))
  | [], _ => .nil
  | b :: bs, h => .cons (h b List.mem_cons_self) (reps_of_mem3 fun c hc => h c (List.mem_cons_of_mem _ hc))
theorem keys_each (hK : X.K = L.K) {pins : List (Addr × Obj)} {σ : L2.St} {H : Hp} {s : Shared} {μ : List Addr} (I : Inv X pins σ H s) : ∀ {ks : List PV} {vs : List V} {us : List Value}, Reps L H μ ks vs → Vals vs us → (∀ k ∈ ks, depthOk k = true) →
    PySem.W.EachIs (fun v (d : PyData) => ∃ as, Reads s.heap v d as) us (ks.map toD)
  | [], vs, us, r, h, _ => by
    obtain rfl := r.of_nil
    cases h
    exact .nil
  | k :: ks, vs, us, r, h, d => by
    obtain ⟨v, vr, rfl, r1, r2⟩ := r.of_cons
    cases h with
    | cons h1 h2 =>
      have dk := d k List.mem_cons_self
      exact .cons (reads_of hK I (r1.dd (isD_of dk)) dk h1) (keys_each hK I r2 h2 fun y hy => d y (List.mem_cons_of_mem _ hy))
/-- sorted(l, key=f), f a lambda -/
def rKey (L : Lay) (P : Prog) (cf : Nat → List PV → Store → Res PV) (ik : IE) (q : Str) (params : Arguments) (body : Expr) (scope : Scope) : List V → List V → Hp → VK → Prop := fun vs zs H Q =>
  ∃ μ st l ws xs ks f c' pm ctv, vs = [.ref l] ∧ zs = [.ref f] ∧ Rd H l (.lst ws) ∧ StoreRep L H μ st ∧ Reps L H μ xs ws ∧ H f = some (LamO f (lamOf q params body scope pm c' ctv)) ∧ H c' = some (CodeO c' q) ∧ f ∉ μ ∧ c' ∉ μ ∧
    KeysOk P cf ik st xs ks ∧ sortOk ks = true ∧ ∀ μ' H' p ys, H p = none → StoreRep L H' μ' st → Ext μ H μ' H' → H' p = some (.lst ys) → p ∉ μ' → p ∉ L.hid → Reps L H' μ' ((sortBy (fun p q => PV.lt p.1 q.1) (ks.zip xs)).map Prod.snd) ys → Q (.ref p) H'
theorem cr_sortk {k : Nat} {q a : Str} {params : Arguments} {body : Expr} {scope : Scope} (hK : X.K = L.K) (hu : X.A.units + 65 < cLine) (hr : Room (k + 1) X.A.in1.in1) (S : FnScope [a] [a] scope)
    (hb : ∀ fd : FuncData, fd.params = params → fd.defaults = .none → fd.kwdefaults = .none → fd.qualname = q → ∀ u, bindArgs fd ⟨[u], []⟩ = pure [(a, u)])
    (hbody : ∀ (h : List Addr) (f c' : Addr) (s : Shared) (H : Hp) (E : XK), PE (cxOf noX X.prog X.w X.K X.mg X.base [a] q scope f (.ref c') X.A.in1.in1 X.stack s H E) body (tE P cf (L.wh h) ik)) :
    CallRK X (.builtin "sorted") [Str.ofString "key"] (rKey L P cf ik q params body scope) := by
  intro pins s σ H vs zs us uz Q I rv rz h
  obtain ⟨μ, st, l, ws, xs, ks, f, c', pm, ctv, rfl, rfl, hl, S0, rw', hf, hc, nf, nc, hks, hso, q0⟩ := h
  obtain ⟨u, rfl, ru⟩ := rv.one
  cases ru
  obtain ⟨uf, rfl, rf⟩ := rz.one
  cases rf
  obtain ⟨z, its, n, rvi, hlen, e⟩ := I.rdL hl
  have lx := rw'.length
  have lk := hks.length
  obtain ⟨dk, ak, sb⟩ := sortOk_inv hso
  refine sorted_key (f := .ref f) (b := false) (vs := its) (kw := [(Str.ofString "key", .ref f)]) ⟨_, e, rfl, n, rfl⟩ (by rw [← hlen]; exact z) (ksk_s1 _ _) (fun x => ksk_l1 _ _) (fun x => ksk_t1 _ _) fun D kS e1 h1 hD hkS hne hx hDo hkSo E' => ?_
  have nD : H D = none := I.hok.fresh hD
  have nkS : H kS = none := I.hok.fresh hkS
  have hh : ∀ b ∈ kS :: D :: L.hid, b ∈ L.hid ∨ H b = none := fun b hb => by
    rcases List.mem_cons.mp hb with rfl | hb
    · exact .inr nkS
    · rcases List.mem_cons.mp hb with rfl | hb
      · exact .inr nD
      · exact .inl hb
  have inK : kS ∈ (L.wh (kS :: D :: L.hid)).hid := List.mem_cons_self
  have inD : D ∈ (L.wh (kS :: D :: L.hid)).hid := List.mem_cons_of_mem _ List.mem_cons_self
  refine key_turns (vs := its) (fun i kv s' => ∃ μi Hi kvs, Inv X pins σ Hi s' ∧ Ext μ H μi Hi ∧ StoreRep (L.wh (kS :: D :: L.hid)) Hi μi st ∧ Hi kS = some (ArrO kS kv) ∧ Hi D = some (LamO D (seqObj "list" #[] e1)) ∧ Vals kvs kv.toList ∧ Reps (L.wh (kS :: D :: L.hid)) Hi μi (ks.take i) kvs)
    (by rw [← hlen]; exact z) ?start ?turn ?done
  case start =>
    refine ⟨μ, upd (upd H D (LamO D (seqObj "list" #[] e1))) kS (ArrO kS #[]), [], inv_two I hD hkS hne hx (fun _ => lamO_ok hDo) (fun _ => arrO_ok hkSo), ?_, ?_, upd_same, ?_, .nil, .nil⟩
    · refine ⟨fun b o e _ => ?_, ⟨[], by simp⟩, fun _ h => .inl h⟩
      rw [upd_ne (ne_of_none e nkS), upd_ne (ne_of_none e nD)]; exact e
    · refine S0.chg (h' := kS :: D :: L.hid) (fun b o e n m => ?_) (fun b hb => ?_) fun b hb => ?_
      · have n1 := ne_of_none e nkS
        have n2 := ne_of_none e nD
        exact ⟨by rw [upd_ne n1, upd_ne n2]; exact e, n, fun w => by
          rcases List.mem_cons.mp w with w | w
          · exact n1 w
          · rcases List.mem_cons.mp w with w | w
            · exact n2 w
            · exact m w⟩
      · obtain ⟨o, e⟩ := S0.mem hb
        rw [upd_ne (ne_of_none e nkS), upd_ne (ne_of_none e nD)]
      · rcases List.mem_cons.mp hb with rfl | hb
        · exact ⟨S0.off nkS, _, upd_same⟩
        · rcases List.mem_cons.mp hb with rfl | hb
          · exact ⟨S0.off nD, _, by rw [upd_ne hne.symm]; exact upd_same⟩
          · obtain ⟨m, o, e⟩ := S0.hd b hb
            exact ⟨m, o, by rw [upd_ne (ne_of_none e nkS), upd_ne (ne_of_none e nD)]; exact e⟩
    · rw [upd_ne hne.symm]; exact upd_same
  case turn =>
    rintro i v kv s' hv hkv ⟨μi, Hi, kvs, Ii, Ei, Si, hkSi, hDi, rk, rr⟩
    obtain ⟨w, hw, rwv⟩ := vals_get rvi hv
    obtain ⟨x, hx', rx⟩ := rw'.get' hw
    obtain ⟨y, hy, ev⟩ := hks.get hx'
    have rx' : Rep (L.wh (kS :: D :: L.hid)) Hi μi x w := rx.go Ei hh
    have fi : Hi f = some (LamO f (lamOf q params body scope pm c' ctv)) := Ei.fr _ _ hf nf
    have ci : Hi c' = some (CodeO c' q) := Ei.fr _ _ hc nc
    have SS := start_rep (N := [a]) (pvs := [x]) (vs := [w]) (h := kS :: D :: L.hid) Si (.cons rx' .nil) (Nat.le_refl _)
    refine wpAny_mono (lam_call (t := tE P cf (L.wh (kS :: D :: L.hid)) ik) (Q := fun v' H' => ∃ μ', StoreRep (L.wh (kS :: D :: L.hid)) H' μ' st ∧ Rep (L.wh (kS :: D :: L.hid)) H' μ' y v' ∧ Ext μi Hi μ' H') (E := fun _ _ _ => False) Ii Ii.env0.in1.in1 hr fi ci S hb rwv (hbody _ _ _ _ _ _)
      ⟨μi, _, st, y, st, SS, ev, fun μ' H' x1 S1 r1 E1 => ⟨μ', S1.sto, r1, E1⟩⟩) (fun kq s2 hq => ?_) fun _ _ no => no
    obtain ⟨v', H', I2, rkv, μ', S2, r2, E2⟩ := hq
    have nkm : kS ∉ μi := (Si.hd kS inK).1
    have nDm : D ∉ μi := (Si.hd D inD).1
    have hk2 : H' kS = some (ArrO kS kv) := E2.fr _ _ hkSi nkm
    have hD2 : H' D = some (LamO D (seqObj "list" #[] e1)) := E2.fr _ _ hDi nDm
    refine ⟨(I2.hok kS _ hk2).1, fun h' c hs hg => ⟨μ', upd H' kS (ArrO kS (kv.push kq)), kvs ++ [v'], inv_put I2 hk2 ext_no hs ⟨_, hg⟩ (fun _ => arrO_ok hg), ?_, S2.hput inK, upd_same, ?_, ?_, ?_⟩⟩
    · have E3 := Ei.trans E2
      exact ⟨fun b o e n => by rw [upd_ne (ne_of_none e nkS)]; exact E3.fr b o e n, E3.pre, E3.new⟩
    · rw [upd_ne hne.symm]; exact hD2
    · rw [Array.toList_push]; exact rk.append (.cons rkv .nil)
    · exact ((rr.ext E2).mono_take hy r2).hset inK
  case done =>
    rintro kv s' hkv ⟨μi, Hi, kvs, Ii, Ei, Si, hkSi, hDi, rk, rr⟩
    have tk : ks.take its.length = ks := List.take_of_length_le (by omega)
    rw [tk] at rr
    obtain ⟨⟨ek, gk⟩, _⟩ := Ii.hok kS _ hkSi
    obtain ⟨gD, _⟩ := Ii.hok D _ hDi
    refine ⟨⟨ek, gk⟩, ?_⟩
    have hek := keys_each (L := L.wh (kS :: D :: L.hid)) hK Ii rr rk dk
    have hal : PySem.W.AllAlike (ks.map toD) := fun d hd d' hd' => by
      obtain ⟨y, hy, rfl⟩ := List.mem_map.mp hd
      obtain ⟨y', hy', rfl⟩ := List.mem_map.mp hd'
      exact alike_toD _ _ (ak _ hy _ hy')
    have hsk : PySem.W.Sortable (ks.map toD) := by
      refine sb.imp (fun h p hp => ?_) fun h p hp => ?_
      · obtain ⟨y, hy, rfl⟩ := List.mem_map.mp hp
        obtain ⟨b, r, e⟩ := h _ hy
        exact toD_tup e
      · obtain ⟨y, hy, rfl⟩ := List.mem_map.mp hp
        exact toD_oth (isD_of (dk _ hy)) (h _ hy)
    have hdep : ∀ d, d ∈ ks.map toD → X.A.in1.in1.units + d.depth < cLine := fun d hd => by
      obtain ⟨y, hy, rfl⟩ := List.mem_map.mp hd
      have := depth_of (dk _ hy)
      show X.A.units + 1 + 1 + (toD y).depth < cLine
      omega
    have kp : PySem.W.KeepsBut D (hidT s'.heap fun b => if b = kS then some (.lst []) else none) s'.heap := fun b o _ e => (of_hidT e).1
    have gone : (hidT s'.heap fun b => if b = kS then some (.lst []) else none).get? kS = none := by
      cases e : (hidT s'.heap fun b => if b = kS then some (.lst []) else none).get? kS with
      | none => rfl
      | some o =>
        have := (of_hidT e).2
        rw [if_pos rfl] at this; cases this
    have szk : kv.size = its.length := hkv
    refine PySem.W.keyH_end (κ := PySem.W.dataKind s'.heap (ks.map toD)) kp gone gk gD hne (PySem.W.SortsAt.data hek hal hsk hdep) szk (by rw [← hlen]; exact z) fun h' tkk c kp' hD' => ⟨rfl, ?_⟩
    have he3 := tri_each (ks := ks) (xs := xs) rvi lk lx
    have hmap : (tri ks xs ws).map (fun b => toD b.1) = ks.map toD := by
      have w := congrArg (List.map toD) (tri_key (ws := ws) lk lx)
      rw [List.map_map] at w
      exact w
    have hout := PySem.W.keyedOut_each (rev := false) (fun b : PV × PV × V => toD b.1) (bs := tri ks xs ws) (vs := its) (out := PySem.W.sortVals (PySem.W.dataKind s'.heap (ks.map toD)) false kv.toList its) (by rw [hmap]; exact ⟨s'.heap, kv.toList, hal, rfl, hek⟩) he3
    have hv := each_vals3 hout
    have hmem := tri_mem (ks := ks) (rw'.go Ei hh)
    have hs : ((tri ks xs ws).mergeSort (PySem.W.dataLe false fun b : PV × PV × V => toD b.1)).map (fun b => (b.1, b.2.1)) = sortBy (fun p q => PV.lt p.1 q.1) (ks.zip xs) := by
      unfold sortBy
      rw [List.map_mergeSort (s := fun a b : PV × PV => !PV.lt b.1 a.1) (f := fun b : PV × PV × V => (b.1, b.2.1)), tri_pair lk lx]
      intro b hb c hc
      rw [PySem.W.dataLe_eq]
      show (!PySem.W.dataLt (toD c.1) (toD b.1)) = _
      rw [lt_toD _ _ (isD_of (dk _ (hmem c hc).1)) (isD_of (dk _ (hmem b hb).1)) (ak _ (hmem c hc).1 _ (hmem b hb).1)]
    have hs2 : (sortBy (fun p q => PV.lt p.1 q.1) (ks.zip xs)).map Prod.snd = ((tri ks xs ws).mergeSort (PySem.W.dataLe false fun b : PV × PV × V => toD b.1)).map (·.2.1) := by
      rw [← hs, List.map_map]; rfl
    have hr : Reps (L.wh (kS :: D :: L.hid)) Hi μi ((sortBy (fun p q => PV.lt p.1 q.1) (ks.zip xs)).map Prod.snd) (((tri ks xs ws).mergeSort (PySem.W.dataLe false fun b : PV × PV × V => toD b.1)).map (·.2.2)) := by
      rw [hs2]
      exact reps_of_mem3 fun b hb => (hmem b (List.mem_mergeSort.mp hb)).2
    have nkm : kS ∉ μi := (Si.hd kS inK).1
    have nDm : D ∉ μi := (Si.hd D inD).1
    have hlt : s.heap.objs.size ≤ kS := hkS
    have J := inv_end (D := D) (K := kS) (h1 := h') (c := c) (tk := tkk) (ys := ((tri ks xs ws).mergeSort (PySem.W.dataLe false fun b : PV × PV × V => toD b.1)).map (·.2.2)) Ii hDi hkSi ext_no ext_no hne
      (fun b o n m e => kp' b o m (hidT_get e (if_neg n))) hD' hv (by
        rw [hv.length, PySem.W.sortVals_length false (by rw [Array.length_toList]; exact szk), ← hlen]; exact z)
      ⟨Nat.le_trans I.sz hlt, fun w => Nat.lt_irrefl _ (Nat.lt_of_lt_of_le (show kS < s.heap.objs.size by rw [w]; exact I.lt) hlt), fun x c0 e w => by
          obtain ⟨v0, o0, e0, _⟩ := I.cell x c0 e
          exact Nat.lt_irrefl _ (Nat.lt_of_lt_of_le (show kS < s.heap.objs.size by rw [← w]; exact Heap.lt_size e0) hlt), fun p hp w =>
          Nat.lt_irrefl _ (Nat.lt_of_lt_of_le (show kS < s.heap.objs.size by rw [← w]; exact Heap.lt_size (I.pin p hp).1) hlt)⟩
    have kk : ∀ b o, Hi b = some o → b ∉ μi → b ∉ (L.wh (kS :: D :: L.hid)).hid → (fun b => if b = kS then none else upd Hi D (.lst (((tri ks xs ws).mergeSort (PySem.W.dataLe false fun b : PV × PV × V => toD b.1)).map (·.2.2))) b) b = some o ∧ b ∉ μi ∧ b ∉ L.hid := fun b o e n m => by
      have m1 : b ≠ kS := fun w => m (by rw [w]; exact inK)
      have m2 : b ≠ D := fun w => m (by rw [w]; exact inD)
      exact ⟨(if_neg m1).trans ((upd_ne m2).trans e), n, fun w => m (List.mem_cons_of_mem _ (List.mem_cons_of_mem _ w))⟩
    have old : ∀ b o, H b = some o → b ≠ kS ∧ b ≠ D := fun b o e => ⟨ne_of_none e nkS, ne_of_none e nD⟩
    refine ⟨.ref D, _, J, rfl, q0 μi _ D (((tri ks xs ws).mergeSort (PySem.W.dataLe false fun b : PV × PV × V => toD b.1)).map (·.2.2)) nD ?_ ?_ ?_ nDm (S0.offh nD) ?_⟩
    · refine Si.chg (L := L.wh (kS :: D :: L.hid)) (h' := L.hid) kk (fun b hb => ?_) fun b hb => ?_
      · exact (if_neg (fun w : b = kS => nkm (w ▸ hb))).trans (upd_ne fun w : b = D => nDm (w ▸ hb))
      · obtain ⟨m, o, e⟩ := S0.hd b hb
        obtain ⟨o1, o2⟩ := old b o e
        obtain ⟨m', o', e'⟩ := Si.hd b (List.mem_cons_of_mem _ (List.mem_cons_of_mem _ hb))
        exact ⟨m', o', (if_neg o1).trans ((upd_ne o2).trans e')⟩
    · refine ⟨fun b o e n => ?_, Ei.pre, Ei.new⟩
      obtain ⟨o1, o2⟩ := old b o e
      exact (if_neg o1).trans ((upd_ne o2).trans (Ei.fr b o e n))
    · exact (if_neg hne.symm).trans upd_same
    · exact hr.chg (L := L.wh (kS :: D :: L.hid)) (h' := L.hid) kk ⟨[], by simp⟩
end
end MP
namespace MP
open PySem PySem.Spec PyProof.Rows L2 LamX
section
variable {X : Cx} {L : Lay} {P : Prog} {cf : Nat → List PV → Store → Res PV} {ia ik : IE} {t : Nat}
def tLamK (L : Lay) (t : Nat) (params : Arguments) (b : Expr) (scope : Scope) : TE := fun σ H Q => ∃ μ st, StoreRep L H μ st ∧ st[t]? = some (.tbl t) ∧ ∀ f c' pm ctv H1, StoreRep L H1 μ st → Ext μ H μ H1 → (∀ a o, H a = some o → (∀ ps, o ≠ .tbl ps) → H1 a = some o) →
  H1 f = some (LamO f (lamOf (L.tq t) params b scope pm c' ctv)) → H1 c' = some (CodeO c' (L.tq t)) → f ∉ μ → c' ∉ μ → Q (.ref f) H1
theorem pe_lam {params : Arguments} {b : Expr} {scope : Scope} {pos : Pos} (tb : ∃ c, X.env.code = .ref c ∧ TabB X.base X.mg c (L.tab t)) (hq : X.env.qual ++ "<lambda>" = L.tq t) (hdef : defaultsOf params X.env = ([], [])) (hfree : ∀ y ∈ scope.names, y.2 ≠ .free) :
    PE X (.Lambda params b scope pos) (tLamK L t params b scope) := by
  refine ⟨fun pins s σ H Q I h => ?_⟩
  obtain ⟨c, hc, TB⟩ := tb
  obtain ⟨μ, st, S, ht, q⟩ := h
  obtain ⟨P0, e1, rfl, T0⟩ := S.at_ t _ ht
  have hm : L.tab t ∈ μ := List.mem_of_getElem? e1
  refine lam_mk I TB hc hq T0 (fun a n => ⟨S.off n, S.offh n⟩) hdef hfree fun f c' pm ctv H1 s' J nf nP keep T1 hf hc' ncm => ?_
  have hP := T0
  obtain ⟨ps, hP, _⟩ := hP
  have ke : ∀ a o, H a = some o → (∀ ps, o ≠ .tbl ps) → H1 a = some o := fun a o e n => keep a o e fun z => by
    rw [z, hP] at e
    exact n ps (Option.some.inj e).symm
  have E : Ext μ H μ H1 := ⟨fun a o e n => keep a o e fun z => n (z ▸ hm), ⟨[], by simp⟩, fun _ h => .inl h⟩
  refine ⟨.ref f, H1, J, rfl, q f c' pm ctv H1 ⟨S.len, S.nd, E.hd S.hd, fun n o e => ?_⟩ E ke hf hc' (S.off nf) ncm⟩
  obtain ⟨a, e2, r⟩ := S.at_ n o e
  refine ⟨a, e2, ?_⟩
  cases o with
  | lst xs => obtain ⟨vs, q, r⟩ := r; exact ⟨vs, ke _ _ q nofun, r.ext E⟩
  | dic _ _ => exact (show False from r).elim
  | ins c ks vs => obtain ⟨dx, ws, q, l, r⟩ := r; exact ⟨dx, ws, ke _ _ q nofun, l, r.ext E⟩
  | tbl t' =>
    obtain ⟨q1, r⟩ := r
    refine ⟨q1, ?_⟩
    by_cases h : a = L.tab t
    · have : n = t := StoreRep.write.nodup_ix_addr S.nd (h ▸ e2) e1
      subst this
      rw [ht] at e
      cases e
      rw [h]; exact T1
    · obtain ⟨ps', p1, p2⟩ := r
      exact TabRep.go (a := a) ⟨ps', p1, p2⟩ E.kk ((keep _ _ p1 h).trans p1.symm)
theorem e_sortk {k : Nat} {a : Str} {y b : Expr} {params : Arguments} {scope : Scope} {p pos lpos kp : Pos} (hK : X.K = L.K) (hu : X.A.units + 65 < cLine) (hr : Room (k + 1) X.A.in1.in1) (hg : Gl X "sorted") (hm : X.mg "sorted" = none)
    (tb : ∃ c, X.env.code = .ref c ∧ TabB X.base X.mg c (L.tab t)) (hq : X.env.qual ++ "<lambda>" = L.tq t) (ha : PE X y (tE P cf L ia)) (hs : starEach [y] X.env = (false, eval y X.env) :: starEach [] X.env) (S : FnScope [a] [a] scope) (hdef : defaultsOf params X.env = ([], []))
    (hb : ∀ fd : FuncData, fd.params = params → fd.defaults = .none → fd.kwdefaults = .none → fd.qualname = L.tq t → ∀ u, bindArgs fd ⟨[u], []⟩ = pure [(a, u)])
    (hbody : ∀ (h : List Addr) (f c' : Addr) (s : Shared) (H : Hp) (E : XK), PE (cxOf noX X.prog X.w X.K X.mg X.base [a] (L.tq t) scope f (.ref c') X.A.in1.in1 X.stack s H E) b (tE P cf (L.wh h) ik)) :
    PE X (.Call (.Name "sorted" p) [y] [⟨some "key", .Lambda params b scope lpos, kp⟩] pos) (tE P cf L (.sortk t ia ik)) := by
  refine (pe_callBK (cr_sortk hK hu hr S hb hbody) hg hm boot_sorted (pa_cons ha pa_nil hs) (pk_cons (pe_lam tb hq hdef S.nofree) pk_nil) (by decide) (by decide) (by rw [hs]; rfl) (by rw [hs]; rfl) rfl rfl rfl).mono fun σ H Q q => ?_
  obtain ⟨μ, env, st, v, st', S0, ev, q⟩ := q
  obtain ⟨x, xs, ks, e1, hx, ht, hk, hso, rfl⟩ := sortk_inv ev
  refine ⟨μ, env, st, x, st', S0, e1, fun μ1 H1 x1 S1 r1 E1 => ?_⟩
  obtain ⟨l, ws, rfl, hl, rw'⟩ := (hx ▸ r1.d S1 : RepD L H1 μ1 (.lst xs) x1)
  refine ⟨μ1, st', S1.sto, ht, fun f c' pm ctv H2 S2 E2 ke hf hc nf nc => ?_⟩
  have hl2 : Rd H2 l (.lst ws) := by
    rcases hl with h | ⟨o, h⟩
    · exact .inl (ke _ _ h nofun)
    · exact .inr ⟨o, ke _ _ h nofun⟩
  refine ⟨μ1, st', l, ws, xs, ks, f, c', pm, ctv, rfl, rfl, hl2, S2, rw'.ext E2, hf, hc, nf, nc, hk, hso, fun μ' H' p ys np S3 E3 hp n1 n2 r3 => ?_⟩
  have E23 := E2.trans E3
  exact q μ' H' (.ref p) (S1.ext E23 S3) (by rw [Rep]; exact ⟨p, ys, rfl, ⟨.inl hp, n1, n2⟩, r3⟩) (E1.trans E23)
theorem bind_one (a : Str) (an : Option Expr) (ap : Pos) (u : Value) (fd : FuncData) (h1 : fd.params = ⟨[], [⟨a, an, ap⟩], none, [], [], none, []⟩) (h2 : fd.defaults = .none) (h3 : fd.kwdefaults = .none) : bindArgs fd ⟨[u], []⟩ = pure [(a, u)] := by
  obtain ⟨n1, n2, n3, n4, n5, n6, n7, n8, n9, n10, n11, n12, n13, n14, n15⟩ := fd
  cases h1; cases h2; cases h3
  unfold bindArgs
  simp only [List.map_nil, List.map_cons, List.nil_append, List.length_cons, List.length_nil, List.zip_cons_cons, List.zip_nil_right]
  simp [seqItems?, List.lookup]
  rfl
theorem room_in2 {k : Nat} {A : Around} (r : Room (k + 1) A) : Room k A.in1.in1 := ⟨r.hd, by have := r.dp; show A.depth + 3 * k + 5 < _; omega, by have := r.un; show A.units + 1 + 1 + 16 * k + 200 < _; omega⟩
theorem room_lam {k : Nat} {A : Around} (env : PySem.Env) (r : Room (k + 1) A) : Room k (A.in1.in1.deeper env) := ⟨r.hd, by have := r.dp; show A.depth + 1 + 3 * k + 5 < _; omega, by have := r.un; show A.units + 1 + 1 + 3 + 16 * k + 200 < _; omega⟩
end
end MP
namespace MP
open PySem PySem.Spec PyProof.Rows L2

/-! ### the check that a program's form is its text's -/
structure Tab where
  fns : List (Str × Nat)
  cls : List (Str × Nat)
  con : List (Str × PV)
  blt : List Str
  nms : Nat → Str
  nf : Nat
  kws : List (Nat × List Str × List Nat)
/-- names by number -/
def nmF (l : List Str) (k : Nat) : Str := match l[k]? with
  | some x => x
  | none => ⟨#[1114112 + k]⟩
theorem nmF_inj {l : List Str} (hn : l.Nodup) (hc : l.all (fun x => x.cps.all (· < 1114112)) = true) (a b : Nat) (h : nmF l a = nmF l b) : a = b := by
  unfold nmF at h
  have out : ∀ {x : Str} {k : Nat}, x ∈ l → x = ⟨#[1114112 + k]⟩ → False := fun {x k} hx e => by
    have := List.all_eq_true.mp hc x hx
    rw [e] at this
    simp at this
    omega
  cases ha : l[a]? with
  | none =>
    rw [ha] at h
    cases hb : l[b]? with
    | none => rw [hb] at h; simp at h; exact h
    | some y => rw [hb] at h; exact (out (List.mem_of_getElem? hb) h.symm).elim
  | some x =>
    rw [ha] at h
    cases hb : l[b]? with
    | none => rw [hb] at h; exact (out (List.mem_of_getElem? ha) h).elim
    | some y =>
      rw [hb] at h
      have h : x = y := h
      subst h
      obtain ⟨h1, e1⟩ := List.getElem?_eq_some_iff.mp ha
      obtain ⟨h2, e2⟩ := List.getElem?_eq_some_iff.mp hb
      exact (List.getElem_inj hn).mp (e1.trans e2.symm)
structure Sc where
  N : List Str
  sc : Scope
  fn : Str → Bool
  tab : Option Nat := none
def Sc.blk (C : Sc) (scope : Scope) : Sc := ⟨C.N, relS scope C.sc, fun x => scope.names.lookup x == some .cell, none⟩
def lamP : Arguments → Option Str
  | ⟨[], [⟨a, _, _⟩], none, [], [], none, []⟩ => some a
  | _ => none
theorem lamP_inv {p : Arguments} {a : Str} (h : lamP p = some a) : ∃ an ap, p = ⟨[], [⟨a, an, ap⟩], none, [], [], none, []⟩ := by
  unfold lamP at h
  split at h
  · cases h; exact ⟨_, _, rfl⟩
  · cases h
def scOk (N ps : List Str) (sc : Scope) : Bool := (match sc.kind with | .function => true | _ => false) && !sc.isCoroutine && !sc.isGenerator && decide N.Nodup && decide (N.take ps.length = ps) &&
  ps.all (fun x => match sc.names.lookup x with | some .local => true | some .cell => true | _ => false) && sc.names.all fun y => !decide (y.2 = .free)
theorem scOk_ok {N ps : List Str} {sc : Scope} (h : scOk N ps sc = true) : FnScope N ps sc := by
  unfold scOk at h
  simp only [Bool.and_eq_true, Bool.not_eq_true', decide_eq_true_eq, List.all_eq_true] at h
  obtain ⟨⟨⟨⟨⟨⟨h1, h2⟩, h3⟩, h4⟩, h5⟩, h6⟩, h7⟩ := h
  refine ⟨?_, h2, h3, h4, h5, fun x hx => ?_, fun y hy => ?_⟩
  · split at h1
    · assumption
    · cases h1
  · have := h6 x hx
    split at this
    · exact .inl (by assumption)
    · exact .inr (by assumption)
    · cases this
  · have := h7 y hy
    simpa using this
def glB (C : Sc) (x : Str) : Bool := match C.sc.names.lookup x with
  | some .globalImplicit => true
  | _ => false
def visB (C : Sc) (x : Str) : Bool := match C.sc.names.lookup x with
  | some .local => true
  | some .cell => true
  | some .free => true
  | _ => false
def locB (C : Sc) (x : Str) : Bool := match C.sc.names.lookup x with
  | some .local => true
  | some .cell => C.fn x
  | _ => false
def nmOk (x : Str) : Bool := !(x == ("__debug__" : Str)) && !(x == ("__classdict__" : Str)) && !decide (x = "__name__")
def isSt : Expr → Bool
  | .Starred .. => true
  | _ => false
def noSt (es : List Expr) : Bool := es.all fun e => !isSt e
def isT : Expr → Bool
  | .IfExp .. => false
  | _ => true
def isB : Expr → Bool
  | .BoolOp .. => true
  | _ => false
def isSlc : Expr → Bool
  | .Slice .. => true
  | _ => false
/-- o in o.f -/
def baseB : Expr → Bool
  | .Call (.Name _ _) [] [] _ => false
  | _ => true
def isN : IE → Bool
  | .lst _ => true
  | .comp .. => true
  | .bin .mul _ _ => true
  | _ => false
def bopB : BOp → Operator → Bool
  | .add, .Add => true
  | .sub, .Sub => true
  | .mul, .Mult => true
  | .fdiv, .FloorDiv => true
  | .mod, .Mod => true
  | .pow, .Pow => true
  | .shl, .LShift => true
  | .shr, .RShift => true
  | .band, .BitAnd => true
  | .bor, .BitOr => true
  | _, _ => false
def copB : COp → CmpOp → Bool
  | .eq, .Eq => true
  | .ne, .NotEq => true
  | .lt, .Lt => true
  | .le, .LtE => true
  | .gt, .Gt => true
  | .ge, .GtE => true
  | .isin, .In => true
  | .notin, .NotIn => true
  | .is, .Is => true
  | .isnot, .IsNot => true
  | _, _ => false
def p1S : P1 → Option Str
  | .len => some "len"
  | .tuple => some "tuple"
  | .list => some "list"
  | .sum => some "sum"
  | .any => some "any"
  | .all => some "all"
  | .abs => some "abs"
  | .int => some "int"
  | .sorted => some "sorted"
  | _ => none
def p2S : P2 → Str
  | .max => "max"
  | .min => "min"
  | .divmod => "divmod"
def tyN : Ty → Option Str
  | .int => some "int"
  | .str => some "str"
  | .tuple => some "tuple"
  | .bool => some "bool"
  | .list => some "list"
  | .dict => some "dict"
  | _ => none
def isTupE : Expr → Bool
  | .Tuple .. => true
  | _ => false
def isNone : IE → Bool
  | .con .non => true
  | _ => false
def isZero : IE → Bool
  | .con (.int 0) => true
  | _ => false
def posB : IE → Bool
  | .con (.bl true) => true
  | _ => false
def bltB (T : Tab) (C : Sc) (x : Str) : Bool := glB C x && T.blt.contains x

def kwNs : List Keyword → Option (List Str)
  | [] => some []
  | ⟨some n, _, _⟩ :: r => (kwNs r).map (n :: ·)
  | _ => none
/-! ### targets -/
mutual
def chkG : IE → Sc → Expr → Bool
  | .var i, C, e => (match e with
    | .Name x _ => decide (C.N[i]? = some x) && locB C x
    | _ => false)
  | .tup t, C, e => (match e with
    | .Tuple es _ _ => chkGs t C es
    | _ => false)
  | _, _, _ => false
def chkGs : IE → Sc → List Expr → Bool
  | .nil, _, es => es.isEmpty
  | .cons t r, C, es => (match es with
    | e :: es => !isSt e && chkG t C e && chkGs r C es
    | [] => false)
  | _, _, _ => false
end
/-- the places of a comprehension's own names -/
def ownOf (N : List Str) (vs : List Nat) : List (Str × Nat) := vs.filterMap fun i => (N[i]?).map fun x => (x, i)

mutual
def chkE (T : Tab) : IE → Nat → Sc → Expr → Bool
  | .var i, _, C, e => (match e with
    | .Name x _ => decide (C.N[i]? = some x) && visB C x && nmOk x
    | _ => false)
  | .con v, _, C, e => (match e with
    | .Constant (.int j) _ _ => decide (v = .int j)
    | .Constant (.bool b) _ _ => decide (v = .bl b)
    | .Constant .none _ _ => decide (v = .non)
    | .Constant (.str s) _ _ => decide (v = .str s.cps.toList)
    | .Name x _ => glB C x && nmOk x && (match T.con.lookup x with
      | some w => decide (w = v)
      | none => false)
    | _ => false)
  | .tup es, _, C, e => (match e with
    | .Tuple xs _ _ => chkA T es C xs && decide (icnt es ≤ 1000000)
    | _ => false)
  | .lst es, _, C, e => (match e with
    | .List xs _ => chkA T es C xs && decide (icnt es ≤ 1000000)
    | _ => false)
  | .nw ie, _, C, e => isN ie && chkE T ie 0 C e
  | .bin op a b, _, C, e => (match e with
    | .BinOp x o y _ => bopB op o && chkE T a 0 C x && chkE T b 0 C y
    | _ => false)
  | .cmp op a b, _, C, e => (match e with
    | .Compare x [o] [y] _ => copB op o && !behindInMarks o y && chkE T a 0 C x && chkE T b 0 C y
    | _ => false)
  | .chn op op' a b c, _, C, e => (match e with
    | .Compare x [o, o'] [y, z] _ => copB op o && copB op' o' && !lastMarks [o, o'] [y, z] && chkE T a 0 C x && chkE T b 0 C y && chkE T c 0 C z
    | _ => false)
  | .and a b, _, C, e => (match e with
    | .BoolOp .And (x :: y :: r) pos => isT x && chkE T a 0 C x && (match r with
      | [] => isT y && chkE T b 0 C y
      | _ => chkE T b 0 C (.BoolOp .And (y :: r) pos))
    | _ => false)
  | .or a b, _, C, e => (match e with
    | .BoolOp .Or (x :: y :: r) pos => isT x && chkE T a 0 C x && (match r with
      | [] => isT y && chkE T b 0 C y
      | _ => chkE T b 0 C (.BoolOp .Or (y :: r) pos))
    | _ => false)
  | .not a, _, C, e => (match e with
    | .UnaryOp .Not x _ => isT x && chkE T a 0 C x
    | _ => false)
  | .neg a, _, C, e => (match e with
    | .UnaryOp .USub x _ => chkE T a 0 C x
    | _ => false)
  | .ite c a b, _, C, e => (match e with
    | .IfExp x y z _ => isT x && chkE T c 0 C x && chkE T a 0 C y && chkE T b 0 C z
    | _ => false)
  | .idx a i, _, C, e => (match e with
    | .Subscript x y _ => !isSlc y && chkE T a 0 C x && chkE T i 0 C y
    | _ => false)
  | .slc a lo hi, _, C, e => (match e with
    | .Subscript x (.Slice l h none _) _ => chkE T a 0 C x && (match l with
      | none => isNone lo
      | some l => !isNone lo && chkE T lo 0 C l) && (match h with
      | none => isNone hi
      | some h => !isNone hi && chkE T hi 0 C h)
    | _ => false)
  | .call f es, _, C, e => (match e with
    | .Call (.Name x _) as [] _ => glB C x && nmOk x && decide (T.fns.lookup x = some f) && noSt as && chkA T es C as
    | _ => false)
  | .callk f perm es, _, C, e => (match e with
    | .Call (.Name x _) [] ks _ => glB C x && nmOk x && decide (T.fns.lookup x = some f) && (match kwNs ks with
      | some nm => decide ((f, nm, perm) ∈ T.kws) && chkK T es C ks
      | none => false)
    | _ => false)
  | .make c es, _, C, e => (match e with
    | .Call (.Name x _) as [] _ => glB C x && nmOk x && decide (T.cls.lookup x = some c) && noSt as && chkA T es C as
    | _ => false)
  | .meth m o es, _, C, e => (match e with
    | .Call (.Attribute x nm apos) as [] pos => decide (nm = T.nms m) && baseB x && (apos.endLine == pos.line) && noSt as && decide (as.length < 30) && chkE T o 0 C x && chkA T es C as
    | _ => false)
  | .fld k o, _, C, e => (match e with
    | .Attribute x nm _ => decide (nm = T.nms k) && baseB x && decide (k < T.nf) && chkE T o 0 C x
    | _ => false)
  | .pr1 p a, _, C, e => (match p, e with
    | .set, .Call (.Name x _) [.Call (.Name z _) [w] [] _] [] _ => bltB T C x && decide (x = "sorted") && bltB T C z && decide (z = "set") && !isSt w && chkE T a 0 C w
    | .list, .Call (.Name x _) [.Call (.Name z u) [w] [] q] [] _ => (match a with
      | .rng lo b => bltB T C x && decide (x = "list") && bltB T C z && decide (z = "range") && !isSt w && isZero lo && chkE T b 0 C w
      | a' => bltB T C x && decide (p1S .list = some x) && chkE T a' 0 C (.Call (.Name z u) [w] [] q))
    | p, .Call (.Name x _) [y] [] _ => bltB T C x && decide (p1S p = some x) && !isSt y && chkE T a 0 C y
    | _, _ => false)
  | .rpr a, _, C, e => (match e with
    | .Call (.Name x _) [y] [] _ => bltB T C x && decide (x = "repr") && !isSt y && chkE T a 0 C y
    | _ => false)
  | .pr2 p a b, _, C, e => (match e with
    | .Call (.Name x _) [y, z] [] _ => bltB T C x && decide (p2S p = x) && !isSt y && !isSt z && chkE T a 0 C y && chkE T b 0 C z
    | _ => false)
  | .isi a ts, _, C, e => (match e with
    | .Call (.Name x _) [y, .Name z _] [] _ => bltB T C x && decide (x = "isinstance") && !isSt y && chkE T a 0 C y && bltB T C z && (match ts with
      | [w] => decide (tyN w = some z)
      | _ => false)
    | _ => false)
  | .comp tg it cond elt, _, C, e => (match e with
    | .ListComp x [⟨y, iter, ifs, 0⟩] scope _ => chkG tg (C.blk scope) y && blkC C.N C.sc scope (ownOf C.N (slots tg)) && chkE T it (if isTupE y then 2 else 1) C iter && (match ifs with
      | [] => posB cond
      | [c] => isT c && chkE T cond 0 (C.blk scope) c
      | _ => false) && chkE T elt 0 (C.blk scope) x
    | _ => false)
  | .append o a, _, C, e => (match e with
    | .Call (.Attribute x nm apos) [y] [] pos => decide (nm = "append") && baseB x && (apos.endLine == pos.line) && !isSt y && chkE T o 0 C x && chkE T a 0 C y
    | _ => false)
  | .insert o a b, _, C, e => (match e with
    | .Call (.Attribute x nm apos) [y, z] [] pos => decide (nm = "insert") && baseB x && (apos.endLine == pos.line) && !isSt y && !isSt z && chkE T o 0 C x && chkE T a 0 C y && chkE T b 0 C z
    | _ => false)
  | .rng lo hi, m, C, e => decide (0 < m) && (match e with
    | .Call (.Name x _) [y] [] _ => bltB T C x && decide (x = "range") && !isSt y && isZero lo && chkE T hi 0 C y
    | .Call (.Name x _) [y, z] [] _ => bltB T C x && decide (x = "range") && !isSt y && !isSt z && chkE T lo 0 C y && chkE T hi 0 C z
    | _ => false)
  | .sortk t a key, _, C, e => (match e with
    | .Call (.Name x _) [y] [⟨some kn, .Lambda params body scope _, _⟩] _ => bltB T C x && decide (x = "sorted") && decide (kn = "key") && !isSt y && chkE T a 0 C y && decide (C.tab = some t) && (match lamP params with
      | some z => scOk [z] [z] scope && chkE T key 0 ⟨[z], scope, fun _ => true, none⟩ body
      | none => false)
    | _ => false)
  | .zip a b, m, C, e => decide (m = 2) && (match e with
    | .Call (.Name x _) [y, z] [] _ => bltB T C x && decide (x = "zip") && !isSt y && !isSt z && chkE T a 0 C y && chkE T b 0 C z
    | _ => false)
  | _, _, _, _ => false
def chkA (T : Tab) : IE → Sc → List Expr → Bool
  | .nil, _, es => es.isEmpty
  | .cons a r, C, es => (match es with
    | e :: es => !isSt e && chkE T a 0 C e && chkA T r C es
    | [] => false)
  | .star a r, C, es => (match es with
    | .Starred e _ :: es => chkE T a 0 C e && chkA T r C es
    | _ => false)
  | _, _, _ => false
def chkK (T : Tab) : IE → Sc → List Keyword → Bool
  | .nil, _, ks => ks.isEmpty
  | .cons a r, C, ks => (match ks with
    | ⟨_, e, _⟩ :: ks => chkE T a 0 C e && chkK T r C ks
    | [] => false)
  | _, _, _ => false
end
def isIt : IE → Bool
  | .rng .. => true
  | .zip .. => true
  | _ => false

/-! ### what the check needs of the run -/
def RprOk (v : PV) (t : List Nat) : Prop := ((∃ xs, v = .tup xs) ∨ ∃ xs, v = .lst xs) ∧ depthOk v = true ∧ (toD v).showable = true ∧ (toD v).shown.length ≤ sizeLine ∧ t = (toD v).shown.cps.toList
structure GOk (G : Gb) (L : Lay) (P : Prog) (T : Tab) (n : Nat) : Prop where
  hK : G.K = L.K
  F : FnsOk G L P T.kws n
  nm : L.nm = T.nms
  nmI : ∀ a b : Nat, L.nm a = L.nm b → a = b
  cls : ∀ c cl, P.cls c = some cl → ClassAt G L P c cl ∧ (P.funs cl.init).isSome = true
  no : ∀ c cl k, P.cls c = some cl → k < T.nf → cl.meths.lookup k = none → NoAttr G.K (L.cls c) (L.nm k)
  tf : ∀ x f, T.fns.lookup x = some f → G.mg x = some (.ref (L.fna f)) ∧ (P.funs f).isSome = true
  tc : ∀ x c, T.cls.lookup x = some c → G.mg x = some (.ref (L.cls c)) ∧ (P.cls c).isSome = true
  tk : ∀ x v, T.con.lookup x = some v → ∃ u w, G.mg x = some u ∧ RelV w u ∧ ∀ h H μ, Rep (L.wh h) H μ v w
  tb : ∀ x, T.blt.contains x = true → G.mg x = none
  rp : ∀ v t, P.rpr v = some t → RprOk v t
structure XOk (G : Gb) (L : Lay) (P : Prog) (T : Tab) (n : Nat) (C : Sc) (X : Cx) : Prop where
  g : GOk G L P T n
  c : CxG G X
  N : X.N = C.N
  nd : X.N.Nodup
  sc : X.env.scope = C.sc
  fn : X.fn = C.fn
  calm : X.calm = true
  room : Room (3 * n + 1) X.A
  tb : ∀ t, C.tab = some t → (∃ c, X.env.code = .ref c ∧ LamX.TabB X.base X.mg c (L.tab t)) ∧ X.env.qual ++ "<lambda>" = L.tq t ∧ Room (3 * n + 2) X.A
section
variable {G : Gb} {L : Lay} {P : Prog} {T : Tab} {n : Nat} {C : Sc} {X : Cx}
theorem GOk.wh (g : GOk G L P T n) (h : List Addr) : GOk G (L.wh h) P T n :=
  ⟨g.hK, fun f d hd => let ⟨fd, ps, A, b⟩ := g.F f d hd; ⟨fd, ps, ⟨A.ok, A.kp, A.bn⟩, b⟩, g.nm, g.nmI, fun c cl h => let ⟨A, b⟩ := g.cls c cl h; ⟨⟨A.clo, A.mt, A.mkr⟩, b⟩, g.no, g.tf, g.tc, fun x v e => let ⟨u, w, a, b, c⟩ := g.tk x v e; ⟨u, w, a, b, fun h' => c h'⟩, g.tb, g.rp⟩
theorem XOk.blk (o : XOk G L P T n C X) (D : Addr) (scope : Scope) (s : Shared) (H : Hp) (A : Addr) (cl : List (Str × Addr)) (fp : List Addr) :
    XOk G (L.wh (D :: L.hid)) P T n (C.blk scope) (X.blk s H scope (compEnvC scope cl A X.env) fp) :=
  ⟨o.g.wh _, ⟨o.c.prog, o.c.w, o.c.K, o.c.mg, o.c.base, rfl, o.c.gd⟩, o.N, o.nd, by show relS scope X.env.scope = relS scope C.sc; rw [o.sc], rfl, o.calm, o.room, fun t h => (nomatch (show (none : Option Nat) = some t from h))⟩
theorem XOk.K (o : XOk G L P T n C X) : X.K = L.K := o.c.K.trans o.g.hK
theorem XOk.units (o : XOk G L P T n C X) : X.A.units + 65 < cLine := by have := o.room.un; omega
theorem XOk.gl (o : XOk G L P T n C X) {x : Str} (h : glB C x = true) : Gl X x := by
  unfold glB at h
  show X.env.scope.names.lookup x = _
  rw [o.sc]
  split at h
  · assumption
  · cases h
theorem XOk.vis (o : XOk G L P T n C X) {x : Str} (h : visB C x = true) : Vis X.env.scope x := by
  unfold visB at h
  rw [o.sc]
  split at h
  · exact .inl (by assumption)
  · exact .inr (.inl (by assumption))
  · exact .inr (.inr (by assumption))
  · cases h
theorem XOk.loc (o : XOk G L P T n C X) {x : Str} (h : locB C x = true) : Loc X.env.scope x ∧ (X.fn x = true ∨ X.env.scope.names.lookup x = some .local) := by
  unfold locB at h
  rw [o.sc, o.fn]
  split at h
  · exact ⟨.inl (by assumption), .inr (by assumption)⟩
  · exact ⟨.inr (by assumption), .inl h⟩
  · cases h
theorem XOk.blt (o : XOk G L P T n C X) {x : Str} (h : bltB T C x = true) : Gl X x ∧ X.mg x = none := by
  unfold bltB at h
  rw [Bool.and_eq_true] at h
  exact ⟨o.gl h.1, by rw [o.c.mg]; exact o.g.tb x h.2⟩
theorem nm_inv {x : Str} (h : nmOk x = true) : (x == ("__debug__" : Str)) = false ∧ (x == ("__classdict__" : Str)) = false ∧ x ≠ "__name__" := by
  unfold nmOk at h
  simp only [Bool.and_eq_true, Bool.not_eq_true', decide_eq_false_iff_not] at h
  exact ⟨h.1.1, h.1.2, h.2⟩
/-! ### lists of expressions -/
theorem star_no {e : Expr} {es : List Expr} {env : PySem.Env} (h : isSt e = false) : starEach (e :: es) env = (false, eval e env) :: starEach es env := by
  cases e <;> first | rfl | cases h
theorem asg_no {e : Expr} {es : List Expr} {env : PySem.Env} (h : isSt e = false) : assignEach (e :: es) env = (false, PySem.assign e env) :: assignEach es env := by
  cases e <;> first | rfl | cases h
theorem noSt_cons {e : Expr} {es : List Expr} (h : noSt (e :: es) = true) : isSt e = false ∧ noSt es = true := by
  unfold noSt at h
  rw [List.all_cons, Bool.and_eq_true] at h
  exact ⟨by simpa using h.1, h.2⟩
theorem star_any {env : PySem.Env} {pos : Pos} : ∀ {es : List Expr}, noSt es = true → (backTo pos (starEach es env)).any (·.1) = false
  | [], _ => rfl
  | e :: es, h => by
    obtain ⟨h1, h2⟩ := noSt_cons h
    rw [star_no h1]
    show (false || (backTo pos (starEach es env)).any (·.1)) = false
    rw [star_any h2]; rfl
theorem star_all {env : PySem.Env} {pos : Pos} : ∀ {es : List Expr}, noSt es = true → (backTo pos (starEach es env)).all (fun x => !x.1) = true
  | [], _ => rfl
  | e :: es, h => by
    obtain ⟨h1, h2⟩ := noSt_cons h
    rw [star_no h1]
    show (true && (backTo pos (starEach es env)).all (fun x => !x.1)) = true
    rw [star_all h2]; rfl
theorem base_ok {e : Expr} {f : Str} {env : PySem.Env} (h : baseB e = true) : attributeBase e f env (eval e env) = eval e env := by
  unfold baseB at h
  split at h
  · cases h
  · rename_i hn
    cases e with
    | Call fn as kw pos =>
      cases fn with
      | Name id p =>
        cases as with
        | nil =>
          cases kw with
          | nil => exact absurd rfl (hn id p pos)
          | cons _ _ => rfl
        | cons _ _ => rfl
      | _ => rfl
    | _ => rfl
theorem plain_ix {e : Expr} (h : isSlc e = false) : PlainIx e := by
  cases e <;> first | (intro o i; rfl) | cases h
theorem meth_ht {o : Expr} {m : Str} {apos pos : Pos} {as : List Expr} {env : PySem.Env} (hb : baseB o = true) (hl : (apos.endLine == pos.line) = true) (hs : noSt as = true) (h30 : as.length < 30) :
    eval (.Call (.Attribute o m apos) as [] pos) env = (do
      let ov ← eval o env
      standAt apos.atName
      let (f, first) ← holding [ov] (getMethod ov m (do return (← importBound o env).getD true))
      callWith pos f first (backTo pos (starEach as env)) (backToKw pos (keywordEach [] env))) := by
  show (do
    let ov ← attributeBase o m env (eval o env)
    standAt apos.atName
    methodCall o m apos pos env ov (as.length + 0) (backTo pos (starEach as env)) (backToKw pos (keywordEach [] env))) = _
  rw [base_ok hb]
  have hf : methodCallForm (as.length + 0) (backTo pos (starEach as env)) (backToKw pos (keywordEach [] env)) = true := by
    unfold methodCallForm
    rw [star_all hs]
    show (true && true && decide (as.length + 0 + 0 < 30)) = true
    simpa using h30
  unfold methodCall calleeOf methodCallPos
  rw [hf]
  simp only [if_true, Bool.not_true, Bool.false_or, hl, pure_bind]
theorem swapsNo {e : Expr} {t : Option Expr} {l : Nat} {env : PySem.Env} (h : (match e with
    | .ListComp .. => false
    | .SetComp .. => false
    | .DictComp .. => false
    | _ => true) = true) : swapsWith e t l env = pure false := by
  cases e <;> first | rfl | cases h
end
end MP
namespace MP
open PySem PySem.Spec PyProof.Rows L2

theorem insI_mem {x k : Int} : ∀ {ns : List Int}, k ∈ insI x ns ↔ k = x ∨ k ∈ ns
  | [] => by simp [insI]
  | y :: ys => by
    rw [insI]
    split
    · simp
    · split
      · rename_i h; subst h; simp
      · simp only [List.mem_cons, insI_mem (ns := ys)]
        exact ⟨fun h => h.elim (fun z => .inr (.inl z)) fun z => z.elim .inl fun z => .inr (.inr z), fun h => h.elim (fun z => .inr (.inl z)) fun z => z.elim .inl fun z => .inr (.inr z)⟩
theorem insI_sorted {x : Int} : ∀ {ns : List Int}, ns.Pairwise (· < ·) → (insI x ns).Pairwise (· < ·)
  | [], _ => by simp [insI]
  | y :: ys, h => by
    obtain ⟨h1, h2⟩ := List.pairwise_cons.mp h
    rw [insI]
    split
    · rename_i hx
      refine List.pairwise_cons.mpr ⟨fun z hz => ?_, h⟩
      rcases List.mem_cons.mp hz with rfl | hz
      · exact hx
      · have := h1 z hz; omega
    · split
      · exact h
      · rename_i hx hy
        refine List.pairwise_cons.mpr ⟨fun z hz => ?_, insI_sorted h2⟩
        rcases insI_mem.mp hz with rfl | hz
        · omega
        · exact h1 z hz
theorem setI_mem {k : Int} : ∀ {ns : List Int}, k ∈ setI ns ↔ k ∈ ns
  | [] => by simp [setI]
  | x :: xs => by
    have ih := setI_mem (k := k) (ns := xs)
    show k ∈ insI x (setI xs) ↔ _
    rw [insI_mem, ih, List.mem_cons]
theorem setI_sorted : ∀ (ns : List Int), (setI ns).Pairwise (· < ·)
  | [] => List.Pairwise.nil
  | x :: xs => insI_sorted (setI_sorted xs)
theorem rise_eq : ∀ {a b : List Int}, a.Pairwise (· < ·) → b.Pairwise (· < ·) → (∀ k, k ∈ a ↔ k ∈ b) → a = b
  | [], [], _, _, _ => rfl
  | [], y :: ys, _, _, h => by have := (h y).mpr List.mem_cons_self; simp at this
  | x :: xs, [], _, _, h => by have := (h x).mp List.mem_cons_self; simp at this
  | x :: xs, y :: ys, ha, hb, h => by
    obtain ⟨a1, a2⟩ := List.pairwise_cons.mp ha
    obtain ⟨b1, b2⟩ := List.pairwise_cons.mp hb
    have e : x = y := by
      rcases List.mem_cons.mp ((h x).mp List.mem_cons_self) with e | hx
      · exact e
      · rcases List.mem_cons.mp ((h y).mpr List.mem_cons_self) with e | hy
        · exact e.symm
        · have := b1 x hx; have := a1 y hy; omega
    subst e
    refine congrArg _ (rise_eq a2 b2 fun k => ⟨fun hk => ?_, fun hk => ?_⟩)
    · have := a1 k hk
      exact (List.mem_cons.mp ((h k).mp (List.mem_cons_of_mem _ hk))).resolve_left (by omega)
    · have := b1 k hk
      exact (List.mem_cons.mp ((h k).mpr (List.mem_cons_of_mem _ hk))).resolve_left (by omega)
section
variable {X : Cx} {L : Lay} {P : Prog} {cf : Nat → List PV → Store → Res PV}
def rSetT (K : Fg) (w : World) : List V → Hp → VK → Prop := fun xs H Q => ∃ (l : Addr) (ns : List Int), xs = [.ref l] ∧ SqT K H l (ns.map V.int) ∧ ns.length < 64 ∧ ∀ p c, H p = none → c ≤ ns.length → Q (.ref p) (upd H p (SetO w p (fun j => decide (j ∈ ns)) c))
theorem cr_setT (hc : X.calm = true) : CallR X (.type "set") (rSetT X.K X.w) := by
  intro pins s σ H xs us Q I r h
  obtain ⟨l, ns, rfl, hq, hl, q⟩ := h
  obtain ⟨u, rfl, ru⟩ := r.one
  cases ru
  obtain ⟨its, rv, pt, hz⟩ := I.tuple hq
  have hi : IntsAre its.toArray.toList ns := ints_of_vals rv
  refine call_set_tupI ns (I.ok.hd hc) (show s.heap.IsTuple l its.toArray from pt) hi (by unfold scanBound; omega) fun h' tk c R1 hcn k => ?_
  exact ⟨.ref _, _, I.laid (t' := tk) k (Nat.le_refl _) (setO_new R1), rfl, q _ c (I.hok.fresh (Nat.le_refl _)) hcn⟩
theorem reps_ints {H : Hp} {μ : List Addr} : ∀ (ns : List Int), Reps L H μ (ns.map PV.int) (ns.map V.int)
  | [] => .nil
  | n :: ns => .cons Rep.int_ (reps_ints ns)
/-! ### repr -/
def rRp (L : Lay) (P : Prog) : List V → Hp → VK → Prop := fun vs H Q => ∃ μ v x t, vs = [x] ∧ RepD L H μ v x ∧ P.rpr v = some t ∧ Q (.str ⟨t.toArray⟩) H
theorem cr_rpr (hK : X.K = L.K) (hu : X.A.units + 65 < cLine) (hgd : X.A.guards = some []) (hp : ∀ v t, P.rpr v = some t → RprOk v t) : CallR X (.builtin "repr") (rRp L P) := by
  intro pins s σ H xs us Q I r h
  obtain ⟨μ, v, x, t, rfl, rd, e, q⟩ := h
  obtain ⟨u, rfl, ru⟩ := r.one
  obtain ⟨hf, d, hs, hl, rfl⟩ := hp v t e
  obtain ⟨as, rds⟩ := reads_of hK I rd d ru
  have hx : ∃ a, u = Value.ref a := by
    rcases hf with ⟨ys, rfl⟩ | ⟨ys, rfl⟩
    · obtain ⟨a, vs, rfl, _⟩ := rd.tup; exact ⟨a, ru⟩
    · obtain ⟨a, vs, rfl, _⟩ := rd.lst; exact ⟨a, ru⟩
  obtain ⟨a, rfl⟩ := hx
  have hdep := depth_of d
  refine repr_of_reads' rds hs (PyData.noDict_hsm (PyData.hasDict_of_canLay _ (canLay_toD v (isD_of d)))) hgd (by omega) (fun _ _ e => e) (fun h' u tk k => ?_) hl
  exact ⟨.str _, H, I.kept (t' := tk) k, ⟨u, rfl⟩, q⟩
theorem e_rpr (hK : X.K = L.K) (hu : X.A.units + 65 < cLine) (hgd : X.A.guards = some []) (hp : ∀ v t, P.rpr v = some t → RprOk v t) {a : Expr} {ia : IE} {p pos : Pos} (hg : Gl X "repr") (hm : X.mg "repr" = none) (ha : PE X a (tE P cf L ia)) (hs : isSt a = false) :
    PE X (.Call (.Name "repr" p) [a] [] pos) (tE P cf L (.rpr ia)) := by
  refine (pe_callB (cr_rpr hK hu hgd hp) hg hm boot_repr (pa_cons ha pa_nil (star_no hs)) (by decide) (by decide) (star_no hs) rfl).mono fun σ H Q q => ?_
  obtain ⟨μ, env, st, v, st', S, ev, q⟩ := q
  rw [evalE] at ev
  obtain ⟨x, st1, e1, ev⟩ := Res.bind_eq_ok ev
  obtain ⟨e2, rfl⟩ := Res.opt_eq_ok ev
  rw [Option.map_eq_some_iff] at e2
  obtain ⟨t, e2, rfl⟩ := e2
  refine ⟨μ, env, st, x, st', S, e1, fun μ1 H1 x1 S1 r1 E1 => ?_⟩
  exact ⟨μ1, _, x1, t, rfl, r1.d S1, e2, q μ1 H1 _ S1 Rep.str_ E1⟩
end
end MP
namespace MP
open PySem PySem.Spec PyProof.Rows L2

/-! ### set(list of ints) -/
abbrev fresh0 (w : World) : Obj := { cls := .type "set", dict := none, data := .set #[] 0 (.fresh 0 0 (!w.params.followText "set-order")) }
section
variable {P : Program} {w : World} {A : Around} {E : Value → Shared → Prop} {s : Shared}
/-- what the filling leaves -/
def Filled (w : World) (ns : List Int) (s : Shared) (r : Value) (y : Shared) : Prop := r = .none ∧ ∃ h' tk c, y = { s with heap := h', toks := tk } ∧ SetR w h' s.heap.objs.size (fun j => decide (j ∈ ns)) c ∧ c ≤ ns.length ∧ ∀ b o, s.heap.get? b = some o → h'.get? b = some o
set_option maxRecDepth 100000 in
set_option maxHeartbeats 3200000 in
theorem set_init {B : Around} {l : Addr} {items : Array Value} (ns : List Int) (hh : A.handled = none) (hl : s.heap.IsList l items) (hit : IntsAre items.toList ns) (hb : ns.length + 1 < scanBound) :
    wpAny (model P w) A (Builtin.«set.__init__» ⟨[.ref s.heap.objs.size, .ref l], []⟩) (fun fin z => match fin with
      | .done f => wants (Filled w ns s) E (.ok f) z
      | .again c => c.quiet = true ∧ codeAny (model P w) B c (wants (Filled w ns s) E) z) (fun e z => wants (Filled w ns s) E (.error e) z) { s with heap := s.heap.push (fresh0 w) } := by
  have isz : items.size = ns.length := by
    have q := IntsAre.length hit
    rwa [Array.length_toList] at q
  have atS : (s.heap.push (fresh0 w)).get? s.heap.objs.size = some (fresh0 w) := Heap.get?_push_size _ rfl
  have hT : Shared.TypeIs { s with heap := s.heap.push (fresh0 w) } (.ref s.heap.objs.size) "set" := ⟨_, atS, rfl⟩
  obtain ⟨⟨oc, od, dt, os⟩, e0, ec, n, ed⟩ := hl
  simp only at ec ed
  cases ec
  cases ed
  have lS : l < s.heap.objs.size := Heap.lt_size e0
  have e1 : (s.heap.push (fresh0 w)).get? l = some ⟨.type "list", od, .seq items n, os⟩ := Heap.get?_push_of_some _ e0
  have l1 : (s.heap.push (fresh0 w)).IsList l items := ⟨_, e1, rfl, n, rfl⟩
  have nI : l ≠ (s.heap.push (fresh0 w)).objs.size := by
    rw [Heap.size_push]
    exact Nat.ne_of_lt (Nat.lt_succ_of_lt lS)
  have out : s.heap.objs.size ∉ [(s.heap.push (fresh0 w)).objs.size, l] := by
    rw [Heap.size_push]
    intro q
    rcases List.mem_cons.mp q with q | q
    · exact absurd q (Nat.ne_of_lt (Nat.lt_succ_self _))
    · exact absurd (List.mem_singleton.mp q) (Nat.ne_of_gt lS)
  have val : ∀ (i : Nat) (v : Value), items[i]? = some v → ∃ k t, ns[i]? = some k ∧ v = .int k t := by
    intro i v hv
    obtain ⟨i1, _⟩ := Array.getElem?_eq_some_iff.mp hv
    have i2 : i < ns.length := by omega
    obtain ⟨t, e⟩ := PyProof.Rows.IntsAre.int_at hit i v (by rw [Array.getElem?_toList]; exact hv)
    exact ⟨ns[i], t, List.getElem?_eq_getElem i2, by rw [e, List.getD_eq_getElem?_getD, List.getElem?_eq_getElem i2] <;> rfl⟩
  have d1 := F.sub_list_set
  have d2 := F.sub_list_frozenset
  have d3 : (Value.type "list" == Value.type "dict") = false := by decide
  unfold Builtin.«set.__init__» noKeywords Builtin.Frozenset.updateFrom
  generalize hP : pyIter = Z
  wp_walk
  subst hP
  refine wpAny_pyIter_list l1 ?_
  refine wpAny_bind (wpAny_runValue ?_)
  have h3 : A.in1.handled = none := hh
  refine set_update_ints ((Walks.list h3 _ l nI items).toS) s.heap.objs.size out ns isz hb val (items.size - 0) 0 _ (by omega) (Nat.zero_le _) ⟨⟨_, Heap.get?_push_size _ rfl, rfl, rfl⟩, l1.push _⟩ ⟨0, Nat.le_refl 0, setR_new_at (Heap.get?_push_of_some _ atS)⟩ fun y c hm hc hS => ?_
  obtain ⟨h', g2, d', tk', os'⟩ := y
  cases hm.gens
  cases hm.drawn
  cases hm.os
  show wpAny _ _ _ _ _ _
  refine wpAny_pure ?_
  show wpAny _ _ (ret Value.none) _ _ _
  refine wpAny_pure ⟨rfl, h', tk', c, rfl, hS, by rw [isz] at hc; exact hc, fun b o e => ?_⟩
  have b0 : b < s.heap.objs.size := Heap.lt_size e
  refine hm.heap b o (fun q => ?_) (Heap.get?_push_of_some _ (Heap.get?_push_of_some _ e))
  rcases List.mem_cons.mp q with q | q
  · exact absurd q (Nat.ne_of_lt b0)
  · rw [List.mem_singleton.mp q, Heap.size_push] at b0
    exact absurd b0 (Nat.not_lt.mpr (Nat.le_succ _))
set_option maxRecDepth 100000 in
set_option maxHeartbeats 3200000 in
theorem set_list {l : Addr} {items : Array Value} (ns : List Int) {Q : Value → Shared → Prop} (hh : A.handled = none) (hl : s.heap.IsList l items) (hit : IntsAre items.toList ns) (hb : ns.length + 1 < scanBound)
    (h : ∀ (h' : Heap) (tk c : Nat), SetR w h' s.heap.objs.size (fun j => decide (j ∈ ns)) c → c ≤ ns.length → (∀ b o, s.heap.get? b = some o → h'.get? b = some o) → Q (.ref s.heap.objs.size) { s with heap := h', toks := tk }) :
    wpAny (model P w) A (call (.type "set") [.ref l]) Q E s := by
  obtain ⟨cc, ctl, k0⟩ := F.called_set.mro
  have k1 := F.called_set.made
  have k2 := F.called_set.sub
  have k3 := F.called_set.notType
  have k4 := F.called_set.canCreate
  have k5 := F.typeCall_set_1 (.ref l)
  refine wpAny_call (codeAny_of_tree ?_)
  show wpAny _ _ (callAny (.type "set") _) _ _ _
  refine wpAny_pure ⟨Code.quiet_builtin _ (by decide +kernel), ?_⟩
  refine codeAny_builtin F.entry_type_call ?_
  rw [Around.under_plain (weight_type_call_type "set" [.ref l] []) rfl]
  repeat (any_goals (first | assumption | wp_step))
  refine codeAny_mono (code_set_led1 (.ref l) (E := E) (Q₁ := fun ob z => ob = .ref s.heap.objs.size ∧ z = { s with heap := s.heap.push (fresh0 w) }) ⟨rfl, rfl⟩) fun r z hr => ?_
  cases r with
  | error e => exact hr
  | ok fl =>
    cases fl with
    | ret ob =>
      obtain ⟨rfl, rfl⟩ := hr
      have atS : (s.heap.push (fresh0 w)).get? s.heap.objs.size = some (fresh0 w) := Heap.get?_push_size _ rfl
      have hT : Shared.TypeIs { s with heap := s.heap.push (fresh0 w) } (.ref s.heap.objs.size) "set" := ⟨_, atS, rfl⟩
      have k6 := F.called_set.init.lookup
      have k7 := F.called_set.init.bind (.ref s.heap.objs.size)
      repeat (any_goals (first | assumption | wp_step))
      refine codeAny_mono (codeAny_call_builtin (R := wants (Filled w ns s) E) F.called_set.init.plain F.entry_set_init (check_set_init_1 hT ?_)) fun r2 z2 hr2 => ?_
      · exact set_init (A := A.in1.in1) ns hh hl hit hb
      · cases r2 with
        | error e => exact hr2
        | ok fl2 =>
          cases fl2 with
          | ret r =>
            obtain ⟨rfl, h', tk, c, rfl, hS, hc, hk⟩ := hr2
            repeat (any_goals (first | assumption | wp_step))
            exact h _ _ _ hS hc hk
          | _ => exact hr2.elim
    | _ => exact hr.elim
def rSetL (w : World) : List V → Hp → VK → Prop := fun xs H Q => ∃ (l : Addr) (ns : List Int), xs = [.ref l] ∧ Rd H l (.lst (ns.map V.int)) ∧ ns.length < 64 ∧ ∀ p c, H p = none → c ≤ ns.length → Q (.ref p) (upd H p (SetO w p (fun j => decide (j ∈ ns)) c))
theorem cr_setL {X : Cx} (hc : X.calm = true) : CallR X (.type "set") (rSetL X.w) := by
  intro pins s σ H xs us Q I r h
  obtain ⟨l, ns, rfl, hq, hl, q⟩ := h
  obtain ⟨u, rfl, ru⟩ := r.one
  cases ru
  obtain ⟨z, its, n, rv, hlen, e⟩ := I.rdL hq
  have hi : IntsAre its.toArray.toList ns := ints_of_vals rv
  refine set_list ns (I.ok.hd hc) ⟨_, e, rfl, n, rfl⟩ hi (by unfold scanBound; omega) fun h' tk c R1 hcn k => ?_
  exact ⟨.ref _, _, I.laid (t' := tk) k (Nat.le_refl _) (setO_new R1), rfl, q _ c (I.hok.fresh (Nat.le_refl _)) hcn⟩
def rSetB (K : Fg) (w : World) : List V → Hp → VK → Prop := fun xs H Q => rSetT K w xs H Q ∨ rSetL w xs H Q
theorem cr_setB {X : Cx} (hc : X.calm = true) : CallR X (.type "set") (rSetB X.K X.w) := fun pins s σ H xs us Q I r h => h.elim (cr_setT hc pins s σ H xs us Q I r) (cr_setL hc pins s σ H xs us Q I r)
end
section
variable {X : Cx} {L : Lay} {P : Prog} {cf : Nat → List PV → Store → Res PV}
/-- sorted(set(..)) -/
theorem e_sset (hK : X.K = L.K) (hc : X.calm = true) {a : Expr} {ia : IE} {p1 p2 q1 q2 : Pos} (hg : Gl X "sorted") (hm : X.mg "sorted" = none) (hg2 : Gl X "set") (hm2 : X.mg "set" = none) (ha : PE X a (tE P cf L ia)) (hs : isSt a = false) :
    PE X (.Call (.Name "sorted" p1) [.Call (.Name "set" p2) [a] [] q1] [] q2) (tE P cf L (.pr1 .set ia)) := by
  refine (pe_callB (cr_sortedSet hc) hg hm boot_sorted (pa_cons (pe_callTy (cr_setB hc) hg2 hm2 PyProof.Rows.boot_set (pa_cons ha pa_nil (star_no hs)) (by decide) (by decide) (star_no hs) rfl) pa_nil rfl) (by decide) (by decide) rfl rfl).mono fun σ H Q q => ?_
  obtain ⟨μ, env, st, v, st', S, ev, q⟩ := q
  obtain ⟨x, e1, e2⟩ := pr1_inv ev
  refine ⟨μ, env, st, x, st', S, e1, fun μ1 H1 x1 S1 r1 E1 => ?_⟩
  have d := r1.d S1
  cases hd : der st' x with
  | tup xs =>
    rw [hd] at e2 d
    simp only [prim1] at e2
    rw [Option.bind_eq_some_iff] at e2
    obtain ⟨ns, hn, e2⟩ := e2
    split at e2
    · rename_i h64
      cases e2
      obtain ⟨a1, ws, rfl, s1, rv⟩ := d.tup
      have hw := rv.ints hn
      subst hw
      refine .inl ⟨a1, ns, rfl, by rw [hK]; exact s1.sq, h64, fun p c hp hcl => ?_⟩
      refine ⟨p, _, c, rfl, upd_same, by omega, fun ns' p2' hr hmem hlen hp2 => ?_⟩
      have e : ns' = setI ns := rise_eq hr (setI_sorted ns) fun k => by rw [hmem, setI_mem, decide_eq_true_eq]
      subst e
      obtain ⟨a', b', c'⟩ := (S1.new (o := SetO X.w p (fun j => decide (j ∈ ns)) c) hp).upl (vs := (setI ns).map V.int) (xs := (setI ns).map PV.int) hp2 (reps_ints _)
      exact q μ1 _ _ a' b' (E1.trans ((Ext.new_ hp).trans c'))
    · cases e2
  | lst xs =>
    rw [hd] at e2 d
    simp only [prim1] at e2
    rw [Option.bind_eq_some_iff] at e2
    obtain ⟨ns, hn, e2⟩ := e2
    split at e2
    · rename_i h64
      cases e2
      obtain ⟨a1, ws, rfl, s1, rv⟩ := d.lst
      have hw := rv.ints hn
      subst hw
      refine .inr ⟨a1, ns, rfl, s1, h64, fun p c hp hcl => ?_⟩
      refine ⟨p, _, c, rfl, upd_same, by omega, fun ns' p2' hr hmem hlen hp2 => ?_⟩
      have e : ns' = setI ns := rise_eq hr (setI_sorted ns) fun k => by rw [hmem, setI_mem, decide_eq_true_eq]
      subst e
      obtain ⟨a', b', c'⟩ := (S1.new (o := SetO X.w p (fun j => decide (j ∈ ns)) c) hp).upl (vs := (setI ns).map V.int) (xs := (setI ns).map PV.int) hp2 (reps_ints _)
      exact q μ1 _ _ a' b' (E1.trans ((Ext.new_ hp).trans c'))
    · cases e2
  | _ => rw [hd] at e2; simp [prim1] at e2
/-- list(range(..)) -/
theorem e_lrg (hc : X.calm = true) {a : Expr} {ia : IE} {p1 p2 q1 q2 : Pos} (hg : Gl X "list") (hm : X.mg "list" = none) (hg2 : Gl X "range") (hm2 : X.mg "range" = none) (ha : PE X a (tE P cf L ia)) (hs : isSt a = false) :
    PE X (.Call (.Name "list" p1) [.Call (.Name "range" p2) [a] [] q1] [] q2) (tE P cf L (.pr1 .list (.rng (.con (.int 0)) ia))) := by
  refine (pe_listRg hc hg hm (prg_1 hg2 hm2 ha (star_no hs)) (by rfl)).mono fun σ H Q q => ?_
  obtain ⟨μ, env, st, v, st', S, ev, q⟩ := q
  obtain ⟨x, e1, e2⟩ := pr1_inv ev
  obtain ⟨st1, a', b, e3, e4, ⟨_, _, h3, h4, h5⟩, rfl⟩ := rng_inv e1
  rw [evalE] at e3
  cases e3
  cases e2
  refine ⟨μ, env, st, _, st', S, e4, fun μ1 H1 x1 S1 r1 E1 => ?_⟩
  rw [Rep] at r1
  subst r1
  unfold i62 at h3 h4
  refine ⟨b, rfl, ⟨by omega, by omega, by omega, by omega, by omega⟩, fun p hp => ?_⟩
  have e : rgV 0 b = ((List.range (b - 0).toNat).map fun i => (0 + (i : Nat) : Int)).map V.int := by rw [List.map_map]; rfl
  have e' : ((List.range (b - 0).toNat).map fun i => PV.int (0 + (i : Nat))) = ((List.range (b - 0).toNat).map fun i => (0 + (i : Nat) : Int)).map PV.int := by rw [List.map_map]; rfl
  rw [e]
  obtain ⟨a', b', c'⟩ := S1.upl (vs := ((List.range (b - 0).toNat).map fun i => (0 + (i : Nat) : Int)).map V.int) (xs := ((List.range (b - 0).toNat).map fun i => (0 + (i : Nat) : Int)).map PV.int) hp (reps_ints _)
  refine q μ1 _ _ a' ?_ (E1.trans c')
  rw [e']
  exact b'
end
end MP
namespace MP
open PySem PySem.Spec PyProof.Rows L2

section
variable (X : Cx) (L : Lay) (P : Prog) (cf : Nat → List PV → Store → Res PV)
structure Good (ie : IE) (e : Expr) : Prop where
  pe : PE X e (tE P cf L ie)
  pt : isT e = true → PT X e (tT P cf L ie)
  pw : isB e = true → PW X e (tT P cf L ie)
  pn : isN ie = true → PE X e (tN P cf L ie)
def GoodX (m : Nat) (ie : IE) (e : Expr) : Prop := (isIt ie = false → Good X L P cf ie e) ∧ ∀ tg, 0 < m → (m = 2 → isTupE tg = true) → PI X tg e (tI P cf L ie)
end
section
variable {G : Gb} {L : Lay} {P : Prog} {T : Tab} {n : Nat} {C : Sc} {X : Cx} {cf : Nat → List PV → Store → Res PV} {ie : IE} {e : Expr} {m : Nat}
theorem Good.x (hK : X.K = L.K) (h : Good X L P cf ie e) : GoodX X L P cf m ie e := ⟨fun _ => h, fun tg _ _ => i_any hK h.pe⟩
theorem Good.of (h : PE X e (tE P cf L ie)) (he : ∀ whole, isTrue e X.env whole = (do let v ← whole; standAt e.pos; holding [v] (truthy v))) (hb : isB e = false) (hn : isN ie = false) : Good X L P cf ie e :=
  ⟨h, fun _ => pt_of h he, fun z => absurd (hb.symm.trans z) Bool.false_ne_true, fun z => absurd (hn.symm.trans z) Bool.false_ne_true⟩
theorem Good.fr (h : PE X e (tN P cf L ie)) (hl : ∀ env st v st', evalE P cf ie env st = .ok v st' → ∃ xs, v = .lst xs) (he : ∀ whole, isTrue e X.env whole = (do let v ← whole; standAt e.pos; holding [v] (truthy v))) (hb : isB e = false) : Good X L P cf ie e :=
  ⟨pe_fresh h hl, fun _ => pt_of (pe_fresh h hl) he, fun z => absurd (hb.symm.trans z) Bool.false_ne_true, fun _ => h⟩
theorem not_it {C : Sc} (h : chkE T ie 0 C e = true) : isIt ie = false := by
  cases ie <;> first | rfl | simp [chkE] at h
theorem b2 {a b : Bool} (h : (a && b) = true) : a = true ∧ b = true := by rwa [Bool.and_eq_true] at h
theorem bn {a : Bool} (h : (!a) = true) : a = false := by cases a <;> first | rfl | cases h
theorem op_snd (hK : X.K = L.K) {b : BOp} {o : Operator} (h : bopB b o = true) : OpR X (binaryOp o) (r2 L fun st x y => binop b (der st x) (der st y)) := by
  unfold bopB at h
  split at h
  · exact o_add hK
  · exact o_sub
  · exact o_mul
  · exact o_fdiv
  · exact o_mod
  · exact o_pow
  · exact o_shl
  · exact o_shr
  · exact o_and
  · exact o_or
  · cases h
theorem cop_snd (hK : X.K = L.K) (hu : X.A.units + 65 < cLine) {c : COp} {o : CmpOp} (h : copB c o = true) : OpR X (compareOp o) (rC L c) := by
  have hu' : X.A.units + 64 < cLine := by omega
  unfold copB at h
  split at h
  · exact c_eq hK hu'
  · exact c_ne hK hu'
  · exact c_lt hK hu'
  · exact c_le hK hu'
  · exact c_gt hK hu'
  · exact c_ge hK hu'
  · exact c_in hK hu
  · exact c_notin hK hu
  · exact c_is
  · exact c_isnot
  · cases h
theorem con_rep (v : PV) (w : V) (h : (v = .non ∧ w = .non) ∨ (∃ b, v = .bl b ∧ w = .bl b) ∨ (∃ i, v = .int i ∧ w = .int i) ∨ ∃ s : Str, v = .str s.cps.toList ∧ w = .str s) : ∀ H μ, Rep L H μ v w := fun H μ => by
  rcases h with ⟨rfl, rfl⟩ | ⟨b, rfl, rfl⟩ | ⟨i, rfl, rfl⟩ | ⟨s, rfl, rfl⟩
  · exact Rep.non_
  · exact Rep.bl_
  · exact Rep.int_
  · rw [Rep]
/-- sorted(list) -/
theorem e_sort (hK : X.K = L.K) (hu : X.A.units + 65 < cLine) {a : Expr} {ia : IE} {p pos : Pos} (hg : Gl X "sorted") (hm : X.mg "sorted" = none) (ha : PE X a (tE P cf L ia)) (hs : isSt a = false) : PE X (.Call (.Name "sorted" p) [a] [] pos) (tE P cf L (.pr1 .sorted ia)) := by
  refine (pe_callB (cr_sort hK hu) hg hm boot_sorted (pa_cons ha pa_nil (star_no hs)) (by decide) (by decide) (star_no hs) rfl).mono fun σ H Q q => ?_
  obtain ⟨μ, env, st, v, st', S, ev, q⟩ := q
  obtain ⟨x, e1, e2⟩ := pr1_inv ev
  refine ⟨μ, env, st, x, st', S, e1, fun μ1 H1 x1 S1 r1 E1 => ?_⟩
  have d := r1.d S1
  cases hd : der st' x with
  | lst xs =>
    rw [hd] at e2 d
    simp only [prim1] at e2
    split at e2
    · rename_i ok
      cases e2
      obtain ⟨a1, ws, rfl, hl, rw'⟩ := d.lst
      refine ⟨μ1, a1, xs, ws, rfl, hl, rw', ok, fun p ws' hp hr => ?_⟩
      obtain ⟨a, b, c⟩ := S1.upl hp hr
      exact q μ1 _ _ a b (E1.trans c)
    · cases e2
  | _ => rw [hd] at e2; simp [prim1] at e2
theorem p1_snd (hK : X.K = L.K) (hu : X.A.units + 65 < cLine) (hc : X.calm = true) {p : P1} {x : Str} (h : p1S p = some x) {a : Expr} {ia : IE} {pp pos : Pos} (hg : Gl X x) (hm : X.mg x = none) (ha : PE X a (tE P cf L ia)) (hs : isSt a = false) :
    PE X (.Call (.Name x pp) [a] [] pos) (tE P cf L (.pr1 p ia)) := by
  have hA : PA X [a] (tA P cf L (.cons ia .nil)) := a_cons ha a_nil (star_no hs)
  unfold p1S at h
  split at h
  · cases h; exact tcb1 hA fun t ht => pe_callB (p_len hK) hg hm boot_len ht (by decide) (by decide) (star_no hs) rfl
  · cases h; exact tcb1 hA fun t ht => pe_callTy (p_tuple hK) hg hm boot_tuple ht (by decide) (by decide) (star_no hs) rfl
  · cases h; exact tcb1 hA fun t ht => pe_callTy (p_list hK) hg hm boot_list ht (by decide) (by decide) (star_no hs) rfl
  · cases h; exact tcb1 hA fun t ht => pe_callB (p_sum hc) hg hm boot_sum ht (by decide) (by decide) (star_no hs) rfl
  · cases h; exact tcb1 hA fun t ht => pe_callB (p_any hc) hg hm boot_any ht (by decide) (by decide) (star_no hs) rfl
  · cases h; exact tcb1 hA fun t ht => pe_callB (p_all hc) hg hm boot_all ht (by decide) (by decide) (star_no hs) rfl
  · cases h; exact tcb1 hA fun t ht => pe_callB p_abs hg hm boot_abs ht (by decide) (by decide) (star_no hs) rfl
  · cases h; exact tcb1 hA fun t ht => pe_callTy p_int hg hm boot_int ht (by decide) (by decide) (star_no hs) rfl
  · cases h; exact e_sort hK hu hg hm ha hs
  · cases h
theorem p2_snd (hc : X.calm = true) {p : P2} {x : Str} (h : p2S p = x) {a b : Expr} {ia ib : IE} {pp pos : Pos} (hg : Gl X x) (hm : X.mg x = none) (ha : PE X a (tE P cf L ia)) (hs : isSt a = false) (hb : PE X b (tE P cf L ib)) (hs2 : isSt b = false) :
    PE X (.Call (.Name x pp) [a, b] [] pos) (tE P cf L (.pr2 p ia ib)) := by
  have hA : PA X [a, b] (tA P cf L (.cons ia (.cons ib .nil))) := a_cons ha (a_cons hb a_nil (star_no hs2)) (star_no hs)
  have hpl : (backTo pos (starEach [b] X.env)).any (·.1) = false := by rw [star_no hs2]; rfl
  subst h
  cases p with
  | max => exact tcb2 hA fun t ht => pe_callB (p_max hc) hg hm boot_max ht (by decide) (by decide) (star_no hs) hpl
  | min => exact tcb2 hA fun t ht => pe_callB (p_min hc) hg hm boot_min ht (by decide) (by decide) (star_no hs) hpl
  | divmod => exact tcb2 hA fun t ht => pe_callB p_divmod hg hm boot_divmod ht (by decide) (by decide) (star_no hs) hpl
theorem ty_snd {w : Ty} {z : Str} {pz : Pos} (h : tyN w = some z) (hg : Gl X z) (hm : X.mg z = none) : okTy w = true ∧ PE X (.Name z pz) (tC (.ty (tyS w))) := by
  unfold tyN at h
  split at h
  · cases h; exact ⟨rfl, pe_bltn hg hm boot_int rfl (by decide) (by decide)⟩
  · cases h; exact ⟨rfl, pe_bltn hg hm boot_str rfl (by decide) (by decide)⟩
  · cases h; exact ⟨rfl, pe_bltn hg hm boot_tuple rfl (by decide) (by decide)⟩
  · cases h; exact ⟨rfl, pe_bltn hg hm boot_bool rfl (by decide) (by decide)⟩
  · cases h; exact ⟨rfl, pe_bltn hg hm boot_list rfl (by decide) (by decide)⟩
  · cases h; exact ⟨rfl, pe_bltn hg hm boot_dict rfl (by decide) (by decide)⟩
  · cases h
/-! ### targets -/
theorem gs_len : ∀ (t : IE) {C : Sc} {es : List Expr} {env : PySem.Env}, chkGs t C es = true → isTs t = true ∧ (assignEach es env).length = tlen t ∧ (assignEach es env).findIdx? (·.1) = none
  | .nil, C, es, env, h => by
    cases es with
    | nil => exact ⟨rfl, rfl, rfl⟩
    | cons _ _ => simp [chkGs] at h
  | .cons t r, C, es, env, h => by
    cases es with
    | nil => simp [chkGs] at h
    | cons e es =>
      simp only [chkGs, Bool.and_eq_true] at h
      obtain ⟨⟨h1, h2⟩, h3⟩ := h
      obtain ⟨a, b, c⟩ := gs_len (env := env) r h3
      rw [asg_no (bn h1)]
      exact ⟨a, by rw [List.length_cons, tlen, b], by rw [List.findIdx?_cons, c]; rfl⟩
  | .star _ _, _, _, _, h | .var _, _, _, _, h | .con _, _, _, _, h | .tup _, _, _, _, h | .lst _, _, _, _, h | .nw _, _, _, _, h | .bin .., _, _, _, h | .cmp .., _, _, _, h | .chn .., _, _, _, h | .and .., _, _, _, h | .or .., _, _, _, h
  | .not _, _, _, _, h | .neg _, _, _, _, h | .ite .., _, _, _, h | .idx .., _, _, _, h | .slc .., _, _, _, h | .call .., _, _, _, h | .callk .., _, _, _, h | .make .., _, _, _, h | .meth .., _, _, _, h | .fld .., _, _, _, h
  | .pr1 .., _, _, _, h | .pr2 .., _, _, _, h | .isi .., _, _, _, h | .comp .., _, _, _, h | .comp2 .., _, _, _, h | .sortk .., _, _, _, h | .rng .., _, _, _, h | .enm .., _, _, _, h | .zip .., _, _, _, h
  | .append .., _, _, _, h | .extend .., _, _, _, h | .pop .., _, _, _, h | .popat .., _, _, _, h | .insert .., _, _, _, h | .index .., _, _, _, h | .rpr .., _, _, _, h | .join .., _, _, _, h | .get .., _, _, _, h => nomatch (show (false : Bool) = true from h)
mutual
theorem chkG_ok : ∀ (t : IE) {C : Sc} {L : Lay} {X : Cx} {e : Expr}, XOk G L P T n C X → chkG t C e = true → PG X e (tG L t)
  | .var i, C, L, X, e, o, h => by
    simp only [chkG] at h
    split at h
    · obtain ⟨h1, h2⟩ := b2 h
      obtain ⟨a, b⟩ := o.loc h2
      exact g_name o.nd (by rw [o.N]; exact of_decide_eq_true h1) a b
    · cases h
  | .tup t, C, L, X, e, o, h => by
    simp only [chkG] at h
    split at h
    · obtain ⟨a, b, c⟩ := gs_len (env := X.env) t h
      exact g_tup o.K o.calm (chkGs_ok t o h) a b c
    · cases h
  | .nil, _, _, _, _, _, h | .cons _ _, _, _, _, _, _, h | .star _ _, _, _, _, _, _, h | .con _, _, _, _, _, _, h | .lst _, _, _, _, _, _, h | .nw _, _, _, _, _, _, h | .bin .., _, _, _, _, _, h | .cmp .., _, _, _, _, _, h | .chn .., _, _, _, _, _, h | .and .., _, _, _, _, _, h | .or .., _, _, _, _, _, h
  | .not _, _, _, _, _, _, h | .neg _, _, _, _, _, _, h | .ite .., _, _, _, _, _, h | .idx .., _, _, _, _, _, h | .slc .., _, _, _, _, _, h | .call .., _, _, _, _, _, h | .callk .., _, _, _, _, _, h | .make .., _, _, _, _, _, h | .meth .., _, _, _, _, _, h | .fld .., _, _, _, _, _, h
  | .pr1 .., _, _, _, _, _, h | .pr2 .., _, _, _, _, _, h | .isi .., _, _, _, _, _, h | .comp .., _, _, _, _, _, h | .comp2 .., _, _, _, _, _, h | .sortk .., _, _, _, _, _, h | .rng .., _, _, _, _, _, h | .enm .., _, _, _, _, _, h | .zip .., _, _, _, _, _, h
  | .append .., _, _, _, _, _, h | .extend .., _, _, _, _, _, h | .pop .., _, _, _, _, _, h | .popat .., _, _, _, _, _, h | .insert .., _, _, _, _, _, h | .index .., _, _, _, _, _, h | .rpr .., _, _, _, _, _, h | .join .., _, _, _, _, _, h | .get .., _, _, _, _, _, h => nomatch (show (false : Bool) = true from h)
theorem chkGs_ok : ∀ (t : IE) {C : Sc} {L : Lay} {X : Cx} {es : List Expr}, XOk G L P T n C X → chkGs t C es = true → PGs X es (tGs L t)
  | .nil, C, L, X, es, o, h => by
    cases es with
    | nil => exact gs_nil
    | cons _ _ => simp [chkGs] at h
  | .cons t r, C, L, X, es, o, h => by
    cases es with
    | nil => simp [chkGs] at h
    | cons e es =>
      simp only [chkGs, Bool.and_eq_true] at h
      obtain ⟨⟨h1, h2⟩, h3⟩ := h
      exact gs_cons (chkG_ok t o h2) (chkGs_ok r o h3) (by rw [asg_no (bn h1)]; rfl)
  | .star _ _, _, _, _, _, _, h | .var _, _, _, _, _, _, h | .con _, _, _, _, _, _, h | .tup _, _, _, _, _, _, h | .lst _, _, _, _, _, _, h | .nw _, _, _, _, _, _, h | .bin .., _, _, _, _, _, h | .cmp .., _, _, _, _, _, h | .chn .., _, _, _, _, _, h | .and .., _, _, _, _, _, h | .or .., _, _, _, _, _, h
  | .not _, _, _, _, _, _, h | .neg _, _, _, _, _, _, h | .ite .., _, _, _, _, _, h | .idx .., _, _, _, _, _, h | .slc .., _, _, _, _, _, h | .call .., _, _, _, _, _, h | .callk .., _, _, _, _, _, h | .make .., _, _, _, _, _, h | .meth .., _, _, _, _, _, h | .fld .., _, _, _, _, _, h
  | .pr1 .., _, _, _, _, _, h | .pr2 .., _, _, _, _, _, h | .isi .., _, _, _, _, _, h | .comp .., _, _, _, _, _, h | .comp2 .., _, _, _, _, _, h | .sortk .., _, _, _, _, _, h | .rng .., _, _, _, _, _, h | .enm .., _, _, _, _, _, h | .zip .., _, _, _, _, _, h
  | .append .., _, _, _, _, _, h | .extend .., _, _, _, _, _, h | .pop .., _, _, _, _, _, h | .popat .., _, _, _, _, _, h | .insert .., _, _, _, _, _, h | .index .., _, _, _, _, _, h | .rpr .., _, _, _, _, _, h | .join .., _, _, _, _, _, h | .get .., _, _, _, _, _, h => nomatch (show (false : Bool) = true from h)
end
mutual
theorem slots_lt : ∀ (t : IE) {C : Sc} {e : Expr}, chkG t C e = true → ∀ i ∈ slots t, i < C.N.length
  | .var j, C, e, h, i, hi => by
    simp only [chkG] at h
    split at h
    · have h1 := of_decide_eq_true (b2 h).1
      rw [slots, List.mem_singleton] at hi
      rw [hi]
      exact (List.getElem?_eq_some_iff.mp h1).1
    · cases h
  | .tup t, C, e, h, i, hi => by
    simp only [chkG] at h
    split at h
    · exact slots_lts t h i hi
    · cases h
  | .nil, _, _, h, _, _ | .cons _ _, _, _, h, _, _ | .star _ _, _, _, h, _, _ | .con _, _, _, h, _, _ | .lst _, _, _, h, _, _ | .nw _, _, _, h, _, _ | .bin .., _, _, h, _, _ | .cmp .., _, _, h, _, _ | .chn .., _, _, h, _, _ | .and .., _, _, h, _, _ | .or .., _, _, h, _, _
  | .not _, _, _, h, _, _ | .neg _, _, _, h, _, _ | .ite .., _, _, h, _, _ | .idx .., _, _, h, _, _ | .slc .., _, _, h, _, _ | .call .., _, _, h, _, _ | .callk .., _, _, h, _, _ | .make .., _, _, h, _, _ | .meth .., _, _, h, _, _ | .fld .., _, _, h, _, _
  | .pr1 .., _, _, h, _, _ | .pr2 .., _, _, h, _, _ | .isi .., _, _, h, _, _ | .comp .., _, _, h, _, _ | .comp2 .., _, _, h, _, _ | .sortk .., _, _, h, _, _ | .rng .., _, _, h, _, _ | .enm .., _, _, h, _, _ | .zip .., _, _, h, _, _
  | .append .., _, _, h, _, _ | .extend .., _, _, h, _, _ | .pop .., _, _, h, _, _ | .popat .., _, _, h, _, _ | .insert .., _, _, h, _, _ | .index .., _, _, h, _, _ | .rpr .., _, _, h, _, _ | .join .., _, _, h, _, _ | .get .., _, _, h, _, _ => nomatch (show (false : Bool) = true from h)
theorem slots_lts : ∀ (t : IE) {C : Sc} {es : List Expr}, chkGs t C es = true → ∀ i ∈ slots t, i < C.N.length
  | .nil, C, es, h, i, hi => by simp [slots] at hi
  | .cons t r, C, es, h, i, hi => by
    cases es with
    | nil => simp [chkGs] at h
    | cons e es =>
      simp only [chkGs, Bool.and_eq_true] at h
      obtain ⟨⟨h1, h2⟩, h3⟩ := h
      rw [slots, List.mem_append] at hi
      exact hi.elim (slots_lt t h2 i) (slots_lts r h3 i)
  | .var _, _, _, h, _, _ | .tup _, _, _, h, _, _ | .star _ _, _, _, h, _, _ | .con _, _, _, h, _, _ | .lst _, _, _, h, _, _ | .nw _, _, _, h, _, _ | .bin .., _, _, h, _, _ | .cmp .., _, _, h, _, _ | .chn .., _, _, h, _, _ | .and .., _, _, h, _, _ | .or .., _, _, h, _, _
  | .not _, _, _, h, _, _ | .neg _, _, _, h, _, _ | .ite .., _, _, h, _, _ | .idx .., _, _, h, _, _ | .slc .., _, _, h, _, _ | .call .., _, _, h, _, _ | .callk .., _, _, h, _, _ | .make .., _, _, h, _, _ | .meth .., _, _, h, _, _ | .fld .., _, _, h, _, _
  | .pr1 .., _, _, h, _, _ | .pr2 .., _, _, h, _, _ | .isi .., _, _, h, _, _ | .comp .., _, _, h, _, _ | .comp2 .., _, _, h, _, _ | .sortk .., _, _, h, _, _ | .rng .., _, _, h, _, _ | .enm .., _, _, h, _, _ | .zip .., _, _, h, _, _
  | .append .., _, _, h, _, _ | .extend .., _, _, h, _, _ | .pop .., _, _, h, _, _ | .popat .., _, _, h, _, _ | .insert .., _, _, h, _, _ | .index .., _, _, h, _, _ | .rpr .., _, _, h, _, _ | .join .., _, _, h, _, _ | .get .., _, _, h, _, _ => nomatch (show (false : Bool) = true from h)
end
theorem own_iff {C : Sc} {vs : List Nat} (h : ∀ i ∈ vs, i < C.N.length) (i : Nat) : i ∈ (ownOf C.N vs).map (·.2) ↔ i ∈ vs := by
  unfold ownOf
  constructor
  · intro hi
    obtain ⟨p, hp, rfl⟩ := List.mem_map.mp hi
    obtain ⟨j, hj, e⟩ := List.mem_filterMap.mp hp
    simp only [Option.map_eq_some_iff] at e
    obtain ⟨x, _, rfl⟩ := e
    exact hj
  · intro hi
    have hl := h i hi
    exact List.mem_map.mpr ⟨(C.N[i], i), List.mem_filterMap.mpr ⟨i, hi, by rw [List.getElem?_eq_getElem hl]; rfl⟩, rfl⟩
end
end MP
namespace MP
open PySem PySem.Spec PyProof.Rows L2

section
variable {G : Gb} {L : Lay} {P : Prog} {T : Tab} {n : Nat} {C : Sc} {X : Cx} {cf : Nat → List PV → Store → Res PV} {ie : IE} {e : Expr} {m : Nat}
theorem GoodX.g (h : GoodX X L P cf 0 ie e) (c : chkE T ie 0 C e = true) : Good X L P cf ie e := h.1 (not_it c)
theorem o_part {lo : IE} {l : Option Expr} (h : (match l with
      | none => isNone lo
      | some l => !isNone lo && chkE T lo 0 C l) = true) (ih : ∀ l, chkE T lo 0 C l = true → PE X l (tE P cf L lo)) : PO X l (tO L P cf lo) := by
  cases l with
  | none =>
    have h : isNone lo = true := h
    unfold isNone at h
    split at h
    · exact o_none
    · cases h
  | some l =>
    obtain ⟨h1, h2⟩ := b2 h
    refine o_some (ih l h2) fun z => ?_
    subst z
    cases h1
theorem n_mul {x y : Expr} {a b : IE} {pos : Pos} (hx : PE X x (tE P cf L a)) (hy : PE X y (tE P cf L b)) : PE X (.BinOp x .Mult y pos) (tN P cf L (.bin .mul a b)) := pe_mulN hx hy
theorem n_bin {x y : Expr} {a b : IE} {pos : Pos} {op : BOp} {o : Operator} (h1 : bopB op o = true) (hn : isN (.bin op a b) = true) (hx : PE X x (tE P cf L a)) (hy : PE X y (tE P cf L b)) : PE X (.BinOp x o y pos) (tN P cf L (.bin op a b)) := by
  cases op with
  | mul =>
    cases o with
    | Mult => exact n_mul hx hy
    | _ => exact (nomatch (show (false : Bool) = true from h1))
  | _ => exact (nomatch (show (false : Bool) = true from hn))
theorem good_and {x y : Expr} {r : List Expr} {pos : Pos} {a b : IE} (hx : Good X L P cf a x) (tx : isT x = true) (hr : Good X L P cf b (.BoolOp .And (y :: r) pos)) : Good X L P cf (.and a b) (.BoolOp .And (x :: y :: r) pos) :=
  ⟨e_and hx.pe hr.pe, fun _ => (w_and (hx.pt tx) (hr.pw rfl)).pt, fun _ => w_and (hx.pt tx) (hr.pw rfl), fun z => (nomatch (show (false : Bool) = true from z))⟩
theorem good_or {x y : Expr} {r : List Expr} {pos : Pos} {a b : IE} (hx : Good X L P cf a x) (tx : isT x = true) (hr : Good X L P cf b (.BoolOp .Or (y :: r) pos)) : Good X L P cf (.or a b) (.BoolOp .Or (x :: y :: r) pos) :=
  ⟨e_or hx.pe hr.pe, fun _ => (w_or (hx.pt tx) (hr.pw rfl)).pt, fun _ => w_or (hx.pt tx) (hr.pw rfl), fun z => (nomatch (show (false : Bool) = true from z))⟩
/-- the last of a row of and, or -/
theorem one_and {y : Expr} {pos : Pos} {b : IE} (hy : Good X L P cf b y) (ty : isT y = true) : PE X (.BoolOp .And [y] pos) (tE P cf L b) ∧ PW X (.BoolOp .And [y] pos) (tT P cf L b) := ⟨pe_one hy.pe, pw_and1 (hy.pt ty)⟩
theorem one_or {y : Expr} {pos : Pos} {b : IE} (hy : Good X L P cf b y) (ty : isT y = true) : PE X (.BoolOp .Or [y] pos) (tE P cf L b) ∧ PW X (.BoolOp .Or [y] pos) (tT P cf L b) := ⟨pe_one hy.pe, pw_or1 (hy.pt ty)⟩
theorem folded_no {e : Expr} {env : PySem.Env} (h : (match e with | .Set .. => false | _ => true) = true) : ∀ x, foldedSetIterable e env x = pure x := by
  cases e <;> first | (intro x; rfl) | cases h
theorem noset {a : List Expr} {b : Nat} {c : Pos} : ∀ (it : IE) {m : Nat}, chkE T it m C (.Set a b c) = true → False
  | .nw ie, m, h => noset ie (b2 (show (isN ie && chkE T ie 0 C _) = true from h)).2
  | .var _, _, h => by simp [chkE] at h
  | .con _, _, h => by simp [chkE] at h
  | .tup _, _, h => by simp [chkE] at h
  | .lst _, _, h => by simp [chkE] at h
  | .bin .., _, h => by simp [chkE] at h
  | .cmp .., _, h => by simp [chkE] at h
  | .chn .., _, h => by simp [chkE] at h
  | .and .., _, h => by simp [chkE] at h
  | .or .., _, h => by simp [chkE] at h
  | .not _, _, h => by simp [chkE] at h
  | .neg _, _, h => by simp [chkE] at h
  | .ite .., _, h => by simp [chkE] at h
  | .idx .., _, h => by simp [chkE] at h
  | .slc .., _, h => by simp [chkE] at h
  | .call .., _, h => by simp [chkE] at h
  | .callk .., _, h => by simp [chkE] at h
  | .make .., _, h => by simp [chkE] at h
  | .meth .., _, h => by simp [chkE] at h
  | .fld .., _, h => by simp [chkE] at h
  | .pr1 .., _, h => by simp [chkE] at h
  | .rpr .., _, h => by simp [chkE] at h
  | .pr2 .., _, h => by simp [chkE] at h
  | .isi .., _, h => by simp [chkE] at h
  | .comp .., _, h => by simp [chkE] at h
  | .append .., _, h => by simp [chkE] at h
  | .rng .., _, h => by simp [chkE] at h
  | .zip .., _, h => by simp [chkE] at h
  | .sortk .., _, h => by simp [chkE] at h
  | .insert .., _, h => by simp [chkE] at h
  | .nil, _, h | .cons _ _, _, h | .star _ _, _, h | .comp2 .., _, h | .enm .., _, h
  | .extend .., _, h | .pop .., _, h | .popat .., _, h | .index .., _, h | .join .., _, h | .get .., _, h => nomatch (show (false : Bool) = true from h)
theorem folded_chk {it : IE} (h : chkE T it m C e = true) {env : PySem.Env} : ∀ x, foldedSetIterable e env x = pure x := by
  refine folded_no ?_
  cases e with
  | Set a b c => exact (noset it h).elim
  | _ => rfl
theorem kw_ns {env : PySem.Env} {pos : Pos} : ∀ {ks : List Keyword} {nm : List Str}, kwNs ks = some nm → (backToKw pos (keywordEach ks env)).all (·.1.isSome) = true ∧ (backToKw pos (keywordEach ks env)).filterMap (·.1) = nm ∧
    ((backTo pos (starEach [] env)).any (·.1) || (backToKw pos (keywordEach ks env)).any (·.1.isNone)) = false ∧ nm.length = ks.length
  | [], nm, h => by cases h; exact ⟨rfl, rfl, rfl, rfl⟩
  | ⟨some n, e, p⟩ :: ks, nm, h => by
    rw [kwNs, Option.map_eq_some_iff] at h
    obtain ⟨ns, h, rfl⟩ := h
    obtain ⟨a, b, c, d⟩ := kw_ns (env := env) (pos := pos) h
    refine ⟨?_, ?_, ?_, by simp [d]⟩
    · show (true && (backToKw pos (keywordEach ks env)).all (·.1.isSome)) = true
      rw [a]; rfl
    · show n :: (backToKw pos (keywordEach ks env)).filterMap (·.1) = _
      rw [b]
    · show (false || (false || (backToKw pos (keywordEach ks env)).any (·.1.isNone))) = false
      exact c
  | ⟨none, e, p⟩ :: ks, nm, h => by cases h
theorem chkK_len : ∀ (es : IE) {ks : List Keyword} {C : Sc} {env : Env} {st st' : Store} {vs : List PV}, chkK T es C ks = true → evalEs P cf es env st = .ok vs st' → vs.length = ks.length
  | .nil, ks, C, env, st, st', vs, h, ev => by
    cases ks with
    | nil => rw [evalEs] at ev; cases ev; rfl
    | cons _ _ => simp [chkK] at h
  | .cons a r, ks, C, env, st, st', vs, h, ev => by
    cases ks with
    | nil => simp [chkK] at h
    | cons k ks =>
      obtain ⟨nm, e, p⟩ := k
      simp only [chkK, Bool.and_eq_true] at h
      obtain ⟨v, ws, st1, e1, e2, rfl⟩ := cons_inv ev
      rw [List.length_cons, List.length_cons, chkK_len r h.2 e2]
  | .var _, _, _, _, _, _, _, h, _ | .tup _, _, _, _, _, _, _, h, _ | .star _ _, _, _, _, _, _, _, h, _ | .con _, _, _, _, _, _, _, h, _ | .lst _, _, _, _, _, _, _, h, _ | .nw _, _, _, _, _, _, _, h, _ | .bin .., _, _, _, _, _, _, h, _ | .cmp .., _, _, _, _, _, _, h, _ | .chn .., _, _, _, _, _, _, h, _ | .and .., _, _, _, _, _, _, h, _ | .or .., _, _, _, _, _, _, h, _
  | .not _, _, _, _, _, _, _, h, _ | .neg _, _, _, _, _, _, _, h, _ | .ite .., _, _, _, _, _, _, h, _ | .idx .., _, _, _, _, _, _, h, _ | .slc .., _, _, _, _, _, _, h, _ | .call .., _, _, _, _, _, _, h, _ | .callk .., _, _, _, _, _, _, h, _ | .make .., _, _, _, _, _, _, h, _ | .meth .., _, _, _, _, _, _, h, _ | .fld .., _, _, _, _, _, _, h, _
  | .pr1 .., _, _, _, _, _, _, h, _ | .pr2 .., _, _, _, _, _, _, h, _ | .isi .., _, _, _, _, _, _, h, _ | .comp .., _, _, _, _, _, _, h, _ | .comp2 .., _, _, _, _, _, _, h, _ | .sortk .., _, _, _, _, _, _, h, _ | .rng .., _, _, _, _, _, _, h, _ | .enm .., _, _, _, _, _, _, h, _ | .zip .., _, _, _, _, _, _, h, _
  | .append .., _, _, _, _, _, _, h, _ | .extend .., _, _, _, _, _, _, h, _ | .pop .., _, _, _, _, _, _, h, _ | .popat .., _, _, _, _, _, _, h, _ | .insert .., _, _, _, _, _, _, h, _ | .index .., _, _, _, _, _, _, h, _ | .rpr .., _, _, _, _, _, _, h, _ | .join .., _, _, _, _, _, _, h, _ | .get .., _, _, _, _, _, _, h, _ => nomatch (show (false : Bool) = true from h)
mutual
theorem chkE_ok : ∀ (ie : IE) {m : Nat} {C : Sc} {L : Lay} {X : Cx} {e : Expr}, XOk G L P T n C X → chkE T ie m C e = true → GoodX X L P (callF P n) m ie e
  | .var i, m, C, L, X, e, o, h => by
    simp only [chkE] at h
    split at h
    · simp only [Bool.and_eq_true] at h
      obtain ⟨⟨h1, h2⟩, h3⟩ := h
      obtain ⟨n1, n2, _⟩ := nm_inv h3
      exact (Good.of (e_var (by rw [o.N]; exact of_decide_eq_true h1) (o.vis h2) n1 n2) (fun _ => rfl) rfl rfl).x o.K
    · cases h
  | .con v, m, C, L, X, e, o, h => by
    simp only [chkE] at h
    split at h
    · exact (Good.of (e_con pe_int (con_rep _ _ (.inr (.inr (.inl ⟨_, of_decide_eq_true h, rfl⟩))))) (fun _ => rfl) rfl rfl).x o.K
    · exact (Good.of (e_con pe_bl (con_rep _ _ (.inr (.inl ⟨_, of_decide_eq_true h, rfl⟩)))) (fun _ => rfl) rfl rfl).x o.K
    · exact (Good.of (e_con pe_non (con_rep _ _ (.inl ⟨of_decide_eq_true h, rfl⟩))) (fun _ => rfl) rfl rfl).x o.K
    · exact (Good.of (e_con pe_str (con_rep _ _ (.inr (.inr (.inr ⟨_, of_decide_eq_true h, rfl⟩))))) (fun _ => rfl) rfl rfl).x o.K
    · simp only [Bool.and_eq_true] at h
      obtain ⟨⟨h1, h2⟩, h3⟩ := h
      split at h3
      · rename_i w hw
        obtain rfl := of_decide_eq_true h3
        obtain ⟨u, y, m1, m2, m3⟩ := o.g.tk _ _ hw
        exact (Good.of (e_con (pe_glob (o.gl h1) (by rw [o.c.mg]; exact m1) m2 (nm_inv h2).1) (m3 L.hid)) (fun _ => rfl) rfl rfl).x o.K
      · cases h3
    · cases h
  | .tup es, m, C, L, X, e, o, h => by
    simp only [chkE] at h
    split at h
    · obtain ⟨h1, h2⟩ := b2 h
      exact (Good.of (e_tup (chkA_ok es o h1) (of_decide_eq_true h2)) (fun _ => rfl) rfl rfl).x o.K
    · cases h
  | .lst es, m, C, L, X, e, o, h => by
    simp only [chkE] at h
    split at h
    · obtain ⟨h1, h2⟩ := b2 h
      exact (Good.fr (n_lst (chkA_ok es o h1) (of_decide_eq_true h2)) lst_isl (fun _ => rfl) rfl).x o.K
    · cases h
  | .nw ie, m, C, L, X, e, o, h => by
    simp only [chkE] at h
    obtain ⟨h1, h2⟩ := b2 h
    have g := (chkE_ok ie o h2).g h2
    have hp := pe_nw (g.pn h1)
    refine Good.x o.K ⟨hp, fun ht => ?_, fun hb => ?_, fun z => (nomatch (show (false : Bool) = true from z))⟩
    · refine pt_of hp fun whole => ?_
      cases ie with
      | lst es => simp only [chkE] at h2; split at h2 <;> first | rfl | cases h2
      | comp _ _ _ _ => simp only [chkE] at h2; split at h2 <;> first | rfl | cases h2
      | bin op _ _ => simp only [chkE] at h2; split at h2 <;> first | rfl | cases h2
      | _ => exact nomatch (show (false : Bool) = true from h1)
    · cases ie with
      | lst es => simp only [chkE] at h2; split at h2 <;> first | exact nomatch (show (false : Bool) = true from hb) | cases h2
      | comp _ _ _ _ => simp only [chkE] at h2; split at h2 <;> first | exact nomatch (show (false : Bool) = true from hb) | cases h2
      | bin op _ _ => simp only [chkE] at h2; split at h2 <;> first | exact nomatch (show (false : Bool) = true from hb) | cases h2
      | _ => exact nomatch (show (false : Bool) = true from h1)
  | .bin op a b, m, C, L, X, e, o, h => by
    simp only [chkE] at h
    split at h
    · simp only [Bool.and_eq_true] at h
      obtain ⟨⟨h1, h2⟩, h3⟩ := h
      have ga := (chkE_ok a o h2).g h2
      have gb := (chkE_ok b o h3).g h3
      have hp := pe_bin (pos := by assumption) (op_snd o.K h1) ga.pe gb.pe
      refine Good.x o.K ⟨hp, fun _ => pt_of hp fun _ => rfl, fun z => (nomatch (show (false : Bool) = true from z)), fun hn => n_bin h1 hn ga.pe gb.pe⟩
    · cases h
  | .cmp op a b, m, C, L, X, e, o, h => by
    simp only [chkE] at h
    split at h
    · simp only [Bool.and_eq_true] at h
      obtain ⟨⟨⟨h1, h2⟩, h3⟩, h4⟩ := h
      have ga := (chkE_ok a o h3).g h3
      have gb := (chkE_ok b o h4).g h4
      have hc := cop_snd o.K o.units h1
      exact Good.x o.K ⟨e_cmp hc ga.pe gb.pe (bn h2), fun _ => t_cmp hc ga.pe gb.pe (bn h2), fun z => (nomatch (show (false : Bool) = true from z)), fun z => (nomatch (show (false : Bool) = true from z))⟩
    · cases h
  | .chn op op' a b c, m, C, L, X, e, o, h => by
    simp only [chkE] at h
    split at h
    · simp only [Bool.and_eq_true] at h
      obtain ⟨⟨⟨⟨⟨h1, h1'⟩, h2⟩, h3⟩, h4⟩, h5⟩ := h
      have ga := (chkE_ok a o h3).g h3
      have gb := (chkE_ok b o h4).g h4
      have gc := (chkE_ok c o h5).g h5
      have hc := cop_snd o.K o.units h1
      have hc' := cop_snd o.K o.units h1'
      exact Good.x o.K ⟨e_chn hc hc' ga.pe gb.pe gc.pe (bn h2), fun _ => t_chn hc hc' ga.pe gb.pe gc.pe (bn h2), fun z => (nomatch (show (false : Bool) = true from z)), fun z => (nomatch (show (false : Bool) = true from z))⟩
    · cases h
  | .and a b, m, C, L, X, e, o, h => by
    simp only [chkE] at h
    split at h
    · simp only [Bool.and_eq_true] at h
      obtain ⟨⟨h1, h2⟩, h3⟩ := h
      have ga := (chkE_ok a o h2).g h2
      split at h3
      · obtain ⟨h4, h5⟩ := b2 h3
        obtain ⟨p1, p2⟩ := one_and (pos := by assumption) ((chkE_ok b o h5).g h5) h4
        exact Good.x o.K ⟨e_and ga.pe p1, fun _ => (w_and (ga.pt h1) p2).pt, fun _ => w_and (ga.pt h1) p2, fun z => (nomatch (show (false : Bool) = true from z))⟩
      · exact (good_and ga h1 ((chkE_ok b o h3).g h3)).x o.K
    · cases h
  | .or a b, m, C, L, X, e, o, h => by
    simp only [chkE] at h
    split at h
    · simp only [Bool.and_eq_true] at h
      obtain ⟨⟨h1, h2⟩, h3⟩ := h
      have ga := (chkE_ok a o h2).g h2
      split at h3
      · obtain ⟨h4, h5⟩ := b2 h3
        obtain ⟨p1, p2⟩ := one_or (pos := by assumption) ((chkE_ok b o h5).g h5) h4
        exact Good.x o.K ⟨e_or ga.pe p1, fun _ => (w_or (ga.pt h1) p2).pt, fun _ => w_or (ga.pt h1) p2, fun z => (nomatch (show (false : Bool) = true from z))⟩
      · exact (good_or ga h1 ((chkE_ok b o h3).g h3)).x o.K
    · cases h
  | .not a, m, C, L, X, e, o, h => by
    simp only [chkE] at h
    split at h
    · obtain ⟨h1, h2⟩ := b2 h
      have ga := (chkE_ok a o h2).g h2
      exact Good.x o.K ⟨e_not ga.pe, fun _ => t_not (ga.pt h1), fun z => (nomatch (show (false : Bool) = true from z)), fun z => (nomatch (show (false : Bool) = true from z))⟩
    · cases h
  | .neg a, m, C, L, X, e, o, h => by
    simp only [chkE] at h
    split at h
    · exact (Good.of (e_neg ((chkE_ok a o h).g h).pe) (fun _ => rfl) rfl rfl).x o.K
    · cases h
  | .ite c a b, m, C, L, X, e, o, h => by
    simp only [chkE] at h
    split at h
    · simp only [Bool.and_eq_true] at h
      obtain ⟨⟨⟨h1, h2⟩, h3⟩, h4⟩ := h
      exact Good.x o.K ⟨e_ite (((chkE_ok c o h2).g h2).pt h1) ((chkE_ok a o h3).g h3).pe ((chkE_ok b o h4).g h4).pe, fun z => (nomatch (show (false : Bool) = true from z)), fun z => (nomatch (show (false : Bool) = true from z)), fun z => (nomatch (show (false : Bool) = true from z))⟩
    · cases h
  | .idx a i, m, C, L, X, e, o, h => by
    simp only [chkE] at h
    split at h
    · simp only [Bool.and_eq_true] at h
      obtain ⟨⟨h1, h2⟩, h3⟩ := h
      exact (Good.of (e_idx o.K ((chkE_ok a o h2).g h2).pe ((chkE_ok i o h3).g h3).pe (plain_ix (bn h1))) (fun _ => rfl) rfl rfl).x o.K
    · cases h
  | .slc a lo hi, m, C, L, X, e, o, h => by
    simp only [chkE] at h
    split at h
    · simp only [Bool.and_eq_true] at h
      obtain ⟨⟨h1, h2⟩, h3⟩ := h
      exact (Good.of (e_slc o.K ((chkE_ok a o h1).g h1).pe (o_part h2 fun l c => ((chkE_ok lo o c).g c).pe) (o_part h3 fun l c => ((chkE_ok hi o c).g c).pe)) (fun _ => rfl) rfl rfl).x o.K
    · cases h
  | .call f es, m, C, L, X, e, o, h => by
    simp only [chkE] at h
    split at h
    · simp only [Bool.and_eq_true] at h
      obtain ⟨⟨⟨⟨h1, h2⟩, h3⟩, h4⟩, h5⟩ := h
      obtain ⟨m1, m2⟩ := o.g.tf _ _ (of_decide_eq_true h3)
      have hr : Room (3 * n) X.A := o.room.mono (Nat.le_succ _)
      have hA := chkA_ok es o h5
      rename_i as _
      cases as with
      | nil =>
        cases es with
        | nil => exact (Good.of (e_call0 o.c o.g.F hr (o.gl h1) m1 (nm_inv h2).1 m2) (fun _ => rfl) rfl rfl).x o.K
        | cons _ _ => simp [chkA] at h5
        | star _ _ => simp [chkA] at h5
        | _ => exact nomatch (show (false : Bool) = true from h5)
      | cons a as =>
        obtain ⟨s1, s2⟩ := noSt_cons h4
        exact (Good.of (e_call o.c o.g.F hr (o.gl h1) m1 hA (nm_inv h2).1 (star_no s1) (star_any s2) m2) (fun _ => rfl) rfl rfl).x o.K
    · cases h
  | .callk f perm es, m, C, L, X, e, o, h => by
    simp only [chkE] at h
    split at h
    · simp only [Bool.and_eq_true] at h
      obtain ⟨⟨⟨h1, h2⟩, h3⟩, h4⟩ := h
      obtain ⟨m1, m2⟩ := o.g.tf _ _ (of_decide_eq_true h3)
      have hr : Room (3 * n) X.A := o.room.mono (Nat.le_succ _)
      split at h4
      · rename_i nm hn
        obtain ⟨h5, h6⟩ := b2 h4
        obtain ⟨k1, k2, k3, k4⟩ := kw_ns (pos := by assumption) (env := X.env) hn
        exact (Good.of (e_callk0 o.c o.g.F hr (o.gl h1) m1 (chkK_ok es o h6) k1 k2 (fun env st vs st' ev => by rw [k4]; exact chkK_len es h6 ev) (nm_inv h2).1 k3 m2 (of_decide_eq_true h5)) (fun _ => rfl) rfl rfl).x o.K
      · cases h4
    · cases h
  | .make c es, m, C, L, X, e, o, h => by
    simp only [chkE] at h
    split at h
    · simp only [Bool.and_eq_true] at h
      obtain ⟨⟨⟨⟨h1, h2⟩, h3⟩, h4⟩, h5⟩ := h
      obtain ⟨m1, m2⟩ := o.g.tc _ _ (of_decide_eq_true h3)
      have hA := chkA_ok es o h5
      rename_i as _
      cases as with
      | nil =>
        cases es with
        | nil => exact (Good.of (e_make0 o.c o.g.F o.room (fun c cl h => (o.g.cls c cl h).1) m2 (o.gl h1) m1 (nm_inv h2).1 (fun cl h => (o.g.cls _ cl h).2)) (fun _ => rfl) rfl rfl).x o.K
        | cons _ _ => simp [chkA] at h5
        | star _ _ => simp [chkA] at h5
        | _ => exact nomatch (show (false : Bool) = true from h5)
      | cons a as =>
        obtain ⟨s1, s2⟩ := noSt_cons h4
        exact (Good.of (e_make o.c o.g.F o.room (fun c cl h => (o.g.cls c cl h).1) m2 (o.gl h1) m1 hA (nm_inv h2).1 (star_no s1) (star_any s2) (fun cl h => (o.g.cls _ cl h).2)) (fun _ => rfl) rfl rfl).x o.K
    · cases h
  | .meth k a es, m, C, L, X, e, o, h => by
    simp only [chkE] at h
    split at h
    · simp only [Bool.and_eq_true] at h
      obtain ⟨⟨⟨⟨⟨⟨h1, h2⟩, h3⟩, h4⟩, h5⟩, h6⟩, h7⟩ := h
      have hr : Room (3 * n) X.A := o.room.mono (Nat.le_succ _)
      have hA := chkA_ok es o h7
      have ga := (chkE_ok a o h6).g h6
      rename_i y nm apos as pos
      have e1 := of_decide_eq_true h1
      rw [← o.g.nm] at e1
      subst e1
      cases as with
      | nil =>
        cases es with
        | nil => exact (Good.of (e_meth0 o.c o.g.F hr (fun c cl h => (o.g.cls c cl h).1) o.g.nmI ga.pe (meth_ht h2 h3 h4 (of_decide_eq_true h5))) (fun _ => rfl) rfl rfl).x o.K
        | cons _ _ => simp [chkA] at h7
        | star _ _ => simp [chkA] at h7
        | _ => exact nomatch (show (false : Bool) = true from h7)
      | cons b as =>
        obtain ⟨s1, s2⟩ := noSt_cons h4
        exact (Good.of (e_meth o.c o.g.F hr (fun c cl h => (o.g.cls c cl h).1) o.g.nmI ga.pe hA (star_no s1) (star_any s2) (meth_ht h2 h3 h4 (of_decide_eq_true h5))) (fun _ => rfl) rfl rfl).x o.K
    · cases h
  | .fld k a, m, C, L, X, e, o, h => by
    simp only [chkE] at h
    split at h
    · simp only [Bool.and_eq_true] at h
      obtain ⟨⟨⟨h1, h2⟩, h3⟩, h4⟩ := h
      have e1 := of_decide_eq_true h1
      rw [← o.g.nm] at e1
      subst e1
      have hk := of_decide_eq_true h3
      exact (Good.of (e_fld o.g.nmI (fun c cl h => by rw [o.c.K]; exact (o.g.cls c cl h).1.clo) k (fun c cl h hm => by rw [o.c.K]; exact o.g.no c cl k h hk hm) ((chkE_ok a o h4).g h4).pe (base_ok h2)) (fun _ => rfl) rfl rfl).x o.K
    · cases h
  | .pr1 p a, m, C, L, X, e, o, h => by
    rw [chkE.eq_def] at h
    simp only at h
    split at h
    · simp only [Bool.and_eq_true] at h
      obtain ⟨⟨⟨⟨⟨h1, h2⟩, h3⟩, h4⟩, h5⟩, h6⟩ := h
      obtain ⟨b1, b2'⟩ := o.blt h1
      obtain ⟨c1, c2⟩ := o.blt h3
      obtain rfl := of_decide_eq_true h2
      obtain rfl := of_decide_eq_true h4
      exact (Good.of (e_sset o.K o.calm b1 b2' c1 c2 ((chkE_ok a o h6).g h6).pe (bn h5)) (fun _ => rfl) rfl rfl).x o.K
    · split at h
      · rename_i lo b
        simp only [Bool.and_eq_true] at h
        obtain ⟨⟨⟨⟨⟨⟨h1, h2⟩, h3⟩, h4⟩, h5⟩, h7⟩, h6⟩ := h
        obtain ⟨b1, b2'⟩ := o.blt h1
        obtain ⟨c1, c2⟩ := o.blt h3
        obtain rfl := of_decide_eq_true h2
        obtain rfl := of_decide_eq_true h4
        unfold isZero at h7
        split at h7
        · exact (Good.of (e_lrg o.calm b1 b2' c1 c2 ((chkE_ok b o h6).g h6).pe (bn h5)) (fun _ => rfl) rfl rfl).x o.K
        · cases h7
      · simp only [Bool.and_eq_true] at h
        obtain ⟨⟨h1, h2⟩, h4⟩ := h
        obtain ⟨b1, b2'⟩ := o.blt h1
        exact (Good.of (p1_snd o.K o.units o.calm (of_decide_eq_true h2) b1 b2' ((chkE_ok a o h4).g h4).pe rfl) (fun _ => rfl) rfl rfl).x o.K
    · simp only [Bool.and_eq_true] at h
      obtain ⟨⟨⟨h1, h2⟩, h3⟩, h4⟩ := h
      obtain ⟨b1, b2'⟩ := o.blt h1
      exact (Good.of (p1_snd o.K o.units o.calm (of_decide_eq_true h2) b1 b2' ((chkE_ok a o h4).g h4).pe (bn h3)) (fun _ => rfl) rfl rfl).x o.K
    · cases h
  | .rpr a, m, C, L, X, e, o, h => by
    simp only [chkE] at h
    split at h
    · simp only [Bool.and_eq_true] at h
      obtain ⟨⟨⟨h1, h2⟩, h3⟩, h4⟩ := h
      obtain ⟨b1, b2'⟩ := o.blt h1
      obtain rfl := of_decide_eq_true h2
      exact (Good.of (e_rpr o.K o.units o.c.gd o.g.rp b1 b2' ((chkE_ok a o h4).g h4).pe (bn h3)) (fun _ => rfl) rfl rfl).x o.K
    · cases h
  | .pr2 p a b, m, C, L, X, e, o, h => by
    simp only [chkE] at h
    split at h
    · simp only [Bool.and_eq_true] at h
      obtain ⟨⟨⟨⟨⟨h1, h2⟩, h3⟩, h3'⟩, h4⟩, h5⟩ := h
      obtain ⟨b1, b2'⟩ := o.blt h1
      exact (Good.of (p2_snd o.calm (of_decide_eq_true h2) b1 b2' ((chkE_ok a o h4).g h4).pe (bn h3) ((chkE_ok b o h5).g h5).pe (bn h3')) (fun _ => rfl) rfl rfl).x o.K
    · cases h
  | .isi a ts, m, C, L, X, e, o, h => by
    simp only [chkE] at h
    split at h
    · simp only [Bool.and_eq_true] at h
      obtain ⟨⟨⟨⟨⟨h1, h2⟩, h3⟩, h4⟩, h5⟩, h6⟩ := h
      obtain ⟨b1, b2'⟩ := o.blt h1
      obtain ⟨c1, c2⟩ := o.blt h5
      obtain rfl := of_decide_eq_true h2
      split at h6
      · have tt := fun pz => ty_snd (pz := pz) (of_decide_eq_true h6) c1 c2
        exact (Good.of (e_isi1 o.K b1 b2' ((chkE_ok a o h4).g h4).pe (tt _).2 (tt default).1 (star_no (bn h3)) (star_no rfl) rfl) (fun _ => rfl) rfl rfl).x o.K
      · cases h6
    · cases h
  | .comp tg it cond elt, m, C, L, X, e, o, h => by
    simp only [chkE] at h
    split at h
    · simp only [Bool.and_eq_true] at h
      obtain ⟨⟨⟨⟨h1, h2⟩, h3⟩, h4⟩, h5⟩ := h
      rename_i y iter ifs scope pos
      have hi := (chkE_ok it o h3).2 y (by split <;> omega) (fun z => by
        split at z
        · assumption
        · cases z)
      have hok := blkOk_by h2
      have ht : ∀ (D : Addr) (s : Shared) (H : Hp) (A : Addr) (cl : List (Str × Addr)) (fp : List Addr), PTs (X.blk s H scope (compEnvC scope cl A X.env) fp) ifs (tT P (callF P n) (L.wh (D :: L.hid)) cond) := fun D s H A cl fp => by
        split at h4
        · unfold posB at h4
          split at h4
          · exact ts_nil
          · cases h4
        · obtain ⟨h6, h7⟩ := b2 h4
          exact pts_one (((chkE_ok cond (o.blk D scope s H A cl fp) h7).g h7).pt h6)
        · cases h4
      have hc := n_comp (pos := pos) (icond := cond) o.calm o.nd hi (by rw [o.N, o.sc]; exact hok) (fun i => own_iff (slots_lt tg h1) i)
        (fun D s H A cl fp => chkG_ok tg (o.blk D scope s H A cl fp) h1) ht
        (fun D s H A cl fp => ((chkE_ok elt (o.blk D scope s H A cl fp) h5).g h5).pe) (folded_chk h3)
      exact (Good.fr hc comp_isl (fun _ => rfl) rfl).x o.K
    · cases h
  | .append a b, m, C, L, X, e, o, h => by
    simp only [chkE] at h
    split at h
    · simp only [Bool.and_eq_true] at h
      obtain ⟨⟨⟨⟨⟨h1, h2⟩, h3⟩, h4⟩, h5⟩, h6⟩ := h
      obtain rfl := of_decide_eq_true h1
      refine (Good.of (e_app (pe_app ((chkE_ok a o h5).g h5).pe ((chkE_ok b o h6).g h6).pe (base_ok h2) ?_ h3 (star_no (bn h4)) rfl)) (fun _ => rfl) rfl rfl).x o.K
      rw [star_no (bn h4)]
      rfl
    · cases h
  | .insert a b c, m, C, L, X, e, o, h => by
    simp only [chkE] at h
    split at h
    · simp only [Bool.and_eq_true] at h
      obtain ⟨⟨⟨⟨⟨⟨⟨h1, h2⟩, h3⟩, h4⟩, h4'⟩, h5⟩, h6⟩, h7⟩ := h
      obtain rfl := of_decide_eq_true h1
      refine (Good.of (e_ins (pe_ins ((chkE_ok a o h5).g h5).pe ((chkE_ok b o h6).g h6).pe ((chkE_ok c o h7).g h7).pe (base_ok h2) ?_ h3 (star_no (bn h4)) (star_no (bn h4')) (by rw [star_no (bn h4')]; rfl))) (fun _ => rfl) rfl rfl).x o.K
      rw [star_no (bn h4), star_no (bn h4')]
      rfl
    · cases h
  | .rng a b, m, C, L, X, e, o, h => by
    simp only [chkE] at h
    obtain ⟨h0, h⟩ := b2 h
    refine ⟨fun z => (nomatch (show true = false from z)), fun tg _ _ => ?_⟩
    split at h
    · simp only [Bool.and_eq_true] at h
      obtain ⟨⟨⟨⟨h1, h2⟩, h3⟩, h4⟩, h5⟩ := h
      obtain ⟨b1, b2'⟩ := o.blt h1
      obtain rfl := of_decide_eq_true h2
      unfold isZero at h4
      split at h4
      · exact i_rng1 b1 b2' ((chkE_ok b o h5).g h5).pe (star_no (bn h3))
      · cases h4
    · simp only [Bool.and_eq_true] at h
      obtain ⟨⟨⟨⟨⟨h1, h2⟩, h3⟩, h3'⟩, h4⟩, h5⟩ := h
      obtain ⟨b1, b2'⟩ := o.blt h1
      obtain rfl := of_decide_eq_true h2
      exact i_rng2 b1 b2' ((chkE_ok a o h4).g h4).pe ((chkE_ok b o h5).g h5).pe (star_no (bn h3)) (star_no (bn h3'))
    · cases h
  | .zip a b, m, C, L, X, e, o, h => by
    simp only [chkE] at h
    obtain ⟨h0, h⟩ := b2 h
    refine ⟨fun z => (nomatch (show true = false from z)), fun tg _ ht => ?_⟩
    have ht := ht (of_decide_eq_true h0)
    cases tg with
    | Tuple elts kk tpos =>
      split at h
      · simp only [Bool.and_eq_true] at h
        obtain ⟨⟨⟨⟨⟨h1, h2⟩, h3⟩, h3'⟩, h4⟩, h5⟩ := h
        obtain ⟨b1, b2'⟩ := o.blt h1
        obtain rfl := of_decide_eq_true h2
        exact i_zip o.K b1 b2' ((chkE_ok a o h4).g h4).pe ((chkE_ok b o h5).g h5).pe (star_no (bn h3)) (star_no (bn h3'))
      · cases h
    | _ => exact nomatch (show (false : Bool) = true from ht)
  | .sortk t a key, m, C, L, X, e, o, h => by
    simp only [chkE] at h
    split at h
    · rename_i x _ y kn params body scope _ _ _
      simp only [Bool.and_eq_true] at h
      obtain ⟨⟨⟨⟨⟨⟨h1, h2⟩, h3⟩, h4⟩, h5⟩, h6⟩, h7⟩ := h
      obtain ⟨b1, b2'⟩ := o.blt h1
      obtain rfl := of_decide_eq_true h2
      obtain rfl := of_decide_eq_true h3
      obtain ⟨tb, tq, tr⟩ := o.tb t (of_decide_eq_true h6)
      split at h7
      · rename_i z hz
        obtain ⟨h8, h9⟩ := b2 h7
        obtain ⟨an, ap, rfl⟩ := lamP_inv hz
        have S := scOk_ok h8
        refine (Good.of (e_sortk (k := 3 * n) o.K o.units (room_in2 tr) b1 b2' tb tq ((chkE_ok a o h5).g h5).pe (star_no (bn h4)) S rfl (fun fd e1 e2 e3 _ u => bind_one z an ap u fd e1 e2 e3) fun hid f c' s H E => ?_) (fun _ => rfl) rfl rfl).x o.K
        have o' : XOk G (L.wh hid) P T n ⟨[z], scope, fun _ => true, none⟩ (cxOf noX X.prog X.w X.K X.mg X.base [z] (L.tq t) scope f (.ref c') X.A.in1.in1 X.stack s H E).nox :=
          ⟨o.g.wh hid, ⟨o.c.prog, o.c.w, o.c.K, o.c.mg, o.c.base, rfl, o.c.gd⟩, rfl, S.nd, rfl, rfl, rfl, room_lam _ tr, fun t h => (nomatch (show (none : Option Nat) = some t from h))⟩
        exact PE.nox ((chkE_ok key o' h9).g h9).pe
      · cases h7
    · cases h
  | .nil, _, _, _, _, _, _, h | .cons _ _, _, _, _, _, _, _, h | .star _ _, _, _, _, _, _, _, h | .comp2 .., _, _, _, _, _, _, h | .enm .., _, _, _, _, _, _, h
  | .extend .., _, _, _, _, _, _, h | .pop .., _, _, _, _, _, _, h | .popat .., _, _, _, _, _, _, h | .index .., _, _, _, _, _, _, h | .join .., _, _, _, _, _, _, h | .get .., _, _, _, _, _, _, h => nomatch (show (false : Bool) = true from h)
theorem chkA_ok : ∀ (ie : IE) {C : Sc} {L : Lay} {X : Cx} {es : List Expr}, XOk G L P T n C X → chkA T ie C es = true → PA X es (tA P (callF P n) L ie)
  | .nil, C, L, X, es, o, h => by
    cases es with
    | nil => exact a_nil
    | cons _ _ => simp [chkA] at h
  | .cons a r, C, L, X, es, o, h => by
    cases es with
    | nil => simp [chkA] at h
    | cons e es =>
      simp only [chkA, Bool.and_eq_true] at h
      obtain ⟨⟨h1, h2⟩, h3⟩ := h
      exact a_cons ((chkE_ok a o h2).g h2).pe (chkA_ok r o h3) (star_no (bn h1))
  | .star a r, C, L, X, es, o, h => by
    simp only [chkA] at h
    split at h
    · obtain ⟨h2, h3⟩ := b2 h
      exact a_star o.K ((chkE_ok a o h2).g h2).pe (chkA_ok r o h3) rfl
    · cases h
  | .var _, _, _, _, _, _, h | .tup _, _, _, _, _, _, h | .con _, _, _, _, _, _, h | .lst _, _, _, _, _, _, h | .nw _, _, _, _, _, _, h | .bin .., _, _, _, _, _, h | .cmp .., _, _, _, _, _, h | .chn .., _, _, _, _, _, h | .and .., _, _, _, _, _, h | .or .., _, _, _, _, _, h
  | .not _, _, _, _, _, _, h | .neg _, _, _, _, _, _, h | .ite .., _, _, _, _, _, h | .idx .., _, _, _, _, _, h | .slc .., _, _, _, _, _, h | .call .., _, _, _, _, _, h | .callk .., _, _, _, _, _, h | .make .., _, _, _, _, _, h | .meth .., _, _, _, _, _, h | .fld .., _, _, _, _, _, h
  | .pr1 .., _, _, _, _, _, h | .pr2 .., _, _, _, _, _, h | .isi .., _, _, _, _, _, h | .comp .., _, _, _, _, _, h | .comp2 .., _, _, _, _, _, h | .sortk .., _, _, _, _, _, h | .rng .., _, _, _, _, _, h | .enm .., _, _, _, _, _, h | .zip .., _, _, _, _, _, h
  | .append .., _, _, _, _, _, h | .extend .., _, _, _, _, _, h | .pop .., _, _, _, _, _, h | .popat .., _, _, _, _, _, h | .insert .., _, _, _, _, _, h | .index .., _, _, _, _, _, h | .rpr .., _, _, _, _, _, h | .join .., _, _, _, _, _, h | .get .., _, _, _, _, _, h => nomatch (show (false : Bool) = true from h)
theorem chkK_ok : ∀ (ie : IE) {C : Sc} {L : Lay} {X : Cx} {ks : List Keyword}, XOk G L P T n C X → chkK T ie C ks = true → PK X ks (tA P (callF P n) L ie)
  | .nil, C, L, X, ks, o, h => by
    cases ks with
    | nil => exact k_nil
    | cons _ _ => simp [chkK] at h
  | .cons a r, C, L, X, ks, o, h => by
    cases ks with
    | nil => simp [chkK] at h
    | cons k ks =>
      obtain ⟨nm, e, p⟩ := k
      simp only [chkK, Bool.and_eq_true] at h
      exact k_cons ((chkE_ok a o h.1).g h.1).pe (chkK_ok r o h.2)
  | .var _, _, _, _, _, _, h | .tup _, _, _, _, _, _, h | .star _ _, _, _, _, _, _, h | .con _, _, _, _, _, _, h | .lst _, _, _, _, _, _, h | .nw _, _, _, _, _, _, h | .bin .., _, _, _, _, _, h | .cmp .., _, _, _, _, _, h | .chn .., _, _, _, _, _, h | .and .., _, _, _, _, _, h | .or .., _, _, _, _, _, h
  | .not _, _, _, _, _, _, h | .neg _, _, _, _, _, _, h | .ite .., _, _, _, _, _, h | .idx .., _, _, _, _, _, h | .slc .., _, _, _, _, _, h | .call .., _, _, _, _, _, h | .callk .., _, _, _, _, _, h | .make .., _, _, _, _, _, h | .meth .., _, _, _, _, _, h | .fld .., _, _, _, _, _, h
  | .pr1 .., _, _, _, _, _, h | .pr2 .., _, _, _, _, _, h | .isi .., _, _, _, _, _, h | .comp .., _, _, _, _, _, h | .comp2 .., _, _, _, _, _, h | .sortk .., _, _, _, _, _, h | .rng .., _, _, _, _, _, h | .enm .., _, _, _, _, _, h | .zip .., _, _, _, _, _, h
  | .append .., _, _, _, _, _, h | .extend .., _, _, _, _, _, h | .pop .., _, _, _, _, _, h | .popat .., _, _, _, _, _, h | .insert .., _, _, _, _, _, h | .index .., _, _, _, _, _, h | .rpr .., _, _, _, _, _, h | .join .., _, _, _, _, _, h | .get .., _, _, _, _, _, h => nomatch (show (false : Bool) = true from h)
end
end
end MP
namespace MP
open PySem PySem.Spec PyProof.Rows L2

def setAll {α : Type} (σ : List (Option α)) : List Nat → List α → List (Option α)
  | i :: is, w :: ws => setAll (σ.set i (some w)) is ws
  | _, _ => σ
section
variable {X : Cx} {pos : Pos}
theorem aio {M : Model} {pins : List (Addr × Obj)} {H : Hp} (hN : X.N.Nodup) : ∀ (is : List Nat) (xs : List Str) (ws : List V) (us : List Value) (σ : L2.St) (s : Shared) {Q : Unit → Shared → Prop},
    is.length = xs.length → ws.length = xs.length → (∀ (k : Nat) i x, is[k]? = some i → xs[k]? = some x → X.N[i]? = some x ∧ X.env.scope.names.lookup x = some .local) → Inv X pins σ H s → Vals ws us →
    (∀ s', Inv X pins (setAll σ is ws) H s' → Q () s') → wpAny M X.A (assignInOrder (xs.map fun n => fun v => bindName X.env n v) us) Q X.xe s
  | [], [], ws, us, σ, s, Q, _, hl, _, I, r, q => by
    cases ws with
    | nil => cases r; exact assignInOrder_nil (q s I)
    | cons _ _ => simp at hl
  | i :: is, x :: xs, ws, us, σ, s, Q, hl, hl2, h, I, r, q => by
    cases ws with
    | nil => simp at hl2
    | cons w ws =>
      cases r with
      | cons r1 r2 =>
        obtain ⟨h1, h2⟩ := h 0 i x rfl rfl
        refine assignInOrder_cons (wpAny_bindName (store_ok I hN h1 (.inl h2) r1 (fun s2 I2 => ?_) (.inr h2)))
        exact aio hN is xs ws _ _ s2 (by simpa using hl) (by simpa using hl2) (fun k i' x' e1 e2 => h (k + 1) i' x' (by simpa using e1) (by simpa using e2)) I2 r2 q
  | [], _ :: _, _, _, _, _, _, hl, _, _, _, _, _ => by simp at hl
  | _ :: _, [], _, _, _, _, _, hl, _, _, _, _, _ => by simp at hl
def tParN (is : List Nat) (ta : TA) : TS := fun D σ H => ta σ H fun vs H1 => vs.length = is.length ∧ D.nx (setAll σ is.reverse vs.reverse) H1
theorem ps_parN {is : List Nat} {xs : List Str} {es : List Expr} {tg : Expr} {ta : TA} {k2 : Nat} {pt2 : Pos} (hc : X.calm = true) (hN : X.N.Nodup) (hl : is.length = xs.length) (hsm : xs.length ≤ 1000) (hz : 0 < xs.length)
    (h : ∀ (k : Nat) i x, is[k]? = some i → xs[k]? = some x → X.N[i]? = some x ∧ X.env.scope.names.lookup x = some .local) (ha : PA X es ta)
    (hw : swappedStores [tg] (.Tuple es k2 pt2) X.env = pure (some xs))
    (hs : swapsWithSole [tg] (.Tuple es k2 pt2) pos.line X.env = pure false) :
    PS X (.Assign [tg] (.Tuple es k2 pt2) pos) (tParN is ta) := by
  refine ⟨fun pins s σ H D I hh => ?_⟩
  rw [exec_Assign_arm]
  refine wpAny_bind (wpAny_standAt ?_)
  rw [hs]
  refine wpAny_bind (wpAny_pure ?_)
  rw [if_neg (by decide)]
  refine wpAny_bind (Tuple_ (thn (ha.run _ pins s σ H _ I hh) fun us s1 ⟨vs, H1, I1, r1, hvl, q1⟩ => ?_))
  have hul : us.length = xs.length := by rw [← r1.length, hvl, hl]
  have hsz := small_line
  refine wpAny_newObj_type ?_ (by show us.length ≤ sizeLine; omega)
  have I2 : Inv X pins σ H1 { s1 with heap := s1.heap.push { cls := .type "tuple", data := .seq us.toArray } } := I1.kept (t' := s1.toks) fun b o e => Heap.get?_push_of_some _ e
  rw [hw]
  refine wpAny_bind (wpAny_pure ?_)
  show wpAny (model X.prog X.w) X.A (do rule "assign.swapped-stores"; let items ← unpackItems (.ref s1.heap.objs.size) xs.length none; assignInOrder (xs.reverse.map fun n => fun v => bindName X.env n v) items.reverse; pure Flow.next) _ _ _
  refine wpAny_bind (wpAny_rule (wpAny_bind ?_))
  rw [← hul]
  refine unpackItems_tuple (items := us.toArray) (I.ok.hd hc) (IsTup.new s1.heap _) fun h' hx' => ?_
  have I3 := I2.kept (h' := h') (t' := s1.toks) fun b o e => hx' b o (Nat.ne_of_lt (Heap.lt_size e)) e
  show wpAny _ _ (assignInOrder (xs.reverse.map fun n => fun v => bindName X.env n v) us.reverse >>= fun _ => pure Flow.next) _ _ _
  refine wpAny_bind (aio hN is.reverse xs.reverse vs.reverse us.reverse σ _ (by simpa using hl) (by simpa [hl] using hvl) (fun k i x e1 e2 => ?_) I3 r1.reverse fun s' I' => wpAny_pure ⟨_, H1, I', q1⟩)
  have hk : k < is.length := by simpa using (List.getElem?_eq_some_iff.mp e1).1
  rw [List.getElem?_reverse hk] at e1
  rw [List.getElem?_reverse (by omega)] at e2
  exact h (is.length - 1 - k) i x e1 (by rw [hl]; exact e2)
/-! ### pairs and triples -/
variable {L : Lay} {P : Prog} {cf : Nat → List PV → Store → Res PV}
theorem SR.setAll {μ : List Addr} {st : Store} {H : Hp} : ∀ (is : List Nat) {env : Env} {σ : L2.St} {vs : List PV} {xs : List V}, SR L μ env st σ H → Reps L H μ vs xs → SR L μ (setAll env is vs) st (setAll σ is xs) H
  | [], env, σ, vs, xs, S, r => S
  | i :: is, env, σ, [], xs, S, r => by rw [r.of_nil]; exact S
  | i :: is, env, σ, v :: vs, xs, S, r => by
    obtain ⟨x, xr, rfl, r1, r2⟩ := r.of_cons
    exact SR.setAll is (S.setv r1) r2
/-- the targets of a parallel assignment -/
def parT : List Nat → IE
  | [] => .nil
  | i :: is => .cons (.var i) (parT is)
theorem assign_par : ∀ (is : List Nat) {vs : List PV} {env env' : Env} {st st' : Store}, assign P cf (parT is) (.lst vs) env st = .ok env' st' → st' = st ∧ env' = setAll env is vs ∧ vs.length = is.length
  | [], vs, env, env', st, st', h => by
    cases vs with
    | nil => rw [parT, assign] at h; cases h; exact ⟨rfl, rfl, rfl⟩
    | cons _ _ => simp [parT, assign] at h
  | i :: is, vs, env, env', st, st', h => by
    cases vs with
    | nil => simp [parT, assign] at h
    | cons v vs =>
      rw [parT, assign] at h
      obtain ⟨env1, st1, e1, e2⟩ := Res.bind_eq_ok h
      rw [assign] at e1
      split at e1
      · cases e1
        obtain ⟨a, b, c⟩ := assign_par is e2
        exact ⟨a, b, by simp [c]⟩
      · cases e1
theorem setAll_set {α : Type} : ∀ (is : List Nat) (ws : List α) (σ : List (Option α)) (i : Nat) (w : α), i ∉ is → setAll (σ.set i (some w)) is ws = (setAll σ is ws).set i (some w)
  | [], _, _, _, _, _ => by simp [MP.setAll]
  | _ :: _, [], _, _, _, _ => by simp [MP.setAll]
  | j :: is, v :: ws, σ, i, w, h => by
    rw [MP.setAll, MP.setAll, List.set_comm _ _ (fun z => h (by simp [z])), setAll_set is ws _ i w (fun z => h (List.mem_cons_of_mem _ z))]
theorem setAll_append {α : Type} : ∀ (is js : List Nat) (ws vs : List α) (σ : List (Option α)), is.length = ws.length → setAll σ (is ++ js) (ws ++ vs) = setAll (setAll σ is ws) js vs
  | [], js, [], vs, σ, _ => by simp [MP.setAll]
  | [], _, _ :: _, _, _, h => by simp at h
  | _ :: _, _, [], _, _, h => by simp at h
  | i :: is, js, w :: ws, vs, σ, h => by
    rw [List.cons_append, List.cons_append, MP.setAll, MP.setAll, setAll_append is js ws vs _ (by simpa using h)]
theorem setAll_rev {α : Type} : ∀ (is : List Nat) (ws : List α) (σ : List (Option α)), is.Nodup → is.length = ws.length → setAll σ is.reverse ws.reverse = setAll σ is ws
  | [], [], σ, _, _ => rfl
  | [], _ :: _, _, _, h => by simp at h
  | _ :: _, [], _, _, h => by simp at h
  | i :: is, w :: ws, σ, hn, h => by
    obtain ⟨h1, h2⟩ := List.nodup_cons.mp hn
    rw [List.reverse_cons, List.reverse_cons, setAll_append _ _ _ _ _ (by simpa using h), setAll_rev is ws σ h2 (by simpa using h)]
    exact (setAll_set is ws σ i w h1).symm
theorem s_par {is : List Nat} {xs : List Str} {es : List Expr} {tg : Expr} {ies : IE} {k2 : Nat} {pt2 : Pos} (hc : X.calm = true) (hN : X.N.Nodup) (hl : is.length = xs.length) (hsm : xs.length ≤ 1000) (hz : 0 < xs.length) (hd : is.Nodup)
    (h : ∀ (k : Nat) i x, is[k]? = some i → xs[k]? = some x → X.N[i]? = some x ∧ X.env.scope.names.lookup x = some .local) (ha : PA X es (tA P cf L ies))
    (hw : swappedStores [tg] (.Tuple es k2 pt2) X.env = pure (some xs))
    (hs : swapsWithSole [tg] (.Tuple es k2 pt2) pos.line X.env = pure false) :
    PS X (.Assign [tg] (.Tuple es k2 pt2) pos) (tS P cf L (.asg (.tup (parT is)) (.tup ies))) := by
  refine (ps_parN hc hN hl hsm hz h ha hw hs).mono fun D σ H q => ?_
  obtain ⟨μ, env, st, fl, st', S, ev, q⟩ := q
  rw [exec] at ev
  obtain ⟨v, st1, e1, ev⟩ := Res.bind_eq_ok ev
  obtain ⟨env2, st2, e2, ev⟩ := Res.bind_eq_ok ev
  cases ev
  rw [evalE] at e1
  obtain ⟨vs, st3, e3, e1⟩ := Res.bind_eq_ok e1
  cases e1
  rw [assign] at e2
  obtain ⟨rfl, rfl, hlen⟩ := assign_par is e2
  refine ⟨μ, env, st, vs, _, S, e3, fun μ1 H1 ws S1 r1 E1 => ⟨by rw [← r1.length]; exact hlen, ?_⟩⟩
  rw [setAll_rev is ws σ hd (by rw [← r1.length]; exact hlen.symm)]
  exact q μ1 H1 _ (S1.setAll is r1) E1
end
end MP
namespace MP
open PySem PySem.Spec PyProof.Rows L2

/-! ### what is stored from the right -/
def fnK (C : Sc) : Bool := match C.sc.kind with
  | .function => true
  | _ => false
/-- none: not told; some none: not; some (some names): these -/
def swp (C : Sc) (tg v : Expr) : Option (Option (List Str)) := match tg, v with
  | .Tuple ts _ _, .Tuple vs _ _ =>
    if !(ts.length == 2 || ts.length == 3) || vs.length != ts.length then some none
    else if vs.any (fun | .Starred .. => true | _ => false) then some none
    else
      let line := (ts.head?.map (·.pos.line)).getD 0
      let names := ts.filterMap fun
        | .Name id pos => if C.sc.names.lookup id == some .local && pos.line == line then some id else none
        | _ => none
      if names.length != ts.length || names.eraseDups.length != names.length then some none
      else if vs.all (foldedForSure 8) then some none
      else if vs.all (constantsAlone 8) then none
      else some (some names)
  | .List _ _, .Tuple _ _ _ => none
  | _, _ => some none
theorem swp_ok {C : Sc} {tg v : Expr} {env : PySem.Env} {o : Option (List Str)} (hs : env.scope = C.sc) (hk : fnK C = true) (h : swp C tg v = some o) : swappedStores [tg] v env = pure o := by
  have hb : (env.blockKind != .function) = false := by
    unfold fnK at hk
    split at hk
    · rename_i e
      unfold Env.blockKind
      rw [hs, e]; rfl
    · cases hk
  unfold swp at h
  split at h
  · rename_i ts k p vs k' p'
    unfold swappedStores
    simp only [pure_bind, Env.kindOf, hs, hb, Bool.or_false]
    split at h
    · rename_i h1
      cases h
      exact if_pos h1
    · rename_i h1
      refine (if_neg h1).trans ?_
      split at h
      · rename_i h2
        cases h
        exact if_pos h2
      · rename_i h2
        refine (if_neg h2).trans ?_
        dsimp only at h
        split at h
        · rename_i h3
          cases h
          exact if_pos h3
        · rename_i h3
          refine (if_neg h3).trans ?_
          split at h
          · rename_i h4
            cases h
            exact if_pos h4
          · rename_i h4
            refine (if_neg h4).trans ?_
            split at h
            · cases h
            · rename_i h5
              cases h
              exact (if_neg h5)
  · cases h
  · rename_i h1 h2
    cases h
    cases tg with
    | Tuple ts k p =>
      cases v with
      | Tuple vs k' p' => exact absurd rfl (h1 _ _ _ _ _ _ rfl)
      | _ => rfl
    | List ts p =>
      cases v with
      | Tuple vs k' p' => exact absurd rfl (h2 _ _ _ _ _ rfl)
      | _ => rfl
    | _ => cases v <;> rfl

mutual
def chkQ (T : Tab) : IE → Sc → Expr → Bool
  | .var i, C, e => (match e with
    | .Name x _ => decide (C.N[i]? = some x) && locB C x
    | _ => false)
  | .idx o i, C, e => (match e with
    | .Subscript x y _ => !isSlc y && chkE T o 0 C x && chkE T i 0 C y
    | _ => false)
  | .fld k o, C, e => (match e with
    | .Attribute x nm _ => decide (nm = T.nms k) && decide (k < T.nf) && chkE T o 0 C x
    | _ => false)
  | .tup t, C, e => (match e with
    | .Tuple es _ _ => chkQs T t C es
    | _ => false)
  | _, _, _ => false
def chkQs (T : Tab) : IE → Sc → List Expr → Bool
  | .nil, _, es => es.isEmpty
  | .cons t r, C, es => (match es with
    | e :: es => !isSt e && chkQ T t C e && chkQs T r C es
    | [] => false)
  | _, _, _ => false
end
def noComp : Expr → Bool
  | .ListComp .. => false
  | .SetComp .. => false
  | .DictComp .. => false
  | _ => true
/-- places of the names of a parallel store -/
def parIs (C : Sc) : IE → List Str → Option (List Nat)
  | .nil, [] => some []
  | .cons (.var i) r, x :: xs => if C.N[i]? = some x ∧ C.sc.names.lookup x = some .local then (parIs C r xs).map (i :: ·) else none
  | _, _ => none
/-- a comprehension handed to its name within -/
def swapB (C : Sc) (tg : Expr) (scope : Scope) (lp : Pos) : Bool := match tg with
  | .Name y py => C.sc.names.lookup y == some .local && py.line == lp.line && !(scope.names.any fun (n, k) => n == y && (k == .local || k == .cell))
  | _ => false
def unNw : IE → IE
  | .nw e => e
  | e => e
def isComp : IE → Bool
  | .comp .. => true
  | _ => false
mutual
def chkSt (T : Tab) : IS → Sc → Stmt → Bool
  | .pass, _, st => (match st with
    | .Pass _ => true
    | _ => false)
  | .asg t e, C, st => (match st with
    | .Assign [tg] v _ => fnK C && (match swp C tg v with
      | none => false
      | some (some names) => (match t, e, v with
        | .tup ti, .tup es, .Tuple vs _ _ => (match parIs C ti names with
          | some is => decide (is.Nodup) && decide (names.length ≤ 1000) && decide (0 < names.length) && chkA T es C vs
          | none => false)
        | _, _, _ => false)
      | some none => (match v with
        | .ListComp x gs scope lp => if swapB C tg scope lp then (match t, tg with
          | .var i, .Name y _ => decide (C.N[i]? = some y) && isComp (unNw e) && chkE T (unNw e) 0 C (.ListComp x gs scope lp)
          | _, _ => false) else !isSt tg && chkQ T t C tg && chkE T e 0 C (.ListComp x gs scope lp)
        | v => noComp v && !isSt tg && chkQ T t C tg && chkE T e 0 C v))
    | _ => false)
  | .exp e, C, st => (match st with
    | .Expr v _ => noComp v && chkE T e 0 C v
    | _ => false)
  | .ret e, C, st => (match st with
    | .Return (some v) _ => chkE T e 0 C v
    | .Return none _ => isNone e
    | _ => false)
  | .iff c a b, C, st => (match st with
    | .If x y z _ => isT x && chkE T c 0 C x && chkSs T a C y && chkSs T b C z
    | _ => false)
  | .whl _ c b, C, st => (match st with
    | .While x y [] _ => isT x && chkE T c 0 C x && chkSs T b C y
    | _ => false)
  | .fors t it b, C, st => (match st with
    | .For x y z [] _ => chkG t C x && chkE T it (if isTupE x then 2 else 1) C y && chkSs T b C z
    | _ => false)
  | .rse _, _, _ => true
  | _, _, _ => false
def chkSs (T : Tab) : IS → Sc → List Stmt → Bool
  | .nil, _, ss => ss.isEmpty
  | .cons s r, C, ss => (match ss with
    | st :: ss => chkSt T s C st && chkSs T r C ss
    | [] => false)
  | _, _, _ => false
end
section
variable {G : Gb} {L : Lay} {P : Prog} {T : Tab} {n : Nat} {C : Sc} {X : Cx} {cf : Nat → List PV → Store → Res PV} {ie : IE} {e : Expr} {m : Nat}
theorem qs_len : ∀ (t : IE) {C : Sc} {es : List Expr} {env : PySem.Env}, chkQs T t C es = true → isTs t = true ∧ (assignEach es env).length = tlen t ∧ (assignEach es env).findIdx? (·.1) = none
  | .nil, C, es, env, h => by
    cases es with
    | nil => exact ⟨rfl, rfl, rfl⟩
    | cons _ _ => simp [chkQs] at h
  | .cons t r, C, es, env, h => by
    cases es with
    | nil => simp [chkQs] at h
    | cons e es =>
      simp only [chkQs, Bool.and_eq_true] at h
      obtain ⟨⟨h1, h2⟩, h3⟩ := h
      obtain ⟨a, b, c⟩ := qs_len (env := env) r h3
      rw [asg_no (bn h1)]
      exact ⟨a, by rw [List.length_cons, tlen, b], by rw [List.findIdx?_cons, c]; rfl⟩
  | .star _ _, _, _, _, h | .var _, _, _, _, h | .con _, _, _, _, h | .tup _, _, _, _, h | .lst _, _, _, _, h | .nw _, _, _, _, h | .bin .., _, _, _, h | .cmp .., _, _, _, h | .chn .., _, _, _, h | .and .., _, _, _, h | .or .., _, _, _, h
  | .not _, _, _, _, h | .neg _, _, _, _, h | .ite .., _, _, _, h | .idx .., _, _, _, h | .slc .., _, _, _, h | .call .., _, _, _, h | .callk .., _, _, _, h | .make .., _, _, _, h | .meth .., _, _, _, h | .fld .., _, _, _, h
  | .pr1 .., _, _, _, h | .pr2 .., _, _, _, h | .isi .., _, _, _, h | .comp .., _, _, _, h | .comp2 .., _, _, _, h | .sortk .., _, _, _, h | .rng .., _, _, _, h | .enm .., _, _, _, h | .zip .., _, _, _, h
  | .append .., _, _, _, h | .extend .., _, _, _, h | .pop .., _, _, _, h | .popat .., _, _, _, h | .insert .., _, _, _, h | .index .., _, _, _, h | .rpr .., _, _, _, h | .join .., _, _, _, h | .get .., _, _, _, h => nomatch (show (false : Bool) = true from h)
theorem sub_ha {o i : Expr} {pos : Pos} {env : PySem.Env} (h : isSlc i = false) : ∀ v, PySem.assign (.Subscript o i pos) env v = (do
      let ov ← holding [v] (eval o env)
      let iv ← holding [v, ov] (eval i env)
      standAt pos
      holding [v, ov, iv] (setItem ov iv v)
      release [v, ov, iv] []) := by
  cases i <;> first | (intro v; rfl) | cases h
mutual
theorem chkQ_ok : ∀ (t : IE) {C : Sc} {L : Lay} {X : Cx} {e : Expr}, XOk G L P T n C X → chkQ T t C e = true → PG X e (tQ L P (callF P n) t)
  | .var i, C, L, X, e, o, h => by
    simp only [chkQ] at h
    split at h
    · obtain ⟨h1, h2⟩ := b2 h
      obtain ⟨a, b⟩ := o.loc h2
      exact q_name o.nd (by rw [o.N]; exact of_decide_eq_true h1) a b
    · cases h
  | .idx a i, C, L, X, e, o, h => by
    simp only [chkQ] at h
    split at h
    · simp only [Bool.and_eq_true] at h
      obtain ⟨⟨h1, h2⟩, h3⟩ := h
      exact q_sub o.K ((chkE_ok a o h2).g h2).pe ((chkE_ok i o h3).g h3).pe (sub_ha (bn h1))
    · cases h
  | .fld k a, C, L, X, e, o, h => by
    simp only [chkQ] at h
    split at h
    · simp only [Bool.and_eq_true] at h
      obtain ⟨⟨h1, h2⟩, h3⟩ := h
      have e1 := of_decide_eq_true h1
      rw [← o.g.nm] at e1
      subst e1
      have hk := of_decide_eq_true h2
      exact q_att o.K o.g.nmI ((chkE_ok a o h3).g h3).pe (fun c cl h => by rw [o.c.K]; exact (o.g.cls c cl h).1.clo) (fun c cl h hm => by rw [o.c.K]; exact o.g.no c cl k h hk hm)
    · cases h
  | .tup t, C, L, X, e, o, h => by
    simp only [chkQ] at h
    split at h
    · obtain ⟨a, b, c⟩ := qs_len (env := X.env) t h
      exact q_tup o.K o.calm (chkQs_ok t o h) a b c
    · cases h
  | .nil, _, _, _, _, _, h | .cons _ _, _, _, _, _, _, h | .star _ _, _, _, _, _, _, h | .con _, _, _, _, _, _, h | .lst _, _, _, _, _, _, h | .nw _, _, _, _, _, _, h | .bin .., _, _, _, _, _, h | .cmp .., _, _, _, _, _, h | .chn .., _, _, _, _, _, h | .and .., _, _, _, _, _, h | .or .., _, _, _, _, _, h
  | .not _, _, _, _, _, _, h | .neg _, _, _, _, _, _, h | .ite .., _, _, _, _, _, h | .slc .., _, _, _, _, _, h | .call .., _, _, _, _, _, h | .callk .., _, _, _, _, _, h | .make .., _, _, _, _, _, h | .meth .., _, _, _, _, _, h
  | .pr1 .., _, _, _, _, _, h | .pr2 .., _, _, _, _, _, h | .isi .., _, _, _, _, _, h | .comp .., _, _, _, _, _, h | .comp2 .., _, _, _, _, _, h | .sortk .., _, _, _, _, _, h | .rng .., _, _, _, _, _, h | .enm .., _, _, _, _, _, h | .zip .., _, _, _, _, _, h
  | .append .., _, _, _, _, _, h | .extend .., _, _, _, _, _, h | .pop .., _, _, _, _, _, h | .popat .., _, _, _, _, _, h | .insert .., _, _, _, _, _, h | .index .., _, _, _, _, _, h | .rpr .., _, _, _, _, _, h | .join .., _, _, _, _, _, h | .get .., _, _, _, _, _, h => nomatch (show (false : Bool) = true from h)
theorem chkQs_ok : ∀ (t : IE) {C : Sc} {L : Lay} {X : Cx} {es : List Expr}, XOk G L P T n C X → chkQs T t C es = true → PGs X es (tQs L P (callF P n) t)
  | .nil, C, L, X, es, o, h => by
    cases es with
    | nil => exact qs_nil
    | cons _ _ => simp [chkQs] at h
  | .cons t r, C, L, X, es, o, h => by
    cases es with
    | nil => simp [chkQs] at h
    | cons e es =>
      simp only [chkQs, Bool.and_eq_true] at h
      obtain ⟨⟨h1, h2⟩, h3⟩ := h
      exact qs_cons (chkQ_ok t o h2) (chkQs_ok r o h3) (by rw [asg_no (bn h1)]; rfl)
  | .star _ _, _, _, _, _, _, h | .var _, _, _, _, _, _, h | .con _, _, _, _, _, _, h | .tup _, _, _, _, _, _, h | .lst _, _, _, _, _, _, h | .nw _, _, _, _, _, _, h | .bin .., _, _, _, _, _, h | .cmp .., _, _, _, _, _, h | .chn .., _, _, _, _, _, h | .and .., _, _, _, _, _, h | .or .., _, _, _, _, _, h
  | .not _, _, _, _, _, _, h | .neg _, _, _, _, _, _, h | .ite .., _, _, _, _, _, h | .idx .., _, _, _, _, _, h | .slc .., _, _, _, _, _, h | .call .., _, _, _, _, _, h | .callk .., _, _, _, _, _, h | .make .., _, _, _, _, _, h | .meth .., _, _, _, _, _, h | .fld .., _, _, _, _, _, h
  | .pr1 .., _, _, _, _, _, h | .pr2 .., _, _, _, _, _, h | .isi .., _, _, _, _, _, h | .comp .., _, _, _, _, _, h | .comp2 .., _, _, _, _, _, h | .sortk .., _, _, _, _, _, h | .rng .., _, _, _, _, _, h | .enm .., _, _, _, _, _, h | .zip .., _, _, _, _, _, h
  | .append .., _, _, _, _, _, h | .extend .., _, _, _, _, _, h | .pop .., _, _, _, _, _, h | .popat .., _, _, _, _, _, h | .insert .., _, _, _, _, _, h | .index .., _, _, _, _, _, h | .rpr .., _, _, _, _, _, h | .join .., _, _, _, _, _, h | .get .., _, _, _, _, _, h => nomatch (show (false : Bool) = true from h)
end
theorem comp_set {tg it cond elt : IE} {x : Expr} {gs : List Comprehension} {scope : Scope} {lp : Pos} {i : Nat} {y : Str} {py spos : Pos} (o : XOk G L P T n C X) (h : chkE T (.comp tg it cond elt) 0 C (.ListComp x gs scope lp) = true) (hi : X.N[i]? = some y) (hyl : X.env.scope.names.lookup y = some .local)
    (hsw : swapsWith (.ListComp x gs scope lp) (some (.Name y py)) spos.line X.env = pure true) : PS X (.Assign [.Name y py] (.ListComp x gs scope lp) spos) (tAsg (tN P (callF P n) L (.comp tg it cond elt)) (gName i)) := by
  simp only [chkE] at h
  split at h
  · rename_i he
    cases he
    simp only [Bool.and_eq_true] at h
    obtain ⟨⟨⟨⟨h1, h2⟩, h3⟩, h4⟩, h5⟩ := h
    have hi' := (chkE_ok it o h3).2 _ (by split <;> omega) (fun z => by
        split at z
        · assumption
        · cases z)
    have hok := blkOk_by h2
    refine s_setLc (icond := cond) o.calm o.nd hi hyl hsw hi' (by rw [o.N, o.sc]; exact hok) (fun i => own_iff (slots_lt tg h1) i)
        (fun D s H A cl fp => chkG_ok tg (o.blk D scope s H A cl fp) h1) (fun D s H A cl fp => ?_)
        (fun D s H A cl fp => ((chkE_ok elt (o.blk D scope s H A cl fp) h5).g h5).pe) (folded_chk h3)
    split at h4
    · unfold posB at h4
      split at h4
      · exact ts_nil
      · cases h4
    · obtain ⟨h6, h7⟩ := b2 h4
      exact pts_one (((chkE_ok cond (o.blk D scope s H A cl fp) h7).g h7).pt h6)
    · cases h4
  · cases h
theorem parIs_ok : ∀ (t : IE) {xs : List Str} {is : List Nat}, parIs C t xs = some is → t = parT is ∧ is.length = xs.length ∧ ∀ (k : Nat) i x, is[k]? = some i → xs[k]? = some x → C.N[i]? = some x ∧ C.sc.names.lookup x = some .local
  | t, [], is, h => by
    unfold parIs at h
    split at h
    · cases h; exact ⟨rfl, rfl, fun k i x e => by simp at e⟩
    · rename_i e; cases e
    · cases h
  | t, x :: xs, is, h => by
    unfold parIs at h
    split at h
    · rename_i e; cases e
    · rename_i i r x' xs' e
      cases e
      split at h
      · rename_i hc
        rw [Option.map_eq_some_iff] at h
        obtain ⟨is', h', rfl⟩ := h
        obtain ⟨a, b, c⟩ := parIs_ok r h'
        refine ⟨by rw [parT, ← a], by simp [b], fun k i' x' e1 e2 => ?_⟩
        cases k with
        | zero => simp at e1 e2; subst e1 e2; exact hc
        | succ k => exact c k i' x' (by simpa using e1) (by simpa using e2)
      · cases h
    · cases h
theorem noComp_sw {v : Expr} {t : Option Expr} {l : Nat} {env : PySem.Env} (h : noComp v = true) : swapsWith v t l env = pure false := by
  cases v <;> first | rfl | cases h
theorem swap_t {x : Expr} {gs : List Comprehension} {scope : Scope} {lp : Pos} {tg : Expr} {l : Nat} {env : PySem.Env} (hs : env.scope = C.sc) (hk : fnK C = true) (h : swapB C tg scope lp = true) : swapsWith (.ListComp x gs scope lp) (some tg) l env = pure true := by
  unfold swapB at h
  split at h
  · rename_i y py
    simp only [Bool.and_eq_true, beq_iff_eq] at h
    obtain ⟨⟨h1, h2⟩, h3⟩ := h
    have hk' : env.scope.kind = .function := by
      rw [hs]; unfold fnK at hk; split at hk
      · assumption
      · cases hk
    exact sw_true hk' (by rw [hs]; exact h1) (by rw [beq_iff_eq]; exact h2) (by simpa using h3)
  · cases h
theorem swap_f {x : Expr} {gs : List Comprehension} {scope : Scope} {lp : Pos} {tg : Expr} {l : Nat} {env : PySem.Env} (hs : env.scope = C.sc) (hk : fnK C = true) (h : swapB C tg scope lp = false) : swapsWith (.ListComp x gs scope lp) (some tg) l env = pure false := by
  cases tg with
  | Name y py =>
    have hb : (env.blockKind == .function) = true := by
      unfold fnK at hk
      split at hk
      · rename_i e
        unfold Env.blockKind
        rw [hs, e]; rfl
      · cases hk
    show (do return env.blockKind == .function && env.kindOf y == some .local && py.line == lp.line && !(scope.names.any fun (n, k) => n == y && (k == .local || k == .cell)) : Sem Bool) = _
    rw [hb]
    have hk2 : env.kindOf y = C.sc.names.lookup y := by show env.scope.names.lookup y = _; rw [hs]
    rw [hk2]
    unfold swapB at h
    dsimp only at h
    rw [Bool.true_and, h]
  | _ => rfl
theorem sole {tg v : Expr} {l : Nat} {env : PySem.Env} {b : Bool} (h : swapsWith v (some tg) l env = pure b) : swapsWithSole [tg] v l env = pure b := h
end
end MP
namespace MP
open PySem PySem.Spec PyProof.Rows L2
section
variable {G : Gb} {L : Lay} {P : Prog} {T : Tab} {n : Nat} {C : Sc} {X : Cx} {cf : Nat → List PV → Store → Res PV} {ie : IE} {e : Expr} {m : Nat}
theorem asg_one {tg : Expr} {env : PySem.Env} (h : isSt tg = false) : (assignEach [tg] env).map (·.2) = [PySem.assign tg env] := by rw [asg_no h]; rfl
theorem unNw_cases {e : IE} (h : isComp (unNw e) = true) : ∃ tg it cond elt, (e = .comp tg it cond elt ∨ e = .nw (.comp tg it cond elt)) ∧ unNw e = .comp tg it cond elt := by
  unfold unNw at h ⊢
  split at h
  · rename_i e'
    cases e' with
    | comp tg it cond elt => exact ⟨tg, it, cond, elt, .inr rfl, rfl⟩
    | _ => cases h
  · rename_i e' hn
    cases e with
    | comp tg it cond elt => exact ⟨tg, it, cond, elt, .inl rfl, rfl⟩
    | nw x => exact absurd rfl (hn x)
    | _ => cases h
theorem asg_ok {t e : IE} {tg v : Expr} {pos : Pos} (o : XOk G L P T n C X) (hk : fnK C = true) (h : (match swp C tg v with
      | none => false
      | some (some names) => (match t, e, v with
        | .tup ti, .tup es, .Tuple vs _ _ => (match parIs C ti names with
          | some is => decide (is.Nodup) && decide (names.length ≤ 1000) && decide (0 < names.length) && chkA T es C vs
          | none => false)
        | _, _, _ => false)
      | some none => (match v with
        | .ListComp x gs scope lp => if swapB C tg scope lp then (match t, tg with
          | .var i, .Name y _ => decide (C.N[i]? = some y) && isComp (unNw e) && chkE T (unNw e) 0 C (.ListComp x gs scope lp)
          | _, _ => false) else !isSt tg && chkQ T t C tg && chkE T e 0 C (.ListComp x gs scope lp)
        | v => noComp v && !isSt tg && chkQ T t C tg && chkE T e 0 C v)) = true) : PS X (.Assign [tg] v pos) (tS P (callF P n) L (.asg t e)) := by
  split at h
  · cases h
  · rename_i names hsw
    have hw := swp_ok (env := X.env) o.sc hk hsw
    split at h
    · rename_i ti es vs k p
      split at h
      · rename_i is hp
        simp only [Bool.and_eq_true] at h
        obtain ⟨⟨⟨h1, h2⟩, h3⟩, h4⟩ := h
        obtain ⟨rfl, hl, hn⟩ := parIs_ok ti hp
        exact s_par o.calm o.nd hl (of_decide_eq_true h2) (of_decide_eq_true h3) (of_decide_eq_true h1) (fun k i x e1 e2 => by rw [o.N, o.sc]; exact hn k i x e1 e2) (chkA_ok es o h4) hw (sole (noComp_sw rfl))
      · cases h
    · cases h
  · rename_i hsw
    have hw := swp_ok (env := X.env) o.sc hk hsw
    split at h
    · rename_i x gs scope lp
      split at h
      · rename_i hb
        split at h
        · rename_i i y py
          simp only [Bool.and_eq_true] at h
          obtain ⟨⟨h1, h2⟩, h3⟩ := h
          obtain ⟨tg', it, cond, elt, he, hu⟩ := unNw_cases h2
          rw [hu] at h3
          have hyl : X.env.scope.names.lookup y = some .local := by
            rw [o.sc]
            unfold swapB at hb
            simp only [Bool.and_eq_true, beq_iff_eq] at hb
            exact hb.1.1
          have hs := comp_set (spos := pos) o h3 (by rw [o.N]; exact of_decide_eq_true h1) hyl (swap_t o.sc hk hb)
          rcases he with rfl | rfl
          · exact s_asgN hs comp_isl
          · exact s_asgM hs
        · cases h
      · rename_i hb
        simp only [Bool.and_eq_true] at h
        obtain ⟨⟨h1, h2⟩, h3⟩ := h
        exact s_asg ((chkE_ok e o h3).g h3).pe (chkQ_ok t o h2) (sole (swap_f o.sc hk (by simpa using hb))) hw (asg_one (bn h1))
    · simp only [Bool.and_eq_true] at h
      obtain ⟨⟨⟨h0, h1⟩, h2⟩, h3⟩ := h
      exact s_asg ((chkE_ok e o h3).g h3).pe (chkQ_ok t o h2) (sole (noComp_sw h0)) hw (asg_one (bn h1))
theorem XOk.own (o : XOk G L P T n C X) : PassesOwn (model X.prog X.w) X.A X.env X.xe := by rw [o.c.xe]; exact PassesOwn.never
mutual
theorem chkSt_ok : ∀ (is : IS) {C : Sc} {L : Lay} {X : Cx} {s : Stmt}, XOk G L P T n C X → chkSt T is C s = true → PS X s (tS P (callF P n) L is)
  | .pass, C, L, X, s, o, h => by
    simp only [chkSt] at h
    split at h
    · exact s_pass
    · cases h
  | .asg t e, C, L, X, s, o, h => by
    simp only [chkSt] at h
    split at h
    · obtain ⟨h1, h2⟩ := b2 h
      exact asg_ok o h1 h2
    · cases h
  | .exp e, C, L, X, s, o, h => by
    simp only [chkSt] at h
    split at h
    · obtain ⟨h1, h2⟩ := b2 h
      exact s_expr ((chkE_ok e o h2).g h2).pe (noComp_sw h1)
    · cases h
  | .ret e, C, L, X, s, o, h => by
    simp only [chkSt] at h
    split at h
    · exact s_ret ((chkE_ok e o h).g h).pe
    · unfold isNone at h
      split at h
      · exact s_retN
      · cases h
    · cases h
  | .iff c a b, C, L, X, s, o, h => by
    simp only [chkSt] at h
    split at h
    · simp only [Bool.and_eq_true] at h
      obtain ⟨⟨⟨h1, h2⟩, h3⟩, h4⟩ := h
      exact s_if (((chkE_ok c o h2).g h2).pt h1) (chkSs_ok a o h3) (chkSs_ok b o h4)
    · cases h
  | .whl k c b, C, L, X, s, o, h => by
    simp only [chkSt] at h
    split at h
    · simp only [Bool.and_eq_true] at h
      obtain ⟨⟨h1, h2⟩, h3⟩ := h
      exact s_whl o.own (((chkE_ok c o h2).g h2).pt h1) (chkSs_ok b o h3)
    · cases h
  | .fors t it b, C, L, X, s, o, h => by
    simp only [chkSt] at h
    split at h
    · simp only [Bool.and_eq_true] at h
      obtain ⟨⟨h1, h2⟩, h3⟩ := h
      exact s_for o.K o.own o.calm ((chkE_ok it o h2).2 _ (by split <;> omega) (fun z => by
        split at z
        · assumption
        · cases z)) (chkG_ok t o h1) (chkSs_ok b o h3) (folded_chk h2)
    · cases h
  | .rse _, C, L, X, s, o, h => s_rse
  | .nil, _, _, _, _, _, h | .cons _ _, _, _, _, _, _, h => nomatch (show (false : Bool) = true from h)
theorem chkSs_ok : ∀ (is : IS) {C : Sc} {L : Lay} {X : Cx} {ss : List Stmt}, XOk G L P T n C X → chkSs T is C ss = true → PSs X ss (tS P (callF P n) L is)
  | .nil, C, L, X, ss, o, h => by
    cases ss with
    | nil => exact ss_nil
    | cons _ _ => simp [chkSs] at h
  | .cons s r, C, L, X, ss, o, h => by
    cases ss with
    | nil => simp [chkSs] at h
    | cons st ss =>
      simp only [chkSs, Bool.and_eq_true] at h
      exact ss_cons (chkSt_ok s o h.1) (chkSs_ok r o h.2)
  | .pass, _, _, _, _, _, h | .asg _ _, _, _, _, _, _, h | .exp _, _, _, _, _, _, h | .ret _, _, _, _, _, _, h | .iff _ _ _, _, _, _, _, _, h | .whl _ _ _, _, _, _, _, _, h | .fors _ _ _, _, _, _, _, _, h | .rse _, _, _, _, _, _, h => nomatch (show (false : Bool) = true from h)
end

/-! ### the defs -/
/-- what a def is, as the text has it -/
structure FD where
  fu : Fun
  ps : List Str
  N : List Str
  sc : Scope
  body : List Stmt
  tab : Option Nat := none
def FD.ok (T : Tab) (d : FD) : Bool := scOk d.N d.ps d.sc && decide (d.ps.length = d.fu.np) && decide (d.N.length = d.fu.nl) && chkSs T d.fu.body ⟨d.N, d.sc, fun _ => true, d.tab⟩ d.body
/-- the fixed facts but the defs' promises -/
structure GFix (G : Gb) (L : Lay) (P : Prog) (T : Tab) : Prop where
  hK : G.K = L.K
  nm : L.nm = T.nms
  nmI : ∀ a b : Nat, L.nm a = L.nm b → a = b
  cls : ∀ c cl, P.cls c = some cl → ClassAt G L P c cl ∧ (P.funs cl.init).isSome = true
  no : ∀ c cl k, P.cls c = some cl → k < T.nf → cl.meths.lookup k = none → NoAttr G.K (L.cls c) (L.nm k)
  tf : ∀ x f, T.fns.lookup x = some f → G.mg x = some (.ref (L.fna f)) ∧ (P.funs f).isSome = true
  tc : ∀ x c, T.cls.lookup x = some c → G.mg x = some (.ref (L.cls c)) ∧ (P.cls c).isSome = true
  tk : ∀ x v, T.con.lookup x = some v → ∃ u w, G.mg x = some u ∧ RelV w u ∧ ∀ h H μ, Rep (L.wh h) H μ v w
  tb : ∀ x, T.blt.contains x = true → G.mg x = none
  rp : ∀ v t, P.rpr v = some t → RprOk v t
/-- the table of a def that holds a lambda -/
def TabAt (G : Gb) (L : Lay) (f : Nat) (qual : Str) (d : FD) : Prop := ∀ t, d.tab = some t → (∃ c, (∀ (oc : Value) (od : Option Addr) (fd : FuncData) (osl : Array (Option Value)), G.K.lookup (L.fna f) = some ⟨oc, od, .func fd, osl⟩ → fd.code = .ref c) ∧ LamX.TabB G.base G.mg c (L.tab t)) ∧ (qual ++ ".<locals>.") ++ "<lambda>" = L.tq t
/-- a def of the text at its place -/
structure FdAt (G : Gb) (L : Lay) (T : Tab) (f : Nat) (d : FD) : Prop where
  ok : d.ok T = true
  ex : ∃ (x qual : Str) (params : Arguments) (fd : FuncData), FunD G.K x qual params d.body d.sc [] [] (L.fna f) fd ∧ Binds G.K fd d.ps [] ∧ (∀ q ∈ T.kws, q.1 = f → KwOk G.K fd d.ps q.2.1 q.2.2) ∧ TabAt G L f qual d
theorem fns_ok {pins : Nat} (g : GFix G L P T) (hf : ∀ f u, P.funs f = some u → ∃ d : FD, d.fu = u ∧ FdAt G L T f d) : ∀ n, FnsOk G L P T.kws n
  | 0 => fun f u hu => by
    obtain ⟨d, rfl, ok, x, qual, params, fd, F, hb, hk, tb⟩ := hf f u hu
    have hok := ok
    unfold FD.ok at hok
    simp only [Bool.and_eq_true, decide_eq_true_eq] at hok
    refine ⟨fd, d.ps, ⟨⟨fun vs H Q E h => h.1, fun A outer s H args us vs Q E _ _ _ _ _ h => ?_⟩, F.kp, hb⟩, hok.1.1.2, hk⟩
    obtain ⟨_, _, _, _, _, _, _, _, _, ev, _⟩ := h
    rw [callF] at ev
    cases ev
  | n + 1 => fun f u hu => by
    have Fn := fns_ok (pins := pins) g hf n
    obtain ⟨d, rfl, ok, x, qual, params, fd, F, hb, hk, tb⟩ := hf f u hu
    have hok := ok
    unfold FD.ok at hok
    simp only [Bool.and_eq_true, decide_eq_true_eq] at hok
    obtain ⟨⟨⟨h1, h2⟩, h3⟩, h4⟩ := hok
    have S := scOk_ok h1
    refine ⟨fd, d.ps, ⟨?_, F.kp, hb⟩, h2, hk⟩
    refine g_of (k := 3 * n + 2) F S (fun vs H Q E h => h.1) fun cdv A outer s H vs Q E hr hgd hcd hsp => ?_
    obtain ⟨hvl, h, μ, st, pvs, v, st', S0, r, ev, q⟩ := hsp
    have gk : GOk G L P T n := ⟨g.hK, Fn, g.nm, g.nmI, g.cls, g.no, g.tf, g.tc, g.tk, g.tb, g.rp⟩
    have o : XOk G (L.wh h) P T n ⟨d.N, d.sc, fun _ => true, d.tab⟩ (cxOf noX G.prog G.w G.K G.mg G.base d.N qual d.sc (L.fna f) cdv A outer s H E).nox :=
      ⟨gk.wh h, ⟨rfl, rfl, rfl, rfl, rfl, rfl, hgd⟩, rfl, S.nd, rfl, rfl, rfl, hr.mono (Nat.le_succ _), fun t ht => by
        obtain ⟨⟨c, h1, h2⟩, h3⟩ := tb t ht
        obtain ⟨oc, od, fd', osl, lk, e⟩ := hcd
        exact ⟨⟨c, e.symm.trans (h1 _ _ _ _ lk), h2⟩, h3, hr⟩⟩
    refine ⟨tS P (callF P n) (L.wh h) d.fu.body, PSs.nox (chkSs_ok d.fu.body o h4), ?_⟩
    rw [callF, hu] at ev
    simp only at ev
    have hpl : d.ps.length ≤ d.N.length := by have := congrArg List.length S.pre; rw [List.length_take] at this; omega
    split at ev
    · rename_i hnp
      obtain ⟨fl, st1, e1, e2⟩ := Res.bind_eq_ok ev
      have SS := start_rep (N := d.N) S0 r (by omega)
      rw [h3, hnp] at SS
      refine ⟨μ, _, st, fl, st1, SS, e1, ?_⟩
      cases fl with
      | nx env =>
        simp only at e2
        intro μ1 H1 σ1 S1 E1
        split at e2
        · obtain ⟨T1, ru, E'⟩ := gc_ok S0 S1.sto E1 Rep.non_ e2
          exact q μ H1 _ T1 ru E'
        · cases e2
          exact q μ1 H1 _ S1.sto Rep.non_ E1
      | rt w =>
        simp only at e2
        intro μ1 H1 y S1 ry E1
        split at e2
        · obtain ⟨T1, ru, E'⟩ := gc_ok S0 S1 E1 ry e2
          exact q μ H1 _ T1 ru E'
        · cases e2
          exact q μ1 H1 _ S1 ry E1
    · cases ev
end
end MP
namespace MP
open PySem PySem.Spec PyProof.Rows L2

/-- repr of lists and tuples of small ints, bools .. -/
def isSeq : PV → Bool
  | .tup _ => true
  | .lst _ => true
  | _ => false
def rprK (v : PV) : Option (List Nat) := if (isSeq v && depthOk v && (toD v).intsShort 13 && (toD v).showable && decide ((toD v).weight ≤ 2 ^ 20)) = true then some (toD v).shown.cps.toList else none
theorem rprK_ok (v : PV) (t : List Nat) (h : rprK v = some t) : RprOk v t := by
  unfold rprK at h
  split at h
  · rename_i hc
    cases h
    simp only [Bool.and_eq_true, decide_eq_true_eq] at hc
    obtain ⟨⟨⟨⟨h1, h2⟩, h3⟩, h4⟩, h5⟩ := hc
    refine ⟨?_, h2, h4, PyData.shown_fits (B := 13) (by decide) (by decide) (PyData.leavesShort_of_canLay0 13 _ (canLay_toD v (isD_of h2)) h3) h5, rfl⟩
    unfold isSeq at h1
    split at h1
    · exact .inl ⟨_, rfl⟩
    · exact .inr ⟨_, rfl⟩
    · cases h1
  · cases h
/-! ### from the head's facts -/
section
variable {G : Gb} {L : Lay} {P : Prog} {T : Tab}
def FdX (G : Gb) (L : Lay) (T : Tab) (f : Nat) (d : FD) : Prop := ∃ (x qual : Str) (params : Arguments) (fd : FuncData), FunD G.K x qual params d.body d.sc [] [] (L.fna f) fd ∧ Binds G.K fd d.ps [] ∧ (∀ q ∈ T.kws, q.1 = f → KwOk G.K fd d.ps q.2.1 q.2.2) ∧ TabAt G L f qual d
theorem tab_no {f : Nat} {qual : Str} {d : FD} (h : d.tab = none) : TabAt G L f qual d := fun t e => by rw [h] at e; cases e
def FdXs (G : Gb) (L : Lay) (T : Tab) : List FD → Nat → Prop
  | [], _ => True
  | d :: ds, i => FdX G L T i d ∧ FdXs G L T ds (i + 1)
theorem FdXs.get : ∀ {ds : List FD} {i j : Nat} {d : FD}, FdXs G L T ds i → ds[j]? = some d → FdX G L T (i + j) d
  | [], _, _, _, _, e => by simp at e
  | d :: ds, i, 0, d', h, e => by simp at e; subst e; exact h.1
  | d :: ds, i, j + 1, d', h, e => by
    have := FdXs.get h.2 (by simpa using e)
    rw [Nat.add_right_comm] at this
    exact this
theorem funs_of {fds : List FD} (hP : ∀ f, P.funs f = (fds[f]?).map (·.fu)) (ok : fds.all (FD.ok T) = true) (hx : FdXs G L T fds 0) : ∀ f u, P.funs f = some u → ∃ d : FD, d.fu = u ∧ FdAt G L T f d := by
  intro f u h
  rw [hP, Option.map_eq_some_iff] at h
  obtain ⟨d, hd, rfl⟩ := h
  have := hx.get hd
  rw [Nat.zero_add] at this
  exact ⟨d, rfl, List.all_eq_true.mp ok d (List.mem_of_getElem? hd), this⟩
def SqO (K : Fg) (H : Hp) (a : Addr) (xs : List V) : Prop := Rd H a (.lst xs) ∨ ∃ (its : Array Value) (n : Nat), K.lookup a = some { cls := .type "list", data := .seq its n } ∧ its.size ≤ sizeLine ∧ Vals xs its.toList
/-- the store that the law starts with: the tables -/
def tabs0 (k : Nat) : Store := (List.range k).map .tbl
/-- the law's def: what is asked of it; ps the tables' addresses -/
def spLaw (K : Fg) (ps : List Addr) : Sp := fun vs H Q _ => ∃ (a : Addr) (ns : List Int), vs = [.ref a] ∧ SqO K H a (ns.map V.int) ∧ ns.length ≤ 63 ∧ (∀ p ∈ ps, H p = some (.tbl #[])) ∧ a ∉ ps ∧ ∀ H', Q (.bl true) H'
theorem law_sp {n f : Nat} {ps : List Str} {K : Fg} {as : List Addr} (hK : K = L.K) (hps : ps.length = 1) (hT : L.tab = fun t => as.getD t 0) (nd : as.Nodup) (math : ∀ ns : List Int, ns.length ≤ 63 → ∃ st', callF P n f [.set (ns.map PV.int)] (tabs0 as.length) = .ok (.bl true) st') (vs : List V) (H : Hp) (Q : VK) (E : XK) (h : spLaw K as vs H Q E) : spF L P n f ps vs H Q E := by
  obtain ⟨a, ns, rfl, hs, hl, ht, ha, q⟩ := h
  obtain ⟨st', e⟩ := math ns hl
  refine ⟨hps.symm, [], as, _, _, _, st', ⟨by rw [tabs0, List.length_map, List.length_range], nd, fun a ha => (nomatch ha), fun n o e => ?_⟩, .cons ?_ .nil, e, fun μ' H' x S r E' => ?_⟩
  · unfold tabs0 at e
    rw [List.getElem?_map] at e
    by_cases hn : n < as.length
    · rw [List.getElem?_range hn] at e
      cases e
      have hm : as[n] ∈ as := List.getElem_mem hn
      refine ⟨as[n], List.getElem?_eq_getElem hn, ?_, #[], ht _ hm, True.intro, fun pos cv hc => ?_⟩
      · show as[n] = L.tab n
        rw [hT]
        simp [hn]
      · have hc : codeAmong pos [] = some cv := hc
        simp [codeAmong] at hc
    · rw [List.getElem?_eq_none (by simpa using hn)] at e; cases e
  · rw [Rep]
    refine ⟨a, ns.map V.int, rfl, ?_, reps_ints ns⟩
    rcases hs with hs | ⟨its, n, e1, e2, e3⟩
    · exact .inl ⟨hs, ha, by simp [Lay.wh]⟩
    · exact .inr ⟨its, n, by show L.K.lookup a = _; rw [← hK]; exact e1, e2, e3⟩
  · rw [Rep] at r
    subst r
    exact q H'
/-- a promise told of all guards, of those without -/
theorem FnG.law {P' : Program} {w : World} {K : Fg} {mg : Str → Option Value} {base : Heap} {k : Nat} {f : Addr} {fd : FuncData} {ps : List Str} {sp sp' : Sp} (F : FnG P' w K mg base k f fd ps sp) (h : ∀ vs H Q E, sp' vs H Q E → sp vs H Q E) : FnG P' w K mg base k f fd ps sp' :=
  ⟨fun vs H Q E q => F.len vs H Q E (h _ _ _ _ q), fun A outer s H args us vs Q E hr hg he hb hv hs => F.go A outer s H args us vs Q E hr hg he hb hv (h _ _ _ _ hs)⟩
end
/-! ### lists of facts -/
def AllP {α : Type} (p : α → Prop) : List α → Prop
  | [] => True
  | a :: l => p a ∧ AllP p l
theorem AllP.mem {α : Type} {p : α → Prop} : ∀ {l : List α} {a : α}, AllP p l → a ∈ l → p a
  | b :: l, a, h, m => by
    rcases List.mem_cons.mp m with rfl | m
    · exact h.1
    · exact AllP.mem h.2 m
theorem AllP.lookup {α : Type} {β : Type} [BEq α] [LawfulBEq α] {p : α → β → Prop} {l : List (α × β)} (h : AllP (fun q => p q.1 q.2) l) (x : α) (v : β) (e : l.lookup x = some v) : p x v := by
  induction l with
  | nil => cases e
  | cons q l ih =>
    obtain ⟨a, b⟩ := q
    rw [List.lookup_cons] at e
    cases hx : x == a with
    | true =>
      rw [hx] at e
      cases e
      rw [eq_of_beq hx]
      exact h.1
    | false =>
      rw [hx] at e
      exact ih h.2 e
/-- by places -/
def AllI {α : Type} (p : Nat → α → Prop) : List α → Nat → Prop
  | [], _ => True
  | a :: l, i => p i a ∧ AllI p l (i + 1)
theorem AllI.get {α : Type} {p : Nat → α → Prop} : ∀ {l : List α} {i j : Nat} {a : α}, AllI p l i → l[j]? = some a → p (i + j) a
  | [], _, _, _, _, e => by simp at e
  | b :: l, i, 0, a, h, e => by simp at e; subst e; exact h.1
  | b :: l, i, j + 1, a, h, e => by
    have := AllI.get h.2 (by simpa using e)
    rw [Nat.add_right_comm] at this
    exact this
/-- a class of the text -/
structure ClX (G : Gb) (L : Lay) (P : Prog) (names : List Str) (c : Nat) (cl : Cls) : Prop where
  clo : L2.Cls G.K (L.cls c)
  mkr : L2.Mk G.K (L.cls c) (L.fna cl.init)
  ini : (P.funs cl.init).isSome = true
  mt : AllP (fun q => L2.Meth G.K (L.cls c) (L.nm q.1) (L.fna q.2)) cl.meths
  no : AllI (fun k _ => cl.meths.lookup k = none → NoAttr G.K (L.cls c) (L.nm k)) names 0
theorem gfix {G : Gb} {L : Lay} {P : Prog} {T : Tab} {cls : List Cls} {names : List Str} (hK : G.K = L.K) (nm : L.nm = T.nms) (nmI : ∀ a b : Nat, L.nm a = L.nm b → a = b) (hP : ∀ c, P.cls c = cls[c]?) (hn : T.nf = names.length)
    (hc : AllI (ClX G L P names) cls 0)
    (tf : AllP (fun q => G.mg q.1 = some (.ref (L.fna q.2)) ∧ (P.funs q.2).isSome = true) T.fns) (tc : AllP (fun q => G.mg q.1 = some (.ref (L.cls q.2)) ∧ (P.cls q.2).isSome = true) T.cls)
    (tk : AllP (fun q => ∃ u w, G.mg q.1 = some u ∧ RelV w u ∧ ∀ h H μ, Rep (L.wh h) H μ q.2 w) T.con) (tb : AllP (fun x => G.mg x = none) T.blt) (rp : P.rpr = rprK) : GFix G L P T := by
  have hcl : ∀ c cl, P.cls c = some cl → ClX G L P names c cl := fun c cl h => by
    rw [hP] at h
    have := hc.get h
    rwa [Nat.zero_add] at this
  refine ⟨hK, nm, nmI, fun c cl h => ⟨⟨(hcl c cl h).clo, fun m f e => AllP.lookup (p := fun m f => L2.Meth G.K (L.cls c) (L.nm m) (L.fna f)) (hcl c cl h).mt m f e, (hcl c cl h).mkr⟩, (hcl c cl h).ini⟩, fun c cl k h hk hm => ?_, fun x f e => AllP.lookup (p := fun x f => G.mg x = some (.ref (L.fna f)) ∧ (P.funs f).isSome = true) tf x f e,
    fun x c e => AllP.lookup (p := fun x c => G.mg x = some (.ref (L.cls c)) ∧ (P.cls c).isSome = true) tc x c e, fun x v e => AllP.lookup (p := fun x v => ∃ u w, G.mg x = some u ∧ RelV w u ∧ ∀ h H μ, Rep (L.wh h) H μ v w) tk x v e, fun x h => AllP.mem (p := fun x => G.mg x = none) tb (by simpa using h), fun v t h => by rw [rp] at h; exact rprK_ok v t h⟩
  have hk' : k < names.length := hn ▸ hk
  have := (hcl c cl h).no.get (List.getElem?_eq_getElem hk')
  rw [Nat.zero_add] at this
  exact this hm
theorem rep_str {L : Lay} {h : List Addr} {z : Str} {s : List Nat} (e : z.cps.toList = s) (H : Hp) (μ : List Addr) : Rep (L.wh h) H μ (.str s) (.str z) := by
  subst e
  rw [Rep]
end MP
namespace MP
open PySem PySem.Spec PyProof.Rows L2 LamX

/-! ### the head's look, empty tables left out; the tables of the defs that hold lambdas -/
def isTabO : Obj → Bool
  | ⟨.none, _, .fields vs, _⟩ => vs.size == 0
  | _ => false
def asT (g : Addr → Option Obj) (n : Nat) : List Addr := (He.asD g n).filter fun a => match g a with
  | some o => !isTabO o
  | none => true
/-- the code object and the table of the module's def x -/
def tabK (K : Fg) (x : Str) : Option (Addr × Addr) := match K.lookup (He.ga K x) with
  | some ⟨_, _, .func fd, _⟩ => (match fd.code with
    | Value.ref c => (match K.lookup c with
      | some ⟨_, _, .fields vs, _⟩ => (match vs[11]? with
        | some (Value.ref P) => some (c, P)
        | _ => none)
      | _ => none)
    | _ => none)
  | _ => none
def lamB (K : Fg) (lam : List Str) : Bool := match lam.mapM (tabK K) with
  | some cs => decide ((cs.map (·.2)).Nodup) && cs.all fun p => (K.lookup p.2).isNone
  | none => false
/-- the module's tuples -/
def tupsB (K : Fg) (ts : List (Str × List He.Dv)) : Bool := ts.all fun p => He.tupB K p.1 p.2 && He.eqO (PySem.W.nsIn K mainGlobals p.1) (some (some (.ref (He.ga K p.1))))
abbrev AlT : Type := He.AlD × Bool × Bool
def obsT (n : Nat) (fa : List He.Fa) (fn : List He.DefD) (lam : List Str) (ts : List (Str × List He.Dv)) (g : Addr → Option Obj) : AlT := (He.obsD fa fn (He.frG g (asT g n)), lamB (He.frG g (asT g n)) lam, tupsB (He.frG g (asT g n)) ts)
def hookT (n : Nat) (fa : List He.Fa) (fn : List He.DefD) (lam : List Str) (ts : List (Str × List He.Dv)) : PySem.W.Hook where
  α := AlT
  obs := fun s => obsT n fa fn lam ts s.heap.get?
  val := fun _ => (He.valD fn, true, true)
  says := fun _ h => ∃ K : Fg, K.In h ∧ He.SaysD fa fn K ∧ lamB K lam = true ∧ tupsB K ts = true
  of := fun _ _ e => ⟨_, He.frG_in, congrArg Prod.fst e, congrArg (fun q => q.2.1) e, congrArg (fun q => q.2.2) e⟩
  keeps := fun _ _ _ ⟨K, hK, c⟩ k => ⟨K, PySem.W.Frag.In.keeps hK k, c⟩
theorem obsT_eq {n : Nat} {fa : List He.Fa} {fn : List He.DefD} {lam : List Str} {ts : List (Str × List He.Dv)} {g : Addr → Option Obj} {s : Shared} (h : ∀ a, g a = s.heap.get? a) : obsT n fa fn lam ts g = (hookT n fa fn lam ts).obs s := by
  have e : g = s.heap.get? := funext h
  rw [e] <;> rfl
theorem tabK_inv {K : Fg} {x : Str} {p : Addr × Addr} (h : tabK K x = some p) : ∃ (oc : Value) (od : Option Addr) (fd : FuncData) (osl : Array (Option Value)) (qc : Value) (qd : Option Addr) (vs : Array Value) (qs : Array (Option Value)),
    K.lookup (He.ga K x) = some ⟨oc, od, .func fd, osl⟩ ∧ fd.code = .ref p.1 ∧ K.lookup p.1 = some ⟨qc, qd, .fields vs, qs⟩ ∧ vs[11]? = some (.ref p.2) := by
  unfold tabK at h
  split at h
  · rename_i oc od fd osl e1
    split at h
    · rename_i c e2
      split at h
      · rename_i qc qd vs qs e3
        split at h
        · rename_i P e4
          cases h
          exact ⟨oc, od, fd, osl, qc, qd, vs, qs, e1, e2, e3, e4⟩
        · cases h
      · cases h
    · cases h
  · cases h
theorem mapM_get {α β : Type} {f : α → Option β} : ∀ {l : List α} {m : List β}, l.mapM f = some m → l.length = m.length ∧ ∀ (i : Nat) (a : α), l[i]? = some a → ∃ b, m[i]? = some b ∧ f a = some b
  | [], m, h => by
    rw [List.mapM_nil] at h; cases h
    exact ⟨rfl, fun i a e => by simp at e⟩
  | x :: l, m, h => by
    rw [List.mapM_cons] at h
    cases hx : f x with
    | none => rw [hx] at h; cases h
    | some y =>
      rw [hx] at h
      cases hl : l.mapM f with
      | none => rw [hl] at h; cases h
      | some r =>
        rw [hl] at h
        cases h
        obtain ⟨a, b⟩ := mapM_get hl
        refine ⟨by rw [List.length_cons, List.length_cons, a], fun i z e => ?_⟩
        cases i with
        | zero => simp at e; subst e; exact ⟨y, rfl, hx⟩
        | succ i => simpa using b i z (by simpa using e)
/-- a module's tuple of constants -/
def dvP : He.Dv → Option PV
  | .non => some .non
  | .bl b => some (.bl b)
  | .int i => some (.int i)
  | .str x => some (.str x.cps.toList)
  | _ => none
theorem reps_dv {L : Lay} {H : Hp} {μ : List Addr} {K : Fg} : ∀ {vs : List He.Dv} {ps : List PV}, vs.mapM dvP = some ps → Reps L H μ ps (vs.map (He.Dv.v K))
  | [], ps, h => by rw [List.mapM_nil] at h; cases h; exact .nil
  | v :: vs, ps, h => by
    rw [List.mapM_cons] at h
    cases hv : dvP v with
    | none => rw [hv] at h; cases h
    | some p =>
      rw [hv] at h
      cases hl : vs.mapM dvP with
      | none => rw [hl] at h; cases h
      | some r =>
        rw [hl] at h
        cases h
        refine .cons ?_ (reps_dv hl)
        cases v with
        | non => cases hv; exact Rep.non_
        | bl b => cases hv; exact Rep.bl_
        | int i => cases hv; exact Rep.int_
        | str x =>
          cases hv
          have e : x.cps.toList.toArray = x.cps := Array.toArray_toList
          show Rep L H μ (.str x.cps.toList) (.str x)
          have : (⟨x.cps.toList.toArray⟩ : Str) = x := by rw [e]
          rw [Rep, this]
        | _ => cases hv
theorem tup_tk {K : Fg} {h : Heap} {mg : Str → Option Value} {L : Lay} (X : K.In h) (Gm : h.Ns mainGlobals mg) {ts : List (Str × List He.Dv)} (c : tupsB K ts = true) (i : Nat) {x : Str} {vs : List He.Dv} {ps : List PV} (hi : ts[i]? = some (x, vs)) (hv : vs.mapM dvP = some ps) (hK : L.K = K) :
    ∃ u w, mg x = some u ∧ RelV w u ∧ ∀ h H μ, Rep (L.wh h) H μ (.tup ps) w := by
  have hm := List.all_eq_true.mp c _ (List.mem_of_getElem? hi)
  rw [Bool.and_eq_true] at hm
  have g : mg x = some (.ref (He.ga K x)) := PySem.W.mg_of X Gm (He.eqO_ok hm.2)
  refine ⟨_, .ref (He.ga K x), g, rfl, fun hh H μ => ?_⟩
  rcases He.tupB_ok hm.1 (fun _ => none) with q | q
  · rcases q with q | ⟨o, q⟩ <;> cases q
  · rw [Rep]
    exact ⟨_, _, rfl, .inr (by show ∃ o its n, L.K.lookup _ = some o ∧ _; rw [hK]; exact q), reps_dv hv⟩
/-- tables: cs the code objects and their tables, by the defs' names lam -/
structure Tabs0 (K : Fg) (mg : Str → Option Value) (lam : List Str) (cs : List (Addr × Addr)) (h : Heap) : Prop where
  len : lam.length = cs.length
  nd : (cs.map (·.2)).Nodup
  no : ∀ p ∈ cs, K.lookup p.2 = none
  tab : ∀ p ∈ cs, h.get? p.2 = some { cls := .none, data := .fields #[] }
  hd : ∀ p ∈ cs, PySem.W.CodeHd h p.1 p.2
  at_ : ∀ (i : Nat) (x : Str), lam[i]? = some x → ∃ p, cs[i]? = some p ∧ ∀ (oc : Value) (od : Option Addr) (fd : FuncData) (osl : Array (Option Value)), K.lookup (He.ga K x) = some ⟨oc, od, .func fd, osl⟩ → fd.code = .ref p.1
theorem tabs0_of {K : Fg} {q : Program} {mg : Str → Option Value} {lam : List Str} {h : Heap} (KX : K.In h) (hb : lamB K lam = true) (hg : ∀ x ∈ lam, mg x = some (.ref (He.ga K x))) (hn : ∀ x ∈ lam, ((recsOf q).any fun e => e.name == x) = true)
    (T : ∀ d ∈ recsOf q, ∃ a o fd c P, mg d.name = some (.ref a) ∧ h.get? a = some o ∧ o.data = .func fd ∧ fd.code = .ref c ∧ h.IsCode c P #[] ∧ h.TableAt c P #[]) : ∃ cs, Tabs0 K mg lam cs h := by
  unfold lamB at hb
  split at hb
  · rename_i cs hm
    rw [Bool.and_eq_true, decide_eq_true_eq, List.all_eq_true] at hb
    obtain ⟨hl, hx⟩ := mapM_get hm
    have key : ∀ p ∈ cs, h.get? p.2 = some { cls := .none, data := .fields #[] } ∧ PySem.W.CodeHd h p.1 p.2 := fun p hp => by
      obtain ⟨i, hi, e⟩ := List.getElem_of_mem hp
      have hi' : i < lam.length := by omega
      obtain ⟨b, e1, e2⟩ := hx i lam[i] (List.getElem?_eq_getElem hi')
      rw [List.getElem?_eq_getElem hi, e] at e1
      cases e1
      have mem : lam[i] ∈ lam := List.getElem_mem hi'
      obtain ⟨oc, od, fd, osl, qc, qd, vs, qs, k1, k2, k3, k4⟩ := tabK_inv e2
      obtain ⟨dL, hm, hn1⟩ := List.any_eq_true.mp (hn _ mem)
      have hn2 : dL.name = lam[i] := beq_iff_eq.mp hn1
      obtain ⟨a, o, fd', c, P, h1, h2, h3, h4, h5, h6⟩ := T dL hm
      rw [hn2, hg _ mem] at h1
      cases h1
      have g1 := KX _ _ k1
      rw [h2] at g1
      cases g1
      have h3 : Data.func fd = Data.func fd' := h3
      cases h3
      rw [k2] at h4
      cases h4
      have h7 := h6
      obtain ⟨⟨oc', vc, e1', _, e3', e4'⟩, hP⟩ := h7
      have g2 := KX _ _ k3
      rw [e1'] at g2
      cases g2
      have e3' : Data.fields vs = Data.fields vc := e3'
      cases e3'
      rw [k4] at e4'
      cases e4'
      exact ⟨hP, PySem.W.CodeHd.of h5 h6⟩
    refine ⟨cs, hl, hb.1, fun p hp => ?_, fun p hp => (key p hp).1, fun p hp => (key p hp).2, fun i x e => ?_⟩
    · have := hb.2 p hp
      cases q : K.lookup p.2 with
      | none => rfl
      | some o => rw [q] at this; cases this
    · obtain ⟨p, e1, e2⟩ := hx i x e
      refine ⟨p, e1, fun oc od fd osl k => ?_⟩
      obtain ⟨oc', od', fd', osl', _, _, _, _, k1, k2, _⟩ := tabK_inv e2
      rw [k] at k1
      cases k1
      exact k2
  · cases hb
theorem tabAt_of {G : Gb} {L : Lay} {f t : Nat} {qual x : Str} {d : FD} {lam : List Str} {cs : List (Addr × Addr)} {h : Heap} (W : Tabs0 G.K G.mg lam cs h) (TB : ∀ p ∈ cs, TabB G.base G.mg p.1 p.2) (hL : L.tab = fun t => (cs.map (·.2)).getD t 0) (hd : d.tab = some t) (hx : lam[t]? = some x) (hf : L.fna f = He.ga G.K x)
    (hq : (qual ++ ".<locals>.") ++ "<lambda>" = L.tq t) : TabAt G L f qual d := fun t' e => by
  rw [hd] at e
  cases e
  obtain ⟨p, e1, e2⟩ := W.at_ t x hx
  refine ⟨⟨p.1, fun oc od fd osl k => e2 oc od fd osl (by rw [← hf]; exact k), ?_⟩, hq⟩
  have : L.tab t = p.2 := by rw [hL]; simp [e1]
  rw [this]
  exact TB p (List.mem_of_getElem? e1)
/-! ### the law's call, tables tracked -/
section
variable {P' : Program} {w : World} {K : Fg} {mg mb : Str → Option Value} {k : Nat} {fa a : Addr} {sp : Sp} {z : Shared} {vs : List Value} {ns : List Int} {cs : List (Addr × Addr)} {lam : List Str}
def EndsOk (z : Shared) (r : Result) (y : Shared) : Prop := r = .ok (.ret (.bool true)) ∧ OldK z.heap y.heap ∧ y.os = z.os ∧ AllBare y.gens
theorem tab_core (KX : K.In z.heap) (hns : z.heap.Ns mainGlobals mg) (hb : z.heap.Ns builtinsNs mb) (hbb : ∀ x : Str, x ≠ "__name__" → mb x = bootBuiltins x) (hlim : z.heap.NoLimit) (hg : z.gens = #[])
    (hbm : ∃ (bm : Addr) (ob : Obj), mg "__builtins__" = some (.ref bm) ∧ bm ≠ builtinsNs ∧ z.heap.get? bm = some ob ∧ ob.cls = .type "module" ∧ ob.dict = some builtinsNs ∧ ob.data = .plain)
    (ha : z.heap.get? a = some { cls := .type "list", data := .seq vs.toArray }) (hr : Room k callerA) (W : Tabs0 K mg lam cs z.heap)
    (F : ∀ base : Heap, K.In base → base.Ns mainGlobals mg → (∀ p ∈ cs, TabB base mg p.1 p.2) → ∃ fd ps, Binds K fd ps [] ∧ FnG P' w K mg base k fa fd ps sp)
    (T : Hp) (hT : ∀ p ∈ cs, T p.2 = some (.tbl #[])) (hO : ∀ b, T b = none ∨ (∃ p ∈ cs, b = p.2) ∨ ∃ o xs, T b = some (.frz o (.lst xs))) (hS : sp [.ref a] T (fun v _ => v = .bl true) fun _ _ _ => False) (hok : HOk P' w T z.heap)
    (hA : ∀ b, T b ≠ none → b = a ∨ ∃ p ∈ cs, b = p.2) (hK : T a ≠ none → K.lookup a = none) :
    codeAny (model P' w) callerA (.call (.ref fa) ⟨[.ref a], []⟩) (EndsOk z) z := by
  have out : ∀ {b : Addr} {o : Obj}, z.heap.get? b = some o → T b = none → (hidT z.heap T).get? b = some o := fun e n => hidT_get e n
  have non : ∀ {b : Addr} {o : Obj}, z.heap.get? b = some o → (∀ vs n, o.data ≠ .seq vs n) → o.data ≠ .fields #[] → T b = none := by
    intro b o e d1 d2
    cases q : T b with
    | none => rfl
    | some u =>
      rcases hA b (by rw [q]; simp) with e' | ⟨p, hp, e'⟩
      · rw [e', ha] at e; cases e; exact (d1 _ _ rfl).elim
      · rw [e', W.tab p hp] at e; cases e; exact (d2 rfl).elim
  have dic : ∀ {b : Addr} {o : Obj} {es : Array DictEntry} {ep : Nat}, z.heap.get? b = some o → o.data = .dict es ep → T b = none := by
    intro b o es ep e d
    exact non e (fun vs n q => by rw [d] at q; cases q) fun q => by rw [d] at q; cases q
  have ns1 : ∀ {b : Addr} {m : Str → Option Value}, z.heap.Ns b m → (hidT z.heap T).Ns b m := by
    rintro b m ⟨o, es, ep, e, d, r⟩
    exact ⟨o, es, ep, out e (dic e d), d, r⟩
  have kin : K.In (hidT z.heap T) := by
    intro b o e
    refine out (KX b o e) ?_
    cases q : T b with
    | none => rfl
    | some u =>
      rcases hA b (by rw [q]; simp) with e' | ⟨p, hp, e'⟩
      · rw [e'] at e q; rw [hK (by rw [q]; simp)] at e; cases e
      · rw [e', W.no p hp] at e; cases e
  obtain ⟨mc, l1, l2⟩ := hlim
  have md : Mod K mg (hidT z.heap T) := ⟨kin, ns1 hns, ⟨mb, ns1 hb, hbb⟩, ⟨mc, ns1 l1, l2⟩⟩
  have TB : ∀ p ∈ cs, TabB (hidT z.heap T) mg p.1 p.2 := fun p hp => by
    refine ⟨?_, ?_, fun q => ?_⟩
    · obtain ⟨o, us, file, tf, flags, tg, inF, text, tt, e1, r1, r2, r3, r⟩ := W.hd p hp
      refine ⟨o, us, file, tf, flags, tg, inF, text, tt, out e1 (non e1 (fun vs n q => ?_) fun q => ?_), r1, r2, r3, r⟩
      · rw [r2] at q; cases q
      · rw [r2] at q; cases q; simp at r3
    · obtain ⟨bm, ob, b1, b2, b3, b4, b5, b6⟩ := hbm
      refine ⟨bm, ob, b1, b2, fun q => ?_, fun q => ?_, out b3 (non b3 (fun vs n q => ?_) fun q => ?_), b4, b5, b6⟩
      · obtain ⟨o, es, ep, e, hd, _⟩ := hns
        rw [q, e] at b3; cases b3; rw [hd] at b6; cases b6
      · rw [q, W.tab p hp] at b3; cases b3; cases b6
      · rw [b6] at q; cases q
      · rw [b6] at q; cases q
    · obtain ⟨o, es, ep, e, hd, _⟩ := hns
      rw [q, W.tab p hp] at e; cases e; cases hd
  have en : Env0 P' w K mg (hidT z.heap T) callerA [] z T := ⟨rfl, md, fun b o e => of_hidT e, Nat.le_of_eq (hidT_size _ _), trivial, fun b q => (nomatch (show b ∈ ([] : List Addr) from q)), hok, .of_eq hg⟩
  obtain ⟨fd, ps, bn, Fg⟩ := F _ kin (ns1 hns) TB
  have nl := Fg.len _ _ _ _ hS
  have run := Fg.go callerA [] z T ⟨[.ref a], []⟩ [.ref a] [.ref a] _ _ hr rfl en (bn z [.ref a] KX nl) (.cons rfl .nil) hS
  refine codeAny_mono run fun res y h => ?_
  cases res with
  | error e => exact False.elim h
  | ok fl =>
    cases fl with
    | ret u =>
      obtain ⟨v, T', os, bare, un, ok2, rv, q⟩ := h
      have q2 : v = .bl true := q
      subst q2
      cases (show u = Value.bool true from rv)
      have stay : ∀ b o, (¬ ∃ p ∈ cs, b = p.2) → z.heap.get? b = some o → y.heap.get? b = some o := fun b o nb e => by
        rcases hO b with n | n | ⟨ob, xs, n⟩
        · exact un.keep b o e n (fun q => (nomatch (show b ∈ ([] : List Addr) from q))) (fun q => (nomatch q))
        · exact (nb n).elim
        · obtain ⟨e1, _⟩ := hok b _ n
          obtain ⟨e2, _⟩ := ok2 b _ (un.frzs b ob _ n)
          rw [e] at e1
          cases e1
          exact e2
      have grown : ∀ p ∈ cs, ∃ more : Array Value, y.heap.get? p.2 = some { cls := .none, data := .fields more } := fun p hp => by
        obtain ⟨more, q⟩ := un.tbls p.2 #[] (hT p hp)
        exact ⟨_, ok2 p.2 _ q⟩
      refine ⟨rfl, ⟨fun b o e => ?_, fun b o e => ?_⟩, os, bare⟩
      · by_cases hb : ∃ p ∈ cs, b = p.2
        · obtain ⟨p, hp, rfl⟩ := hb
          obtain ⟨more, hm⟩ := grown p hp
          rw [W.tab p hp] at e
          cases e
          exact .inr (.inl ⟨((W.hd p hp).tab (W.tab p hp)).isCodeTable, rfl, #[], more, rfl, by rw [Array.empty_append]; exact hm⟩)
        · exact .inl (stay b o hb e)
      · by_cases hb : ∃ p ∈ cs, b = p.2
        · obtain ⟨p, hp, rfl⟩ := hb
          obtain ⟨more, hm⟩ := grown p hp
          exact ⟨_, hm⟩
        · exact ⟨o, stay b o hb e⟩
    | _ => exact False.elim h
theorem law_callT (KX : K.In z.heap) (hns : z.heap.Ns mainGlobals mg) (hb : z.heap.Ns builtinsNs mb) (hbb : ∀ x : Str, x ≠ "__name__" → mb x = bootBuiltins x) (hlim : z.heap.NoLimit) (hg : z.gens = #[])
    (hbm : ∃ (bm : Addr) (ob : Obj), mg "__builtins__" = some (.ref bm) ∧ bm ≠ builtinsNs ∧ z.heap.get? bm = some ob ∧ ob.cls = .type "module" ∧ ob.dict = some builtinsNs ∧ ob.data = .plain)
    (ha : z.heap.get? a = some { cls := .type "list", data := .seq vs.toArray }) (hi : IntsAre vs ns) (hl : ns.length ≤ sizeLine) (hr : Room k callerA) (W : Tabs0 K mg lam cs z.heap)
    (F : ∀ base : Heap, K.In base → base.Ns mainGlobals mg → (∀ p ∈ cs, TabB base mg p.1 p.2) → ∃ fd ps, Binds K fd ps [] ∧ FnG P' w K mg base k fa fd ps sp)
    (hsp : ∀ T : Hp, (∀ p ∈ cs, T p.2 = some (.tbl #[])) → (∀ p ∈ cs, p.2 ≠ a) → SqO K T a (ns.map V.int) → sp [.ref a] T (fun v _ => v = .bl true) fun _ _ _ => False) : codeAny (model P' w) callerA (.call (.ref fa) ⟨[.ref a], []⟩) (EndsOk z) z := by
  have rv : Vals (ns.map V.int) vs := vals_ints hi
  have lv := hi.length
  have aT : ∀ p ∈ cs, p.2 ≠ a := fun p hp q => by
    have := W.tab p hp
    rw [q, ha] at this
    cases this
  have aT' : ¬ ∃ p ∈ cs, a = p.2 := fun ⟨p, hp, q⟩ => aT p hp q.symm
  cases hk : K.lookup a with
  | some o =>
    have e := KX a o hk
    rw [ha] at e
    cases e
    let T : Hp := fun b => if (∃ p ∈ cs, b = p.2) then some (.tbl #[]) else none
    have T1 : ∀ p ∈ cs, T p.2 = some (.tbl #[]) := fun p hp => if_pos ⟨p, hp, rfl⟩
    have T2 : ∀ b, (¬ ∃ p ∈ cs, b = p.2) → T b = none := fun b h => if_neg h
    have sq : SqO K T a (ns.map V.int) := .inr ⟨vs.toArray, _, hk, by rw [List.size_toArray, lv]; exact hl, by simpa using rv⟩
    refine tab_core KX hns hb hbb hlim hg hbm ha hr W F T T1 (fun b => ?_) (hsp T T1 aT sq) (fun b u q => ?_) (fun b q => ?_) fun q => (q (T2 a aT')).elim
    · by_cases h : ∃ p ∈ cs, b = p.2
      · exact .inr (.inl h)
      · exact .inl (T2 b h)
    · by_cases h : ∃ p ∈ cs, b = p.2
      · obtain ⟨p, hp, rfl⟩ := h
        rw [T1 p hp] at q
        cases q
        exact W.tab p hp
      · rw [T2 b h] at q; cases q
    · exact .inr (Classical.byContradiction fun h => q (T2 b h))
  | none =>
    let T : Hp := fun b => if b = a then some (.frz { cls := .type "list", data := .seq vs.toArray } (.lst (ns.map V.int))) else if (∃ p ∈ cs, b = p.2) then some (.tbl #[]) else none
    have T0 : T a = some (.frz { cls := .type "list", data := .seq vs.toArray } (.lst (ns.map V.int))) := if_pos rfl
    have T1 : ∀ p ∈ cs, T p.2 = some (.tbl #[]) := fun p hp => (if_neg (aT p hp)).trans (if_pos ⟨p, hp, rfl⟩)
    have T2 : ∀ b, b ≠ a → (¬ ∃ p ∈ cs, b = p.2) → T b = none := fun b n h => (if_neg n).trans (if_neg h)
    refine tab_core KX hns hb hbb hlim hg hbm ha hr W F T T1 (fun b => ?_) (hsp T T1 aT (.inl (.inr ⟨_, T0⟩))) (fun b u q => ?_) (fun b q => ?_) fun _ => hk
    · by_cases h : b = a
      · subst h; exact .inr (.inr ⟨_, _, T0⟩)
      · by_cases h2 : ∃ p ∈ cs, b = p.2
        · exact .inr (.inl h2)
        · exact .inl (T2 b h h2)
    · by_cases h : b = a
      · subst h
        rw [T0] at q
        cases q
        exact ⟨ha, by rw [List.length_map]; exact hl, vs, _, rv, ha⟩
      · by_cases h2 : ∃ p ∈ cs, b = p.2
        · obtain ⟨p, hp, rfl⟩ := h2
          rw [T1 p hp] at q
          cases q
          exact W.tab p hp
        · rw [T2 b h h2] at q; cases q
    · by_cases h : b = a
      · exact .inl h
      · exact .inr (Classical.byContradiction fun h2 => q (T2 b h h2))
end
/-- the head's last goal -/
theorem walkTb {l : PySem.W.OpenLaw} {n k : Nat} {q : Program} {loose : List Str} {XP : (Str → Option Value) → Heap → Prop} {YP : World → Heap → Prop} {d : DefRec} {lam : List Str}
    (hn : l.most = some n) (hn2 : n ≤ sizeLine) (hdf : d.params.defaults = []) (hr : Room k callerA) (hl : ∀ x ∈ lam, ((recsOf q).any fun e => e.name == x) = true)
    (F : ∀ (w : World) (mg : Str → Option Value) (fa : Addr) (h : Heap), YP w h → h.Ns mainGlobals mg → mg d.name = some (.ref fa) →
      ∃ (K : Fg), K.In h ∧ lamB K lam = true ∧ (∀ x ∈ lam, mg x = some (.ref (He.ga K x))) ∧ ∀ cs, Tabs0 K mg lam cs h → ∃ sp : Sp,
        (∀ (T : Hp) (a : Addr) (ns : List Int), ns.length ≤ n → (∀ p ∈ cs, T p.2 = some (.tbl #[])) → (∀ p ∈ cs, p.2 ≠ a) → SqO K T a (ns.map V.int) → sp [.ref a] T (fun v _ => v = .bl true) fun _ _ _ => False) ∧
        ∀ base : Heap, K.In base → base.Ns mainGlobals mg → (∀ p ∈ cs, TabB base mg p.1 p.2) → ∃ fd ps, Binds K fd ps [] ∧ FnG l.prog w K mg base k fa fd ps sp) :
    PySem.W.WalkO q loose XP YP l.row.toRowW d [] (fun f vs => PySem.call f vs) := by
  refine Att.attach_call hn hdf fun w s0 z mg mb fa o pm cd doc a vs ns G Y ho hd hcd hmg hobj hints hlen hg => ?_
  obtain ⟨K, KX, hB, hmgs, hF⟩ := F w mg fa _ Y G.T.g hmg
  obtain ⟨cs, W⟩ := tabs0_of (q := q) KX hB hmgs hl G.T.tab
  obtain ⟨sp, hsp, hF⟩ := hF cs W
  exact law_callT KX G.T.g G.T.b G.T.builtins G.T.nolimit hg G.T.bmain hobj hints (Nat.le_trans hlen hn2) hr W hF fun T h1 h2 hS => hsp T a ns hlen h1 h2 hS
end MP
namespace MP
/-! ### rows for the plain reckoning -/
section
variable {P : Prog} {cf : Nat → List PV → Store → Res PV} {env : Env} {st : Store}
@[simp] theorem ev_var {i : Nat} : evalE P cf (.var i) env st = (match env[i]? with | some (some v) => .ok v st | _ => .bad) := by rw [evalE] <;> rfl
@[simp] theorem ev_con {v : PV} : evalE P cf (.con v) env st = .ok v st := by rw [evalE] <;> rfl
@[simp] theorem ev_tup {es : IE} : evalE P cf (.tup es) env st = (evalEs P cf es env st).bind fun vs st => .ok (.tup vs) st := by rw [evalE] <;> rfl
@[simp] theorem ev_lst {es : IE} : evalE P cf (.lst es) env st = (evalEs P cf es env st).bind fun vs st => .ok (.lst vs) st := by rw [evalE] <;> rfl
@[simp] theorem ev_nw {e : IE} : evalE P cf (.nw e) env st = (evalE P cf e env st).bind fun v st => (match v with | .lst xs => .ok (.ref st.length) (st ++ [.lst xs]) | _ => .bad) := by rw [evalE] <;> rfl
@[simp] theorem ev_bin {op : BOp} {a b : IE} : evalE P cf (.bin op a b) env st = (evalE P cf a env st).bind fun x st => (evalE P cf b env st).bind fun y st => .opt (binop op (der st x) (der st y)) st := by rw [evalE] <;> rfl
@[simp] theorem ev_cmp {op : COp} {a b : IE} : evalE P cf (.cmp op a b) env st = (evalE P cf a env st).bind fun x st => (evalE P cf b env st).bind fun y st => (Res.opt (cmpop op (der st x) (der st y)) st).bind fun b st => .ok (.bl b) st := by rw [evalE] <;> rfl
@[simp] theorem ev_chn {op op' : COp} {a b c : IE} : evalE P cf (.chn op op' a b c) env st = (evalE P cf a env st).bind fun x st => (evalE P cf b env st).bind fun y st => (Res.opt (cmpop op (der st x) (der st y)) st).bind fun k st =>
      if k then (evalE P cf c env st).bind fun z st => (Res.opt (cmpop op' (der st y) (der st z)) st).bind fun b st => .ok (.bl b) st else .ok (.bl false) st := by rw [evalE] <;> rfl
@[simp] theorem ev_and {a b : IE} : evalE P cf (.and a b) env st = (evalE P cf a env st).bind fun x st => (match x with | .bl true => evalE P cf b env st | .bl false => .ok (.bl false) st | _ => .bad) := by rw [evalE] <;> rfl
@[simp] theorem ev_or {a b : IE} : evalE P cf (.or a b) env st = (evalE P cf a env st).bind fun x st => (match x with | .bl false => evalE P cf b env st | .bl true => .ok (.bl true) st | _ => .bad) := by rw [evalE] <;> rfl
@[simp] theorem ev_not {a : IE} : evalE P cf (.not a) env st = (evalE P cf a env st).bind fun x st => (match x with | .bl b => .ok (.bl !b) st | _ => .bad) := by rw [evalE] <;> rfl
@[simp] theorem ev_neg {a : IE} : evalE P cf (.neg a) env st = (evalE P cf a env st).bind fun x st => (match x with | .int i => .ok (.int (-i)) st | _ => .bad) := by rw [evalE] <;> rfl
@[simp] theorem ev_ite {c a b : IE} : evalE P cf (.ite c a b) env st = (evalE P cf c env st).bind fun x st => (match x with | .bl true => evalE P cf a env st | .bl false => evalE P cf b env st | _ => .bad) := by rw [evalE] <;> rfl
@[simp] theorem ev_idx {a i : IE} : evalE P cf (.idx a i) env st = (evalE P cf a env st).bind fun x st => (evalE P cf i env st).bind fun y st => .opt (index1 (der st x) y) st := by rw [evalE] <;> rfl
@[simp] theorem ev_slc {a lo hi : IE} : evalE P cf (.slc a lo hi) env st = (evalE P cf a env st).bind fun x st => (evalE P cf lo env st).bind fun l st => (evalE P cf hi env st).bind fun h st => .opt ((partOf lo l).bind fun l => (partOf hi h).bind fun h => slice1 (der st x) l h) st := by rw [evalE] <;> rfl
@[simp] theorem ev_call {f : Nat} {es : IE} : evalE P cf (.call f es) env st = (evalEs P cf es env st).bind fun vs st => cf f vs st := by rw [evalE] <;> rfl
@[simp] theorem ev_callk {f : Nat} {pm : List Nat} {es : IE} : evalE P cf (.callk f pm es) env st = (evalEs P cf es env st).bind fun vs st => (Res.opt (pm.mapM fun i => vs[i]?) st).bind fun ws st => cf f ws st := by rw [evalE] <;> rfl
@[simp] theorem ev_make {c : Nat} {es : IE} : evalE P cf (.make c es) env st = (evalEs P cf es env st).bind fun vs st => (match P.cls c with
    | none => .bad
    | some cl => (cf cl.init (.ref st.length :: vs) (st ++ [.ins c [] []])).bind fun v st1 => if v = .non then (if cl.frz then gcAt st (.ref st.length) st1 else .ok (.ref st.length) st1) else .bad) := by rw [evalE] <;> rfl
@[simp] theorem ev_meth {m : Nat} {o es : IE} : evalE P cf (.meth m o es) env st = (evalE P cf o env st).bind fun x st => (match methOf P st m x with
    | none => .bad
    | some f => (evalEs P cf es env st).bind fun vs st => cf f (x :: vs) st) := by rw [evalE] <;> rfl
@[simp] theorem ev_fld {k : Nat} {o : IE} : evalE P cf (.fld k o) env st = (evalE P cf o env st).bind fun x st => .opt ((clsOf st x).bind fun c => (P.cls c).bind fun cl => if (cl.meths.lookup k).isSome then none else field1 st k x) st := by rw [evalE] <;> rfl
@[simp] theorem ev_pr1 {p : P1} {a : IE} : evalE P cf (.pr1 p a) env st = (evalE P cf a env st).bind fun x st => .opt (prim1 p (der st x)) st := by rw [evalE] <;> rfl
@[simp] theorem ev_rpr {a : IE} : evalE P cf (.rpr a) env st = (evalE P cf a env st).bind fun x st => .opt ((P.rpr (der st x)).map .str) st := by rw [evalE] <;> rfl
@[simp] theorem ev_pr2 {p : P2} {a b : IE} : evalE P cf (.pr2 p a b) env st = (evalE P cf a env st).bind fun x st => (evalE P cf b env st).bind fun y st => .opt (prim2 p x y) st := by rw [evalE] <;> rfl
@[simp] theorem ev_isi {a : IE} {ts : List Ty} : evalE P cf (.isi a ts) env st = (evalE P cf a env st).bind fun x st => (match tyOf st x with | some t => .ok (.bl (ts.any (isiOne t))) st | none => .bad) := by rw [evalE] <;> rfl
@[simp] theorem ev_comp {tg it cond elt : IE} : evalE P cf (.comp tg it cond elt) env st = (evalE P cf it env st).bind fun wv st => (Res.opt (walk st wv) st).bind fun w st => (compL (turnE P cf tg cond elt env) w.2 w.1 st).bind fun ys st => .ok (.lst ys) st := by rw [evalE] <;> rfl
@[simp] theorem ev_append {o e : IE} : evalE P cf (.append o e) env st = (evalE P cf o env st).bind fun x st => if (lstAt st x).isSome then (evalE P cf e env st).bind fun y st => (match lstAt st x with
    | some (n, xs) => if xs.length < lim then .ok .non (st.set n (.lst (xs ++ [y]))) else .bad
    | none => .bad) else .bad := by rw [evalE] <;> rfl
@[simp] theorem ev_rng {a b : IE} : evalE P cf (.rng a b) env st = (evalE P cf a env st).bind fun x st => (evalE P cf b env st).bind fun y st => (match x, y with
    | .int a, .int b => if -i62 ≤ a ∧ a < i62 ∧ -i62 ≤ b ∧ b < i62 ∧ b - a ≤ 1000000 then .ok (.lst ((List.range (b - a).toNat).map fun i => PV.int (a + (i : Nat)))) st else .bad
    | _, _ => .bad) := by rw [evalE] <;> rfl
@[simp] theorem ev_zip {a b : IE} : evalE P cf (.zip a b) env st = (evalE P cf a env st).bind fun x st => (evalE P cf b env st).bind fun y st => (match x, y with
    | .lst xs, .lst ys => .ok (.lst (xs.zipWith (fun x y => PV.tup [x, y]) ys)) st
    | .tup xs, .tup ys => .ok (.lst (xs.zipWith (fun x y => PV.tup [x, y]) ys)) st
    | _, _ => .bad) := by rw [evalE] <;> rfl
@[simp] theorem es_nil : evalEs P cf .nil env st = .ok [] st := by rw [evalEs] <;> rfl
@[simp] theorem es_cons {e r : IE} : evalEs P cf (.cons e r) env st = (evalE P cf e env st).bind fun v st => (evalEs P cf r env st).bind fun vs st => .ok (v :: vs) st := by rw [evalEs] <;> rfl
@[simp] theorem es_star {e r : IE} : evalEs P cf (.star e r) env st = (evalE P cf e env st).bind fun v st => (match seqOf (der st v) with
    | none => .bad
    | some xs => (evalEs P cf r env st).bind fun vs st => if xs.length + vs.length ≤ 1000000 then .ok (xs ++ vs) st else .bad) := by rw [evalEs] <;> rfl
theorem as_var {i : Nat} {v : PV} : assign P cf (.var i) v env st = (if i < env.length then .ok (env.set i (some v)) st else .bad) := by rw [assign]
theorem as_tup {t : IE} {vs : List PV} : assign P cf (.tup t) (.tup vs) env st = assign P cf t (.lst vs) env st := by rw [assign]
theorem as_nil : assign P cf .nil (.lst []) env st = .ok env st := by rw [assign]
theorem as_cons {t r : IE} {v : PV} {vs : List PV} : assign P cf (.cons t r) (.lst (v :: vs)) env st = (assign P cf t v env st).bind fun env st => assign P cf r (.lst vs) env st := by rw [assign]
@[simp] theorem ex_nil : exec P cf .nil env st = .ok (.nx env) st := by rw [exec] <;> rfl
@[simp] theorem ex_pass : exec P cf .pass env st = .ok (.nx env) st := by rw [exec] <;> rfl
@[simp] theorem ex_cons {s r : IS} : exec P cf (.cons s r) env st = (exec P cf s env st).bind fun fl st => (match fl with | .nx env => exec P cf r env st | .rt v => .ok (.rt v) st) := by rw [exec] <;> rfl
@[simp] theorem ex_asg {t e : IE} : exec P cf (.asg t e) env st = (evalE P cf e env st).bind fun v st => (assign P cf t v env st).bind fun env st => .ok (.nx env) st := by rw [exec] <;> rfl
@[simp] theorem ex_exp {e : IE} : exec P cf (.exp e) env st = (evalE P cf e env st).bind fun _ st => .ok (.nx env) st := by rw [exec] <;> rfl
@[simp] theorem ex_ret {e : IE} : exec P cf (.ret e) env st = (evalE P cf e env st).bind fun v st => .ok (.rt v) st := by rw [exec] <;> rfl
@[simp] theorem ex_iff {c : IE} {a b : IS} : exec P cf (.iff c a b) env st = (evalE P cf c env st).bind fun x st => (match x with | .bl true => exec P cf a env st | .bl false => exec P cf b env st | _ => .bad) := by rw [exec] <;> rfl
@[simp] theorem ex_fors {t it : IE} {b : IS} : exec P cf (.fors t it b) env st = (evalE P cf it env st).bind fun wv st => (Res.opt (walk st wv) st).bind fun w st => forL (turnS P cf t b) w.2 w.1 env st := by rw [exec] <;> rfl
end
section
variable {st : Store} {i j : Int}
@[simp] theorem der_int : der st (.int i) = .int i := rfl
@[simp] theorem walk_tup {xs : List PV} : walk st (.tup xs) = some (xs, fun _ => true) := rfl
@[simp] theorem walk_lst {xs : List PV} : walk st (.lst xs) = some (xs, fun _ => true) := rfl
@[simp] theorem walk_set {xs : List PV} : walk st (.set xs) = some (xs, fun _ => true) := rfl
@[simp] theorem der_bl {b : Bool} : der st (.bl b) = .bl b := rfl
@[simp] theorem der_non : der st .non = .non := rfl
@[simp] theorem der_str {s : List Nat} : der st (.str s) = .str s := rfl
@[simp] theorem der_tup {xs : List PV} : der st (.tup xs) = .tup xs := rfl
@[simp] theorem der_lst {xs : List PV} : der st (.lst xs) = .lst xs := rfl
@[simp] theorem der_set {xs : List PV} : der st (.set xs) = .set xs := rfl
@[simp] theorem der_obj {c : Nat} {ks : List Nat} {xs : List PV} : der st (.obj c ks xs) = .obj c ks xs := rfl
theorem ltOk_int : ltOk (.int i) (.int j) = true := rfl
@[simp] theorem cmp_lt_int : cmpop .lt (.int i) (.int j) = some (decide (i < j)) := rfl
@[simp] theorem cmp_gt_int : cmpop .gt (.int i) (.int j) = some (decide (j < i)) := rfl
@[simp] theorem cmp_le_int : cmpop .le (.int i) (.int j) = some (decide (i ≤ j)) := by
  show some (!decide (j < i)) = _
  congr 1
  by_cases h : j < i
  · rw [decide_eq_true h, decide_eq_false (by omega)]; rfl
  · rw [decide_eq_false h, decide_eq_true (by omega)]; rfl
@[simp] theorem cmp_ge_int : cmpop .ge (.int i) (.int j) = some (decide (j ≤ i)) := by
  show some (!decide (i < j)) = _
  congr 1
  by_cases h : i < j
  · rw [decide_eq_true h, decide_eq_false (by omega)]; rfl
  · rw [decide_eq_false h, decide_eq_true (by omega)]; rfl
@[simp] theorem cmp_eq_int : cmpop .eq (.int i) (.int j) = some (decide (i = j)) := by
  show some (i == j) = _
  rw [Bool.beq_eq_decide_eq]
@[simp] theorem cmp_ne_int : cmpop .ne (.int i) (.int j) = some (!decide (i = j)) := by
  show some (i != j) = _
  rw [bne, Bool.beq_eq_decide_eq]
/-! ### comprehensions, loops -/
theorem compL_pure {f : PV → Store → Res (Option PV)} {g : Store → Bool} {φ : PV → Option PV} (hg : g st = true) : ∀ {xs : List PV}, (∀ x ∈ xs, f x st = .ok (φ x) st) → compL f g xs st = .ok (xs.filterMap φ) st
  | [], _ => rfl
  | x :: xs, h => by
    rw [compL, h x List.mem_cons_self, Res.bind_ok, if_pos hg, compL_pure hg fun y hy => h y (List.mem_cons_of_mem _ hy), Res.bind_ok, List.filterMap_cons]
    cases φ x <;> rfl
/-- each item is kept -/
theorem compL_map {α : Type} {f : PV → Store → Res (Option PV)} {g : Store → Bool} {e : α → PV} {φ : α → PV} (hg : g st = true) : ∀ {xs : List α}, (∀ x ∈ xs, f (e x) st = .ok (some (φ x)) st) → compL f g (xs.map e) st = .ok (xs.map φ) st
  | [], _ => rfl
  | x :: xs, h => by
    rw [List.map_cons, compL, h x List.mem_cons_self, Res.bind_ok, if_pos hg, compL_map hg fun y hy => h y (List.mem_cons_of_mem _ hy)]
    rfl
/-- those with p -/
theorem compL_filter {α : Type} {f : PV → Store → Res (Option PV)} {g : Store → Bool} {e : α → PV} {p : α → Bool} {φ : α → PV} (hg : g st = true) : ∀ {xs : List α}, (∀ x ∈ xs, f (e x) st = .ok (if p x = true then some (φ x) else none) st) → compL f g (xs.map e) st = .ok ((xs.filter p).map φ) st
  | [], _ => rfl
  | x :: xs, h => by
    rw [List.map_cons, compL, h x List.mem_cons_self, Res.bind_ok, if_pos hg, compL_filter hg fun y hy => h y (List.mem_cons_of_mem _ hy), Res.bind_ok, List.filter_cons]
    by_cases hp : p x = true
    · rw [if_pos hp, if_pos hp]; rfl
    · rw [if_neg hp, if_neg hp]
/-- a for whose body goes on, by an invariant of the turn -/
theorem forL_inv {α : Type} {f : PV → Env → Store → Res Flow} {g : Store → Bool} {e : α → PV} (hg : ∀ st, g st = true) (I : Nat → Env → Store → Prop) : ∀ {xs : List α} {k : Nat} {env : Env} {st : Store}, I k env st →
    (∀ (i : Nat) x env st, xs[i]? = some x → I (k + i) env st → ∃ env' st', f (e x) env st = .ok (.nx env') st' ∧ I (k + i + 1) env' st') → ∃ env' st', forL f g (xs.map e) env st = .ok (.nx env') st' ∧ I (k + xs.length) env' st'
  | [], k, env, st, h, _ => ⟨env, st, rfl, h⟩
  | x :: xs, k, env, st, h, hs => by
    obtain ⟨env1, st1, e1, h1⟩ := hs 0 x env st rfl h
    obtain ⟨env2, st2, e2, h2⟩ := forL_inv (e := e) hg I (xs := xs) (k := k + 1) h1 fun i y env st hy hI => by
      have := hs (i + 1) y env st (by simpa using hy) (by rw [← Nat.add_assoc, Nat.add_right_comm]; exact hI)
      rw [← Nat.add_assoc, Nat.add_right_comm k i 1] at this
      exact this
    refine ⟨env2, st2, ?_, by rw [List.length_cons, ← Nat.add_assoc, Nat.add_right_comm]; exact h2⟩
    rw [List.map_cons, forL, e1, Res.bind_ok]
    simp only [hg, if_true]
    exact e2
theorem allInts_map : ∀ ns : List Int, allInts (ns.map .int) = some ns
  | [] => rfl
  | n :: ns => by rw [List.map_cons, allInts, allInts_map ns]; rfl
theorem allBls_map : ∀ ns : List Bool, allBls (ns.map .bl) = some ns
  | [] => rfl
  | n :: ns => by rw [List.map_cons, allBls, allBls_map ns]; rfl
@[simp] theorem allBls_yes {α : Type} : ∀ xs : List α, allBls (xs.map fun _ => PV.bl true) = some (xs.map fun _ => true)
  | [] => rfl
  | x :: xs => by rw [List.map_cons, allBls, allBls_yes xs]; rfl
@[simp] theorem allBls_fn {α : Type} (f : α → Bool) : ∀ xs : List α, allBls (xs.map fun x => PV.bl (f x)) = some (xs.map f)
  | [] => rfl
  | x :: xs => by rw [List.map_cons, allBls, allBls_fn f xs]; rfl
@[simp] theorem allInts_fn {α : Type} (f : α → Int) : ∀ xs : List α, allInts (xs.map fun x => PV.int (f x)) = some (xs.map f)
  | [] => rfl
  | x :: xs => by rw [List.map_cons, allInts, allInts_fn f xs]; rfl
@[simp] theorem all_yes {α : Type} (xs : List α) : (xs.map fun _ => true).all id = true := by simp
@[simp] theorem all_tt {α : Type} : ∀ (l : List α), (l.all fun _ => true) = true
  | [] => rfl
  | _ :: l => by rw [List.all_cons, all_tt l]; rfl
/-! ### natural numbers -/
@[simp] theorem bop_bor (a b : Nat) : binop .bor (.int a) (.int b) = some (.int ((a ||| b : Nat) : Int)) := by
  simp only [binop]
  rw [if_pos ⟨Int.natCast_nonneg a, Int.natCast_nonneg b⟩]
  rfl
@[simp] theorem bop_band (a b : Nat) : binop .band (.int a) (.int b) = some (.int ((a &&& b : Nat) : Int)) := by
  simp only [binop]
  rw [if_pos ⟨Int.natCast_nonneg a, Int.natCast_nonneg b⟩]
  rfl
@[simp] theorem bop_band1 (a : Nat) : binop .band (.int a) (.int 1) = some (.int ((a &&& 1 : Nat) : Int)) := bop_band a 1
@[simp] theorem bop_shr (a b : Nat) : binop .shr (.int a) (.int b) = some (.int ((a >>> b : Nat) : Int)) := by
  simp only [binop]
  rw [if_pos (Int.natCast_nonneg b), Nat.shiftRight_eq_div_pow]
  congr 2
theorem bop_shl1 {b : Nat} (h : b ≤ 1000000) : binop .shl (.int 1) (.int b) = some (.int ((2 ^ b : Nat) : Int)) := by
  simp only [binop]
  rw [if_pos ⟨Int.natCast_nonneg b, by omega, by decide, by decide⟩]
  congr 2
  rw [Int.one_mul]
  exact (Int.natCast_pow 2 b).symm
@[simp] theorem bop_addI (a b : Int) : binop .add (.int a) (.int b) = some (.int (a + b)) := rfl
@[simp] theorem bop_subI (a b : Int) : binop .sub (.int a) (.int b) = some (.int (a - b)) := rfl
theorem rng0 {P : Prog} {cf : Nat → List PV → Store → Res PV} {env : Env} {st st' : Store} {hi : IE} {k : Nat} (e : evalE P cf hi env st = .ok (.int k) st') (h : k ≤ 1000000) : evalE P cf (.rng (.con (.int 0)) hi) env st = .ok (.lst ((List.range k).map fun i => PV.int (i : Nat))) st' := by
  have h1 : -i62 ≤ (0 : Int) ∧ (0 : Int) < i62 ∧ -i62 ≤ (k : Int) ∧ (k : Int) < i62 ∧ (k : Int) - 0 ≤ 1000000 := by unfold i62; omega
  rw [ev_rng, ev_con, Res.bind_ok, e, Res.bind_ok]
  simp only []
  rw [if_pos h1, Int.sub_zero, Int.toNat_natCast]
  congr 2
  apply List.map_congr_left
  intro i _
  rw [Int.zero_add]
theorem band_one (b i : Nat) : (b >>> i) &&& 1 = (b.testBit i).toNat := by
  rw [Nat.and_one_is_mod, Nat.testBit, Nat.and_comm, Nat.and_one_is_mod]
  rcases Nat.mod_two_eq_zero_or_one (b >>> i) with h | h <;> rw [h] <;> rfl
/-! ### the store's end -/
@[simp] theorem app_get {st T : Store} {k : Nat} : (st ++ T)[st.length + k]? = T[k]? := by
  rw [List.getElem?_append_right (Nat.le_add_right _ _), Nat.add_sub_cancel_left]
@[simp] theorem app_get0 {st T : Store} : (st ++ T)[st.length]? = T[0]? := by
  rw [List.getElem?_append_right (Nat.le_refl _), Nat.sub_self]
@[simp] theorem app_set {st T : Store} {k : Nat} {o : MO} : (st ++ T).set (st.length + k) o = st ++ T.set k o := by
  rw [List.set_append_right _ _ (Nat.le_add_right _ _), Nat.add_sub_cancel_left]
@[simp] theorem app_set0 {st T : Store} {o : MO} : (st ++ T).set st.length o = st ++ T.set 0 o := by
  rw [List.set_append_right _ _ (Nat.le_refl _), Nat.sub_self]
theorem seqIx_nat {n i : Nat} (h : i < n) : seqIx n (i : Int) = some i := by
  unfold seqIx
  rw [if_pos (Int.natCast_nonneg i), if_pos (by omega), Int.toNat_natCast]
theorem idx_lst {l : List Nat} {i : Nat} (h : i < l.length) : index1 (.lst (l.map fun (x : Nat) => PV.int x)) (.int i) = some (.int ((l[i]'h : Nat) : Int)) := by
  show ((seqIx (l.map fun (x : Nat) => PV.int x).length (i : Int)).bind fun j => (l.map fun (x : Nat) => PV.int x)[j]?) = _
  rw [seqIx_nat (by simpa using h)]
  show (l.map fun (x : Nat) => PV.int x)[i]? = _
  rw [List.getElem?_map, List.getElem?_eq_getElem h]; rfl
theorem set_lst {st T : Store} {k i x : Nat} {l : List Nat} (hk : T[k]? = some (.lst (l.map fun (x : Nat) => PV.int x))) (h : i < l.length) : setIdx (st ++ T) (.ref (st.length + k)) (.int i) (.int x) = some (st ++ T.set k (.lst ((l.set i x).map fun (x : Nat) => PV.int x))) := by
  simp only [setIdx, app_get, hk]
  rw [seqIx_nat (by simpa using h)]
  simp [List.map_set]
theorem der_app {st T : Store} {k : Nat} {xs : List PV} (hk : T[k]? = some (.lst xs)) : der (st ++ T) (.ref (st.length + k)) = .lst xs := by
  simp only [der, app_get, hk]
end
end MP
namespace MP
open PySem PySem.Spec PyProof.Rows L2
theorem p1_tuple {xs : List PV} : prim1 .tuple (.lst xs) = some (.tup xs) := rfl
theorem p1_tuple' {xs : List PV} : prim1 .tuple (.tup xs) = some (.tup xs) := rfl
theorem p1_list {xs : List PV} : prim1 .list (.lst xs) = some (.lst xs) := rfl
theorem p1_list' {xs : List PV} : prim1 .list (.tup xs) = some (.lst xs) := rfl
theorem p1_len {xs : List PV} : prim1 .len (.lst xs) = some (.int xs.length) := rfl
theorem p1_len' {xs : List PV} : prim1 .len (.tup xs) = some (.int xs.length) := rfl
theorem p1_len2 {xs : List PV} : prim1 .len (.set xs) = some (.int xs.length) := rfl
theorem p1_int {i : Int} : prim1 .int (.int i) = some (.int i) := rfl
theorem p1_abs {i : Int} : prim1 .abs (.int i) = some (.int (if i < 0 then -i else i)) := rfl
theorem p1_intb {b : Bool} : prim1 .int (.bl b) = some (.int (b2i b)) := rfl
theorem p1_any {bs : List Bool} : prim1 .any (.lst (bs.map .bl)) = some (.bl (bs.any id)) := by show (allBls _).map _ = _; rw [allBls_map]; rfl
theorem p1_all {bs : List Bool} : prim1 .all (.lst (bs.map .bl)) = some (.bl (bs.all id)) := by show (allBls _).map _ = _; rw [allBls_map]; rfl
theorem keep_if {b : Bool} {v : PV} {st : Store} : (match PV.bl b with
    | .bl true => Res.ok (some v) st
    | .bl false => Res.ok none st
    | _ => Res.bad) = .ok (if b = true then some v else none) st := by cases b <;> rfl
theorem es_ok {P : Prog} {cf : Nat → List PV → Store → Res PV} {e r : IE} {env : Env} {st st1 st2 : Store} {v : PV} {vs : List PV} (h : evalE P cf e env st = .ok v st1) (h2 : evalEs P cf r env st1 = .ok vs st2) : evalEs P cf (.cons e r) env st = .ok (v :: vs) st2 := by
  rw [es_cons, h, Res.bind_ok, h2, Res.bind_ok]
theorem var_ok {P : Prog} {cf : Nat → List PV → Store → Res PV} {i : Nat} {env : Env} {st : Store} {v : PV} (h : env[i]? = some (some v)) : evalE P cf (.var i) env st = .ok v st := by
  rw [ev_var, h]
/-! ### small data: repr says them -/
mutual
def sml : PV → Bool
  | .non | .bl _ => true
  | .int i => decide (0 ≤ i) && decide (i < 100)
  | .str s => s.all fun c => decide (c < 1114112)
  | .tup xs | .lst xs => smls xs
  | _ => false
def smls : List PV → Bool
  | [] => true
  | x :: xs => sml x && smls xs
end
mutual
def dep : PV → Nat
  | .tup xs | .lst xs => deps xs + 1
  | _ => 0
def deps : List PV → Nat
  | [] => 0
  | x :: xs => max (dep x) (deps xs)
end
mutual
def psz : PV → Nat
  | .int _ => 7
  | .str s => s.length
  | .tup xs | .lst xs => pszs xs
  | _ => 0
def pszs : List PV → Nat
  | [] => 0
  | x :: xs => psz x + 1 + pszs xs
end
theorem short100 : ∀ i : Nat, i < 100 → (PyData.shown (.int (i : Int))).length ≤ 13 := by decide +kernel
theorem log100 : ∀ i : Nat, i < 100 → (i : Int).natAbs.log2 + 1 ≤ 7 := by decide +kernel
mutual
theorem sml_isD : ∀ v : PV, sml v = true → PV.isD v = true
  | .non, _ => rfl
  | .bl _, _ => rfl
  | .int _, _ => rfl
  | .str s, h => h
  | .tup xs, h => by rw [PV.isD]; exact smls_isD xs (by simpa [sml] using h)
  | .lst xs, h => by rw [PV.isD]; exact smls_isD xs (by simpa [sml] using h)
  | .set _, h => by simp [sml] at h
  | .dic _ _, h => by simp [sml] at h
  | .obj _ _ _, h => by simp [sml] at h
  | .ref _, h => by simp [sml] at h
  | .fn _, h => by simp [sml] at h
theorem smls_isD : ∀ v : List PV, smls v = true → PV.isDs v = true
  | [], _ => rfl
  | x :: xs, h => by
    simp only [smls, Bool.and_eq_true] at h
    rw [PV.isDs, sml_isD x h.1, smls_isD xs h.2]; rfl
end
mutual
theorem sml_dep : ∀ (v : PV) (n : Nat), sml v = true → dep v ≤ n → PV.depth0 n v = true
  | .non, n, _, _ => by cases n <;> rfl
  | .bl _, n, _, _ => by cases n <;> rfl
  | .int _, n, _, _ => by cases n <;> rfl
  | .str s, n, h, _ => by cases n <;> rfl
  | .tup xs, 0, h, d => by simp [dep] at d
  | .lst xs, 0, h, d => by simp [dep] at d
  | .tup xs, n + 1, h, d => by rw [PV.depth0]; exact smls_dep xs n (by simpa [sml] using h) (by simpa [dep] using d)
  | .lst xs, n + 1, h, d => by rw [PV.depth0]; exact smls_dep xs n (by simpa [sml] using h) (by simpa [dep] using d)
  | .set _, _, h, _ => by simp [sml] at h
  | .dic _ _, _, h, _ => by simp [sml] at h
  | .obj _ _ _, _, h, _ => by simp [sml] at h
  | .ref _, _, h, _ => by simp [sml] at h
  | .fn _, _, h, _ => by simp [sml] at h
theorem smls_dep : ∀ (v : List PV) (n : Nat), smls v = true → deps v ≤ n → (v.all fun x => PV.depth0 n x) = true
  | [], _, _, _ => rfl
  | x :: xs, n, h, d => by
    simp only [smls, Bool.and_eq_true] at h
    simp only [deps] at d
    rw [List.all_cons, sml_dep x n h.1 (by omega), smls_dep xs n h.2 (by omega)]; rfl
end
theorem int_nat {i : Int} (h : 0 ≤ i) (h2 : i < 100) : ∃ k : Nat, k < 100 ∧ i = (k : Int) := ⟨i.toNat, by omega, by omega⟩
mutual
theorem sml_show : ∀ v : PV, sml v = true → (toD v).intsShort 13 = true ∧ (toD v).showable = true ∧ (toD v).weight ≤ psz v
  | .non, _ => ⟨rfl, rfl, Nat.le_refl _⟩
  | .bl _, _ => ⟨rfl, rfl, Nat.le_refl _⟩
  | .int i, h => by
    simp only [sml, Bool.and_eq_true, decide_eq_true_eq] at h
    obtain ⟨k, hk, rfl⟩ := int_nat h.1 h.2
    have h1 := short100 k hk
    have h2 := log100 k hk
    refine ⟨by rw [toD, PyData.intsShort]; exact decide_eq_true h1, by rw [toD, PyData.showable]; exact decide_eq_true (by omega), ?_⟩
    rw [toD, PyData.weight, psz]
    split <;> omega
  | .str s, h => ⟨rfl, rfl, by rw [toD, PyData.weight, psz]; simp⟩
  | .tup xs, h => by
    have := smls_show xs (by simpa [sml] using h)
    rw [toD, PyData.intsShort, PyData.showable, PyData.weight, psz]
    exact this
  | .lst xs, h => by
    have := smls_show xs (by simpa [sml] using h)
    rw [toD, PyData.intsShort, PyData.showable, PyData.weight, psz]
    exact this
  | .set _, h => by simp [sml] at h
  | .dic _ _, h => by simp [sml] at h
  | .obj _ _ _, h => by simp [sml] at h
  | .ref _, h => by simp [sml] at h
  | .fn _, h => by simp [sml] at h
theorem smls_show : ∀ v : List PV, smls v = true → PyData.intsShortAll 13 (toDs v) = true ∧ PyData.showableAll (toDs v) = true ∧ PyData.weightAll (toDs v) ≤ pszs v
  | [], _ => ⟨rfl, rfl, Nat.le_refl _⟩
  | x :: xs, h => by
    simp only [smls, Bool.and_eq_true] at h
    have a := sml_show x h.1
    have b := smls_show xs h.2
    rw [toDs, PyData.intsShortAll, PyData.showableAll, PyData.weightAll, pszs, a.1, b.1, a.2.1, b.2.1]
    exact ⟨rfl, rfl, by omega⟩
end
theorem sml_depthOk {v : PV} (h : sml v = true) (d : dep v ≤ 60) : depthOk v = true := by
  unfold depthOk
  rw [sml_isD v h, sml_dep v 60 h d]; rfl
theorem rpr_small {v : PV} (h : sml v = true) (d : dep v ≤ 60) (w : psz v ≤ 1048576) (s : isSeq v = true) : ∃ t, rprK v = some t := by
  have a := sml_show v h
  unfold rprK
  rw [if_pos]
  · exact ⟨_, rfl⟩
  · rw [s, sml_depthOk h d, a.1, a.2.1]
    simp only [Bool.and_self, Bool.true_and, decide_eq_true_eq]
    exact Nat.le_trans a.2.2 w
/-- natural numbers -/
theorem sml_ints : ∀ {l : List Nat}, (∀ p ∈ l, p < 100) → smls (l.map fun (i : Nat) => PV.int i) = true
  | [], _ => rfl
  | p :: l, h => by
    have := h p List.mem_cons_self
    rw [List.map_cons, smls, sml_ints fun q hq => h q (List.mem_cons_of_mem _ hq), sml, decide_eq_true (by omega), decide_eq_true (by omega)]; rfl
theorem dep_ints : ∀ {l : List Nat}, deps (l.map fun (i : Nat) => PV.int i) = 0
  | [] => rfl
  | p :: l => by rw [List.map_cons, deps, dep_ints]; rfl
theorem psz_ints : ∀ {l : List Nat}, pszs (l.map fun (i : Nat) => PV.int i) = 8 * l.length
  | [] => rfl
  | p :: l => by rw [List.map_cons, pszs, psz_ints, psz, List.length_cons]; omega
/-! ### == of data -/
mutual
theorem eqv_refl : ∀ v : PV, PV.isD v = true → PV.eqv v v = true
  | .non, _ => rfl
  | .bl b, _ => by simp [PV.eqv]
  | .int b, _ => by simp [PV.eqv]
  | .str b, _ => by simp [PV.eqv]
  | .tup xs, h => by rw [PV.eqv]; exact eqvs_refl xs (by simpa [PV.isD] using h)
  | .lst xs, h => by rw [PV.eqv]; exact eqvs_refl xs (by simpa [PV.isD] using h)
  | .set _, h => by simp [PV.isD] at h
  | .dic _ _, h => by simp [PV.isD] at h
  | .obj _ _ _, h => by simp [PV.isD] at h
  | .ref _, h => by simp [PV.isD] at h
  | .fn _, h => by simp [PV.isD] at h
theorem eqvs_refl : ∀ v : List PV, PV.isDs v = true → PV.eqvs v v = true
  | [], _ => rfl
  | x :: xs, h => by
    simp only [PV.isDs, Bool.and_eq_true] at h
    rw [PV.eqvs, eqv_refl x h.1, eqvs_refl xs h.2]; rfl
end
theorem eqvs_ints : ∀ l k : List Nat, PV.eqvs (l.map fun (i : Nat) => PV.int i) (k.map fun (i : Nat) => PV.int i) = decide (l = k)
  | [], [] => rfl
  | [], _ :: _ => rfl
  | _ :: _, [] => rfl
  | p :: l, q :: k => by
    rw [List.map_cons, List.map_cons, PV.eqvs, eqvs_ints l k, PV.eqv]
    by_cases h : p = q
    · subst h; simp
    · have : ¬ ((p : Int) = (q : Int)) := by omega
      simp [h, this]
theorem depthOk_ints (l : List Nat) : depthOk (.tup (l.map fun (i : Nat) => PV.int i)) = true := by
  unfold depthOk
  rw [PV.isD, PV.depth0, Bool.and_eq_true]
  constructor
  · induction l with
    | nil => rfl
    | cons p l ih => rw [List.map_cons, PV.isDs, ih]; rfl
  · rw [List.all_eq_true]
    intro x hx
    obtain ⟨i, _, rfl⟩ := List.mem_map.mp hx
    rfl
theorem depthOk_lints (l : List Nat) : depthOk (.lst (l.map fun (i : Nat) => PV.int i)) = true := by
  unfold depthOk
  rw [PV.isD, PV.depth0, Bool.and_eq_true]
  constructor
  · induction l with
    | nil => rfl
    | cons p l ih => rw [List.map_cons, PV.isDs, ih]; rfl
  · rw [List.all_eq_true]
    intro x hx
    obtain ⟨i, _, rfl⟩ := List.mem_map.mp hx
    rfl
theorem eq_tints (l k : List Nat) : cmpop .eq (.tup (l.map fun (i : Nat) => PV.int i)) (.tup (k.map fun (i : Nat) => PV.int i)) = some (decide (l = k)) := by
  simp only [cmpop]
  rw [depthOk_ints, depthOk_ints, PV.eqv, eqvs_ints]; rfl
theorem ne_tints (l k : List Nat) : cmpop .ne (.tup (l.map fun (i : Nat) => PV.int i)) (.tup (k.map fun (i : Nat) => PV.int i)) = some (!decide (l = k)) := by
  simp only [cmpop]
  rw [depthOk_ints, depthOk_ints, PV.eqv, eqvs_ints]; rfl
theorem eq_lints (l k : List Nat) : cmpop .eq (.lst (l.map fun (i : Nat) => PV.int i)) (.lst (k.map fun (i : Nat) => PV.int i)) = some (decide (l = k)) := by
  simp only [cmpop]
  rw [depthOk_lints, depthOk_lints, PV.eqv, eqvs_ints]; rfl
theorem ne_lints (l k : List Nat) : cmpop .ne (.lst (l.map fun (i : Nat) => PV.int i)) (.lst (k.map fun (i : Nat) => PV.int i)) = some (!decide (l = k)) := by
  simp only [cmpop]
  rw [depthOk_lints, depthOk_lints, PV.eqv, eqvs_ints]; rfl
theorem eq_lnil (l : List Nat) : cmpop .eq (.lst (l.map fun (i : Nat) => PV.int i)) (.lst []) = some (decide (l = [])) := eq_lints l []
theorem ne_lnil (l : List Nat) : cmpop .ne (.lst (l.map fun (i : Nat) => PV.int i)) (.lst []) = some (!decide (l = [])) := ne_lints l []
theorem any_ints (l : List Nat) (p : Nat) : ((l.map fun (i : Nat) => PV.int i).any fun y => PV.eqv y (.int p)) = decide (p ∈ l) := by
  induction l with
  | nil => rfl
  | cons q l ih =>
    rw [List.map_cons, List.any_cons, ih, PV.eqv]
    by_cases h : q = p
    · subst h; simp
    · have : ¬ ((q : Int) = (p : Int)) := by omega
      have h2 : ¬ p = q := Ne.symm h
      simp [this, h2]
theorem isin_ints (l : List Nat) (p : Nat) : cmpop .isin (.int p) (.tup (l.map fun (i : Nat) => PV.int i)) = some (decide (p ∈ l)) := by
  simp only [cmpop]
  rw [depthOk_ints, any_ints]; rfl
theorem notin_ints (l : List Nat) (p : Nat) : cmpop .notin (.int p) (.tup (l.map fun (i : Nat) => PV.int i)) = some (!decide (p ∈ l)) := by
  simp only [cmpop]
  rw [depthOk_ints, any_ints]; rfl
end MP
namespace MP
section
variable {P : Prog} {cf : Nat → List PV → Store → Res PV} {env : Env} {st : Store}
theorem ex_whl {k : Nat} {c : IE} {b : IS} : exec P cf (.whl k c b) env st = whileL (fun env st => (evalE P cf c env st).bind fun x st => .opt (asBool x) st) (fun env st => exec P cf b env st) k env st := by rw [exec] <;> rfl
theorem ev_sortk {t : Nat} {a key : IE} : evalE P cf (.sortk t a key) env st = (evalE P cf a env st).bind fun x st => match der st x with
    | .lst xs => if st[t]? = some (.tbl t) then (compL (fun x st => (evalE P cf key [some x] st).bind fun y st' => if st' = st then .ok (some y) st else .bad) (fun _ => true) xs st).bind fun ks st =>
      (if sortOk ks ∧ ks.length = xs.length then .ok (.lst ((sortBy (fun p q => PV.lt p.1 q.1) (ks.zip xs)).map Prod.snd)) st else .bad) else .bad
    | _ => .bad := by rw [evalE] <;> rfl
theorem idx_last {xs : List PV} {y : PV} : index1 (.lst (xs ++ [y])) (.int (-1)) = some y := by
  show (seqIx (xs ++ [y]).length (-1)).bind _ = _
  have : seqIx (xs ++ [y]).length (-1) = some xs.length := by
    unfold seqIx
    rw [List.length_append, List.length_singleton, if_neg (by decide), if_pos (by omega)]
    exact congrArg some (by omega)
  rw [this]
  simp
theorem idx_lastT {xs : List PV} {y : PV} : index1 (.tup (xs ++ [y])) (.int (-1)) = some y := by
  have h := idx_last (xs := xs) (y := y)
  exact h
theorem idx_at {xs : List PV} {i : Nat} (h : i < xs.length) : index1 (.lst xs) (.int i) = some xs[i] := by
  show (seqIx xs.length (i : Int)).bind _ = _
  rw [seqIx_nat h]
  simp [h]
end
end MP
/-! the program of rw_contendings_k40_whole_ground_by_steps_an, printed by pyir.py -/
namespace LP
open PySem PySem.Spec PyProof.Rows L2 MP
def nmL : List Str := [("many" : Str), ("by" : Str), ("onto" : Str), ("struck" : Str), ("needed" : Str), ("is_quiet" : Str), ("is_held" : Str), ("defended" : Str), ("every" : Str), ("reached" : Str), ("is_whole" : Str)]
abbrev nms : Nat → Str := nmF nmL
/-- is_whole(value): value -/
def b0 : IS := (.cons (.ret (.and (.isi (.var 0) [.int]) (.not (.isi (.var 0) [.bool]))))
    .nil)
/-- is_between(value, least, most): value, least, most -/
def b1 : IS := (.cons (.ret (.and (.call 0 (.cons (.var 0) .nil)) (.chn .le .le (.var 1) (.var 0) (.var 2))))
    .nil)
/-- is_string(value): value -/
def b2 : IS := (.cons (.ret (.isi (.var 0) [.str]))
    .nil)
/-- is_tuple_of(value, many): value, many -/
def b3 : IS := (.cons (.ret (.and (.isi (.var 0) [.tuple]) (.cmp .eq (.pr1 .len (.var 0)) (.var 1))))
    .nil)
/-- is_row(value, least, most): value, least, most -/
def b4 : IS := (.cons (.ret (.and (.isi (.var 0) [.tuple]) (.chn .le .le (.var 1) (.pr1 .len (.var 0)) (.var 2))))
    .nil)
/-- is_word_in(value, words): value, words -/
def b5 : IS := (.cons (.ret (.and (.call 2 (.cons (.var 0) .nil)) (.cmp .isin (.var 0) (.var 1))))
    .nil)
/-- is_ascending(value): value, one, other -/
def b6 : IS := (.cons (.ret (.pr1 .all (.comp (.tup (.cons (.var 1) (.cons (.var 2) .nil))) (.zip (.var 0) (.slc (.var 0) (.con (.int 1)) (.con .non))) (.con (.bl true)) (.cmp .lt (.var 1) (.var 2)))))
    .nil)
/-- is_pair_of(value, many): value, many -/
def b7 : IS := (.cons (.ret (.and (.call 3 (.cons (.var 0) (.cons (.con (.int 2)) .nil))) (.and (.call 1 (.cons (.idx (.var 0) (.con (.int 0))) (.cons (.con (.int 0)) (.cons (.bin .sub (.var 1) (.con (.int 1))) .nil)))) (.call 1 (.cons (.idx (.var 0) (.con (.int 1))) (.cons (.con (.int 0)) (.cons (.bin .sub (.var 1) (.con (.int 1))) .nil)))))))
    .nil)
/-- are_pairs_of(value, many): value, many, each -/
def b8 : IS := (.cons (.iff (.or (.not (.isi (.var 0) [.tuple])) (.not (.pr1 .all (.comp (.var 2) (.var 0) (.con (.bl true)) (.call 7 (.cons (.var 2) (.cons (.var 1) .nil))))))) (.cons (.ret (.con (.bl false)))
    .nil) .nil)
    (.cons (.ret (.call 6 (.cons (.var 0) .nil)))
    .nil))
/-- is_field_by(value): value -/
def b9 : IS := (.cons (.ret (.and (.call 3 (.cons (.var 0) (.cons (.con (.int 2)) .nil))) (.and (.call 1 (.cons (.idx (.var 0) (.con (.int 0))) (.cons (.con (.int 1)) (.cons (.con (.int 8)) .nil)))) (.call 8 (.cons (.idx (.var 0) (.con (.int 1))) (.cons (.idx (.var 0) (.con (.int 0))) .nil))))))
    .nil)
/-- are_numbers_upto(value, most): value, most, each -/
def b10 : IS := (.cons (.ret (.and (.isi (.var 0) [.tuple]) (.and (.pr1 .all (.comp (.var 2) (.var 0) (.con (.bl true)) (.call 1 (.cons (.var 2) (.cons (.con (.int 0)) (.cons (.var 1) .nil)))))) (.call 6 (.cons (.var 0) .nil)))))
    .nil)
/-- is_lot_by(field, value): field, value -/
def b11 : IS := (.cons (.ret (.call 10 (.cons (.var 1) (.cons (.bin .sub (.idx (.var 0) (.con (.int 0))) (.con (.int 1))) .nil))))
    .nil)
/-- against_by(field, point): field, point, one, other -/
def b12 : IS := (.cons (.ret (.pr1 .tuple (.comp (.tup (.cons (.var 2) (.cons (.var 3) .nil))) (.idx (.var 0) (.con (.int 1))) (.cmp .eq (.var 3) (.var 1)) (.var 2))))
    .nil)
/-- bits_of(lot): lot, point -/
def b13 : IS := (.cons (.ret (.pr1 .sum (.comp (.var 1) (.var 0) (.con (.bl true)) (.bin .shl (.con (.int 1)) (.var 1)))))
    .nil)
/-- points_in(bits): bits, point -/
def b14 : IS := (.cons (.ret (.pr1 .tuple (.comp (.var 1) (.rng (.con (.int 0)) (.con (.int 8))) (.cmp .eq (.bin .band (.bin .shr (.var 0) (.var 1)) (.con (.int 1))) (.con (.int 1))) (.var 1))))
    .nil)
/-- is_within(bits, other): bits, other -/
def b15 : IS := (.cons (.ret (.cmp .eq (.bin .band (.var 0) (.var 1)) (.var 0)))
    .nil)
/-- check_field(value): value -/
def b16 : IS := (.cons (.iff (.not (.call 9 (.cons (.var 0) .nil))) (.cons (.rse (.con .non))
    .nil) .nil)
    .nil)
/-- check_lot(field, value): field, value -/
def b17 : IS := (.cons (.iff (.not (.call 11 (.cons (.var 0) (.cons (.var 1) .nil)))) (.cons (.rse (.con .non))
    .nil) .nil)
    .nil)
/-- unions(rows): rows, found, row, bits -/
def b18 : IS := (.cons (.asg (.var 1) (.lst (.cons (.con (.int 0)) .nil)))
    (.cons (.fors (.var 2) (.var 0) (.cons (.asg (.var 1) (.bin .add (.var 1) (.comp (.var 3) (.var 1) (.con (.bl true)) (.bin .bor (.var 3) (.var 2)))))
    .nil))
    (.cons (.ret (.var 1))
    .nil)))
/-- Lots.__init__(self, field): self, field, by, onto, one, other -/
def b19 : IS := (.cons (.asg (.fld 0 (.var 0)) (.idx (.var 1) (.con (.int 0))))
    (.cons (.asg (.tup (.cons (.var 2) (.cons (.var 3) .nil))) (.tup (.cons (.nw (.bin .mul (.lst (.cons (.con (.int 0)) .nil)) (.idx (.var 1) (.con (.int 0))))) (.cons (.nw (.bin .mul (.lst (.cons (.con (.int 0)) .nil)) (.idx (.var 1) (.con (.int 0))))) .nil))))
    (.cons (.fors (.tup (.cons (.var 4) (.cons (.var 5) .nil))) (.idx (.var 1) (.con (.int 1))) (.cons (.asg (.idx (.var 2) (.var 5)) (.bin .bor (.idx (.var 2) (.var 5)) (.bin .shl (.con (.int 1)) (.var 4))))
    (.cons (.asg (.idx (.var 3) (.var 4)) (.bin .bor (.idx (.var 3) (.var 4)) (.bin .shl (.con (.int 1)) (.var 5))))
    .nil)))
    (.cons (.asg (.tup (.cons (.fld 1 (.var 0)) (.cons (.fld 2 (.var 0)) .nil))) (.tup (.cons (.var 2) (.cons (.var 3) .nil))))
    (.cons (.asg (.tup (.cons (.fld 3 (.var 0)) (.cons (.fld 4 (.var 0)) .nil))) (.tup (.cons (.call 18 (.cons (.var 3) .nil)) (.cons (.call 18 (.cons (.var 2) .nil)) .nil))))
    .nil)))))
/-- Lots.every(self): self -/
def b20 : IS := (.cons (.ret (.pr1 .list (.rng (.con (.int 0)) (.pr1 .len (.fld 3 (.var 0))))))
    .nil)
/-- Lots.is_quiet(self, bits): self, bits -/
def b21 : IS := (.cons (.ret (.cmp .eq (.bin .band (.idx (.fld 3 (.var 0)) (.var 1)) (.var 1)) (.con (.int 0))))
    .nil)
/-- Lots.defended(self, bits): self, bits, struck, point -/
def b22 : IS := (.cons (.asg (.var 2) (.idx (.fld 3 (.var 0)) (.var 1)))
    (.cons (.ret (.pr1 .sum (.comp (.var 3) (.rng (.con (.int 0)) (.fld 0 (.var 0))) (.call 15 (.cons (.idx (.fld 1 (.var 0)) (.var 3)) (.cons (.var 2) .nil))) (.bin .shl (.con (.int 1)) (.var 3)))))
    .nil))
/-- Lots.is_held(self, bits): self, bits -/
def b23 : IS := (.cons (.ret (.and (.meth 5 (.var 0) (.cons (.var 1) .nil)) (.call 15 (.cons (.idx (.fld 4 (.var 0)) (.var 1)) (.cons (.idx (.fld 3 (.var 0)) (.var 1)) .nil)))))
    .nil)
/-- Lots.is_whole(self, bits): self, bits -/
def b24 : IS := (.cons (.ret (.and (.meth 6 (.var 0) (.cons (.var 1) .nil)) (.cmp .eq (.meth 7 (.var 0) (.cons (.var 1) .nil)) (.var 1))))
    .nil)
/-- Lots.reached(self, bits): self, bits -/
def b25 : IS := (.cons (.rse (.con .non)) .nil)
/-- step_bits(lots): lots, found -/
def b26 : IS := (.cons (.asg (.var 1) (.nw (.lst (.cons (.con (.int 0)) .nil))))
    (.cons (.whl 64 (.cmp .ne (.meth 7 (.var 0) (.cons (.idx (.var 1) (.neg (.con (.int 1)))) .nil)) (.idx (.var 1) (.neg (.con (.int 1))))) (.cons (.exp (.append (.var 1) (.meth 7 (.var 0) (.cons (.idx (.var 1) (.neg (.con (.int 1)))) .nil))))
    .nil))
    (.cons (.ret (.var 1))
    .nil)))
/-- steps_by(field): field, bits -/
def b27 : IS := (.cons (.ret (.pr1 .tuple (.comp (.var 1) (.call 26 (.cons (.make 0 (.cons (.var 0) .nil)) .nil)) (.con (.bl true)) (.call 14 (.cons (.var 1) .nil)))))
    .nil)
/-- ground_by(field): field -/
def b28 : IS := (.cons (.ret (.idx (.call 27 (.cons (.var 0) .nil)) (.neg (.con (.int 1)))))
    .nil)
/-- ground(field): field -/
def b29 : IS := (.cons (.exp (.call 16 (.cons (.var 0) .nil)))
    (.cons (.ret (.call 28 (.cons (.var 0) .nil)))
    .nil))
/-- steps(field): field -/
def b30 : IS := (.cons (.exp (.call 16 (.cons (.var 0) .nil)))
    (.cons (.ret (.call 27 (.cons (.var 0) .nil)))
    .nil))
/-- held_bits(lots): lots, bits -/
def b31 : IS := (.cons (.ret (.comp (.var 1) (.meth 8 (.var 0) .nil) (.meth 6 (.var 0) (.cons (.var 1) .nil)) (.var 1)))
    .nil)
/-- whole_bits(lots): lots, bits -/
def b32 : IS := (.cons (.ret (.comp (.var 1) (.call 31 (.cons (.var 0) .nil)) (.cmp .eq (.meth 7 (.var 0) (.cons (.var 1) .nil)) (.var 1)) (.var 1)))
    .nil)
/-- quiet_sorts(lots, sort): lots, sort, found, bits -/
def b33 : IS := (.cons (.rse (.con .non)) (.cons (.rse (.con .non)) (.cons (.rse (.con .non)) (.cons (.rse (.con .non)) .nil))))
/-- most_bits(lots): lots, found -/
def b34 : IS := (.cons (.rse (.con .non)) (.cons (.rse (.con .non)) .nil))
/-- wide_bits(lots): lots, found, bits -/
def b35 : IS := (.cons (.rse (.con .non)) (.cons (.rse (.con .non)) .nil))
/-- inner_bits(lots, some): lots, some, shared, bits, found -/
def b36 : IS := (.cons (.rse (.con .non)) (.cons (.rse (.con .non)) (.cons (.rse (.con .non)) (.cons (.rse (.con .non)) .nil))))
/-- bits_by(lots, sort): lots, sort -/
def b37 : IS := (.cons (.iff (.cmp .eq (.var 1) (.con (.str [103, 114, 111, 117, 110, 100]))) (.cons (.ret (.slc (.call 26 (.cons (.var 0) .nil)) (.neg (.con (.int 1))) (.con .non)))
    .nil) .nil)
    (.cons (.iff (.cmp .isin (.var 1) (.tup (.cons (.con (.str [113, 117, 105, 101, 116])) (.cons (.con (.str [108, 111, 111, 115, 101])) (.cons (.con (.str [115, 116, 97, 103, 101])) (.cons (.con (.str [115, 116, 97, 98, 108, 101])) .nil)))))) (.cons (.ret (.call 33 (.cons (.var 0) (.cons (.var 1) .nil))))
    .nil) .nil)
    (.cons (.iff (.cmp .isin (.var 1) (.tup (.cons (.con (.str [104, 101, 108, 100])) (.cons (.con (.str [109, 111, 115, 116])) .nil)))) (.cons (.ret (.ite (.cmp .eq (.var 1) (.con (.str [104, 101, 108, 100]))) (.call 31 (.cons (.var 0) .nil)) (.call 34 (.cons (.var 0) .nil))))
    .nil) .nil)
    (.cons (.iff (.cmp .isin (.var 1) (.tup (.cons (.con (.str [119, 104, 111, 108, 101])) (.cons (.con (.str [119, 105, 100, 101])) .nil)))) (.cons (.ret (.ite (.cmp .eq (.var 1) (.con (.str [119, 104, 111, 108, 101]))) (.call 32 (.cons (.var 0) .nil)) (.call 35 (.cons (.var 0) .nil))))
    .nil) .nil)
    (.cons (.ret (.call 36 (.cons (.var 0) (.cons (.ite (.cmp .eq (.var 1) (.con (.str [105, 100, 101, 97, 108]))) (.call 34 (.cons (.var 0) .nil)) (.call 35 (.cons (.var 0) .nil))) .nil))))
    .nil)))))
/-- lots_by(field, sort): field, sort, found, bits -/
def b38 : IS := (.cons (.asg (.var 2) (.comp (.var 3) (.call 37 (.cons (.make 0 (.cons (.var 0) .nil)) (.cons (.var 1) .nil))) (.con (.bl true)) (.call 14 (.cons (.var 3) .nil))))
    (.cons (.ret (.pr1 .tuple (.sortk 0 (.var 2) (.tup (.cons (.pr1 .len (.var 0)) (.cons (.var 0) .nil))))))
    .nil))
/-- all_within(field, sort): field, sort, found, shared, bits -/
def b39 : IS := (.cons (.asg (.var 2) (.call 37 (.cons (.make 0 (.cons (.var 0) .nil)) (.cons (.var 1) .nil))))
    (.cons (.asg (.var 3) (.ite (.cmp .ne (.var 2) (.lst .nil)) (.idx (.var 2) (.con (.int 0))) (.con (.int 0))))
    (.cons (.fors (.var 4) (.var 2) (.cons (.asg (.var 3) (.bin .band (.var 3) (.var 4)))
    .nil))
    (.cons (.ret (.call 14 (.cons (.var 3) .nil)))
    .nil))))
/-- are_words(value, least, most): value, least, most, word -/
def b40 : IS := (.cons (.ret (.and (.call 4 (.cons (.var 0) (.cons (.var 1) (.cons (.var 2) .nil)))) (.pr1 .all (.comp (.var 3) (.var 0) (.con (.bl true)) (.call 5 (.cons (.var 3) (.cons (.con (.tup [(.str [105, 110]), (.str [111, 117, 116]), (.str [111, 112, 101, 110])])) .nil)))))))
    .nil)
/-- word_by(field, lot, point): field, lot, point, one -/
def b41 : IS := (.cons (.iff (.cmp .isin (.var 2) (.var 1)) (.cons (.ret (.con (.str [105, 110])))
    .nil) .nil)
    (.cons (.ret (.ite (.pr1 .any (.comp (.var 3) (.call 12 (.cons (.var 0) (.cons (.var 2) .nil))) (.con (.bl true)) (.cmp .isin (.var 3) (.var 1)))) (.con (.str [111, 117, 116])) (.con (.str [111, 112, 101, 110]))))
    .nil))
/-- label_by(field, lot): field, lot, point -/
def b42 : IS := (.cons (.ret (.pr1 .tuple (.comp (.var 2) (.rng (.con (.int 0)) (.idx (.var 0) (.con (.int 0)))) (.con (.bl true)) (.call 41 (.cons (.var 0) (.cons (.var 1) (.cons (.var 2) .nil)))))))
    .nil)
/-- is_right_at(field, label, point): field, label, point, words, one, word -/
def b43 : IS := (.cons (.asg (.var 3) (.comp (.var 4) (.call 12 (.cons (.var 0) (.cons (.var 2) .nil))) (.con (.bl true)) (.idx (.var 1) (.var 4))))
    (.cons (.iff (.cmp .ne (.cmp .eq (.idx (.var 1) (.var 2)) (.con (.str [105, 110]))) (.pr1 .all (.comp (.var 5) (.var 3) (.con (.bl true)) (.cmp .eq (.var 5) (.con (.str [111, 117, 116])))))) (.cons (.ret (.con (.bl false)))
    .nil) .nil)
    (.cons (.ret (.cmp .eq (.cmp .eq (.idx (.var 1) (.var 2)) (.con (.str [111, 117, 116]))) (.cmp .isin (.con (.str [105, 110])) (.var 3))))
    .nil)))
/-- faults_by(field, label): field, label, point -/
def b44 : IS := (.cons (.ret (.pr1 .tuple (.comp (.var 2) (.rng (.con (.int 0)) (.idx (.var 0) (.con (.int 0)))) (.not (.call 43 (.cons (.var 0) (.cons (.var 1) (.cons (.var 2) .nil))))) (.var 2))))
    .nil)
/-- is_right_by(field, value): field, value -/
def b45 : IS := (.cons (.ret (.and (.call 40 (.cons (.var 1) (.cons (.idx (.var 0) (.con (.int 0))) (.cons (.idx (.var 0) (.con (.int 0))) .nil)))) (.cmp .eq (.call 44 (.cons (.var 0) (.cons (.var 1) .nil))) (.tup .nil))))
    .nil)
/-- is_right_label(field, value): field, value -/
def b46 : IS := (.cons (.exp (.call 16 (.cons (.var 0) .nil)))
    (.cons (.ret (.call 45 (.cons (.var 0) (.cons (.var 1) .nil))))
    .nil))
/-- label_of(field, lot): field, lot -/
def b47 : IS := (.cons (.exp (.call 16 (.cons (.var 0) .nil)))
    (.cons (.exp (.call 17 (.cons (.var 0) (.cons (.var 1) .nil))))
    (.cons (.ret (.call 42 (.cons (.var 0) (.cons (.var 1) .nil))))
    .nil)))
/-- lots_beside(field, lot): field, lot -/
def b48 : IS := (.cons (.exp (.call 16 (.cons (.var 0) .nil)))
    (.cons (.exp (.call 17 (.cons (.var 0) (.cons (.var 1) .nil))))
    (.cons (.ret (.make 0 (.cons (.var 0) .nil)))
    .nil)))
/-- struck_by(field, lot): field, lot -/
def b49 : IS := (.cons (.ret (.call 14 (.cons (.idx (.fld 3 (.call 48 (.cons (.var 0) (.cons (.var 1) .nil)))) (.call 13 (.cons (.var 1) .nil))) .nil)))
    .nil)
/-- defended_by(field, lot): field, lot -/
def b50 : IS := (.cons (.ret (.call 14 (.cons (.meth 7 (.call 48 (.cons (.var 0) (.cons (.var 1) .nil))) (.cons (.call 13 (.cons (.var 1) .nil)) .nil)) .nil)))
    .nil)
/-- is_whole(field, lot): field, lot -/
def b51 : IS := (.cons (.ret (.meth 10 (.call 48 (.cons (.var 0) (.cons (.var 1) .nil))) (.cons (.call 13 (.cons (.var 1) .nil)) .nil)))
    .nil)
/-- check_sort(sort): sort -/
def b52 : IS := (.cons (.iff (.not (.call 5 (.cons (.var 0) (.cons (.con (.tup [(.str [113, 117, 105, 101, 116]), (.str [104, 101, 108, 100]), (.str [119, 104, 111, 108, 101]), (.str [103, 114, 111, 117, 110, 100]), (.str [108, 111, 111, 115, 101]), (.str [109, 111, 115, 116]), (.str [115, 116, 97, 98, 108, 101]), (.str [119, 105, 100, 101]), (.str [115, 116, 97, 103, 101]), (.str [105, 100, 101, 97, 108]), (.str [101, 97, 103, 101, 114])])) .nil)))) (.cons (.rse (.con .non))
    .nil) .nil)
    .nil)
/-- check_sorted(field, sort): field, sort -/
def b53 : IS := (.cons (.exp (.call 16 (.cons (.var 0) .nil)))
    (.cons (.exp (.call 52 (.cons (.var 1) .nil)))
    .nil))
/-- lots_of(field, sort): field, sort -/
def b54 : IS := (.cons (.exp (.call 53 (.cons (.var 0) (.cons (.var 1) .nil))))
    (.cons (.ret (.call 38 (.cons (.var 0) (.cons (.var 1) .nil))))
    .nil))
/-- is_of(field, sort, lot): field, sort, lot -/
def b55 : IS := (.cons (.exp (.call 53 (.cons (.var 0) (.cons (.var 1) .nil))))
    (.cons (.exp (.call 17 (.cons (.var 0) (.cons (.var 2) .nil))))
    (.cons (.ret (.cmp .isin (.var 2) (.call 38 (.cons (.var 0) (.cons (.var 1) .nil)))))
    .nil)))
/-- within_all(field, sort): field, sort -/
def b56 : IS := (.cons (.exp (.call 53 (.cons (.var 0) (.cons (.var 1) .nil))))
    (.cons (.ret (.call 39 (.cons (.var 0) (.cons (.var 1) .nil))))
    .nil))
/-- _law_dice(script, lap): script, lap, heap, number, great -/
def b57 : IS := (.cons (.asg (.var 2) (.bin .add (.bin .mul (.con (.int 1009)) (.var 1)) (.con (.int 31))))
    (.cons (.fors (.var 3) (.bin .add (.slc (.var 0) (.var 1) (.bin .add (.var 1) (.con (.int 1)))) (.var 0)) (.cons (.asg (.var 2) (.bin .mod (.bin .add (.bin .mul (.var 2) (.con (.int 1000003))) (.bin .mod (.var 3) (.con (.int 999999999989)))) (.con (.int 340282366920938463463374607431768211297))))
    .nil))
    (.cons (.asg (.var 4) (.pr1 .abs (.pr1 .sum (.slc (.var 0) (.var 1) (.bin .add (.var 1) (.con (.int 1)))))))
    (.cons (.ret (.nw (.lst (.cons (.ite (.cmp .gt (.var 4) (.con (.int 99999999999999))) (.var 4) (.con (.int 0))) (.cons (.var 2) .nil)))))
    .nil))))
/-- _law_pick(dice, faces): dice, faces, face -/
def b58 : IS := (.cons (.iff (.cmp .gt (.idx (.var 0) (.con (.int 0))) (.con (.int 0))) (.cons (.asg (.tup (.cons (.idx (.var 0) (.con (.int 0))) (.cons (.var 2) .nil))) (.pr2 .divmod (.idx (.var 0) (.con (.int 0))) (.var 1)))
    (.cons (.ret (.var 2))
    .nil)) .nil)
    (.cons (.asg (.idx (.var 0) (.con (.int 1))) (.bin .mod (.bin .add (.bin .mul (.idx (.var 0) (.con (.int 1))) (.con (.int 6364136223846793005))) (.con (.int 1442695040888963407))) (.con (.int 18446744073709551616))))
    (.cons (.ret (.bin .mod (.bin .fdiv (.idx (.var 0) (.con (.int 1))) (.con (.int 4294967296))) (.var 1)))
    .nil)))
/-- _law_any(dice, things): dice, things -/
def b59 : IS := (.cons (.ret (.idx (.var 1) (.call 58 (.cons (.var 0) (.cons (.pr1 .len (.var 1)) .nil)))))
    .nil)
/-- _law_field(dice, form): dice, form, rate, point, one, many, pairs, order, other, so -/
def b60 : IS := (.cons (.asg (.tup (.cons (.var 5) (.cons (.var 6) (.cons (.var 7) .nil)))) (.tup (.cons (.idx (.lst (.cons (.con (.int 5)) (.cons (.con (.int 4)) (.cons (.con (.int 4)) (.cons (.con (.int 3)) (.cons (.con (.int 2)) .nil)))))) (.call 58 (.cons (.var 0) (.cons (.con (.int 5)) .nil)))) (.cons (.lst .nil) (.cons (.nw (.lst .nil)) .nil)))))
    (.cons (.asg (.var 2) (.bin .sub (.bin .add (.con (.int 2)) (.call 58 (.cons (.var 0) (.cons (.con (.int 3)) .nil)))) (.pr1 .int (.cmp .isin (.var 1) (.lst (.cons (.con (.str [102, 114, 101, 101])) (.cons (.con (.str [99, 97, 109, 112, 115])) .nil)))))))
    (.cons (.fors (.var 3) (.rng (.con (.int 0)) (.var 5)) (.cons (.exp (.insert (.var 7) (.call 58 (.cons (.var 0) (.cons (.bin .add (.var 3) (.con (.int 1))) .nil))) (.var 3)))
    .nil))
    (.cons (.fors (.var 4) (.rng (.con (.int 0)) (.var 5)) (.cons (.fors (.var 8) (.rng (.con (.int 0)) (.var 5)) (.cons (.asg (.var 9) (.cmp .eq (.call 58 (.cons (.var 0) (.cons (.var 2) .nil))) (.con (.int 0))))
    (.cons (.iff (.cmp .eq (.var 1) (.con (.str [102, 114, 101, 101]))) (.cons (.asg (.var 9) (.and (.var 9) (.cmp .lt (.var 4) (.var 8))))
    .nil) (.cons (.iff (.cmp .eq (.var 1) (.con (.str [99, 97, 109, 112, 115]))) (.cons (.asg (.var 9) (.and (.var 9) (.cmp .eq (.bin .mod (.bin .add (.var 4) (.var 8)) (.con (.int 2))) (.con (.int 1)))))
    .nil) (.cons (.iff (.cmp .eq (.var 1) (.con (.str [114, 111, 117, 110, 100]))) (.cons (.asg (.var 9) (.or (.and (.var 9) (.cmp .ne (.var 4) (.var 8))) (.cmp .eq (.var 8) (.bin .mod (.bin .add (.var 4) (.con (.int 1))) (.var 5)))))
    .nil) .nil)
    .nil))
    .nil))
    (.cons (.asg (.var 6) (.bin .add (.var 6) (.bin .mul (.lst (.cons (.tup (.cons (.idx (.var 7) (.var 4)) (.cons (.idx (.var 7) (.var 8)) .nil))) .nil)) (.pr1 .int (.var 9)))))
    .nil))))
    .nil))
    (.cons (.ret (.tup (.cons (.var 5) (.cons (.pr1 .tuple (.pr1 .sorted (.var 6))) .nil))))
    .nil)))))
/-- _law_foes(field, point): field, point, one, other -/
def b61 : IS := (.cons (.ret (.comp (.tup (.cons (.var 2) (.cons (.var 3) .nil))) (.idx (.var 0) (.con (.int 1))) (.cmp .eq (.var 3) (.var 1)) (.var 2)))
    .nil)
/-- _law_every(many): many, found, point, size, lot -/
def b62 : IS := (.cons (.asg (.var 1) (.lst (.cons (.tup .nil) .nil)))
    (.cons (.fors (.var 2) (.rng (.con (.int 0)) (.var 0)) (.cons (.asg (.var 1) (.bin .add (.var 1) (.comp (.var 4) (.var 1) (.con (.bl true)) (.bin .add (.var 4) (.tup (.cons (.var 2) .nil))))))
    .nil))
    (.cons (.ret (.comp (.tup (.cons (.var 3) (.cons (.var 4) .nil))) (.pr1 .sorted (.comp (.var 4) (.var 1) (.con (.bl true)) (.tup (.cons (.pr1 .len (.var 4)) (.cons (.var 4) .nil))))) (.con (.bl true)) (.var 4)))
    .nil)))
/-- _law_struck(field, lot): field, lot, one, other -/
def b63 : IS := (.cons (.ret (.pr1 .tuple (.pr1 .set (.comp (.tup (.cons (.var 2) (.cons (.var 3) .nil))) (.idx (.var 0) (.con (.int 1))) (.cmp .isin (.var 2) (.var 1)) (.var 3)))))
    .nil)
/-- _law_safe(field, lot): field, lot, hit, point, foe -/
def b64 : IS := (.cons (.asg (.var 2) (.call 63 (.cons (.var 0) (.cons (.var 1) .nil))))
    (.cons (.ret (.pr1 .tuple (.comp (.var 3) (.rng (.con (.int 0)) (.idx (.var 0) (.con (.int 0)))) (.pr1 .all (.comp (.var 4) (.call 61 (.cons (.var 0) (.cons (.var 3) .nil))) (.con (.bl true)) (.cmp .isin (.var 4) (.var 2)))) (.var 3))))
    .nil))
/-- _law_quiet(field, lot): field, lot, point -/
def b65 : IS := (.cons (.ret (.not (.pr1 .any (.comp (.var 2) (.call 63 (.cons (.var 0) (.cons (.var 1) .nil))) (.con (.bl true)) (.cmp .isin (.var 2) (.var 1))))))
    .nil)
/-- _law_rise(field): field, found, turn, late -/
def b66 : IS := (.cons (.asg (.var 1) (.lst (.cons (.tup .nil) .nil)))
    (.cons (.fors (.var 2) (.rng (.con (.int 0)) (.idx (.var 0) (.con (.int 0)))) (.cons (.asg (.var 3) (.call 64 (.cons (.var 0) (.cons (.idx (.var 1) (.neg (.con (.int 1)))) .nil))))
    (.cons (.asg (.var 1) (.bin .add (.var 1) (.ite (.cmp .ne (.var 3) (.idx (.var 1) (.neg (.con (.int 1))))) (.lst (.cons (.var 3) .nil)) (.lst .nil))))
    .nil)))
    (.cons (.ret (.var 1))
    .nil)))
/-- _law_whole(field): field, lot -/
def b67 : IS := (.cons (.ret (.comp (.var 1) (.call 62 (.cons (.idx (.var 0) (.con (.int 0))) .nil)) (.and (.call 65 (.cons (.var 0) (.cons (.var 1) .nil))) (.cmp .eq (.call 64 (.cons (.var 0) (.cons (.var 1) .nil))) (.var 1))) (.var 1)))
    .nil)
/-- _law_label(field, lot): field, lot, struck, p -/
def b68 : IS := (.cons (.asg (.var 2) (.call 63 (.cons (.var 0) (.cons (.var 1) .nil))))
    (.cons (.ret (.pr1 .tuple (.comp (.var 3) (.rng (.con (.int 0)) (.idx (.var 0) (.con (.int 0)))) (.con (.bl true)) (.ite (.cmp .isin (.var 3) (.var 1)) (.con (.str [105, 110])) (.ite (.cmp .isin (.var 3) (.var 2)) (.con (.str [111, 117, 116])) (.con (.str [111, 112, 101, 110])))))))
    .nil))
/-- _law_right(dice): dice, field, last, at, late, every, lot, label, rise, whole, point -/
def b69 : IS := (.cons (.asg (.var 1) (.call 60 (.cons (.var 0) (.cons (.call 59 (.cons (.var 0) (.cons (.lst (.cons (.con (.str [97, 110, 121])) (.cons (.con (.str [97, 110, 121])) (.cons (.con (.str [102, 114, 101, 101])) (.cons (.con (.str [99, 97, 109, 112, 115])) (.cons (.con (.str [114, 111, 117, 110, 100])) .nil)))))) .nil))) .nil))))
    (.cons (.asg (.tup (.cons (.var 8) (.cons (.var 9) .nil))) (.tup (.cons (.call 66 (.cons (.var 1) .nil)) (.cons (.call 67 (.cons (.var 1) .nil)) .nil))))
    (.cons (.asg (.var 2) (.idx (.var 8) (.neg (.con (.int 1)))))
    (.cons (.iff (.or (.cmp .ne (.callk 30 [0] (.cons (.var 1) .nil)) (.pr1 .tuple (.var 8))) (.cmp .ne (.call 29 (.cons (.var 1) .nil)) (.var 2))) (.cons (.ret (.con (.bl false)))
    .nil) .nil)
    (.cons (.iff (.or (.cmp .ne (.call 54 (.cons (.var 1) (.cons (.con (.str [119, 104, 111, 108, 101])) .nil))) (.pr1 .tuple (.var 9))) (.cmp .ne (.callk 54 [1, 0] (.cons (.con (.str [103, 114, 111, 117, 110, 100])) (.cons (.var 1) .nil))) (.tup (.cons (.var 2) .nil)))) (.cons (.ret (.con (.bl false)))
    .nil) .nil)
    (.cons (.iff (.or (.cmp .ne (.call 56 (.cons (.var 1) (.cons (.con (.str [119, 104, 111, 108, 101])) .nil))) (.var 2)) (.cmp .ne (.idx (.var 9) (.con (.int 0))) (.var 2))) (.cons (.ret (.con (.bl false)))
    .nil) .nil)
    (.cons (.iff (.not (.pr1 .all (.comp (.var 6) (.var 9) (.con (.bl true)) (.pr1 .all (.comp (.var 10) (.var 2) (.con (.bl true)) (.cmp .isin (.var 10) (.var 6))))))) (.cons (.ret (.con (.bl false)))
    .nil) .nil)
    (.cons (.asg (.var 3) (.call 58 (.cons (.var 0) (.cons (.pr1 .len (.var 8)) .nil))))
    (.cons (.asg (.var 4) (.call 50 (.cons (.var 1) (.cons (.idx (.var 8) (.var 3)) .nil))))
    (.cons (.iff (.or (.cmp .ne (.var 4) (.idx (.bin .add (.var 8) (.lst (.cons (.var 2) .nil))) (.bin .add (.var 3) (.con (.int 1))))) (.not (.pr1 .all (.comp (.var 10) (.idx (.var 8) (.var 3)) (.con (.bl true)) (.cmp .isin (.var 10) (.var 4)))))) (.cons (.ret (.con (.bl false)))
    .nil) .nil)
    (.cons (.iff (.cmp .ne (.callk 49 [1, 0] (.cons (.var 2) (.cons (.var 1) .nil))) (.call 63 (.cons (.var 1) (.cons (.var 2) .nil)))) (.cons (.ret (.con (.bl false)))
    .nil) .nil)
    (.cons (.asg (.var 5) (.call 62 (.cons (.idx (.var 1) (.con (.int 0))) .nil)))
    (.cons (.fors (.var 6) (.lst (.cons (.var 2) (.cons (.call 59 (.cons (.var 0) (.cons (.var 5) .nil))) (.cons (.call 59 (.cons (.var 0) (.cons (.var 9) .nil))) .nil)))) (.cons (.iff (.cmp .ne (.rpr (.lst (.cons (.call 55 (.cons (.var 1) (.cons (.con (.str [103, 114, 111, 117, 110, 100])) (.cons (.var 6) .nil)))) (.cons (.callk 51 [1, 0] (.cons (.var 6) (.cons (.var 1) .nil))) .nil)))) (.rpr (.lst (.cons (.cmp .eq (.var 6) (.var 2)) (.cons (.cmp .isin (.var 6) (.var 9)) .nil))))) (.cons (.ret (.con (.bl false)))
    .nil) .nil)
    .nil))
    (.cons (.asg (.var 7) (.callk 47 [1, 0] (.cons (.var 2) (.cons (.var 1) .nil))))
    (.cons (.ret (.and (.cmp .eq (.var 7) (.call 68 (.cons (.var 1) (.cons (.var 2) .nil)))) (.cmp .is (.call 46 (.cons (.var 1) (.cons (.var 7) .nil))) (.con (.bl true)))))
    .nil)))))))))))))))
/-- law(script): script, lap -/
def b70 : IS := (.cons (.fors (.var 1) (.rng (.con (.int 0)) (.con (.int 2))) (.cons (.iff (.not (.call 69 (.cons (.call 57 (.cons (.var 0) (.cons (.var 1) .nil))) .nil))) (.cons (.ret (.con (.bl false)))
    .nil) .nil)
    .nil))
    (.cons (.ret (.con (.bl true)))
    .nil))
def fus : List MP.Fun := [⟨1, 1, false, b0⟩, ⟨3, 3, false, b1⟩, ⟨1, 1, false, b2⟩, ⟨2, 2, false, b3⟩, ⟨3, 3, false, b4⟩, ⟨2, 2, false, b5⟩, ⟨1, 3, false, b6⟩, ⟨2, 2, false, b7⟩, ⟨2, 3, false, b8⟩, ⟨1, 1, false, b9⟩, ⟨2, 3, false, b10⟩, ⟨2, 2, false, b11⟩, ⟨2, 4, false, b12⟩, ⟨1, 2, false, b13⟩, ⟨1, 2, false, b14⟩, ⟨2, 2, false, b15⟩, ⟨1, 1, false, b16⟩, ⟨2, 2, false, b17⟩, ⟨1, 4, false, b18⟩, ⟨2, 6, false, b19⟩, ⟨1, 1, false, b20⟩, ⟨2, 2, false, b21⟩, ⟨2, 4, false, b22⟩, ⟨2, 2, false, b23⟩, ⟨2, 2, false, b24⟩, ⟨2, 2, false, b25⟩, ⟨1, 2, true, b26⟩, ⟨1, 2, false, b27⟩, ⟨1, 1, false, b28⟩, ⟨1, 1, false, b29⟩, ⟨1, 1, false, b30⟩, ⟨1, 2, false, b31⟩, ⟨1, 2, false, b32⟩, ⟨2, 4, false, b33⟩, ⟨1, 2, false, b34⟩, ⟨1, 3, false, b35⟩, ⟨2, 5, false, b36⟩, ⟨2, 2, false, b37⟩, ⟨2, 4, false, b38⟩, ⟨2, 5, false, b39⟩, ⟨3, 4, false, b40⟩, ⟨3, 4, false, b41⟩, ⟨2, 3, false, b42⟩, ⟨3, 6, false, b43⟩, ⟨2, 3, false, b44⟩, ⟨2, 2, false, b45⟩, ⟨2, 2, false, b46⟩, ⟨2, 2, false, b47⟩, ⟨2, 2, false, b48⟩, ⟨2, 2, false, b49⟩, ⟨2, 2, false, b50⟩, ⟨2, 2, false, b51⟩, ⟨1, 1, false, b52⟩, ⟨2, 2, false, b53⟩, ⟨2, 2, false, b54⟩, ⟨3, 3, false, b55⟩, ⟨2, 2, false, b56⟩, ⟨2, 5, false, b57⟩, ⟨2, 3, false, b58⟩, ⟨2, 2, false, b59⟩, ⟨2, 10, false, b60⟩, ⟨2, 4, false, b61⟩, ⟨1, 5, false, b62⟩, ⟨2, 4, false, b63⟩, ⟨2, 5, false, b64⟩, ⟨2, 3, false, b65⟩, ⟨1, 4, false, b66⟩, ⟨1, 2, false, b67⟩, ⟨2, 4, false, b68⟩, ⟨1, 11, false, b69⟩, ⟨1, 2, false, b70⟩]
def cls : List MP.Cls := [⟨19, true, [(8, 20), (5, 21), (7, 22), (6, 23), (10, 24), (9, 25)]⟩]
def P : MP.Prog := ⟨fun f => fus[f]?, fun c => cls[c]?, rprK⟩
theorem c0 (n : Nat) (a0 : PV) (st : Store) : callF P (n + 1) 0 [a0] st = (exec P (callF P n) b0 [some a0] st).bind fun fl st1 => match fl with
  | .nx _ => .ok .non st1
  | .rt v => .ok v st1 := rfl
theorem c1 (n : Nat) (a0 a1 a2 : PV) (st : Store) : callF P (n + 1) 1 [a0, a1, a2] st = (exec P (callF P n) b1 [some a0, some a1, some a2] st).bind fun fl st1 => match fl with
  | .nx _ => .ok .non st1
  | .rt v => .ok v st1 := rfl
theorem c2 (n : Nat) (a0 : PV) (st : Store) : callF P (n + 1) 2 [a0] st = (exec P (callF P n) b2 [some a0] st).bind fun fl st1 => match fl with
  | .nx _ => .ok .non st1
  | .rt v => .ok v st1 := rfl
theorem c3 (n : Nat) (a0 a1 : PV) (st : Store) : callF P (n + 1) 3 [a0, a1] st = (exec P (callF P n) b3 [some a0, some a1] st).bind fun fl st1 => match fl with
  | .nx _ => .ok .non st1
  | .rt v => .ok v st1 := rfl
theorem c4 (n : Nat) (a0 a1 a2 : PV) (st : Store) : callF P (n + 1) 4 [a0, a1, a2] st = (exec P (callF P n) b4 [some a0, some a1, some a2] st).bind fun fl st1 => match fl with
  | .nx _ => .ok .non st1
  | .rt v => .ok v st1 := rfl
theorem c5 (n : Nat) (a0 a1 : PV) (st : Store) : callF P (n + 1) 5 [a0, a1] st = (exec P (callF P n) b5 [some a0, some a1] st).bind fun fl st1 => match fl with
  | .nx _ => .ok .non st1
  | .rt v => .ok v st1 := rfl
theorem c6 (n : Nat) (a0 : PV) (st : Store) : callF P (n + 1) 6 [a0] st = (exec P (callF P n) b6 [some a0, none, none] st).bind fun fl st1 => match fl with
  | .nx _ => .ok .non st1
  | .rt v => .ok v st1 := rfl
theorem c7 (n : Nat) (a0 a1 : PV) (st : Store) : callF P (n + 1) 7 [a0, a1] st = (exec P (callF P n) b7 [some a0, some a1] st).bind fun fl st1 => match fl with
  | .nx _ => .ok .non st1
  | .rt v => .ok v st1 := rfl
theorem c8 (n : Nat) (a0 a1 : PV) (st : Store) : callF P (n + 1) 8 [a0, a1] st = (exec P (callF P n) b8 [some a0, some a1, none] st).bind fun fl st1 => match fl with
  | .nx _ => .ok .non st1
  | .rt v => .ok v st1 := rfl
theorem c9 (n : Nat) (a0 : PV) (st : Store) : callF P (n + 1) 9 [a0] st = (exec P (callF P n) b9 [some a0] st).bind fun fl st1 => match fl with
  | .nx _ => .ok .non st1
  | .rt v => .ok v st1 := rfl
theorem c10 (n : Nat) (a0 a1 : PV) (st : Store) : callF P (n + 1) 10 [a0, a1] st = (exec P (callF P n) b10 [some a0, some a1, none] st).bind fun fl st1 => match fl with
  | .nx _ => .ok .non st1
  | .rt v => .ok v st1 := rfl
theorem c11 (n : Nat) (a0 a1 : PV) (st : Store) : callF P (n + 1) 11 [a0, a1] st = (exec P (callF P n) b11 [some a0, some a1] st).bind fun fl st1 => match fl with
  | .nx _ => .ok .non st1
  | .rt v => .ok v st1 := rfl
theorem c12 (n : Nat) (a0 a1 : PV) (st : Store) : callF P (n + 1) 12 [a0, a1] st = (exec P (callF P n) b12 [some a0, some a1, none, none] st).bind fun fl st1 => match fl with
  | .nx _ => .ok .non st1
  | .rt v => .ok v st1 := rfl
theorem c13 (n : Nat) (a0 : PV) (st : Store) : callF P (n + 1) 13 [a0] st = (exec P (callF P n) b13 [some a0, none] st).bind fun fl st1 => match fl with
  | .nx _ => .ok .non st1
  | .rt v => .ok v st1 := rfl
theorem c14 (n : Nat) (a0 : PV) (st : Store) : callF P (n + 1) 14 [a0] st = (exec P (callF P n) b14 [some a0, none] st).bind fun fl st1 => match fl with
  | .nx _ => .ok .non st1
  | .rt v => .ok v st1 := rfl
theorem c15 (n : Nat) (a0 a1 : PV) (st : Store) : callF P (n + 1) 15 [a0, a1] st = (exec P (callF P n) b15 [some a0, some a1] st).bind fun fl st1 => match fl with
  | .nx _ => .ok .non st1
  | .rt v => .ok v st1 := rfl
theorem c16 (n : Nat) (a0 : PV) (st : Store) : callF P (n + 1) 16 [a0] st = (exec P (callF P n) b16 [some a0] st).bind fun fl st1 => match fl with
  | .nx _ => .ok .non st1
  | .rt v => .ok v st1 := rfl
theorem c17 (n : Nat) (a0 a1 : PV) (st : Store) : callF P (n + 1) 17 [a0, a1] st = (exec P (callF P n) b17 [some a0, some a1] st).bind fun fl st1 => match fl with
  | .nx _ => .ok .non st1
  | .rt v => .ok v st1 := rfl
theorem c18 (n : Nat) (a0 : PV) (st : Store) : callF P (n + 1) 18 [a0] st = (exec P (callF P n) b18 [some a0, none, none, none] st).bind fun fl st1 => match fl with
  | .nx _ => .ok .non st1
  | .rt v => .ok v st1 := rfl
theorem c19 (n : Nat) (a0 a1 : PV) (st : Store) : callF P (n + 1) 19 [a0, a1] st = (exec P (callF P n) b19 [some a0, some a1, none, none, none, none] st).bind fun fl st1 => match fl with
  | .nx _ => .ok .non st1
  | .rt v => .ok v st1 := rfl
theorem c20 (n : Nat) (a0 : PV) (st : Store) : callF P (n + 1) 20 [a0] st = (exec P (callF P n) b20 [some a0] st).bind fun fl st1 => match fl with
  | .nx _ => .ok .non st1
  | .rt v => .ok v st1 := rfl
theorem c21 (n : Nat) (a0 a1 : PV) (st : Store) : callF P (n + 1) 21 [a0, a1] st = (exec P (callF P n) b21 [some a0, some a1] st).bind fun fl st1 => match fl with
  | .nx _ => .ok .non st1
  | .rt v => .ok v st1 := rfl
theorem c22 (n : Nat) (a0 a1 : PV) (st : Store) : callF P (n + 1) 22 [a0, a1] st = (exec P (callF P n) b22 [some a0, some a1, none, none] st).bind fun fl st1 => match fl with
  | .nx _ => .ok .non st1
  | .rt v => .ok v st1 := rfl
theorem c23 (n : Nat) (a0 a1 : PV) (st : Store) : callF P (n + 1) 23 [a0, a1] st = (exec P (callF P n) b23 [some a0, some a1] st).bind fun fl st1 => match fl with
  | .nx _ => .ok .non st1
  | .rt v => .ok v st1 := rfl
theorem c24 (n : Nat) (a0 a1 : PV) (st : Store) : callF P (n + 1) 24 [a0, a1] st = (exec P (callF P n) b24 [some a0, some a1] st).bind fun fl st1 => match fl with
  | .nx _ => .ok .non st1
  | .rt v => .ok v st1 := rfl
theorem c25 (n : Nat) (a0 a1 : PV) (st : Store) : callF P (n + 1) 25 [a0, a1] st = (exec P (callF P n) b25 [some a0, some a1] st).bind fun fl st1 => match fl with
  | .nx _ => .ok .non st1
  | .rt v => .ok v st1 := rfl
theorem c26 (n : Nat) (a0 : PV) (st : Store) : callF P (n + 1) 26 [a0] st = (exec P (callF P n) b26 [some a0, none] st).bind fun fl st1 => match fl with
  | .nx _ => gcAt st .non st1
  | .rt v => gcAt st v st1 := rfl
theorem c27 (n : Nat) (a0 : PV) (st : Store) : callF P (n + 1) 27 [a0] st = (exec P (callF P n) b27 [some a0, none] st).bind fun fl st1 => match fl with
  | .nx _ => .ok .non st1
  | .rt v => .ok v st1 := rfl
theorem c28 (n : Nat) (a0 : PV) (st : Store) : callF P (n + 1) 28 [a0] st = (exec P (callF P n) b28 [some a0] st).bind fun fl st1 => match fl with
  | .nx _ => .ok .non st1
  | .rt v => .ok v st1 := rfl
theorem c29 (n : Nat) (a0 : PV) (st : Store) : callF P (n + 1) 29 [a0] st = (exec P (callF P n) b29 [some a0] st).bind fun fl st1 => match fl with
  | .nx _ => .ok .non st1
  | .rt v => .ok v st1 := rfl
theorem c30 (n : Nat) (a0 : PV) (st : Store) : callF P (n + 1) 30 [a0] st = (exec P (callF P n) b30 [some a0] st).bind fun fl st1 => match fl with
  | .nx _ => .ok .non st1
  | .rt v => .ok v st1 := rfl
theorem c31 (n : Nat) (a0 : PV) (st : Store) : callF P (n + 1) 31 [a0] st = (exec P (callF P n) b31 [some a0, none] st).bind fun fl st1 => match fl with
  | .nx _ => .ok .non st1
  | .rt v => .ok v st1 := rfl
theorem c32 (n : Nat) (a0 : PV) (st : Store) : callF P (n + 1) 32 [a0] st = (exec P (callF P n) b32 [some a0, none] st).bind fun fl st1 => match fl with
  | .nx _ => .ok .non st1
  | .rt v => .ok v st1 := rfl
theorem c33 (n : Nat) (a0 a1 : PV) (st : Store) : callF P (n + 1) 33 [a0, a1] st = (exec P (callF P n) b33 [some a0, some a1, none, none] st).bind fun fl st1 => match fl with
  | .nx _ => .ok .non st1
  | .rt v => .ok v st1 := rfl
theorem c34 (n : Nat) (a0 : PV) (st : Store) : callF P (n + 1) 34 [a0] st = (exec P (callF P n) b34 [some a0, none] st).bind fun fl st1 => match fl with
  | .nx _ => .ok .non st1
  | .rt v => .ok v st1 := rfl
theorem c35 (n : Nat) (a0 : PV) (st : Store) : callF P (n + 1) 35 [a0] st = (exec P (callF P n) b35 [some a0, none, none] st).bind fun fl st1 => match fl with
  | .nx _ => .ok .non st1
  | .rt v => .ok v st1 := rfl
theorem c36 (n : Nat) (a0 a1 : PV) (st : Store) : callF P (n + 1) 36 [a0, a1] st = (exec P (callF P n) b36 [some a0, some a1, none, none, none] st).bind fun fl st1 => match fl with
  | .nx _ => .ok .non st1
  | .rt v => .ok v st1 := rfl
theorem c37 (n : Nat) (a0 a1 : PV) (st : Store) : callF P (n + 1) 37 [a0, a1] st = (exec P (callF P n) b37 [some a0, some a1] st).bind fun fl st1 => match fl with
  | .nx _ => .ok .non st1
  | .rt v => .ok v st1 := rfl
theorem c38 (n : Nat) (a0 a1 : PV) (st : Store) : callF P (n + 1) 38 [a0, a1] st = (exec P (callF P n) b38 [some a0, some a1, none, none] st).bind fun fl st1 => match fl with
  | .nx _ => .ok .non st1
  | .rt v => .ok v st1 := rfl
theorem c39 (n : Nat) (a0 a1 : PV) (st : Store) : callF P (n + 1) 39 [a0, a1] st = (exec P (callF P n) b39 [some a0, some a1, none, none, none] st).bind fun fl st1 => match fl with
  | .nx _ => .ok .non st1
  | .rt v => .ok v st1 := rfl
theorem c40 (n : Nat) (a0 a1 a2 : PV) (st : Store) : callF P (n + 1) 40 [a0, a1, a2] st = (exec P (callF P n) b40 [some a0, some a1, some a2, none] st).bind fun fl st1 => match fl with
  | .nx _ => .ok .non st1
  | .rt v => .ok v st1 := rfl
theorem c41 (n : Nat) (a0 a1 a2 : PV) (st : Store) : callF P (n + 1) 41 [a0, a1, a2] st = (exec P (callF P n) b41 [some a0, some a1, some a2, none] st).bind fun fl st1 => match fl with
  | .nx _ => .ok .non st1
  | .rt v => .ok v st1 := rfl
theorem c42 (n : Nat) (a0 a1 : PV) (st : Store) : callF P (n + 1) 42 [a0, a1] st = (exec P (callF P n) b42 [some a0, some a1, none] st).bind fun fl st1 => match fl with
  | .nx _ => .ok .non st1
  | .rt v => .ok v st1 := rfl
theorem c43 (n : Nat) (a0 a1 a2 : PV) (st : Store) : callF P (n + 1) 43 [a0, a1, a2] st = (exec P (callF P n) b43 [some a0, some a1, some a2, none, none, none] st).bind fun fl st1 => match fl with
  | .nx _ => .ok .non st1
  | .rt v => .ok v st1 := rfl
theorem c44 (n : Nat) (a0 a1 : PV) (st : Store) : callF P (n + 1) 44 [a0, a1] st = (exec P (callF P n) b44 [some a0, some a1, none] st).bind fun fl st1 => match fl with
  | .nx _ => .ok .non st1
  | .rt v => .ok v st1 := rfl
theorem c45 (n : Nat) (a0 a1 : PV) (st : Store) : callF P (n + 1) 45 [a0, a1] st = (exec P (callF P n) b45 [some a0, some a1] st).bind fun fl st1 => match fl with
  | .nx _ => .ok .non st1
  | .rt v => .ok v st1 := rfl
theorem c46 (n : Nat) (a0 a1 : PV) (st : Store) : callF P (n + 1) 46 [a0, a1] st = (exec P (callF P n) b46 [some a0, some a1] st).bind fun fl st1 => match fl with
  | .nx _ => .ok .non st1
  | .rt v => .ok v st1 := rfl
theorem c47 (n : Nat) (a0 a1 : PV) (st : Store) : callF P (n + 1) 47 [a0, a1] st = (exec P (callF P n) b47 [some a0, some a1] st).bind fun fl st1 => match fl with
  | .nx _ => .ok .non st1
  | .rt v => .ok v st1 := rfl
theorem c48 (n : Nat) (a0 a1 : PV) (st : Store) : callF P (n + 1) 48 [a0, a1] st = (exec P (callF P n) b48 [some a0, some a1] st).bind fun fl st1 => match fl with
  | .nx _ => .ok .non st1
  | .rt v => .ok v st1 := rfl
theorem c49 (n : Nat) (a0 a1 : PV) (st : Store) : callF P (n + 1) 49 [a0, a1] st = (exec P (callF P n) b49 [some a0, some a1] st).bind fun fl st1 => match fl with
  | .nx _ => .ok .non st1
  | .rt v => .ok v st1 := rfl
theorem c50 (n : Nat) (a0 a1 : PV) (st : Store) : callF P (n + 1) 50 [a0, a1] st = (exec P (callF P n) b50 [some a0, some a1] st).bind fun fl st1 => match fl with
  | .nx _ => .ok .non st1
  | .rt v => .ok v st1 := rfl
theorem c51 (n : Nat) (a0 a1 : PV) (st : Store) : callF P (n + 1) 51 [a0, a1] st = (exec P (callF P n) b51 [some a0, some a1] st).bind fun fl st1 => match fl with
  | .nx _ => .ok .non st1
  | .rt v => .ok v st1 := rfl
theorem c52 (n : Nat) (a0 : PV) (st : Store) : callF P (n + 1) 52 [a0] st = (exec P (callF P n) b52 [some a0] st).bind fun fl st1 => match fl with
  | .nx _ => .ok .non st1
  | .rt v => .ok v st1 := rfl
theorem c53 (n : Nat) (a0 a1 : PV) (st : Store) : callF P (n + 1) 53 [a0, a1] st = (exec P (callF P n) b53 [some a0, some a1] st).bind fun fl st1 => match fl with
  | .nx _ => .ok .non st1
  | .rt v => .ok v st1 := rfl
theorem c54 (n : Nat) (a0 a1 : PV) (st : Store) : callF P (n + 1) 54 [a0, a1] st = (exec P (callF P n) b54 [some a0, some a1] st).bind fun fl st1 => match fl with
  | .nx _ => .ok .non st1
  | .rt v => .ok v st1 := rfl
theorem c55 (n : Nat) (a0 a1 a2 : PV) (st : Store) : callF P (n + 1) 55 [a0, a1, a2] st = (exec P (callF P n) b55 [some a0, some a1, some a2] st).bind fun fl st1 => match fl with
  | .nx _ => .ok .non st1
  | .rt v => .ok v st1 := rfl
theorem c56 (n : Nat) (a0 a1 : PV) (st : Store) : callF P (n + 1) 56 [a0, a1] st = (exec P (callF P n) b56 [some a0, some a1] st).bind fun fl st1 => match fl with
  | .nx _ => .ok .non st1
  | .rt v => .ok v st1 := rfl
theorem c57 (n : Nat) (a0 a1 : PV) (st : Store) : callF P (n + 1) 57 [a0, a1] st = (exec P (callF P n) b57 [some a0, some a1, none, none, none] st).bind fun fl st1 => match fl with
  | .nx _ => .ok .non st1
  | .rt v => .ok v st1 := rfl
theorem c58 (n : Nat) (a0 a1 : PV) (st : Store) : callF P (n + 1) 58 [a0, a1] st = (exec P (callF P n) b58 [some a0, some a1, none] st).bind fun fl st1 => match fl with
  | .nx _ => .ok .non st1
  | .rt v => .ok v st1 := rfl
theorem c59 (n : Nat) (a0 a1 : PV) (st : Store) : callF P (n + 1) 59 [a0, a1] st = (exec P (callF P n) b59 [some a0, some a1] st).bind fun fl st1 => match fl with
  | .nx _ => .ok .non st1
  | .rt v => .ok v st1 := rfl
theorem c60 (n : Nat) (a0 a1 : PV) (st : Store) : callF P (n + 1) 60 [a0, a1] st = (exec P (callF P n) b60 [some a0, some a1, none, none, none, none, none, none, none, none] st).bind fun fl st1 => match fl with
  | .nx _ => .ok .non st1
  | .rt v => .ok v st1 := rfl
theorem c61 (n : Nat) (a0 a1 : PV) (st : Store) : callF P (n + 1) 61 [a0, a1] st = (exec P (callF P n) b61 [some a0, some a1, none, none] st).bind fun fl st1 => match fl with
  | .nx _ => .ok .non st1
  | .rt v => .ok v st1 := rfl
theorem c62 (n : Nat) (a0 : PV) (st : Store) : callF P (n + 1) 62 [a0] st = (exec P (callF P n) b62 [some a0, none, none, none, none] st).bind fun fl st1 => match fl with
  | .nx _ => .ok .non st1
  | .rt v => .ok v st1 := rfl
theorem c63 (n : Nat) (a0 a1 : PV) (st : Store) : callF P (n + 1) 63 [a0, a1] st = (exec P (callF P n) b63 [some a0, some a1, none, none] st).bind fun fl st1 => match fl with
  | .nx _ => .ok .non st1
  | .rt v => .ok v st1 := rfl
theorem c64 (n : Nat) (a0 a1 : PV) (st : Store) : callF P (n + 1) 64 [a0, a1] st = (exec P (callF P n) b64 [some a0, some a1, none, none, none] st).bind fun fl st1 => match fl with
  | .nx _ => .ok .non st1
  | .rt v => .ok v st1 := rfl
theorem c65 (n : Nat) (a0 a1 : PV) (st : Store) : callF P (n + 1) 65 [a0, a1] st = (exec P (callF P n) b65 [some a0, some a1, none] st).bind fun fl st1 => match fl with
  | .nx _ => .ok .non st1
  | .rt v => .ok v st1 := rfl
theorem c66 (n : Nat) (a0 : PV) (st : Store) : callF P (n + 1) 66 [a0] st = (exec P (callF P n) b66 [some a0, none, none, none] st).bind fun fl st1 => match fl with
  | .nx _ => .ok .non st1
  | .rt v => .ok v st1 := rfl
theorem c67 (n : Nat) (a0 : PV) (st : Store) : callF P (n + 1) 67 [a0] st = (exec P (callF P n) b67 [some a0, none] st).bind fun fl st1 => match fl with
  | .nx _ => .ok .non st1
  | .rt v => .ok v st1 := rfl
theorem c68 (n : Nat) (a0 a1 : PV) (st : Store) : callF P (n + 1) 68 [a0, a1] st = (exec P (callF P n) b68 [some a0, some a1, none, none] st).bind fun fl st1 => match fl with
  | .nx _ => .ok .non st1
  | .rt v => .ok v st1 := rfl
theorem c69 (n : Nat) (a0 : PV) (st : Store) : callF P (n + 1) 69 [a0] st = (exec P (callF P n) b69 [some a0, none, none, none, none, none, none, none, none, none, none] st).bind fun fl st1 => match fl with
  | .nx _ => .ok .non st1
  | .rt v => .ok v st1 := rfl
theorem c70 (n : Nat) (a0 : PV) (st : Store) : callF P (n + 1) 70 [a0] st = (exec P (callF P n) b70 [some a0, none] st).bind fun fl st1 => match fl with
  | .nx _ => .ok .non st1
  | .rt v => .ok v st1 := rfl
end LP

namespace LP
/-! ### plain facts: masks, rising lists -/
def msk (l : List Nat) : Nat := (l.map fun p => 2 ^ p).sum
def un : List Nat → List Nat → List Nat
  | [], f => f
  | r :: rs, f => un rs (f ++ f.map (· ||| r))
def gd (l : List Nat) (i : Nat) : Nat := l.getD i 0
theorem msk_cons (p : Nat) (l : List Nat) : msk (p :: l) = 2 ^ p + msk l := rfl
theorem msk_asc : ∀ {l : List Nat} {c : Nat}, l.Pairwise (· < ·) → (∀ p ∈ l, c ≤ p) → (∃ t, msk l = 2 ^ c * t) ∧ ∀ q, (msk l).testBit q = decide (q ∈ l)
  | [], c, _, _ => ⟨⟨0, rfl⟩, fun q => by simp [msk]⟩
  | p :: l, c, h, hc => by
    obtain ⟨h1, h2⟩ := List.pairwise_cons.mp h
    obtain ⟨⟨t, ht⟩, hb⟩ := msk_asc (c := p + 1) h2 (fun q hq => h1 q hq)
    refine ⟨?_, fun q => ?_⟩
    · have hp : c ≤ p := hc p List.mem_cons_self
      obtain ⟨d, rfl⟩ := Nat.exists_eq_add_of_le hp
      refine ⟨2 ^ d * (1 + 2 * t), ?_⟩
      rw [msk_cons, ht, Nat.pow_succ, Nat.pow_add, Nat.mul_add, Nat.mul_add, Nat.mul_one]
      simp only [Nat.mul_assoc]
    · have hq := hb q
      rw [ht] at hq
      rw [msk_cons, ht, Nat.add_comm, Nat.testBit_two_pow_mul_add _ (Nat.pow_lt_pow_right (by decide) (Nat.lt_succ_self p))]
      rw [Nat.testBit_two_pow_mul] at hq
      by_cases hlt : q < p + 1
      · rw [if_pos hlt, Nat.testBit_two_pow]
        have hn : q ∉ l := fun hm => by have := h1 q hm; omega
        simp [List.mem_cons, hn, eq_comm]
      · rw [if_neg hlt]
        have h3 : decide (q ≥ p + 1) = true := decide_eq_true (by omega)
        rw [h3, Bool.true_and] at hq
        rw [hq]
        have : q ≠ p := by omega
        simp [List.mem_cons, this]
theorem msk_bit {l : List Nat} (h : l.Pairwise (· < ·)) (q : Nat) : (msk l).testBit q = decide (q ∈ l) := (msk_asc (c := 0) h fun _ _ => Nat.zero_le _).2 q
theorem lt_of_bits {x n : Nat} (h : ∀ i, x.testBit i = true → i < n) : x < 2 ^ n := by
  apply Nat.lt_pow_two_of_testBit
  intro i hi
  cases hx : x.testBit i
  · rfl
  · exact absurd (h i hx) (by omega)
theorem msk_lt {l : List Nat} {m : Nat} (h : l.Pairwise (· < ·)) (hm : ∀ p ∈ l, p < m) : msk l < 2 ^ m := lt_of_bits fun i hi => hm i (by rw [msk_bit h] at hi; exact of_decide_eq_true hi)
theorem gd_nil (i : Nat) : gd [] i = 0 := by simp [gd]
theorem gd_zero (r : Nat) (rs : List Nat) : gd (r :: rs) 0 = r := rfl
theorem gd_succ (r : Nat) (rs : List Nat) (i : Nat) : gd (r :: rs) (i + 1) = gd rs i := by simp [gd]
theorem gd_app1 {f g : List Nat} {i : Nat} (h : i < f.length) : gd (f ++ g) i = gd f i := by
  unfold gd; rw [List.getD_eq_getElem?_getD, List.getD_eq_getElem?_getD, List.getElem?_append_left h]
theorem gd_app2 {f g : List Nat} {i : Nat} (h : f.length ≤ i) : gd (f ++ g) i = gd g (i - f.length) := by
  unfold gd; rw [List.getD_eq_getElem?_getD, List.getD_eq_getElem?_getD, List.getElem?_append_right h]
theorem gd_map_or {f : List Nat} {r i : Nat} (h : i < f.length) : gd (f.map (· ||| r)) i = gd f i ||| r := by
  unfold gd; rw [List.getD_eq_getElem?_getD, List.getD_eq_getElem?_getD, List.getElem?_map, List.getElem?_eq_getElem h]; rfl
theorem un_spec : ∀ (rs f : List Nat) (k : Nat), f.length = 2 ^ k → (un rs f).length = 2 ^ (k + rs.length) ∧ ∀ b, b < 2 ^ (k + rs.length) → ∀ j, (gd (un rs f) b).testBit j = true ↔ (gd f (b % 2 ^ k)).testBit j = true ∨ ∃ i, b.testBit (k + i) = true ∧ (gd rs i).testBit j = true
  | [], f, k, h => ⟨h, fun b hb j => by
      rw [Nat.mod_eq_of_lt (show b < 2 ^ k from hb)]
      simp [un, gd_nil]⟩
  | r :: rs, f, k, h => by
    obtain ⟨h1, h2⟩ := un_spec rs (f ++ f.map (· ||| r)) (k + 1) (by rw [List.length_append, List.length_map, h, Nat.pow_succ]; omega)
    refine ⟨by rw [un, h1, List.length_cons]; congr 1; omega, fun b hb j => ?_⟩
    rw [un, h2 b (by rw [List.length_cons] at hb; rw [Nat.add_right_comm]; exact hb) j]
    have hs : (∃ i, b.testBit (k + i) = true ∧ (gd (r :: rs) i).testBit j = true) ↔ ((b.testBit k = true ∧ r.testBit j = true) ∨ ∃ i, b.testBit (k + 1 + i) = true ∧ (gd rs i).testBit j = true) := by
      constructor
      · rintro ⟨i, hi, hj⟩
        cases i with
        | zero => exact .inl ⟨hi, hj⟩
        | succ i => exact .inr ⟨i, by rw [Nat.add_right_comm]; exact hi, by rw [gd_succ] at hj; exact hj⟩
      · rintro (⟨hi, hj⟩ | ⟨i, hi, hj⟩)
        · exact ⟨0, hi, hj⟩
        · exact ⟨i + 1, by rw [Nat.add_right_comm] at hi; exact hi, by rw [gd_succ]; exact hj⟩
    rw [hs]
    have hm : b % 2 ^ (k + 1) = 2 ^ k * (b.testBit k).toNat + b % 2 ^ k := by
      rw [Nat.testBit_eq_decide_div_mod_eq, Nat.pow_succ, Nat.mod_mul]
      rcases Nat.mod_two_eq_zero_or_one (b / 2 ^ k) with e | e <;> rw [e] <;> simp <;> omega
    have hl : b % 2 ^ k < 2 ^ k := Nat.mod_lt _ (Nat.two_pow_pos k)
    rw [hm]
    cases hb : b.testBit k
    · simp only [Bool.toNat_false, Nat.mul_zero, Nat.zero_add]
      rw [gd_app1 (by omega)]
      simp
    · simp only [Bool.toNat_true, Nat.mul_one]
      rw [gd_app2 (by omega), show 2 ^ k + b % 2 ^ k - f.length = b % 2 ^ k by omega, gd_map_or (by omega), Nat.testBit_or]
      simp [or_assoc]
theorem un_len (rs : List Nat) : (un rs [0]).length = 2 ^ rs.length := by
  have := (un_spec rs [0] 0 rfl).1
  rwa [Nat.zero_add] at this
theorem un_bit {rs : List Nat} {b : Nat} (hb : b < 2 ^ rs.length) (j : Nat) : (gd (un rs [0]) b).testBit j = true ↔ ∃ i, b.testBit i = true ∧ (gd rs i).testBit j = true := by
  have := (un_spec rs [0] 0 rfl).2 b (by rw [Nat.zero_add]; exact hb) j
  rw [this]
  have : gd [0] (b % 2 ^ 0) = 0 := by simp [Nat.mod_one, gd]
  rw [this]
  simp
/-- rising lists with the same items -/
theorem asc_ext : ∀ {l k : List Nat}, l.Pairwise (· < ·) → k.Pairwise (· < ·) → (∀ x, x ∈ l ↔ x ∈ k) → l = k
  | [], [], _, _, _ => rfl
  | [], y :: k, _, _, h => absurd ((h y).mpr List.mem_cons_self) (by simp)
  | x :: l, [], _, _, h => absurd ((h x).mp List.mem_cons_self) (by simp)
  | x :: l, y :: k, h1, h2, h => by
    obtain ⟨a1, b1⟩ := List.pairwise_cons.mp h1
    obtain ⟨a2, b2⟩ := List.pairwise_cons.mp h2
    have e : x = y := by
      have hx := (h x).mp List.mem_cons_self
      have hy := (h y).mpr List.mem_cons_self
      rcases List.mem_cons.mp hx with e | hx
      · exact e
      · rcases List.mem_cons.mp hy with e | hy
        · exact e.symm
        · have := a2 x hx; have := a1 y hy; omega
    subst e
    rw [asc_ext b1 b2 fun z => ?_]
    have := h z
    simp only [List.mem_cons] at this
    constructor
    · intro hz
      rcases this.mp (.inr hz) with e | hz'
      · subst e; exact absurd (a1 _ hz) (by omega)
      · exact hz'
    · intro hz
      rcases this.mpr (.inr hz) with e | hz'
      · subst e; exact absurd (a2 _ hz) (by omega)
      · exact hz'
theorem asc_range (m : Nat) : (List.range m).Pairwise (· < ·) := List.pairwise_lt_range
theorem asc_filter {m : Nat} (f : Nat → Bool) : ((List.range m).filter f).Pairwise (· < ·) := (asc_range m).filter f
theorem eq_of_bits {x y : Nat} (h : ∀ i, x.testBit i = true ↔ y.testBit i = true) : x = y := Nat.eq_of_testBit_eq fun i => Bool.eq_iff_iff.mpr (h i)
theorem and_zero {x y : Nat} : x &&& y = 0 ↔ ∀ i, x.testBit i = true → y.testBit i = true → False := by
  constructor
  · intro h i hx hy
    have : (x &&& y).testBit i = true := by rw [Nat.testBit_and, hx, hy]; rfl
    rw [h] at this; simp at this
  · intro h
    apply eq_of_bits
    intro i
    rw [Nat.testBit_and]
    simp
    intro hx
    cases hy : y.testBit i
    · rfl
    · exact (h i hx hy).elim
theorem and_sub {x y : Nat} : x &&& y = x ↔ ∀ i, x.testBit i = true → y.testBit i = true := by
  constructor
  · intro h i hx
    rw [← h, Nat.testBit_and] at hx
    simp at hx; exact hx.2
  · intro h
    apply eq_of_bits
    intro i
    rw [Nat.testBit_and]
    simp
    exact h i
def pw (k : Nat) : Nat := 2 ^ k
def stB (l : List Nat) (e : Nat × Nat) : List Nat := l.set e.2 (gd l e.2 ||| pw e.1)
def stO (l : List Nat) (e : Nat × Nat) : List Nat := l.set e.1 (gd l e.1 ||| pw e.2)
theorem gd_set {l : List Nat} {a x j : Nat} (h : a < l.length) : gd (l.set a x) j = if j = a then x else gd l j := by
  unfold gd
  rw [List.getD_eq_getElem?_getD, List.getD_eq_getElem?_getD, List.getElem?_set]
  by_cases e : a = j
  · subst e; simp [h]
  · rw [if_neg e, if_neg (Ne.symm e)]
theorem bit_or_pow (x i q : Nat) : (x ||| pw i).testBit q = true ↔ x.testBit q = true ∨ q = i := by
  unfold pw
  rw [Nat.testBit_or, Nat.testBit_two_pow, Bool.or_eq_true, decide_eq_true_eq]
  exact or_congr Iff.rfl eq_comm
theorem stB_len (l : List Nat) (e : Nat × Nat) : (stB l e).length = l.length := by simp [stB]
theorem stO_len (l : List Nat) (e : Nat × Nat) : (stO l e).length = l.length := by simp [stO]
theorem foldB : ∀ (E : List (Nat × Nat)) (l : List Nat), (∀ e ∈ E, e.2 < l.length) → ∀ i j, (gd (E.foldl stB l) j).testBit i = true ↔ (gd l j).testBit i = true ∨ (i, j) ∈ E
  | [], l, _, i, j => by simp
  | e :: E, l, h, i, j => by
    rw [List.foldl_cons, foldB E (stB l e) (fun d hd => by rw [stB_len]; exact h d (List.mem_cons_of_mem _ hd))]
    unfold stB
    rw [gd_set (h e List.mem_cons_self)]
    by_cases hj : j = e.2
    · subst hj
      rw [if_pos rfl, bit_or_pow, List.mem_cons, or_assoc]
      have : i = e.1 ↔ (i, e.2) = e := ⟨fun h => by rw [h], fun h => by rw [← h]⟩
      rw [this]
    · rw [if_neg hj, List.mem_cons]
      have : ¬ (i, j) = e := fun h => hj (by rw [← h])
      simp [this]
theorem foldO : ∀ (E : List (Nat × Nat)) (l : List Nat), (∀ e ∈ E, e.1 < l.length) → ∀ i j, (gd (E.foldl stO l) i).testBit j = true ↔ (gd l i).testBit j = true ∨ (i, j) ∈ E
  | [], l, _, i, j => by simp
  | e :: E, l, h, i, j => by
    rw [List.foldl_cons, foldO E (stO l e) (fun d hd => by rw [stO_len]; exact h d (List.mem_cons_of_mem _ hd))]
    unfold stO
    rw [gd_set (h e List.mem_cons_self)]
    by_cases hj : i = e.1
    · subst hj
      rw [if_pos rfl, bit_or_pow, List.mem_cons, or_assoc]
      have : j = e.2 ↔ (e.1, j) = e := ⟨fun h => by rw [h], fun h => by rw [← h]⟩
      rw [this]
    · rw [if_neg hj, List.mem_cons]
      have : ¬ (i, j) = e := fun h => hj (by rw [← h])
      simp [this]
def byL (m : Nat) (E : List (Nat × Nat)) : List Nat := E.foldl stB (List.replicate m 0)
def ontoL (m : Nat) (E : List (Nat × Nat)) : List Nat := E.foldl stO (List.replicate m 0)
theorem gd_rep (m i : Nat) : gd (List.replicate m 0) i = 0 := by
  unfold gd
  rw [List.getD_eq_getElem?_getD, List.getElem?_replicate]
  split <;> rfl
theorem byL_bit {m : Nat} {E : List (Nat × Nat)} (h : ∀ e ∈ E, e.1 < m ∧ e.2 < m) (i j : Nat) : (gd (byL m E) j).testBit i = true ↔ (i, j) ∈ E := by
  unfold byL
  rw [foldB E _ (fun e he => by rw [List.length_replicate]; exact (h e he).2), gd_rep]
  simp
theorem ontoL_bit {m : Nat} {E : List (Nat × Nat)} (h : ∀ e ∈ E, e.1 < m ∧ e.2 < m) (i j : Nat) : (gd (ontoL m E) i).testBit j = true ↔ (i, j) ∈ E := by
  unfold ontoL
  rw [foldO E _ (fun e he => by rw [List.length_replicate]; exact (h e he).1), gd_rep]
  simp
theorem fold_len {f : List Nat → Nat × Nat → List Nat} (hf : ∀ l e, (f l e).length = l.length) : ∀ (E : List (Nat × Nat)) (l : List Nat), (E.foldl f l).length = l.length
  | [], _ => rfl
  | e :: E, l => by rw [List.foldl_cons, fold_len hf E, hf]
theorem byL_len (m : Nat) (E : List (Nat × Nat)) : (byL m E).length = m := by unfold byL; rw [fold_len stB_len, List.length_replicate]
theorem ontoL_len (m : Nat) (E : List (Nat × Nat)) : (ontoL m E).length = m := by unfold ontoL; rw [fold_len stO_len, List.length_replicate]
end LP
namespace LP
open MP
abbrev nI (i : Nat) : PV := .int i
def pvI (l : List Nat) : PV := .tup (l.map nI)
def pvP (e : Nat × Nat) : PV := .tup [nI e.1, nI e.2]
def pvF (m : Nat) (E : List (Nat × Nat)) : PV := .tup [nI m, .tup (E.map pvP)]
section
variable (n : Nat) (st : Store)
theorem is_whole_int (i : Int) : callF P (n + 1) 0 [.int i] st = .ok (.bl true) st := by
  rw [c0]
  simp [b0, tyOf, isiOne]
theorem between (i lo hi : Int) : callF P (n + 2) 1 [.int i, .int lo, .int hi] st = .ok (.bl (decide (lo ≤ i ∧ i ≤ hi))) st := by
  rw [c1]
  simp [b1, is_whole_int]
  by_cases h : lo ≤ i <;> simp [h]
theorem tuple_of (xs : List PV) (k : Int) : callF P (n + 1) 3 [.tup xs, .int k] st = .ok (.bl (decide ((xs.length : Int) = k))) st := by
  rw [c3]
  simp [b3, tyOf, isiOne, prim1]
theorem zip_tail (xs : List PV) : xs.zipWith (fun x y => PV.tup [x, y]) (cut xs (some 1) none) = (xs.zip xs.tail).map fun p => PV.tup [p.1, p.2] := by
  have e : cut xs (some 1) none = xs.tail := by
    cases xs with
    | nil => rfl
    | cons x xs => simp [cut, cutIx]
  rw [e, List.map_zip_eq_zipWith]
  rfl
theorem ascending (xs : List PV) (h : ∀ p ∈ xs.zip xs.tail, cmpop .lt p.1 p.2 = some true) (hd : ∀ p ∈ xs.zip xs.tail, der st p.1 = p.1 ∧ der st p.2 = p.2) : callF P (n + 1) 6 [.tup xs] st = .ok (.bl true) st := by
  rw [c6]
  simp [b6, partOf, slice1]
  rw [zip_tail, compL_map (φ := fun _ => PV.bl true) (by rfl)]
  · simp [prim1]
  · rintro ⟨x, y⟩ hp
    have h1 := h _ hp
    obtain ⟨h2, h3⟩ := hd _ hp
    simp only at h1 h2 h3
    simp [turnE, bindT, h1, h2, h3]
theorem int_asc {l : List Nat} (h : l.Pairwise (· < ·)) : ∀ p ∈ (l.map nI).zip (l.map nI).tail, cmpop .lt p.1 p.2 = some true ∧ der st p.1 = p.1 ∧ der st p.2 = p.2 := by
  induction l with
  | nil => intro p hp; simp at hp
  | cons x l ih =>
    obtain ⟨h1, h2⟩ := List.pairwise_cons.mp h
    cases l with
    | nil => intro p hp; simp at hp
    | cons y l =>
      intro p hp
      simp only [List.map_cons, List.tail_cons, List.zip_cons_cons, List.mem_cons] at hp
      rcases hp with rfl | hp
      · have := h1 y List.mem_cons_self
        exact ⟨by rw [cmp_lt_int]; congr 1; exact decide_eq_true (by omega), rfl, rfl⟩
      · exact ih h2 p (by simpa using hp)
def lexP (a b : Nat × Nat) : Prop := a.1 < b.1 ∨ (a.1 = b.1 ∧ a.2 < b.2)
theorem lt_pair {a b : Nat × Nat} (h : lexP a b) : cmpop .lt (pvP a) (pvP b) = some true := by
  unfold lexP at h
  simp only [pvP, nI, cmpop, ltOk, depthOk, PV.isD, PV.isDs, PV.depth0, PV.alike, PV.alikes, PV.beq, PV.lt, PV.lts, PV.eqv, List.all_cons, List.all_nil]
  simp
  rcases h with h | ⟨h1, h2⟩
  · rw [if_neg (by omega)]; simpa using h
  · rw [if_pos (by omega)]; exact ⟨by omega, h2⟩
theorem pair_asc {E : List (Nat × Nat)} (h : E.Pairwise lexP) : ∀ p ∈ (E.map pvP).zip (E.map pvP).tail, cmpop .lt p.1 p.2 = some true ∧ der st p.1 = p.1 ∧ der st p.2 = p.2 := by
  induction E with
  | nil => intro p hp; simp at hp
  | cons x l ih =>
    obtain ⟨h1, h2⟩ := List.pairwise_cons.mp h
    cases l with
    | nil => intro p hp; simp at hp
    | cons y l =>
      intro p hp
      simp only [List.map_cons, List.tail_cons, List.zip_cons_cons, List.mem_cons] at hp
      rcases hp with rfl | hp
      · exact ⟨lt_pair (h1 y List.mem_cons_self), rfl, rfl⟩
      · exact ih h2 p (by simpa using hp)
/-- a field -/
structure Fld (m : Nat) (E : List (Nat × Nat)) : Prop where
  lo : 2 ≤ m
  hi : m ≤ 5
  in_ : ∀ e ∈ E, e.1 < m ∧ e.2 < m
  asc : E.Pairwise lexP
structure Lot (m : Nat) (l : List Nat) : Prop where
  in_ : ∀ p ∈ l, p < m
  asc : l.Pairwise (· < ·)
theorem idx0 {x y : PV} : index1 (.tup [x, y]) (.int 0) = some x := rfl
theorem idx1 {x y : PV} : index1 (.tup [x, y]) (.int 1) = some y := rfl
theorem pair_of {m : Nat} {e : Nat × Nat} (h : e.1 < m ∧ e.2 < m) : callF P (n + 3) 7 [pvP e, nI m] st = .ok (.bl true) st := by
  rw [c7]
  simp [b7, pvP, tuple_of, idx0, idx1, binop, between]
  have h1 : (0 : Int) ≤ e.1 := by omega
  have h2 : (e.1 : Int) ≤ m - 1 := by omega
  have h3 : (0 : Int) ≤ e.2 := by omega
  have h4 : (e.2 : Int) ≤ m - 1 := by omega
  simp [h1, h2, h3, h4]
theorem pairs_of {m : Nat} {E : List (Nat × Nat)} (F : Fld m E) : callF P (n + 4) 8 [.tup (E.map pvP), nI m] st = .ok (.bl true) st := by
  rw [c8]
  have hc : ∀ env : Env, env = [some (.tup (E.map pvP)), some (nI m), none] → compL (turnE P (callF P (n + 3)) (.var 2) (.con (.bl true)) (.call 7 (.cons (.var 2) (.cons (.var 1) .nil))) env) (fun _ => true) (E.map pvP) st = .ok (E.map fun _ => PV.bl true) st := by
    rintro env rfl
    refine compL_map (by rfl) fun e he => ?_
    simp [turnE, bindT, pair_of n st (F.in_ e he)]
  have ha : callF P (n + 3) 6 [.tup (E.map pvP)] st = .ok (.bl true) st := ascending (n + 2) st _ (fun p hp => (pair_asc st F.asc p hp).1) (fun p hp => (pair_asc st F.asc p hp).2)
  have hc := hc _ rfl
  simp [b8, tyOf, isiOne, hc, prim1, ha]
theorem field_by {m : Nat} {E : List (Nat × Nat)} (F : Fld m E) : callF P (n + 5) 9 [pvF m E] st = .ok (.bl true) st := by
  rw [c9]
  have h1 : (1 : Int) ≤ m := by have := F.lo; omega
  have h2 : (m : Int) ≤ 8 := by have := F.hi; omega
  have hb : callF P (n + 4) 1 [nI m, .int 1, .int 8] st = .ok (.bl true) st := by rw [between (n + 2)]; simp [h1, h2]
  have ht : callF P (n + 4) 3 [.tup [nI m, .tup (E.map pvP)], .int 2] st = .ok (.bl true) st := by rw [tuple_of (n + 3)]; rfl
  simp [b9, pvF, ht, idx0, idx1, hb, pairs_of n st F]
theorem chk_field {m : Nat} {E : List (Nat × Nat)} (F : Fld m E) : callF P (n + 6) 16 [pvF m E] st = .ok .non st := by
  rw [c16]
  simp [b16, field_by n st F]
theorem numbers {m : Nat} {l : List Nat} (h : Lot m l) : callF P (n + 3) 10 [pvI l, .int (m - 1)] st = .ok (.bl true) st := by
  rw [c10]
  have hc : ∀ env : Env, env = [some (pvI l), some (.int (m - 1)), none] → compL (turnE P (callF P (n + 2)) (.var 2) (.con (.bl true)) (.call 1 (.cons (.var 2) (.cons (.con (.int 0)) (.cons (.var 1) .nil)))) env) (fun _ => true) (l.map nI) st = .ok (l.map fun _ => PV.bl true) st := by
    rintro env rfl
    refine compL_map (by rfl) fun p hp => ?_
    have h1 := h.in_ p hp
    have h2 : (0 : Int) ≤ p := by omega
    have h3 : (p : Int) ≤ m - 1 := by omega
    simp [turnE, bindT, between n st, h2, h3]
  have hc := hc _ rfl
  have ha : callF P (n + 2) 6 [pvI l] st = .ok (.bl true) st := ascending (n + 1) st _ (fun p hp => (int_asc st h.asc p hp).1) (fun p hp => (int_asc st h.asc p hp).2)
  unfold pvI at hc ha ⊢
  simp [b10, tyOf, isiOne, hc, prim1, ha]
theorem lot_by {m : Nat} {E : List (Nat × Nat)} {l : List Nat} (h : Lot m l) : callF P (n + 4) 11 [pvF m E, pvI l] st = .ok (.bl true) st := by
  rw [c11]
  simp [b11, pvF, idx0, binop, numbers n st h]
theorem chk_lot {m : Nat} {E : List (Nat × Nat)} {l : List Nat} (h : Lot m l) : callF P (n + 5) 17 [pvF m E, pvI l] st = .ok .non st := by
  rw [c17]
  simp [b17, lot_by n st h]
/-! ### bit masks -/
theorem bits_of {l : List Nat} (h : ∀ p ∈ l, p < 100) : callF P (n + 1) 13 [pvI l] st = .ok (nI (msk l)) st := by
  rw [c13]
  have hc : ∀ env : Env, env = [some (pvI l), none] → compL (turnE P (callF P n) (.var 1) (.con (.bl true)) (.bin .shl (.con (.int 1)) (.var 1)) env) (fun _ => true) (l.map nI) st = .ok (l.map fun p => PV.int ((2 ^ p : Nat) : Int)) st := by
    rintro env rfl
    refine compL_map (by rfl) fun p hp => ?_
    have := h p hp
    simp [turnE, bindT, bop_shl1 (b := p) (by omega)]
  have hc := hc _ rfl
  unfold pvI at hc ⊢
  simp [b13, hc, prim1]
  have : ∀ l : List Nat, (l.map fun p => (2 : Int) ^ p).sum = ((msk l : Nat) : Int) := by
    intro l
    induction l with
    | nil => rfl
    | cons p l ih => rw [List.map_cons, List.sum_cons, ih]; unfold msk; rw [List.map_cons, List.sum_cons]; push_cast; rfl
  exact this l
theorem points_in (b : Nat) : callF P (n + 1) 14 [nI b] st = .ok (pvI ((List.range 8).filter fun i => b.testBit i)) st := by
  rw [c14]
  have hc : ∀ env : Env, env = [some (nI b), none] → compL (turnE P (callF P n) (.var 1) (.cmp .eq (.bin .band (.bin .shr (.var 0) (.var 1)) (.con (.int 1))) (.con (.int 1))) (.var 1) env) (fun _ => true) ((List.range 8).map fun i => PV.int (i : Nat)) st = .ok (((List.range 8).filter fun i => b.testBit i).map nI) st := by
    rintro env rfl
    refine compL_filter (by rfl) fun i hi => ?_
    simp only [turnE, bindT, List.length_cons, List.length_nil, Nat.reduceAdd, Nat.reduceLT, if_true, List.set_cons_succ, List.set_cons_zero, ev_cmp, ev_bin, ev_var, ev_con, List.getElem?_cons_zero, List.getElem?_cons_succ, Res.bind_ok, der_int, bop_shr, Res.opt_some, bop_band1, cmp_eq_int, band_one]
    cases b.testBit i <;> rfl
  have hc := hc _ rfl
  have hr := rng0 (P := P) (cf := callF P n) (env := [some (nI b), none]) (st := st) (hi := .con (.int 8)) (k := 8) ev_con (by decide)
  unfold b14
  simp only [ex_cons, ex_ret, ev_pr1, ev_comp, hr, Res.bind_ok, walk_lst, Res.opt_some, hc, der_lst, prim1, pvI]
theorem within (a b : Nat) : callF P (n + 1) 15 [nI a, nI b] st = .ok (.bl (decide (a &&& b = a))) st := by
  rw [c15]
  unfold b15
  simp only [ex_cons, ex_ret, ev_cmp, ev_bin, ev_var, List.getElem?_cons_zero, List.getElem?_cons_succ, Res.bind_ok, der_int, bop_band, Res.opt_some, cmp_eq_int]
  congr 2
  by_cases h : a &&& b = a
  · rw [decide_eq_true h, decide_eq_true (by rw [h])]
  · have h2 : ¬ (((a &&& b : Nat) : Int) = (a : Int)) := fun z => h (by omega)
    rw [decide_eq_false h, decide_eq_false h2]
theorem unions_loop {rows : PV} {g : Store → Bool} (hg : g st = true) : ∀ (rs f : List Nat) (x y : Option PV), f.length * 2 ^ rs.length ≤ 1000 → ∃ x' y', forL (turnS P (callF P n) (.var 2) (.cons (.asg (.var 1) (.bin .add (.var 1) (.comp (.var 3) (.var 1) (.con (.bl true)) (.bin .bor (.var 3) (.var 2))))) .nil)) g (rs.map nI) [some rows, some (.lst (f.map nI)), x, y] st = .ok (.nx [some rows, some (.lst ((un rs f).map nI)), x', y']) st
  | [], f, x, y, _ => ⟨x, y, rfl⟩
  | r :: rs, f, x, y, h => by
    have hl : f.length + f.length ≤ lim := by
      have : 1 ≤ 2 ^ rs.length := Nat.one_le_two_pow
      rw [List.length_cons, Nat.pow_succ] at h
      have : f.length * 2 ≤ f.length * (2 ^ rs.length * 2) := Nat.mul_le_mul_left _ (by omega)
      unfold lim; omega
    have hc : ∀ env : Env, env = [some rows, some (.lst (f.map nI)), some (nI r), y] → compL (turnE P (callF P n) (.var 3) (.con (.bl true)) (.bin .bor (.var 3) (.var 2)) env) (fun _ => true) (f.map nI) st = .ok (f.map fun b => nI (b ||| r)) st := by
      rintro env rfl
      refine compL_map (by rfl) fun b hb => ?_
      simp [turnE, bindT]
    have hlen : (f ++ f.map (· ||| r)).length * 2 ^ rs.length ≤ 1000 := by
      rw [List.length_append, List.length_map]
      rw [List.length_cons, Nat.pow_succ] at h
      have : (f.length + f.length) * 2 ^ rs.length = f.length * (2 ^ rs.length * 2) := by rw [← Nat.two_mul, Nat.mul_comm 2, Nat.mul_assoc, Nat.mul_comm 2]
      omega
    obtain ⟨x', y', ih⟩ := unions_loop (rows := rows) hg rs (f ++ f.map (· ||| r)) (some (nI r)) y hlen
    refine ⟨x', y', ?_⟩
    rw [List.map_cons, forL]
    have hc := hc _ rfl
    have e1 : turnS P (callF P n) (.var 2) (.cons (.asg (.var 1) (.bin .add (.var 1) (.comp (.var 3) (.var 1) (.con (.bl true)) (.bin .bor (.var 3) (.var 2))))) .nil) (nI r) [some rows, some (.lst (f.map nI)), x, y] st = .ok (.nx [some rows, some (.lst ((f ++ f.map (· ||| r)).map nI)), some (nI r), y]) st := by
      simp [turnS, bindT, hc, binop, assign, hl]
    rw [e1, Res.bind_ok]
    simp only [hg, if_true]
    exact ih
theorem unions_ref {rs : List Nat} {k : Nat} (hk : st[k]? = some (.lst (rs.map nI))) (h : 2 ^ rs.length ≤ 1000) : callF P (n + 1) 18 [.ref k] st = .ok (.lst ((un rs [0]).map nI)) st := by
  rw [c18]
  obtain ⟨x', y', e⟩ := unions_loop n st (rows := .ref k) (g := fun st => decide (st[k]? = some (.lst (rs.map nI)))) (decide_eq_true hk) rs [0] none none (by simpa using h)
  have e : forL (turnS P (callF P n) (.var 2) (.cons (.asg (.var 1) (.bin .add (.var 1) (.comp (.var 3) (.var 1) (.con (.bl true)) (.bin .bor (.var 3) (.var 2))))) .nil)) (fun st => decide (st[k]? = some (.lst (rs.map nI)))) (rs.map nI) [some (.ref k), some (.lst [.int 0]), none, none] st = _ := e
  have hw : walk st (.ref k) = some (rs.map nI, fun st => decide (st[k]? = some (.lst (rs.map nI)))) := by unfold walk; simp only [hk]
  simp [b18, assign, hw, e]
theorem shl_pw {b : Nat} (h : b ≤ 1000000) : binop .shl (.int 1) (.int b) = some (nI (pw b)) := bop_shl1 h
theorem gd_eq {l : List Nat} {i : Nat} (h : i < l.length) : gd l i = l[i] := by unfold gd; rw [List.getD_eq_getElem?_getD, List.getElem?_eq_getElem h]; rfl
abbrev ibody : IS := (.cons (.asg (.idx (.var 2) (.var 5)) (.bin .bor (.idx (.var 2) (.var 5)) (.bin .shl (.con (.int 1)) (.var 4)))) (.cons (.asg (.idx (.var 3) (.var 4)) (.bin .bor (.idx (.var 3) (.var 4)) (.bin .shl (.con (.int 1)) (.var 5)))) .nil))
theorem init_turn {m : Nat} {o : MO} {by_ on : List Nat} {F : PV} {x y : Option PV} {e : Nat × Nat} (h1 : e.1 < 100 ∧ e.2 < 100) (hb : e.2 < by_.length) (ho : e.1 < on.length) :
    turnS P (callF P n) (.tup (.cons (.var 4) (.cons (.var 5) .nil))) ibody (pvP e) [some (.ref st.length), some F, some (.ref (st.length + 1)), some (.ref (st.length + 2)), x, y] (st ++ [o, .lst (by_.map nI), .lst (on.map nI)]) =
    .ok (.nx [some (.ref st.length), some F, some (.ref (st.length + 1)), some (.ref (st.length + 2)), some (nI e.1), some (nI e.2)]) (st ++ [o, .lst ((stB by_ e).map nI), .lst ((stO on e).map nI)]) := by
  have d1 : der (st ++ [o, .lst (by_.map nI), .lst (on.map nI)]) (.ref (st.length + 1)) = .lst (by_.map nI) := der_app rfl
  have s1 : setIdx (st ++ [o, .lst (by_.map nI), .lst (on.map nI)]) (.ref (st.length + 1)) (nI e.2) (nI (gd by_ e.2 ||| pw e.1)) = some (st ++ [o, .lst ((stB by_ e).map nI), .lst (on.map nI)]) := set_lst rfl hb
  have d2 : der (st ++ [o, .lst ((stB by_ e).map nI), .lst (on.map nI)]) (.ref (st.length + 2)) = .lst (on.map nI) := der_app rfl
  have s2 : setIdx (st ++ [o, .lst ((stB by_ e).map nI), .lst (on.map nI)]) (.ref (st.length + 2)) (nI e.1) (nI (gd on e.1 ||| pw e.2)) = some (st ++ [o, .lst ((stB by_ e).map nI), .lst ((stO on e).map nI)]) := set_lst rfl ho
  have i1 : index1 (.lst (by_.map nI)) (nI e.2) = some (nI (gd by_ e.2)) := by rw [gd_eq hb]; exact idx_lst hb
  have i2 : index1 (.lst (on.map nI)) (nI e.1) = some (nI (gd on e.1)) := by rw [gd_eq ho]; exact idx_lst ho
  unfold pvP
  simp [turnS, bindT, assign, d1, i1, s1, d2, i2, s2, shl_pw (b := e.1) (by omega), shl_pw (b := e.2) (by omega)]
theorem init_loop {m : Nat} {o : MO} {F : PV} : ∀ (E : List (Nat × Nat)) (by_ on : List Nat) (x y : Option PV), (∀ e ∈ E, e.1 < m ∧ e.2 < m) → m ≤ 8 → by_.length = m → on.length = m →
    ∃ x' y', forL (turnS P (callF P n) (.tup (.cons (.var 4) (.cons (.var 5) .nil))) ibody) (fun _ => true) (E.map pvP) [some (.ref st.length), some F, some (.ref (st.length + 1)), some (.ref (st.length + 2)), x, y] (st ++ [o, .lst (by_.map nI), .lst (on.map nI)]) =
      .ok (.nx [some (.ref st.length), some F, some (.ref (st.length + 1)), some (.ref (st.length + 2)), x', y']) (st ++ [o, .lst ((E.foldl stB by_).map nI), .lst ((E.foldl stO on).map nI)])
  | [], by_, on, x, y, _, _, _, _ => ⟨x, y, rfl⟩
  | e :: E, by_, on, x, y, h, hm, hb, ho => by
    have he := h e List.mem_cons_self
    obtain ⟨x', y', ih⟩ := init_loop (m := m) (o := o) (F := F) E (stB by_ e) (stO on e) (some (nI e.1)) (some (nI e.2)) (fun e h' => h e (List.mem_cons_of_mem _ h')) hm (by rw [stB_len, hb]) (by rw [stO_len, ho])
    refine ⟨x', y', ?_⟩
    rw [List.map_cons, forL, init_turn n st (m := m) ⟨by omega, by omega⟩ (by omega) (by omega), Res.bind_ok]
    exact ih
theorem mul_zero (m : Nat) (h : m ≤ 1000) : binop .mul (.lst [.int 0]) (nI m) = some (.lst ((List.replicate m 0).map nI)) := by
  simp only [binop]
  rw [if_pos ⟨by unfold i62; omega, by unfold i62; omega, by rw [Int.toNat_natCast]; unfold lim; simp; omega⟩, Int.toNat_natCast]
  congr 2
  induction m with
  | zero => rfl
  | succ m ih => rw [List.replicate_succ, List.flatten_cons, ih (by omega), List.replicate_succ, List.map_cons]; rfl
theorem pow_small {m : Nat} (h : m ≤ 5) : 2 ^ m ≤ 1000 := Nat.le_trans (Nat.pow_le_pow_right (by decide) h) (by decide)
abbrev lotsF : List Nat := [0, 1, 2, 3, 4]
def cl0 : MP.Cls := cls.getD 0 ⟨0, false, []⟩
theorem pcls0 : P.cls 0 = some cl0 := rfl
theorem fld_set {cf : Nat → List PV → Store → Res PV} {f : Nat} {v : PV} {ks : List Nat} {vs : List PV} {T : Store} {env : Env} (h0 : env[0]? = some (some (.ref st.length))) (hm : cl0.meths.lookup f = none) (hk : ks.length < 900) :
    assign P cf (.fld f (.var 0)) v env (st ++ .ins 0 ks vs :: T) = .ok env (st ++ .ins 0 (putK f v ks vs).1 (putK f v ks vs).2 :: T) := by
  have hc : clsOf (st ++ .ins 0 ks vs :: T) (.ref st.length) = some 0 := by simp only [clsOf, app_get0]; rfl
  have hs : setFld (st ++ .ins 0 ks vs :: T) f (.ref st.length) v = some (st ++ .ins 0 (putK f v ks vs).1 (putK f v ks vs).2 :: T) := by
    simp only [setFld, app_get0, List.getElem?_cons_zero, if_pos hk, app_set0, List.set_cons_zero]
  rw [assign, ev_var, h0]
  simp only [Res.bind_ok, hc, Option.bind_some, pcls0, hm, Option.isSome_none, Bool.false_eq_true, if_false, hs]
end
abbrev zeroE : IE := .nw (.bin .mul (.lst (.cons (.con (.int 0)) .nil)) (.idx (.var 1) (.con (.int 0))))
theorem zeros {cf : Nat → List PV → Store → Res PV} {m : Nat} {F : PV} {env : Env} {st : Store} (hF : env[1]? = some (some F)) (h0 : index1 (der st F) (.int 0) = some (nI m)) (hm : m ≤ 1000) : evalE P cf zeroE env st = .ok (.ref st.length) (st ++ [.lst ((List.replicate m 0).map nI)]) := by
  have e1 : evalE P cf (.lst (.cons (.con (.int 0)) .nil)) env st = .ok (.lst [.int 0]) st := by rw [ev_lst, es_cons, ev_con, Res.bind_ok, es_nil, Res.bind_ok, Res.bind_ok]
  have e2 : evalE P cf (.idx (.var 1) (.con (.int 0))) env st = .ok (nI m) st := by
    rw [ev_idx, ev_var, hF]
    simp only [Res.bind_ok, ev_con, h0, Res.opt_some]
  rw [ev_nw, ev_bin, e1, Res.bind_ok, e2, Res.bind_ok, der_lst, der_int, mul_zero m hm]
  rfl
theorem init2 {cf : Nat → List PV → Store → Res PV} {m : Nat} {s F : PV} {st : Store} {o : MO} (h0 : ∀ st, index1 (der st F) (.int 0) = some (nI m)) (hm : m ≤ 1000) :
    exec P cf (.asg (.tup (.cons (.var 2) (.cons (.var 3) .nil))) (.tup (.cons zeroE (.cons zeroE .nil)))) [some s, some F, none, none, none, none] (st ++ [o]) =
    .ok (.nx [some s, some F, some (.ref (st.length + 1)), some (.ref (st.length + 2)), none, none]) (st ++ [o, .lst ((List.replicate m 0).map nI), .lst ((List.replicate m 0).map nI)]) := by
  have a1 := zeros (cf := cf) (m := m) (F := F) (env := [some s, some F, none, none, none, none]) (st := st ++ [o]) rfl (h0 _) hm
  have a2 := zeros (cf := cf) (m := m) (F := F) (env := [some s, some F, none, none, none, none]) (st := (st ++ [o]) ++ [.lst ((List.replicate m 0).map nI)]) rfl (h0 _) hm
  rw [ex_asg, ev_tup, es_cons, a1, Res.bind_ok, es_cons, a2, Res.bind_ok, es_nil, Res.bind_ok, Res.bind_ok, Res.bind_ok, Res.bind_ok]
  rw [as_tup, as_cons, as_var, if_pos (by show 2 < 6; omega), Res.bind_ok, as_cons, as_var, if_pos (by show 3 < 6; omega), Res.bind_ok, as_nil, Res.bind_ok]
  have l1 : (st ++ [o]).length = st.length + 1 := by rw [List.length_append]; rfl
  have l2 : ((st ++ [o]) ++ [MO.lst ((List.replicate m 0).map nI)]).length = st.length + 2 := by rw [List.length_append, l1]; rfl
  rw [l1, l2, List.append_assoc, List.append_assoc]
  rfl
theorem ex_seq {P : Prog} {cf : Nat → List PV → Store → Res PV} {s r : IS} {env env1 : Env} {st st1 : Store} {R : Res Flow} (h : exec P cf s env st = .ok (.nx env1) st1) (h2 : exec P cf r env1 st1 = R) : exec P cf (.cons s r) env st = R := by
  rw [ex_cons, h]; exact h2
section
variable (n : Nat) (st : Store)
theorem init {m : Nat} {E : List (Nat × Nat)} (F : Fld m E) : callF P (n + 2) 19 [.ref st.length, pvF m E] (st ++ [.ins 0 [] []]) =
    .ok .non (st ++ [.ins 0 lotsF [nI m, .ref (st.length + 1), .ref (st.length + 2), .lst ((un (ontoL m E) [0]).map nI), .lst ((un (byL m E) [0]).map nI)], .lst ((byL m E).map nI), .lst ((ontoL m E).map nI)]) := by
  rw [c19]
  have hm := F.hi
  obtain ⟨x', y', e⟩ := init_loop (n + 1) st (m := m) (o := .ins 0 [0] [nI m]) (F := pvF m E) E (List.replicate m 0) (List.replicate m 0) none none F.in_ (by omega) List.length_replicate List.length_replicate
  have hz := mul_zero m (by omega)
  have i0 : ∀ st : Store, index1 (der st (pvF m E)) (.int 0) = some (nI m) := fun _ => rfl
  have i1 : ∀ st : Store, index1 (der st (pvF m E)) (.int 1) = some (.tup (E.map pvP)) := fun _ => rfl
  have f1 : assign P (callF P (n + 1)) (.fld 0 (.var 0)) (nI m) [some (.ref st.length), some (pvF m E), none, none, none, none] (st ++ [.ins 0 [] []]) = .ok [some (.ref st.length), some (pvF m E), none, none, none, none] (st ++ [.ins 0 [0] [nI m]]) := fld_set st rfl rfl (by decide)
  have f2 : assign P (callF P (n + 1)) (.fld 1 (.var 0)) (.ref (st.length + 1)) [some (.ref st.length), some (pvF m E), some (.ref (st.length + 1)), some (.ref (st.length + 2)), x', y'] (st ++ [.ins 0 [0] [nI m], .lst ((byL m E).map nI), .lst ((ontoL m E).map nI)]) = .ok [some (.ref st.length), some (pvF m E), some (.ref (st.length + 1)), some (.ref (st.length + 2)), x', y'] (st ++ [.ins 0 [0, 1] [nI m, .ref (st.length + 1)], .lst ((byL m E).map nI), .lst ((ontoL m E).map nI)]) := fld_set st rfl rfl (by simp)
  have f3 : assign P (callF P (n + 1)) (.fld 2 (.var 0)) (.ref (st.length + 2)) [some (.ref st.length), some (pvF m E), some (.ref (st.length + 1)), some (.ref (st.length + 2)), x', y'] (st ++ [.ins 0 [0, 1] [nI m, .ref (st.length + 1)], .lst ((byL m E).map nI), .lst ((ontoL m E).map nI)]) = .ok [some (.ref st.length), some (pvF m E), some (.ref (st.length + 1)), some (.ref (st.length + 2)), x', y'] (st ++ [.ins 0 [0, 1, 2] [nI m, .ref (st.length + 1), .ref (st.length + 2)], .lst ((byL m E).map nI), .lst ((ontoL m E).map nI)]) := fld_set st rfl rfl (by simp)
  have f4 : assign P (callF P (n + 1)) (.fld 3 (.var 0)) (.lst ((un (ontoL m E) [0]).map nI)) [some (.ref st.length), some (pvF m E), some (.ref (st.length + 1)), some (.ref (st.length + 2)), x', y'] (st ++ [.ins 0 [0, 1, 2] [nI m, .ref (st.length + 1), .ref (st.length + 2)], .lst ((byL m E).map nI), .lst ((ontoL m E).map nI)]) = .ok [some (.ref st.length), some (pvF m E), some (.ref (st.length + 1)), some (.ref (st.length + 2)), x', y'] (st ++ [.ins 0 [0, 1, 2, 3] [nI m, .ref (st.length + 1), .ref (st.length + 2), .lst ((un (ontoL m E) [0]).map nI)], .lst ((byL m E).map nI), .lst ((ontoL m E).map nI)]) := fld_set st rfl rfl (by simp)
  have f5 : assign P (callF P (n + 1)) (.fld 4 (.var 0)) (.lst ((un (byL m E) [0]).map nI)) [some (.ref st.length), some (pvF m E), some (.ref (st.length + 1)), some (.ref (st.length + 2)), x', y'] (st ++ [.ins 0 [0, 1, 2, 3] [nI m, .ref (st.length + 1), .ref (st.length + 2), .lst ((un (ontoL m E) [0]).map nI)], .lst ((byL m E).map nI), .lst ((ontoL m E).map nI)]) = .ok [some (.ref st.length), some (pvF m E), some (.ref (st.length + 1)), some (.ref (st.length + 2)), x', y'] (st ++ [.ins 0 [0, 1, 2, 3, 4] [nI m, .ref (st.length + 1), .ref (st.length + 2), .lst ((un (ontoL m E) [0]).map nI), .lst ((un (byL m E) [0]).map nI)], .lst ((byL m E).map nI), .lst ((ontoL m E).map nI)]) := fld_set st rfl rfl (by simp)
  have u1 := unions_ref n (st ++ [.ins 0 [0, 1, 2] [nI m, .ref (st.length + 1), .ref (st.length + 2)], .lst ((byL m E).map nI), .lst ((ontoL m E).map nI)]) (rs := ontoL m E) (k := st.length + 2) (by rw [app_get]; rfl) (by rw [ontoL_len]; exact pow_small hm)
  have u2 := unions_ref n (st ++ [.ins 0 [0, 1, 2] [nI m, .ref (st.length + 1), .ref (st.length + 2)], .lst ((byL m E).map nI), .lst ((ontoL m E).map nI)]) (rs := byL m E) (k := st.length + 1) (by rw [app_get]; rfl) (by rw [byL_len]; exact pow_small hm)
  have e' : forL (turnS P (callF P (n + 1)) (.tup (.cons (.var 4) (.cons (.var 5) .nil))) ibody) (fun _ => true) (E.map pvP) [some (.ref st.length), some (pvF m E), some (.ref (st.length + 1)), some (.ref (st.length + 2)), none, none] (st ++ [.ins 0 [0] [nI m], .lst ((List.replicate m 0).map nI), .lst ((List.replicate m 0).map nI)]) =
      .ok (.nx [some (.ref st.length), some (pvF m E), some (.ref (st.length + 1)), some (.ref (st.length + 2)), x', y']) (st ++ [.ins 0 [0] [nI m], .lst ((byL m E).map nI), .lst ((ontoL m E).map nI)]) := e
  have h1 : exec P (callF P (n + 1)) (.asg (.fld 0 (.var 0)) (.idx (.var 1) (.con (.int 0)))) [some (.ref st.length), some (pvF m E), none, none, none, none] (st ++ [.ins 0 [] []]) = .ok (.nx [some (.ref st.length), some (pvF m E), none, none, none, none]) (st ++ [.ins 0 [0] [nI m]]) := by
    simp only [ex_asg, ev_idx, ev_var, ev_con, List.getElem?_cons_zero, List.getElem?_cons_succ, Res.bind_ok, i0, Res.opt_some, f1]
  have h2 : exec P (callF P (n + 1)) (.asg (.tup (.cons (.var 2) (.cons (.var 3) .nil))) (.tup (.cons (.nw (.bin .mul (.lst (.cons (.con (.int 0)) .nil)) (.idx (.var 1) (.con (.int 0))))) (.cons (.nw (.bin .mul (.lst (.cons (.con (.int 0)) .nil)) (.idx (.var 1) (.con (.int 0))))) .nil)))) [some (.ref st.length), some (pvF m E), none, none, none, none] (st ++ [.ins 0 [0] [nI m]]) = .ok (.nx [some (.ref st.length), some (pvF m E), some (.ref (st.length + 1)), some (.ref (st.length + 2)), none, none]) (st ++ [.ins 0 [0] [nI m], .lst ((List.replicate m 0).map nI), .lst ((List.replicate m 0).map nI)]) := init2 i0 (by omega)
  have h3 : exec P (callF P (n + 1)) (.fors (.tup (.cons (.var 4) (.cons (.var 5) .nil))) (.idx (.var 1) (.con (.int 1))) ibody) [some (.ref st.length), some (pvF m E), some (.ref (st.length + 1)), some (.ref (st.length + 2)), none, none] (st ++ [.ins 0 [0] [nI m], .lst ((List.replicate m 0).map nI), .lst ((List.replicate m 0).map nI)]) = .ok (.nx [some (.ref st.length), some (pvF m E), some (.ref (st.length + 1)), some (.ref (st.length + 2)), x', y']) (st ++ [.ins 0 [0] [nI m], .lst ((byL m E).map nI), .lst ((ontoL m E).map nI)]) := by
    simp only [ex_fors, ev_idx, ev_var, ev_con, List.getElem?_cons_zero, List.getElem?_cons_succ, Res.bind_ok, Res.opt_some, i1, walk_tup, e']
  have h4 : exec P (callF P (n + 1)) (.asg (.tup (.cons (.fld 1 (.var 0)) (.cons (.fld 2 (.var 0)) .nil))) (.tup (.cons (.var 2) (.cons (.var 3) .nil)))) [some (.ref st.length), some (pvF m E), some (.ref (st.length + 1)), some (.ref (st.length + 2)), x', y'] (st ++ [.ins 0 [0] [nI m], .lst ((byL m E).map nI), .lst ((ontoL m E).map nI)]) = .ok (.nx [some (.ref st.length), some (pvF m E), some (.ref (st.length + 1)), some (.ref (st.length + 2)), x', y']) (st ++ [.ins 0 [0, 1, 2] [nI m, .ref (st.length + 1), .ref (st.length + 2)], .lst ((byL m E).map nI), .lst ((ontoL m E).map nI)]) := by
    simp only [ex_asg, ev_var, ev_tup, es_cons, es_nil, List.getElem?_cons_zero, List.getElem?_cons_succ, Res.bind_ok, as_tup, as_cons, as_nil, f2, f3]
  have h5 : exec P (callF P (n + 1)) (.asg (.tup (.cons (.fld 3 (.var 0)) (.cons (.fld 4 (.var 0)) .nil))) (.tup (.cons (.call 18 (.cons (.var 3) .nil)) (.cons (.call 18 (.cons (.var 2) .nil)) .nil)))) [some (.ref st.length), some (pvF m E), some (.ref (st.length + 1)), some (.ref (st.length + 2)), x', y'] (st ++ [.ins 0 [0, 1, 2] [nI m, .ref (st.length + 1), .ref (st.length + 2)], .lst ((byL m E).map nI), .lst ((ontoL m E).map nI)]) = .ok (.nx [some (.ref st.length), some (pvF m E), some (.ref (st.length + 1)), some (.ref (st.length + 2)), x', y']) (st ++ [.ins 0 [0, 1, 2, 3, 4] [nI m, .ref (st.length + 1), .ref (st.length + 2), .lst ((un (ontoL m E) [0]).map nI), .lst ((un (byL m E) [0]).map nI)], .lst ((byL m E).map nI), .lst ((ontoL m E).map nI)]) := by
    simp only [ex_asg, ev_var, ev_tup, ev_call, es_cons, es_nil, List.getElem?_cons_zero, List.getElem?_cons_succ, Res.bind_ok, as_tup, as_cons, as_nil, u1, u2, f4, f5]
  have hb := ex_seq h1 (ex_seq h2 (ex_seq h3 (ex_seq h4 (ex_seq h5 ex_nil))))
  have hb' : exec P (callF P (n + 1)) b19 _ _ = _ := hb
  rw [hb', Res.bind_ok]
end
end LP
namespace LP
open MP
theorem thaws_ints (st : Store) (k : Nat) : ∀ (l : List Nat) (d : Nat), l.length ≤ d → thaws st k d (l.map nI) = some (l.map nI)
  | [], d, _ => by cases d <;> rfl
  | p :: l, 0, h => by simp at h
  | p :: l, d + 1, h => by
    rw [List.map_cons, thaws, thaws_ints st k l d (by simpa using h)]
    simp [thaw]
def obj (m : Nat) (E : List (Nat × Nat)) : PV := .obj 0 lotsF [nI m, .lst ((byL m E).map nI), .lst ((ontoL m E).map nI), .lst ((un (ontoL m E) [0]).map nI), .lst ((un (byL m E) [0]).map nI)]
theorem thaw_lst (st : Store) (k d : Nat) (l : List Nat) (h : l.length ≤ d) : thaw st k (d + 1) (.lst (l.map nI)) = some (.lst (l.map nI)) := by
  rw [thaw, thaws_ints st k l d h]; rfl
theorem thaw_ref (st : Store) (k d n : Nat) (l : List Nat) (hn : k ≤ n) (hs : st[n]? = some (.lst (l.map nI))) (h : l.length ≤ d) : thaw st k (d + 1) (.ref n) = some (.lst (l.map nI)) := by
  rw [thaw, if_neg (by omega), hs]
  simp only []
  rw [thaws_ints st k l d h]; rfl
theorem thaw_obj (st : Store) {m : Nat} {E : List (Nat × Nat)} (hm : m ≤ 5) (d : Nat) : thaw (st ++ [.ins 0 lotsF [nI m, .ref (st.length + 1), .ref (st.length + 2), .lst ((un (ontoL m E) [0]).map nI), .lst ((un (byL m E) [0]).map nI)], .lst ((byL m E).map nI), .lst ((ontoL m E).map nI)]) st.length (d + 1000) (.ref st.length) = some (obj m E) := by
  have l1 := un_len (ontoL m E)
  have l2 := un_len (byL m E)
  rw [ontoL_len] at l1
  rw [byL_len] at l2
  have l3 := byL_len m E
  have l4 := ontoL_len m E
  have hp : 2 ^ m ≤ 2 ^ 5 := Nat.pow_le_pow_right (by decide) hm
  rw [show (2 : Nat) ^ 5 = 32 from rfl] at hp
  generalize hS : st ++ [.ins 0 lotsF [nI m, .ref (st.length + 1), .ref (st.length + 2), .lst ((un (ontoL m E) [0]).map nI), .lst ((un (byL m E) [0]).map nI)], .lst ((byL m E).map nI), .lst ((ontoL m E).map nI)] = S
  have s0 : S[st.length]? = some (.ins 0 lotsF [nI m, .ref (st.length + 1), .ref (st.length + 2), .lst ((un (ontoL m E) [0]).map nI), .lst ((un (byL m E) [0]).map nI)]) := by rw [← hS, app_get0]; rfl
  have s1 : S[st.length + 1]? = some (.lst ((byL m E).map nI)) := by rw [← hS, app_get]; rfl
  have s2 : S[st.length + 2]? = some (.lst ((ontoL m E).map nI)) := by rw [← hS, app_get]; rfl
  rw [thaw, if_neg (by omega), s0]
  simp only []
  rw [thaws, thaws, thaws, thaws, thaws, thaws]
  rw [thaw_ref S _ _ _ _ (by omega) s1 (by omega), thaw_ref S _ _ _ _ (by omega) s2 (by omega), thaw_lst S _ _ _ (by omega), thaw_lst S _ _ _ (by omega), thaw]
  rfl
section
variable (n : Nat) (st : Store)
theorem make_obj {m : Nat} {E : List (Nat × Nat)} (F : Fld m E) {env : Env} (h0 : env[0]? = some (some (pvF m E))) : evalE P (callF P (n + 2)) (.make 0 (.cons (.var 0) .nil)) env st = .ok (obj m E) st := by
  have e3 := init n st F
  have e4 := thaw_obj st (E := E) F.hi 999000
  rw [ev_make, es_cons, ev_var, h0]
  simp only [Res.bind_ok, es_nil, pcls0]
  have hi : cl0.init = 19 := rfl
  have hf : cl0.frz = true := rfl
  rw [hi, e3]
  simp only [Res.bind_ok, if_true, hf, gcAt]
  rw [List.take_left' rfl, if_pos rfl]
  simp only [e4]
theorem beside {m : Nat} {E : List (Nat × Nat)} (F : Fld m E) {l : List Nat} (h : Lot m l) : callF P (n + 7) 48 [pvF m E, pvI l] st = .ok (obj m E) st := by
  rw [c48]
  have e1 := chk_field n st F
  have e2 := chk_lot (n + 1) st (E := E) h
  have e5 := make_obj (n + 4) st F (env := [some (pvF m E), some (pvI l)]) rfl
  unfold b48
  simp only [ex_cons, ex_exp, ex_ret, ev_call, es_cons, es_nil, ev_var, List.getElem?_cons_zero, List.getElem?_cons_succ, Res.bind_ok, e1, e2, e5]
end
end LP
namespace LP
open MP
def sk (m : Nat) (E : List (Nat × Nat)) (b : Nat) : Nat := gd (un (ontoL m E) [0]) b
def nd (m : Nat) (E : List (Nat × Nat)) (b : Nat) : Nat := gd (un (byL m E) [0]) b
section
variable {cf : Nat → List PV → Store → Res PV} {env : Env} {st st1 : Store} {o e : IE} {m : Nat} {E : List (Nat × Nat)}
theorem f0 (h : evalE P cf o env st = .ok (obj m E) st1) : evalE P cf (.fld 0 o) env st = .ok (nI m) st1 := by rw [ev_fld, h]; rfl
theorem f1 (h : evalE P cf o env st = .ok (obj m E) st1) : evalE P cf (.fld 1 o) env st = .ok (.lst ((byL m E).map nI)) st1 := by rw [ev_fld, h]; rfl
theorem f3 (h : evalE P cf o env st = .ok (obj m E) st1) : evalE P cf (.fld 3 o) env st = .ok (.lst ((un (ontoL m E) [0]).map nI)) st1 := by rw [ev_fld, h]; rfl
theorem f4 (h : evalE P cf o env st = .ok (obj m E) st1) : evalE P cf (.fld 4 o) env st = .ok (.lst ((un (byL m E) [0]).map nI)) st1 := by rw [ev_fld, h]; rfl
theorem gidx {l : List Nat} {b : Nat} (h : b < l.length) : index1 (.lst (l.map nI)) (nI b) = some (nI (gd l b)) := by
  rw [gd_eq h]; exact idx_lst h
theorem i3 {b : Nat} (hb : b < 2 ^ m) (h : evalE P cf o env st = .ok (obj m E) st1) (he : evalE P cf e env st1 = .ok (nI b) st1) : evalE P cf (.idx (.fld 3 o) e) env st = .ok (nI (sk m E b)) st1 := by
  rw [ev_idx, f3 h]
  simp only [Res.bind_ok, he, der_lst]
  rw [gidx (by rw [un_len, ontoL_len]; exact hb)]; rfl
theorem i4 {b : Nat} (hb : b < 2 ^ m) (h : evalE P cf o env st = .ok (obj m E) st1) (he : evalE P cf e env st1 = .ok (nI b) st1) : evalE P cf (.idx (.fld 4 o) e) env st = .ok (nI (nd m E b)) st1 := by
  rw [ev_idx, f4 h]
  simp only [Res.bind_ok, he, der_lst]
  rw [gidx (by rw [un_len, byL_len]; exact hb)]; rfl
theorem i1 {b : Nat} (hb : b < m) (h : evalE P cf o env st = .ok (obj m E) st1) (he : evalE P cf e env st1 = .ok (nI b) st1) : evalE P cf (.idx (.fld 1 o) e) env st = .ok (nI (gd (byL m E) b)) st1 := by
  rw [ev_idx, f1 h]
  simp only [Res.bind_ok, he, der_lst]
  rw [gidx (by rw [byL_len]; exact hb)]; rfl
end
section
variable (n : Nat) (st : Store) {m : Nat} {E : List (Nat × Nat)}
theorem cast_eq0 {a : Nat} : decide (((a : Nat) : Int) = 0) = decide (a = 0) := by
  by_cases h : a = 0
  · subst h; rfl
  · rw [decide_eq_false h, decide_eq_false (by omega)]
theorem cast_eqN {a b : Nat} : decide (((a : Nat) : Int) = (b : Int)) = decide (a = b) := by
  by_cases h : a = b
  · subst h; simp
  · rw [decide_eq_false h, decide_eq_false (by omega)]
theorem m_quiet {b : Nat} (hb : b < 2 ^ m) : callF P (n + 1) 21 [obj m E, nI b] st = .ok (.bl (decide (sk m E b &&& b = 0))) st := by
  rw [c21]
  have e1 := i3 (cf := callF P n) (env := [some (obj m E), some (nI b)]) (st := st) (st1 := st) (o := .var 0) (e := .var 1) (E := E) hb (by simp) (by simp)
  unfold b21
  rw [ex_cons, ex_ret, ev_cmp, ev_bin, e1]
  simp only [Res.bind_ok, ev_var, ev_con, List.getElem?_cons_zero, List.getElem?_cons_succ, der_int, bop_band, Res.opt_some, cmp_eq_int, cast_eq0]
def dfd (m : Nat) (E : List (Nat × Nat)) (b : Nat) : List Nat := (List.range m).filter fun p => decide (gd (byL m E) p &&& sk m E b = gd (byL m E) p)
theorem sum_pows : ∀ l : List Nat, (l.map fun p => (2 : Int) ^ p).sum = ((msk l : Nat) : Int) := by
  intro l
  induction l with
  | nil => rfl
  | cons p l ih => rw [List.map_cons, List.sum_cons, ih]; unfold msk; rw [List.map_cons, List.sum_cons]; push_cast; rfl
theorem m_defended {b : Nat} (hm : m ≤ 5) (hb : b < 2 ^ m) : callF P (n + 2) 22 [obj m E, nI b] st = .ok (nI (msk (dfd m E b))) st := by
  rw [c22]
  have e1 := i3 (cf := callF P (n + 1)) (env := [some (obj m E), some (nI b), none, none]) (st := st) (st1 := st) (o := .var 0) (e := .var 1) (E := E) hb (by simp) (by simp)
  have hc : ∀ env : Env, env = [some (obj m E), some (nI b), some (nI (sk m E b)), none] → compL (turnE P (callF P (n + 1)) (.var 3) (.call 15 (.cons (.idx (.fld 1 (.var 0)) (.var 3)) (.cons (.var 2) .nil))) (.bin .shl (.con (.int 1)) (.var 3)) env) (fun _ => true) ((List.range m).map fun i => PV.int (i : Nat)) st = .ok (((List.range m).filter fun p => decide (gd (byL m E) p &&& sk m E b = gd (byL m E) p)).map fun p => PV.int ((2 ^ p : Nat) : Int)) st := by
    rintro env rfl
    refine compL_filter (by rfl) fun i hi => ?_
    have hi : i < m := List.mem_range.mp hi
    have e2 := i1 (cf := callF P (n + 1)) (env := [some (obj m E), some (nI b), some (nI (sk m E b)), some (nI i)]) (st := st) (st1 := st) (o := .var 0) (e := .var 3) (E := E) hi (by simp) (by simp)
    simp only [turnE, bindT, List.length_cons, List.length_nil, Nat.reduceAdd, Nat.reduceLT, if_true, List.set_cons_succ, List.set_cons_zero, ev_call, es_cons, es_nil, e2, Res.bind_ok, ev_var, List.getElem?_cons_zero, List.getElem?_cons_succ, within n st]
    cases decide (gd (byL m E) i &&& sk m E b = gd (byL m E) i)
    · rfl
    · simp [bop_shl1 (b := i) (by omega)]
  have hr := rng0 (P := P) (cf := callF P (n + 1)) (env := [some (obj m E), some (nI b), some (nI (sk m E b)), none]) (st := st) (hi := .fld 0 (.var 0)) (st' := st) (k := m) (f0 (E := E) (by simp)) (by omega)
  have hc := hc _ rfl
  have h1 : exec P (callF P (n + 1)) (.asg (.var 2) (.idx (.fld 3 (.var 0)) (.var 1))) [some (obj m E), some (nI b), none, none] st = .ok (.nx [some (obj m E), some (nI b), some (nI (sk m E b)), none]) st := by
    rw [ex_asg, e1, Res.bind_ok, as_var]; rfl
  have h2 : evalE P (callF P (n + 1)) (.pr1 .sum (.comp (.var 3) (.rng (.con (.int 0)) (.fld 0 (.var 0))) (.call 15 (.cons (.idx (.fld 1 (.var 0)) (.var 3)) (.cons (.var 2) .nil))) (.bin .shl (.con (.int 1)) (.var 3)))) [some (obj m E), some (nI b), some (nI (sk m E b)), none] st = .ok (nI (msk (dfd m E b))) st := by
    rw [ev_pr1, ev_comp, hr]
    simp only [Res.bind_ok, walk_lst, Res.opt_some, hc, der_lst, prim1]
    rw [allInts_fn]
    simp only [Option.map_some, Res.opt_some, dfd]
    push_cast
    exact congrArg (fun x => Res.ok (PV.int x) st) (sum_pows _)
  have h3 : exec P (callF P (n + 1)) b22 [some (obj m E), some (nI b), none, none] st = .ok (.rt (nI (msk (dfd m E b)))) st := ex_seq h1 (by rw [ex_cons, ex_ret, h2]; rfl)
  rw [h3]; rfl
theorem meth_obj {k : Nat} {v : Nat} (h : cl0.meths.lookup k = some v) (hk : k ∉ lotsF) : methOf P st k (obj m E) = some v := by
  unfold methOf
  simp only [obj, insOf, Option.bind_some, if_neg hk, pcls0, h]
theorem m_held {b : Nat} (hb : b < 2 ^ m) : callF P (n + 2) 23 [obj m E, nI b] st = .ok (.bl (decide (sk m E b &&& b = 0) && decide (nd m E b &&& sk m E b = nd m E b))) st := by
  rw [c23]
  have q := m_quiet n st (E := E) hb
  have e3 := i3 (cf := callF P (n + 1)) (env := [some (obj m E), some (nI b)]) (st := st) (st1 := st) (o := .var 0) (e := .var 1) (E := E) hb (by simp) (by simp)
  have e4 := i4 (cf := callF P (n + 1)) (env := [some (obj m E), some (nI b)]) (st := st) (st1 := st) (o := .var 0) (e := .var 1) (E := E) hb (by simp) (by simp)
  unfold b23
  rw [ex_cons, ex_ret, ev_and, ev_meth, ev_var]
  simp only [List.getElem?_cons_zero, List.getElem?_cons_succ, Res.bind_ok, meth_obj st (k := 5) (v := 21) rfl (by decide), es_cons, es_nil, ev_var, q]
  cases decide (sk m E b &&& b = 0)
  · rfl
  · simp only [ev_call, es_cons, es_nil, e3, e4, Res.bind_ok, within n st, Bool.true_and]
theorem m_whole {b : Nat} (hm : m ≤ 5) (hb : b < 2 ^ m) : callF P (n + 3) 24 [obj m E, nI b] st = .ok (.bl ((decide (sk m E b &&& b = 0) && decide (nd m E b &&& sk m E b = nd m E b)) && decide (msk (dfd m E b) = b))) st := by
  rw [c24]
  have q := m_held n st (E := E) hb
  have d := m_defended n st (E := E) hm hb
  unfold b24
  rw [ex_cons, ex_ret, ev_and, ev_meth, ev_var]
  simp only [List.getElem?_cons_zero, List.getElem?_cons_succ, Res.bind_ok, meth_obj st (k := 6) (v := 23) rfl (by decide), es_cons, es_nil, ev_var, q]
  cases decide (sk m E b &&& b = 0) && decide (nd m E b &&& sk m E b = nd m E b)
  · rfl
  · simp only [ev_cmp, ev_meth, ev_var, List.getElem?_cons_zero, List.getElem?_cons_succ, Res.bind_ok, meth_obj st (k := 7) (v := 22) rfl (by decide), es_cons, es_nil, d, der_int, cmp_eq_int, Res.opt_some, cast_eqN, Bool.true_and]
end
end LP
namespace LP
open MP
def hitL (m : Nat) (E : List (Nat × Nat)) (l : List Nat) : List Nat := (List.range m).filter fun j => !decide ((l.filter fun i => decide ((i, j) ∈ E)) = [])
def keptL (m : Nat) (E : List (Nat × Nat)) (l : List Nat) : List Nat := (List.range m).filter fun p => decide ((E.filter fun e => decide (e.2 = p) && !decide (e.1 ∈ hitL m E l)) = [])
def calmB (m : Nat) (E : List (Nat × Nat)) (l : List Nat) : Bool := decide (((hitL m E l).filter fun p => decide (p ∈ l)) = [])
def withB (a b : List Nat) : Bool := decide ((a.filter fun p => !decide (p ∈ b)) = [])
theorem mem_hit {m : Nat} {E : List (Nat × Nat)} {l : List Nat} {j : Nat} : j ∈ hitL m E l ↔ j < m ∧ ∃ i ∈ l, (i, j) ∈ E := by
  unfold hitL
  rw [List.mem_filter, List.mem_range]
  refine and_congr_right fun _ => ?_
  simp [List.filter_eq_nil_iff]
theorem hit_nil {m : Nat} {E : List (Nat × Nat)} {l : List Nat} : withB (hitL m E l) (hitL m E l) = true := by simp [withB]
theorem withB_iff {a b : List Nat} : withB a b = true ↔ ∀ p ∈ a, p ∈ b := by
  unfold withB; simp [List.filter_eq_nil_iff]
theorem calm_iff {m : Nat} {E : List (Nat × Nat)} {l : List Nat} : calmB m E l = true ↔ ∀ j ∈ hitL m E l, j ∉ l := by
  unfold calmB; simp [List.filter_eq_nil_iff]
theorem mem_kept {m : Nat} {E : List (Nat × Nat)} {l : List Nat} {p : Nat} : p ∈ keptL m E l ↔ p < m ∧ ∀ i, (i, p) ∈ E → i ∈ hitL m E l := by
  unfold keptL
  rw [List.mem_filter, List.mem_range]
  refine and_congr_right fun _ => ?_
  rw [decide_eq_true_eq, List.filter_eq_nil_iff]
  constructor
  · intro h i hi
    have := h (i, p) hi
    simpa using this
  · rintro h ⟨i, q⟩ he
    simp only [Bool.and_eq_true, decide_eq_true_eq, Bool.not_eq_true', decide_eq_false_iff_not, not_and, Classical.not_not]
    rintro rfl
    exact h i he
section
variable {m : Nat} {E : List (Nat × Nat)} {l : List Nat}
theorem sk_bit (F : Fld m E) (h : Lot m l) (j : Nat) : (sk m E (msk l)).testBit j = true ↔ ∃ i ∈ l, (i, j) ∈ E := by
  unfold sk
  rw [un_bit (by rw [ontoL_len]; exact msk_lt h.asc h.in_)]
  simp only [msk_bit h.asc, decide_eq_true_eq, ontoL_bit F.in_]
theorem nd_bit (F : Fld m E) (h : Lot m l) (j : Nat) : (nd m E (msk l)).testBit j = true ↔ ∃ p ∈ l, (j, p) ∈ E := by
  unfold nd
  rw [un_bit (by rw [byL_len]; exact msk_lt h.asc h.in_)]
  simp only [msk_bit h.asc, decide_eq_true_eq, byL_bit F.in_]
theorem sk_hit (F : Fld m E) (h : Lot m l) (j : Nat) : (sk m E (msk l)).testBit j = true ↔ j ∈ hitL m E l := by
  rw [sk_bit F h, mem_hit]
  exact ⟨fun ⟨i, hi, he⟩ => ⟨(F.in_ _ he).2, i, hi, he⟩, fun h => h.2⟩
theorem pts_eq {b : Nat} {k : List Nat} (hk : k.Pairwise (· < ·)) (h8 : ∀ p ∈ k, p < 8) (h : ∀ j, b.testBit j = true ↔ j ∈ k) : ((List.range 8).filter fun i => b.testBit i) = k :=
  asc_ext (asc_filter _) hk fun x => by
    rw [List.mem_filter, List.mem_range, h]
    exact ⟨fun h => h.2, fun h => ⟨h8 x h, h⟩⟩
theorem hit_asc : (hitL m E l).Pairwise (· < ·) := asc_filter _
theorem kept_asc : (keptL m E l).Pairwise (· < ·) := asc_filter _
theorem hit_lt : ∀ p ∈ hitL m E l, p < m := fun p hp => (mem_hit.mp hp).1
theorem kept_lt : ∀ p ∈ keptL m E l, p < m := fun p hp => (mem_kept.mp hp).1
theorem pts_hit (F : Fld m E) (h : Lot m l) : ((List.range 8).filter fun i => (sk m E (msk l)).testBit i) = hitL m E l := pts_eq hit_asc (fun p hp => by have := hit_lt p hp; have := F.hi; omega) (sk_hit F h)
theorem quiet_eq (F : Fld m E) (h : Lot m l) : decide (sk m E (msk l) &&& msk l = 0) = calmB m E l := by
  rw [Bool.eq_iff_iff, decide_eq_true_eq, and_zero, calm_iff]
  constructor
  · intro q j hj hl
    exact q j ((sk_hit F h j).mpr hj) (by rw [msk_bit h.asc]; exact decide_eq_true hl)
  · intro q j hj hl
    exact q j ((sk_hit F h j).mp hj) (by rw [msk_bit h.asc] at hl; exact of_decide_eq_true hl)
theorem dfd_eq (F : Fld m E) (h : Lot m l) : dfd m E (msk l) = keptL m E l := by
  refine asc_ext (asc_filter _) kept_asc fun p => ?_
  rw [mem_kept]
  unfold dfd
  rw [List.mem_filter, List.mem_range, decide_eq_true_eq, and_sub]
  simp only [byL_bit F.in_, sk_hit F h]
theorem held_eq (F : Fld m E) (h : Lot m l) : decide (nd m E (msk l) &&& sk m E (msk l) = nd m E (msk l)) = withB l (keptL m E l) := by
  rw [Bool.eq_iff_iff, decide_eq_true_eq, and_sub, withB_iff]
  simp only [nd_bit F h, sk_hit F h, mem_kept]
  constructor
  · intro q p hp
    exact ⟨h.in_ p hp, fun i hi => q i ⟨p, hp, hi⟩⟩
  · rintro q i ⟨p, hp, hi⟩
    exact (q p hp).2 i hi
theorem kept_lot : Lot m (keptL m E l) := ⟨kept_lt, kept_asc⟩
theorem hit_lot : Lot m (hitL m E l) := ⟨hit_lt, hit_asc⟩
theorem pts_msk (hm : m ≤ 8) (h : Lot m l) : ((List.range 8).filter fun i => (msk l).testBit i) = l := pts_eq h.asc (fun p hp => by have := h.in_ p hp; omega) fun j => by rw [msk_bit h.asc, decide_eq_true_eq]
theorem whole_eq (F : Fld m E) (h : Lot m l) : decide (msk (dfd m E (msk l)) = msk l) = decide (keptL m E l = l) := by
  rw [dfd_eq F h, Bool.eq_iff_iff, decide_eq_true_eq, decide_eq_true_eq]
  constructor
  · intro e
    have a := pts_msk (m := m) (by have := F.hi; omega) h
    rw [← e, pts_msk (m := m) (by have := F.hi; omega) kept_lot] at a
    exact a
  · intro e; rw [e]
end
section
variable (n : Nat) (st : Store) {m : Nat} {E : List (Nat × Nat)} {l : List Nat}
theorem bitsL (F : Fld m E) (h : Lot m l) : callF P (n + 1) 13 [pvI l] st = .ok (nI (msk l)) st := bits_of n st fun p hp => by have := h.in_ p hp; have := F.hi; omega
theorem t_struck (F : Fld m E) (h : Lot m l) : callF P (n + 8) 49 [pvF m E, pvI l] st = .ok (pvI (hitL m E l)) st := by
  rw [c49]
  have e1 := beside n st F h
  have e2 := bitsL (n + 6) st F h
  have e3 := i3 (cf := callF P (n + 7)) (env := [some (pvF m E), some (pvI l)]) (st := st) (st1 := st) (o := .call 48 (.cons (.var 0) (.cons (.var 1) .nil))) (e := .call 13 (.cons (.var 1) .nil)) (E := E) (msk_lt h.asc h.in_)
    (by simp only [ev_call, es_cons, es_nil, ev_var, List.getElem?_cons_zero, List.getElem?_cons_succ, Res.bind_ok, e1])
    (by simp only [ev_call, es_cons, es_nil, ev_var, List.getElem?_cons_zero, List.getElem?_cons_succ, Res.bind_ok, e2])
  have e4 := points_in (n + 6) st (sk m E (msk l))
  rw [pts_hit F h] at e4
  unfold b49
  rw [ex_cons, ex_ret, ev_call, es_cons, e3]
  simp only [es_nil, Res.bind_ok, e4]
theorem t_defended (F : Fld m E) (h : Lot m l) : callF P (n + 8) 50 [pvF m E, pvI l] st = .ok (pvI (keptL m E l)) st := by
  rw [c50]
  have e1 := beside n st F h
  have e2 := bitsL (n + 6) st F h
  have e3 := m_defended (n + 5) st (E := E) F.hi (msk_lt h.asc h.in_)
  rw [dfd_eq F h] at e3
  have e4 := points_in (n + 6) st (msk (keptL m E l))
  rw [pts_msk (m := m) (by have := F.hi; omega) kept_lot] at e4
  unfold b50
  simp only [ex_cons, ex_ret, ev_meth, ev_call, es_cons, es_nil, ev_var, List.getElem?_cons_zero, List.getElem?_cons_succ, Res.bind_ok, e1, meth_obj st (k := 7) (v := 22) rfl (by decide), e2, e3, e4]
theorem t_whole (F : Fld m E) (h : Lot m l) : callF P (n + 8) 51 [pvF m E, pvI l] st = .ok (.bl ((calmB m E l && withB l (keptL m E l)) && decide (keptL m E l = l))) st := by
  rw [c51]
  have e1 := beside n st F h
  have e2 := bitsL (n + 6) st F h
  have e3 := m_whole (n + 4) st (E := E) F.hi (msk_lt h.asc h.in_)
  rw [quiet_eq F h, held_eq F h, whole_eq F h] at e3
  unfold b51
  simp only [ex_cons, ex_ret, ev_meth, ev_call, es_cons, es_nil, ev_var, List.getElem?_cons_zero, List.getElem?_cons_succ, Res.bind_ok, e1, meth_obj st (k := 10) (v := 24) rfl (by decide), e2, e3]
end
end LP
namespace LP
open MP
theorem any_pairs (E : List (Nat × Nat)) (e : Nat × Nat) : ((E.map pvP).any fun y => PV.eqv y (pvP e)) = decide (e ∈ E) := by
  induction E with
  | nil => rfl
  | cons d E ih =>
    rw [List.map_cons, List.any_cons, ih]
    have : PV.eqv (pvP d) (pvP e) = decide (d = e) := by
      unfold pvP
      simp only [PV.eqv, PV.eqvs, nI]
      obtain ⟨a, b⟩ := d
      obtain ⟨a', b'⟩ := e
      rw [Bool.eq_iff_iff]
      simp [Prod.ext_iff, Int.natCast_inj]
    rw [this]
    by_cases h : d = e
    · subst h; simp
    · have h2 : ¬ e = d := Ne.symm h
      simp [h, h2]
theorem depthOk_pairs (E : List (Nat × Nat)) : depthOk (.tup (E.map pvP)) = true := by
  unfold depthOk
  rw [PV.isD, PV.depth0, Bool.and_eq_true]
  constructor
  · induction E with
    | nil => rfl
    | cons p l ih => rw [List.map_cons, PV.isDs, ih]; rfl
  · rw [List.all_eq_true]
    intro x hx
    obtain ⟨i, _, rfl⟩ := List.mem_map.mp hx
    rfl
theorem isin_pairs (E : List (Nat × Nat)) (i j : Nat) : cmpop .isin (.tup [.int i, .int j]) (.tup (E.map pvP)) = some (decide ((i, j) ∈ E)) := by
  have : cmpop .isin (pvP (i, j)) (.tup (E.map pvP)) = some (decide ((i, j) ∈ E)) := by
    unfold pvP at *
    simp only [cmpop]
    have h1 := depthOk_pairs E
    have h2 := any_pairs E (i, j)
    unfold pvP at h1 h2
    rw [h1, h2]; rfl
  exact this
section
variable (n : Nat) (st : Store) {m : Nat} {E : List (Nat × Nat)} {l : List Nat}
theorem against (p : Nat) : callF P (n + 1) 12 [pvF m E, nI p] st = .ok (pvI ((E.filter fun e => decide (e.2 = p)).map fun e => e.1)) st := by
  rw [c12]
  have hc : ∀ env : Env, env = [some (pvF m E), some (nI p), none, none] → compL (turnE P (callF P n) (.tup (.cons (.var 2) (.cons (.var 3) .nil))) (.cmp .eq (.var 3) (.var 1)) (.var 2) env) (fun _ => true) (E.map pvP) st = .ok ((E.filter fun e => decide (e.2 = p)).map fun e => nI e.1) st := by
    rintro env rfl
    refine compL_filter (by rfl) fun e he => ?_
    unfold pvP
    simp [turnE, bindT, cast_eqN]
    by_cases hh : e.2 = p <;> simp [hh]
  have hc := hc _ rfl
  have i1 : ∀ st : Store, index1 (der st (pvF m E)) (.int 1) = some (.tup (E.map pvP)) := fun _ => rfl
  unfold b12
  simp -implicitDefEqProofs only [turnE, turnS, bindT, List.length_cons, List.length_nil, Nat.reduceAdd, Nat.reduceLT, if_true, Bool.false_eq_true, if_false, List.set_cons_succ, List.set_cons_zero, List.getElem?_cons_zero, List.getElem?_cons_succ, ev_var, ev_con, ev_tup, ev_lst, ev_bin, ev_cmp, ev_chn, ev_and, ev_or, ev_not, ev_neg, ev_ite, ev_idx, ev_call, ev_callk, ev_pr1, ev_pr2, ev_isi, ev_comp, es_cons, es_nil, ex_cons, ex_nil, ex_asg, ex_exp, ex_ret, ex_iff, ex_pass, as_var, as_tup, as_nil, as_cons, Res.bind_ok, Res.opt_some, der_int, der_bl, der_non, der_str, der_tup, der_lst, der_set, walk_tup, walk_lst, Option.bind_some, Option.map_some, p1_tuple, p1_tuple', p1_list, p1_list', p1_len, p1_len', p1_len2, p1_int, p1_abs, p1_intb, ev_pr1, ev_comp, ev_idx, ev_var, ev_con, List.getElem?_cons_zero, List.getElem?_cons_succ, Res.bind_ok, i1, walk_tup, Res.opt_some, hc, der_lst]
  rw [pvI, List.map_map]
  rfl
theorem fst0 : ∀ st : Store, index1 (der st (pvF m E)) (.int 0) = some (nI m) := fun _ => rfl
theorem snd1 : ∀ st : Store, index1 (der st (pvF m E)) (.int 1) = some (.tup (E.map pvP)) := fun _ => rfl
theorem rngF {cf : Nat → List PV → Store → Res PV} {env : Env} (h0 : env[0]? = some (some (pvF m E))) (hm : m ≤ 5) : evalE P cf (.rng (.con (.int 0)) (.idx (.var 0) (.con (.int 0)))) env st = .ok (.lst ((List.range m).map fun i => PV.int (i : Nat))) st :=
  rng0 (st' := st) (k := m) (by rw [ev_idx, ev_var, h0]; simp only [Res.bind_ok, ev_con, fst0, Res.opt_some]) (by omega)
end
end LP
namespace LP
open MP
def wordV (m : Nat) (E : List (Nat × Nat)) (l : List Nat) (p : Nat) : PV := if p ∈ l then .str [105, 110] else if p ∈ hitL m E l then .str [111, 117, 116] else .str [111, 112, 101, 110]
section
variable (n : Nat) (st : Store) {m : Nat} {E : List (Nat × Nat)} {l : List Nat}
theorem gc_ints {T : Store} {l : List Nat} (h : l.length ≤ 10000) : gcAt st (pvI l) (st ++ T) = .ok (pvI l) st := by
  unfold gcAt
  rw [List.take_left' rfl, if_pos rfl]
  have : thaw (st ++ T) st.length (999999 + 1) (pvI l) = some (pvI l) := by
    unfold pvI
    rw [thaw, thaws_ints _ _ _ _ (by omega)]; rfl
  have : thaw (st ++ T) st.length 1000000 (pvI l) = some (pvI l) := this
  rw [this]
theorem app_end {cf : Nat → List PV → Store → Res PV} {f : List Nat} {p : Nat} {env : Env} (h4 : env[4]? = some (some (.ref st.length))) (h2 : env[2]? = some (some (nI p))) (hf : f.length < 1000) :
    evalE P cf (.append (.var 4) (.var 2)) env (st ++ [.lst (f.map nI)]) = .ok .non (st ++ [.lst ((f ++ [p]).map nI)]) := by
  have hl : lstAt (st ++ [.lst (f.map nI)]) (.ref st.length) = some (st.length, f.map nI) := by
    simp only [lstAt, app_get0]; rfl
  rw [ev_append, ev_var, h4]
  simp only [Res.bind_ok, hl, Option.isSome_some, if_true, ev_var, h2]
  rw [if_pos (by rw [List.length_map]; unfold lim; omega), app_set0]
  simp
theorem word {p : Nat} (hp : p < m) : callF P (n + 2) 41 [pvF m E, pvI l, nI p] st = .ok (wordV m E l p) st := by
  rw [c41]
  have hd : ∀ st, der st (pvI l) = .tup (l.map nI) := fun _ => rfl
  have e1 := against n st (m := m) (E := E) p
  have hc : ∀ env : Env, env = [some (pvF m E), some (pvI l), some (nI p), none] → compL (turnE P (callF P (n + 1)) (.var 3) (.con (.bl true)) (.cmp .isin (.var 3) (.var 1)) env) (fun _ => true) (((E.filter fun e => decide (e.2 = p)).map fun e => e.1).map nI) st = .ok (((E.filter fun e => decide (e.2 = p)).map fun e => e.1).map fun i => PV.bl (decide (i ∈ l))) st := by
    rintro env rfl
    refine compL_map (by rfl) fun i hi => ?_
    simp -implicitDefEqProofs only [turnE, turnS, bindT, List.length_cons, List.length_nil, Nat.reduceAdd, Nat.reduceLT, if_true, Bool.false_eq_true, if_false, List.set_cons_succ, List.set_cons_zero, List.getElem?_cons_zero, List.getElem?_cons_succ, ev_var, ev_con, ev_tup, ev_lst, ev_bin, ev_cmp, ev_chn, ev_and, ev_or, ev_not, ev_neg, ev_ite, ev_idx, ev_call, ev_callk, ev_pr1, ev_pr2, ev_isi, ev_comp, es_cons, es_nil, ex_cons, ex_nil, ex_asg, ex_exp, ex_ret, ex_iff, ex_pass, as_var, as_tup, as_nil, as_cons, Res.bind_ok, Res.opt_some, der_int, der_bl, der_non, der_str, der_tup, der_lst, der_set, walk_tup, walk_lst, Option.bind_some, Option.map_some, p1_tuple, p1_tuple', p1_list, p1_list', p1_len, p1_len', p1_len2, p1_int, p1_abs, p1_intb, hd, isin_ints]
  have hc := hc _ rfl
  have hw : walk st (pvI ((E.filter fun e => decide (e.2 = p)).map fun e => e.1)) = some (((E.filter fun e => decide (e.2 = p)).map fun e => e.1).map nI, fun _ => true) := rfl
  have ha : prim1 .any (.lst (((E.filter fun e => decide (e.2 = p)).map fun e => e.1).map fun i => PV.bl (decide (i ∈ l)))) = some (.bl (decide (p ∈ hitL m E l))) := by
    have := p1_any (bs := ((E.filter fun e => decide (e.2 = p)).map fun e => e.1).map fun i => decide (i ∈ l))
    rw [List.map_map] at this
    refine this.trans ?_
    congr 2
    rw [Bool.eq_iff_iff, decide_eq_true_eq, mem_hit]
    simp
    constructor
    · rintro ⟨i, q, he, e, hi⟩
      subst e
      exact ⟨hp, i, hi, he⟩
    · rintro ⟨_, i, hi, he⟩; exact ⟨i, p, he, rfl, hi⟩
  unfold wordV b41
  simp -implicitDefEqProofs only [turnE, turnS, bindT, List.length_cons, List.length_nil, Nat.reduceAdd, Nat.reduceLT, if_true, Bool.false_eq_true, if_false, List.set_cons_succ, List.set_cons_zero, List.getElem?_cons_zero, List.getElem?_cons_succ, ev_var, ev_con, ev_tup, ev_lst, ev_bin, ev_cmp, ev_chn, ev_and, ev_or, ev_not, ev_neg, ev_ite, ev_idx, ev_call, ev_callk, ev_pr1, ev_pr2, ev_isi, ev_comp, es_cons, es_nil, ex_cons, ex_nil, ex_asg, ex_exp, ex_ret, ex_iff, ex_pass, as_var, as_tup, as_nil, as_cons, Res.bind_ok, Res.opt_some, der_int, der_bl, der_non, der_str, der_tup, der_lst, der_set, walk_tup, walk_lst, Option.bind_some, Option.map_some, p1_tuple, p1_tuple', p1_list, p1_list', p1_len, p1_len', p1_len2, p1_int, p1_abs, p1_intb, hd, isin_ints]
  by_cases h : p ∈ l
  · simp [h]
  · simp -implicitDefEqProofs only [turnE, turnS, bindT, List.length_cons, List.length_nil, Nat.reduceAdd, Nat.reduceLT, if_true, Bool.false_eq_true, if_false, List.set_cons_succ, List.set_cons_zero, List.getElem?_cons_zero, List.getElem?_cons_succ, ev_var, ev_con, ev_tup, ev_lst, ev_bin, ev_cmp, ev_chn, ev_and, ev_or, ev_not, ev_neg, ev_ite, ev_idx, ev_call, ev_callk, ev_pr1, ev_pr2, ev_isi, ev_comp, es_cons, es_nil, ex_cons, ex_nil, ex_asg, ex_exp, ex_ret, ex_iff, ex_pass, as_var, as_tup, as_nil, as_cons, Res.bind_ok, Res.opt_some, der_int, der_bl, der_non, der_str, der_tup, der_lst, der_set, walk_tup, walk_lst, Option.bind_some, Option.map_some, p1_tuple, p1_tuple', p1_list, p1_list', p1_len, p1_len', p1_len2, p1_int, p1_abs, p1_intb, decide_eq_false h, if_neg h, e1, hw, hc, ha]
    by_cases h2 : p ∈ hitL m E l <;> simp [h2]
theorem label_by (hm : m ≤ 5) : callF P (n + 3) 42 [pvF m E, pvI l] st = .ok (.tup ((List.range m).map (wordV m E l))) st := by
  rw [c42]
  have hc : ∀ env : Env, env = [some (pvF m E), some (pvI l), none] → compL (turnE P (callF P (n + 2)) (.var 2) (.con (.bl true)) (.call 41 (.cons (.var 0) (.cons (.var 1) (.cons (.var 2) .nil)))) env) (fun _ => true) ((List.range m).map fun i => PV.int (i : Nat)) st = .ok ((List.range m).map (wordV m E l)) st := by
    rintro env rfl
    refine compL_map (by rfl) fun p hp => ?_
    simp -implicitDefEqProofs only [turnE, turnS, bindT, List.length_cons, List.length_nil, Nat.reduceAdd, Nat.reduceLT, if_true, Bool.false_eq_true, if_false, List.set_cons_succ, List.set_cons_zero, List.getElem?_cons_zero, List.getElem?_cons_succ, ev_var, ev_con, ev_tup, ev_lst, ev_bin, ev_cmp, ev_chn, ev_and, ev_or, ev_not, ev_neg, ev_ite, ev_idx, ev_call, ev_callk, ev_pr1, ev_pr2, ev_isi, ev_comp, es_cons, es_nil, ex_cons, ex_nil, ex_asg, ex_exp, ex_ret, ex_iff, ex_pass, as_var, as_tup, as_nil, as_cons, Res.bind_ok, Res.opt_some, der_int, der_bl, der_non, der_str, der_tup, der_lst, der_set, walk_tup, walk_lst, Option.bind_some, Option.map_some, p1_tuple, p1_tuple', p1_list, p1_list', p1_len, p1_len', p1_len2, p1_int, p1_abs, p1_intb, word n st (E := E) (l := l) (List.mem_range.mp hp)]
  have hc := hc _ rfl
  have hr := rngF st (E := E) (cf := callF P (n + 2)) (env := [some (pvF m E), some (pvI l), none]) rfl hm
  unfold b42
  simp -implicitDefEqProofs only [turnE, turnS, bindT, List.length_cons, List.length_nil, Nat.reduceAdd, Nat.reduceLT, if_true, Bool.false_eq_true, if_false, List.set_cons_succ, List.set_cons_zero, List.getElem?_cons_zero, List.getElem?_cons_succ, ev_var, ev_con, ev_tup, ev_lst, ev_bin, ev_cmp, ev_chn, ev_and, ev_or, ev_not, ev_neg, ev_ite, ev_idx, ev_call, ev_callk, ev_pr1, ev_pr2, ev_isi, ev_comp, es_cons, es_nil, ex_cons, ex_nil, ex_asg, ex_exp, ex_ret, ex_iff, ex_pass, as_var, as_tup, as_nil, as_cons, Res.bind_ok, Res.opt_some, der_int, der_bl, der_non, der_str, der_tup, der_lst, der_set, walk_tup, walk_lst, Option.bind_some, Option.map_some, p1_tuple, p1_tuple', p1_list, p1_list', p1_len, p1_len', p1_len2, p1_int, p1_abs, p1_intb, hr, hc]
theorem label_of (F : Fld m E) (h : Lot m l) : callF P (n + 8) 47 [pvF m E, pvI l] st = .ok (.tup ((List.range m).map (wordV m E l))) st := by
  rw [c47]
  have e1 := chk_field (n + 1) st F
  have e2 := chk_lot (n + 2) st (E := E) h
  have e3 := label_by (n + 4) st (E := E) (l := l) F.hi
  unfold b47
  simp -implicitDefEqProofs only [turnE, turnS, bindT, List.length_cons, List.length_nil, Nat.reduceAdd, Nat.reduceLT, if_true, Bool.false_eq_true, if_false, List.set_cons_succ, List.set_cons_zero, List.getElem?_cons_zero, List.getElem?_cons_succ, ev_var, ev_con, ev_tup, ev_lst, ev_bin, ev_cmp, ev_chn, ev_and, ev_or, ev_not, ev_neg, ev_ite, ev_idx, ev_call, ev_callk, ev_pr1, ev_pr2, ev_isi, ev_comp, es_cons, es_nil, ex_cons, ex_nil, ex_asg, ex_exp, ex_ret, ex_iff, ex_pass, as_var, as_tup, as_nil, as_cons, Res.bind_ok, Res.opt_some, der_int, der_bl, der_non, der_str, der_tup, der_lst, der_set, walk_tup, walk_lst, Option.bind_some, Option.map_some, p1_tuple, p1_tuple', p1_list, p1_list', p1_len, p1_len', p1_len2, p1_int, p1_abs, p1_intb, e1, e2, e3]
theorem word_sml (p : Nat) : sml (wordV m E l p) = true ∧ dep (wordV m E l p) = 0 := by
  unfold wordV
  split
  · exact ⟨rfl, rfl⟩
  · split <;> exact ⟨rfl, rfl⟩
theorem words_ok (xs : List Nat) : smls (xs.map (wordV m E l)) = true ∧ deps (xs.map (wordV m E l)) = 0 := by
  induction xs with
  | nil => exact ⟨rfl, rfl⟩
  | cons p xs ih => rw [List.map_cons, smls, deps, ih.1, ih.2, (word_sml p).1, (word_sml p).2]; exact ⟨rfl, rfl⟩
theorem cmp_eq_same {v : PV} (h : depthOk v = true) : cmpop .eq v v = some true := by
  have hv : PV.isD v = true := by unfold depthOk at h; rw [Bool.and_eq_true] at h; exact h.1
  cases v <;> simp only [cmpop, h, eqv_refl _ hv] <;> simp
end
end LP
namespace LP
open MP
/-! ### rising lists -/
theorem asc_sub : ∀ {k l : List Nat}, l.Pairwise (· < ·) → k.Pairwise (· < ·) → (∀ x ∈ l, x ∈ k) → l.Sublist k
  | [], [], _, _, _ => .slnil
  | [], x :: l, _, _, h => absurd (h x List.mem_cons_self) (by simp)
  | y :: k, [], _, _, _ => List.nil_sublist _
  | y :: k, x :: l, h1, h2, h => by
    obtain ⟨a1, b1⟩ := List.pairwise_cons.mp h1
    obtain ⟨a2, b2⟩ := List.pairwise_cons.mp h2
    by_cases e : x = y
    · subst e
      refine .cons_cons x (asc_sub b1 b2 fun z hz => ?_)
      rcases List.mem_cons.mp (h z (List.mem_cons_of_mem _ hz)) with e | hk
      · have := a1 z hz; omega
      · exact hk
    · refine .cons y (asc_sub h1 b2 fun z hz => ?_)
      have hx : x ∈ k := by
        rcases List.mem_cons.mp (h x List.mem_cons_self) with e' | hk
        · exact absurd e' e
        · exact hk
      rcases List.mem_cons.mp (h z hz) with e' | hk
      · have := a2 x hx
        rcases List.mem_cons.mp hz with e2 | hz
        · omega
        · have := a1 z hz; omega
      · exact hk
theorem asc_len : ∀ {l : List Nat} {c m : Nat}, l.Pairwise (· < ·) → (∀ p ∈ l, c ≤ p ∧ p < m) → l.length ≤ m - c
  | [], _, _, _, _ => Nat.zero_le _
  | p :: l, c, m, h, hb => by
    obtain ⟨h1, h2⟩ := List.pairwise_cons.mp h
    have := asc_len (c := p + 1) (m := m) h2 fun q hq => ⟨h1 q hq, (hb q (List.mem_cons_of_mem _ hq)).2⟩
    have := hb p List.mem_cons_self
    rw [List.length_cons]
    omega
theorem lot_len {m : Nat} {l : List Nat} (h : Lot m l) : l.length ≤ m := by
  have := asc_len (c := 0) h.asc fun p hp => ⟨Nat.zero_le _, h.in_ p hp⟩
  omega
theorem hit_mono {m : Nat} {E : List (Nat × Nat)} {l k : List Nat} (h : ∀ x ∈ l, x ∈ k) : ∀ p ∈ hitL m E l, p ∈ hitL m E k := by
  intro p hp
  obtain ⟨h1, i, hi, he⟩ := mem_hit.mp hp
  exact mem_hit.mpr ⟨h1, i, h i hi, he⟩
theorem kept_mono {m : Nat} {E : List (Nat × Nat)} {l k : List Nat} (h : ∀ x ∈ l, x ∈ k) : ∀ p ∈ keptL m E l, p ∈ keptL m E k := by
  intro p hp
  obtain ⟨h1, h2⟩ := mem_kept.mp hp
  exact mem_kept.mpr ⟨h1, fun i hi => hit_mono h i (h2 i hi)⟩
/-! ### the steps -/
def itK (m : Nat) (E : List (Nat × Nat)) : Nat → List Nat
  | 0 => []
  | k + 1 => keptL m E (itK m E k)
section
variable {m : Nat} {E : List (Nat × Nat)}
theorem it_lot : ∀ k, Lot m (itK m E k)
  | 0 => ⟨fun p hp => absurd hp (by simp [itK]), List.Pairwise.nil⟩
  | k + 1 => kept_lot
theorem it_mono : ∀ k, ∀ x ∈ itK m E k, x ∈ itK m E (k + 1)
  | 0, x, h => by cases h
  | k + 1, x, h => kept_mono (it_mono k) x h
theorem it_grow : ∀ k, (∀ j, j < k → itK m E (j + 1) ≠ itK m E j) → k ≤ (itK m E k).length
  | 0, _ => Nat.zero_le _
  | k + 1, h => by
    have ih := it_grow k fun j hj => h j (by omega)
    have s := asc_sub (it_lot (m := m) (E := E) k).asc (it_lot (m := m) (E := E) (k + 1)).asc (it_mono k)
    have hl := s.length_le
    rcases Nat.lt_or_ge (itK m E k).length (itK m E (k + 1)).length with c | c
    · omega
    · exact absurd (s.eq_of_length (by omega)).symm (h k (by omega))
theorem it_stop (m : Nat) (E : List (Nat × Nat)) : ∃ r, r ≤ m ∧ (∀ j, j < r → itK m E (j + 1) ≠ itK m E j) ∧ itK m E (r + 1) = itK m E r := by
  have : ∀ k, (∃ r, r < k ∧ (∀ j, j < r → itK m E (j + 1) ≠ itK m E j) ∧ itK m E (r + 1) = itK m E r) ∨ ∀ j, j < k → itK m E (j + 1) ≠ itK m E j := by
    intro k
    induction k with
    | zero => exact .inr fun j hj => absurd hj (by omega)
    | succ k ih =>
      rcases ih with ⟨r, h1, h2⟩ | h
      · exact .inl ⟨r, by omega, h2⟩
      · by_cases e : itK m E (k + 1) = itK m E k
        · exact .inl ⟨k, by omega, h, e⟩
        · refine .inr fun j hj => ?_
          rcases Nat.lt_or_ge j k with c | c
          · exact h j c
          · rw [show j = k by omega]; exact e
  rcases this (m + 1) with ⟨r, h1, h2, h3⟩ | h
  · exact ⟨r, by omega, h2, h3⟩
  · have h1 := it_grow (m + 1) h
    have h2 := lot_len (it_lot (m := m) (E := E) (m + 1))
    omega
/-- a lot that struck nothing of its own and is kept by itself: what it keeps strikes nothing of its own -/
theorem calm_kept {l : List Nat} (h : calmB m E l = true) (hk : ∀ x ∈ l, x ∈ keptL m E l) : calmB m E (keptL m E l) = true := by
  rw [calm_iff] at h ⊢
  intro b hb hb2
  obtain ⟨_, a, ha, he⟩ := mem_hit.mp hb
  obtain ⟨_, h2⟩ := mem_kept.mp hb2
  have ha2 := h2 a he
  obtain ⟨_, s, hs, hse⟩ := mem_hit.mp ha2
  obtain ⟨_, h3⟩ := mem_kept.mp ha
  exact h s (h3 s hse) hs
theorem it_calm : ∀ k, calmB m E (itK m E k) = true
  | 0 => by rw [calm_iff]; intro j hj hl; cases hl
  | k + 1 => calm_kept (it_calm k) (it_mono k)
theorem it_least {l : List Nat} (h : keptL m E l = l) : ∀ k, ∀ x ∈ itK m E k, x ∈ l
  | 0, x, hx => by cases hx
  | k + 1, x, hx => by rw [← h]; exact kept_mono (it_least h k) x hx
theorem it_after {r : Nat} (h : itK m E (r + 1) = itK m E r) : ∀ k, r ≤ k → itK m E k = itK m E r := by
  intro k hk
  obtain ⟨d, rfl⟩ := Nat.exists_eq_add_of_le hk
  induction d with
  | zero => rfl
  | succ d ih => rw [← Nat.add_assoc, itK, ih (by omega)]; exact h
end
/-! ### all lots, in order -/
def ptsB (b : Nat) : List Nat := (List.range 8).filter fun i => b.testBit i
theorem four {m : Nat} (h1 : 2 ≤ m) (h2 : m ≤ 5) : m = 2 ∨ m = 3 ∨ m = 4 ∨ m = 5 := by omega
def allR : Nat → List (List Nat)
  | 0 => [[]]
  | k + 1 => allR k ++ (allR k).map fun l => l ++ [k]
def prow (l : List Nat) : PV := .tup [nI l.length, pvI l]
theorem rows_ok {m : Nat} (h1 : 2 ≤ m) (h2 : m ≤ 5) : sortOk ((allR m).map prow) = true ∧ (∀ l ∈ allR m, l.Pairwise (· < ·) ∧ ∀ p ∈ l, p < m) ∧ (allR m).length = 2 ^ m := by
  rcases four h1 h2 with rfl | rfl | rfl | rfl <;> decide +kernel
theorem rows_pts {m : Nat} (h1 : 2 ≤ m) (h2 : m ≤ 5) : (List.range (2 ^ m)).map ptsB = allR m := by
  rcases four h1 h2 with rfl | rfl | rfl | rfl <;> decide +kernel
def leR (a b : List Nat) : Bool := !PV.lt (prow b) (prow a)
def code (l : List Nat) : Nat := l.foldl (fun a d => 8 * a + d) l.length
theorem code_lt {m : Nat} (h1 : 2 ≤ m) (h2 : m ≤ 5) : ∀ a ∈ allR m, ∀ b ∈ allR m, leR a b = decide (code a ≤ code b) := by
  rcases four h1 h2 with rfl | rfl | rfl | rfl <;> decide +kernel
theorem code_len {m : Nat} (h1 : 2 ≤ m) (h2 : m ≤ 5) : ∀ a ∈ allR m, ∀ b ∈ allR m, code a ≤ code b → a.length ≤ b.length ∧ (code b ≤ code a → a = b) := by
  rcases four h1 h2 with rfl | rfl | rfl | rfl <;> decide +kernel
def rowsL (m : Nat) : List (List Nat) := (allR m).mergeSort leR
def leC (a b : List Nat) : Bool := decide (code a ≤ code b)
theorem sort_code {ls : List (List Nat)} {m : Nat} (h1 : 2 ≤ m) (h2 : m ≤ 5) (h : ∀ l ∈ ls, l ∈ allR m) : ls.mergeSort leR = ls.mergeSort leC := by
  have := List.map_mergeSort (r := leR) (s := leC) (f := id) (l := ls) fun a ha b hb => code_lt h1 h2 a (h a ha) b (h b hb)
  simpa using this
theorem sort_asc (ls : List (List Nat)) : (ls.mergeSort leC).Pairwise (fun a b => leC a b = true) := by
  refine List.pairwise_mergeSort (le := leC) (fun a b c h1 h2 => ?_) (fun a b => ?_) ls
  · unfold leC at *
    rw [decide_eq_true_eq] at *
    omega
  · unfold leC
    rw [Bool.or_eq_true, decide_eq_true_eq, decide_eq_true_eq]
    omega
theorem sort_filter {m : Nat} (h1 : 2 ≤ m) (h2 : m ≤ 5) (f : List Nat → Bool) : ((allR m).filter f).mergeSort leR = (rowsL m).filter f := by
  unfold rowsL
  rw [sort_code h1 h2 (ls := allR m) fun l h => h, sort_code h1 h2 (ls := (allR m).filter f) fun l h => (List.mem_filter.mp h).1]
  refine List.Perm.eq_of_pairwise (le := fun a b => leC a b = true) (fun a b ha hb hab hba => ?_) (sort_asc _) ((sort_asc _).filter f) ((List.mergeSort_perm _ _).trans ((List.mergeSort_perm _ _).filter f).symm)
  have ha' := (List.mem_filter.mp (List.mem_mergeSort.mp ha)).1
  have hb' := List.mem_mergeSort.mp (List.mem_filter.mp hb).1
  unfold leC at hab hba
  rw [decide_eq_true_eq] at hab hba
  exact (code_len h1 h2 a ha' b hb' hab).2 hba
theorem rows_asc {m : Nat} (h1 : 2 ≤ m) (h2 : m ≤ 5) (f : List Nat → Bool) : ((rowsL m).filter f).Pairwise (fun a b => a.length ≤ b.length) := by
  unfold rowsL
  rw [sort_code h1 h2 (ls := allR m) fun l h => h]
  refine ((sort_asc _).filter f).imp_of_mem fun {a b} ha hb hab => ?_
  have ha' := List.mem_mergeSort.mp (List.mem_filter.mp ha).1
  have hb' := List.mem_mergeSort.mp (List.mem_filter.mp hb).1
  unfold leC at hab
  rw [decide_eq_true_eq] at hab
  exact (code_len h1 h2 a ha' b hb' hab).1
theorem sorted_rows {m : Nat} (h1 : 2 ≤ m) (h2 : m ≤ 5) : prim1 .sorted (.lst ((allR m).map prow)) = some (.lst ((rowsL m).map prow)) := by
  simp only [prim1]
  rw [if_pos (rows_ok h1 h2).1]
  congr 2
  unfold sortBy rowsL
  rw [List.map_mergeSort (s := fun a b => !PV.lt b a) (f := prow)]
  intro a _ b _
  rfl
theorem mem_rows {m : Nat} {l : List Nat} : l ∈ rowsL m ↔ l ∈ allR m := List.mem_mergeSort
theorem rowsL_lot {m : Nat} (h1 : 2 ≤ m) (h2 : m ≤ 5) : ∀ l ∈ rowsL m, Lot m l := fun l hl => by
  have := (rows_ok h1 h2).2.1 l (List.mem_mergeSort.mp hl)
  exact ⟨this.2, this.1⟩
theorem rowsL_len {m : Nat} (h1 : 2 ≤ m) (h2 : m ≤ 5) : (rowsL m).length = 2 ^ m := by
  unfold rowsL
  rw [List.length_mergeSort, (rows_ok h1 h2).2.2]
theorem pts_lot {m b : Nat} (h : b < 2 ^ m) : Lot m (ptsB b) := by
  refine ⟨fun p hp => ?_, asc_filter _⟩
  have hb := (List.mem_filter.mp hp).2
  rcases Nat.lt_or_ge p m with c | c
  · exact c
  · rw [Nat.testBit_lt_two_pow (Nat.lt_of_lt_of_le h (Nat.pow_le_pow_right (by decide) c))] at hb
    cases hb
theorem msk_pts {m b : Nat} (hm : m ≤ 8) (h : b < 2 ^ m) : msk (ptsB b) = b := by
  apply eq_of_bits
  intro i
  unfold ptsB
  rw [msk_bit (asc_filter _), decide_eq_true_eq, List.mem_filter, List.mem_range]
  refine ⟨fun x => x.2, fun x => ⟨?_, x⟩⟩
  rcases Nat.lt_or_ge i m with c | c
  · omega
  · rw [Nat.testBit_lt_two_pow (Nat.lt_of_lt_of_le h (Nat.pow_le_pow_right (by decide) c))] at x
    cases x
theorem lot_rows {m : Nat} {l : List Nat} (h1 : 2 ≤ m) (h2 : m ≤ 5) (h : Lot m l) : l ∈ rowsL m := by
  rw [mem_rows, ← rows_pts h1 h2]
  exact List.mem_map.mpr ⟨msk l, List.mem_range.mpr (msk_lt h.asc h.in_), pts_msk (m := m) (by omega) h⟩
/-- sorted with the key (len(lot), lot) -/
theorem sortk_rows (ls : List (List Nat)) : ((sortBy (fun p q : PV × PV => PV.lt p.1 q.1) ((ls.map prow).zip (ls.map pvI))).map Prod.snd) = (ls.mergeSort leR).map pvI := by
  have e : (ls.map prow).zip (ls.map pvI) = ls.map fun l => (prow l, pvI l) := by
    induction ls with
    | nil => rfl
    | cons x l ih => rw [List.map_cons, List.map_cons, List.map_cons, List.zip_cons_cons, ih]
  rw [e]
  unfold sortBy
  rw [← List.map_mergeSort (r := leR) (f := fun l => (prow l, pvI l)) (s := fun a b => !PV.lt b.1 a.1) (fun a _ b _ => rfl), List.map_map]
  rfl
theorem sortOk_sub {xs ys : List PV} (s : ys.Sublist xs) (h : sortOk xs = true) : sortOk ys = true := by
  unfold sortOk at *
  rw [Bool.and_eq_true] at *
  obtain ⟨h1, h2⟩ := h
  constructor
  · rw [List.all_eq_true] at *
    intro x hx
    have := h1 x (s.subset hx)
    rw [Bool.and_eq_true] at *
    refine ⟨this.1, ?_⟩
    rw [List.all_eq_true]
    intro y hy
    exact List.all_eq_true.mp this.2 y (s.subset hy)
  · rw [Bool.or_eq_true] at *
    refine h2.imp (fun h => ?_) fun h => ?_
    · rw [List.all_eq_true] at *
      intro x hx
      exact h x (s.subset hx)
    · rw [List.all_eq_true] at *
      intro x hx
      exact h x (s.subset hx)
end LP
namespace LP
open MP
section
variable {m : Nat} {E : List (Nat × Nat)}
theorem msk_inj {l k : List Nat} (hm : m ≤ 8) (hl : Lot m l) (hk : Lot m k) : decide (msk l = msk k) = decide (l = k) := by
  rw [Bool.eq_iff_iff, decide_eq_true_eq, decide_eq_true_eq]
  exact ⟨fun e => by rw [← pts_msk hm hl, e, pts_msk hm hk], fun e => by rw [e]⟩
variable (n : Nat) (st : Store)
theorem m_kept (F : Fld m E) {l : List Nat} (h : Lot m l) : callF P (n + 2) 22 [obj m E, nI (msk l)] st = .ok (nI (msk (keptL m E l))) st := by
  have e := m_defended n st (E := E) F.hi (msk_lt h.asc h.in_)
  rw [dfd_eq F h] at e
  exact e
theorem pts (hm : m ≤ 8) {l : List Nat} (h : Lot m l) : callF P (n + 1) 14 [nI (msk l)] st = .ok (pvI l) st := by
  have e := points_in n st (msk l)
  rw [pts_msk hm h] at e
  exact e
theorem md_def : methOf P st 7 (obj m E) = some 22 := meth_obj st rfl (by decide)
theorem md_held : methOf P st 6 (obj m E) = some 23 := meth_obj st rfl (by decide)
theorem md_every : methOf P st 8 (obj m E) = some 20 := meth_obj st rfl (by decide)
theorem neg1 {cf : Nat → List PV → Store → Res PV} {env : Env} : evalE P cf (.neg (.con (.int 1))) env st = .ok (.int (-1)) st := by simp -implicitDefEqProofs only [turnE, turnS, bindT, List.length_cons, List.length_nil, Nat.reduceAdd, Nat.reduceLT, if_true, Bool.false_eq_true, if_false, List.set_cons_succ, List.set_cons_zero, List.getElem?_cons_zero, List.getElem?_cons_succ, ev_var, ev_con, ev_tup, ev_lst, ev_bin, ev_cmp, ev_chn, ev_and, ev_or, ev_not, ev_neg, ev_ite, ev_idx, ev_call, ev_callk, ev_pr1, ev_pr2, ev_isi, ev_comp, es_cons, es_nil, ex_cons, ex_nil, ex_asg, ex_exp, ex_ret, ex_iff, ex_pass, as_var, as_tup, as_nil, as_cons, Res.bind_ok, Res.opt_some, der_int, der_bl, der_non, der_str, der_tup, der_lst, der_set, walk_tup, walk_lst, Option.bind_some, Option.map_some, p1_tuple, p1_tuple', p1_list, p1_list', p1_len, p1_len', p1_len2, p1_int, p1_abs, p1_intb, Res.bind_ok]
theorem every (hm : m ≤ 5) : callF P (n + 1) 20 [obj m E] st = .ok (.lst ((List.range (2 ^ m)).map nI)) st := by
  have h3 := f3 (cf := callF P n) (env := [some (obj m E)]) (st := st) (st1 := st) (o := .var 0) (E := E) (m := m) (var_ok rfl)
  have hl : (((un (ontoL m E) [0]).map nI).length : Int) = ((2 ^ m : Nat) : Int) := by rw [List.length_map, un_len, ontoL_len]
  have hr := rng0 (P := P) (cf := callF P n) (env := [some (obj m E)]) (st := st) (st' := st) (hi := .pr1 .len (.fld 3 (.var 0))) (k := 2 ^ m) (by simp -implicitDefEqProofs only [turnE, turnS, bindT, List.length_cons, List.length_nil, Nat.reduceAdd, Nat.reduceLT, if_true, Bool.false_eq_true, if_false, List.set_cons_succ, List.set_cons_zero, List.getElem?_cons_zero, List.getElem?_cons_succ, ev_var, ev_con, ev_tup, ev_lst, ev_bin, ev_cmp, ev_chn, ev_and, ev_or, ev_not, ev_neg, ev_ite, ev_idx, ev_call, ev_callk, ev_pr1, ev_pr2, ev_isi, ev_comp, es_cons, es_nil, ex_cons, ex_nil, ex_asg, ex_exp, ex_ret, ex_iff, ex_pass, as_var, as_tup, as_nil, as_cons, Res.bind_ok, Res.opt_some, der_int, der_bl, der_non, der_str, der_tup, der_lst, der_set, walk_tup, walk_lst, Option.bind_some, Option.map_some, p1_tuple, p1_tuple', p1_list, p1_list', p1_len, p1_len', p1_len2, p1_int, p1_abs, p1_intb, h3, hl]) (by have := pow_small hm; omega)
  rw [c20]
  unfold b20
  simp -implicitDefEqProofs only [turnE, turnS, bindT, List.length_cons, List.length_nil, Nat.reduceAdd, Nat.reduceLT, if_true, Bool.false_eq_true, if_false, List.set_cons_succ, List.set_cons_zero, List.getElem?_cons_zero, List.getElem?_cons_succ, ev_var, ev_con, ev_tup, ev_lst, ev_bin, ev_cmp, ev_chn, ev_and, ev_or, ev_not, ev_neg, ev_ite, ev_idx, ev_call, ev_callk, ev_pr1, ev_pr2, ev_isi, ev_comp, es_cons, es_nil, ex_cons, ex_nil, ex_asg, ex_exp, ex_ret, ex_iff, ex_pass, as_var, as_tup, as_nil, as_cons, Res.bind_ok, Res.opt_some, der_int, der_bl, der_non, der_str, der_tup, der_lst, der_set, walk_tup, walk_lst, Option.bind_some, Option.map_some, p1_tuple, p1_tuple', p1_list, p1_list', p1_len, p1_len', p1_len2, p1_int, p1_abs, p1_intb, hr]
def mL (m : Nat) (E : List (Nat × Nat)) (k : Nat) : List Nat := (List.range (k + 1)).map fun j => msk (itK m E j)
theorem mL_succ (k : Nat) : mL m E (k + 1) = mL m E k ++ [msk (itK m E (k + 1))] := by
  unfold mL
  rw [List.range_succ, List.map_append]; rfl
theorem mL_last (k : Nat) : ∃ xs, (mL m E k).map nI = xs ++ [nI (msk (itK m E k))] := by
  unfold mL
  rw [List.range_succ, List.map_append, List.map_append]
  exact ⟨_, rfl⟩
theorem mL_len (k : Nat) : (mL m E k).length = k + 1 := by unfold mL; rw [List.length_map, List.length_range]
abbrev dC : IE := .meth 7 (.var 0) (.cons (.idx (.var 1) (.neg (.con (.int 1)))) .nil)
abbrev dT : IE := .idx (.var 1) (.neg (.con (.int 1)))
theorem step_loop (F : Fld m E) {r : Nat} (hr : r ≤ m) (h1 : ∀ j, j < r → itK m E (j + 1) ≠ itK m E j) (h2 : itK m E (r + 1) = itK m E r) : ∀ (d k fuel : Nat), k + d = r → d + 1 ≤ fuel →
    exec P (callF P (n + 2)) (.whl fuel (.cmp .ne dC dT) (.cons (.exp (.append (.var 1) dC)) .nil)) [some (obj m E), some (.ref st.length)] (st ++ [.lst ((mL m E k).map nI)]) =
    .ok (.nx [some (obj m E), some (.ref st.length)]) (st ++ [.lst ((mL m E r).map nI)]) := by
  have h5 := F.hi
  have hcond : ∀ k, evalE P (callF P (n + 2)) dT [some (obj m E), some (.ref st.length)] (st ++ [.lst ((mL m E k).map nI)]) = .ok (nI (msk (itK m E k))) (st ++ [.lst ((mL m E k).map nI)]) ∧ evalE P (callF P (n + 2)) dC [some (obj m E), some (.ref st.length)] (st ++ [.lst ((mL m E k).map nI)]) = .ok (nI (msk (itK m E (k + 1)))) (st ++ [.lst ((mL m E k).map nI)]) := by
    intro k
    obtain ⟨xs, hx⟩ := mL_last (m := m) (E := E) k
    have hd : der (st ++ [.lst ((mL m E k).map nI)]) (.ref st.length) = .lst ((mL m E k).map nI) := der_app (k := 0) rfl
    have hT : evalE P (callF P (n + 2)) dT [some (obj m E), some (.ref st.length)] (st ++ [.lst ((mL m E k).map nI)]) = .ok (nI (msk (itK m E k))) (st ++ [.lst ((mL m E k).map nI)]) := by
      rw [ev_idx, var_ok rfl, Res.bind_ok, neg1, Res.bind_ok, hd, hx, idx_last]; rfl
    refine ⟨hT, ?_⟩
    rw [ev_meth, var_ok rfl, Res.bind_ok, md_def]
    simp only []
    rw [es_ok hT es_nil, Res.bind_ok]
    exact m_kept n _ F (it_lot k)
  intro d
  induction d with
  | zero =>
    intro k fuel hk hf
    obtain ⟨fuel, rfl⟩ : ∃ f, fuel = f + 1 := ⟨fuel - 1, by omega⟩
    obtain rfl : k = r := by omega
    obtain ⟨a, b⟩ := hcond k
    rw [ex_whl, whileL, ev_cmp, b, Res.bind_ok, a, Res.bind_ok, h2]
    simp [asBool]
  | succ d ih =>
    intro k fuel hk hf
    obtain ⟨fuel, rfl⟩ : ∃ f, fuel = f + 1 := ⟨fuel - 1, by omega⟩
    obtain ⟨a, b⟩ := hcond k
    have hne := h1 k (by omega)
    have hm : decide ((msk (itK m E (k + 1)) : Int) = (msk (itK m E k) : Int)) = false := by
      rw [cast_eqN, msk_inj (m := m) (by omega) (it_lot (k + 1)) (it_lot k)]
      exact decide_eq_false hne
    have hl : lstAt (st ++ [.lst ((mL m E k).map nI)]) (.ref st.length) = some (st.length, (mL m E k).map nI) := by
      simp only [lstAt, app_get0]; rfl
    have happ : evalE P (callF P (n + 2)) (.append (.var 1) dC) [some (obj m E), some (.ref st.length)] (st ++ [.lst ((mL m E k).map nI)]) = .ok .non (st ++ [.lst ((mL m E (k + 1)).map nI)]) := by
      rw [ev_append, var_ok rfl]
      simp only [Res.bind_ok, hl, Option.isSome_some, if_true, b]
      rw [if_pos (by rw [List.length_map, mL_len]; unfold lim; omega), app_set0, mL_succ]
      simp
    have := ih (k + 1) fuel (by omega) (by omega)
    rw [ex_whl, whileL, ev_cmp, b, Res.bind_ok, a, Res.bind_ok]
    simp only [der_int, cmp_ne_int, hm, Bool.not_false, Res.opt_some, Res.bind_ok, asBool, if_true, ex_cons, ex_exp, happ, ex_nil]
    rw [ex_whl] at this
    exact this
theorem step_bits (F : Fld m E) {r : Nat} (hr : r ≤ m) (h1 : ∀ j, j < r → itK m E (j + 1) ≠ itK m E j) (h2 : itK m E (r + 1) = itK m E r) : callF P (n + 3) 26 [obj m E] st = .ok (.lst ((mL m E r).map nI)) st := by
  have h5 := F.hi
  have s1 : exec P (callF P (n + 2)) (.asg (.var 1) (.nw (.lst (.cons (.con (.int 0)) .nil)))) [some (obj m E), none] st = .ok (.nx [some (obj m E), some (.ref st.length)]) (st ++ [.lst ((mL m E 0).map nI)]) := by
    simp -implicitDefEqProofs only [turnE, turnS, bindT, List.length_cons, List.length_nil, Nat.reduceAdd, Nat.reduceLT, if_true, Bool.false_eq_true, if_false, List.set_cons_succ, List.set_cons_zero, List.getElem?_cons_zero, List.getElem?_cons_succ, ev_var, ev_con, ev_tup, ev_lst, ev_bin, ev_cmp, ev_chn, ev_and, ev_or, ev_not, ev_neg, ev_ite, ev_idx, ev_call, ev_callk, ev_pr1, ev_pr2, ev_isi, ev_comp, es_cons, es_nil, ex_cons, ex_nil, ex_asg, ex_exp, ex_ret, ex_iff, ex_pass, as_var, as_tup, as_nil, as_cons, Res.bind_ok, Res.opt_some, der_int, der_bl, der_non, der_str, der_tup, der_lst, der_set, walk_tup, walk_lst, Option.bind_some, Option.map_some, p1_tuple, p1_tuple', p1_list, p1_list', p1_len, p1_len', p1_len2, p1_int, p1_abs, p1_intb, ev_nw]
    rfl
  have s2 := step_loop n st F hr h1 h2 r 0 64 (by omega) (by omega)
  have s3 : exec P (callF P (n + 2)) (.cons (.ret (.var 1)) .nil) [some (obj m E), some (.ref st.length)] (st ++ [.lst ((mL m E r).map nI)]) = .ok (.rt (.ref st.length)) (st ++ [.lst ((mL m E r).map nI)]) := by
    simp -implicitDefEqProofs only [turnE, turnS, bindT, List.length_cons, List.length_nil, Nat.reduceAdd, Nat.reduceLT, if_true, Bool.false_eq_true, if_false, List.set_cons_succ, List.set_cons_zero, List.getElem?_cons_zero, List.getElem?_cons_succ, ev_var, ev_con, ev_tup, ev_lst, ev_bin, ev_cmp, ev_chn, ev_and, ev_or, ev_not, ev_neg, ev_ite, ev_idx, ev_call, ev_callk, ev_pr1, ev_pr2, ev_isi, ev_comp, es_cons, es_nil, ex_cons, ex_nil, ex_asg, ex_exp, ex_ret, ex_iff, ex_pass, as_var, as_tup, as_nil, as_cons, Res.bind_ok, Res.opt_some, der_int, der_bl, der_non, der_str, der_tup, der_lst, der_set, walk_tup, walk_lst, Option.bind_some, Option.map_some, p1_tuple, p1_tuple', p1_list, p1_list', p1_len, p1_len', p1_len2, p1_int, p1_abs, p1_intb, Res.bind_ok]
  have hb : exec P (callF P (n + 2)) b26 [some (obj m E), none] st = _ := ex_seq s1 (ex_seq s2 s3)
  rw [c26, hb, Res.bind_ok]
  show gcAt st (.ref st.length) _ = _
  unfold gcAt
  rw [List.take_left' rfl, if_pos rfl]
  have ht : thaw (st ++ [.lst ((mL m E r).map nI)]) st.length (999999 + 1) (.ref st.length) = some (.lst ((mL m E r).map nI)) := thaw_ref _ _ _ _ _ (Nat.le_refl _) (by rw [app_get0]; rfl) (by rw [mL_len]; omega)
  have ht : thaw (st ++ [.lst ((mL m E r).map nI)]) st.length 1000000 (.ref st.length) = some (.lst ((mL m E r).map nI)) := ht
  rw [ht]
def riseV (m : Nat) (E : List (Nat × Nat)) (r : Nat) : List PV := (List.range (r + 1)).map fun j => pvI (itK m E j)
theorem riseV_succ (k : Nat) : riseV m E (k + 1) = riseV m E k ++ [pvI (itK m E (k + 1))] := by
  unfold riseV
  rw [List.range_succ, List.map_append]; rfl
theorem riseV_last (k : Nat) : ∃ xs, riseV m E k = xs ++ [pvI (itK m E k)] := by
  unfold riseV
  rw [List.range_succ, List.map_append]
  exact ⟨_, rfl⟩
theorem steps_by (F : Fld m E) {r : Nat} (hr : r ≤ m) (h1 : ∀ j, j < r → itK m E (j + 1) ≠ itK m E j) (h2 : itK m E (r + 1) = itK m E r) : callF P (n + 4) 27 [pvF m E] st = .ok (.tup (riseV m E r)) st := by
  have h5 := F.hi
  have e1 := make_obj (n + 1) st F (env := [some (pvF m E), none]) rfl
  have e2 := step_bits n st F hr h1 h2
  have hc : ∀ env : Env, env = [some (pvF m E), none] → compL (turnE P (callF P (n + 3)) (.var 1) (.con (.bl true)) (.call 14 (.cons (.var 1) .nil)) env) (fun _ => true) ((mL m E r).map nI) st = .ok (riseV m E r) st := by
    rintro env rfl
    have e : (mL m E r).map nI = (List.range (r + 1)).map fun j => nI (msk (itK m E j)) := by unfold mL; rw [List.map_map]; rfl
    rw [e]
    refine compL_map (by rfl) fun k hk => ?_
    have e3 := pts (n + 2) st (m := m) (by omega) (it_lot (E := E) k)
    simp -implicitDefEqProofs only [turnE, turnS, bindT, List.length_cons, List.length_nil, Nat.reduceAdd, Nat.reduceLT, if_true, Bool.false_eq_true, if_false, List.set_cons_succ, List.set_cons_zero, List.getElem?_cons_zero, List.getElem?_cons_succ, ev_var, ev_con, ev_tup, ev_lst, ev_bin, ev_cmp, ev_chn, ev_and, ev_or, ev_not, ev_neg, ev_ite, ev_idx, ev_call, ev_callk, ev_pr1, ev_pr2, ev_isi, ev_comp, es_cons, es_nil, ex_cons, ex_nil, ex_asg, ex_exp, ex_ret, ex_iff, ex_pass, as_var, as_tup, as_nil, as_cons, Res.bind_ok, Res.opt_some, der_int, der_bl, der_non, der_str, der_tup, der_lst, der_set, walk_tup, walk_lst, Option.bind_some, Option.map_some, p1_tuple, p1_tuple', p1_list, p1_list', p1_len, p1_len', p1_len2, p1_int, p1_abs, p1_intb, e3]
  have hc := hc _ rfl
  rw [c27]
  unfold b27
  simp -implicitDefEqProofs only [turnE, turnS, bindT, List.length_cons, List.length_nil, Nat.reduceAdd, Nat.reduceLT, if_true, Bool.false_eq_true, if_false, List.set_cons_succ, List.set_cons_zero, List.getElem?_cons_zero, List.getElem?_cons_succ, ev_var, ev_con, ev_tup, ev_lst, ev_bin, ev_cmp, ev_chn, ev_and, ev_or, ev_not, ev_neg, ev_ite, ev_idx, ev_call, ev_callk, ev_pr1, ev_pr2, ev_isi, ev_comp, es_cons, es_nil, ex_cons, ex_nil, ex_asg, ex_exp, ex_ret, ex_iff, ex_pass, as_var, as_tup, as_nil, as_cons, Res.bind_ok, Res.opt_some, der_int, der_bl, der_non, der_str, der_tup, der_lst, der_set, walk_tup, walk_lst, Option.bind_some, Option.map_some, p1_tuple, p1_tuple', p1_list, p1_list', p1_len, p1_len', p1_len2, p1_int, p1_abs, p1_intb, e1, e2, hc]
theorem ground_by (F : Fld m E) {r : Nat} (hr : r ≤ m) (h1 : ∀ j, j < r → itK m E (j + 1) ≠ itK m E j) (h2 : itK m E (r + 1) = itK m E r) : callF P (n + 5) 28 [pvF m E] st = .ok (pvI (itK m E r)) st := by
  have e1 := steps_by n st F hr h1 h2
  obtain ⟨xs, hx⟩ := riseV_last (m := m) (E := E) r
  rw [hx] at e1
  rw [c28]
  unfold b28
  simp -implicitDefEqProofs only [turnE, turnS, bindT, List.length_cons, List.length_nil, Nat.reduceAdd, Nat.reduceLT, if_true, Bool.false_eq_true, if_false, List.set_cons_succ, List.set_cons_zero, List.getElem?_cons_zero, List.getElem?_cons_succ, ev_var, ev_con, ev_tup, ev_lst, ev_bin, ev_cmp, ev_chn, ev_and, ev_or, ev_not, ev_neg, ev_ite, ev_idx, ev_call, ev_callk, ev_pr1, ev_pr2, ev_isi, ev_comp, es_cons, es_nil, ex_cons, ex_nil, ex_asg, ex_exp, ex_ret, ex_iff, ex_pass, as_var, as_tup, as_nil, as_cons, Res.bind_ok, Res.opt_some, der_int, der_bl, der_non, der_str, der_tup, der_lst, der_set, walk_tup, walk_lst, Option.bind_some, Option.map_some, p1_tuple, p1_tuple', p1_list, p1_list', p1_len, p1_len', p1_len2, p1_int, p1_abs, p1_intb, e1, neg1, idx_lastT]
theorem ground (F : Fld m E) {r : Nat} (hr : r ≤ m) (h1 : ∀ j, j < r → itK m E (j + 1) ≠ itK m E j) (h2 : itK m E (r + 1) = itK m E r) : callF P (n + 7) 29 [pvF m E] st = .ok (pvI (itK m E r)) st := by
  have e0 := chk_field n st F
  have e1 := ground_by (n + 1) st F hr h1 h2
  rw [c29]
  unfold b29
  simp -implicitDefEqProofs only [turnE, turnS, bindT, List.length_cons, List.length_nil, Nat.reduceAdd, Nat.reduceLT, if_true, Bool.false_eq_true, if_false, List.set_cons_succ, List.set_cons_zero, List.getElem?_cons_zero, List.getElem?_cons_succ, ev_var, ev_con, ev_tup, ev_lst, ev_bin, ev_cmp, ev_chn, ev_and, ev_or, ev_not, ev_neg, ev_ite, ev_idx, ev_call, ev_callk, ev_pr1, ev_pr2, ev_isi, ev_comp, es_cons, es_nil, ex_cons, ex_nil, ex_asg, ex_exp, ex_ret, ex_iff, ex_pass, as_var, as_tup, as_nil, as_cons, Res.bind_ok, Res.opt_some, der_int, der_bl, der_non, der_str, der_tup, der_lst, der_set, walk_tup, walk_lst, Option.bind_some, Option.map_some, p1_tuple, p1_tuple', p1_list, p1_list', p1_len, p1_len', p1_len2, p1_int, p1_abs, p1_intb, e0, e1]
theorem steps (F : Fld m E) {r : Nat} (hr : r ≤ m) (h1 : ∀ j, j < r → itK m E (j + 1) ≠ itK m E j) (h2 : itK m E (r + 1) = itK m E r) : callF P (n + 7) 30 [pvF m E] st = .ok (.tup (riseV m E r)) st := by
  have e0 := chk_field n st F
  have e1 := steps_by (n + 2) st F hr h1 h2
  rw [c30]
  unfold b30
  simp -implicitDefEqProofs only [turnE, turnS, bindT, List.length_cons, List.length_nil, Nat.reduceAdd, Nat.reduceLT, if_true, Bool.false_eq_true, if_false, List.set_cons_succ, List.set_cons_zero, List.getElem?_cons_zero, List.getElem?_cons_succ, ev_var, ev_con, ev_tup, ev_lst, ev_bin, ev_cmp, ev_chn, ev_and, ev_or, ev_not, ev_neg, ev_ite, ev_idx, ev_call, ev_callk, ev_pr1, ev_pr2, ev_isi, ev_comp, es_cons, es_nil, ex_cons, ex_nil, ex_asg, ex_exp, ex_ret, ex_iff, ex_pass, as_var, as_tup, as_nil, as_cons, Res.bind_ok, Res.opt_some, der_int, der_bl, der_non, der_str, der_tup, der_lst, der_set, walk_tup, walk_lst, Option.bind_some, Option.map_some, p1_tuple, p1_tuple', p1_list, p1_list', p1_len, p1_len', p1_len2, p1_int, p1_abs, p1_intb, e0, e1]
end
end LP
namespace LP
open MP
abbrev gS : PV := .str [103, 114, 111, 117, 110, 100]
abbrev wS : PV := .str [119, 104, 111, 108, 101]
theorem any_lots (ls : List (List Nat)) (l : List Nat) : ((ls.map pvI).any fun y => PV.eqv y (pvI l)) = decide (l ∈ ls) := by
  induction ls with
  | nil => rfl
  | cons d E ih =>
    rw [List.map_cons, List.any_cons, ih]
    have : PV.eqv (pvI d) (pvI l) = decide (d = l) := by
      unfold pvI
      rw [PV.eqv]
      exact eqvs_ints d l
    rw [this]
    by_cases h : d = l
    · subst h; simp
    · have h2 : ¬ l = d := Ne.symm h
      simp [h, h2]
theorem isDs_lots (ls : List (List Nat)) : PV.isDs (ls.map pvI) = true ∧ ((ls.map pvI).all fun x => PV.depth0 1 x) = true := by
  induction ls with
  | nil => exact ⟨rfl, rfl⟩
  | cons l ls ih =>
    have h := depthOk_ints l
    rw [List.map_cons, PV.isDs, List.all_cons, ih.1, ih.2, Bool.and_true, Bool.and_true]
    unfold depthOk at h
    rw [Bool.and_eq_true] at h
    refine ⟨h.1, ?_⟩
    unfold pvI
    rw [PV.depth0, List.all_eq_true]
    intro x hx
    obtain ⟨i, _, rfl⟩ := List.mem_map.mp hx
    rfl
theorem depth_up : ∀ (v : PV) (a b : Nat), a ≤ b → PV.depth0 a v = true → PV.depth0 b v = true := by
  intro v a
  induction a generalizing v with
  | zero => intro b hb h; cases b <;> cases v <;> simp_all [PV.depth0]
  | succ a ih =>
    intro b hb h
    obtain ⟨b, rfl⟩ : ∃ c, b = c + 1 := ⟨b - 1, by omega⟩
    cases v <;> simp_all [PV.depth0]
    all_goals intro x hx; exact ih x b hb (h x hx)
theorem depthOk_lotsT (ls : List (List Nat)) : depthOk (.tup (ls.map pvI)) = true := by
  obtain ⟨h1, h2⟩ := isDs_lots ls
  unfold depthOk
  rw [PV.isD, h1, Bool.true_and, PV.depth0]
  rw [List.all_eq_true] at h2 ⊢
  exact fun x hx => depth_up x 1 59 (by decide) (h2 x hx)
theorem depthOk_lotsL (ls : List (List Nat)) : depthOk (.lst (ls.map pvI)) = true := by
  obtain ⟨h1, h2⟩ := isDs_lots ls
  unfold depthOk
  rw [PV.isD, h1, Bool.true_and, PV.depth0]
  rw [List.all_eq_true] at h2 ⊢
  exact fun x hx => depth_up x 1 59 (by decide) (h2 x hx)
theorem isin_lotsT (l : List Nat) (ls : List (List Nat)) : cmpop .isin (pvI l) (.tup (ls.map pvI)) = some (decide (l ∈ ls)) := by
  have h : depthOk (pvI l) = true := depthOk_ints l
  simp only [cmpop]
  rw [h, depthOk_lotsT, any_lots]; rfl
theorem isin_lotsL (l : List Nat) (ls : List (List Nat)) : cmpop .isin (pvI l) (.lst (ls.map pvI)) = some (decide (l ∈ ls)) := by
  have h : depthOk (pvI l) = true := depthOk_ints l
  simp only [cmpop]
  rw [h, depthOk_lotsL, any_lots]; rfl
theorem cmp_ne_same {v : PV} (h : depthOk v = true) : cmpop .ne v v = some false := by
  have hv : PV.isD v = true := by unfold depthOk at h; rw [Bool.and_eq_true] at h; exact h.1
  cases v <;> simp only [cmpop, h, eqv_refl _ hv] <;> simp
theorem ne_lotsT (ls : List (List Nat)) : cmpop .ne (.tup (ls.map pvI)) (.tup (ls.map pvI)) = some false := cmp_ne_same (depthOk_lotsT ls)
theorem ne_pvI (l k : List Nat) : cmpop .ne (pvI l) (pvI k) = some (!decide (l = k)) := ne_tints l k
theorem eq_pvI (l k : List Nat) : cmpop .eq (pvI l) (pvI k) = some (decide (l = k)) := eq_tints l k
theorem cut_last {α : Type} (xs : List α) (y : α) : cut (xs ++ [y]) (some (-1)) none = [y] := by
  have e1 : cutIx (xs ++ [y]).length 0 (some (-1)) = xs.length := by
    show (if (-1 : Int) < 0 then ((-1 : Int) + ((xs ++ [y]).length : Nat)).toNat else min (-1 : Int).toNat (xs ++ [y]).length) = _
    rw [if_pos (by decide), List.length_append, List.length_singleton]
    omega
  have e2 : cutIx (xs ++ [y]).length (xs ++ [y]).length none = xs.length + 1 := by
    show (xs ++ [y]).length = _
    rw [List.length_append, List.length_singleton]
  unfold cut
  rw [e1, e2]
  simp
def hB (m : Nat) (E : List (Nat × Nat)) (l : List Nat) : Bool := calmB m E l && withB l (keptL m E l)
def wB (m : Nat) (E : List (Nat × Nat)) (l : List Nat) : Bool := calmB m E l && decide (keptL m E l = l)
theorem hw (m : Nat) (E : List (Nat × Nat)) (l : List Nat) : (hB m E l && decide (keptL m E l = l)) = wB m E l := by
  unfold hB wB
  by_cases h : keptL m E l = l
  · have : withB l (keptL m E l) = true := by rw [withB_iff, h]; exact fun _ h => h
    rw [this, Bool.and_true]
  · rw [decide_eq_false h, Bool.and_false, Bool.and_false]
def wholeN (m : Nat) (E : List (Nat × Nat)) : List Nat := (List.range (2 ^ m)).filter fun b => wB m E (ptsB b)
def wholeR (m : Nat) (E : List (Nat × Nat)) : List (List Nat) := (rowsL m).filter (wB m E)
section
variable {m : Nat} {E : List (Nat × Nat)}
theorem wB_iff {l : List Nat} : wB m E l = true ↔ calmB m E l = true ∧ keptL m E l = l := by
  unfold wB
  rw [Bool.and_eq_true, decide_eq_true_eq]
theorem wB_it {r : Nat} (h2 : itK m E (r + 1) = itK m E r) : wB m E (itK m E r) = true := wB_iff.mpr ⟨it_calm r, h2⟩
theorem wholeN_it {r : Nat} (hm : m ≤ 8) (h2 : itK m E (r + 1) = itK m E r) : msk (itK m E r) ∈ wholeN m E := by
  have L := it_lot (m := m) (E := E) r
  refine List.mem_filter.mpr ⟨List.mem_range.mpr (msk_lt L.asc L.in_), ?_⟩
  unfold ptsB
  rw [pts_msk hm L]
  exact wB_it h2
theorem wholeR_it {r : Nat} (F : Fld m E) (h2 : itK m E (r + 1) = itK m E r) : itK m E r ∈ wholeR m E := List.mem_filter.mpr ⟨lot_rows F.lo F.hi (it_lot r), wB_it h2⟩
theorem whole_pts (F : Fld m E) : (wholeN m E).map ptsB = (allR m).filter (wB m E) := by
  rw [← rows_pts F.lo F.hi, List.filter_map]
  rfl
theorem whole_head {r : Nat} (F : Fld m E) (h2 : itK m E (r + 1) = itK m E r) : ∃ ls, wholeR m E = itK m E r :: ls := by
  have hin := wholeR_it F h2
  have hasc : (wholeR m E).Pairwise (fun a b => a.length ≤ b.length) := rows_asc F.lo F.hi (wB m E)
  cases hW : wholeR m E with
  | nil => rw [hW] at hin; cases hin
  | cons w ls =>
    refine ⟨ls, ?_⟩
    have hw : w ∈ wholeR m E := by rw [hW]; exact List.mem_cons_self
    have hw' := List.mem_filter.mp hw
    have Lw := rowsL_lot F.lo F.hi w hw'.1
    have s := asc_sub (it_lot (m := m) (E := E) r).asc Lw.asc (it_least (wB_iff.mp hw'.2).2 r)
    rw [hW] at hin hasc
    have hl : w.length ≤ (itK m E r).length := by
      rcases List.mem_cons.mp hin with e | h
      · rw [e]; exact Nat.le_refl _
      · exact (List.pairwise_cons.mp hasc).1 _ h
    rw [s.eq_of_length (Nat.le_antisymm s.length_le hl)]
theorem fold_bit : ∀ (ws : List Nat) (a i : Nat), (ws.foldl (· &&& ·) a).testBit i = true ↔ a.testBit i = true ∧ ∀ w ∈ ws, w.testBit i = true
  | [], a, i => by simp
  | w :: ws, a, i => by
    rw [List.foldl_cons, fold_bit ws (a &&& w) i, Nat.testBit_and]
    simp [and_assoc]
theorem whole_fold {r : Nat} (F : Fld m E) (h2 : itK m E (r + 1) = itK m E r) : ∃ w ws, wholeN m E = w :: ws ∧ (w :: ws).foldl (· &&& ·) w = msk (itK m E r) := by
  have h5 := F.hi
  have hin := wholeN_it (m := m) (E := E) (r := r) (by omega) h2
  cases hW : wholeN m E with
  | nil => rw [hW] at hin; cases hin
  | cons w ws =>
    refine ⟨w, ws, rfl, ?_⟩
    apply eq_of_bits
    intro i
    rw [fold_bit]
    rw [hW] at hin
    have L := it_lot (m := m) (E := E) r
    constructor
    · exact fun h => h.2 _ hin
    · intro h
      have : ∀ b ∈ w :: ws, b.testBit i = true := by
        intro b hb
        rw [← hW] at hb
        obtain ⟨hb1, hb2⟩ := List.mem_filter.mp hb
        rw [msk_bit L.asc, decide_eq_true_eq] at h
        have := it_least (wB_iff.mp hb2).2 r i h
        exact (List.mem_filter.mp this).2
      exact ⟨this w List.mem_cons_self, this⟩
variable (n : Nat) (st : Store)
theorem held_bits (F : Fld m E) : callF P (n + 3) 31 [obj m E] st = .ok (.lst (((List.range (2 ^ m)).filter fun b => hB m E (ptsB b)).map nI)) st := by
  have h5 := F.hi
  have e1 := every (n + 1) st (E := E) h5
  have hc : ∀ env : Env, env = [some (obj m E), none] → compL (turnE P (callF P (n + 2)) (.var 1) (.meth 6 (.var 0) (.cons (.var 1) .nil)) (.var 1) env) (fun _ => true) ((List.range (2 ^ m)).map nI) st = .ok (((List.range (2 ^ m)).filter fun b => hB m E (ptsB b)).map nI) st := by
    rintro env rfl
    refine compL_filter (by rfl) fun b hb => ?_
    have hb := List.mem_range.mp hb
    have e2 := m_held n st (E := E) hb
    have L := pts_lot hb
    have q1 := quiet_eq F L
    have q2 := held_eq F L
    rw [msk_pts (by omega) hb] at q1 q2
    rw [q1, q2] at e2
    simp -implicitDefEqProofs only [turnE, turnS, bindT, List.length_cons, List.length_nil, Nat.reduceAdd, Nat.reduceLT, if_true, Bool.false_eq_true, if_false, List.set_cons_succ, List.set_cons_zero, List.getElem?_cons_zero, List.getElem?_cons_succ, ev_var, ev_con, ev_tup, ev_lst, ev_bin, ev_cmp, ev_chn, ev_and, ev_or, ev_not, ev_neg, ev_ite, ev_idx, ev_call, ev_callk, ev_pr1, ev_pr2, ev_isi, ev_comp, es_cons, es_nil, ex_cons, ex_nil, ex_asg, ex_exp, ex_ret, ex_iff, ex_pass, as_var, as_tup, as_nil, as_cons, Res.bind_ok, Res.opt_some, der_int, der_bl, der_non, der_str, der_tup, der_lst, der_set, walk_tup, walk_lst, Option.bind_some, Option.map_some, p1_tuple, p1_tuple', p1_list, p1_list', p1_len, p1_len', p1_len2, p1_int, p1_abs, p1_intb, ev_meth, md_held, e2]
    exact keep_if
  have hc := hc _ rfl
  rw [c31]
  unfold b31
  simp -implicitDefEqProofs only [turnE, turnS, bindT, List.length_cons, List.length_nil, Nat.reduceAdd, Nat.reduceLT, if_true, Bool.false_eq_true, if_false, List.set_cons_succ, List.set_cons_zero, List.getElem?_cons_zero, List.getElem?_cons_succ, ev_var, ev_con, ev_tup, ev_lst, ev_bin, ev_cmp, ev_chn, ev_and, ev_or, ev_not, ev_neg, ev_ite, ev_idx, ev_call, ev_callk, ev_pr1, ev_pr2, ev_isi, ev_comp, es_cons, es_nil, ex_cons, ex_nil, ex_asg, ex_exp, ex_ret, ex_iff, ex_pass, as_var, as_tup, as_nil, as_cons, Res.bind_ok, Res.opt_some, der_int, der_bl, der_non, der_str, der_tup, der_lst, der_set, walk_tup, walk_lst, Option.bind_some, Option.map_some, p1_tuple, p1_tuple', p1_list, p1_list', p1_len, p1_len', p1_len2, p1_int, p1_abs, p1_intb, ev_meth, md_every, e1, hc]
theorem whole_bits (F : Fld m E) : callF P (n + 4) 32 [obj m E] st = .ok (.lst ((wholeN m E).map nI)) st := by
  have h5 := F.hi
  have e1 := held_bits n st F
  have hc : ∀ env : Env, env = [some (obj m E), none] → compL (turnE P (callF P (n + 3)) (.var 1) (.cmp .eq (.meth 7 (.var 0) (.cons (.var 1) .nil)) (.var 1)) (.var 1) env) (fun _ => true) (((List.range (2 ^ m)).filter fun b => hB m E (ptsB b)).map nI) st = .ok ((((List.range (2 ^ m)).filter fun b => hB m E (ptsB b)).filter fun b => decide (keptL m E (ptsB b) = ptsB b)).map nI) st := by
    rintro env rfl
    refine compL_filter (by rfl) fun b hb => ?_
    have hb := List.mem_range.mp (List.mem_filter.mp hb).1
    have L := pts_lot hb
    have e2 := m_kept (n + 1) st F L
    have q := msk_inj (m := m) (by omega) (kept_lot (E := E) (l := ptsB b)) L
    rw [msk_pts (by omega) hb] at e2 q
    simp -implicitDefEqProofs only [turnE, turnS, bindT, List.length_cons, List.length_nil, Nat.reduceAdd, Nat.reduceLT, if_true, Bool.false_eq_true, if_false, List.set_cons_succ, List.set_cons_zero, List.getElem?_cons_zero, List.getElem?_cons_succ, ev_var, ev_con, ev_tup, ev_lst, ev_bin, ev_cmp, ev_chn, ev_and, ev_or, ev_not, ev_neg, ev_ite, ev_idx, ev_call, ev_callk, ev_pr1, ev_pr2, ev_isi, ev_comp, es_cons, es_nil, ex_cons, ex_nil, ex_asg, ex_exp, ex_ret, ex_iff, ex_pass, as_var, as_tup, as_nil, as_cons, Res.bind_ok, Res.opt_some, der_int, der_bl, der_non, der_str, der_tup, der_lst, der_set, walk_tup, walk_lst, Option.bind_some, Option.map_some, p1_tuple, p1_tuple', p1_list, p1_list', p1_len, p1_len', p1_len2, p1_int, p1_abs, p1_intb, ev_meth, md_def, e2, cmp_eq_int, cast_eqN, q]
    exact keep_if
  have hc := hc _ rfl
  have hf : (((List.range (2 ^ m)).filter fun b => hB m E (ptsB b)).filter fun b => decide (keptL m E (ptsB b) = ptsB b)) = wholeN m E := by
    unfold wholeN
    rw [List.filter_filter]
    refine List.filter_congr fun b _ => ?_
    rw [Bool.and_comm, hw]
  rw [hf] at hc
  rw [c32]
  unfold b32
  simp -implicitDefEqProofs only [turnE, turnS, bindT, List.length_cons, List.length_nil, Nat.reduceAdd, Nat.reduceLT, if_true, Bool.false_eq_true, if_false, List.set_cons_succ, List.set_cons_zero, List.getElem?_cons_zero, List.getElem?_cons_succ, ev_var, ev_con, ev_tup, ev_lst, ev_bin, ev_cmp, ev_chn, ev_and, ev_or, ev_not, ev_neg, ev_ite, ev_idx, ev_call, ev_callk, ev_pr1, ev_pr2, ev_isi, ev_comp, es_cons, es_nil, ex_cons, ex_nil, ex_asg, ex_exp, ex_ret, ex_iff, ex_pass, as_var, as_tup, as_nil, as_cons, Res.bind_ok, Res.opt_some, der_int, der_bl, der_non, der_str, der_tup, der_lst, der_set, walk_tup, walk_lst, Option.bind_some, Option.map_some, p1_tuple, p1_tuple', p1_list, p1_list', p1_len, p1_len', p1_len2, p1_int, p1_abs, p1_intb, e1, hc]
theorem bits_whole (F : Fld m E) : callF P (n + 5) 37 [obj m E, wS] st = .ok (.lst ((wholeN m E).map nI)) st := by
  have e1 := whole_bits n st F
  have q1 : cmpop .eq wS gS = some false := rfl
  have q2 : cmpop .isin wS (.tup [.str [113, 117, 105, 101, 116], .str [108, 111, 111, 115, 101], .str [115, 116, 97, 103, 101], .str [115, 116, 97, 98, 108, 101]]) = some false := by rfl
  have q3 : cmpop .isin wS (.tup [.str [104, 101, 108, 100], .str [109, 111, 115, 116]]) = some false := by rfl
  have q4 : cmpop .isin wS (.tup [wS, .str [119, 105, 100, 101]]) = some true := by rfl
  have q5 : cmpop .eq wS wS = some true := by rfl
  rw [c37]
  unfold b37
  simp -implicitDefEqProofs only [turnE, turnS, bindT, List.length_cons, List.length_nil, Nat.reduceAdd, Nat.reduceLT, if_true, Bool.false_eq_true, if_false, List.set_cons_succ, List.set_cons_zero, List.getElem?_cons_zero, List.getElem?_cons_succ, ev_var, ev_con, ev_tup, ev_lst, ev_bin, ev_cmp, ev_chn, ev_and, ev_or, ev_not, ev_neg, ev_ite, ev_idx, ev_call, ev_callk, ev_pr1, ev_pr2, ev_isi, ev_comp, es_cons, es_nil, ex_cons, ex_nil, ex_asg, ex_exp, ex_ret, ex_iff, ex_pass, as_var, as_tup, as_nil, as_cons, Res.bind_ok, Res.opt_some, der_int, der_bl, der_non, der_str, der_tup, der_lst, der_set, walk_tup, walk_lst, Option.bind_some, Option.map_some, p1_tuple, p1_tuple', p1_list, p1_list', p1_len, p1_len', p1_len2, p1_int, p1_abs, p1_intb, q1, q2, q3, q4, q5, e1]
theorem bits_ground (F : Fld m E) {r : Nat} (hr : r ≤ m) (h1 : ∀ j, j < r → itK m E (j + 1) ≠ itK m E j) (h2 : itK m E (r + 1) = itK m E r) : callF P (n + 4) 37 [obj m E, gS] st = .ok (.lst [nI (msk (itK m E r))]) st := by
  have e1 := step_bits n st F hr h1 h2
  obtain ⟨xs, hx⟩ := mL_last (m := m) (E := E) r
  rw [hx] at e1
  have q1 : cmpop .eq gS gS = some true := rfl
  have hs : slice1 (.lst (xs ++ [nI (msk (itK m E r))])) (some (-1)) none = some (.lst [nI (msk (itK m E r))]) := by
    show some (PV.lst (cut _ _ _)) = _
    rw [cut_last]
  have p1 : partOf (.neg (.con (.int 1))) (.int (-1)) = some (some (-1)) := rfl
  have p2 : ∀ v, partOf (.con .non) v = some none := fun _ => rfl
  rw [c37]
  unfold b37
  simp -implicitDefEqProofs only [turnE, turnS, bindT, List.length_cons, List.length_nil, Nat.reduceAdd, Nat.reduceLT, if_true, Bool.false_eq_true, if_false, List.set_cons_succ, List.set_cons_zero, List.getElem?_cons_zero, List.getElem?_cons_succ, ev_var, ev_con, ev_tup, ev_lst, ev_bin, ev_cmp, ev_chn, ev_and, ev_or, ev_not, ev_neg, ev_ite, ev_idx, ev_call, ev_callk, ev_pr1, ev_pr2, ev_isi, ev_comp, es_cons, es_nil, ex_cons, ex_nil, ex_asg, ex_exp, ex_ret, ex_iff, ex_pass, as_var, as_tup, as_nil, as_cons, Res.bind_ok, Res.opt_some, der_int, der_bl, der_non, der_str, der_tup, der_lst, der_set, walk_tup, walk_lst, Option.bind_some, Option.map_some, p1_tuple, p1_tuple', p1_list, p1_list', p1_len, p1_len', p1_len2, p1_int, p1_abs, p1_intb, q1, ev_slc, e1, neg1, p1, p2, hs]
theorem sort_lots {ls : List (List Nat)} {cf : Nat → List PV → Store → Res PV} {env : Env} (F : Fld m E) (ht : st[0]? = some (.tbl 0)) (hs : ls.Sublist (allR m)) (h2 : env[2]? = some (some (.lst (ls.map pvI)))) :
    evalE P cf (.sortk 0 (.var 2) (.tup (.cons (.pr1 .len (.var 0)) (.cons (.var 0) .nil)))) env st = .ok (.lst ((ls.mergeSort leR).map pvI)) st := by
  have hc : compL (fun x st => (evalE P cf (.tup (.cons (.pr1 .len (.var 0)) (.cons (.var 0) .nil))) [some x] st).bind fun y st' => if st' = st then .ok (some y) st else .bad) (fun _ => true) (ls.map pvI) st = .ok (ls.map prow) st := by
    refine compL_map (by rfl) fun l hl => ?_
    have hd : der st (pvI l) = .tup (l.map nI) := rfl
    simp -implicitDefEqProofs only [turnE, turnS, bindT, List.length_cons, List.length_nil, Nat.reduceAdd, Nat.reduceLT, if_true, Bool.false_eq_true, if_false, List.set_cons_succ, List.set_cons_zero, List.getElem?_cons_zero, List.getElem?_cons_succ, ev_var, ev_con, ev_tup, ev_lst, ev_bin, ev_cmp, ev_chn, ev_and, ev_or, ev_not, ev_neg, ev_ite, ev_idx, ev_call, ev_callk, ev_pr1, ev_pr2, ev_isi, ev_comp, es_cons, es_nil, ex_cons, ex_nil, ex_asg, ex_exp, ex_ret, ex_iff, ex_pass, as_var, as_tup, as_nil, as_cons, Res.bind_ok, Res.opt_some, der_int, der_bl, der_non, der_str, der_tup, der_lst, der_set, walk_tup, walk_lst, Option.bind_some, Option.map_some, p1_tuple, p1_tuple', p1_list, p1_list', p1_len, p1_len', p1_len2, p1_int, p1_abs, p1_intb, hd, List.length_map]
    rfl
  have ho := sortOk_sub (hs.map prow) (rows_ok F.lo F.hi).1
  rw [ev_sortk, var_ok h2, Res.bind_ok]
  simp only [der_lst, ht, if_true, hc, Res.bind_ok]
  rw [if_pos ⟨ho, by rw [List.length_map, List.length_map]⟩, sortk_rows]
theorem lots_whole (F : Fld m E) (ht : st[0]? = some (.tbl 0)) : callF P (n + 6) 38 [pvF m E, wS] st = .ok (.tup ((wholeR m E).map pvI)) st := by
  have h5 := F.hi
  have e1 := make_obj (n + 3) st F (env := [some (pvF m E), some wS, none, none]) rfl
  have e2 := bits_whole n st F
  have hc : ∀ env : Env, env = [some (pvF m E), some wS, none, none] → compL (turnE P (callF P (n + 5)) (.var 3) (.con (.bl true)) (.call 14 (.cons (.var 3) .nil)) env) (fun _ => true) ((wholeN m E).map nI) st = .ok (((allR m).filter (wB m E)).map pvI) st := by
    rintro env rfl
    have e : (((allR m).filter (wB m E)).map pvI) = (wholeN m E).map fun b => pvI (ptsB b) := by rw [← whole_pts F, List.map_map]; rfl
    rw [e]
    refine compL_map (by rfl) fun b hb => ?_
    have e3 := points_in (n + 4) st b
    simp -implicitDefEqProofs only [turnE, turnS, bindT, List.length_cons, List.length_nil, Nat.reduceAdd, Nat.reduceLT, if_true, Bool.false_eq_true, if_false, List.set_cons_succ, List.set_cons_zero, List.getElem?_cons_zero, List.getElem?_cons_succ, ev_var, ev_con, ev_tup, ev_lst, ev_bin, ev_cmp, ev_chn, ev_and, ev_or, ev_not, ev_neg, ev_ite, ev_idx, ev_call, ev_callk, ev_pr1, ev_pr2, ev_isi, ev_comp, es_cons, es_nil, ex_cons, ex_nil, ex_asg, ex_exp, ex_ret, ex_iff, ex_pass, as_var, as_tup, as_nil, as_cons, Res.bind_ok, Res.opt_some, der_int, der_bl, der_non, der_str, der_tup, der_lst, der_set, walk_tup, walk_lst, Option.bind_some, Option.map_some, p1_tuple, p1_tuple', p1_list, p1_list', p1_len, p1_len', p1_len2, p1_int, p1_abs, p1_intb, e3]
    rfl
  have hc := hc _ rfl
  have s1 : exec P (callF P (n + 5)) (.asg (.var 2) (.comp (.var 3) (.call 37 (.cons (.make 0 (.cons (.var 0) .nil)) (.cons (.var 1) .nil))) (.con (.bl true)) (.call 14 (.cons (.var 3) .nil)))) [some (pvF m E), some wS, none, none] st = .ok (.nx [some (pvF m E), some wS, some (.lst (((allR m).filter (wB m E)).map pvI)), none]) st := by
    simp -implicitDefEqProofs only [turnE, turnS, bindT, List.length_cons, List.length_nil, Nat.reduceAdd, Nat.reduceLT, if_true, Bool.false_eq_true, if_false, List.set_cons_succ, List.set_cons_zero, List.getElem?_cons_zero, List.getElem?_cons_succ, ev_var, ev_con, ev_tup, ev_lst, ev_bin, ev_cmp, ev_chn, ev_and, ev_or, ev_not, ev_neg, ev_ite, ev_idx, ev_call, ev_callk, ev_pr1, ev_pr2, ev_isi, ev_comp, es_cons, es_nil, ex_cons, ex_nil, ex_asg, ex_exp, ex_ret, ex_iff, ex_pass, as_var, as_tup, as_nil, as_cons, Res.bind_ok, Res.opt_some, der_int, der_bl, der_non, der_str, der_tup, der_lst, der_set, walk_tup, walk_lst, Option.bind_some, Option.map_some, p1_tuple, p1_tuple', p1_list, p1_list', p1_len, p1_len', p1_len2, p1_int, p1_abs, p1_intb, e1, e2, hc]
  have e4 := sort_lots st (cf := callF P (n + 5)) (env := [some (pvF m E), some wS, some (.lst (((allR m).filter (wB m E)).map pvI)), none]) F ht List.filter_sublist rfl
  rw [sort_filter F.lo F.hi] at e4
  have s2 : exec P (callF P (n + 5)) (.cons (.ret (.pr1 .tuple (.sortk 0 (.var 2) (.tup (.cons (.pr1 .len (.var 0)) (.cons (.var 0) .nil)))))) .nil) [some (pvF m E), some wS, some (.lst (((allR m).filter (wB m E)).map pvI)), none] st = .ok (.rt (.tup ((wholeR m E).map pvI))) st := by
    simp -implicitDefEqProofs only [turnE, turnS, bindT, List.length_cons, List.length_nil, Nat.reduceAdd, Nat.reduceLT, if_true, Bool.false_eq_true, if_false, List.set_cons_succ, List.set_cons_zero, List.getElem?_cons_zero, List.getElem?_cons_succ, ev_var, ev_con, ev_tup, ev_lst, ev_bin, ev_cmp, ev_chn, ev_and, ev_or, ev_not, ev_neg, ev_ite, ev_idx, ev_call, ev_callk, ev_pr1, ev_pr2, ev_isi, ev_comp, es_cons, es_nil, ex_cons, ex_nil, ex_asg, ex_exp, ex_ret, ex_iff, ex_pass, as_var, as_tup, as_nil, as_cons, Res.bind_ok, Res.opt_some, der_int, der_bl, der_non, der_str, der_tup, der_lst, der_set, walk_tup, walk_lst, Option.bind_some, Option.map_some, p1_tuple, p1_tuple', p1_list, p1_list', p1_len, p1_len', p1_len2, p1_int, p1_abs, p1_intb, e4]
    rfl
  have hb : exec P (callF P (n + 5)) b38 [some (pvF m E), some wS, none, none] st = _ := ex_seq s1 s2
  rw [c38, hb]; rfl
theorem lots_ground (F : Fld m E) (ht : st[0]? = some (.tbl 0)) {r : Nat} (hr : r ≤ m) (h1 : ∀ j, j < r → itK m E (j + 1) ≠ itK m E j) (h2 : itK m E (r + 1) = itK m E r) : callF P (n + 5) 38 [pvF m E, gS] st = .ok (.tup [pvI (itK m E r)]) st := by
  have h5 := F.hi
  have e1 := make_obj (n + 2) st F (env := [some (pvF m E), some gS, none, none]) rfl
  have e2 := bits_ground n st F hr h1 h2
  have e3 := pts (n + 3) st (m := m) (by omega) (it_lot (E := E) r)
  have hc : ∀ env : Env, env = [some (pvF m E), some gS, none, none] → compL (turnE P (callF P (n + 4)) (.var 3) (.con (.bl true)) (.call 14 (.cons (.var 3) .nil)) env) (fun _ => true) [nI (msk (itK m E r))] st = .ok [pvI (itK m E r)] st := by
    rintro env rfl
    refine compL_map (xs := [msk (itK m E r)]) (e := nI) (φ := fun _ => pvI (itK m E r)) (by rfl) fun b hb => ?_
    rw [List.mem_singleton.mp hb]
    simp -implicitDefEqProofs only [turnE, turnS, bindT, List.length_cons, List.length_nil, Nat.reduceAdd, Nat.reduceLT, if_true, Bool.false_eq_true, if_false, List.set_cons_succ, List.set_cons_zero, List.getElem?_cons_zero, List.getElem?_cons_succ, ev_var, ev_con, ev_tup, ev_lst, ev_bin, ev_cmp, ev_chn, ev_and, ev_or, ev_not, ev_neg, ev_ite, ev_idx, ev_call, ev_callk, ev_pr1, ev_pr2, ev_isi, ev_comp, es_cons, es_nil, ex_cons, ex_nil, ex_asg, ex_exp, ex_ret, ex_iff, ex_pass, as_var, as_tup, as_nil, as_cons, Res.bind_ok, Res.opt_some, der_int, der_bl, der_non, der_str, der_tup, der_lst, der_set, walk_tup, walk_lst, Option.bind_some, Option.map_some, p1_tuple, p1_tuple', p1_list, p1_list', p1_len, p1_len', p1_len2, p1_int, p1_abs, p1_intb, e3]
  have hc := hc _ rfl
  have s1 : exec P (callF P (n + 4)) (.asg (.var 2) (.comp (.var 3) (.call 37 (.cons (.make 0 (.cons (.var 0) .nil)) (.cons (.var 1) .nil))) (.con (.bl true)) (.call 14 (.cons (.var 3) .nil)))) [some (pvF m E), some gS, none, none] st = .ok (.nx [some (pvF m E), some gS, some (.lst [pvI (itK m E r)]), none]) st := by
    simp -implicitDefEqProofs only [turnE, turnS, bindT, List.length_cons, List.length_nil, Nat.reduceAdd, Nat.reduceLT, if_true, Bool.false_eq_true, if_false, List.set_cons_succ, List.set_cons_zero, List.getElem?_cons_zero, List.getElem?_cons_succ, ev_var, ev_con, ev_tup, ev_lst, ev_bin, ev_cmp, ev_chn, ev_and, ev_or, ev_not, ev_neg, ev_ite, ev_idx, ev_call, ev_callk, ev_pr1, ev_pr2, ev_isi, ev_comp, es_cons, es_nil, ex_cons, ex_nil, ex_asg, ex_exp, ex_ret, ex_iff, ex_pass, as_var, as_tup, as_nil, as_cons, Res.bind_ok, Res.opt_some, der_int, der_bl, der_non, der_str, der_tup, der_lst, der_set, walk_tup, walk_lst, Option.bind_some, Option.map_some, p1_tuple, p1_tuple', p1_list, p1_list', p1_len, p1_len', p1_len2, p1_int, p1_abs, p1_intb, e1, e2, hc]
  have hsub : [itK m E r].Sublist (allR m) := List.singleton_sublist.mpr (mem_rows.mp (lot_rows F.lo F.hi (it_lot r)))
  have e4 := sort_lots st (cf := callF P (n + 4)) (env := [some (pvF m E), some gS, some (.lst [pvI (itK m E r)]), none]) F ht hsub rfl
  rw [List.mergeSort_singleton] at e4
  have s2 : exec P (callF P (n + 4)) (.cons (.ret (.pr1 .tuple (.sortk 0 (.var 2) (.tup (.cons (.pr1 .len (.var 0)) (.cons (.var 0) .nil)))))) .nil) [some (pvF m E), some gS, some (.lst [pvI (itK m E r)]), none] st = .ok (.rt (.tup [pvI (itK m E r)])) st := by
    simp -implicitDefEqProofs only [turnE, turnS, bindT, List.length_cons, List.length_nil, Nat.reduceAdd, Nat.reduceLT, if_true, Bool.false_eq_true, if_false, List.set_cons_succ, List.set_cons_zero, List.getElem?_cons_zero, List.getElem?_cons_succ, ev_var, ev_con, ev_tup, ev_lst, ev_bin, ev_cmp, ev_chn, ev_and, ev_or, ev_not, ev_neg, ev_ite, ev_idx, ev_call, ev_callk, ev_pr1, ev_pr2, ev_isi, ev_comp, es_cons, es_nil, ex_cons, ex_nil, ex_asg, ex_exp, ex_ret, ex_iff, ex_pass, as_var, as_tup, as_nil, as_cons, Res.bind_ok, Res.opt_some, der_int, der_bl, der_non, der_str, der_tup, der_lst, der_set, walk_tup, walk_lst, Option.bind_some, Option.map_some, p1_tuple, p1_tuple', p1_list, p1_list', p1_len, p1_len', p1_len2, p1_int, p1_abs, p1_intb, e4]
    rfl
  have hb : exec P (callF P (n + 4)) b38 [some (pvF m E), some gS, none, none] st = _ := ex_seq s1 s2
  rw [c38, hb]; rfl
abbrev andB : IS := .cons (.asg (.var 3) (.bin .band (.var 3) (.var 4))) .nil
theorem and_loop {cf : Nat → List PV → Store → Res PV} {v0 v1 v2 : Option PV} : ∀ (ws : List Nat) (a : Nat) (x : Option PV), ∃ y, forL (turnS P cf (.var 4) andB) (fun _ => true) (ws.map nI) [v0, v1, v2, some (nI a), x] st = .ok (.nx [v0, v1, v2, some (nI (ws.foldl (· &&& ·) a)), y]) st
  | [], a, x => ⟨x, rfl⟩
  | w :: ws, a, x => by
    obtain ⟨y, ih⟩ := and_loop (cf := cf) (v0 := v0) (v1 := v1) (v2 := v2) ws (a &&& w) (some (nI w))
    refine ⟨y, ?_⟩
    have e : turnS P cf (.var 4) andB (nI w) [v0, v1, v2, some (nI a), x] st = .ok (.nx [v0, v1, v2, some (nI (a &&& w)), some (nI w)]) st := by
      simp -implicitDefEqProofs only [turnE, turnS, bindT, List.length_cons, List.length_nil, Nat.reduceAdd, Nat.reduceLT, if_true, Bool.false_eq_true, if_false, List.set_cons_succ, List.set_cons_zero, List.getElem?_cons_zero, List.getElem?_cons_succ, ev_var, ev_con, ev_tup, ev_lst, ev_bin, ev_cmp, ev_chn, ev_and, ev_or, ev_not, ev_neg, ev_ite, ev_idx, ev_call, ev_callk, ev_pr1, ev_pr2, ev_isi, ev_comp, es_cons, es_nil, ex_cons, ex_nil, ex_asg, ex_exp, ex_ret, ex_iff, ex_pass, as_var, as_tup, as_nil, as_cons, Res.bind_ok, Res.opt_some, der_int, der_bl, der_non, der_str, der_tup, der_lst, der_set, walk_tup, walk_lst, Option.bind_some, Option.map_some, p1_tuple, p1_tuple', p1_list, p1_list', p1_len, p1_len', p1_len2, p1_int, p1_abs, p1_intb, bop_band]
    rw [List.map_cons, forL, e, Res.bind_ok]
    exact ih
theorem all_whole (F : Fld m E) {r : Nat} (h2 : itK m E (r + 1) = itK m E r) : callF P (n + 6) 39 [pvF m E, wS] st = .ok (pvI (itK m E r)) st := by
  have h5 := F.hi
  have e1 := make_obj (n + 3) st F (env := [some (pvF m E), some wS, none, none, none]) rfl
  have e2 := bits_whole n st F
  obtain ⟨w, ws, hW, hf⟩ := whole_fold F h2
  rw [hW] at e2
  obtain ⟨y, e3⟩ := and_loop st (cf := callF P (n + 5)) (v0 := some (pvF m E)) (v1 := some wS) (v2 := some (.lst ((w :: ws).map nI))) (w :: ws) w none
  rw [hf] at e3
  have e4 := pts (n + 4) st (m := m) (by omega) (it_lot (E := E) r)
  have q1 : cmpop .ne (.lst ((w :: ws).map nI)) (.lst []) = some true := ne_lnil (w :: ws)
  have q2 : index1 (.lst ((w :: ws).map nI)) (.int 0) = some (nI w) := idx_at (xs := (w :: ws).map nI) (i := 0) (by simp)
  have s1 : exec P (callF P (n + 5)) (.asg (.var 2) (.call 37 (.cons (.make 0 (.cons (.var 0) .nil)) (.cons (.var 1) .nil)))) [some (pvF m E), some wS, none, none, none] st = .ok (.nx [some (pvF m E), some wS, some (.lst ((w :: ws).map nI)), none, none]) st := by
    simp -implicitDefEqProofs only [turnE, turnS, bindT, List.length_cons, List.length_nil, Nat.reduceAdd, Nat.reduceLT, if_true, Bool.false_eq_true, if_false, List.set_cons_succ, List.set_cons_zero, List.getElem?_cons_zero, List.getElem?_cons_succ, ev_var, ev_con, ev_tup, ev_lst, ev_bin, ev_cmp, ev_chn, ev_and, ev_or, ev_not, ev_neg, ev_ite, ev_idx, ev_call, ev_callk, ev_pr1, ev_pr2, ev_isi, ev_comp, es_cons, es_nil, ex_cons, ex_nil, ex_asg, ex_exp, ex_ret, ex_iff, ex_pass, as_var, as_tup, as_nil, as_cons, Res.bind_ok, Res.opt_some, der_int, der_bl, der_non, der_str, der_tup, der_lst, der_set, walk_tup, walk_lst, Option.bind_some, Option.map_some, p1_tuple, p1_tuple', p1_list, p1_list', p1_len, p1_len', p1_len2, p1_int, p1_abs, p1_intb, e1, e2]
  have s2 : exec P (callF P (n + 5)) (.asg (.var 3) (.ite (.cmp .ne (.var 2) (.lst .nil)) (.idx (.var 2) (.con (.int 0))) (.con (.int 0)))) [some (pvF m E), some wS, some (.lst ((w :: ws).map nI)), none, none] st = .ok (.nx [some (pvF m E), some wS, some (.lst ((w :: ws).map nI)), some (nI w), none]) st := by
    simp -implicitDefEqProofs only [turnE, turnS, bindT, List.length_cons, List.length_nil, Nat.reduceAdd, Nat.reduceLT, if_true, Bool.false_eq_true, if_false, List.set_cons_succ, List.set_cons_zero, List.getElem?_cons_zero, List.getElem?_cons_succ, ev_var, ev_con, ev_tup, ev_lst, ev_bin, ev_cmp, ev_chn, ev_and, ev_or, ev_not, ev_neg, ev_ite, ev_idx, ev_call, ev_callk, ev_pr1, ev_pr2, ev_isi, ev_comp, es_cons, es_nil, ex_cons, ex_nil, ex_asg, ex_exp, ex_ret, ex_iff, ex_pass, as_var, as_tup, as_nil, as_cons, Res.bind_ok, Res.opt_some, der_int, der_bl, der_non, der_str, der_tup, der_lst, der_set, walk_tup, walk_lst, Option.bind_some, Option.map_some, p1_tuple, p1_tuple', p1_list, p1_list', p1_len, p1_len', p1_len2, p1_int, p1_abs, p1_intb, q1, q2]
  have s3 : exec P (callF P (n + 5)) (.fors (.var 4) (.var 2) andB) [some (pvF m E), some wS, some (.lst ((w :: ws).map nI)), some (nI w), none] st = .ok (.nx [some (pvF m E), some wS, some (.lst ((w :: ws).map nI)), some (nI (msk (itK m E r))), y]) st := by
    rw [ex_fors, var_ok rfl, Res.bind_ok, walk_lst, Res.opt_some, Res.bind_ok]
    exact e3
  have s4 : exec P (callF P (n + 5)) (.cons (.ret (.call 14 (.cons (.var 3) .nil))) .nil) [some (pvF m E), some wS, some (.lst ((w :: ws).map nI)), some (nI (msk (itK m E r))), y] st = .ok (.rt (pvI (itK m E r))) st := by
    simp -implicitDefEqProofs only [turnE, turnS, bindT, List.length_cons, List.length_nil, Nat.reduceAdd, Nat.reduceLT, if_true, Bool.false_eq_true, if_false, List.set_cons_succ, List.set_cons_zero, List.getElem?_cons_zero, List.getElem?_cons_succ, ev_var, ev_con, ev_tup, ev_lst, ev_bin, ev_cmp, ev_chn, ev_and, ev_or, ev_not, ev_neg, ev_ite, ev_idx, ev_call, ev_callk, ev_pr1, ev_pr2, ev_isi, ev_comp, es_cons, es_nil, ex_cons, ex_nil, ex_asg, ex_exp, ex_ret, ex_iff, ex_pass, as_var, as_tup, as_nil, as_cons, Res.bind_ok, Res.opt_some, der_int, der_bl, der_non, der_str, der_tup, der_lst, der_set, walk_tup, walk_lst, Option.bind_some, Option.map_some, p1_tuple, p1_tuple', p1_list, p1_list', p1_len, p1_len', p1_len2, p1_int, p1_abs, p1_intb, e4]
  have hb : exec P (callF P (n + 5)) b39 [some (pvF m E), some wS, none, none, none] st = _ := ex_seq s1 (ex_seq s2 (ex_seq s3 s4))
  rw [c39, hb]; rfl
theorem sort_w : callF P (n + 3) 52 [wS] st = .ok .non st := by kernel_rfl
theorem sort_g : callF P (n + 3) 52 [gS] st = .ok .non st := by kernel_rfl
theorem sorted_w (F : Fld m E) : callF P (n + 7) 53 [pvF m E, wS] st = .ok .non st := by
  have e0 := chk_field n st F
  have e1 := sort_w (n + 3) st
  rw [c53]
  unfold b53
  simp -implicitDefEqProofs only [turnE, turnS, bindT, List.length_cons, List.length_nil, Nat.reduceAdd, Nat.reduceLT, if_true, Bool.false_eq_true, if_false, List.set_cons_succ, List.set_cons_zero, List.getElem?_cons_zero, List.getElem?_cons_succ, ev_var, ev_con, ev_tup, ev_lst, ev_bin, ev_cmp, ev_chn, ev_and, ev_or, ev_not, ev_neg, ev_ite, ev_idx, ev_call, ev_callk, ev_pr1, ev_pr2, ev_isi, ev_comp, es_cons, es_nil, ex_cons, ex_nil, ex_asg, ex_exp, ex_ret, ex_iff, ex_pass, as_var, as_tup, as_nil, as_cons, Res.bind_ok, Res.opt_some, der_int, der_bl, der_non, der_str, der_tup, der_lst, der_set, walk_tup, walk_lst, Option.bind_some, Option.map_some, p1_tuple, p1_tuple', p1_list, p1_list', p1_len, p1_len', p1_len2, p1_int, p1_abs, p1_intb, e0, e1]
theorem sorted_g (F : Fld m E) : callF P (n + 7) 53 [pvF m E, gS] st = .ok .non st := by
  have e0 := chk_field n st F
  have e1 := sort_g (n + 3) st
  rw [c53]
  unfold b53
  simp -implicitDefEqProofs only [turnE, turnS, bindT, List.length_cons, List.length_nil, Nat.reduceAdd, Nat.reduceLT, if_true, Bool.false_eq_true, if_false, List.set_cons_succ, List.set_cons_zero, List.getElem?_cons_zero, List.getElem?_cons_succ, ev_var, ev_con, ev_tup, ev_lst, ev_bin, ev_cmp, ev_chn, ev_and, ev_or, ev_not, ev_neg, ev_ite, ev_idx, ev_call, ev_callk, ev_pr1, ev_pr2, ev_isi, ev_comp, es_cons, es_nil, ex_cons, ex_nil, ex_asg, ex_exp, ex_ret, ex_iff, ex_pass, as_var, as_tup, as_nil, as_cons, Res.bind_ok, Res.opt_some, der_int, der_bl, der_non, der_str, der_tup, der_lst, der_set, walk_tup, walk_lst, Option.bind_some, Option.map_some, p1_tuple, p1_tuple', p1_list, p1_list', p1_len, p1_len', p1_len2, p1_int, p1_abs, p1_intb, e0, e1]
theorem lots_of_w (F : Fld m E) (ht : st[0]? = some (.tbl 0)) : callF P (n + 8) 54 [pvF m E, wS] st = .ok (.tup ((wholeR m E).map pvI)) st := by
  have e0 := sorted_w n st F
  have e1 := lots_whole (n + 1) st F ht
  rw [c54]
  unfold b54
  simp -implicitDefEqProofs only [turnE, turnS, bindT, List.length_cons, List.length_nil, Nat.reduceAdd, Nat.reduceLT, if_true, Bool.false_eq_true, if_false, List.set_cons_succ, List.set_cons_zero, List.getElem?_cons_zero, List.getElem?_cons_succ, ev_var, ev_con, ev_tup, ev_lst, ev_bin, ev_cmp, ev_chn, ev_and, ev_or, ev_not, ev_neg, ev_ite, ev_idx, ev_call, ev_callk, ev_pr1, ev_pr2, ev_isi, ev_comp, es_cons, es_nil, ex_cons, ex_nil, ex_asg, ex_exp, ex_ret, ex_iff, ex_pass, as_var, as_tup, as_nil, as_cons, Res.bind_ok, Res.opt_some, der_int, der_bl, der_non, der_str, der_tup, der_lst, der_set, walk_tup, walk_lst, Option.bind_some, Option.map_some, p1_tuple, p1_tuple', p1_list, p1_list', p1_len, p1_len', p1_len2, p1_int, p1_abs, p1_intb, e0, e1]
theorem lots_of_g (F : Fld m E) (ht : st[0]? = some (.tbl 0)) {r : Nat} (hr : r ≤ m) (h1 : ∀ j, j < r → itK m E (j + 1) ≠ itK m E j) (h2 : itK m E (r + 1) = itK m E r) : callF P (n + 8) 54 [pvF m E, gS] st = .ok (.tup [pvI (itK m E r)]) st := by
  have e0 := sorted_g n st F
  have e1 := lots_ground (n + 2) st F ht hr h1 h2
  rw [c54]
  unfold b54
  simp -implicitDefEqProofs only [turnE, turnS, bindT, List.length_cons, List.length_nil, Nat.reduceAdd, Nat.reduceLT, if_true, Bool.false_eq_true, if_false, List.set_cons_succ, List.set_cons_zero, List.getElem?_cons_zero, List.getElem?_cons_succ, ev_var, ev_con, ev_tup, ev_lst, ev_bin, ev_cmp, ev_chn, ev_and, ev_or, ev_not, ev_neg, ev_ite, ev_idx, ev_call, ev_callk, ev_pr1, ev_pr2, ev_isi, ev_comp, es_cons, es_nil, ex_cons, ex_nil, ex_asg, ex_exp, ex_ret, ex_iff, ex_pass, as_var, as_tup, as_nil, as_cons, Res.bind_ok, Res.opt_some, der_int, der_bl, der_non, der_str, der_tup, der_lst, der_set, walk_tup, walk_lst, Option.bind_some, Option.map_some, p1_tuple, p1_tuple', p1_list, p1_list', p1_len, p1_len', p1_len2, p1_int, p1_abs, p1_intb, e0, e1]
theorem within_all (F : Fld m E) {r : Nat} (h2 : itK m E (r + 1) = itK m E r) : callF P (n + 8) 56 [pvF m E, wS] st = .ok (pvI (itK m E r)) st := by
  have e0 := sorted_w n st F
  have e1 := all_whole (n + 1) st F h2
  rw [c56]
  unfold b56
  simp -implicitDefEqProofs only [turnE, turnS, bindT, List.length_cons, List.length_nil, Nat.reduceAdd, Nat.reduceLT, if_true, Bool.false_eq_true, if_false, List.set_cons_succ, List.set_cons_zero, List.getElem?_cons_zero, List.getElem?_cons_succ, ev_var, ev_con, ev_tup, ev_lst, ev_bin, ev_cmp, ev_chn, ev_and, ev_or, ev_not, ev_neg, ev_ite, ev_idx, ev_call, ev_callk, ev_pr1, ev_pr2, ev_isi, ev_comp, es_cons, es_nil, ex_cons, ex_nil, ex_asg, ex_exp, ex_ret, ex_iff, ex_pass, as_var, as_tup, as_nil, as_cons, Res.bind_ok, Res.opt_some, der_int, der_bl, der_non, der_str, der_tup, der_lst, der_set, walk_tup, walk_lst, Option.bind_some, Option.map_some, p1_tuple, p1_tuple', p1_list, p1_list', p1_len, p1_len', p1_len2, p1_int, p1_abs, p1_intb, e0, e1]
theorem is_of_g (F : Fld m E) (ht : st[0]? = some (.tbl 0)) {l : List Nat} (h : Lot m l) {r : Nat} (hr : r ≤ m) (h1 : ∀ j, j < r → itK m E (j + 1) ≠ itK m E j) (h2 : itK m E (r + 1) = itK m E r) : callF P (n + 8) 55 [pvF m E, gS, pvI l] st = .ok (.bl (decide (l = itK m E r))) st := by
  have e0 := sorted_g n st F
  have e2 := chk_lot (n + 2) st (E := E) h
  have e1 := lots_ground (n + 2) st F ht hr h1 h2
  have q := isin_lotsT l [itK m E r]
  have q : cmpop .isin (pvI l) (.tup [pvI (itK m E r)]) = some (decide (l = itK m E r)) := by
    rw [show (PV.tup [pvI (itK m E r)]) = .tup ([itK m E r].map pvI) from rfl, q]
    simp
  have hd : ∀ l, der st (pvI l) = pvI l := fun _ => rfl
  rw [c55]
  unfold b55
  simp -implicitDefEqProofs only [turnE, turnS, bindT, List.length_cons, List.length_nil, Nat.reduceAdd, Nat.reduceLT, if_true, Bool.false_eq_true, if_false, List.set_cons_succ, List.set_cons_zero, List.getElem?_cons_zero, List.getElem?_cons_succ, ev_var, ev_con, ev_tup, ev_lst, ev_bin, ev_cmp, ev_chn, ev_and, ev_or, ev_not, ev_neg, ev_ite, ev_idx, ev_call, ev_callk, ev_pr1, ev_pr2, ev_isi, ev_comp, es_cons, es_nil, ex_cons, ex_nil, ex_asg, ex_exp, ex_ret, ex_iff, ex_pass, as_var, as_tup, as_nil, as_cons, Res.bind_ok, Res.opt_some, der_int, der_bl, der_non, der_str, der_tup, der_lst, der_set, walk_tup, walk_lst, Option.bind_some, Option.map_some, p1_tuple, p1_tuple', p1_list, p1_list', p1_len, p1_len', p1_len2, p1_int, p1_abs, p1_intb, e0, e1, e2, hd, q]
end
end LP
namespace LP
open MP
abbrev inS : PV := .str [105, 110]
abbrev outS : PV := .str [111, 117, 116]
abbrev openS : PV := .str [111, 112, 101, 110]
theorem idx_rng {f : Nat → PV} {m i : Nat} (h : i < m) : index1 (.tup ((List.range m).map f)) (.int i) = some (f i) := by
  show (seqIx ((List.range m).map f).length (i : Int)).bind _ = _
  rw [seqIx_nat (by simpa using h)]
  simp [h]
theorem ne_bl (a b : Bool) : cmpop .ne (.bl a) (.bl b) = some (a != b) := by cases a <;> cases b <;> rfl
theorem eq_bl (a b : Bool) : cmpop .eq (.bl a) (.bl b) = some (a == b) := by cases a <;> cases b <;> rfl
def att (E : List (Nat × Nat)) (p : Nat) : List Nat := (E.filter fun e => decide (e.2 = p)).map fun e => e.1
theorem mem_att {E : List (Nat × Nat)} {p i : Nat} : i ∈ att E p ↔ (i, p) ∈ E := by
  unfold att
  rw [List.mem_map]
  constructor
  · rintro ⟨⟨a, b⟩, h, rfl⟩
    obtain ⟨h1, h2⟩ := List.mem_filter.mp h
    have := of_decide_eq_true h2
    simp only at this
    subst this
    exact h1
  · intro h
    exact ⟨(i, p), List.mem_filter.mpr ⟨h, decide_eq_true rfl⟩, rfl⟩
section
variable {m : Nat} {E : List (Nat × Nat)} {l : List Nat}
def outB (m : Nat) (E : List (Nat × Nat)) (l : List Nat) (p : Nat) : Bool := !decide (p ∈ l) && decide (p ∈ hitL m E l)
theorem word_eq_in (p : Nat) : cmpop .eq (wordV m E l p) inS = some (decide (p ∈ l)) := by
  unfold wordV
  by_cases h : p ∈ l
  · rw [if_pos h, decide_eq_true h]; rfl
  · rw [if_neg h, decide_eq_false h]; split <;> rfl
theorem word_eq_out (p : Nat) : cmpop .eq (wordV m E l p) outS = some (outB m E l p) := by
  unfold wordV outB
  by_cases h : p ∈ l
  · rw [if_pos h, decide_eq_true h]; rfl
  · rw [if_neg h, decide_eq_false h]
    by_cases h2 : p ∈ hitL m E l
    · rw [if_pos h2, decide_eq_true h2]; rfl
    · rw [if_neg h2, decide_eq_false h2]; rfl
theorem word_eqv (p : Nat) : PV.eqv (wordV m E l p) inS = decide (p ∈ l) := by
  unfold wordV
  by_cases h : p ∈ l
  · rw [if_pos h, decide_eq_true h]; rfl
  · rw [if_neg h, decide_eq_false h]; split <;> rfl
theorem in_words (xs : List Nat) : cmpop .isin inS (.lst (xs.map (wordV m E l))) = some (xs.any fun i => decide (i ∈ l)) := by
  have h : depthOk (.lst (xs.map (wordV m E l))) = true := sml_depthOk (by simp [sml, words_ok]) (by simp [dep, words_ok])
  have h2 : depthOk inS = true := rfl
  have h3 : ((xs.map (wordV m E l)).any fun y => PV.eqv y inS) = xs.any fun i => decide (i ∈ l) := by
    rw [List.any_map]
    congr 1
    funext i
    exact word_eqv i
  simp only [cmpop]
  rw [h, h2, h3]; rfl
theorem right_in (F : Fld m E) (h : wB m E l = true) {p : Nat} (hp : p < m) : ((att E p).all fun i => outB m E l i) = decide (p ∈ l) := by
  obtain ⟨hc, hk⟩ := wB_iff.mp h
  rw [calm_iff] at hc
  rw [Bool.eq_iff_iff, List.all_eq_true, decide_eq_true_eq]
  unfold outB
  simp only [mem_att, Bool.and_eq_true, Bool.not_eq_true', decide_eq_false_iff_not, decide_eq_true_eq]
  constructor
  · intro g
    rw [← hk, mem_kept]
    exact ⟨hp, fun i hi => (g i hi).2⟩
  · intro g i hi
    have g' := g
    rw [← hk, mem_kept] at g'
    exact ⟨fun hl => hc p (mem_hit.mpr ⟨hp, i, hl, hi⟩) g, g'.2 i hi⟩
theorem right_out (F : Fld m E) (h : wB m E l = true) {p : Nat} (hp : p < m) : ((att E p).any fun i => decide (i ∈ l)) = outB m E l p := by
  obtain ⟨hc, hk⟩ := wB_iff.mp h
  rw [calm_iff] at hc
  rw [Bool.eq_iff_iff, List.any_eq_true]
  unfold outB
  simp only [mem_att, Bool.and_eq_true, Bool.not_eq_true', decide_eq_false_iff_not, decide_eq_true_eq]
  constructor
  · rintro ⟨i, hi, hl⟩
    have : p ∈ hitL m E l := mem_hit.mpr ⟨hp, i, hl, hi⟩
    exact ⟨hc p this, this⟩
  · rintro ⟨_, h2⟩
    obtain ⟨_, i, hl, hi⟩ := mem_hit.mp h2
    exact ⟨i, hi, hl⟩
variable (n : Nat) (st : Store)
def labV (m : Nat) (E : List (Nat × Nat)) (l : List Nat) : PV := .tup ((List.range m).map (wordV m E l))
theorem right_at (F : Fld m E) (h : wB m E l = true) {p : Nat} (hp : p < m) : callF P (n + 2) 43 [pvF m E, labV m E l, nI p] st = .ok (.bl true) st := by
  have e1 : callF P (n + 1) 12 [pvF m E, nI p] st = .ok (pvI (att E p)) st := against n st (m := m) (E := E) p
  have hd : der st (labV m E l) = labV m E l := rfl
  have hw : walk st (pvI (att E p)) = some ((att E p).map nI, fun _ => true) := rfl
  have hc1 : ∀ env : Env, env = [some (pvF m E), some (labV m E l), some (nI p), none, none, none] → compL (turnE P (callF P (n + 1)) (.var 4) (.con (.bl true)) (.idx (.var 1) (.var 4)) env) (fun _ => true) ((att E p).map nI) st = .ok ((att E p).map (wordV m E l)) st := by
    rintro env rfl
    refine compL_map (by rfl) fun i hi => ?_
    have hi : i < m := (F.in_ _ (mem_att.mp hi)).1
    have q : index1 (labV m E l) (.int i) = some (wordV m E l i) := idx_rng hi
    simp -implicitDefEqProofs only [turnE, turnS, bindT, List.length_cons, List.length_nil, Nat.reduceAdd, Nat.reduceLT, if_true, Bool.false_eq_true, if_false, List.set_cons_succ, List.set_cons_zero, List.getElem?_cons_zero, List.getElem?_cons_succ, ev_var, ev_con, ev_tup, ev_lst, ev_bin, ev_cmp, ev_chn, ev_and, ev_or, ev_not, ev_neg, ev_ite, ev_idx, ev_call, ev_callk, ev_pr1, ev_pr2, ev_isi, ev_comp, es_cons, es_nil, ex_cons, ex_nil, ex_asg, ex_exp, ex_ret, ex_iff, ex_pass, as_var, as_tup, as_nil, as_cons, Res.bind_ok, Res.opt_some, der_int, der_bl, der_non, der_str, der_tup, der_lst, der_set, walk_tup, walk_lst, Option.bind_some, Option.map_some, p1_tuple, p1_tuple', p1_list, p1_list', p1_len, p1_len', p1_len2, p1_int, p1_abs, p1_intb, hd, q]
  have hc1 := hc1 _ rfl
  have hc2 : ∀ env : Env, env = [some (pvF m E), some (labV m E l), some (nI p), some (.lst ((att E p).map (wordV m E l))), none, none] → compL (turnE P (callF P (n + 1)) (.var 5) (.con (.bl true)) (.cmp .eq (.var 5) (.con outS)) env) (fun _ => true) ((att E p).map (wordV m E l)) st = .ok ((att E p).map fun i => .bl (outB m E l i)) st := by
    rintro env rfl
    refine compL_map (by rfl) fun i hi => ?_
    have hw : der st (wordV m E l i) = wordV m E l i := by
      unfold wordV
      split
      · rfl
      · split <;> rfl
    simp -implicitDefEqProofs only [turnE, turnS, bindT, List.length_cons, List.length_nil, Nat.reduceAdd, Nat.reduceLT, if_true, Bool.false_eq_true, if_false, List.set_cons_succ, List.set_cons_zero, List.getElem?_cons_zero, List.getElem?_cons_succ, ev_var, ev_con, ev_tup, ev_lst, ev_bin, ev_cmp, ev_chn, ev_and, ev_or, ev_not, ev_neg, ev_ite, ev_idx, ev_call, ev_callk, ev_pr1, ev_pr2, ev_isi, ev_comp, es_cons, es_nil, ex_cons, ex_nil, ex_asg, ex_exp, ex_ret, ex_iff, ex_pass, as_var, as_tup, as_nil, as_cons, Res.bind_ok, Res.opt_some, der_int, der_bl, der_non, der_str, der_tup, der_lst, der_set, walk_tup, walk_lst, Option.bind_some, Option.map_some, p1_tuple, p1_tuple', p1_list, p1_list', p1_len, p1_len', p1_len2, p1_int, p1_abs, p1_intb, hw, word_eq_out]
  have hc2 := hc2 _ rfl
  have ha : prim1 .all (.lst ((att E p).map fun i => .bl (outB m E l i))) = some (.bl (decide (p ∈ l))) := by
    have := p1_all (bs := (att E p).map fun i => outB m E l i)
    rw [List.map_map] at this
    rw [show (fun i => PV.bl (outB m E l i)) = (PV.bl ∘ fun i => outB m E l i) from rfl, this, List.all_map]
    rw [← right_in F h hp]; rfl
  have q : index1 (labV m E l) (.int p) = some (wordV m E l p) := idx_rng hp
  have hwp : der st (wordV m E l p) = wordV m E l p := by
    unfold wordV
    split
    · rfl
    · split <;> rfl
  have s1 : exec P (callF P (n + 1)) (.asg (.var 3) (.comp (.var 4) (.call 12 (.cons (.var 0) (.cons (.var 2) .nil))) (.con (.bl true)) (.idx (.var 1) (.var 4)))) [some (pvF m E), some (labV m E l), some (nI p), none, none, none] st = .ok (.nx [some (pvF m E), some (labV m E l), some (nI p), some (.lst ((att E p).map (wordV m E l))), none, none]) st := by
    simp -implicitDefEqProofs only [turnE, turnS, bindT, List.length_cons, List.length_nil, Nat.reduceAdd, Nat.reduceLT, if_true, Bool.false_eq_true, if_false, List.set_cons_succ, List.set_cons_zero, List.getElem?_cons_zero, List.getElem?_cons_succ, ev_var, ev_con, ev_tup, ev_lst, ev_bin, ev_cmp, ev_chn, ev_and, ev_or, ev_not, ev_neg, ev_ite, ev_idx, ev_call, ev_callk, ev_pr1, ev_pr2, ev_isi, ev_comp, es_cons, es_nil, ex_cons, ex_nil, ex_asg, ex_exp, ex_ret, ex_iff, ex_pass, as_var, as_tup, as_nil, as_cons, Res.bind_ok, Res.opt_some, der_int, der_bl, der_non, der_str, der_tup, der_lst, der_set, walk_tup, walk_lst, Option.bind_some, Option.map_some, p1_tuple, p1_tuple', p1_list, p1_list', p1_len, p1_len', p1_len2, p1_int, p1_abs, p1_intb, e1, hw, hc1]
  have s2 : exec P (callF P (n + 1)) (.iff (.cmp .ne (.cmp .eq (.idx (.var 1) (.var 2)) (.con inS)) (.pr1 .all (.comp (.var 5) (.var 3) (.con (.bl true)) (.cmp .eq (.var 5) (.con outS))))) (.cons (.ret (.con (.bl false))) .nil) .nil) [some (pvF m E), some (labV m E l), some (nI p), some (.lst ((att E p).map (wordV m E l))), none, none] st = .ok (.nx [some (pvF m E), some (labV m E l), some (nI p), some (.lst ((att E p).map (wordV m E l))), none, none]) st := by
    simp -implicitDefEqProofs only [turnE, turnS, bindT, List.length_cons, List.length_nil, Nat.reduceAdd, Nat.reduceLT, if_true, Bool.false_eq_true, if_false, List.set_cons_succ, List.set_cons_zero, List.getElem?_cons_zero, List.getElem?_cons_succ, ev_var, ev_con, ev_tup, ev_lst, ev_bin, ev_cmp, ev_chn, ev_and, ev_or, ev_not, ev_neg, ev_ite, ev_idx, ev_call, ev_callk, ev_pr1, ev_pr2, ev_isi, ev_comp, es_cons, es_nil, ex_cons, ex_nil, ex_asg, ex_exp, ex_ret, ex_iff, ex_pass, as_var, as_tup, as_nil, as_cons, Res.bind_ok, Res.opt_some, der_int, der_bl, der_non, der_str, der_tup, der_lst, der_set, walk_tup, walk_lst, Option.bind_some, Option.map_some, p1_tuple, p1_tuple', p1_list, p1_list', p1_len, p1_len', p1_len2, p1_int, p1_abs, p1_intb, hd, q, hwp, word_eq_in, hc2, ha, ne_bl, bne_self_eq_false]
  have s3 : exec P (callF P (n + 1)) (.cons (.ret (.cmp .eq (.cmp .eq (.idx (.var 1) (.var 2)) (.con outS)) (.cmp .isin (.con inS) (.var 3)))) .nil) [some (pvF m E), some (labV m E l), some (nI p), some (.lst ((att E p).map (wordV m E l))), none, none] st = .ok (.rt (.bl true)) st := by
    simp -implicitDefEqProofs only [turnE, turnS, bindT, List.length_cons, List.length_nil, Nat.reduceAdd, Nat.reduceLT, if_true, Bool.false_eq_true, if_false, List.set_cons_succ, List.set_cons_zero, List.getElem?_cons_zero, List.getElem?_cons_succ, ev_var, ev_con, ev_tup, ev_lst, ev_bin, ev_cmp, ev_chn, ev_and, ev_or, ev_not, ev_neg, ev_ite, ev_idx, ev_call, ev_callk, ev_pr1, ev_pr2, ev_isi, ev_comp, es_cons, es_nil, ex_cons, ex_nil, ex_asg, ex_exp, ex_ret, ex_iff, ex_pass, as_var, as_tup, as_nil, as_cons, Res.bind_ok, Res.opt_some, der_int, der_bl, der_non, der_str, der_tup, der_lst, der_set, walk_tup, walk_lst, Option.bind_some, Option.map_some, p1_tuple, p1_tuple', p1_list, p1_list', p1_len, p1_len', p1_len2, p1_int, p1_abs, p1_intb, hd, q, hwp, word_eq_out, in_words, right_out F h hp, eq_bl, beq_self_eq_true]
  have hb : exec P (callF P (n + 1)) b43 [some (pvF m E), some (labV m E l), some (nI p), none, none, none] st = _ := ex_seq s1 (ex_seq s2 s3)
  rw [c43, hb]; rfl
theorem faults_by (F : Fld m E) (h : wB m E l = true) : callF P (n + 3) 44 [pvF m E, labV m E l] st = .ok (.tup []) st := by
  have hc : ∀ env : Env, env = [some (pvF m E), some (labV m E l), none] → compL (turnE P (callF P (n + 2)) (.var 2) (.not (.call 43 (.cons (.var 0) (.cons (.var 1) (.cons (.var 2) .nil))))) (.var 2) env) (fun _ => true) ((List.range m).map fun i => PV.int (i : Nat)) st = .ok (((List.range m).filter fun _ => false).map nI) st := by
    rintro env rfl
    refine compL_filter (by rfl) fun p hp => ?_
    have e1 := right_at n st F h (List.mem_range.mp hp)
    simp -implicitDefEqProofs only [turnE, turnS, bindT, List.length_cons, List.length_nil, Nat.reduceAdd, Nat.reduceLT, if_true, Bool.false_eq_true, if_false, List.set_cons_succ, List.set_cons_zero, List.getElem?_cons_zero, List.getElem?_cons_succ, ev_var, ev_con, ev_tup, ev_lst, ev_bin, ev_cmp, ev_chn, ev_and, ev_or, ev_not, ev_neg, ev_ite, ev_idx, ev_call, ev_callk, ev_pr1, ev_pr2, ev_isi, ev_comp, es_cons, es_nil, ex_cons, ex_nil, ex_asg, ex_exp, ex_ret, ex_iff, ex_pass, as_var, as_tup, as_nil, as_cons, Res.bind_ok, Res.opt_some, der_int, der_bl, der_non, der_str, der_tup, der_lst, der_set, walk_tup, walk_lst, Option.bind_some, Option.map_some, p1_tuple, p1_tuple', p1_list, p1_list', p1_len, p1_len', p1_len2, p1_int, p1_abs, p1_intb, e1, Bool.not_true]
  have hc := hc _ rfl
  have hr := rngF st (E := E) (cf := callF P (n + 2)) (env := [some (pvF m E), some (labV m E l), none]) rfl F.hi
  have hz : ((List.range m).filter fun _ => false).map nI = [] := by simp
  rw [hz] at hc
  rw [c44]
  unfold b44
  simp -implicitDefEqProofs only [turnE, turnS, bindT, List.length_cons, List.length_nil, Nat.reduceAdd, Nat.reduceLT, if_true, Bool.false_eq_true, if_false, List.set_cons_succ, List.set_cons_zero, List.getElem?_cons_zero, List.getElem?_cons_succ, ev_var, ev_con, ev_tup, ev_lst, ev_bin, ev_cmp, ev_chn, ev_and, ev_or, ev_not, ev_neg, ev_ite, ev_idx, ev_call, ev_callk, ev_pr1, ev_pr2, ev_isi, ev_comp, es_cons, es_nil, ex_cons, ex_nil, ex_asg, ex_exp, ex_ret, ex_iff, ex_pass, as_var, as_tup, as_nil, as_cons, Res.bind_ok, Res.opt_some, der_int, der_bl, der_non, der_str, der_tup, der_lst, der_set, walk_tup, walk_lst, Option.bind_some, Option.map_some, p1_tuple, p1_tuple', p1_list, p1_list', p1_len, p1_len', p1_len2, p1_int, p1_abs, p1_intb, hr, hc]
abbrev lwV : PV := .tup [inS, outS, openS]
theorem word_in (p : Nat) : callF P (n + 2) 5 [wordV m E l p, lwV] st = .ok (.bl true) st := by
  unfold wordV
  split
  · kernel_rfl
  · split
    · kernel_rfl
    · kernel_rfl
theorem row_ok {xs : List PV} {a : Nat} (h : xs.length = a) : callF P (n + 1) 4 [.tup xs, nI a, nI a] st = .ok (.bl true) st := by
  rw [c4]
  simp [b4, tyOf, isiOne, prim1, h]
theorem are_words (F : Fld m E) : callF P (n + 3) 40 [labV m E l, nI m, nI m] st = .ok (.bl true) st := by
  have e1 : callF P (n + 2) 4 [labV m E l, nI m, nI m] st = .ok (.bl true) st := row_ok (n + 1) st (by rw [List.length_map, List.length_range])
  have hw : walk st (labV m E l) = some ((List.range m).map (wordV m E l), fun _ => true) := rfl
  have hc : ∀ env : Env, env = [some (labV m E l), some (nI m), some (nI m), none] → compL (turnE P (callF P (n + 2)) (.var 3) (.con (.bl true)) (.call 5 (.cons (.var 3) (.cons (.con lwV) .nil))) env) (fun _ => true) ((List.range m).map (wordV m E l)) st = .ok ((List.range m).map fun _ => .bl true) st := by
    rintro env rfl
    refine compL_map (by rfl) fun p hp => ?_
    have e2 := word_in n st (m := m) (E := E) (l := l) p
    simp -implicitDefEqProofs only [turnE, turnS, bindT, List.length_cons, List.length_nil, Nat.reduceAdd, Nat.reduceLT, if_true, Bool.false_eq_true, if_false, List.set_cons_succ, List.set_cons_zero, List.getElem?_cons_zero, List.getElem?_cons_succ, ev_var, ev_con, ev_tup, ev_lst, ev_bin, ev_cmp, ev_chn, ev_and, ev_or, ev_not, ev_neg, ev_ite, ev_idx, ev_call, ev_callk, ev_pr1, ev_pr2, ev_isi, ev_comp, es_cons, es_nil, ex_cons, ex_nil, ex_asg, ex_exp, ex_ret, ex_iff, ex_pass, as_var, as_tup, as_nil, as_cons, Res.bind_ok, Res.opt_some, der_int, der_bl, der_non, der_str, der_tup, der_lst, der_set, walk_tup, walk_lst, Option.bind_some, Option.map_some, p1_tuple, p1_tuple', p1_list, p1_list', p1_len, p1_len', p1_len2, p1_int, p1_abs, p1_intb, e2]
  have hc := hc _ rfl
  have ha : prim1 .all (.lst ((List.range m).map fun _ => .bl true)) = some (.bl true) := by
    have := p1_all (bs := (List.range m).map fun _ => true)
    rw [List.map_map] at this
    refine this.trans ?_
    rw [List.all_map]
    simp
  rw [c40]
  unfold b40
  simp -implicitDefEqProofs only [turnE, turnS, bindT, List.length_cons, List.length_nil, Nat.reduceAdd, Nat.reduceLT, if_true, Bool.false_eq_true, if_false, List.set_cons_succ, List.set_cons_zero, List.getElem?_cons_zero, List.getElem?_cons_succ, ev_var, ev_con, ev_tup, ev_lst, ev_bin, ev_cmp, ev_chn, ev_and, ev_or, ev_not, ev_neg, ev_ite, ev_idx, ev_call, ev_callk, ev_pr1, ev_pr2, ev_isi, ev_comp, es_cons, es_nil, ex_cons, ex_nil, ex_asg, ex_exp, ex_ret, ex_iff, ex_pass, as_var, as_tup, as_nil, as_cons, Res.bind_ok, Res.opt_some, der_int, der_bl, der_non, der_str, der_tup, der_lst, der_set, walk_tup, walk_lst, Option.bind_some, Option.map_some, p1_tuple, p1_tuple', p1_list, p1_list', p1_len, p1_len', p1_len2, p1_int, p1_abs, p1_intb, e1, hw, hc, ha]
theorem right_label (F : Fld m E) (h : wB m E l = true) : callF P (n + 7) 46 [pvF m E, labV m E l] st = .ok (.bl true) st := by
  have e0 := chk_field n st F
  have e1 : callF P (n + 6) 45 [pvF m E, labV m E l] st = .ok (.bl true) st := by
    have a1 := are_words (n + 2) st (l := l) F
    have a2 := faults_by (n + 2) st F h
    have q : cmpop .eq (.tup []) (.tup []) = some true := rfl
    rw [c45]
    unfold b45
    simp -implicitDefEqProofs only [turnE, turnS, bindT, List.length_cons, List.length_nil, Nat.reduceAdd, Nat.reduceLT, if_true, Bool.false_eq_true, if_false, List.set_cons_succ, List.set_cons_zero, List.getElem?_cons_zero, List.getElem?_cons_succ, ev_var, ev_con, ev_tup, ev_lst, ev_bin, ev_cmp, ev_chn, ev_and, ev_or, ev_not, ev_neg, ev_ite, ev_idx, ev_call, ev_callk, ev_pr1, ev_pr2, ev_isi, ev_comp, es_cons, es_nil, ex_cons, ex_nil, ex_asg, ex_exp, ex_ret, ex_iff, ex_pass, as_var, as_tup, as_nil, as_cons, Res.bind_ok, Res.opt_some, der_int, der_bl, der_non, der_str, der_tup, der_lst, der_set, walk_tup, walk_lst, Option.bind_some, Option.map_some, p1_tuple, p1_tuple', p1_list, p1_list', p1_len, p1_len', p1_len2, p1_int, p1_abs, p1_intb, fst0, a1, a2, q]
  rw [c46]
  unfold b46
  simp -implicitDefEqProofs only [turnE, turnS, bindT, List.length_cons, List.length_nil, Nat.reduceAdd, Nat.reduceLT, if_true, Bool.false_eq_true, if_false, List.set_cons_succ, List.set_cons_zero, List.getElem?_cons_zero, List.getElem?_cons_succ, ev_var, ev_con, ev_tup, ev_lst, ev_bin, ev_cmp, ev_chn, ev_and, ev_or, ev_not, ev_neg, ev_ite, ev_idx, ev_call, ev_callk, ev_pr1, ev_pr2, ev_isi, ev_comp, es_cons, es_nil, ex_cons, ex_nil, ex_asg, ex_exp, ex_ret, ex_iff, ex_pass, as_var, as_tup, as_nil, as_cons, Res.bind_ok, Res.opt_some, der_int, der_bl, der_non, der_str, der_tup, der_lst, der_set, walk_tup, walk_lst, Option.bind_some, Option.map_some, p1_tuple, p1_tuple', p1_list, p1_list', p1_len, p1_len', p1_len2, p1_int, p1_abs, p1_intb, e0, e1]
end
end LP
namespace LP
open MP
/-! ### the dice -/
def TB (st : Store) : Prop := ∀ i, i < 1 → st[i]? = some (.tbl i)
def D (k : Nat) (st : Store) : Prop := TB st ∧ 1 ≤ k ∧ ∃ a b : Int, st[k]? = some (.lst [.int a, .int b])
theorem D.tb {k : Nat} {st : Store} (h : D k st) : TB st := h.1
theorem TB.set {k : Nat} {st : Store} {o : MO} (h : TB st) (hk : 1 ≤ k) : TB (st.set k o) := fun i hi => by
  rw [List.getElem?_set_ne (by omega)]; exact h i hi
theorem TB.app {st T : Store} (h : TB st) : TB (st ++ T) := fun i hi => by
  have := h i hi
  rw [List.getElem?_append_left (List.getElem?_eq_some_iff.mp this).1]; exact this
theorem D.set {k : Nat} {st : Store} {a b : Int} (h : D k st) : D k (st.set k (.lst [.int a, .int b])) := by
  obtain ⟨t, hk, a', b', h⟩ := h
  refine ⟨t.set hk, hk, a, b, ?_⟩
  rw [List.getElem?_set_self]
  exact (List.getElem?_eq_some_iff.mp h).1
theorem D.put {k q : Nat} {st : Store} {o : MO} (h : D k st) (hq : q ≠ k) (hq2 : 1 ≤ q) : D k (st.set q o) := by
  obtain ⟨t, hk, a', b', h⟩ := h
  refine ⟨t.set hq2, hk, a', b', ?_⟩
  rw [List.getElem?_set_ne hq]; exact h
theorem D.app {k : Nat} {st T : Store} (h : D k st) : D k (st ++ T) := by
  obtain ⟨t, hk, a', b', h⟩ := h
  refine ⟨t.app, hk, a', b', ?_⟩
  rw [List.getElem?_append_left (List.getElem?_eq_some_iff.mp h).1]; exact h
theorem D.lt {k : Nat} {st : Store} (h : D k st) : k < st.length := by
  obtain ⟨t, hk, a', b', h⟩ := h
  exact (List.getElem?_eq_some_iff.mp h).1
theorem as_idx {P : Prog} {cf : Nat → List PV → Store → Res PV} {env : Env} {st : Store} {o i : IE} {v : PV} : assign P cf (.idx o i) v env st = (evalE P cf o env st).bind fun x st => (evalE P cf i env st).bind fun y st => (match setIdx st x y v with
    | some st => .ok env st
    | none => .bad) := by rw [assign] <;> rfl
theorem mod_nat {x : Int} {s : Nat} (hs : 0 < s) : ∃ r : Nat, r < s ∧ x % (s : Int) = (r : Int) := by
  have h1 := Int.emod_nonneg x (show (s : Int) ≠ 0 by omega)
  have h2 := Int.emod_lt_of_pos x (show (0 : Int) < s by omega)
  exact ⟨(x % s).toNat, by omega, by omega⟩
section
variable (n : Nat)
theorem pick {k s : Nat} {st : Store} (hs : 0 < s) (hs2 : s < 1073741824) (h : D k st) : ∃ (r : Nat) (a b : Int), r < s ∧ callF P (n + 1) 58 [.ref k, nI s] st = .ok (nI r) (st.set k (.lst [.int a, .int b])) := by
  obtain ⟨_, _, a, b, h⟩ := h
  have hd : der st (.ref k) = .lst [.int a, .int b] := by simp only [der, h]
  have i0 : ∀ x y : PV, index1 (.lst [x, y]) (.int 0) = some x := fun _ _ => rfl
  have i1 : ∀ x y : PV, index1 (.lst [x, y]) (.int 1) = some y := fun _ _ => rfl
  have hset0 : ∀ v : PV, setIdx st (.ref k) (.int 0) v = some (st.set k (.lst [v, .int b])) := fun v => by simp only [setIdx, h]; rfl
  have hset1 : ∀ v : PV, setIdx st (.ref k) (.int 1) v = some (st.set k (.lst [.int a, v])) := fun v => by simp only [setIdx, h]; rfl
  by_cases hc : 0 < a
  · obtain ⟨r, hr, e⟩ := mod_nat (x := a) hs
    refine ⟨r, a / s, b, hr, ?_⟩
    have h2 : decide ((0 : Int) < a) = true := decide_eq_true hc
    have hdm : prim2 .divmod (.int a) (nI s) = some (.tup [.int (a / s), nI r]) := by
      show prim2 .divmod (.int a) (.int s) = _
      simp only [prim2]
      rw [if_pos ⟨by omega, by omega⟩, e]
    rw [c58]
    have hw : exec P (callF P n) (.cons (.asg (.tup (.cons (.idx (.var 0) (.con (.int 0))) (.cons (.var 2) .nil))) (.pr2 .divmod (.idx (.var 0) (.con (.int 0))) (.var 1))) (.cons (.ret (.var 2)) .nil)) [some (.ref k), some (nI s), none] st = .ok (.rt (nI r)) (st.set k (.lst [.int (a / s), .int b])) := by
      simp -implicitDefEqProofs only [turnE, turnS, bindT, List.length_cons, List.length_nil, Nat.reduceAdd, Nat.reduceLT, if_true, Bool.false_eq_true, if_false, List.set_cons_succ, List.set_cons_zero, List.getElem?_cons_zero, List.getElem?_cons_succ, ev_var, ev_con, ev_tup, ev_lst, ev_bin, ev_cmp, ev_chn, ev_and, ev_or, ev_not, ev_neg, ev_ite, ev_idx, ev_call, ev_callk, ev_pr1, ev_pr2, ev_isi, ev_comp, es_cons, es_nil, ex_cons, ex_nil, ex_asg, ex_exp, ex_ret, ex_iff, ex_pass, as_var, as_tup, as_nil, as_cons, Res.bind_ok, Res.opt_some, der_int, der_bl, der_non, der_str, der_tup, der_lst, der_set, walk_tup, walk_lst, Option.bind_some, Option.map_some, p1_tuple, p1_tuple', p1_list, p1_list', p1_len, p1_len', p1_len2, p1_int, p1_abs, p1_intb, hd, i0, hdm, as_idx, hset0]
    have hb : exec P (callF P n) b58 [some (.ref k), some (nI s), none] st = .ok (.rt (nI r)) (st.set k (.lst [.int (a / s), .int b])) := by
      unfold b58
      rw [ex_cons, ex_iff]
      simp -implicitDefEqProofs only [turnE, turnS, bindT, List.length_cons, List.length_nil, Nat.reduceAdd, Nat.reduceLT, if_true, Bool.false_eq_true, if_false, List.set_cons_succ, List.set_cons_zero, List.getElem?_cons_zero, List.getElem?_cons_succ, ev_var, ev_con, ev_tup, ev_lst, ev_bin, ev_cmp, ev_chn, ev_and, ev_or, ev_not, ev_neg, ev_ite, ev_idx, ev_call, ev_callk, ev_pr1, ev_pr2, ev_isi, ev_comp, es_cons, es_nil, ex_cons, ex_nil, ex_asg, ex_exp, ex_ret, ex_iff, ex_pass, as_var, as_tup, as_nil, as_cons, Res.bind_ok, Res.opt_some, der_int, der_bl, der_non, der_str, der_tup, der_lst, der_set, walk_tup, walk_lst, Option.bind_some, Option.map_some, p1_tuple, p1_tuple', p1_list, p1_list', p1_len, p1_len', p1_len2, p1_int, p1_abs, p1_intb, hd, i0, cmp_gt_int, h2]
      simp -implicitDefEqProofs only [turnE, turnS, bindT, List.length_cons, List.length_nil, Nat.reduceAdd, Nat.reduceLT, if_true, Bool.false_eq_true, if_false, List.set_cons_succ, List.set_cons_zero, List.getElem?_cons_zero, List.getElem?_cons_succ, ev_var, ev_con, ev_tup, ev_lst, ev_bin, ev_cmp, ev_chn, ev_and, ev_or, ev_not, ev_neg, ev_ite, ev_idx, ev_call, ev_callk, ev_pr1, ev_pr2, ev_isi, ev_comp, es_cons, es_nil, ex_cons, ex_nil, ex_asg, ex_exp, ex_ret, ex_iff, ex_pass, as_var, as_tup, as_nil, as_cons, Res.bind_ok, Res.opt_some, der_int, der_bl, der_non, der_str, der_tup, der_lst, der_set, walk_tup, walk_lst, Option.bind_some, Option.map_some, p1_tuple, p1_tuple', p1_list, p1_list', p1_len, p1_len', p1_len2, p1_int, p1_abs, p1_intb, hd, i0, hdm, as_idx, hset0]
    rw [hb]; rfl
  · obtain ⟨r, hr, e⟩ := mod_nat (x := (b * 6364136223846793005 + 1442695040888963407) % 18446744073709551616 / 4294967296) hs
    refine ⟨r, a, (b * 6364136223846793005 + 1442695040888963407) % 18446744073709551616, hr, ?_⟩
    generalize hz : (b * 6364136223846793005 + 1442695040888963407) % 18446744073709551616 = z
    have hd' : der (st.set k (.lst [.int a, .int z])) (.ref k) = .lst [.int a, .int z] := by
      simp only [der]
      rw [List.getElem?_set_self (List.getElem?_eq_some_iff.mp h).1]
    have m1 : binop .mul (.int b) (.int 6364136223846793005) = some (.int (b * 6364136223846793005)) := by
      simp only [binop]; rw [if_pos (.inr ⟨by decide, by decide⟩)]
    have m2 : binop .mod (.int (b * 6364136223846793005 + 1442695040888963407)) (.int 18446744073709551616) = some (.int z) := by rw [← hz]; rfl
    have m3 : binop .fdiv (.int z) (.int 4294967296) = some (.int (z / 4294967296)) := rfl
    have m4 : binop .mod (.int (z / 4294967296)) (nI s) = some (nI r) := by
      show binop .mod _ (.int s) = _
      simp only [binop]
      rw [if_pos (by omega), ← hz, e]
    have h2 : decide ((0 : Int) < a) = false := decide_eq_false hc
    have s1 : exec P (callF P n) (.iff (.cmp .gt (.idx (.var 0) (.con (.int 0))) (.con (.int 0))) (.cons (.asg (.tup (.cons (.idx (.var 0) (.con (.int 0))) (.cons (.var 2) .nil))) (.pr2 .divmod (.idx (.var 0) (.con (.int 0))) (.var 1))) (.cons (.ret (.var 2)) .nil)) .nil) [some (.ref k), some (nI s), none] st = .ok (.nx [some (.ref k), some (nI s), none]) st := by
      rw [ex_iff]
      simp -implicitDefEqProofs only [turnE, turnS, bindT, List.length_cons, List.length_nil, Nat.reduceAdd, Nat.reduceLT, if_true, Bool.false_eq_true, if_false, List.set_cons_succ, List.set_cons_zero, List.getElem?_cons_zero, List.getElem?_cons_succ, ev_var, ev_con, ev_tup, ev_lst, ev_bin, ev_cmp, ev_chn, ev_and, ev_or, ev_not, ev_neg, ev_ite, ev_idx, ev_call, ev_callk, ev_pr1, ev_pr2, ev_isi, ev_comp, es_cons, es_nil, ex_cons, ex_nil, ex_asg, ex_exp, ex_ret, ex_iff, ex_pass, as_var, as_tup, as_nil, as_cons, Res.bind_ok, Res.opt_some, der_int, der_bl, der_non, der_str, der_tup, der_lst, der_set, walk_tup, walk_lst, Option.bind_some, Option.map_some, p1_tuple, p1_tuple', p1_list, p1_list', p1_len, p1_len', p1_len2, p1_int, p1_abs, p1_intb, hd, i0, cmp_gt_int, h2]
    have s2 : exec P (callF P n) (.asg (.idx (.var 0) (.con (.int 1))) (.bin .mod (.bin .add (.bin .mul (.idx (.var 0) (.con (.int 1))) (.con (.int 6364136223846793005))) (.con (.int 1442695040888963407))) (.con (.int 18446744073709551616)))) [some (.ref k), some (nI s), none] st = .ok (.nx [some (.ref k), some (nI s), none]) (st.set k (.lst [.int a, .int z])) := by
      simp -implicitDefEqProofs only [turnE, turnS, bindT, List.length_cons, List.length_nil, Nat.reduceAdd, Nat.reduceLT, if_true, Bool.false_eq_true, if_false, List.set_cons_succ, List.set_cons_zero, List.getElem?_cons_zero, List.getElem?_cons_succ, ev_var, ev_con, ev_tup, ev_lst, ev_bin, ev_cmp, ev_chn, ev_and, ev_or, ev_not, ev_neg, ev_ite, ev_idx, ev_call, ev_callk, ev_pr1, ev_pr2, ev_isi, ev_comp, es_cons, es_nil, ex_cons, ex_nil, ex_asg, ex_exp, ex_ret, ex_iff, ex_pass, as_var, as_tup, as_nil, as_cons, Res.bind_ok, Res.opt_some, der_int, der_bl, der_non, der_str, der_tup, der_lst, der_set, walk_tup, walk_lst, Option.bind_some, Option.map_some, p1_tuple, p1_tuple', p1_list, p1_list', p1_len, p1_len', p1_len2, p1_int, p1_abs, p1_intb, hd, i1, m1, bop_addI, m2, as_idx, hset1]
    have s3 : exec P (callF P n) (.cons (.ret (.bin .mod (.bin .fdiv (.idx (.var 0) (.con (.int 1))) (.con (.int 4294967296))) (.var 1))) .nil) [some (.ref k), some (nI s), none] (st.set k (.lst [.int a, .int z])) = .ok (.rt (nI r)) (st.set k (.lst [.int a, .int z])) := by
      simp -implicitDefEqProofs only [turnE, turnS, bindT, List.length_cons, List.length_nil, Nat.reduceAdd, Nat.reduceLT, if_true, Bool.false_eq_true, if_false, List.set_cons_succ, List.set_cons_zero, List.getElem?_cons_zero, List.getElem?_cons_succ, ev_var, ev_con, ev_tup, ev_lst, ev_bin, ev_cmp, ev_chn, ev_and, ev_or, ev_not, ev_neg, ev_ite, ev_idx, ev_call, ev_callk, ev_pr1, ev_pr2, ev_isi, ev_comp, es_cons, es_nil, ex_cons, ex_nil, ex_asg, ex_exp, ex_ret, ex_iff, ex_pass, as_var, as_tup, as_nil, as_cons, Res.bind_ok, Res.opt_some, der_int, der_bl, der_non, der_str, der_tup, der_lst, der_set, walk_tup, walk_lst, Option.bind_some, Option.map_some, p1_tuple, p1_tuple', p1_list, p1_list', p1_len, p1_len', p1_len2, p1_int, p1_abs, p1_intb, hd', i1, m3, m4]
    rw [c58]
    have hb : exec P (callF P n) b58 [some (.ref k), some (nI s), none] st = _ := ex_seq s1 (ex_seq s2 s3)
    rw [hb]; rfl
theorem any_of {k : Nat} {st : Store} {xs : List PV} (h0 : 0 < xs.length) (h1 : xs.length < 1073741824) (h : D k st) : ∃ (r : Nat) (hr : r < xs.length) (a b : Int), callF P (n + 2) 59 [.ref k, .lst xs] st = .ok xs[r] (st.set k (.lst [.int a, .int b])) := by
  obtain ⟨r, a, b, hr, e⟩ := pick n (s := xs.length) h0 h1 h
  refine ⟨r, hr, a, b, ?_⟩
  have e : callF P (n + 1) 58 [.ref k, .int (xs.length : Nat)] st = _ := e
  have q := idx_at hr
  rw [c59]
  unfold b59
  simp -implicitDefEqProofs only [turnE, turnS, bindT, List.length_cons, List.length_nil, Nat.reduceAdd, Nat.reduceLT, if_true, Bool.false_eq_true, if_false, List.set_cons_succ, List.set_cons_zero, List.getElem?_cons_zero, List.getElem?_cons_succ, ev_var, ev_con, ev_tup, ev_lst, ev_bin, ev_cmp, ev_chn, ev_and, ev_or, ev_not, ev_neg, ev_ite, ev_idx, ev_call, ev_callk, ev_pr1, ev_pr2, ev_isi, ev_comp, es_cons, es_nil, ex_cons, ex_nil, ex_asg, ex_exp, ex_ret, ex_iff, ex_pass, as_var, as_tup, as_nil, as_cons, Res.bind_ok, Res.opt_some, der_int, der_bl, der_non, der_str, der_tup, der_lst, der_set, walk_tup, walk_lst, Option.bind_some, Option.map_some, p1_tuple, p1_tuple', p1_list, p1_list', p1_len, p1_len', p1_len2, p1_int, p1_abs, p1_intb, e, q]
theorem heap_loop {cf : Nat → List PV → Store → Res PV} {st : Store} {v0 v1 v4 : Option PV} : ∀ (xs : List Int) (a : Int) (x : Option PV), ∃ (b : Int) (y : Option PV), forL (turnS P cf (.var 3) (.cons (.asg (.var 2) (.bin .mod (.bin .add (.bin .mul (.var 2) (.con (.int 1000003))) (.bin .mod (.var 3) (.con (.int 999999999989)))) (.con (.int 340282366920938463463374607431768211297)))) .nil)) (fun _ => true) (xs.map .int) [v0, v1, some (.int a), x, v4] st = .ok (.nx [v0, v1, some (.int b), y, v4]) st
  | [], a, x => ⟨a, x, rfl⟩
  | c :: xs, a, x => by
    obtain ⟨b, y, ih⟩ := heap_loop (cf := cf) (st := st) (v0 := v0) (v1 := v1) (v4 := v4) xs ((a * 1000003 + c % 999999999989) % 340282366920938463463374607431768211297) (some (.int c))
    refine ⟨b, y, ?_⟩
    have m1 : binop .mul (.int a) (.int 1000003) = some (.int (a * 1000003)) := by
      simp only [binop]; rw [if_pos (.inr ⟨by decide, by decide⟩)]
    have m2 : ∀ z : Int, binop .mod (.int z) (.int 999999999989) = some (.int (z % 999999999989)) := fun _ => rfl
    have m3 : ∀ z : Int, binop .mod (.int z) (.int 340282366920938463463374607431768211297) = some (.int (z % 340282366920938463463374607431768211297)) := fun _ => rfl
    rw [List.map_cons, forL]
    have e : turnS P cf (.var 3) (.cons (.asg (.var 2) (.bin .mod (.bin .add (.bin .mul (.var 2) (.con (.int 1000003))) (.bin .mod (.var 3) (.con (.int 999999999989)))) (.con (.int 340282366920938463463374607431768211297)))) .nil) (.int c) [v0, v1, some (.int a), x, v4] st = .ok (.nx [v0, v1, some (.int ((a * 1000003 + c % 999999999989) % 340282366920938463463374607431768211297)), some (.int c), v4]) st := by
      simp -implicitDefEqProofs only [turnE, turnS, bindT, List.length_cons, List.length_nil, Nat.reduceAdd, Nat.reduceLT, if_true, Bool.false_eq_true, if_false, List.set_cons_succ, List.set_cons_zero, List.getElem?_cons_zero, List.getElem?_cons_succ, ev_var, ev_con, ev_tup, ev_lst, ev_bin, ev_cmp, ev_chn, ev_and, ev_or, ev_not, ev_neg, ev_ite, ev_idx, ev_call, ev_callk, ev_pr1, ev_pr2, ev_isi, ev_comp, es_cons, es_nil, ex_cons, ex_nil, ex_asg, ex_exp, ex_ret, ex_iff, ex_pass, as_var, as_tup, as_nil, as_cons, Res.bind_ok, Res.opt_some, der_int, der_bl, der_non, der_str, der_tup, der_lst, der_set, walk_tup, walk_lst, Option.bind_some, Option.map_some, p1_tuple, p1_tuple', p1_list, p1_list', p1_len, p1_len', p1_len2, p1_int, p1_abs, p1_intb, m1, m2, m3, bop_addI]
    rw [e, Res.bind_ok]
    exact ih
theorem diceL {ns : List Int} (hn : ns.length ≤ 63) (i : Nat) (hi : i < 1000) {st : Store} (ht : TB st) (hl : 1 ≤ st.length) : ∃ a b : Int, callF P (n + 1) 57 [.set (ns.map .int), nI i] st = .ok (.ref st.length) (st ++ [.lst [.int a, .int b]]) := by
  have hcut : ∃ cs : List Int, cs.length ≤ 63 ∧ slice1 (.set (ns.map .int)) (some (i : Int)) (some ((i : Int) + 1)) = some (.lst (cs.map .int)) := by
    refine ⟨cut ns (some (i : Int)) (some ((i : Int) + 1)), ?_, ?_⟩
    · unfold cut
      rw [List.length_take, List.length_drop]
      omega
    · show some (PV.lst (cut (ns.map PV.int) _ _)) = _
      unfold cut
      rw [List.length_map, List.map_take, List.map_drop]
  obtain ⟨cs, hcl, hcut⟩ := hcut
  have hm : binop .mul (.int 1009) (nI i) = some (.int (1009 * i)) := by
    show binop .mul (.int 1009) (.int i) = _
    simp only [binop]; rw [if_pos (.inl ⟨by decide, by decide⟩)]
  have hadd : binop .add (.lst (cs.map .int)) (.set (ns.map .int)) = some (.lst ((cs ++ ns).map .int)) := by
    simp only [binop]
    rw [if_pos (by rw [List.length_map, List.length_map]; unfold lim; omega), List.map_append]
  obtain ⟨b, y, e3⟩ := heap_loop (cf := callF P n) (st := st) (v0 := some (.set (ns.map .int))) (v1 := some (nI i)) (v4 := none) (cs ++ ns) (1009 * i + 31) none
  have p1 : ∀ z : Int, partOf (.var 1) (.int z) = some (some z) := fun _ => rfl
  have p2 : ∀ z : Int, partOf (.bin .add (.var 1) (.con (.int 1))) (.int z) = some (some z) := fun _ => rfl
  have hsum : prim1 .sum (.lst (cs.map .int)) = some (.int cs.sum) := by
    simp only [prim1]
    rw [allInts_map]; rfl
  have s1 : exec P (callF P n) (.asg (.var 2) (.bin .add (.bin .mul (.con (.int 1009)) (.var 1)) (.con (.int 31)))) [some (.set (ns.map .int)), some (nI i), none, none, none] st = .ok (.nx [some (.set (ns.map .int)), some (nI i), some (.int (1009 * i + 31)), none, none]) st := by
    simp -implicitDefEqProofs only [turnE, turnS, bindT, List.length_cons, List.length_nil, Nat.reduceAdd, Nat.reduceLT, if_true, Bool.false_eq_true, if_false, List.set_cons_succ, List.set_cons_zero, List.getElem?_cons_zero, List.getElem?_cons_succ, ev_var, ev_con, ev_tup, ev_lst, ev_bin, ev_cmp, ev_chn, ev_and, ev_or, ev_not, ev_neg, ev_ite, ev_idx, ev_call, ev_callk, ev_pr1, ev_pr2, ev_isi, ev_comp, es_cons, es_nil, ex_cons, ex_nil, ex_asg, ex_exp, ex_ret, ex_iff, ex_pass, as_var, as_tup, as_nil, as_cons, Res.bind_ok, Res.opt_some, der_int, der_bl, der_non, der_str, der_tup, der_lst, der_set, walk_tup, walk_lst, Option.bind_some, Option.map_some, p1_tuple, p1_tuple', p1_list, p1_list', p1_len, p1_len', p1_len2, p1_int, p1_abs, p1_intb, hm, bop_addI]
  have s2 : exec P (callF P n) (.fors (.var 3) (.bin .add (.slc (.var 0) (.var 1) (.bin .add (.var 1) (.con (.int 1)))) (.var 0)) (.cons (.asg (.var 2) (.bin .mod (.bin .add (.bin .mul (.var 2) (.con (.int 1000003))) (.bin .mod (.var 3) (.con (.int 999999999989)))) (.con (.int 340282366920938463463374607431768211297)))) .nil)) [some (.set (ns.map .int)), some (nI i), some (.int (1009 * i + 31)), none, none] st = .ok (.nx [some (.set (ns.map .int)), some (nI i), some (.int b), y, none]) st := by
    rw [ex_fors]
    simp -implicitDefEqProofs only [turnE, turnS, bindT, List.length_cons, List.length_nil, Nat.reduceAdd, Nat.reduceLT, if_true, Bool.false_eq_true, if_false, List.set_cons_succ, List.set_cons_zero, List.getElem?_cons_zero, List.getElem?_cons_succ, ev_var, ev_con, ev_tup, ev_lst, ev_bin, ev_cmp, ev_chn, ev_and, ev_or, ev_not, ev_neg, ev_ite, ev_idx, ev_call, ev_callk, ev_pr1, ev_pr2, ev_isi, ev_comp, es_cons, es_nil, ex_cons, ex_nil, ex_asg, ex_exp, ex_ret, ex_iff, ex_pass, as_var, as_tup, as_nil, as_cons, Res.bind_ok, Res.opt_some, der_int, der_bl, der_non, der_str, der_tup, der_lst, der_set, walk_tup, walk_lst, Option.bind_some, Option.map_some, p1_tuple, p1_tuple', p1_list, p1_list', p1_len, p1_len', p1_len2, p1_int, p1_abs, p1_intb, ev_slc, bop_addI, p1, p2, hcut, hadd]
    exact e3
  have s3 : exec P (callF P n) (.asg (.var 4) (.pr1 .abs (.pr1 .sum (.slc (.var 0) (.var 1) (.bin .add (.var 1) (.con (.int 1))))))) [some (.set (ns.map .int)), some (nI i), some (.int b), y, none] st = .ok (.nx [some (.set (ns.map .int)), some (nI i), some (.int b), y, some (.int (if cs.sum < 0 then -cs.sum else cs.sum))]) st := by
    simp -implicitDefEqProofs only [turnE, turnS, bindT, List.length_cons, List.length_nil, Nat.reduceAdd, Nat.reduceLT, if_true, Bool.false_eq_true, if_false, List.set_cons_succ, List.set_cons_zero, List.getElem?_cons_zero, List.getElem?_cons_succ, ev_var, ev_con, ev_tup, ev_lst, ev_bin, ev_cmp, ev_chn, ev_and, ev_or, ev_not, ev_neg, ev_ite, ev_idx, ev_call, ev_callk, ev_pr1, ev_pr2, ev_isi, ev_comp, es_cons, es_nil, ex_cons, ex_nil, ex_asg, ex_exp, ex_ret, ex_iff, ex_pass, as_var, as_tup, as_nil, as_cons, Res.bind_ok, Res.opt_some, der_int, der_bl, der_non, der_str, der_tup, der_lst, der_set, walk_tup, walk_lst, Option.bind_some, Option.map_some, p1_tuple, p1_tuple', p1_list, p1_list', p1_len, p1_len', p1_len2, p1_int, p1_abs, p1_intb, ev_slc, bop_addI, p1, p2, hcut, hsum]
  generalize (if cs.sum < 0 then -cs.sum else cs.sum) = g at s3
  have s4 : ∃ a : Int, exec P (callF P n) (.cons (.ret (.nw (.lst (.cons (.ite (.cmp .gt (.var 4) (.con (.int 99999999999999))) (.var 4) (.con (.int 0))) (.cons (.var 2) .nil))))) .nil) [some (.set (ns.map .int)), some (nI i), some (.int b), y, some (.int g)] st = .ok (.rt (.ref st.length)) (st ++ [.lst [.int a, .int b]]) := by
    by_cases h : (99999999999999 : Int) < g
    · exact ⟨g, by simp -implicitDefEqProofs only [turnE, turnS, bindT, List.length_cons, List.length_nil, Nat.reduceAdd, Nat.reduceLT, if_true, Bool.false_eq_true, if_false, List.set_cons_succ, List.set_cons_zero, List.getElem?_cons_zero, List.getElem?_cons_succ, ev_var, ev_con, ev_tup, ev_lst, ev_bin, ev_cmp, ev_chn, ev_and, ev_or, ev_not, ev_neg, ev_ite, ev_idx, ev_call, ev_callk, ev_pr1, ev_pr2, ev_isi, ev_comp, es_cons, es_nil, ex_cons, ex_nil, ex_asg, ex_exp, ex_ret, ex_iff, ex_pass, as_var, as_tup, as_nil, as_cons, Res.bind_ok, Res.opt_some, der_int, der_bl, der_non, der_str, der_tup, der_lst, der_set, walk_tup, walk_lst, Option.bind_some, Option.map_some, p1_tuple, p1_tuple', p1_list, p1_list', p1_len, p1_len', p1_len2, p1_int, p1_abs, p1_intb, ev_nw, cmp_gt_int, decide_eq_true h]⟩
    · exact ⟨0, by simp -implicitDefEqProofs only [turnE, turnS, bindT, List.length_cons, List.length_nil, Nat.reduceAdd, Nat.reduceLT, if_true, Bool.false_eq_true, if_false, List.set_cons_succ, List.set_cons_zero, List.getElem?_cons_zero, List.getElem?_cons_succ, ev_var, ev_con, ev_tup, ev_lst, ev_bin, ev_cmp, ev_chn, ev_and, ev_or, ev_not, ev_neg, ev_ite, ev_idx, ev_call, ev_callk, ev_pr1, ev_pr2, ev_isi, ev_comp, es_cons, es_nil, ex_cons, ex_nil, ex_asg, ex_exp, ex_ret, ex_iff, ex_pass, as_var, as_tup, as_nil, as_cons, Res.bind_ok, Res.opt_some, der_int, der_bl, der_non, der_str, der_tup, der_lst, der_set, walk_tup, walk_lst, Option.bind_some, Option.map_some, p1_tuple, p1_tuple', p1_list, p1_list', p1_len, p1_len', p1_len2, p1_int, p1_abs, p1_intb, ev_nw, cmp_gt_int, decide_eq_false h]⟩
  obtain ⟨a, s4⟩ := s4
  refine ⟨a, b, ?_⟩
  rw [c57]
  have hb : exec P (callF P n) b57 [some (.set (ns.map .int)), some (nI i), none, none, none] st = _ := ex_seq s1 (ex_seq s2 (ex_seq s3 s4))
  rw [hb]; rfl
theorem D_new {st : Store} {a b : Int} (ht : TB st) (hl : 1 ≤ st.length) : D st.length (st ++ [.lst [.int a, .int b]]) := ⟨ht.app, hl, a, b, by rw [app_get0]; rfl⟩
end
end LP
namespace LP
open MP
/-! ### the field -/
abbrev freeS : PV := .str [102, 114, 101, 101]
abbrev campS : PV := .str [99, 97, 109, 112, 115]
abbrev roundS : PV := .str [114, 111, 117, 110, 100]
abbrev anyS : PV := .str [97, 110, 121]
def Form (f : PV) : Prop := f = anyS ∨ f = freeS ∨ f = campS ∨ f = roundS
theorem Form.isin {f : PV} (h : Form f) : ∃ b, cmpop .isin f (.lst [freeS, campS]) = some b := by
  rcases h with rfl | rfl | rfl | rfl <;> exact ⟨_, rfl⟩
theorem Form.der {f : PV} (h : Form f) (st : Store) : der st f = f := by
  rcases h with rfl | rfl | rfl | rfl <;> rfl
theorem Form.f {f : PV} (h : Form f) : ∃ b, cmpop .eq f freeS = some b := by
  rcases h with rfl | rfl | rfl | rfl <;> exact ⟨_, rfl⟩
theorem Form.c {f : PV} (h : Form f) : ∃ b, cmpop .eq f campS = some b := by
  rcases h with rfl | rfl | rfl | rfl <;> exact ⟨_, rfl⟩
theorem Form.r {f : PV} (h : Form f) : ∃ b, cmpop .eq f roundS = some b := by
  rcases h with rfl | rfl | rfl | rfl <;> exact ⟨_, rfl⟩
/-- the dice at k, the order at q -/
def D2 (k q : Nat) (o : List Nat) (st : Store) : Prop := D k st ∧ q ≠ k ∧ 1 ≤ q ∧ st[q]? = some (.lst (o.map nI))
theorem D2.set {k q : Nat} {o : List Nat} {st : Store} {a b : Int} (h : D2 k q o st) : D2 k q o (st.set k (.lst [.int a, .int b])) := by
  obtain ⟨d, h1, h2, h3⟩ := h
  refine ⟨d.set, h1, h2, ?_⟩
  rw [List.getElem?_set_ne (Ne.symm h1)]; exact h3
theorem D2.der {k q : Nat} {o : List Nat} {st : Store} (h : D2 k q o st) : MP.der st (.ref q) = .lst (o.map nI) := by
  simp only [MP.der, h.2.2.2]
theorem D2.put {k q : Nat} {o o' : List Nat} {st : Store} (h : D2 k q o st) : D2 k q o' (st.set q (.lst (o'.map nI))) := by
  obtain ⟨d, h1, h2, h3⟩ := h
  refine ⟨d.put h1 h2, h1, h2, ?_⟩
  rw [List.getElem?_set_self (List.getElem?_eq_some_iff.mp h3).1]
section
variable (n : Nat)
abbrev ordB : IS := .cons (.exp (.insert (.var 7) (.call 58 (.cons (.var 0) (.cons (.bin .add (.var 3) (.con (.int 1))) .nil))) (.var 3))) .nil
theorem ev_ins {P : Prog} {cf : Nat → List PV → Store → Res PV} {env : Env} {st : Store} {o i e : IE} : evalE P cf (.insert o i e) env st = (evalE P cf o env st).bind fun x st => if (lstAt st x).isSome then (evalE P cf i env st).bind fun k st => (evalE P cf e env st).bind fun y st => (match lstAt st x, k with
    | some (n, xs), .int j => if xs.length < lim ∧ 0 ≤ j ∧ j < i62 then .ok .non (st.set n (.lst (xs.take j.toNat ++ [y] ++ xs.drop j.toNat))) else .bad
    | _, _ => .bad) else .bad := by rw [evalE] <;> rfl
theorem D2.lst {k q : Nat} {o : List Nat} {st : Store} (h : D2 k q o st) : lstAt st (.ref q) = some (q, o.map nI) := by
  simp only [lstAt, h.2.2.2]
theorem ord_turn {k q p : Nat} {o : List Nat} {st : Store} {f rate v4 v5 v6 v8 v9 x : Option PV} (hp : p < 100) (ho : o.length = p) (h : D2 k q o st) : ∃ o' st', turnS P (callF P (n + 1)) (.var 3) ordB (nI p) [some (.ref k), f, rate, x, v4, v5, v6, some (.ref q), v8, v9] st = .ok (.nx [some (.ref k), f, rate, some (nI p), v4, v5, v6, some (.ref q), v8, v9]) st' ∧ o'.Perm (p :: o) ∧ D2 k q o' st' := by
  obtain ⟨r, a, b, hr, e⟩ := pick n (s := p + 1) (by omega) (by omega) h.1
  have e : callF P (n + 1) 58 [.ref k, .int ((p : Int) + 1)] st = _ := e
  have h2 := h.set (a := a) (b := b)
  have hl := h.lst
  have hl2 := h2.lst
  refine ⟨o.take r ++ [p] ++ o.drop r, (st.set k (.lst [.int a, .int b])).set q (.lst ((o.take r ++ [p] ++ o.drop r).map nI)), ?_, ?_, h2.put⟩
  · have hi : evalE P (callF P (n + 1)) (.insert (.var 7) (.call 58 (.cons (.var 0) (.cons (.bin .add (.var 3) (.con (.int 1))) .nil))) (.var 3)) [some (.ref k), f, rate, some (nI p), v4, v5, v6, some (.ref q), v8, v9] st = .ok .non ((st.set k (.lst [.int a, .int b])).set q (.lst ((o.take r ++ [p] ++ o.drop r).map nI))) := by
      rw [ev_ins]
      simp -implicitDefEqProofs only [turnE, turnS, bindT, List.length_cons, List.length_nil, Nat.reduceAdd, Nat.reduceLT, if_true, Bool.false_eq_true, if_false, List.set_cons_succ, List.set_cons_zero, List.getElem?_cons_zero, List.getElem?_cons_succ, ev_var, ev_con, ev_tup, ev_lst, ev_bin, ev_cmp, ev_chn, ev_and, ev_or, ev_not, ev_neg, ev_ite, ev_idx, ev_call, ev_callk, ev_pr1, ev_pr2, ev_isi, ev_comp, es_cons, es_nil, ex_cons, ex_nil, ex_asg, ex_exp, ex_ret, ex_iff, ex_pass, as_var, as_tup, as_nil, as_cons, Res.bind_ok, Res.opt_some, der_int, der_bl, der_non, der_str, der_tup, der_lst, der_set, walk_tup, walk_lst, Option.bind_some, Option.map_some, p1_tuple, p1_tuple', p1_list, p1_list', p1_len, p1_len', p1_len2, p1_int, p1_abs, p1_intb, hl, Option.isSome_some, bop_addI, e, hl2]
      rw [if_pos ⟨by rw [List.length_map]; unfold lim; omega, by omega, by unfold i62; omega⟩]
      rw [Int.toNat_natCast, List.map_append, List.map_append, List.map_take, List.map_drop]
      rfl
    simp -implicitDefEqProofs only [turnE, turnS, bindT, List.length_cons, List.length_nil, Nat.reduceAdd, Nat.reduceLT, if_true, Bool.false_eq_true, if_false, List.set_cons_succ, List.set_cons_zero, List.getElem?_cons_zero, List.getElem?_cons_succ, ev_var, ev_con, ev_tup, ev_lst, ev_bin, ev_cmp, ev_chn, ev_and, ev_or, ev_not, ev_neg, ev_ite, ev_idx, ev_call, ev_callk, ev_pr1, ev_pr2, ev_isi, ev_comp, es_cons, es_nil, ex_cons, ex_nil, ex_asg, ex_exp, ex_ret, ex_iff, ex_pass, as_var, as_tup, as_nil, as_cons, Res.bind_ok, Res.opt_some, der_int, der_bl, der_non, der_str, der_tup, der_lst, der_set, walk_tup, walk_lst, Option.bind_some, Option.map_some, p1_tuple, p1_tuple', p1_list, p1_list', p1_len, p1_len', p1_len2, p1_int, p1_abs, p1_intb, hi]
  · rw [List.append_assoc]
    refine List.perm_middle.trans (.cons p ?_)
    show (List.take r o ++ List.drop r o).Perm o
    rw [List.take_append_drop]
theorem ord_loop {k q : Nat} {f rate v4 v5 v6 v8 v9 : Option PV} : ∀ (d p : Nat) (o : List Nat) (st : Store) (x : Option PV), p + d < 100 → o.Perm (List.range p) → D2 k q o st → ∃ o' st' y, forL (turnS P (callF P (n + 1)) (.var 3) ordB) (fun _ => true) ((List.range' p d).map nI) [some (.ref k), f, rate, x, v4, v5, v6, some (.ref q), v8, v9] st = .ok (.nx [some (.ref k), f, rate, y, v4, v5, v6, some (.ref q), v8, v9]) st' ∧ o'.Perm (List.range (p + d)) ∧ D2 k q o' st'
  | 0, p, o, st, x, _, ho, h => ⟨o, st, x, rfl, ho, h⟩
  | d + 1, p, o, st, x, hp, ho, h => by
    have hl : o.length = p := by rw [ho.length_eq, List.length_range]
    obtain ⟨o1, st1, e1, p1, d1⟩ := ord_turn n (f := f) (rate := rate) (v4 := v4) (v5 := v5) (v6 := v6) (v8 := v8) (v9 := v9) (x := x) (p := p) (by omega) hl h
    have ho1 : o1.Perm (List.range (p + 1)) := by
      refine p1.trans ?_
      rw [List.range_succ]
      exact (List.Perm.cons p ho).trans (List.perm_append_comm (l₁ := [p]))
    obtain ⟨o2, st2, y, e2, p2, d2⟩ := ord_loop d (p + 1) o1 st1 (some (nI p)) (by omega) ho1 d1
    refine ⟨o2, st2, y, ?_, by rw [show p + (d + 1) = p + 1 + d by omega]; exact p2, d2⟩
    rw [List.range'_succ, List.map_cons, forL, e1, Res.bind_ok]
    exact e2
abbrev prB : IS := .cons (.asg (.var 9) (.cmp .eq (.call 58 (.cons (.var 0) (.cons (.var 2) .nil))) (.con (.int 0))))
    (.cons (.iff (.cmp .eq (.var 1) (.con freeS)) (.cons (.asg (.var 9) (.and (.var 9) (.cmp .lt (.var 4) (.var 8)))) .nil)
      (.cons (.iff (.cmp .eq (.var 1) (.con campS)) (.cons (.asg (.var 9) (.and (.var 9) (.cmp .eq (.bin .mod (.bin .add (.var 4) (.var 8)) (.con (.int 2))) (.con (.int 1))))) .nil)
        (.cons (.iff (.cmp .eq (.var 1) (.con roundS)) (.cons (.asg (.var 9) (.or (.and (.var 9) (.cmp .ne (.var 4) (.var 8))) (.cmp .eq (.var 8) (.bin .mod (.bin .add (.var 4) (.con (.int 1))) (.var 5))))) .nil) .nil) .nil)) .nil))
    (.cons (.asg (.var 6) (.bin .add (.var 6) (.bin .mul (.lst (.cons (.tup (.cons (.idx (.var 7) (.var 4)) (.cons (.idx (.var 7) (.var 8)) .nil))) .nil)) (.pr1 .int (.var 9))))) .nil))
theorem and_ok {cf : Nat → List PV → Store → Res PV} {env : Env} {st : Store} {a b : IE} {x y : Bool} (ha : evalE P cf a env st = .ok (.bl x) st) (hb : evalE P cf b env st = .ok (.bl y) st) : evalE P cf (.and a b) env st = .ok (.bl (x && y)) st := by
  rw [ev_and, ha, Res.bind_ok]
  cases x
  · rfl
  · exact hb
theorem or_ok {cf : Nat → List PV → Store → Res PV} {env : Env} {st : Store} {a b : IE} {x y : Bool} (ha : evalE P cf a env st = .ok (.bl x) st) (hb : evalE P cf b env st = .ok (.bl y) st) : evalE P cf (.or a b) env st = .ok (.bl (x || y)) st := by
  rw [ev_or, ha, Res.bind_ok]
  cases x
  · exact hb
  · rfl
theorem pr_turn {k q m rate a b : Nat} {o : List Nat} {zs : List (Nat × Nat)} {f : PV} {st : Store} {v3 x8 x9 : Option PV} (hf : Form f) (hr : 0 < rate) (hr2 : rate < 100) (hm : 0 < m) (ha : a < o.length) (hb : b < o.length) (hz : zs.length < 1000) (h : D2 k q o st) :
    ∃ (s : Bool) (st' : Store), turnS P (callF P (n + 1)) (.var 8) prB (nI b) [some (.ref k), some f, some (nI rate), v3, some (nI a), some (nI m), some (.lst (zs.map pvP)), some (.ref q), x8, x9] st =
      .ok (.nx [some (.ref k), some f, some (nI rate), v3, some (nI a), some (nI m), some (.lst ((zs ++ if s = true then [(gd o a, gd o b)] else []).map pvP)), some (.ref q), some (nI b), some (.bl s)]) st' ∧ D2 k q o st' := by
  obtain ⟨r, u, w, _, e⟩ := pick n hr (by omega) h.1
  have h2 := h.set (a := u) (b := w)
  generalize (st.set k (.lst [.int u, .int w])) = st1 at e h2
  obtain ⟨b1, q1⟩ := hf.f
  obtain ⟨b2, q2⟩ := hf.c
  obtain ⟨b3, q3⟩ := hf.r
  have hd := hf.der st1
  have s1 : exec P (callF P (n + 1)) (.asg (.var 9) (.cmp .eq (.call 58 (.cons (.var 0) (.cons (.var 2) .nil))) (.con (.int 0)))) [some (.ref k), some f, some (nI rate), v3, some (nI a), some (nI m), some (.lst (zs.map pvP)), some (.ref q), some (nI b), x9] st = .ok (.nx [some (.ref k), some f, some (nI rate), v3, some (nI a), some (nI m), some (.lst (zs.map pvP)), some (.ref q), some (nI b), some (.bl (decide (r = 0)))]) st1 := by
    simp -implicitDefEqProofs only [turnE, turnS, bindT, List.length_cons, List.length_nil, Nat.reduceAdd, Nat.reduceLT, if_true, Bool.false_eq_true, if_false, List.set_cons_succ, List.set_cons_zero, List.getElem?_cons_zero, List.getElem?_cons_succ, ev_var, ev_con, ev_tup, ev_lst, ev_bin, ev_cmp, ev_chn, ev_and, ev_or, ev_not, ev_neg, ev_ite, ev_idx, ev_call, ev_callk, ev_pr1, ev_pr2, ev_isi, ev_comp, es_cons, es_nil, ex_cons, ex_nil, ex_asg, ex_exp, ex_ret, ex_iff, ex_pass, as_var, as_tup, as_nil, as_cons, Res.bind_ok, Res.opt_some, der_int, der_bl, der_non, der_str, der_tup, der_lst, der_set, walk_tup, walk_lst, Option.bind_some, Option.map_some, p1_tuple, p1_tuple', p1_list, p1_list', p1_len, p1_len', p1_len2, p1_int, p1_abs, p1_intb, e, cmp_eq_int, cast_eq0]
  have s2 : ∃ s : Bool, exec P (callF P (n + 1)) (.iff (.cmp .eq (.var 1) (.con freeS)) (.cons (.asg (.var 9) (.and (.var 9) (.cmp .lt (.var 4) (.var 8)))) .nil)
      (.cons (.iff (.cmp .eq (.var 1) (.con campS)) (.cons (.asg (.var 9) (.and (.var 9) (.cmp .eq (.bin .mod (.bin .add (.var 4) (.var 8)) (.con (.int 2))) (.con (.int 1))))) .nil)
        (.cons (.iff (.cmp .eq (.var 1) (.con roundS)) (.cons (.asg (.var 9) (.or (.and (.var 9) (.cmp .ne (.var 4) (.var 8))) (.cmp .eq (.var 8) (.bin .mod (.bin .add (.var 4) (.con (.int 1))) (.var 5))))) .nil) .nil) .nil)) .nil)) [some (.ref k), some f, some (nI rate), v3, some (nI a), some (nI m), some (.lst (zs.map pvP)), some (.ref q), some (nI b), some (.bl (decide (r = 0)))] st1 = .ok (.nx [some (.ref k), some f, some (nI rate), v3, some (nI a), some (nI m), some (.lst (zs.map pvP)), some (.ref q), some (nI b), some (.bl s)]) st1 := by
    generalize hE : [some (PV.ref k), some f, some (nI rate), v3, some (nI a), some (nI m), some (PV.lst (zs.map pvP)), some (PV.ref q), some (nI b), some (PV.bl (decide (r = 0)))] = env
    have v9 : evalE P (callF P (n + 1)) (.var 9) env st1 = .ok (.bl (decide (r = 0))) st1 := by subst hE; exact var_ok rfl
    have asg : ∀ s : Bool, assign P (callF P (n + 1)) (.var 9) (.bl s) env st1 = .ok [some (.ref k), some f, some (nI rate), v3, some (nI a), some (nI m), some (.lst (zs.map pvP)), some (.ref q), some (nI b), some (.bl s)] st1 := by intro s; subst hE; simp -implicitDefEqProofs only [turnE, turnS, bindT, List.length_cons, List.length_nil, Nat.reduceAdd, Nat.reduceLT, if_true, Bool.false_eq_true, if_false, List.set_cons_succ, List.set_cons_zero, List.getElem?_cons_zero, List.getElem?_cons_succ, ev_var, ev_con, ev_tup, ev_lst, ev_bin, ev_cmp, ev_chn, ev_and, ev_or, ev_not, ev_neg, ev_ite, ev_idx, ev_call, ev_callk, ev_pr1, ev_pr2, ev_isi, ev_comp, es_cons, es_nil, ex_cons, ex_nil, ex_asg, ex_exp, ex_ret, ex_iff, ex_pass, as_var, as_tup, as_nil, as_cons, Res.bind_ok, Res.opt_some, der_int, der_bl, der_non, der_str, der_tup, der_lst, der_set, walk_tup, walk_lst, Option.bind_some, Option.map_some, p1_tuple, p1_tuple', p1_list, p1_list', p1_len, p1_len', p1_len2, p1_int, p1_abs, p1_intb, Res.bind_ok]
    have c1 : evalE P (callF P (n + 1)) (.cmp .eq (.var 1) (.con freeS)) env st1 = .ok (.bl b1) st1 := by subst hE; simp -implicitDefEqProofs only [turnE, turnS, bindT, List.length_cons, List.length_nil, Nat.reduceAdd, Nat.reduceLT, if_true, Bool.false_eq_true, if_false, List.set_cons_succ, List.set_cons_zero, List.getElem?_cons_zero, List.getElem?_cons_succ, ev_var, ev_con, ev_tup, ev_lst, ev_bin, ev_cmp, ev_chn, ev_and, ev_or, ev_not, ev_neg, ev_ite, ev_idx, ev_call, ev_callk, ev_pr1, ev_pr2, ev_isi, ev_comp, es_cons, es_nil, ex_cons, ex_nil, ex_asg, ex_exp, ex_ret, ex_iff, ex_pass, as_var, as_tup, as_nil, as_cons, Res.bind_ok, Res.opt_some, der_int, der_bl, der_non, der_str, der_tup, der_lst, der_set, walk_tup, walk_lst, Option.bind_some, Option.map_some, p1_tuple, p1_tuple', p1_list, p1_list', p1_len, p1_len', p1_len2, p1_int, p1_abs, p1_intb, hd, q1]
    have c2 : evalE P (callF P (n + 1)) (.cmp .eq (.var 1) (.con campS)) env st1 = .ok (.bl b2) st1 := by subst hE; simp -implicitDefEqProofs only [turnE, turnS, bindT, List.length_cons, List.length_nil, Nat.reduceAdd, Nat.reduceLT, if_true, Bool.false_eq_true, if_false, List.set_cons_succ, List.set_cons_zero, List.getElem?_cons_zero, List.getElem?_cons_succ, ev_var, ev_con, ev_tup, ev_lst, ev_bin, ev_cmp, ev_chn, ev_and, ev_or, ev_not, ev_neg, ev_ite, ev_idx, ev_call, ev_callk, ev_pr1, ev_pr2, ev_isi, ev_comp, es_cons, es_nil, ex_cons, ex_nil, ex_asg, ex_exp, ex_ret, ex_iff, ex_pass, as_var, as_tup, as_nil, as_cons, Res.bind_ok, Res.opt_some, der_int, der_bl, der_non, der_str, der_tup, der_lst, der_set, walk_tup, walk_lst, Option.bind_some, Option.map_some, p1_tuple, p1_tuple', p1_list, p1_list', p1_len, p1_len', p1_len2, p1_int, p1_abs, p1_intb, hd, q2]
    have c3 : evalE P (callF P (n + 1)) (.cmp .eq (.var 1) (.con roundS)) env st1 = .ok (.bl b3) st1 := by subst hE; simp -implicitDefEqProofs only [turnE, turnS, bindT, List.length_cons, List.length_nil, Nat.reduceAdd, Nat.reduceLT, if_true, Bool.false_eq_true, if_false, List.set_cons_succ, List.set_cons_zero, List.getElem?_cons_zero, List.getElem?_cons_succ, ev_var, ev_con, ev_tup, ev_lst, ev_bin, ev_cmp, ev_chn, ev_and, ev_or, ev_not, ev_neg, ev_ite, ev_idx, ev_call, ev_callk, ev_pr1, ev_pr2, ev_isi, ev_comp, es_cons, es_nil, ex_cons, ex_nil, ex_asg, ex_exp, ex_ret, ex_iff, ex_pass, as_var, as_tup, as_nil, as_cons, Res.bind_ok, Res.opt_some, der_int, der_bl, der_non, der_str, der_tup, der_lst, der_set, walk_tup, walk_lst, Option.bind_some, Option.map_some, p1_tuple, p1_tuple', p1_list, p1_list', p1_len, p1_len', p1_len2, p1_int, p1_abs, p1_intb, hd, q3]
    have d1 : ∃ y, evalE P (callF P (n + 1)) (.cmp .lt (.var 4) (.var 8)) env st1 = .ok (.bl y) st1 := ⟨decide ((a : Int) < b), by subst hE; simp -implicitDefEqProofs only [turnE, turnS, bindT, List.length_cons, List.length_nil, Nat.reduceAdd, Nat.reduceLT, if_true, Bool.false_eq_true, if_false, List.set_cons_succ, List.set_cons_zero, List.getElem?_cons_zero, List.getElem?_cons_succ, ev_var, ev_con, ev_tup, ev_lst, ev_bin, ev_cmp, ev_chn, ev_and, ev_or, ev_not, ev_neg, ev_ite, ev_idx, ev_call, ev_callk, ev_pr1, ev_pr2, ev_isi, ev_comp, es_cons, es_nil, ex_cons, ex_nil, ex_asg, ex_exp, ex_ret, ex_iff, ex_pass, as_var, as_tup, as_nil, as_cons, Res.bind_ok, Res.opt_some, der_int, der_bl, der_non, der_str, der_tup, der_lst, der_set, walk_tup, walk_lst, Option.bind_some, Option.map_some, p1_tuple, p1_tuple', p1_list, p1_list', p1_len, p1_len', p1_len2, p1_int, p1_abs, p1_intb, cmp_lt_int]⟩
    have m2 : ∀ z : Int, binop .mod (.int z) (.int 2) = some (.int (z % 2)) := fun _ => rfl
    have m3 : ∀ z : Int, binop .mod (.int z) (nI m) = some (.int (z % m)) := fun z => by
      show binop .mod (.int z) (.int m) = _
      simp only [binop]; rw [if_pos (by omega)]
    have d2 : ∃ y, evalE P (callF P (n + 1)) (.cmp .eq (.bin .mod (.bin .add (.var 4) (.var 8)) (.con (.int 2))) (.con (.int 1))) env st1 = .ok (.bl y) st1 := ⟨decide (((a : Int) + b) % 2 = 1), by subst hE; simp -implicitDefEqProofs only [turnE, turnS, bindT, List.length_cons, List.length_nil, Nat.reduceAdd, Nat.reduceLT, if_true, Bool.false_eq_true, if_false, List.set_cons_succ, List.set_cons_zero, List.getElem?_cons_zero, List.getElem?_cons_succ, ev_var, ev_con, ev_tup, ev_lst, ev_bin, ev_cmp, ev_chn, ev_and, ev_or, ev_not, ev_neg, ev_ite, ev_idx, ev_call, ev_callk, ev_pr1, ev_pr2, ev_isi, ev_comp, es_cons, es_nil, ex_cons, ex_nil, ex_asg, ex_exp, ex_ret, ex_iff, ex_pass, as_var, as_tup, as_nil, as_cons, Res.bind_ok, Res.opt_some, der_int, der_bl, der_non, der_str, der_tup, der_lst, der_set, walk_tup, walk_lst, Option.bind_some, Option.map_some, p1_tuple, p1_tuple', p1_list, p1_list', p1_len, p1_len', p1_len2, p1_int, p1_abs, p1_intb, bop_addI, m2, cmp_eq_int]⟩
    have d3 : ∃ y, evalE P (callF P (n + 1)) (.cmp .ne (.var 4) (.var 8)) env st1 = .ok (.bl y) st1 := ⟨!decide ((a : Int) = b), by subst hE; simp -implicitDefEqProofs only [turnE, turnS, bindT, List.length_cons, List.length_nil, Nat.reduceAdd, Nat.reduceLT, if_true, Bool.false_eq_true, if_false, List.set_cons_succ, List.set_cons_zero, List.getElem?_cons_zero, List.getElem?_cons_succ, ev_var, ev_con, ev_tup, ev_lst, ev_bin, ev_cmp, ev_chn, ev_and, ev_or, ev_not, ev_neg, ev_ite, ev_idx, ev_call, ev_callk, ev_pr1, ev_pr2, ev_isi, ev_comp, es_cons, es_nil, ex_cons, ex_nil, ex_asg, ex_exp, ex_ret, ex_iff, ex_pass, as_var, as_tup, as_nil, as_cons, Res.bind_ok, Res.opt_some, der_int, der_bl, der_non, der_str, der_tup, der_lst, der_set, walk_tup, walk_lst, Option.bind_some, Option.map_some, p1_tuple, p1_tuple', p1_list, p1_list', p1_len, p1_len', p1_len2, p1_int, p1_abs, p1_intb, cmp_ne_int]⟩
    have d4 : ∃ y, evalE P (callF P (n + 1)) (.cmp .eq (.var 8) (.bin .mod (.bin .add (.var 4) (.con (.int 1))) (.var 5))) env st1 = .ok (.bl y) st1 := ⟨decide ((b : Int) = ((a : Int) + 1) % m), by subst hE; simp -implicitDefEqProofs only [turnE, turnS, bindT, List.length_cons, List.length_nil, Nat.reduceAdd, Nat.reduceLT, if_true, Bool.false_eq_true, if_false, List.set_cons_succ, List.set_cons_zero, List.getElem?_cons_zero, List.getElem?_cons_succ, ev_var, ev_con, ev_tup, ev_lst, ev_bin, ev_cmp, ev_chn, ev_and, ev_or, ev_not, ev_neg, ev_ite, ev_idx, ev_call, ev_callk, ev_pr1, ev_pr2, ev_isi, ev_comp, es_cons, es_nil, ex_cons, ex_nil, ex_asg, ex_exp, ex_ret, ex_iff, ex_pass, as_var, as_tup, as_nil, as_cons, Res.bind_ok, Res.opt_some, der_int, der_bl, der_non, der_str, der_tup, der_lst, der_set, walk_tup, walk_lst, Option.bind_some, Option.map_some, p1_tuple, p1_tuple', p1_list, p1_list', p1_len, p1_len', p1_len2, p1_int, p1_abs, p1_intb, bop_addI, m3, cmp_eq_int]⟩
    obtain ⟨y1, d1⟩ := d1
    obtain ⟨y2, d2⟩ := d2
    obtain ⟨y3, d3⟩ := d3
    obtain ⟨y4, d4⟩ := d4
    cases b1
    · cases b2
      · cases b3
        · refine ⟨decide (r = 0), ?_⟩
          rw [hE, ex_iff, c1, Res.bind_ok]
          simp only [asBool]
          rw [ex_cons, ex_iff, c2, Res.bind_ok]
          simp only []
          rw [ex_cons, ex_iff, c3, Res.bind_ok]
          simp only [ex_nil, Res.bind_ok]
        · refine ⟨(decide (r = 0) && y3) || y4, ?_⟩
          rw [ex_iff, c1, Res.bind_ok]
          simp only []
          rw [ex_cons, ex_iff, c2, Res.bind_ok]
          simp only []
          rw [ex_cons, ex_iff, c3, Res.bind_ok]
          simp only []
          rw [ex_cons, ex_asg, or_ok (and_ok v9 d3) d4, Res.bind_ok, asg, Res.bind_ok]
          simp only [ex_nil, Res.bind_ok]
      · refine ⟨decide (r = 0) && y2, ?_⟩
        rw [ex_iff, c1, Res.bind_ok]
        simp only []
        rw [ex_cons, ex_iff, c2, Res.bind_ok]
        simp only []
        rw [ex_cons, ex_asg, and_ok v9 d2, Res.bind_ok, asg, Res.bind_ok]
        simp only [ex_nil, Res.bind_ok]
    · refine ⟨decide (r = 0) && y1, ?_⟩
      rw [ex_iff, c1, Res.bind_ok]
      simp only []
      rw [ex_cons, ex_asg, and_ok v9 d1, Res.bind_ok, asg, Res.bind_ok]
      simp only [ex_nil, Res.bind_ok]
  obtain ⟨s, s2⟩ := s2
  have hd7 := h2.der
  have x1 : index1 (.lst (o.map nI)) (nI a) = some (nI (gd o a)) := gidx ha
  have x2 : index1 (.lst (o.map nI)) (nI b) = some (nI (gd o b)) := gidx hb
  have hmul : binop .mul (.lst [pvP (gd o a, gd o b)]) (.int (b2i s)) = some (.lst ((if s = true then [(gd o a, gd o b)] else []).map pvP)) := by cases s <;> rfl
  have hmul : binop .mul (.lst [.tup [nI (gd o a), nI (gd o b)]]) (.int (b2i s)) = some (.lst ((if s = true then [(gd o a, gd o b)] else []).map pvP)) := hmul
  have hadd : binop .add (.lst (zs.map pvP)) (.lst ((if s = true then [(gd o a, gd o b)] else []).map pvP)) = some (.lst ((zs ++ if s = true then [(gd o a, gd o b)] else []).map pvP)) := by
    simp only [binop]
    rw [if_pos (by rw [List.length_map, List.length_map]; unfold lim; split <;> simp <;> omega), List.map_append]
  have s3 : exec P (callF P (n + 1)) (.cons (.asg (.var 6) (.bin .add (.var 6) (.bin .mul (.lst (.cons (.tup (.cons (.idx (.var 7) (.var 4)) (.cons (.idx (.var 7) (.var 8)) .nil))) .nil)) (.pr1 .int (.var 9))))) .nil) [some (.ref k), some f, some (nI rate), v3, some (nI a), some (nI m), some (.lst (zs.map pvP)), some (.ref q), some (nI b), some (.bl s)] st1 = .ok (.nx [some (.ref k), some f, some (nI rate), v3, some (nI a), some (nI m), some (.lst ((zs ++ if s = true then [(gd o a, gd o b)] else []).map pvP)), some (.ref q), some (nI b), some (.bl s)]) st1 := by
    simp -implicitDefEqProofs only [turnE, turnS, bindT, List.length_cons, List.length_nil, Nat.reduceAdd, Nat.reduceLT, if_true, Bool.false_eq_true, if_false, List.set_cons_succ, List.set_cons_zero, List.getElem?_cons_zero, List.getElem?_cons_succ, ev_var, ev_con, ev_tup, ev_lst, ev_bin, ev_cmp, ev_chn, ev_and, ev_or, ev_not, ev_neg, ev_ite, ev_idx, ev_call, ev_callk, ev_pr1, ev_pr2, ev_isi, ev_comp, es_cons, es_nil, ex_cons, ex_nil, ex_asg, ex_exp, ex_ret, ex_iff, ex_pass, as_var, as_tup, as_nil, as_cons, Res.bind_ok, Res.opt_some, der_int, der_bl, der_non, der_str, der_tup, der_lst, der_set, walk_tup, walk_lst, Option.bind_some, Option.map_some, p1_tuple, p1_tuple', p1_list, p1_list', p1_len, p1_len', p1_len2, p1_int, p1_abs, p1_intb, hd7, x1, x2, hmul, hadd]
  refine ⟨s, st1, ?_, h2⟩
  have hb : exec P (callF P (n + 1)) prB [some (.ref k), some f, some (nI rate), v3, some (nI a), some (nI m), some (.lst (zs.map pvP)), some (.ref q), some (nI b), x9] st = _ := ex_seq s1 (ex_seq s2 s3)
  rw [turnS]
  simp only [bindT, List.length_cons, List.length_nil, Nat.reduceAdd, Nat.reduceLT, if_true, List.set_cons_succ, List.set_cons_zero]
  exact hb
theorem in_loop {k q m rate a : Nat} {o : List Nat} {f : PV} {v3 : Option PV} (hf : Form f) (hr : 0 < rate) (hr2 : rate < 100) (hm : 0 < m) (ha : a < o.length) : ∀ (bs : List Nat) (zs : List (Nat × Nat)) (x8 x9 : Option PV) (st : Store), (∀ b ∈ bs, b < o.length) → zs.length + bs.length < 1000 → D2 k q o st →
    ∃ (ws : List Nat) (y8 y9 : Option PV) (st' : Store), ws.Sublist bs ∧ forL (turnS P (callF P (n + 1)) (.var 8) prB) (fun _ => true) (bs.map nI) [some (.ref k), some f, some (nI rate), v3, some (nI a), some (nI m), some (.lst (zs.map pvP)), some (.ref q), x8, x9] st =
      .ok (.nx [some (.ref k), some f, some (nI rate), v3, some (nI a), some (nI m), some (.lst ((zs ++ ws.map fun b => (gd o a, gd o b)).map pvP)), some (.ref q), y8, y9]) st' ∧ D2 k q o st'
  | [], zs, x8, x9, st, _, _, h => ⟨[], x8, x9, st, .slnil, by simp [forL], h⟩
  | b :: bs, zs, x8, x9, st, hb, hz, h => by
    rw [List.length_cons] at hz
    obtain ⟨s, st1, e1, d1⟩ := pr_turn n (k := k) (q := q) (m := m) (rate := rate) (zs := zs) (v3 := v3) (x8 := x8) (x9 := x9) hf hr hr2 hm ha (hb b List.mem_cons_self) (by omega) h
    obtain ⟨ws, y8, y9, st2, hs, e2, d2⟩ := in_loop hf hr hr2 hm ha bs (zs ++ if s = true then [(gd o a, gd o b)] else []) (some (nI b)) (some (.bl s)) st1 (fun c hc => hb c (List.mem_cons_of_mem _ hc)) (by split <;> simp <;> omega) d1
    cases s
    · refine ⟨ws, y8, y9, st2, hs.cons b, ?_, d2⟩
      rw [List.map_cons, forL, e1, Res.bind_ok]
      simp only [if_true]
      rw [e2]
      simp
    · refine ⟨b :: ws, y8, y9, st2, hs.cons_cons b, ?_, d2⟩
      rw [List.map_cons, forL, e1, Res.bind_ok]
      simp only [if_true]
      simp only [if_true] at e2
      rw [e2]
      simp
abbrev outB' : IS := .cons (.fors (.var 8) (.rng (.con (.int 0)) (.var 5)) prB) .nil
theorem out_loop {k q m rate : Nat} {o : List Nat} {f : PV} {v3 : Option PV} (hf : Form f) (hr : 0 < rate) (hr2 : rate < 100) (hm : 0 < m) (hm2 : m ≤ 5) (ho : o.length = m) : ∀ (as : List Nat) (zs : List (Nat × Nat)) (x4 x8 x9 : Option PV) (st : Store), (∀ a ∈ as, a < m) → zs.length + 5 * as.length < 900 → D2 k q o st →
    ∃ (ys : List (Nat × Nat)) (y4 y8 y9 : Option PV) (st' : Store), ys.Sublist (as.flatMap fun a => (List.range m).map fun b => (a, b)) ∧ forL (turnS P (callF P (n + 1)) (.var 4) outB') (fun _ => true) (as.map nI) [some (.ref k), some f, some (nI rate), v3, x4, some (nI m), some (.lst (zs.map pvP)), some (.ref q), x8, x9] st =
      .ok (.nx [some (.ref k), some f, some (nI rate), v3, y4, some (nI m), some (.lst ((zs ++ ys.map fun e => (gd o e.1, gd o e.2)).map pvP)), some (.ref q), y8, y9]) st' ∧ D2 k q o st'
  | [], zs, x4, x8, x9, st, _, _, h => ⟨[], x4, x8, x9, st, .slnil, by simp [forL], h⟩
  | a :: as, zs, x4, x8, x9, st, ha, hz, h => by
    rw [List.length_cons] at hz
    have ha1 := ha a List.mem_cons_self
    obtain ⟨ws, y8, y9, st1, hs, e1, d1⟩ := in_loop n (k := k) (q := q) (m := m) (rate := rate) (v3 := v3) hf hr hr2 hm (show a < o.length by rw [ho]; exact ha1) (List.range m) zs x8 x9 st (fun b hb => by rw [ho]; exact List.mem_range.mp hb) (by rw [List.length_range]; omega) h
    have hwl := hs.length_le
    rw [List.length_range] at hwl
    obtain ⟨ys, z4, z8, z9, st2, hs2, e2, d2⟩ := out_loop hf hr hr2 hm hm2 ho as (zs ++ ws.map fun b => (gd o a, gd o b)) (some (nI a)) y8 y9 st1 (fun c hc => ha c (List.mem_cons_of_mem _ hc)) (by rw [List.length_append, List.length_map]; omega) d1
    refine ⟨(ws.map fun b => (a, b)) ++ ys, z4, z8, z9, st2, ?_, ?_, d2⟩
    · rw [List.flatMap_cons]
      exact (hs.map _).append hs2
    · have hr0 : evalE P (callF P (n + 1)) (.rng (.con (.int 0)) (.var 5)) [some (.ref k), some f, some (nI rate), v3, some (nI a), some (nI m), some (.lst (zs.map pvP)), some (.ref q), x8, x9] st = .ok (.lst ((List.range m).map fun i => PV.int (i : Nat))) st := rng0 (k := m) (var_ok rfl) (by omega)
      have ht : turnS P (callF P (n + 1)) (.var 4) outB' (nI a) [some (.ref k), some f, some (nI rate), v3, x4, some (nI m), some (.lst (zs.map pvP)), some (.ref q), x8, x9] st = .ok (.nx [some (.ref k), some f, some (nI rate), v3, some (nI a), some (nI m), some (.lst ((zs ++ ws.map fun b => (gd o a, gd o b)).map pvP)), some (.ref q), y8, y9]) st1 := by
        rw [turnS]
        simp only [bindT, List.length_cons, List.length_nil, Nat.reduceAdd, Nat.reduceLT, if_true, List.set_cons_succ, List.set_cons_zero]
        refine ex_seq (st1 := st1) ?_ ex_nil
        rw [ex_fors, hr0, Res.bind_ok, walk_lst, Res.opt_some, Res.bind_ok]
        exact e1
      rw [List.map_cons, forL, ht, Res.bind_ok]
      simp only [if_true]
      rw [e2, List.append_assoc, List.map_append (f := fun e : Nat × Nat => (gd o e.1, gd o e.2)), List.map_map]
      rfl
/-! ### the sorted pairs -/
instance (a b : Nat × Nat) : Decidable (lexP a b) := by unfold lexP; infer_instance
theorem lt_pvP (a b : Nat × Nat) : PV.lt (pvP a) (pvP b) = decide (lexP a b) := by
  unfold lexP
  obtain ⟨a1, a2⟩ := a
  obtain ⟨b1, b2⟩ := b
  rw [Bool.eq_iff_iff]
  simp only [pvP, nI, PV.lt, PV.lts, PV.eqv]
  by_cases h : a1 = b1
  · subst h
    simp
    omega
  · have : ¬ ((a1 : Int) = (b1 : Int)) := by omega
    simp [h, this]
def leP (a b : Nat × Nat) : Bool := decide (¬ lexP b a)
theorem leP_trans (a b c : Nat × Nat) : leP a b → leP b c → leP a c := by
  unfold leP lexP
  simp only [decide_eq_true_eq]
  omega
theorem leP_total (a b : Nat × Nat) : leP a b || leP b a := by
  unfold leP lexP
  rw [Bool.or_eq_true, decide_eq_true_eq, decide_eq_true_eq]
  omega
theorem sortOk_pairs (E : List (Nat × Nat)) : sortOk (E.map pvP) = true := by
  unfold sortOk
  rw [Bool.and_eq_true, Bool.or_eq_true]
  refine ⟨?_, .inl ?_⟩
  · rw [List.all_eq_true]
    intro x hx
    obtain ⟨e, _, rfl⟩ := List.mem_map.mp hx
    rw [Bool.and_eq_true]
    refine ⟨rfl, ?_⟩
    rw [List.all_eq_true]
    intro y hy
    obtain ⟨d, _, rfl⟩ := List.mem_map.mp hy
    rfl
  · rw [List.all_eq_true]
    intro x hx
    obtain ⟨e, _, rfl⟩ := List.mem_map.mp hx
    rfl
theorem sorted_pairs (E : List (Nat × Nat)) : prim1 .sorted (.lst (E.map pvP)) = some (.lst ((E.mergeSort leP).map pvP)) := by
  simp only [prim1]
  rw [if_pos (sortOk_pairs E)]
  congr 2
  unfold sortBy
  rw [List.map_mergeSort (s := fun a b => !PV.lt b a) (f := pvP)]
  intro a _ b _
  rw [lt_pvP]
  unfold leP
  simp
theorem sort_strict {E : List (Nat × Nat)} (h : E.Nodup) : (E.mergeSort leP).Pairwise lexP := by
  have h1 := List.pairwise_mergeSort leP_trans leP_total E
  have h2 : (E.mergeSort leP).Nodup := (List.mergeSort_perm E leP).nodup_iff.mpr h
  refine (h1.and h2).imp fun {a b} hab => ?_
  obtain ⟨x, y⟩ := hab
  unfold leP lexP at x
  unfold lexP
  rw [decide_eq_true_eq] at x
  obtain ⟨a1, a2⟩ := a
  obtain ⟨b1, b2⟩ := b
  simp only [ne_eq, Prod.mk.injEq] at x y ⊢
  omega
theorem gd_inj {o : List Nat} (h : o.Nodup) {a b : Nat} (ha : a < o.length) (hb : b < o.length) (e : gd o a = gd o b) : a = b := by
  rw [gd_eq ha, gd_eq hb] at e
  have hp := List.pairwise_iff_getElem.mp h
  rcases Nat.lt_trichotomy a b with c | c | c
  · exact absurd e (hp a b ha hb c)
  · exact c
  · exact absurd e.symm (hp b a hb ha c)
theorem prs_nodup (m : Nat) : ((List.range m).flatMap fun a => (List.range m).map fun b => (a, b)).Nodup := by
  unfold List.Nodup
  rw [List.pairwise_flatMap]
  refine ⟨fun a _ => ?_, ?_⟩
  · rw [List.pairwise_map]
    refine List.nodup_range.imp fun {x y} hxy hc => ?_
    exact hxy (Prod.mk.inj hc).2
  · refine (List.nodup_range (n := m)).imp fun {a b} hab => ?_
    intro x hx y hy hc
    obtain ⟨c, _, rfl⟩ := List.mem_map.mp hx
    obtain ⟨d, _, rfl⟩ := List.mem_map.mp hy
    exact hab (Prod.mk.inj hc).1
end
end LP
namespace LP
open MP
section
variable (n : Nat)
theorem gd_mem {o : List Nat} {a : Nat} (ha : a < o.length) : gd o a ∈ o := by rw [gd_eq ha]; exact List.getElem_mem ha
theorem map_nodup {o : List Nat} {m : Nat} (ho : o.Perm (List.range m)) {ys : List (Nat × Nat)} (hs : ys.Sublist ((List.range m).flatMap fun a => (List.range m).map fun b => (a, b))) : (ys.map fun e => (gd o e.1, gd o e.2)).Nodup ∧ ∀ e ∈ ys.map (fun e => (gd o e.1, gd o e.2)), e.1 < m ∧ e.2 < m := by
  have hl : o.length = m := by rw [ho.length_eq, List.length_range]
  have hn : o.Nodup := ho.nodup_iff.mpr List.nodup_range
  have hin : ∀ e ∈ ys, e.1 < m ∧ e.2 < m := by
    intro e he
    obtain ⟨a, ha, h2⟩ := List.mem_flatMap.mp (hs.subset he)
    obtain ⟨b, hb, rfl⟩ := List.mem_map.mp h2
    exact ⟨List.mem_range.mp ha, List.mem_range.mp hb⟩
  constructor
  · unfold List.Nodup
    rw [List.pairwise_map]
    refine ((prs_nodup m).sublist hs).imp_of_mem fun {x y} hx hy hxy hc => ?_
    have hx := hin x hx
    have hy := hin y hy
    have h1 := gd_inj hn (by omega) (by omega) (Prod.mk.inj hc).1
    have h2 := gd_inj hn (by omega) (by omega) (Prod.mk.inj hc).2
    exact hxy (Prod.ext h1 h2)
  · intro e he
    obtain ⟨d, hd, rfl⟩ := List.mem_map.mp he
    have hd := hin d hd
    have hm : ∀ a, a < m → gd o a < m := fun a ha => List.mem_range.mp (ho.subset (gd_mem (by omega)))
    exact ⟨hm _ hd.1, hm _ hd.2⟩
theorem fieldL {k : Nat} {st : Store} {f : PV} (hf : Form f) (h : D k st) : ∃ m E st', Fld m E ∧ callF P (n + 2) 60 [.ref k, f] st = .ok (pvF m E) st' ∧ D k st' := by
  obtain ⟨r1, a1, b1, hr1, e1⟩ := pick n (s := 5) (by decide) (by decide) h
  have d1 : D k (st.set k (.lst [.int a1, .int b1])) := h.set
  generalize (st.set k (.lst [.int a1, .int b1])) = st1 at e1 d1
  have hm : ∃ m : Nat, 2 ≤ m ∧ m ≤ 5 ∧ index1 (.lst [.int 5, .int 4, .int 4, .int 3, .int 2]) (nI r1) = some (nI m) := by
    have : r1 = 0 ∨ r1 = 1 ∨ r1 = 2 ∨ r1 = 3 ∨ r1 = 4 := by omega
    rcases this with rfl | rfl | rfl | rfl | rfl
    · exact ⟨5, by decide, by decide, rfl⟩
    · exact ⟨4, by decide, by decide, rfl⟩
    · exact ⟨4, by decide, by decide, rfl⟩
    · exact ⟨3, by decide, by decide, rfl⟩
    · exact ⟨2, by decide, by decide, rfl⟩
  obtain ⟨m, hm1, hm2, hx⟩ := hm
  have d2 : D k (st1 ++ [.lst []]) := d1.app
  have dq : D2 k st1.length [] (st1 ++ [.lst []]) := ⟨d2, by have := d1.lt; omega, by have := d1.lt; have := d1.2.1; omega, by rw [app_get0]; rfl⟩
  generalize hq : st1.length = q at dq
  have s1 : exec P (callF P (n + 1)) (.asg (.tup (.cons (.var 5) (.cons (.var 6) (.cons (.var 7) .nil)))) (.tup (.cons (.idx (.lst (.cons (.con (.int 5)) (.cons (.con (.int 4)) (.cons (.con (.int 4)) (.cons (.con (.int 3)) (.cons (.con (.int 2)) .nil)))))) (.call 58 (.cons (.var 0) (.cons (.con (.int 5)) .nil)))) (.cons (.lst .nil) (.cons (.nw (.lst .nil)) .nil))))) [some (.ref k), some f, none, none, none, none, none, none, none, none] st = .ok (.nx [some (.ref k), some f, none, none, none, some (nI m), some (.lst []), some (.ref q), none, none]) (st1 ++ [.lst []]) := by
    have e1 : callF P (n + 1) 58 [.ref k, .int 5] st = _ := e1
    simp -implicitDefEqProofs only [turnE, turnS, bindT, List.length_cons, List.length_nil, Nat.reduceAdd, Nat.reduceLT, if_true, Bool.false_eq_true, if_false, List.set_cons_succ, List.set_cons_zero, List.getElem?_cons_zero, List.getElem?_cons_succ, ev_var, ev_con, ev_tup, ev_lst, ev_bin, ev_cmp, ev_chn, ev_and, ev_or, ev_not, ev_neg, ev_ite, ev_idx, ev_call, ev_callk, ev_pr1, ev_pr2, ev_isi, ev_comp, es_cons, es_nil, ex_cons, ex_nil, ex_asg, ex_exp, ex_ret, ex_iff, ex_pass, as_var, as_tup, as_nil, as_cons, Res.bind_ok, Res.opt_some, der_int, der_bl, der_non, der_str, der_tup, der_lst, der_set, walk_tup, walk_lst, Option.bind_some, Option.map_some, p1_tuple, p1_tuple', p1_list, p1_list', p1_len, p1_len', p1_len2, p1_int, p1_abs, p1_intb, e1, hx, ev_nw, hq]
  generalize hst2 : st1 ++ [MO.lst []] = st2 at s1 dq d2
  obtain ⟨r2, a2, b2, hr2, e2⟩ := pick n (s := 3) (by decide) (by decide) d2
  have dq2 : D2 k q [] (st2.set k (.lst [.int a2, .int b2])) := dq.set
  generalize (st2.set k (.lst [.int a2, .int b2])) = st3 at e2 dq2
  obtain ⟨bb, hbb⟩ := hf.isin
  have hrate : ∃ rate : Nat, 0 < rate ∧ rate < 100 ∧ ((2 : Int) + (r2 : Nat)) - b2i bb = (rate : Int) := by
    cases bb
    · exact ⟨2 + r2, by omega, by omega, by show (2 : Int) + (r2 : Nat) - 0 = _; omega⟩
    · exact ⟨1 + r2, by omega, by omega, by show (2 : Int) + (r2 : Nat) - 1 = _; omega⟩
  obtain ⟨rate, hrt1, hrt2, hrt⟩ := hrate
  have s2 : exec P (callF P (n + 1)) (.asg (.var 2) (.bin .sub (.bin .add (.con (.int 2)) (.call 58 (.cons (.var 0) (.cons (.con (.int 3)) .nil)))) (.pr1 .int (.cmp .isin (.var 1) (.lst (.cons (.con freeS) (.cons (.con campS) .nil))))))) [some (.ref k), some f, none, none, none, some (nI m), some (.lst []), some (.ref q), none, none] st2 = .ok (.nx [some (.ref k), some f, some (nI rate), none, none, some (nI m), some (.lst []), some (.ref q), none, none]) st3 := by
    have e2 : callF P (n + 1) 58 [.ref k, .int 3] st2 = _ := e2
    have hd := hf.der st3
    simp -implicitDefEqProofs only [turnE, turnS, bindT, List.length_cons, List.length_nil, Nat.reduceAdd, Nat.reduceLT, if_true, Bool.false_eq_true, if_false, List.set_cons_succ, List.set_cons_zero, List.getElem?_cons_zero, List.getElem?_cons_succ, ev_var, ev_con, ev_tup, ev_lst, ev_bin, ev_cmp, ev_chn, ev_and, ev_or, ev_not, ev_neg, ev_ite, ev_idx, ev_call, ev_callk, ev_pr1, ev_pr2, ev_isi, ev_comp, es_cons, es_nil, ex_cons, ex_nil, ex_asg, ex_exp, ex_ret, ex_iff, ex_pass, as_var, as_tup, as_nil, as_cons, Res.bind_ok, Res.opt_some, der_int, der_bl, der_non, der_str, der_tup, der_lst, der_set, walk_tup, walk_lst, Option.bind_some, Option.map_some, p1_tuple, p1_tuple', p1_list, p1_list', p1_len, p1_len', p1_len2, p1_int, p1_abs, p1_intb, e2, bop_addI, hd, hbb, bop_subI, hrt]
  obtain ⟨o, st4, y3, e3, ho, dq3⟩ := ord_loop n (k := k) (q := q) (f := some f) (rate := some (nI rate)) (v4 := none) (v5 := some (nI m)) (v6 := some (.lst [])) (v8 := none) (v9 := none) m 0 [] st3 none (by omega) (by simp) dq2
  rw [← List.range_eq_range'] at e3
  rw [Nat.zero_add] at ho
  have hol : o.length = m := by rw [ho.length_eq, List.length_range]
  have s3 : exec P (callF P (n + 1)) (.fors (.var 3) (.rng (.con (.int 0)) (.var 5)) ordB) [some (.ref k), some f, some (nI rate), none, none, some (nI m), some (.lst []), some (.ref q), none, none] st3 = .ok (.nx [some (.ref k), some f, some (nI rate), y3, none, some (nI m), some (.lst []), some (.ref q), none, none]) st4 := by
    have hr0 : evalE P (callF P (n + 1)) (.rng (.con (.int 0)) (.var 5)) [some (.ref k), some f, some (nI rate), none, none, some (nI m), some (.lst []), some (.ref q), none, none] st3 = .ok (.lst ((List.range m).map fun i => PV.int (i : Nat))) st3 := rng0 (k := m) (var_ok rfl) (by omega)
    rw [ex_fors, hr0, Res.bind_ok, walk_lst, Res.opt_some, Res.bind_ok]
    exact e3
  obtain ⟨ys, y4, y8, y9, st5, hys, e4, dq4⟩ := out_loop n (k := k) (q := q) (m := m) (rate := rate) (o := o) (f := f) (v3 := y3) hf hrt1 hrt2 (by omega) hm2 hol (List.range m) [] none none none st4 (fun a ha => List.mem_range.mp ha) (by simp; omega) dq3
  rw [List.nil_append] at e4
  obtain ⟨hnd, hin⟩ := map_nodup ho hys
  generalize (ys.map fun e => (gd o e.1, gd o e.2)) = E0 at e4 hnd hin
  have s4 : exec P (callF P (n + 1)) (.fors (.var 4) (.rng (.con (.int 0)) (.var 5)) outB') [some (.ref k), some f, some (nI rate), y3, none, some (nI m), some (.lst []), some (.ref q), none, none] st4 = .ok (.nx [some (.ref k), some f, some (nI rate), y3, y4, some (nI m), some (.lst (E0.map pvP)), some (.ref q), y8, y9]) st5 := by
    have hr0 : evalE P (callF P (n + 1)) (.rng (.con (.int 0)) (.var 5)) [some (.ref k), some f, some (nI rate), y3, none, some (nI m), some (.lst []), some (.ref q), none, none] st4 = .ok (.lst ((List.range m).map fun i => PV.int (i : Nat))) st4 := rng0 (k := m) (var_ok rfl) (by omega)
    rw [ex_fors, hr0, Res.bind_ok, walk_lst, Res.opt_some, Res.bind_ok]
    exact e4
  have s5 : exec P (callF P (n + 1)) (.cons (.ret (.tup (.cons (.var 5) (.cons (.pr1 .tuple (.pr1 .sorted (.var 6))) .nil)))) .nil) [some (.ref k), some f, some (nI rate), y3, y4, some (nI m), some (.lst (E0.map pvP)), some (.ref q), y8, y9] st5 = .ok (.rt (pvF m (E0.mergeSort leP))) st5 := by
    simp -implicitDefEqProofs only [turnE, turnS, bindT, List.length_cons, List.length_nil, Nat.reduceAdd, Nat.reduceLT, if_true, Bool.false_eq_true, if_false, List.set_cons_succ, List.set_cons_zero, List.getElem?_cons_zero, List.getElem?_cons_succ, ev_var, ev_con, ev_tup, ev_lst, ev_bin, ev_cmp, ev_chn, ev_and, ev_or, ev_not, ev_neg, ev_ite, ev_idx, ev_call, ev_callk, ev_pr1, ev_pr2, ev_isi, ev_comp, es_cons, es_nil, ex_cons, ex_nil, ex_asg, ex_exp, ex_ret, ex_iff, ex_pass, as_var, as_tup, as_nil, as_cons, Res.bind_ok, Res.opt_some, der_int, der_bl, der_non, der_str, der_tup, der_lst, der_set, walk_tup, walk_lst, Option.bind_some, Option.map_some, p1_tuple, p1_tuple', p1_list, p1_list', p1_len, p1_len', p1_len2, p1_int, p1_abs, p1_intb, sorted_pairs]
    rfl
  refine ⟨m, E0.mergeSort leP, st5, ⟨hm1, hm2, fun e he => hin e (List.mem_mergeSort.mp he), sort_strict hnd⟩, ?_, dq4.1⟩
  rw [c60]
  have hb : exec P (callF P (n + 1)) b60 [some (.ref k), some f, none, none, none, none, none, none, none, none] st = _ := ex_seq s1 (ex_seq s2 (ex_seq s3 (ex_seq s4 s5)))
  rw [hb]; rfl
end
end LP
namespace LP
open MP
/-! ### rising from ints -/
theorem insI_nat : ∀ (l : List Nat) (x : Nat), l.Pairwise (· < ·) → ∃ k : List Nat, insI (x : Int) (l.map fun (i : Nat) => (i : Int)) = k.map (fun (i : Nat) => (i : Int)) ∧ k.Pairwise (· < ·) ∧ ∀ y, y ∈ k ↔ y = x ∨ y ∈ l
  | [], x, _ => ⟨[x], rfl, by simp, by simp⟩
  | z :: l, x, h => by
    obtain ⟨h1, h2⟩ := List.pairwise_cons.mp h
    by_cases c : x < z
    · refine ⟨x :: z :: l, ?_, ?_, fun y => by simp⟩
      · rw [List.map_cons, insI, if_pos (by omega)]; rfl
      · refine List.pairwise_cons.mpr ⟨fun y hy => ?_, h⟩
        rcases List.mem_cons.mp hy with rfl | hy
        · exact c
        · have := h1 y hy; omega
    · by_cases c2 : x = z
      · subst c2
        refine ⟨x :: l, ?_, h, fun y => by simp⟩
        rw [List.map_cons, insI, if_neg (by omega), if_pos rfl]
      · obtain ⟨k, e, hk, hm⟩ := insI_nat l x h2
        refine ⟨z :: k, ?_, ?_, fun y => ?_⟩
        · rw [List.map_cons, insI, if_neg (by omega), if_neg (by omega), e]; rfl
        · refine List.pairwise_cons.mpr ⟨fun y hy => ?_, hk⟩
          rcases (hm y).mp hy with rfl | hy
          · omega
          · exact h1 y hy
        · rw [List.mem_cons, hm, List.mem_cons]
          constructor
          · rintro (h | h | h)
            · exact .inr (.inl h)
            · exact .inl h
            · exact .inr (.inr h)
          · rintro (h | h | h)
            · exact .inr (.inl h)
            · exact .inl h
            · exact .inr (.inr h)
theorem setI_nat : ∀ l : List Nat, ∃ k : List Nat, setI (l.map fun (i : Nat) => (i : Int)) = k.map (fun (i : Nat) => (i : Int)) ∧ k.Pairwise (· < ·) ∧ ∀ y, y ∈ k ↔ y ∈ l
  | [] => ⟨[], rfl, .nil, fun _ => Iff.rfl⟩
  | x :: l => by
    obtain ⟨k, e, hk, hm⟩ := setI_nat l
    obtain ⟨k2, e2, hk2, hm2⟩ := insI_nat k x hk
    refine ⟨k2, ?_, hk2, fun y => by rw [hm2, hm, List.mem_cons]⟩
    rw [← e2, ← e]; rfl
theorem set_natL {l : List Nat} (hl : l.length < 64) : ∃ k : List Nat, prim1 .set (.lst (l.map nI)) = some (.lst (k.map nI)) ∧ k.Pairwise (· < ·) ∧ ∀ y, y ∈ k ↔ y ∈ l := by
  obtain ⟨k, e, hk, hm⟩ := setI_nat l
  refine ⟨k, ?_, hk, hm⟩
  have := allInts_map (l.map fun (i : Nat) => (i : Int))
  rw [List.map_map] at this
  have h2 : allInts (l.map nI) = some (l.map fun (i : Nat) => (i : Int)) := this
  simp only [prim1]
  rw [h2, Option.bind_some, if_pos (by rw [List.length_map]; exact hl), e, List.map_map]
  rfl
section
variable {m : Nat} {E : List (Nat × Nat)} {l : List Nat}
theorem fld_len (F : Fld m E) : E.length < 64 := by
  have h5 := F.hi
  have h : (E.map fun e => 5 * e.1 + e.2).Pairwise (· < ·) := by
    rw [List.pairwise_map]
    refine F.asc.imp_of_mem fun {a b} ha hb hab => ?_
    have := F.in_ a ha
    have := F.in_ b hb
    unfold lexP at hab
    omega
  have := asc_len (c := 0) (m := 25) h fun p hp => by
    obtain ⟨e, he, rfl⟩ := List.mem_map.mp hp
    have := F.in_ e he
    omega
  rw [List.length_map] at this
  omega
variable (n : Nat) (st : Store)
theorem l_foes (p : Nat) : callF P (n + 1) 61 [pvF m E, nI p] st = .ok (.lst ((att E p).map nI)) st := by
  have hc : ∀ env : Env, env = [some (pvF m E), some (nI p), none, none] → compL (turnE P (callF P n) (.tup (.cons (.var 2) (.cons (.var 3) .nil))) (.cmp .eq (.var 3) (.var 1)) (.var 2) env) (fun _ => true) (E.map pvP) st = .ok ((E.filter fun e => decide (e.2 = p)).map fun e => nI e.1) st := by
    rintro env rfl
    refine compL_filter (by rfl) fun e he => ?_
    unfold pvP
    simp [turnE, bindT, cast_eqN]
    by_cases hh : e.2 = p <;> simp [hh]
  have hc := hc _ rfl
  rw [c61]
  unfold b61
  simp -implicitDefEqProofs only [turnE, turnS, bindT, List.length_cons, List.length_nil, Nat.reduceAdd, Nat.reduceLT, if_true, Bool.false_eq_true, if_false, List.set_cons_succ, List.set_cons_zero, List.getElem?_cons_zero, List.getElem?_cons_succ, ev_var, ev_con, ev_tup, ev_lst, ev_bin, ev_cmp, ev_chn, ev_and, ev_or, ev_not, ev_neg, ev_ite, ev_idx, ev_call, ev_callk, ev_pr1, ev_pr2, ev_isi, ev_comp, es_cons, es_nil, ex_cons, ex_nil, ex_asg, ex_exp, ex_ret, ex_iff, ex_pass, as_var, as_tup, as_nil, as_cons, Res.bind_ok, Res.opt_some, der_int, der_bl, der_non, der_str, der_tup, der_lst, der_set, walk_tup, walk_lst, Option.bind_some, Option.map_some, p1_tuple, p1_tuple', p1_list, p1_list', p1_len, p1_len', p1_len2, p1_int, p1_abs, p1_intb, snd1, hc]
  unfold att
  rw [List.map_map]
  rfl
theorem l_struck (F : Fld m E) : callF P (n + 1) 63 [pvF m E, pvI l] st = .ok (pvI (hitL m E l)) st := by
  have hc : ∀ env : Env, env = [some (pvF m E), some (pvI l), none, none] → compL (turnE P (callF P n) (.tup (.cons (.var 2) (.cons (.var 3) .nil))) (.cmp .isin (.var 2) (.var 1)) (.var 3) env) (fun _ => true) (E.map pvP) st = .ok ((E.filter fun e => decide (e.1 ∈ l)).map fun e => nI e.2) st := by
    rintro env rfl
    refine compL_filter (by rfl) fun e he => ?_
    have hd : der st (pvI l) = .tup (l.map nI) := rfl
    unfold pvP
    simp -implicitDefEqProofs only [turnE, turnS, bindT, List.length_cons, List.length_nil, Nat.reduceAdd, Nat.reduceLT, if_true, Bool.false_eq_true, if_false, List.set_cons_succ, List.set_cons_zero, List.getElem?_cons_zero, List.getElem?_cons_succ, ev_var, ev_con, ev_tup, ev_lst, ev_bin, ev_cmp, ev_chn, ev_and, ev_or, ev_not, ev_neg, ev_ite, ev_idx, ev_call, ev_callk, ev_pr1, ev_pr2, ev_isi, ev_comp, es_cons, es_nil, ex_cons, ex_nil, ex_asg, ex_exp, ex_ret, ex_iff, ex_pass, as_var, as_tup, as_nil, as_cons, Res.bind_ok, Res.opt_some, der_int, der_bl, der_non, der_str, der_tup, der_lst, der_set, walk_tup, walk_lst, Option.bind_some, Option.map_some, p1_tuple, p1_tuple', p1_list, p1_list', p1_len, p1_len', p1_len2, p1_int, p1_abs, p1_intb, hd, isin_ints]
    exact keep_if
  have hc := hc _ rfl
  have hl : ((E.filter fun e => decide (e.1 ∈ l)).map fun e => e.2).length < 64 := by
    have := fld_len F
    have := List.length_filter_le (fun e : Nat × Nat => decide (e.1 ∈ l)) E
    rw [List.length_map]; omega
  obtain ⟨k, e1, hk, hm⟩ := set_natL hl
  rw [List.map_map] at e1
  have e1 : prim1 .set (.lst ((E.filter fun e => decide (e.1 ∈ l)).map fun e => nI e.2)) = some (.lst (k.map nI)) := e1
  have hkh : k = hitL m E l := asc_ext hk hit_asc fun x => by
    rw [hm, mem_hit]
    simp only [List.mem_map, List.mem_filter, decide_eq_true_eq]
    constructor
    · rintro ⟨⟨a, b⟩, ⟨h1, h2⟩, rfl⟩
      exact ⟨(F.in_ _ h1).2, a, h2, h1⟩
    · rintro ⟨_, i, hi, he⟩
      exact ⟨(i, x), ⟨he, hi⟩, rfl⟩
  rw [hkh] at e1
  rw [c63]
  unfold b63
  simp -implicitDefEqProofs only [turnE, turnS, bindT, List.length_cons, List.length_nil, Nat.reduceAdd, Nat.reduceLT, if_true, Bool.false_eq_true, if_false, List.set_cons_succ, List.set_cons_zero, List.getElem?_cons_zero, List.getElem?_cons_succ, ev_var, ev_con, ev_tup, ev_lst, ev_bin, ev_cmp, ev_chn, ev_and, ev_or, ev_not, ev_neg, ev_ite, ev_idx, ev_call, ev_callk, ev_pr1, ev_pr2, ev_isi, ev_comp, es_cons, es_nil, ex_cons, ex_nil, ex_asg, ex_exp, ex_ret, ex_iff, ex_pass, as_var, as_tup, as_nil, as_cons, Res.bind_ok, Res.opt_some, der_int, der_bl, der_non, der_str, der_tup, der_lst, der_set, walk_tup, walk_lst, Option.bind_some, Option.map_some, p1_tuple, p1_tuple', p1_list, p1_list', p1_len, p1_len', p1_len2, p1_int, p1_abs, p1_intb, snd1, hc, e1]
  rfl
theorem l_safe (F : Fld m E) : callF P (n + 2) 64 [pvF m E, pvI l] st = .ok (pvI (keptL m E l)) st := by
  have e1 := l_struck n st (l := l) F
  have hi : ∀ (p : Nat) (env : Env), env = [some (pvF m E), some (pvI l), some (pvI (hitL m E l)), some (nI p), none] → compL (turnE P (callF P (n + 1)) (.var 4) (.con (.bl true)) (.cmp .isin (.var 4) (.var 2)) env) (fun _ => true) ((att E p).map nI) st = .ok ((att E p).map fun i => .bl (decide (i ∈ hitL m E l))) st := by
    rintro p env rfl
    refine compL_map (by rfl) fun i hi => ?_
    have hd : der st (pvI (hitL m E l)) = .tup ((hitL m E l).map nI) := rfl
    simp -implicitDefEqProofs only [turnE, turnS, bindT, List.length_cons, List.length_nil, Nat.reduceAdd, Nat.reduceLT, if_true, Bool.false_eq_true, if_false, List.set_cons_succ, List.set_cons_zero, List.getElem?_cons_zero, List.getElem?_cons_succ, ev_var, ev_con, ev_tup, ev_lst, ev_bin, ev_cmp, ev_chn, ev_and, ev_or, ev_not, ev_neg, ev_ite, ev_idx, ev_call, ev_callk, ev_pr1, ev_pr2, ev_isi, ev_comp, es_cons, es_nil, ex_cons, ex_nil, ex_asg, ex_exp, ex_ret, ex_iff, ex_pass, as_var, as_tup, as_nil, as_cons, Res.bind_ok, Res.opt_some, der_int, der_bl, der_non, der_str, der_tup, der_lst, der_set, walk_tup, walk_lst, Option.bind_some, Option.map_some, p1_tuple, p1_tuple', p1_list, p1_list', p1_len, p1_len', p1_len2, p1_int, p1_abs, p1_intb, hd, isin_ints]
  have hc : ∀ env : Env, env = [some (pvF m E), some (pvI l), some (pvI (hitL m E l)), none, none] → compL (turnE P (callF P (n + 1)) (.var 3) (.pr1 .all (.comp (.var 4) (.call 61 (.cons (.var 0) (.cons (.var 3) .nil))) (.con (.bl true)) (.cmp .isin (.var 4) (.var 2)))) (.var 3) env) (fun _ => true) ((List.range m).map fun i => PV.int (i : Nat)) st = .ok (((List.range m).filter fun p => (att E p).all fun i => decide (i ∈ hitL m E l)).map nI) st := by
    rintro env rfl
    refine compL_filter (by rfl) fun p hp => ?_
    have e2 := l_foes n st (m := m) (E := E) p
    have hi := hi p _ rfl
    have ha : prim1 .all (.lst ((att E p).map fun i => .bl (decide (i ∈ hitL m E l)))) = some (.bl ((att E p).all fun i => decide (i ∈ hitL m E l))) := by
      have := p1_all (bs := (att E p).map fun i => decide (i ∈ hitL m E l))
      rw [List.map_map] at this
      refine this.trans ?_
      rw [List.all_map]; rfl
    simp -implicitDefEqProofs only [turnE, turnS, bindT, List.length_cons, List.length_nil, Nat.reduceAdd, Nat.reduceLT, if_true, Bool.false_eq_true, if_false, List.set_cons_succ, List.set_cons_zero, List.getElem?_cons_zero, List.getElem?_cons_succ, ev_var, ev_con, ev_tup, ev_lst, ev_bin, ev_cmp, ev_chn, ev_and, ev_or, ev_not, ev_neg, ev_ite, ev_idx, ev_call, ev_callk, ev_pr1, ev_pr2, ev_isi, ev_comp, es_cons, es_nil, ex_cons, ex_nil, ex_asg, ex_exp, ex_ret, ex_iff, ex_pass, as_var, as_tup, as_nil, as_cons, Res.bind_ok, Res.opt_some, der_int, der_bl, der_non, der_str, der_tup, der_lst, der_set, walk_tup, walk_lst, Option.bind_some, Option.map_some, p1_tuple, p1_tuple', p1_list, p1_list', p1_len, p1_len', p1_len2, p1_int, p1_abs, p1_intb, e2, hi, ha]
    exact keep_if
  have hc := hc _ rfl
  have hk : ((List.range m).filter fun p => (att E p).all fun i => decide (i ∈ hitL m E l)) = keptL m E l := asc_ext (asc_filter _) kept_asc fun x => by
    rw [mem_kept, List.mem_filter, List.mem_range]
    simp only [List.all_eq_true, mem_att, decide_eq_true_eq]
  rw [hk] at hc
  have hr := rngF st (E := E) (cf := callF P (n + 1)) (env := [some (pvF m E), some (pvI l), some (pvI (hitL m E l)), none, none]) rfl F.hi
  rw [c64]
  unfold b64
  simp -implicitDefEqProofs only [turnE, turnS, bindT, List.length_cons, List.length_nil, Nat.reduceAdd, Nat.reduceLT, if_true, Bool.false_eq_true, if_false, List.set_cons_succ, List.set_cons_zero, List.getElem?_cons_zero, List.getElem?_cons_succ, ev_var, ev_con, ev_tup, ev_lst, ev_bin, ev_cmp, ev_chn, ev_and, ev_or, ev_not, ev_neg, ev_ite, ev_idx, ev_call, ev_callk, ev_pr1, ev_pr2, ev_isi, ev_comp, es_cons, es_nil, ex_cons, ex_nil, ex_asg, ex_exp, ex_ret, ex_iff, ex_pass, as_var, as_tup, as_nil, as_cons, Res.bind_ok, Res.opt_some, der_int, der_bl, der_non, der_str, der_tup, der_lst, der_set, walk_tup, walk_lst, Option.bind_some, Option.map_some, p1_tuple, p1_tuple', p1_list, p1_list', p1_len, p1_len', p1_len2, p1_int, p1_abs, p1_intb, e1, hr, hc]
  rfl
theorem l_quiet (F : Fld m E) : callF P (n + 2) 65 [pvF m E, pvI l] st = .ok (.bl (calmB m E l)) st := by
  have e1 := l_struck n st (l := l) F
  have hw : walk st (pvI (hitL m E l)) = some ((hitL m E l).map nI, fun _ => true) := rfl
  have hc : ∀ env : Env, env = [some (pvF m E), some (pvI l), none] → compL (turnE P (callF P (n + 1)) (.var 2) (.con (.bl true)) (.cmp .isin (.var 2) (.var 1)) env) (fun _ => true) ((hitL m E l).map nI) st = .ok ((hitL m E l).map fun i => .bl (decide (i ∈ l))) st := by
    rintro env rfl
    refine compL_map (by rfl) fun i hi => ?_
    have hd : der st (pvI l) = .tup (l.map nI) := rfl
    simp -implicitDefEqProofs only [turnE, turnS, bindT, List.length_cons, List.length_nil, Nat.reduceAdd, Nat.reduceLT, if_true, Bool.false_eq_true, if_false, List.set_cons_succ, List.set_cons_zero, List.getElem?_cons_zero, List.getElem?_cons_succ, ev_var, ev_con, ev_tup, ev_lst, ev_bin, ev_cmp, ev_chn, ev_and, ev_or, ev_not, ev_neg, ev_ite, ev_idx, ev_call, ev_callk, ev_pr1, ev_pr2, ev_isi, ev_comp, es_cons, es_nil, ex_cons, ex_nil, ex_asg, ex_exp, ex_ret, ex_iff, ex_pass, as_var, as_tup, as_nil, as_cons, Res.bind_ok, Res.opt_some, der_int, der_bl, der_non, der_str, der_tup, der_lst, der_set, walk_tup, walk_lst, Option.bind_some, Option.map_some, p1_tuple, p1_tuple', p1_list, p1_list', p1_len, p1_len', p1_len2, p1_int, p1_abs, p1_intb, hd, isin_ints]
  have hc := hc _ rfl
  have ha : prim1 .any (.lst ((hitL m E l).map fun i => .bl (decide (i ∈ l)))) = some (.bl (!calmB m E l)) := by
    have := p1_any (bs := (hitL m E l).map fun i => decide (i ∈ l))
    rw [List.map_map] at this
    refine this.trans ?_
    rw [List.any_map]
    congr 2
    have : calmB m E l = !((hitL m E l).any (id ∘ fun i => decide (i ∈ l))) := by
      rw [Bool.eq_iff_iff, calm_iff]
      simp
    rw [this, Bool.not_not]
  rw [c65]
  unfold b65
  simp -implicitDefEqProofs only [turnE, turnS, bindT, List.length_cons, List.length_nil, Nat.reduceAdd, Nat.reduceLT, if_true, Bool.false_eq_true, if_false, List.set_cons_succ, List.set_cons_zero, List.getElem?_cons_zero, List.getElem?_cons_succ, ev_var, ev_con, ev_tup, ev_lst, ev_bin, ev_cmp, ev_chn, ev_and, ev_or, ev_not, ev_neg, ev_ite, ev_idx, ev_call, ev_callk, ev_pr1, ev_pr2, ev_isi, ev_comp, es_cons, es_nil, ex_cons, ex_nil, ex_asg, ex_exp, ex_ret, ex_iff, ex_pass, as_var, as_tup, as_nil, as_cons, Res.bind_ok, Res.opt_some, der_int, der_bl, der_non, der_str, der_tup, der_lst, der_set, walk_tup, walk_lst, Option.bind_some, Option.map_some, p1_tuple, p1_tuple', p1_list, p1_list', p1_len, p1_len', p1_len2, p1_int, p1_abs, p1_intb, e1, hw, hc, ha, Bool.not_not]
/-! ### all lots -/
abbrev allB : IS := .cons (.asg (.var 1) (.bin .add (.var 1) (.comp (.var 4) (.var 1) (.con (.bl true)) (.bin .add (.var 4) (.tup (.cons (.var 2) .nil)))))) .nil
theorem loop2 (st : Store) : exec P (callF P n) (.fors (.var 2) (.rng (.con (.int 0)) (.var 0)) allB) [some (nI 2), some (.lst [.tup []]), none, none, none] st = .ok (.nx [some (nI 2), some (.lst ((allR 2).map pvI)), some (nI 1), none, none]) st := by kernel_rfl
theorem loop3 (st : Store) : exec P (callF P n) (.fors (.var 2) (.rng (.con (.int 0)) (.var 0)) allB) [some (nI 3), some (.lst [.tup []]), none, none, none] st = .ok (.nx [some (nI 3), some (.lst ((allR 3).map pvI)), some (nI 2), none, none]) st := by kernel_rfl
theorem loop4 (st : Store) : exec P (callF P n) (.fors (.var 2) (.rng (.con (.int 0)) (.var 0)) allB) [some (nI 4), some (.lst [.tup []]), none, none, none] st = .ok (.nx [some (nI 4), some (.lst ((allR 4).map pvI)), some (nI 3), none, none]) st := by kernel_rfl
theorem loop5 (st : Store) : exec P (callF P n) (.fors (.var 2) (.rng (.con (.int 0)) (.var 0)) allB) [some (nI 5), some (.lst [.tup []]), none, none, none] st = .ok (.nx [some (nI 5), some (.lst ((allR 5).map pvI)), some (nI 4), none, none]) st := by kernel_rfl
theorem all_loop {m : Nat} (h1 : 2 ≤ m) (h2 : m ≤ 5) (st : Store) : ∃ x, exec P (callF P n) (.fors (.var 2) (.rng (.con (.int 0)) (.var 0)) allB) [some (nI m), some (.lst [.tup []]), none, none, none] st = .ok (.nx [some (nI m), some (.lst ((allR m).map pvI)), x, none, none]) st := by
  rcases four h1 h2 with rfl | rfl | rfl | rfl
  · exact ⟨_, loop2 n st⟩
  · exact ⟨_, loop3 n st⟩
  · exact ⟨_, loop4 n st⟩
  · exact ⟨_, loop5 n st⟩
theorem l_every {m : Nat} (h1 : 2 ≤ m) (h2 : m ≤ 5) (st : Store) : callF P (n + 1) 62 [nI m] st = .ok (.lst ((rowsL m).map pvI)) st := by
  obtain ⟨x, e1⟩ := all_loop n h1 h2 st
  have hc1 : ∀ env : Env, env = [some (nI m), some (.lst ((allR m).map pvI)), x, none, none] → compL (turnE P (callF P n) (.var 4) (.con (.bl true)) (.tup (.cons (.pr1 .len (.var 4)) (.cons (.var 4) .nil))) env) (fun _ => true) ((allR m).map pvI) st = .ok ((allR m).map prow) st := by
    rintro env rfl
    refine compL_map (by rfl) fun l hl => ?_
    have hd : ∀ l, der st (pvI l) = .tup (l.map nI) := fun _ => rfl
    simp -implicitDefEqProofs only [turnE, turnS, bindT, List.length_cons, List.length_nil, Nat.reduceAdd, Nat.reduceLT, if_true, Bool.false_eq_true, if_false, List.set_cons_succ, List.set_cons_zero, List.getElem?_cons_zero, List.getElem?_cons_succ, ev_var, ev_con, ev_tup, ev_lst, ev_bin, ev_cmp, ev_chn, ev_and, ev_or, ev_not, ev_neg, ev_ite, ev_idx, ev_call, ev_callk, ev_pr1, ev_pr2, ev_isi, ev_comp, es_cons, es_nil, ex_cons, ex_nil, ex_asg, ex_exp, ex_ret, ex_iff, ex_pass, as_var, as_tup, as_nil, as_cons, Res.bind_ok, Res.opt_some, der_int, der_bl, der_non, der_str, der_tup, der_lst, der_set, walk_tup, walk_lst, Option.bind_some, Option.map_some, p1_tuple, p1_tuple', p1_list, p1_list', p1_len, p1_len', p1_len2, p1_int, p1_abs, p1_intb, hd]
    rw [List.length_map]; rfl
  have hc2 : ∀ env : Env, env = [some (nI m), some (.lst ((allR m).map pvI)), x, none, none] → compL (turnE P (callF P n) (.tup (.cons (.var 3) (.cons (.var 4) .nil))) (.con (.bl true)) (.var 4) env) (fun _ => true) ((rowsL m).map prow) st = .ok ((rowsL m).map pvI) st := by
    rintro env rfl
    refine compL_map (by rfl) fun l hl => ?_
    unfold prow
    simp -implicitDefEqProofs only [turnE, turnS, bindT, List.length_cons, List.length_nil, Nat.reduceAdd, Nat.reduceLT, if_true, Bool.false_eq_true, if_false, List.set_cons_succ, List.set_cons_zero, List.getElem?_cons_zero, List.getElem?_cons_succ, ev_var, ev_con, ev_tup, ev_lst, ev_bin, ev_cmp, ev_chn, ev_and, ev_or, ev_not, ev_neg, ev_ite, ev_idx, ev_call, ev_callk, ev_pr1, ev_pr2, ev_isi, ev_comp, es_cons, es_nil, ex_cons, ex_nil, ex_asg, ex_exp, ex_ret, ex_iff, ex_pass, as_var, as_tup, as_nil, as_cons, Res.bind_ok, Res.opt_some, der_int, der_bl, der_non, der_str, der_tup, der_lst, der_set, walk_tup, walk_lst, Option.bind_some, Option.map_some, p1_tuple, p1_tuple', p1_list, p1_list', p1_len, p1_len', p1_len2, p1_int, p1_abs, p1_intb, Res.bind_ok]
  have s1 : exec P (callF P n) (.asg (.var 1) (.lst (.cons (.tup .nil) .nil))) [some (nI m), none, none, none, none] st = .ok (.nx [some (nI m), some (.lst [.tup []]), none, none, none]) st := by
    simp -implicitDefEqProofs only [turnE, turnS, bindT, List.length_cons, List.length_nil, Nat.reduceAdd, Nat.reduceLT, if_true, Bool.false_eq_true, if_false, List.set_cons_succ, List.set_cons_zero, List.getElem?_cons_zero, List.getElem?_cons_succ, ev_var, ev_con, ev_tup, ev_lst, ev_bin, ev_cmp, ev_chn, ev_and, ev_or, ev_not, ev_neg, ev_ite, ev_idx, ev_call, ev_callk, ev_pr1, ev_pr2, ev_isi, ev_comp, es_cons, es_nil, ex_cons, ex_nil, ex_asg, ex_exp, ex_ret, ex_iff, ex_pass, as_var, as_tup, as_nil, as_cons, Res.bind_ok, Res.opt_some, der_int, der_bl, der_non, der_str, der_tup, der_lst, der_set, walk_tup, walk_lst, Option.bind_some, Option.map_some, p1_tuple, p1_tuple', p1_list, p1_list', p1_len, p1_len', p1_len2, p1_int, p1_abs, p1_intb, Res.bind_ok]
  have s3 : exec P (callF P n) (.cons (.ret (.comp (.tup (.cons (.var 3) (.cons (.var 4) .nil))) (.pr1 .sorted (.comp (.var 4) (.var 1) (.con (.bl true)) (.tup (.cons (.pr1 .len (.var 4)) (.cons (.var 4) .nil))))) (.con (.bl true)) (.var 4))) .nil) [some (nI m), some (.lst ((allR m).map pvI)), x, none, none] st = .ok (.rt (.lst ((rowsL m).map pvI))) st := by
    have hc1 := hc1 _ rfl
    have hc2 := hc2 _ rfl
    simp -implicitDefEqProofs only [turnE, turnS, bindT, List.length_cons, List.length_nil, Nat.reduceAdd, Nat.reduceLT, if_true, Bool.false_eq_true, if_false, List.set_cons_succ, List.set_cons_zero, List.getElem?_cons_zero, List.getElem?_cons_succ, ev_var, ev_con, ev_tup, ev_lst, ev_bin, ev_cmp, ev_chn, ev_and, ev_or, ev_not, ev_neg, ev_ite, ev_idx, ev_call, ev_callk, ev_pr1, ev_pr2, ev_isi, ev_comp, es_cons, es_nil, ex_cons, ex_nil, ex_asg, ex_exp, ex_ret, ex_iff, ex_pass, as_var, as_tup, as_nil, as_cons, Res.bind_ok, Res.opt_some, der_int, der_bl, der_non, der_str, der_tup, der_lst, der_set, walk_tup, walk_lst, Option.bind_some, Option.map_some, p1_tuple, p1_tuple', p1_list, p1_list', p1_len, p1_len', p1_len2, p1_int, p1_abs, p1_intb, hc1, sorted_rows h1 h2, hc2]
  rw [c62]
  have hb : exec P (callF P n) b62 [some (nI m), none, none, none, none] st = _ := ex_seq s1 (ex_seq e1 s3)
  rw [hb]; rfl
/-! ### the rise -/
abbrev riB : IS := .cons (.asg (.var 3) (.call 64 (.cons (.var 0) (.cons (.idx (.var 1) (.neg (.con (.int 1)))) .nil))))
    (.cons (.asg (.var 1) (.bin .add (.var 1) (.ite (.cmp .ne (.var 3) (.idx (.var 1) (.neg (.con (.int 1))))) (.lst (.cons (.var 3) .nil)) (.lst .nil)))) .nil)
theorem riseV_len (r : Nat) : (riseV m E r).length = r + 1 := by unfold riseV; rw [List.length_map, List.length_range]
theorem ri_turn (F : Fld m E) {r k : Nat} (hr : r ≤ m) (h1 : ∀ j, j < r → itK m E (j + 1) ≠ itK m E j) (h2 : itK m E (r + 1) = itK m E r) (hk : k ≤ r) {i : PV} {x y : Option PV} : turnS P (callF P (n + 2)) (.var 2) riB i [some (pvF m E), some (.lst (riseV m E k)), x, y] st = .ok (.nx [some (pvF m E), some (.lst (riseV m E (min (k + 1) r))), some i, some (pvI (itK m E (k + 1)))]) st := by
  have h5 := F.hi
  obtain ⟨xs, hx⟩ := riseV_last (m := m) (E := E) k
  have hix : index1 (.lst (riseV m E k)) (.int (-1)) = some (pvI (itK m E k)) := by rw [hx]; exact idx_last
  have e1 := l_safe n st (l := itK m E k) F
  have e1 : callF P (n + 2) 64 [pvF m E, pvI (itK m E k)] st = .ok (pvI (itK m E (k + 1))) st := e1
  have hq := ne_pvI (itK m E (k + 1)) (itK m E k)
  have hd : ∀ l, der st (pvI l) = pvI l := fun _ => rfl
  by_cases c : k = r
  · subst c
    have hadd : binop .add (.lst (riseV m E k)) (.lst []) = some (.lst (riseV m E (min (k + 1) k))) := by
      simp only [binop]
      rw [if_pos (by rw [riseV_len]; unfold lim; simp; omega), List.append_nil, show min (k + 1) k = k by omega]
    rw [h2] at e1 hq ⊢
    simp -implicitDefEqProofs only [turnE, turnS, bindT, List.length_cons, List.length_nil, Nat.reduceAdd, Nat.reduceLT, if_true, Bool.false_eq_true, if_false, List.set_cons_succ, List.set_cons_zero, List.getElem?_cons_zero, List.getElem?_cons_succ, ev_var, ev_con, ev_tup, ev_lst, ev_bin, ev_cmp, ev_chn, ev_and, ev_or, ev_not, ev_neg, ev_ite, ev_idx, ev_call, ev_callk, ev_pr1, ev_pr2, ev_isi, ev_comp, es_cons, es_nil, ex_cons, ex_nil, ex_asg, ex_exp, ex_ret, ex_iff, ex_pass, as_var, as_tup, as_nil, as_cons, Res.bind_ok, Res.opt_some, der_int, der_bl, der_non, der_str, der_tup, der_lst, der_set, walk_tup, walk_lst, Option.bind_some, Option.map_some, p1_tuple, p1_tuple', p1_list, p1_list', p1_len, p1_len', p1_len2, p1_int, p1_abs, p1_intb, neg1, hix, e1, hd, hq, decide_true, Bool.not_true, hadd]
  · have hne := h1 k (by omega)
    have hadd : binop .add (.lst (riseV m E k)) (.lst [pvI (itK m E (k + 1))]) = some (.lst (riseV m E (min (k + 1) r))) := by
      simp only [binop]
      rw [if_pos (by rw [riseV_len]; unfold lim; simp; omega), show min (k + 1) r = k + 1 by omega, riseV_succ]
    simp -implicitDefEqProofs only [turnE, turnS, bindT, List.length_cons, List.length_nil, Nat.reduceAdd, Nat.reduceLT, if_true, Bool.false_eq_true, if_false, List.set_cons_succ, List.set_cons_zero, List.getElem?_cons_zero, List.getElem?_cons_succ, ev_var, ev_con, ev_tup, ev_lst, ev_bin, ev_cmp, ev_chn, ev_and, ev_or, ev_not, ev_neg, ev_ite, ev_idx, ev_call, ev_callk, ev_pr1, ev_pr2, ev_isi, ev_comp, es_cons, es_nil, ex_cons, ex_nil, ex_asg, ex_exp, ex_ret, ex_iff, ex_pass, as_var, as_tup, as_nil, as_cons, Res.bind_ok, Res.opt_some, der_int, der_bl, der_non, der_str, der_tup, der_lst, der_set, walk_tup, walk_lst, Option.bind_some, Option.map_some, p1_tuple, p1_tuple', p1_list, p1_list', p1_len, p1_len', p1_len2, p1_int, p1_abs, p1_intb, neg1, hix, e1, hd, hq, decide_eq_false hne, Bool.not_false, hadd]
theorem ri_loop (F : Fld m E) {r : Nat} (hr : r ≤ m) (h1 : ∀ j, j < r → itK m E (j + 1) ≠ itK m E j) (h2 : itK m E (r + 1) = itK m E r) : ∀ (is : List PV) (k : Nat) (x y : Option PV), k ≤ r → ∃ x' y', forL (turnS P (callF P (n + 2)) (.var 2) riB) (fun _ => true) is [some (pvF m E), some (.lst (riseV m E k)), x, y] st = .ok (.nx [some (pvF m E), some (.lst (riseV m E (min (k + is.length) r))), x', y']) st
  | [], k, x, y, hk => ⟨x, y, by rw [forL]; simp only [List.length_nil, Nat.add_zero]; rw [show min k r = k by omega]⟩
  | i :: is, k, x, y, hk => by
    obtain ⟨x', y', ih⟩ := ri_loop F hr h1 h2 is (min (k + 1) r) (some i) (some (pvI (itK m E (k + 1)))) (by omega)
    refine ⟨x', y', ?_⟩
    rw [forL, ri_turn n st F hr h1 h2 hk, Res.bind_ok]
    simp only [if_true]
    rw [ih, List.length_cons, show min (min (k + 1) r + is.length) r = min (k + (is.length + 1)) r by omega]
theorem l_rise (F : Fld m E) {r : Nat} (hr : r ≤ m) (h1 : ∀ j, j < r → itK m E (j + 1) ≠ itK m E j) (h2 : itK m E (r + 1) = itK m E r) : callF P (n + 3) 66 [pvF m E] st = .ok (.lst (riseV m E r)) st := by
  obtain ⟨x', y', e2⟩ := ri_loop n st F hr h1 h2 ((List.range m).map fun i => PV.int (i : Nat)) 0 none none (Nat.zero_le _)
  rw [List.length_map, List.length_range, show min (0 + m) r = r by omega] at e2
  have hr0 := rngF st (E := E) (cf := callF P (n + 2)) (env := [some (pvF m E), some (.lst (riseV m E 0)), none, none]) rfl F.hi
  have s1 : exec P (callF P (n + 2)) (.asg (.var 1) (.lst (.cons (.tup .nil) .nil))) [some (pvF m E), none, none, none] st = .ok (.nx [some (pvF m E), some (.lst (riseV m E 0)), none, none]) st := by
    simp -implicitDefEqProofs only [turnE, turnS, bindT, List.length_cons, List.length_nil, Nat.reduceAdd, Nat.reduceLT, if_true, Bool.false_eq_true, if_false, List.set_cons_succ, List.set_cons_zero, List.getElem?_cons_zero, List.getElem?_cons_succ, ev_var, ev_con, ev_tup, ev_lst, ev_bin, ev_cmp, ev_chn, ev_and, ev_or, ev_not, ev_neg, ev_ite, ev_idx, ev_call, ev_callk, ev_pr1, ev_pr2, ev_isi, ev_comp, es_cons, es_nil, ex_cons, ex_nil, ex_asg, ex_exp, ex_ret, ex_iff, ex_pass, as_var, as_tup, as_nil, as_cons, Res.bind_ok, Res.opt_some, der_int, der_bl, der_non, der_str, der_tup, der_lst, der_set, walk_tup, walk_lst, Option.bind_some, Option.map_some, p1_tuple, p1_tuple', p1_list, p1_list', p1_len, p1_len', p1_len2, p1_int, p1_abs, p1_intb, Res.bind_ok]
    rfl
  have s2 : exec P (callF P (n + 2)) (.fors (.var 2) (.rng (.con (.int 0)) (.idx (.var 0) (.con (.int 0)))) riB) [some (pvF m E), some (.lst (riseV m E 0)), none, none] st = .ok (.nx [some (pvF m E), some (.lst (riseV m E r)), x', y']) st := by
    rw [ex_fors, hr0, Res.bind_ok, walk_lst, Res.opt_some, Res.bind_ok]
    exact e2
  have s3 : exec P (callF P (n + 2)) (.cons (.ret (.var 1)) .nil) [some (pvF m E), some (.lst (riseV m E r)), x', y'] st = .ok (.rt (.lst (riseV m E r))) st := by
    simp -implicitDefEqProofs only [turnE, turnS, bindT, List.length_cons, List.length_nil, Nat.reduceAdd, Nat.reduceLT, if_true, Bool.false_eq_true, if_false, List.set_cons_succ, List.set_cons_zero, List.getElem?_cons_zero, List.getElem?_cons_succ, ev_var, ev_con, ev_tup, ev_lst, ev_bin, ev_cmp, ev_chn, ev_and, ev_or, ev_not, ev_neg, ev_ite, ev_idx, ev_call, ev_callk, ev_pr1, ev_pr2, ev_isi, ev_comp, es_cons, es_nil, ex_cons, ex_nil, ex_asg, ex_exp, ex_ret, ex_iff, ex_pass, as_var, as_tup, as_nil, as_cons, Res.bind_ok, Res.opt_some, der_int, der_bl, der_non, der_str, der_tup, der_lst, der_set, walk_tup, walk_lst, Option.bind_some, Option.map_some, p1_tuple, p1_tuple', p1_list, p1_list', p1_len, p1_len', p1_len2, p1_int, p1_abs, p1_intb, Res.bind_ok]
  rw [c66]
  have hb : exec P (callF P (n + 2)) b66 [some (pvF m E), none, none, none] st = _ := ex_seq s1 (ex_seq s2 s3)
  rw [hb]; rfl
theorem l_whole (F : Fld m E) : callF P (n + 3) 67 [pvF m E] st = .ok (.lst ((wholeR m E).map pvI)) st := by
  have e1 := l_every (n + 1) F.lo F.hi st
  have hc : ∀ env : Env, env = [some (pvF m E), none] → compL (turnE P (callF P (n + 2)) (.var 1) (.and (.call 65 (.cons (.var 0) (.cons (.var 1) .nil))) (.cmp .eq (.call 64 (.cons (.var 0) (.cons (.var 1) .nil))) (.var 1))) (.var 1) env) (fun _ => true) ((rowsL m).map pvI) st = .ok ((wholeR m E).map pvI) st := by
    rintro env rfl
    refine compL_filter (by rfl) fun l hl => ?_
    have e2 := l_quiet n st (l := l) F
    have e3 := l_safe n st (l := l) F
    have hd : ∀ l, der st (pvI l) = pvI l := fun _ => rfl
    have ha := and_ok (cf := callF P (n + 2)) (st := st) (env := [some (pvF m E), some (pvI l)]) (a := .call 65 (.cons (.var 0) (.cons (.var 1) .nil))) (b := .cmp .eq (.call 64 (.cons (.var 0) (.cons (.var 1) .nil))) (.var 1)) (x := calmB m E l) (y := decide (keptL m E l = l)) (by simp -implicitDefEqProofs only [turnE, turnS, bindT, List.length_cons, List.length_nil, Nat.reduceAdd, Nat.reduceLT, if_true, Bool.false_eq_true, if_false, List.set_cons_succ, List.set_cons_zero, List.getElem?_cons_zero, List.getElem?_cons_succ, ev_var, ev_con, ev_tup, ev_lst, ev_bin, ev_cmp, ev_chn, ev_and, ev_or, ev_not, ev_neg, ev_ite, ev_idx, ev_call, ev_callk, ev_pr1, ev_pr2, ev_isi, ev_comp, es_cons, es_nil, ex_cons, ex_nil, ex_asg, ex_exp, ex_ret, ex_iff, ex_pass, as_var, as_tup, as_nil, as_cons, Res.bind_ok, Res.opt_some, der_int, der_bl, der_non, der_str, der_tup, der_lst, der_set, walk_tup, walk_lst, Option.bind_some, Option.map_some, p1_tuple, p1_tuple', p1_list, p1_list', p1_len, p1_len', p1_len2, p1_int, p1_abs, p1_intb, e2]) (by simp -implicitDefEqProofs only [turnE, turnS, bindT, List.length_cons, List.length_nil, Nat.reduceAdd, Nat.reduceLT, if_true, Bool.false_eq_true, if_false, List.set_cons_succ, List.set_cons_zero, List.getElem?_cons_zero, List.getElem?_cons_succ, ev_var, ev_con, ev_tup, ev_lst, ev_bin, ev_cmp, ev_chn, ev_and, ev_or, ev_not, ev_neg, ev_ite, ev_idx, ev_call, ev_callk, ev_pr1, ev_pr2, ev_isi, ev_comp, es_cons, es_nil, ex_cons, ex_nil, ex_asg, ex_exp, ex_ret, ex_iff, ex_pass, as_var, as_tup, as_nil, as_cons, Res.bind_ok, Res.opt_some, der_int, der_bl, der_non, der_str, der_tup, der_lst, der_set, walk_tup, walk_lst, Option.bind_some, Option.map_some, p1_tuple, p1_tuple', p1_list, p1_list', p1_len, p1_len', p1_len2, p1_int, p1_abs, p1_intb, e3, hd, eq_pvI])
    rw [turnE]
    simp only [bindT, List.length_cons, List.length_nil, Nat.reduceAdd, Nat.reduceLT, if_true, List.set_cons_succ, List.set_cons_zero]
    rw [ha]
    simp -implicitDefEqProofs only [turnE, turnS, bindT, List.length_cons, List.length_nil, Nat.reduceAdd, Nat.reduceLT, if_true, Bool.false_eq_true, if_false, List.set_cons_succ, List.set_cons_zero, List.getElem?_cons_zero, List.getElem?_cons_succ, ev_var, ev_con, ev_tup, ev_lst, ev_bin, ev_cmp, ev_chn, ev_and, ev_or, ev_not, ev_neg, ev_ite, ev_idx, ev_call, ev_callk, ev_pr1, ev_pr2, ev_isi, ev_comp, es_cons, es_nil, ex_cons, ex_nil, ex_asg, ex_exp, ex_ret, ex_iff, ex_pass, as_var, as_tup, as_nil, as_cons, Res.bind_ok, Res.opt_some, der_int, der_bl, der_non, der_str, der_tup, der_lst, der_set, walk_tup, walk_lst, Option.bind_some, Option.map_some, p1_tuple, p1_tuple', p1_list, p1_list', p1_len, p1_len', p1_len2, p1_int, p1_abs, p1_intb, Res.bind_ok]
    exact keep_if
  have hc := hc _ rfl
  rw [c67]
  unfold b67
  simp -implicitDefEqProofs only [turnE, turnS, bindT, List.length_cons, List.length_nil, Nat.reduceAdd, Nat.reduceLT, if_true, Bool.false_eq_true, if_false, List.set_cons_succ, List.set_cons_zero, List.getElem?_cons_zero, List.getElem?_cons_succ, ev_var, ev_con, ev_tup, ev_lst, ev_bin, ev_cmp, ev_chn, ev_and, ev_or, ev_not, ev_neg, ev_ite, ev_idx, ev_call, ev_callk, ev_pr1, ev_pr2, ev_isi, ev_comp, es_cons, es_nil, ex_cons, ex_nil, ex_asg, ex_exp, ex_ret, ex_iff, ex_pass, as_var, as_tup, as_nil, as_cons, Res.bind_ok, Res.opt_some, der_int, der_bl, der_non, der_str, der_tup, der_lst, der_set, walk_tup, walk_lst, Option.bind_some, Option.map_some, p1_tuple, p1_tuple', p1_list, p1_list', p1_len, p1_len', p1_len2, p1_int, p1_abs, p1_intb, fst0, e1, hc]
theorem l_label (F : Fld m E) : callF P (n + 2) 68 [pvF m E, pvI l] st = .ok (labV m E l) st := by
  have e1 := l_struck n st (l := l) F
  have hc : ∀ env : Env, env = [some (pvF m E), some (pvI l), some (pvI (hitL m E l)), none] → compL (turnE P (callF P (n + 1)) (.var 3) (.con (.bl true)) (.ite (.cmp .isin (.var 3) (.var 1)) (.con inS) (.ite (.cmp .isin (.var 3) (.var 2)) (.con outS) (.con openS))) env) (fun _ => true) ((List.range m).map fun i => PV.int (i : Nat)) st = .ok ((List.range m).map (wordV m E l)) st := by
    rintro env rfl
    refine compL_map (by rfl) fun p hp => ?_
    have hd : ∀ x, der st (pvI x) = .tup (x.map nI) := fun _ => rfl
    simp -implicitDefEqProofs only [turnE, turnS, bindT, List.length_cons, List.length_nil, Nat.reduceAdd, Nat.reduceLT, if_true, Bool.false_eq_true, if_false, List.set_cons_succ, List.set_cons_zero, List.getElem?_cons_zero, List.getElem?_cons_succ, ev_var, ev_con, ev_tup, ev_lst, ev_bin, ev_cmp, ev_chn, ev_and, ev_or, ev_not, ev_neg, ev_ite, ev_idx, ev_call, ev_callk, ev_pr1, ev_pr2, ev_isi, ev_comp, es_cons, es_nil, ex_cons, ex_nil, ex_asg, ex_exp, ex_ret, ex_iff, ex_pass, as_var, as_tup, as_nil, as_cons, Res.bind_ok, Res.opt_some, der_int, der_bl, der_non, der_str, der_tup, der_lst, der_set, walk_tup, walk_lst, Option.bind_some, Option.map_some, p1_tuple, p1_tuple', p1_list, p1_list', p1_len, p1_len', p1_len2, p1_int, p1_abs, p1_intb, hd, isin_ints]
    unfold wordV
    by_cases h1 : p ∈ l
    · simp [h1]
    · by_cases h2 : p ∈ hitL m E l <;> simp [h1, h2]
  have hc := hc _ rfl
  have hr := rngF st (E := E) (cf := callF P (n + 1)) (env := [some (pvF m E), some (pvI l), some (pvI (hitL m E l)), none]) rfl F.hi
  rw [c68]
  unfold b68
  simp -implicitDefEqProofs only [turnE, turnS, bindT, List.length_cons, List.length_nil, Nat.reduceAdd, Nat.reduceLT, if_true, Bool.false_eq_true, if_false, List.set_cons_succ, List.set_cons_zero, List.getElem?_cons_zero, List.getElem?_cons_succ, ev_var, ev_con, ev_tup, ev_lst, ev_bin, ev_cmp, ev_chn, ev_and, ev_or, ev_not, ev_neg, ev_ite, ev_idx, ev_call, ev_callk, ev_pr1, ev_pr2, ev_isi, ev_comp, es_cons, es_nil, ex_cons, ex_nil, ex_asg, ex_exp, ex_ret, ex_iff, ex_pass, as_var, as_tup, as_nil, as_cons, Res.bind_ok, Res.opt_some, der_int, der_bl, der_non, der_str, der_tup, der_lst, der_set, walk_tup, walk_lst, Option.bind_some, Option.map_some, p1_tuple, p1_tuple', p1_list, p1_list', p1_len, p1_len', p1_len2, p1_int, p1_abs, p1_intb, e1, hr, hc]
  rfl
end
end LP
namespace LP
open MP
section
variable {m : Nat} {E : List (Nat × Nat)} {l : List Nat}
theorem iff_ff {cf : Nat → List PV → Store → Res PV} {c : IE} {a : IS} {env : Env} {st st' : Store} (h : evalE P cf c env st = .ok (.bl false) st') : exec P cf (.iff c a .nil) env st = .ok (.nx env) st' := by
  rw [ex_iff, h, Res.bind_ok]
  simp only []
  rw [ex_nil]
theorem riseV_lots (r : Nat) : riseV m E r = ((List.range (r + 1)).map (itK m E)).map pvI := by unfold riseV; rw [List.map_map]; rfl
theorem rpr_bb (a b : Bool) : ∃ t, rprK (.lst [.bl a, .bl b]) = some t := rpr_small (by simp [sml, smls]) (by simp [dep, deps]) (by simp [psz, pszs]) rfl
theorem whole_mem (F : Fld m E) (h : Lot m l) : decide (l ∈ wholeR m E) = wB m E l := by
  rw [Bool.eq_iff_iff, decide_eq_true_eq]
  exact ⟨fun g => (List.mem_filter.mp g).2, fun g => List.mem_filter.mpr ⟨lot_rows F.lo F.hi h, g⟩⟩
theorem dpv (st : Store) (l : List Nat) : der st (pvI l) = pvI l := rfl
variable (n : Nat)
theorem of_turn (F : Fld m E) {st : Store} (ht : TB st) {r at_ k : Nat} (hr : r ≤ m) (h1 : ∀ j, j < r → itK m E (j + 1) ≠ itK m E j) (h2 : itK m E (r + 1) = itK m E r) (h : Lot m l) {x : Option PV} :
    turnS P (callF P (n + 12)) (.var 6) (.cons (.iff (.cmp .ne (.rpr (.lst (.cons (.call 55 (.cons (.var 1) (.cons (.con gS) (.cons (.var 6) .nil)))) (.cons (.callk 51 [1, 0] (.cons (.var 6) (.cons (.var 1) .nil))) .nil)))) (.rpr (.lst (.cons (.cmp .eq (.var 6) (.var 2)) (.cons (.cmp .isin (.var 6) (.var 9)) .nil))))) (.cons (.ret (.con (.bl false))) .nil) .nil) .nil) (pvI l) [some (.ref k), some (pvF m E), some (pvI (itK m E r)), some (nI at_), some (pvI (itK m E (at_ + 1))), some (.lst ((rowsL m).map pvI)), x, none, some (.lst (riseV m E r)), some (.lst ((wholeR m E).map pvI)), none] st = .ok (.nx [some (.ref k), some (pvF m E), some (pvI (itK m E r)), some (nI at_), some (pvI (itK m E (at_ + 1))), some (.lst ((rowsL m).map pvI)), some (pvI l), none, some (.lst (riseV m E r)), some (.lst ((wholeR m E).map pvI)), none]) st := by
  have a1 : callF P (n + 12) 55 [pvF m E, gS, pvI l] st = _ := is_of_g (n + 4) st F (ht 0 (by decide)) h hr h1 h2
  have a2 : callF P (n + 12) 51 [pvF m E, pvI l] st = _ := t_whole (n + 4) st F h
  rw [show (calmB m E l && withB l (keptL m E l)) = hB m E l from rfl, hw] at a2
  have q1 := eq_pvI l (itK m E r)
  have q2 := isin_lotsL l (wholeR m E)
  rw [whole_mem F h] at q2
  have hp : ([1, 0].mapM fun i => [pvI l, pvF m E][i]?) = some [pvF m E, pvI l] := rfl
  obtain ⟨t, ht'⟩ := rpr_bb (decide (l = itK m E r)) (wB m E l)
  have hP : (P.rpr (.lst [.bl (decide (l = itK m E r)), .bl (wB m E l)])).map PV.str = some (.str t) := by
    rw [show P.rpr = rprK from rfl, ht']; rfl
  have hn : cmpop .ne (.str t) (.str t) = some false := by simp [cmpop]
  have w1 : evalE P (callF P (n + 12)) (.lst (.cons (.call 55 (.cons (.var 1) (.cons (.con gS) (.cons (.var 6) .nil)))) (.cons (.callk 51 [1, 0] (.cons (.var 6) (.cons (.var 1) .nil))) .nil))) [some (.ref k), some (pvF m E), some (pvI (itK m E r)), some (nI at_), some (pvI (itK m E (at_ + 1))), some (.lst ((rowsL m).map pvI)), some (pvI l), none, some (.lst (riseV m E r)), some (.lst ((wholeR m E).map pvI)), none] st = .ok (.lst [.bl (decide (l = itK m E r)), .bl (wB m E l)]) st := by
    simp -implicitDefEqProofs only [turnE, turnS, bindT, List.length_cons, List.length_nil, Nat.reduceAdd, Nat.reduceLT, if_true, Bool.false_eq_true, if_false, List.set_cons_succ, List.set_cons_zero, List.getElem?_cons_zero, List.getElem?_cons_succ, ev_var, ev_con, ev_tup, ev_lst, ev_bin, ev_cmp, ev_chn, ev_and, ev_or, ev_not, ev_neg, ev_ite, ev_idx, ev_call, ev_callk, ev_pr1, ev_pr2, ev_isi, ev_comp, es_cons, es_nil, ex_cons, ex_nil, ex_asg, ex_exp, ex_ret, ex_iff, ex_pass, as_var, as_tup, as_nil, as_cons, Res.bind_ok, Res.opt_some, der_int, der_bl, der_non, der_str, der_tup, der_lst, der_set, walk_tup, walk_lst, Option.bind_some, Option.map_some, p1_tuple, p1_tuple', p1_list, p1_list', p1_len, p1_len', p1_len2, p1_int, p1_abs, p1_intb, a1, hp, a2]
  have w2 : evalE P (callF P (n + 12)) (.lst (.cons (.cmp .eq (.var 6) (.var 2)) (.cons (.cmp .isin (.var 6) (.var 9)) .nil))) [some (.ref k), some (pvF m E), some (pvI (itK m E r)), some (nI at_), some (pvI (itK m E (at_ + 1))), some (.lst ((rowsL m).map pvI)), some (pvI l), none, some (.lst (riseV m E r)), some (.lst ((wholeR m E).map pvI)), none] st = .ok (.lst [.bl (decide (l = itK m E r)), .bl (wB m E l)]) st := by
    simp -implicitDefEqProofs only [turnE, turnS, bindT, List.length_cons, List.length_nil, Nat.reduceAdd, Nat.reduceLT, if_true, Bool.false_eq_true, if_false, List.set_cons_succ, List.set_cons_zero, List.getElem?_cons_zero, List.getElem?_cons_succ, ev_var, ev_con, ev_tup, ev_lst, ev_bin, ev_cmp, ev_chn, ev_and, ev_or, ev_not, ev_neg, ev_ite, ev_idx, ev_call, ev_callk, ev_pr1, ev_pr2, ev_isi, ev_comp, es_cons, es_nil, ex_cons, ex_nil, ex_asg, ex_exp, ex_ret, ex_iff, ex_pass, as_var, as_tup, as_nil, as_cons, Res.bind_ok, Res.opt_some, der_int, der_bl, der_non, der_str, der_tup, der_lst, der_set, walk_tup, walk_lst, Option.bind_some, Option.map_some, p1_tuple, p1_tuple', p1_list, p1_list', p1_len, p1_len', p1_len2, p1_int, p1_abs, p1_intb, dpv, q1, q2]
  rw [turnS]
  simp only [bindT, List.length_cons, List.length_nil, Nat.reduceAdd, Nat.reduceLT, if_true, List.set_cons_succ, List.set_cons_zero]
  refine ex_seq (iff_ff ?_) ex_nil
  rw [ev_cmp, ev_rpr, w1, Res.bind_ok, der_lst, hP, Res.opt_some, Res.bind_ok, ev_rpr, w2, Res.bind_ok, der_lst, hP, Res.opt_some, Res.bind_ok]
  simp only [der_str, hn, Res.opt_some, Res.bind_ok]
theorem form_at : ∀ (i : Nat) (h : i < 5), Form ([anyS, anyS, freeS, campS, roundS][i]'h)
  | 0, _ => .inl rfl
  | 1, _ => .inl rfl
  | 2, _ => .inr (.inl rfl)
  | 3, _ => .inr (.inr (.inl rfl))
  | 4, _ => .inr (.inr (.inr rfl))
theorem all_true {xs : List Nat} {f : Nat → Bool} (h : ∀ x ∈ xs, f x = true) : prim1 .all (.lst (xs.map fun i => .bl (f i))) = some (.bl true) := by
  have := p1_all (bs := xs.map f)
  rw [List.map_map] at this
  refine this.trans ?_
  congr 2
  rw [List.all_map, List.all_eq_true]
  exact h
theorem all_trueL {xs : List (List Nat)} : prim1 .all (.lst (xs.map fun _ => .bl true)) = some (.bl true) := by
  have := p1_all (bs := xs.map fun _ => true)
  rw [List.map_map] at this
  refine this.trans ?_
  congr 2
  rw [List.all_map, List.all_eq_true]
  intro x _; rfl
theorem lawRight {k : Nat} {st : Store} (h : D k st) : ∃ st', callF P (n + 13) 69 [.ref k] st = .ok (.bl true) st' ∧ TB st' ∧ k < st'.length := by
  obtain ⟨i0, hi0, u0, v0, f0⟩ := any_of (n + 10) (xs := [anyS, anyS, freeS, campS, roundS]) (by decide) (by decide) h
  have hF := form_at i0 hi0
  have d0 : D k (st.set k (.lst [.int u0, .int v0])) := h.set
  generalize (st.set k (.lst [.int u0, .int v0])) = st0 at f0 d0
  generalize ([anyS, anyS, freeS, campS, roundS][i0]'hi0) = fm at f0 hF
  obtain ⟨m, E, s1', F, f1, d1⟩ := fieldL (n + 10) hF d0
  generalize s1' = st1 at f1 d1
  have f0 : callF P (n + 12) 59 [.ref k, .lst [anyS, anyS, freeS, campS, roundS]] st = _ := f0
  have f1 : callF P (n + 12) 60 [.ref k, fm] st0 = _ := f1
  have h5 := F.hi
  have ht0 : st1[0]? = some (.tbl 0) := d1.tb 0 (by decide)
  obtain ⟨r, hr, h1, h2⟩ := it_stop m E
  have GL := it_lot (m := m) (E := E) r
  have s1 : exec P (callF P (n + 12)) (.asg (.var 1) (.call 60 (.cons (.var 0) (.cons (.call 59 (.cons (.var 0) (.cons (.lst (.cons (.con anyS) (.cons (.con anyS) (.cons (.con freeS) (.cons (.con campS) (.cons (.con roundS) .nil)))))) .nil))) .nil)))) [some (.ref k), none, none, none, none, none, none, none, none, none, none] st = .ok (.nx [some (.ref k), some (pvF m E), none, none, none, none, none, none, none, none, none]) st1 := by
    simp -implicitDefEqProofs only [turnE, turnS, bindT, List.length_cons, List.length_nil, Nat.reduceAdd, Nat.reduceLT, if_true, Bool.false_eq_true, if_false, List.set_cons_succ, List.set_cons_zero, List.getElem?_cons_zero, List.getElem?_cons_succ, ev_var, ev_con, ev_tup, ev_lst, ev_bin, ev_cmp, ev_chn, ev_and, ev_or, ev_not, ev_neg, ev_ite, ev_idx, ev_call, ev_callk, ev_pr1, ev_pr2, ev_isi, ev_comp, es_cons, es_nil, ex_cons, ex_nil, ex_asg, ex_exp, ex_ret, ex_iff, ex_pass, as_var, as_tup, as_nil, as_cons, Res.bind_ok, Res.opt_some, der_int, der_bl, der_non, der_str, der_tup, der_lst, der_set, walk_tup, walk_lst, Option.bind_some, Option.map_some, p1_tuple, p1_tuple', p1_list, p1_list', p1_len, p1_len', p1_len2, p1_int, p1_abs, p1_intb, f0, f1]
  have f2 : callF P (n + 12) 66 [pvF m E] st1 = _ := l_rise (n + 9) st1 F hr h1 h2
  have f3 : callF P (n + 12) 67 [pvF m E] st1 = _ := l_whole (n + 9) st1 F
  have s2 : exec P (callF P (n + 12)) (.asg (.tup (.cons (.var 8) (.cons (.var 9) .nil))) (.tup (.cons (.call 66 (.cons (.var 1) .nil)) (.cons (.call 67 (.cons (.var 1) .nil)) .nil)))) [some (.ref k), some (pvF m E), none, none, none, none, none, none, none, none, none] st1 = .ok (.nx [some (.ref k), some (pvF m E), none, none, none, none, none, none, some (.lst (riseV m E r)), some (.lst ((wholeR m E).map pvI)), none]) st1 := by
    simp -implicitDefEqProofs only [turnE, turnS, bindT, List.length_cons, List.length_nil, Nat.reduceAdd, Nat.reduceLT, if_true, Bool.false_eq_true, if_false, List.set_cons_succ, List.set_cons_zero, List.getElem?_cons_zero, List.getElem?_cons_succ, ev_var, ev_con, ev_tup, ev_lst, ev_bin, ev_cmp, ev_chn, ev_and, ev_or, ev_not, ev_neg, ev_ite, ev_idx, ev_call, ev_callk, ev_pr1, ev_pr2, ev_isi, ev_comp, es_cons, es_nil, ex_cons, ex_nil, ex_asg, ex_exp, ex_ret, ex_iff, ex_pass, as_var, as_tup, as_nil, as_cons, Res.bind_ok, Res.opt_some, der_int, der_bl, der_non, der_str, der_tup, der_lst, der_set, walk_tup, walk_lst, Option.bind_some, Option.map_some, p1_tuple, p1_tuple', p1_list, p1_list', p1_len, p1_len', p1_len2, p1_int, p1_abs, p1_intb, f2, f3]
  have hix : index1 (.lst (riseV m E r)) (.int (-1)) = some (pvI (itK m E r)) := by
    obtain ⟨xs, hx⟩ := riseV_last (m := m) (E := E) r
    rw [hx]; exact idx_last
  have s3 : exec P (callF P (n + 12)) (.asg (.var 2) (.idx (.var 8) (.neg (.con (.int 1))))) [some (.ref k), some (pvF m E), none, none, none, none, none, none, some (.lst (riseV m E r)), some (.lst ((wholeR m E).map pvI)), none] st1 = .ok (.nx [some (.ref k), some (pvF m E), some (pvI (itK m E r)), none, none, none, none, none, some (.lst (riseV m E r)), some (.lst ((wholeR m E).map pvI)), none]) st1 := by
    simp -implicitDefEqProofs only [turnE, turnS, bindT, List.length_cons, List.length_nil, Nat.reduceAdd, Nat.reduceLT, if_true, Bool.false_eq_true, if_false, List.set_cons_succ, List.set_cons_zero, List.getElem?_cons_zero, List.getElem?_cons_succ, ev_var, ev_con, ev_tup, ev_lst, ev_bin, ev_cmp, ev_chn, ev_and, ev_or, ev_not, ev_neg, ev_ite, ev_idx, ev_call, ev_callk, ev_pr1, ev_pr2, ev_isi, ev_comp, es_cons, es_nil, ex_cons, ex_nil, ex_asg, ex_exp, ex_ret, ex_iff, ex_pass, as_var, as_tup, as_nil, as_cons, Res.bind_ok, Res.opt_some, der_int, der_bl, der_non, der_str, der_tup, der_lst, der_set, walk_tup, walk_lst, Option.bind_some, Option.map_some, p1_tuple, p1_tuple', p1_list, p1_list', p1_len, p1_len', p1_len2, p1_int, p1_abs, p1_intb, neg1, hix]
  have f4 : callF P (n + 12) 30 [pvF m E] st1 = _ := steps (n + 5) st1 F hr h1 h2
  have f5 : callF P (n + 12) 29 [pvF m E] st1 = _ := ground (n + 5) st1 F hr h1 h2
  have q4 : cmpop .ne (.tup (riseV m E r)) (.tup (riseV m E r)) = some false := by rw [riseV_lots]; exact ne_lotsT _
  have qG : cmpop .ne (pvI (itK m E r)) (pvI (itK m E r)) = some false := by rw [ne_pvI]; simp
  have hp0 : ([0].mapM fun i => [pvF m E][i]?) = some [pvF m E] := rfl
  have s4 : exec P (callF P (n + 12)) (.iff (.or (.cmp .ne (.callk 30 [0] (.cons (.var 1) .nil)) (.pr1 .tuple (.var 8))) (.cmp .ne (.call 29 (.cons (.var 1) .nil)) (.var 2))) (.cons (.ret (.con (.bl false))) .nil) .nil) [some (.ref k), some (pvF m E), some (pvI (itK m E r)), none, none, none, none, none, some (.lst (riseV m E r)), some (.lst ((wholeR m E).map pvI)), none] st1 = .ok (.nx [some (.ref k), some (pvF m E), some (pvI (itK m E r)), none, none, none, none, none, some (.lst (riseV m E r)), some (.lst ((wholeR m E).map pvI)), none]) st1 :=
    iff_ff (or_ok (x := false) (y := false) (by simp -implicitDefEqProofs only [turnE, turnS, bindT, List.length_cons, List.length_nil, Nat.reduceAdd, Nat.reduceLT, if_true, Bool.false_eq_true, if_false, List.set_cons_succ, List.set_cons_zero, List.getElem?_cons_zero, List.getElem?_cons_succ, ev_var, ev_con, ev_tup, ev_lst, ev_bin, ev_cmp, ev_chn, ev_and, ev_or, ev_not, ev_neg, ev_ite, ev_idx, ev_call, ev_callk, ev_pr1, ev_pr2, ev_isi, ev_comp, es_cons, es_nil, ex_cons, ex_nil, ex_asg, ex_exp, ex_ret, ex_iff, ex_pass, as_var, as_tup, as_nil, as_cons, Res.bind_ok, Res.opt_some, der_int, der_bl, der_non, der_str, der_tup, der_lst, der_set, walk_tup, walk_lst, Option.bind_some, Option.map_some, p1_tuple, p1_tuple', p1_list, p1_list', p1_len, p1_len', p1_len2, p1_int, p1_abs, p1_intb, hp0, f4, q4]) (by simp -implicitDefEqProofs only [turnE, turnS, bindT, List.length_cons, List.length_nil, Nat.reduceAdd, Nat.reduceLT, if_true, Bool.false_eq_true, if_false, List.set_cons_succ, List.set_cons_zero, List.getElem?_cons_zero, List.getElem?_cons_succ, ev_var, ev_con, ev_tup, ev_lst, ev_bin, ev_cmp, ev_chn, ev_and, ev_or, ev_not, ev_neg, ev_ite, ev_idx, ev_call, ev_callk, ev_pr1, ev_pr2, ev_isi, ev_comp, es_cons, es_nil, ex_cons, ex_nil, ex_asg, ex_exp, ex_ret, ex_iff, ex_pass, as_var, as_tup, as_nil, as_cons, Res.bind_ok, Res.opt_some, der_int, der_bl, der_non, der_str, der_tup, der_lst, der_set, walk_tup, walk_lst, Option.bind_some, Option.map_some, p1_tuple, p1_tuple', p1_list, p1_list', p1_len, p1_len', p1_len2, p1_int, p1_abs, p1_intb, f5, dpv, qG]))
  have f6 : callF P (n + 12) 54 [pvF m E, wS] st1 = _ := lots_of_w (n + 4) st1 F ht0
  have f7 : callF P (n + 12) 54 [pvF m E, gS] st1 = _ := lots_of_g (n + 4) st1 F ht0 hr h1 h2
  have q5 := ne_lotsT (wholeR m E)
  have q6 : cmpop .ne (.tup [pvI (itK m E r)]) (.tup [pvI (itK m E r)]) = some false := ne_lotsT [itK m E r]
  have hp1 : ([1, 0].mapM fun i => [gS, pvF m E][i]?) = some [pvF m E, gS] := rfl
  have s5 : exec P (callF P (n + 12)) (.iff (.or (.cmp .ne (.call 54 (.cons (.var 1) (.cons (.con wS) .nil))) (.pr1 .tuple (.var 9))) (.cmp .ne (.callk 54 [1, 0] (.cons (.con gS) (.cons (.var 1) .nil))) (.tup (.cons (.var 2) .nil)))) (.cons (.ret (.con (.bl false))) .nil) .nil) [some (.ref k), some (pvF m E), some (pvI (itK m E r)), none, none, none, none, none, some (.lst (riseV m E r)), some (.lst ((wholeR m E).map pvI)), none] st1 = .ok (.nx [some (.ref k), some (pvF m E), some (pvI (itK m E r)), none, none, none, none, none, some (.lst (riseV m E r)), some (.lst ((wholeR m E).map pvI)), none]) st1 :=
    iff_ff (or_ok (x := false) (y := false) (by simp -implicitDefEqProofs only [turnE, turnS, bindT, List.length_cons, List.length_nil, Nat.reduceAdd, Nat.reduceLT, if_true, Bool.false_eq_true, if_false, List.set_cons_succ, List.set_cons_zero, List.getElem?_cons_zero, List.getElem?_cons_succ, ev_var, ev_con, ev_tup, ev_lst, ev_bin, ev_cmp, ev_chn, ev_and, ev_or, ev_not, ev_neg, ev_ite, ev_idx, ev_call, ev_callk, ev_pr1, ev_pr2, ev_isi, ev_comp, es_cons, es_nil, ex_cons, ex_nil, ex_asg, ex_exp, ex_ret, ex_iff, ex_pass, as_var, as_tup, as_nil, as_cons, Res.bind_ok, Res.opt_some, der_int, der_bl, der_non, der_str, der_tup, der_lst, der_set, walk_tup, walk_lst, Option.bind_some, Option.map_some, p1_tuple, p1_tuple', p1_list, p1_list', p1_len, p1_len', p1_len2, p1_int, p1_abs, p1_intb, f6, q5]) (by simp -implicitDefEqProofs only [turnE, turnS, bindT, List.length_cons, List.length_nil, Nat.reduceAdd, Nat.reduceLT, if_true, Bool.false_eq_true, if_false, List.set_cons_succ, List.set_cons_zero, List.getElem?_cons_zero, List.getElem?_cons_succ, ev_var, ev_con, ev_tup, ev_lst, ev_bin, ev_cmp, ev_chn, ev_and, ev_or, ev_not, ev_neg, ev_ite, ev_idx, ev_call, ev_callk, ev_pr1, ev_pr2, ev_isi, ev_comp, es_cons, es_nil, ex_cons, ex_nil, ex_asg, ex_exp, ex_ret, ex_iff, ex_pass, as_var, as_tup, as_nil, as_cons, Res.bind_ok, Res.opt_some, der_int, der_bl, der_non, der_str, der_tup, der_lst, der_set, walk_tup, walk_lst, Option.bind_some, Option.map_some, p1_tuple, p1_tuple', p1_list, p1_list', p1_len, p1_len', p1_len2, p1_int, p1_abs, p1_intb, hp1, f7, q6]))
  have f8 : callF P (n + 12) 56 [pvF m E, wS] st1 = _ := within_all (n + 4) st1 F h2
  obtain ⟨ls, hls⟩ := whole_head F h2
  have q7 : index1 (.lst ((wholeR m E).map pvI)) (.int 0) = some (pvI (itK m E r)) := by rw [hls]; exact idx_at (xs := (itK m E r :: ls).map pvI) (i := 0) (by simp)
  have s6 : exec P (callF P (n + 12)) (.iff (.or (.cmp .ne (.call 56 (.cons (.var 1) (.cons (.con wS) .nil))) (.var 2)) (.cmp .ne (.idx (.var 9) (.con (.int 0))) (.var 2))) (.cons (.ret (.con (.bl false))) .nil) .nil) [some (.ref k), some (pvF m E), some (pvI (itK m E r)), none, none, none, none, none, some (.lst (riseV m E r)), some (.lst ((wholeR m E).map pvI)), none] st1 = .ok (.nx [some (.ref k), some (pvF m E), some (pvI (itK m E r)), none, none, none, none, none, some (.lst (riseV m E r)), some (.lst ((wholeR m E).map pvI)), none]) st1 :=
    iff_ff (or_ok (x := false) (y := false) (by simp -implicitDefEqProofs only [turnE, turnS, bindT, List.length_cons, List.length_nil, Nat.reduceAdd, Nat.reduceLT, if_true, Bool.false_eq_true, if_false, List.set_cons_succ, List.set_cons_zero, List.getElem?_cons_zero, List.getElem?_cons_succ, ev_var, ev_con, ev_tup, ev_lst, ev_bin, ev_cmp, ev_chn, ev_and, ev_or, ev_not, ev_neg, ev_ite, ev_idx, ev_call, ev_callk, ev_pr1, ev_pr2, ev_isi, ev_comp, es_cons, es_nil, ex_cons, ex_nil, ex_asg, ex_exp, ex_ret, ex_iff, ex_pass, as_var, as_tup, as_nil, as_cons, Res.bind_ok, Res.opt_some, der_int, der_bl, der_non, der_str, der_tup, der_lst, der_set, walk_tup, walk_lst, Option.bind_some, Option.map_some, p1_tuple, p1_tuple', p1_list, p1_list', p1_len, p1_len', p1_len2, p1_int, p1_abs, p1_intb, f8, dpv, qG]) (by simp -implicitDefEqProofs only [turnE, turnS, bindT, List.length_cons, List.length_nil, Nat.reduceAdd, Nat.reduceLT, if_true, Bool.false_eq_true, if_false, List.set_cons_succ, List.set_cons_zero, List.getElem?_cons_zero, List.getElem?_cons_succ, ev_var, ev_con, ev_tup, ev_lst, ev_bin, ev_cmp, ev_chn, ev_and, ev_or, ev_not, ev_neg, ev_ite, ev_idx, ev_call, ev_callk, ev_pr1, ev_pr2, ev_isi, ev_comp, es_cons, es_nil, ex_cons, ex_nil, ex_asg, ex_exp, ex_ret, ex_iff, ex_pass, as_var, as_tup, as_nil, as_cons, Res.bind_ok, Res.opt_some, der_int, der_bl, der_non, der_str, der_tup, der_lst, der_set, walk_tup, walk_lst, Option.bind_some, Option.map_some, p1_tuple, p1_tuple', p1_list, p1_list', p1_len, p1_len', p1_len2, p1_int, p1_abs, p1_intb, q7, dpv, qG]))
  have s7 : exec P (callF P (n + 12)) (.iff (.not (.pr1 .all (.comp (.var 6) (.var 9) (.con (.bl true)) (.pr1 .all (.comp (.var 10) (.var 2) (.con (.bl true)) (.cmp .isin (.var 10) (.var 6))))))) (.cons (.ret (.con (.bl false))) .nil) .nil) [some (.ref k), some (pvF m E), some (pvI (itK m E r)), none, none, none, none, none, some (.lst (riseV m E r)), some (.lst ((wholeR m E).map pvI)), none] st1 = .ok (.nx [some (.ref k), some (pvF m E), some (pvI (itK m E r)), none, none, none, none, none, some (.lst (riseV m E r)), some (.lst ((wholeR m E).map pvI)), none]) st1 := by
    have hin : ∀ (w : List Nat) (env : Env), w ∈ wholeR m E → env = [some (.ref k), some (pvF m E), some (pvI (itK m E r)), none, none, none, some (pvI w), none, some (.lst (riseV m E r)), some (.lst ((wholeR m E).map pvI)), none] → compL (turnE P (callF P (n + 12)) (.var 10) (.con (.bl true)) (.cmp .isin (.var 10) (.var 6)) env) (fun _ => true) ((itK m E r).map nI) st1 = .ok ((itK m E r).map fun i => .bl (decide (i ∈ w))) st1 := by
      rintro w env hw rfl
      refine compL_map (by rfl) fun i hi => ?_
      have hd : der st1 (pvI w) = .tup (w.map nI) := rfl
      simp -implicitDefEqProofs only [turnE, turnS, bindT, List.length_cons, List.length_nil, Nat.reduceAdd, Nat.reduceLT, if_true, Bool.false_eq_true, if_false, List.set_cons_succ, List.set_cons_zero, List.getElem?_cons_zero, List.getElem?_cons_succ, ev_var, ev_con, ev_tup, ev_lst, ev_bin, ev_cmp, ev_chn, ev_and, ev_or, ev_not, ev_neg, ev_ite, ev_idx, ev_call, ev_callk, ev_pr1, ev_pr2, ev_isi, ev_comp, es_cons, es_nil, ex_cons, ex_nil, ex_asg, ex_exp, ex_ret, ex_iff, ex_pass, as_var, as_tup, as_nil, as_cons, Res.bind_ok, Res.opt_some, der_int, der_bl, der_non, der_str, der_tup, der_lst, der_set, walk_tup, walk_lst, Option.bind_some, Option.map_some, p1_tuple, p1_tuple', p1_list, p1_list', p1_len, p1_len', p1_len2, p1_int, p1_abs, p1_intb, hd, isin_ints]
    have hc : ∀ env : Env, env = [some (.ref k), some (pvF m E), some (pvI (itK m E r)), none, none, none, none, none, some (.lst (riseV m E r)), some (.lst ((wholeR m E).map pvI)), none] → compL (turnE P (callF P (n + 12)) (.var 6) (.con (.bl true)) (.pr1 .all (.comp (.var 10) (.var 2) (.con (.bl true)) (.cmp .isin (.var 10) (.var 6)))) env) (fun _ => true) ((wholeR m E).map pvI) st1 = .ok ((wholeR m E).map fun _ => .bl true) st1 := by
      rintro env rfl
      refine compL_map (by rfl) fun w hw => ?_
      have a := hin w _ hw rfl
      have b : prim1 .all (.lst ((itK m E r).map fun i => .bl (decide (i ∈ w)))) = some (.bl true) := all_true fun x hx => decide_eq_true (it_least (wB_iff.mp (List.mem_filter.mp hw).2).2 r x hx)
      have hwk : walk st1 (pvI (itK m E r)) = some ((itK m E r).map nI, fun _ => true) := rfl
      simp -implicitDefEqProofs only [turnE, turnS, bindT, List.length_cons, List.length_nil, Nat.reduceAdd, Nat.reduceLT, if_true, Bool.false_eq_true, if_false, List.set_cons_succ, List.set_cons_zero, List.getElem?_cons_zero, List.getElem?_cons_succ, ev_var, ev_con, ev_tup, ev_lst, ev_bin, ev_cmp, ev_chn, ev_and, ev_or, ev_not, ev_neg, ev_ite, ev_idx, ev_call, ev_callk, ev_pr1, ev_pr2, ev_isi, ev_comp, es_cons, es_nil, ex_cons, ex_nil, ex_asg, ex_exp, ex_ret, ex_iff, ex_pass, as_var, as_tup, as_nil, as_cons, Res.bind_ok, Res.opt_some, der_int, der_bl, der_non, der_str, der_tup, der_lst, der_set, walk_tup, walk_lst, Option.bind_some, Option.map_some, p1_tuple, p1_tuple', p1_list, p1_list', p1_len, p1_len', p1_len2, p1_int, p1_abs, p1_intb, hwk, a, b]
    have hc := hc _ rfl
    exact iff_ff (by simp -implicitDefEqProofs only [turnE, turnS, bindT, List.length_cons, List.length_nil, Nat.reduceAdd, Nat.reduceLT, if_true, Bool.false_eq_true, if_false, List.set_cons_succ, List.set_cons_zero, List.getElem?_cons_zero, List.getElem?_cons_succ, ev_var, ev_con, ev_tup, ev_lst, ev_bin, ev_cmp, ev_chn, ev_and, ev_or, ev_not, ev_neg, ev_ite, ev_idx, ev_call, ev_callk, ev_pr1, ev_pr2, ev_isi, ev_comp, es_cons, es_nil, ex_cons, ex_nil, ex_asg, ex_exp, ex_ret, ex_iff, ex_pass, as_var, as_tup, as_nil, as_cons, Res.bind_ok, Res.opt_some, der_int, der_bl, der_non, der_str, der_tup, der_lst, der_set, walk_tup, walk_lst, Option.bind_some, Option.map_some, p1_tuple, p1_tuple', p1_list, p1_list', p1_len, p1_len', p1_len2, p1_int, p1_abs, p1_intb, hc, all_trueL, Bool.not_true])
  obtain ⟨at_, u2, v2, hat, f9⟩ := pick (n + 11) (s := r + 1) (by omega) (by omega) d1
  have d2 : D k (st1.set k (.lst [.int u2, .int v2])) := d1.set
  generalize (st1.set k (.lst [.int u2, .int v2])) = st2 at f9 d2
  have hlen : ((riseV m E r).length : Int) = ((r + 1 : Nat) : Int) := by rw [riseV_len]
  have f9 : callF P (n + 12) 58 [.ref k, nI (r + 1)] st1 = _ := f9
  have s8 : exec P (callF P (n + 12)) (.asg (.var 3) (.call 58 (.cons (.var 0) (.cons (.pr1 .len (.var 8)) .nil)))) [some (.ref k), some (pvF m E), some (pvI (itK m E r)), none, none, none, none, none, some (.lst (riseV m E r)), some (.lst ((wholeR m E).map pvI)), none] st1 = .ok (.nx [some (.ref k), some (pvF m E), some (pvI (itK m E r)), some (nI at_), none, none, none, none, some (.lst (riseV m E r)), some (.lst ((wholeR m E).map pvI)), none]) st2 := by
    simp -implicitDefEqProofs only [turnE, turnS, bindT, List.length_cons, List.length_nil, Nat.reduceAdd, Nat.reduceLT, if_true, Bool.false_eq_true, if_false, List.set_cons_succ, List.set_cons_zero, List.getElem?_cons_zero, List.getElem?_cons_succ, ev_var, ev_con, ev_tup, ev_lst, ev_bin, ev_cmp, ev_chn, ev_and, ev_or, ev_not, ev_neg, ev_ite, ev_idx, ev_call, ev_callk, ev_pr1, ev_pr2, ev_isi, ev_comp, es_cons, es_nil, ex_cons, ex_nil, ex_asg, ex_exp, ex_ret, ex_iff, ex_pass, as_var, as_tup, as_nil, as_cons, Res.bind_ok, Res.opt_some, der_int, der_bl, der_non, der_str, der_tup, der_lst, der_set, walk_tup, walk_lst, Option.bind_some, Option.map_some, p1_tuple, p1_tuple', p1_list, p1_list', p1_len, p1_len', p1_len2, p1_int, p1_abs, p1_intb, hlen, f9]
  have q8 : index1 (.lst (riseV m E r)) (nI at_) = some (pvI (itK m E at_)) := by
    have := idx_at (xs := riseV m E r) (i := at_) (by rw [riseV_len]; exact hat)
    rw [this]
    simp [riseV]
  have f10 : callF P (n + 12) 50 [pvF m E, pvI (itK m E at_)] st2 = .ok (pvI (itK m E (at_ + 1))) st2 := t_defended (n + 4) st2 F (it_lot at_)
  have s9 : exec P (callF P (n + 12)) (.asg (.var 4) (.call 50 (.cons (.var 1) (.cons (.idx (.var 8) (.var 3)) .nil)))) [some (.ref k), some (pvF m E), some (pvI (itK m E r)), some (nI at_), none, none, none, none, some (.lst (riseV m E r)), some (.lst ((wholeR m E).map pvI)), none] st2 = .ok (.nx [some (.ref k), some (pvF m E), some (pvI (itK m E r)), some (nI at_), some (pvI (itK m E (at_ + 1))), none, none, none, some (.lst (riseV m E r)), some (.lst ((wholeR m E).map pvI)), none]) st2 := by
    simp -implicitDefEqProofs only [turnE, turnS, bindT, List.length_cons, List.length_nil, Nat.reduceAdd, Nat.reduceLT, if_true, Bool.false_eq_true, if_false, List.set_cons_succ, List.set_cons_zero, List.getElem?_cons_zero, List.getElem?_cons_succ, ev_var, ev_con, ev_tup, ev_lst, ev_bin, ev_cmp, ev_chn, ev_and, ev_or, ev_not, ev_neg, ev_ite, ev_idx, ev_call, ev_callk, ev_pr1, ev_pr2, ev_isi, ev_comp, es_cons, es_nil, ex_cons, ex_nil, ex_asg, ex_exp, ex_ret, ex_iff, ex_pass, as_var, as_tup, as_nil, as_cons, Res.bind_ok, Res.opt_some, der_int, der_bl, der_non, der_str, der_tup, der_lst, der_set, walk_tup, walk_lst, Option.bind_some, Option.map_some, p1_tuple, p1_tuple', p1_list, p1_list', p1_len, p1_len', p1_len2, p1_int, p1_abs, p1_intb, q8, f10]
  have q9 : index1 (.lst (riseV m E r ++ [pvI (itK m E r)])) (.int ((at_ : Int) + 1)) = some (pvI (itK m E (at_ + 1))) := by
    have hh : at_ + 1 < (riseV m E r ++ [pvI (itK m E r)]).length := by rw [List.length_append, riseV_len, List.length_singleton]; omega
    have := idx_at hh
    refine this.trans ?_
    by_cases c : at_ = r
    · subst c
      rw [List.getElem_append_right (by rw [riseV_len]; exact Nat.le_refl _)]
      simp [h2]
    · rw [List.getElem_append_left (by rw [riseV_len]; omega)]
      simp [riseV]
  have qadd : binop .add (.lst (riseV m E r)) (.lst [pvI (itK m E r)]) = some (.lst (riseV m E r ++ [pvI (itK m E r)])) := by
    simp only [binop]
    rw [if_pos (by rw [riseV_len]; unfold lim; simp; omega)]
  have qL : cmpop .ne (pvI (itK m E (at_ + 1))) (pvI (itK m E (at_ + 1))) = some false := by rw [ne_pvI]; simp
  have s10 : exec P (callF P (n + 12)) (.iff (.or (.cmp .ne (.var 4) (.idx (.bin .add (.var 8) (.lst (.cons (.var 2) .nil))) (.bin .add (.var 3) (.con (.int 1))))) (.not (.pr1 .all (.comp (.var 10) (.idx (.var 8) (.var 3)) (.con (.bl true)) (.cmp .isin (.var 10) (.var 4)))))) (.cons (.ret (.con (.bl false))) .nil) .nil) [some (.ref k), some (pvF m E), some (pvI (itK m E r)), some (nI at_), some (pvI (itK m E (at_ + 1))), none, none, none, some (.lst (riseV m E r)), some (.lst ((wholeR m E).map pvI)), none] st2 = .ok (.nx [some (.ref k), some (pvF m E), some (pvI (itK m E r)), some (nI at_), some (pvI (itK m E (at_ + 1))), none, none, none, some (.lst (riseV m E r)), some (.lst ((wholeR m E).map pvI)), none]) st2 := by
    have hc : ∀ env : Env, env = [some (.ref k), some (pvF m E), some (pvI (itK m E r)), some (nI at_), some (pvI (itK m E (at_ + 1))), none, none, none, some (.lst (riseV m E r)), some (.lst ((wholeR m E).map pvI)), none] → compL (turnE P (callF P (n + 12)) (.var 10) (.con (.bl true)) (.cmp .isin (.var 10) (.var 4)) env) (fun _ => true) ((itK m E at_).map nI) st2 = .ok ((itK m E at_).map fun i => .bl (decide (i ∈ itK m E (at_ + 1)))) st2 := by
      rintro env rfl
      refine compL_map (by rfl) fun i hi => ?_
      have hd : der st2 (pvI (itK m E (at_ + 1))) = .tup ((itK m E (at_ + 1)).map nI) := rfl
      simp -implicitDefEqProofs only [turnE, turnS, bindT, List.length_cons, List.length_nil, Nat.reduceAdd, Nat.reduceLT, if_true, Bool.false_eq_true, if_false, List.set_cons_succ, List.set_cons_zero, List.getElem?_cons_zero, List.getElem?_cons_succ, ev_var, ev_con, ev_tup, ev_lst, ev_bin, ev_cmp, ev_chn, ev_and, ev_or, ev_not, ev_neg, ev_ite, ev_idx, ev_call, ev_callk, ev_pr1, ev_pr2, ev_isi, ev_comp, es_cons, es_nil, ex_cons, ex_nil, ex_asg, ex_exp, ex_ret, ex_iff, ex_pass, as_var, as_tup, as_nil, as_cons, Res.bind_ok, Res.opt_some, der_int, der_bl, der_non, der_str, der_tup, der_lst, der_set, walk_tup, walk_lst, Option.bind_some, Option.map_some, p1_tuple, p1_tuple', p1_list, p1_list', p1_len, p1_len', p1_len2, p1_int, p1_abs, p1_intb, hd, isin_ints]
    have hc := hc _ rfl
    have b : prim1 .all (.lst ((itK m E at_).map fun i => .bl (decide (i ∈ itK m E (at_ + 1))))) = some (.bl true) := all_true fun x hx => decide_eq_true (it_mono at_ x hx)
    have hwk : walk st2 (pvI (itK m E at_)) = some ((itK m E at_).map nI, fun _ => true) := rfl
    exact iff_ff (or_ok (x := false) (y := false) (by simp -implicitDefEqProofs only [turnE, turnS, bindT, List.length_cons, List.length_nil, Nat.reduceAdd, Nat.reduceLT, if_true, Bool.false_eq_true, if_false, List.set_cons_succ, List.set_cons_zero, List.getElem?_cons_zero, List.getElem?_cons_succ, ev_var, ev_con, ev_tup, ev_lst, ev_bin, ev_cmp, ev_chn, ev_and, ev_or, ev_not, ev_neg, ev_ite, ev_idx, ev_call, ev_callk, ev_pr1, ev_pr2, ev_isi, ev_comp, es_cons, es_nil, ex_cons, ex_nil, ex_asg, ex_exp, ex_ret, ex_iff, ex_pass, as_var, as_tup, as_nil, as_cons, Res.bind_ok, Res.opt_some, der_int, der_bl, der_non, der_str, der_tup, der_lst, der_set, walk_tup, walk_lst, Option.bind_some, Option.map_some, p1_tuple, p1_tuple', p1_list, p1_list', p1_len, p1_len', p1_len2, p1_int, p1_abs, p1_intb, qadd, bop_addI, q9, dpv, qL]) (by simp -implicitDefEqProofs only [turnE, turnS, bindT, List.length_cons, List.length_nil, Nat.reduceAdd, Nat.reduceLT, if_true, Bool.false_eq_true, if_false, List.set_cons_succ, List.set_cons_zero, List.getElem?_cons_zero, List.getElem?_cons_succ, ev_var, ev_con, ev_tup, ev_lst, ev_bin, ev_cmp, ev_chn, ev_and, ev_or, ev_not, ev_neg, ev_ite, ev_idx, ev_call, ev_callk, ev_pr1, ev_pr2, ev_isi, ev_comp, es_cons, es_nil, ex_cons, ex_nil, ex_asg, ex_exp, ex_ret, ex_iff, ex_pass, as_var, as_tup, as_nil, as_cons, Res.bind_ok, Res.opt_some, der_int, der_bl, der_non, der_str, der_tup, der_lst, der_set, walk_tup, walk_lst, Option.bind_some, Option.map_some, p1_tuple, p1_tuple', p1_list, p1_list', p1_len, p1_len', p1_len2, p1_int, p1_abs, p1_intb, q8, hwk, hc, b, Bool.not_true]))
  have f11 : callF P (n + 12) 49 [pvF m E, pvI (itK m E r)] st2 = _ := t_struck (n + 4) st2 F GL
  have f12 : callF P (n + 12) 63 [pvF m E, pvI (itK m E r)] st2 = _ := l_struck (n + 11) st2 F
  have hp2 : ([1, 0].mapM fun i => [pvI (itK m E r), pvF m E][i]?) = some [pvF m E, pvI (itK m E r)] := rfl
  have qH : cmpop .ne (pvI (hitL m E (itK m E r))) (pvI (hitL m E (itK m E r))) = some false := by rw [ne_pvI]; simp
  have s11 : exec P (callF P (n + 12)) (.iff (.cmp .ne (.callk 49 [1, 0] (.cons (.var 2) (.cons (.var 1) .nil))) (.call 63 (.cons (.var 1) (.cons (.var 2) .nil)))) (.cons (.ret (.con (.bl false))) .nil) .nil) [some (.ref k), some (pvF m E), some (pvI (itK m E r)), some (nI at_), some (pvI (itK m E (at_ + 1))), none, none, none, some (.lst (riseV m E r)), some (.lst ((wholeR m E).map pvI)), none] st2 = .ok (.nx [some (.ref k), some (pvF m E), some (pvI (itK m E r)), some (nI at_), some (pvI (itK m E (at_ + 1))), none, none, none, some (.lst (riseV m E r)), some (.lst ((wholeR m E).map pvI)), none]) st2 :=
    iff_ff (by simp -implicitDefEqProofs only [turnE, turnS, bindT, List.length_cons, List.length_nil, Nat.reduceAdd, Nat.reduceLT, if_true, Bool.false_eq_true, if_false, List.set_cons_succ, List.set_cons_zero, List.getElem?_cons_zero, List.getElem?_cons_succ, ev_var, ev_con, ev_tup, ev_lst, ev_bin, ev_cmp, ev_chn, ev_and, ev_or, ev_not, ev_neg, ev_ite, ev_idx, ev_call, ev_callk, ev_pr1, ev_pr2, ev_isi, ev_comp, es_cons, es_nil, ex_cons, ex_nil, ex_asg, ex_exp, ex_ret, ex_iff, ex_pass, as_var, as_tup, as_nil, as_cons, Res.bind_ok, Res.opt_some, der_int, der_bl, der_non, der_str, der_tup, der_lst, der_set, walk_tup, walk_lst, Option.bind_some, Option.map_some, p1_tuple, p1_tuple', p1_list, p1_list', p1_len, p1_len', p1_len2, p1_int, p1_abs, p1_intb, hp2, f11, f12, dpv, qH])
  have f13 : callF P (n + 12) 62 [nI m] st2 = _ := l_every (n + 11) F.lo F.hi st2
  have s12 : exec P (callF P (n + 12)) (.asg (.var 5) (.call 62 (.cons (.idx (.var 1) (.con (.int 0))) .nil))) [some (.ref k), some (pvF m E), some (pvI (itK m E r)), some (nI at_), some (pvI (itK m E (at_ + 1))), none, none, none, some (.lst (riseV m E r)), some (.lst ((wholeR m E).map pvI)), none] st2 = .ok (.nx [some (.ref k), some (pvF m E), some (pvI (itK m E r)), some (nI at_), some (pvI (itK m E (at_ + 1))), some (.lst ((rowsL m).map pvI)), none, none, some (.lst (riseV m E r)), some (.lst ((wholeR m E).map pvI)), none]) st2 := by
    simp -implicitDefEqProofs only [turnE, turnS, bindT, List.length_cons, List.length_nil, Nat.reduceAdd, Nat.reduceLT, if_true, Bool.false_eq_true, if_false, List.set_cons_succ, List.set_cons_zero, List.getElem?_cons_zero, List.getElem?_cons_succ, ev_var, ev_con, ev_tup, ev_lst, ev_bin, ev_cmp, ev_chn, ev_and, ev_or, ev_not, ev_neg, ev_ite, ev_idx, ev_call, ev_callk, ev_pr1, ev_pr2, ev_isi, ev_comp, es_cons, es_nil, ex_cons, ex_nil, ex_asg, ex_exp, ex_ret, ex_iff, ex_pass, as_var, as_tup, as_nil, as_cons, Res.bind_ok, Res.opt_some, der_int, der_bl, der_non, der_str, der_tup, der_lst, der_set, walk_tup, walk_lst, Option.bind_some, Option.map_some, p1_tuple, p1_tuple', p1_list, p1_list', p1_len, p1_len', p1_len2, p1_int, p1_abs, p1_intb, fst0, f13]
  have hrl := rowsL_len F.lo F.hi
  have hpw : 2 ^ m ≤ 1000 := pow_small h5
  have hp0' : 0 < 2 ^ m := Nat.two_pow_pos m
  obtain ⟨i3, hi3, u3, v3, f14⟩ := any_of (n + 10) (xs := (rowsL m).map pvI) (by rw [List.length_map, hrl]; exact hp0') (by rw [List.length_map, hrl]; omega) d2
  have d3 : D k (st2.set k (.lst [.int u3, .int v3])) := d2.set
  generalize (st2.set k (.lst [.int u3, .int v3])) = st3 at f14 d3
  have hwl : (wholeR m E).length ≤ 2 ^ m := by
    have := List.length_filter_le (wB m E) (rowsL m)
    unfold wholeR; omega
  obtain ⟨i4, hi4, u4, v4, f15⟩ := any_of (n + 10) (xs := (wholeR m E).map pvI) (by rw [List.length_map, hls]; simp) (by rw [List.length_map]; omega) d3
  have d4 : D k (st3.set k (.lst [.int u4, .int v4])) := d3.set
  generalize (st3.set k (.lst [.int u4, .int v4])) = st4 at f15 d4
  have L3 : ∃ l3, Lot m l3 ∧ ((rowsL m).map pvI)[i3] = pvI l3 := by
    rw [List.length_map] at hi3
    exact ⟨(rowsL m)[i3], rowsL_lot F.lo F.hi _ (List.getElem_mem hi3), by simp⟩
  have L4 : ∃ l4, Lot m l4 ∧ ((wholeR m E).map pvI)[i4] = pvI l4 := by
    rw [List.length_map] at hi4
    exact ⟨(wholeR m E)[i4], rowsL_lot F.lo F.hi _ (List.mem_filter.mp (List.getElem_mem hi4)).1, by simp⟩
  obtain ⟨l3, L3, x3⟩ := L3
  obtain ⟨l4, L4, x4⟩ := L4
  rw [x3] at f14
  rw [x4] at f15
  have f14 : callF P (n + 12) 59 [.ref k, .lst ((rowsL m).map pvI)] st2 = _ := f14
  have f15 : callF P (n + 12) 59 [.ref k, .lst ((wholeR m E).map pvI)] st3 = _ := f15
  have x := (some (pvI l4) : Option PV)
  have t1 := of_turn n F d4.tb (k := k) (at_ := at_) hr h1 h2 GL (x := none)
  have t2 := of_turn n F d4.tb (k := k) (at_ := at_) hr h1 h2 L3 (x := some (pvI (itK m E r)))
  have t3 := of_turn n F d4.tb (k := k) (at_ := at_) hr h1 h2 L4 (x := some (pvI l3))
  have s13 : exec P (callF P (n + 12)) (.fors (.var 6) (.lst (.cons (.var 2) (.cons (.call 59 (.cons (.var 0) (.cons (.var 5) .nil))) (.cons (.call 59 (.cons (.var 0) (.cons (.var 9) .nil))) .nil)))) (.cons (.iff (.cmp .ne (.rpr (.lst (.cons (.call 55 (.cons (.var 1) (.cons (.con gS) (.cons (.var 6) .nil)))) (.cons (.callk 51 [1, 0] (.cons (.var 6) (.cons (.var 1) .nil))) .nil)))) (.rpr (.lst (.cons (.cmp .eq (.var 6) (.var 2)) (.cons (.cmp .isin (.var 6) (.var 9)) .nil))))) (.cons (.ret (.con (.bl false))) .nil) .nil) .nil)) [some (.ref k), some (pvF m E), some (pvI (itK m E r)), some (nI at_), some (pvI (itK m E (at_ + 1))), some (.lst ((rowsL m).map pvI)), none, none, some (.lst (riseV m E r)), some (.lst ((wholeR m E).map pvI)), none] st2 = .ok (.nx [some (.ref k), some (pvF m E), some (pvI (itK m E r)), some (nI at_), some (pvI (itK m E (at_ + 1))), some (.lst ((rowsL m).map pvI)), some (pvI l4), none, some (.lst (riseV m E r)), some (.lst ((wholeR m E).map pvI)), none]) st4 := by
    have w : evalE P (callF P (n + 12)) (.lst (.cons (.var 2) (.cons (.call 59 (.cons (.var 0) (.cons (.var 5) .nil))) (.cons (.call 59 (.cons (.var 0) (.cons (.var 9) .nil))) .nil)))) [some (.ref k), some (pvF m E), some (pvI (itK m E r)), some (nI at_), some (pvI (itK m E (at_ + 1))), some (.lst ((rowsL m).map pvI)), none, none, some (.lst (riseV m E r)), some (.lst ((wholeR m E).map pvI)), none] st2 = .ok (.lst [pvI (itK m E r), pvI l3, pvI l4]) st4 := by
      simp -implicitDefEqProofs only [turnE, turnS, bindT, List.length_cons, List.length_nil, Nat.reduceAdd, Nat.reduceLT, if_true, Bool.false_eq_true, if_false, List.set_cons_succ, List.set_cons_zero, List.getElem?_cons_zero, List.getElem?_cons_succ, ev_var, ev_con, ev_tup, ev_lst, ev_bin, ev_cmp, ev_chn, ev_and, ev_or, ev_not, ev_neg, ev_ite, ev_idx, ev_call, ev_callk, ev_pr1, ev_pr2, ev_isi, ev_comp, es_cons, es_nil, ex_cons, ex_nil, ex_asg, ex_exp, ex_ret, ex_iff, ex_pass, as_var, as_tup, as_nil, as_cons, Res.bind_ok, Res.opt_some, der_int, der_bl, der_non, der_str, der_tup, der_lst, der_set, walk_tup, walk_lst, Option.bind_some, Option.map_some, p1_tuple, p1_tuple', p1_list, p1_list', p1_len, p1_len', p1_len2, p1_int, p1_abs, p1_intb, f14, f15]
    rw [ex_fors, w, Res.bind_ok, walk_lst, Res.opt_some, Res.bind_ok, forL, t1, Res.bind_ok]
    simp only [if_true]
    rw [forL, t2, Res.bind_ok]
    simp only [if_true]
    rw [forL, t3, Res.bind_ok]
    simp only [if_true]
    rw [forL]
  have f16 : callF P (n + 12) 47 [pvF m E, pvI (itK m E r)] st4 = .ok (labV m E (itK m E r)) st4 := label_of (n + 4) st4 F GL
  have s14 : exec P (callF P (n + 12)) (.asg (.var 7) (.callk 47 [1, 0] (.cons (.var 2) (.cons (.var 1) .nil)))) [some (.ref k), some (pvF m E), some (pvI (itK m E r)), some (nI at_), some (pvI (itK m E (at_ + 1))), some (.lst ((rowsL m).map pvI)), some (pvI l4), none, some (.lst (riseV m E r)), some (.lst ((wholeR m E).map pvI)), none] st4 = .ok (.nx [some (.ref k), some (pvF m E), some (pvI (itK m E r)), some (nI at_), some (pvI (itK m E (at_ + 1))), some (.lst ((rowsL m).map pvI)), some (pvI l4), some (labV m E (itK m E r)), some (.lst (riseV m E r)), some (.lst ((wholeR m E).map pvI)), none]) st4 := by
    simp -implicitDefEqProofs only [turnE, turnS, bindT, List.length_cons, List.length_nil, Nat.reduceAdd, Nat.reduceLT, if_true, Bool.false_eq_true, if_false, List.set_cons_succ, List.set_cons_zero, List.getElem?_cons_zero, List.getElem?_cons_succ, ev_var, ev_con, ev_tup, ev_lst, ev_bin, ev_cmp, ev_chn, ev_and, ev_or, ev_not, ev_neg, ev_ite, ev_idx, ev_call, ev_callk, ev_pr1, ev_pr2, ev_isi, ev_comp, es_cons, es_nil, ex_cons, ex_nil, ex_asg, ex_exp, ex_ret, ex_iff, ex_pass, as_var, as_tup, as_nil, as_cons, Res.bind_ok, Res.opt_some, der_int, der_bl, der_non, der_str, der_tup, der_lst, der_set, walk_tup, walk_lst, Option.bind_some, Option.map_some, p1_tuple, p1_tuple', p1_list, p1_list', p1_len, p1_len', p1_len2, p1_int, p1_abs, p1_intb, hp2, f16]
  have f17 : callF P (n + 12) 68 [pvF m E, pvI (itK m E r)] st4 = _ := l_label (n + 10) st4 F
  have f18 : callF P (n + 12) 46 [pvF m E, labV m E (itK m E r)] st4 = _ := right_label (n + 5) st4 F (wB_it h2)
  have q10 : cmpop .eq (labV m E (itK m E r)) (labV m E (itK m E r)) = some true := cmp_eq_same (sml_depthOk (by simp [labV, sml, words_ok]) (by simp [labV, dep, words_ok]))
  have q11 : cmpop .is (.bl true) (.bl true) = some true := rfl
  have hdl : der st4 (labV m E (itK m E r)) = labV m E (itK m E r) := rfl
  have s15 : exec P (callF P (n + 12)) (.cons (.ret (.and (.cmp .eq (.var 7) (.call 68 (.cons (.var 1) (.cons (.var 2) .nil)))) (.cmp .is (.call 46 (.cons (.var 1) (.cons (.var 7) .nil))) (.con (.bl true))))) .nil) [some (.ref k), some (pvF m E), some (pvI (itK m E r)), some (nI at_), some (pvI (itK m E (at_ + 1))), some (.lst ((rowsL m).map pvI)), some (pvI l4), some (labV m E (itK m E r)), some (.lst (riseV m E r)), some (.lst ((wholeR m E).map pvI)), none] st4 = .ok (.rt (.bl true)) st4 := by
    rw [ex_cons, ex_ret, and_ok (x := true) (y := true) (by simp -implicitDefEqProofs only [turnE, turnS, bindT, List.length_cons, List.length_nil, Nat.reduceAdd, Nat.reduceLT, if_true, Bool.false_eq_true, if_false, List.set_cons_succ, List.set_cons_zero, List.getElem?_cons_zero, List.getElem?_cons_succ, ev_var, ev_con, ev_tup, ev_lst, ev_bin, ev_cmp, ev_chn, ev_and, ev_or, ev_not, ev_neg, ev_ite, ev_idx, ev_call, ev_callk, ev_pr1, ev_pr2, ev_isi, ev_comp, es_cons, es_nil, ex_cons, ex_nil, ex_asg, ex_exp, ex_ret, ex_iff, ex_pass, as_var, as_tup, as_nil, as_cons, Res.bind_ok, Res.opt_some, der_int, der_bl, der_non, der_str, der_tup, der_lst, der_set, walk_tup, walk_lst, Option.bind_some, Option.map_some, p1_tuple, p1_tuple', p1_list, p1_list', p1_len, p1_len', p1_len2, p1_int, p1_abs, p1_intb, f17, hdl, q10]) (by simp -implicitDefEqProofs only [turnE, turnS, bindT, List.length_cons, List.length_nil, Nat.reduceAdd, Nat.reduceLT, if_true, Bool.false_eq_true, if_false, List.set_cons_succ, List.set_cons_zero, List.getElem?_cons_zero, List.getElem?_cons_succ, ev_var, ev_con, ev_tup, ev_lst, ev_bin, ev_cmp, ev_chn, ev_and, ev_or, ev_not, ev_neg, ev_ite, ev_idx, ev_call, ev_callk, ev_pr1, ev_pr2, ev_isi, ev_comp, es_cons, es_nil, ex_cons, ex_nil, ex_asg, ex_exp, ex_ret, ex_iff, ex_pass, as_var, as_tup, as_nil, as_cons, Res.bind_ok, Res.opt_some, der_int, der_bl, der_non, der_str, der_tup, der_lst, der_set, walk_tup, walk_lst, Option.bind_some, Option.map_some, p1_tuple, p1_tuple', p1_list, p1_list', p1_len, p1_len', p1_len2, p1_int, p1_abs, p1_intb, f18, q11])]
    rfl
  refine ⟨st4, ?_, d4.tb, d4.lt⟩
  rw [c69]
  have hb : exec P (callF P (n + 12)) b69 [some (.ref k), none, none, none, none, none, none, none, none, none, none] st = _ := ex_seq s1 (ex_seq s2 (ex_seq s3 (ex_seq s4 (ex_seq s5 (ex_seq s6 (ex_seq s7 (ex_seq s8 (ex_seq s9 (ex_seq s10 (ex_seq s11 (ex_seq s12 (ex_seq s13 (ex_seq s14 s15)))))))))))))
  rw [hb]; rfl
theorem lawAll {ns : List Int} (hn : ns.length ≤ 63) {st : Store} (ht : TB st) (hl : 1 ≤ st.length) : ∃ st', callF P (n + 14) 70 [.set (ns.map .int)] st = .ok (.bl true) st' := by
  obtain ⟨a, b, f1⟩ := diceL (n + 12) hn 0 (by decide) ht hl
  have d1 := D_new (a := a) (b := b) ht hl
  obtain ⟨t2, f2, T2, k2⟩ := lawRight n d1
  obtain ⟨a', b', f3⟩ := diceL (n + 12) hn 1 (by decide) T2 (by omega)
  have d3 := D_new (a := a') (b := b') T2 (by omega)
  obtain ⟨t4, f4, T4, k4⟩ := lawRight n d3
  have f1 : callF P (n + 13) 57 [.set (ns.map .int), .int 0] st = _ := f1
  have f3 : callF P (n + 13) 57 [.set (ns.map .int), .int 1] t2 = _ := f3
  refine ⟨t4, ?_⟩
  have hr : evalE P (callF P (n + 13)) (.rng (.con (.int 0)) (.con (.int 2))) [some (.set (ns.map .int)), none] st = .ok (.lst [.int 0, .int 1]) st := rng0 (k := 2) ev_con (by decide)
  have q1 : turnS P (callF P (n + 13)) (.var 1) (.cons (.iff (.not (.call 69 (.cons (.call 57 (.cons (.var 0) (.cons (.var 1) .nil))) .nil))) (.cons (.ret (.con (.bl false))) .nil) .nil) .nil) (.int 0) [some (.set (ns.map .int)), none] st = .ok (.nx [some (.set (ns.map .int)), some (.int 0)]) t2 := by
    simp -implicitDefEqProofs only [turnE, turnS, bindT, List.length_cons, List.length_nil, Nat.reduceAdd, Nat.reduceLT, if_true, Bool.false_eq_true, if_false, List.set_cons_succ, List.set_cons_zero, List.getElem?_cons_zero, List.getElem?_cons_succ, ev_var, ev_con, ev_tup, ev_lst, ev_bin, ev_cmp, ev_chn, ev_and, ev_or, ev_not, ev_neg, ev_ite, ev_idx, ev_call, ev_callk, ev_pr1, ev_pr2, ev_isi, ev_comp, es_cons, es_nil, ex_cons, ex_nil, ex_asg, ex_exp, ex_ret, ex_iff, ex_pass, as_var, as_tup, as_nil, as_cons, Res.bind_ok, Res.opt_some, der_int, der_bl, der_non, der_str, der_tup, der_lst, der_set, walk_tup, walk_lst, Option.bind_some, Option.map_some, p1_tuple, p1_tuple', p1_list, p1_list', p1_len, p1_len', p1_len2, p1_int, p1_abs, p1_intb, f1, f2, Bool.not_true]
  have q2 : turnS P (callF P (n + 13)) (.var 1) (.cons (.iff (.not (.call 69 (.cons (.call 57 (.cons (.var 0) (.cons (.var 1) .nil))) .nil))) (.cons (.ret (.con (.bl false))) .nil) .nil) .nil) (.int 1) [some (.set (ns.map .int)), some (.int 0)] t2 = .ok (.nx [some (.set (ns.map .int)), some (.int 1)]) t4 := by
    simp -implicitDefEqProofs only [turnE, turnS, bindT, List.length_cons, List.length_nil, Nat.reduceAdd, Nat.reduceLT, if_true, Bool.false_eq_true, if_false, List.set_cons_succ, List.set_cons_zero, List.getElem?_cons_zero, List.getElem?_cons_succ, ev_var, ev_con, ev_tup, ev_lst, ev_bin, ev_cmp, ev_chn, ev_and, ev_or, ev_not, ev_neg, ev_ite, ev_idx, ev_call, ev_callk, ev_pr1, ev_pr2, ev_isi, ev_comp, es_cons, es_nil, ex_cons, ex_nil, ex_asg, ex_exp, ex_ret, ex_iff, ex_pass, as_var, as_tup, as_nil, as_cons, Res.bind_ok, Res.opt_some, der_int, der_bl, der_non, der_str, der_tup, der_lst, der_set, walk_tup, walk_lst, Option.bind_some, Option.map_some, p1_tuple, p1_tuple', p1_list, p1_list', p1_len, p1_len', p1_len2, p1_int, p1_abs, p1_intb, f3, f4, Bool.not_true]
  have s1 : exec P (callF P (n + 13)) (.fors (.var 1) (.rng (.con (.int 0)) (.con (.int 2))) (.cons (.iff (.not (.call 69 (.cons (.call 57 (.cons (.var 0) (.cons (.var 1) .nil))) .nil))) (.cons (.ret (.con (.bl false))) .nil) .nil) .nil)) [some (.set (ns.map .int)), none] st = .ok (.nx [some (.set (ns.map .int)), some (.int 1)]) t4 := by
    rw [ex_fors, hr, Res.bind_ok, walk_lst, Res.opt_some, Res.bind_ok, forL, q1, Res.bind_ok]
    simp only [if_true]
    rw [forL, q2, Res.bind_ok]
    simp only [if_true]
    rw [forL]
  have s2 : exec P (callF P (n + 13)) (.cons (.ret (.con (.bl true))) .nil) [some (.set (ns.map .int)), some (.int 1)] t4 = .ok (.rt (.bl true)) t4 := by
    simp -implicitDefEqProofs only [turnE, turnS, bindT, List.length_cons, List.length_nil, Nat.reduceAdd, Nat.reduceLT, if_true, Bool.false_eq_true, if_false, List.set_cons_succ, List.set_cons_zero, List.getElem?_cons_zero, List.getElem?_cons_succ, ev_var, ev_con, ev_tup, ev_lst, ev_bin, ev_cmp, ev_chn, ev_and, ev_or, ev_not, ev_neg, ev_ite, ev_idx, ev_call, ev_callk, ev_pr1, ev_pr2, ev_isi, ev_comp, es_cons, es_nil, ex_cons, ex_nil, ex_asg, ex_exp, ex_ret, ex_iff, ex_pass, as_var, as_tup, as_nil, as_cons, Res.bind_ok, Res.opt_some, der_int, der_bl, der_non, der_str, der_tup, der_lst, der_set, walk_tup, walk_lst, Option.bind_some, Option.map_some, p1_tuple, p1_tuple', p1_list, p1_list', p1_len, p1_len', p1_len2, p1_int, p1_abs, p1_intb, Res.bind_ok]
  rw [c70]
  have hb : exec P (callF P (n + 13)) b70 [some (.set (ns.map .int)), none] st = _ := ex_seq s1 s2
  rw [hb]; rfl
end
theorem math : ∀ ns : List Int, ns.length ≤ 63 → ∃ st', callF P 40 70 [.set (ns.map PV.int)] (tabs0 1) = .ok (.bl true) st' := fun ns hn => lawAll 26 hn (fun i hi => by rw [show i = 0 by omega]; rfl) (Nat.le_refl _)
end LP
namespace LP
open PySem PySem.Spec PyProof.Rows L2 MP
def T : Tab where
  fns := [(("_law_any" : Str), 59), (("_law_dice" : Str), 57), (("_law_every" : Str), 62), (("_law_field" : Str), 60), (("_law_foes" : Str), 61), (("_law_label" : Str), 68), (("_law_pick" : Str), 58), (("_law_quiet" : Str), 65), (("_law_right" : Str), 69), (("_law_rise" : Str), 66), (("_law_safe" : Str), 64), (("_law_struck" : Str), 63), (("_law_whole" : Str), 67), (("against_by" : Str), 12), (("all_within" : Str), 39), (("are_numbers_upto" : Str), 10), (("are_pairs_of" : Str), 8), (("are_words" : Str), 40), (("bits_by" : Str), 37), (("bits_of" : Str), 13), (("check_field" : Str), 16), (("check_lot" : Str), 17), (("check_sort" : Str), 52), (("check_sorted" : Str), 53), (("defended_by" : Str), 50), (("faults_by" : Str), 44), (("ground" : Str), 29), (("ground_by" : Str), 28), (("held_bits" : Str), 31), (("inner_bits" : Str), 36), (("is_ascending" : Str), 6), (("is_between" : Str), 1), (("is_field_by" : Str), 9), (("is_lot_by" : Str), 11), (("is_of" : Str), 55), (("is_pair_of" : Str), 7), (("is_right_at" : Str), 43), (("is_right_by" : Str), 45), (("is_right_label" : Str), 46), (("is_row" : Str), 4), (("is_string" : Str), 2), (("is_tuple_of" : Str), 3), (("is_whole_lots" : Str), 51), (("is_whole_plain" : Str), 0), (("is_within" : Str), 15), (("is_word_in" : Str), 5), (("label_by" : Str), 42), (("label_of" : Str), 47), (("lots_beside" : Str), 48), (("lots_by" : Str), 38), (("lots_of" : Str), 54), (("most_bits" : Str), 34), (("points_in" : Str), 14), (("quiet_sorts" : Str), 33), (("step_bits" : Str), 26), (("steps" : Str), 30), (("steps_by" : Str), 27), (("struck_by" : Str), 49), (("unions" : Str), 18), (("whole_bits" : Str), 32), (("wide_bits" : Str), 35), (("within_all" : Str), 56), (("word_by" : Str), 41)]
  cls := [(("Lots" : Str), 0)]
  con := [(("GROUND" : Str), (.str [103, 114, 111, 117, 110, 100])), (("HELD" : Str), (.str [104, 101, 108, 100])), (("IDEAL" : Str), (.str [105, 100, 101, 97, 108])), (("IN" : Str), (.str [105, 110])), (("LABEL_WORDS" : Str), (.tup [(.str [105, 110]), (.str [111, 117, 116]), (.str [111, 112, 101, 110])])), (("LOOSE" : Str), (.str [108, 111, 111, 115, 101])), (("MOST" : Str), (.str [109, 111, 115, 116])), (("MOST_POINTS" : Str), (.int 8)), (("OPEN" : Str), (.str [111, 112, 101, 110])), (("OUT" : Str), (.str [111, 117, 116])), (("QUIET" : Str), (.str [113, 117, 105, 101, 116])), (("SORTS" : Str), (.tup [(.str [113, 117, 105, 101, 116]), (.str [104, 101, 108, 100]), (.str [119, 104, 111, 108, 101]), (.str [103, 114, 111, 117, 110, 100]), (.str [108, 111, 111, 115, 101]), (.str [109, 111, 115, 116]), (.str [115, 116, 97, 98, 108, 101]), (.str [119, 105, 100, 101]), (.str [115, 116, 97, 103, 101]), (.str [105, 100, 101, 97, 108]), (.str [101, 97, 103, 101, 114])])), (("STABLE" : Str), (.str [115, 116, 97, 98, 108, 101])), (("STAGE" : Str), (.str [115, 116, 97, 103, 101])), (("WHOLE" : Str), (.str [119, 104, 111, 108, 101])), (("WIDE" : Str), (.str [119, 105, 100, 101]))]
  blt := [("abs" : Str), ("all" : Str), ("any" : Str), ("bool" : Str), ("divmod" : Str), ("int" : Str), ("isinstance" : Str), ("len" : Str), ("list" : Str), ("range" : Str), ("repr" : Str), ("set" : Str), ("sorted" : Str), ("str" : Str), ("sum" : Str), ("tuple" : Str), ("zip" : Str)]
  nms := nms
  nf := nmL.length
  kws := [(30, [("field" : Str)], [0]), (47, [("lot" : Str), ("field" : Str)], [1, 0]), (49, [("lot" : Str), ("field" : Str)], [1, 0]), (51, [("lot" : Str), ("field" : Str)], [1, 0]), (54, [("sort" : Str), ("field" : Str)], [1, 0])]
abbrev R : PySem.W.OpenRow := PySem.W.OpenLaw.row PySem.Challenge.rw_contendings_k40_whole_ground_by_steps_an
def top (i : Nat) : Stmt := (PySem.Challenge.rw_contendings_k40_whole_ground_by_steps_an).prog.main.body.getD i (.Pass ⟨0, 0, 0, 0⟩)
def mth (i j : Nat) : Stmt := match top i with
  | .ClassDef _ _ _ b .. => b.getD j (.Pass ⟨0, 0, 0, 0⟩)
  | _ => .Pass ⟨0, 0, 0, 0⟩
abbrev s0 : Stmt := top 1
abbrev s1 : Stmt := top 3
abbrev s2 : Stmt := top 4
abbrev s3 : Stmt := top 5
abbrev s4 : Stmt := top 6
abbrev s5 : Stmt := top 7
abbrev s6 : Stmt := top 8
abbrev s7 : Stmt := top 16
abbrev s8 : Stmt := top 17
abbrev s9 : Stmt := top 18
abbrev s10 : Stmt := top 19
abbrev s11 : Stmt := top 20
abbrev s12 : Stmt := top 21
abbrev s13 : Stmt := top 22
abbrev s14 : Stmt := top 23
abbrev s15 : Stmt := top 24
abbrev s16 : Stmt := top 26
abbrev s17 : Stmt := top 27
abbrev s18 : Stmt := top 29
abbrev s19 : Stmt := mth 30 0
abbrev s20 : Stmt := mth 30 1
abbrev s21 : Stmt := mth 30 2
abbrev s22 : Stmt := mth 30 3
abbrev s23 : Stmt := mth 30 4
abbrev s24 : Stmt := mth 30 5
abbrev s25 : Stmt := mth 30 6
abbrev s26 : Stmt := top 32
abbrev s27 : Stmt := top 33
abbrev s28 : Stmt := top 34
abbrev s29 : Stmt := top 36
abbrev s30 : Stmt := top 37
abbrev s31 : Stmt := top 54
abbrev s32 : Stmt := top 55
abbrev s33 : Stmt := top 56
abbrev s34 : Stmt := top 57
abbrev s35 : Stmt := top 58
abbrev s36 : Stmt := top 59
abbrev s37 : Stmt := top 60
abbrev s38 : Stmt := top 61
abbrev s39 : Stmt := top 62
abbrev s40 : Stmt := top 68
abbrev s41 : Stmt := top 69
abbrev s42 : Stmt := top 70
abbrev s43 : Stmt := top 71
abbrev s44 : Stmt := top 72
abbrev s45 : Stmt := top 73
abbrev s46 : Stmt := top 75
abbrev s47 : Stmt := top 76
abbrev s48 : Stmt := top 78
abbrev s49 : Stmt := top 79
abbrev s50 : Stmt := top 80
abbrev s51 : Stmt := top 81
abbrev s52 : Stmt := top 84
abbrev s53 : Stmt := top 85
abbrev s54 : Stmt := top 86
abbrev s55 : Stmt := top 87
abbrev s56 : Stmt := top 88
abbrev s57 : Stmt := top 90
abbrev s58 : Stmt := top 91
abbrev s59 : Stmt := top 92
abbrev s60 : Stmt := top 93
abbrev s61 : Stmt := top 94
abbrev s62 : Stmt := top 95
abbrev s63 : Stmt := top 96
abbrev s64 : Stmt := top 97
abbrev s65 : Stmt := top 98
abbrev s66 : Stmt := top 99
abbrev s67 : Stmt := top 100
abbrev s68 : Stmt := top 101
abbrev s69 : Stmt := top 102
abbrev s70 : Stmt := top 103
def fds : List FD := [⟨⟨1, 1, false, b0⟩, [("value" : Str)], [("value" : Str)], L2.defScope s0, L2.defBody s0, none⟩,
  ⟨⟨3, 3, false, b1⟩, [("value" : Str), ("least" : Str), ("most" : Str)], [("value" : Str), ("least" : Str), ("most" : Str)], L2.defScope s1, L2.defBody s1, none⟩,
  ⟨⟨1, 1, false, b2⟩, [("value" : Str)], [("value" : Str)], L2.defScope s2, L2.defBody s2, none⟩,
  ⟨⟨2, 2, false, b3⟩, [("value" : Str), ("many" : Str)], [("value" : Str), ("many" : Str)], L2.defScope s3, L2.defBody s3, none⟩,
  ⟨⟨3, 3, false, b4⟩, [("value" : Str), ("least" : Str), ("most" : Str)], [("value" : Str), ("least" : Str), ("most" : Str)], L2.defScope s4, L2.defBody s4, none⟩,
  ⟨⟨2, 2, false, b5⟩, [("value" : Str), ("words" : Str)], [("value" : Str), ("words" : Str)], L2.defScope s5, L2.defBody s5, none⟩,
  ⟨⟨1, 3, false, b6⟩, [("value" : Str)], [("value" : Str), ("one" : Str), ("other" : Str)], L2.defScope s6, L2.defBody s6, none⟩,
  ⟨⟨2, 2, false, b7⟩, [("value" : Str), ("many" : Str)], [("value" : Str), ("many" : Str)], L2.defScope s7, L2.defBody s7, none⟩,
  ⟨⟨2, 3, false, b8⟩, [("value" : Str), ("many" : Str)], [("value" : Str), ("many" : Str), ("each" : Str)], L2.defScope s8, L2.defBody s8, none⟩,
  ⟨⟨1, 1, false, b9⟩, [("value" : Str)], [("value" : Str)], L2.defScope s9, L2.defBody s9, none⟩,
  ⟨⟨2, 3, false, b10⟩, [("value" : Str), ("most" : Str)], [("value" : Str), ("most" : Str), ("each" : Str)], L2.defScope s10, L2.defBody s10, none⟩,
  ⟨⟨2, 2, false, b11⟩, [("field" : Str), ("value" : Str)], [("field" : Str), ("value" : Str)], L2.defScope s11, L2.defBody s11, none⟩,
  ⟨⟨2, 4, false, b12⟩, [("field" : Str), ("point" : Str)], [("field" : Str), ("point" : Str), ("one" : Str), ("other" : Str)], L2.defScope s12, L2.defBody s12, none⟩,
  ⟨⟨1, 2, false, b13⟩, [("lot" : Str)], [("lot" : Str), ("point" : Str)], L2.defScope s13, L2.defBody s13, none⟩,
  ⟨⟨1, 2, false, b14⟩, [("bits" : Str)], [("bits" : Str), ("point" : Str)], L2.defScope s14, L2.defBody s14, none⟩,
  ⟨⟨2, 2, false, b15⟩, [("bits" : Str), ("other" : Str)], [("bits" : Str), ("other" : Str)], L2.defScope s15, L2.defBody s15, none⟩,
  ⟨⟨1, 1, false, b16⟩, [("value" : Str)], [("value" : Str)], L2.defScope s16, L2.defBody s16, none⟩,
  ⟨⟨2, 2, false, b17⟩, [("field" : Str), ("value" : Str)], [("field" : Str), ("value" : Str)], L2.defScope s17, L2.defBody s17, none⟩,
  ⟨⟨1, 4, false, b18⟩, [("rows" : Str)], [("rows" : Str), ("found" : Str), ("row" : Str), ("bits" : Str)], L2.defScope s18, L2.defBody s18, none⟩,
  ⟨⟨2, 6, false, b19⟩, [("self" : Str), ("field" : Str)], [("self" : Str), ("field" : Str), ("by" : Str), ("onto" : Str), ("one" : Str), ("other" : Str)], L2.defScope s19, L2.defBody s19, none⟩,
  ⟨⟨1, 1, false, b20⟩, [("self" : Str)], [("self" : Str)], L2.defScope s20, L2.defBody s20, none⟩,
  ⟨⟨2, 2, false, b21⟩, [("self" : Str), ("bits" : Str)], [("self" : Str), ("bits" : Str)], L2.defScope s21, L2.defBody s21, none⟩,
  ⟨⟨2, 4, false, b22⟩, [("self" : Str), ("bits" : Str)], [("self" : Str), ("bits" : Str), ("struck" : Str), ("point" : Str)], L2.defScope s22, L2.defBody s22, none⟩,
  ⟨⟨2, 2, false, b23⟩, [("self" : Str), ("bits" : Str)], [("self" : Str), ("bits" : Str)], L2.defScope s23, L2.defBody s23, none⟩,
  ⟨⟨2, 2, false, b24⟩, [("self" : Str), ("bits" : Str)], [("self" : Str), ("bits" : Str)], L2.defScope s24, L2.defBody s24, none⟩,
  ⟨⟨2, 2, false, b25⟩, [("self" : Str), ("bits" : Str)], [("self" : Str), ("bits" : Str)], L2.defScope s25, L2.defBody s25, none⟩,
  ⟨⟨1, 2, true, b26⟩, [("lots" : Str)], [("lots" : Str), ("found" : Str)], L2.defScope s26, L2.defBody s26, none⟩,
  ⟨⟨1, 2, false, b27⟩, [("field" : Str)], [("field" : Str), ("bits" : Str)], L2.defScope s27, L2.defBody s27, none⟩,
  ⟨⟨1, 1, false, b28⟩, [("field" : Str)], [("field" : Str)], L2.defScope s28, L2.defBody s28, none⟩,
  ⟨⟨1, 1, false, b29⟩, [("field" : Str)], [("field" : Str)], L2.defScope s29, L2.defBody s29, none⟩,
  ⟨⟨1, 1, false, b30⟩, [("field" : Str)], [("field" : Str)], L2.defScope s30, L2.defBody s30, none⟩,
  ⟨⟨1, 2, false, b31⟩, [("lots" : Str)], [("lots" : Str), ("bits" : Str)], L2.defScope s31, L2.defBody s31, none⟩,
  ⟨⟨1, 2, false, b32⟩, [("lots" : Str)], [("lots" : Str), ("bits" : Str)], L2.defScope s32, L2.defBody s32, none⟩,
  ⟨⟨2, 4, false, b33⟩, [("lots" : Str), ("sort" : Str)], [("lots" : Str), ("sort" : Str), ("found" : Str), ("bits" : Str)], L2.defScope s33, L2.defBody s33, none⟩,
  ⟨⟨1, 2, false, b34⟩, [("lots" : Str)], [("lots" : Str), ("found" : Str)], L2.defScope s34, L2.defBody s34, none⟩,
  ⟨⟨1, 3, false, b35⟩, [("lots" : Str)], [("lots" : Str), ("found" : Str), ("bits" : Str)], L2.defScope s35, L2.defBody s35, none⟩,
  ⟨⟨2, 5, false, b36⟩, [("lots" : Str), ("some" : Str)], [("lots" : Str), ("some" : Str), ("shared" : Str), ("bits" : Str), ("found" : Str)], L2.defScope s36, L2.defBody s36, none⟩,
  ⟨⟨2, 2, false, b37⟩, [("lots" : Str), ("sort" : Str)], [("lots" : Str), ("sort" : Str)], L2.defScope s37, L2.defBody s37, none⟩,
  ⟨⟨2, 4, false, b38⟩, [("field" : Str), ("sort" : Str)], [("field" : Str), ("sort" : Str), ("found" : Str), ("bits" : Str)], L2.defScope s38, L2.defBody s38, some 0⟩,
  ⟨⟨2, 5, false, b39⟩, [("field" : Str), ("sort" : Str)], [("field" : Str), ("sort" : Str), ("found" : Str), ("shared" : Str), ("bits" : Str)], L2.defScope s39, L2.defBody s39, none⟩,
  ⟨⟨3, 4, false, b40⟩, [("value" : Str), ("least" : Str), ("most" : Str)], [("value" : Str), ("least" : Str), ("most" : Str), ("word" : Str)], L2.defScope s40, L2.defBody s40, none⟩,
  ⟨⟨3, 4, false, b41⟩, [("field" : Str), ("lot" : Str), ("point" : Str)], [("field" : Str), ("lot" : Str), ("point" : Str), ("one" : Str)], L2.defScope s41, L2.defBody s41, none⟩,
  ⟨⟨2, 3, false, b42⟩, [("field" : Str), ("lot" : Str)], [("field" : Str), ("lot" : Str), ("point" : Str)], L2.defScope s42, L2.defBody s42, none⟩,
  ⟨⟨3, 6, false, b43⟩, [("field" : Str), ("label" : Str), ("point" : Str)], [("field" : Str), ("label" : Str), ("point" : Str), ("words" : Str), ("one" : Str), ("word" : Str)], L2.defScope s43, L2.defBody s43, none⟩,
  ⟨⟨2, 3, false, b44⟩, [("field" : Str), ("label" : Str)], [("field" : Str), ("label" : Str), ("point" : Str)], L2.defScope s44, L2.defBody s44, none⟩,
  ⟨⟨2, 2, false, b45⟩, [("field" : Str), ("value" : Str)], [("field" : Str), ("value" : Str)], L2.defScope s45, L2.defBody s45, none⟩,
  ⟨⟨2, 2, false, b46⟩, [("field" : Str), ("value" : Str)], [("field" : Str), ("value" : Str)], L2.defScope s46, L2.defBody s46, none⟩,
  ⟨⟨2, 2, false, b47⟩, [("field" : Str), ("lot" : Str)], [("field" : Str), ("lot" : Str)], L2.defScope s47, L2.defBody s47, none⟩,
  ⟨⟨2, 2, false, b48⟩, [("field" : Str), ("lot" : Str)], [("field" : Str), ("lot" : Str)], L2.defScope s48, L2.defBody s48, none⟩,
  ⟨⟨2, 2, false, b49⟩, [("field" : Str), ("lot" : Str)], [("field" : Str), ("lot" : Str)], L2.defScope s49, L2.defBody s49, none⟩,
  ⟨⟨2, 2, false, b50⟩, [("field" : Str), ("lot" : Str)], [("field" : Str), ("lot" : Str)], L2.defScope s50, L2.defBody s50, none⟩,
  ⟨⟨2, 2, false, b51⟩, [("field" : Str), ("lot" : Str)], [("field" : Str), ("lot" : Str)], L2.defScope s51, L2.defBody s51, none⟩,
  ⟨⟨1, 1, false, b52⟩, [("sort" : Str)], [("sort" : Str)], L2.defScope s52, L2.defBody s52, none⟩,
  ⟨⟨2, 2, false, b53⟩, [("field" : Str), ("sort" : Str)], [("field" : Str), ("sort" : Str)], L2.defScope s53, L2.defBody s53, none⟩,
  ⟨⟨2, 2, false, b54⟩, [("field" : Str), ("sort" : Str)], [("field" : Str), ("sort" : Str)], L2.defScope s54, L2.defBody s54, none⟩,
  ⟨⟨3, 3, false, b55⟩, [("field" : Str), ("sort" : Str), ("lot" : Str)], [("field" : Str), ("sort" : Str), ("lot" : Str)], L2.defScope s55, L2.defBody s55, none⟩,
  ⟨⟨2, 2, false, b56⟩, [("field" : Str), ("sort" : Str)], [("field" : Str), ("sort" : Str)], L2.defScope s56, L2.defBody s56, none⟩,
  ⟨⟨2, 5, false, b57⟩, [("script" : Str), ("lap" : Str)], [("script" : Str), ("lap" : Str), ("heap" : Str), ("number" : Str), ("great" : Str)], L2.defScope s57, L2.defBody s57, none⟩,
  ⟨⟨2, 3, false, b58⟩, [("dice" : Str), ("faces" : Str)], [("dice" : Str), ("faces" : Str), ("face" : Str)], L2.defScope s58, L2.defBody s58, none⟩,
  ⟨⟨2, 2, false, b59⟩, [("dice" : Str), ("things" : Str)], [("dice" : Str), ("things" : Str)], L2.defScope s59, L2.defBody s59, none⟩,
  ⟨⟨2, 10, false, b60⟩, [("dice" : Str), ("form" : Str)], [("dice" : Str), ("form" : Str), ("rate" : Str), ("point" : Str), ("one" : Str), ("many" : Str), ("pairs" : Str), ("order" : Str), ("other" : Str), ("so" : Str)], L2.defScope s60, L2.defBody s60, none⟩,
  ⟨⟨2, 4, false, b61⟩, [("field" : Str), ("point" : Str)], [("field" : Str), ("point" : Str), ("one" : Str), ("other" : Str)], L2.defScope s61, L2.defBody s61, none⟩,
  ⟨⟨1, 5, false, b62⟩, [("many" : Str)], [("many" : Str), ("found" : Str), ("point" : Str), ("size" : Str), ("lot" : Str)], L2.defScope s62, L2.defBody s62, none⟩,
  ⟨⟨2, 4, false, b63⟩, [("field" : Str), ("lot" : Str)], [("field" : Str), ("lot" : Str), ("one" : Str), ("other" : Str)], L2.defScope s63, L2.defBody s63, none⟩,
  ⟨⟨2, 5, false, b64⟩, [("field" : Str), ("lot" : Str)], [("field" : Str), ("lot" : Str), ("hit" : Str), ("point" : Str), ("foe" : Str)], L2.defScope s64, L2.defBody s64, none⟩,
  ⟨⟨2, 3, false, b65⟩, [("field" : Str), ("lot" : Str)], [("field" : Str), ("lot" : Str), ("point" : Str)], L2.defScope s65, L2.defBody s65, none⟩,
  ⟨⟨1, 4, false, b66⟩, [("field" : Str)], [("field" : Str), ("found" : Str), ("turn" : Str), ("late" : Str)], L2.defScope s66, L2.defBody s66, none⟩,
  ⟨⟨1, 2, false, b67⟩, [("field" : Str)], [("field" : Str), ("lot" : Str)], L2.defScope s67, L2.defBody s67, none⟩,
  ⟨⟨2, 4, false, b68⟩, [("field" : Str), ("lot" : Str)], [("field" : Str), ("lot" : Str), ("struck" : Str), ("p" : Str)], L2.defScope s68, L2.defBody s68, none⟩,
  ⟨⟨1, 11, false, b69⟩, [("dice" : Str)], [("dice" : Str), ("field" : Str), ("last" : Str), ("at" : Str), ("late" : Str), ("every" : Str), ("lot" : Str), ("label" : Str), ("rise" : Str), ("whole" : Str), ("point" : Str)], L2.defScope s69, L2.defBody s69, none⟩,
  ⟨⟨1, 2, false, b70⟩, [("script" : Str)], [("script" : Str), ("lap" : Str)], L2.defScope s70, L2.defBody s70, none⟩]
def fnA : List (Str × Option Str) := [(("is_whole_plain" : Str), none), (("is_between" : Str), none), (("is_string" : Str), none), (("is_tuple_of" : Str), none), (("is_row" : Str), none), (("is_word_in" : Str), none), (("is_ascending" : Str), none), (("is_pair_of" : Str), none), (("are_pairs_of" : Str), none), (("is_field_by" : Str), none), (("are_numbers_upto" : Str), none), (("is_lot_by" : Str), none), (("against_by" : Str), none), (("bits_of" : Str), none), (("points_in" : Str), none), (("is_within" : Str), none), (("check_field" : Str), none), (("check_lot" : Str), none), (("unions" : Str), none), (("Lots" : Str), some ("__init__" : Str)), (("Lots" : Str), some ("every" : Str)), (("Lots" : Str), some ("is_quiet" : Str)), (("Lots" : Str), some ("defended" : Str)), (("Lots" : Str), some ("is_held" : Str)), (("Lots" : Str), some ("is_whole" : Str)), (("Lots" : Str), some ("reached" : Str)), (("step_bits" : Str), none), (("steps_by" : Str), none), (("ground_by" : Str), none), (("ground" : Str), none), (("steps" : Str), none), (("held_bits" : Str), none), (("whole_bits" : Str), none), (("quiet_sorts" : Str), none), (("most_bits" : Str), none), (("wide_bits" : Str), none), (("inner_bits" : Str), none), (("bits_by" : Str), none), (("lots_by" : Str), none), (("all_within" : Str), none), (("are_words" : Str), none), (("word_by" : Str), none), (("label_by" : Str), none), (("is_right_at" : Str), none), (("faults_by" : Str), none), (("is_right_by" : Str), none), (("is_right_label" : Str), none), (("label_of" : Str), none), (("lots_beside" : Str), none), (("struck_by" : Str), none), (("defended_by" : Str), none), (("is_whole_lots" : Str), none), (("check_sort" : Str), none), (("check_sorted" : Str), none), (("lots_of" : Str), none), (("is_of" : Str), none), (("within_all" : Str), none), (("_law_dice" : Str), none), (("_law_pick" : Str), none), (("_law_any" : Str), none), (("_law_field" : Str), none), (("_law_foes" : Str), none), (("_law_every" : Str), none), (("_law_struck" : Str), none), (("_law_safe" : Str), none), (("_law_quiet" : Str), none), (("_law_rise" : Str), none), (("_law_whole" : Str), none), (("_law_label" : Str), none), (("_law_right" : Str), none), (("law" : Str), none)]
def clA : List Str := [("Lots" : Str)]
def d0 : He.DefD := ⟨(("is_whole_plain" : Str), none), ("is_whole" : Str), ("is_whole" : Str), L2.defArgs s0, L2.defBody s0, L2.defScope s0, [], []⟩
def d1 : He.DefD := ⟨(("is_between" : Str), none), ("is_between" : Str), ("is_between" : Str), L2.defArgs s1, L2.defBody s1, L2.defScope s1, [], []⟩
def d2 : He.DefD := ⟨(("is_string" : Str), none), ("is_string" : Str), ("is_string" : Str), L2.defArgs s2, L2.defBody s2, L2.defScope s2, [], []⟩
def d3 : He.DefD := ⟨(("is_tuple_of" : Str), none), ("is_tuple_of" : Str), ("is_tuple_of" : Str), L2.defArgs s3, L2.defBody s3, L2.defScope s3, [], []⟩
def d4 : He.DefD := ⟨(("is_row" : Str), none), ("is_row" : Str), ("is_row" : Str), L2.defArgs s4, L2.defBody s4, L2.defScope s4, [], []⟩
def d5 : He.DefD := ⟨(("is_word_in" : Str), none), ("is_word_in" : Str), ("is_word_in" : Str), L2.defArgs s5, L2.defBody s5, L2.defScope s5, [], []⟩
def d6 : He.DefD := ⟨(("is_ascending" : Str), none), ("is_ascending" : Str), ("is_ascending" : Str), L2.defArgs s6, L2.defBody s6, L2.defScope s6, [], []⟩
def d7 : He.DefD := ⟨(("is_pair_of" : Str), none), ("is_pair_of" : Str), ("is_pair_of" : Str), L2.defArgs s7, L2.defBody s7, L2.defScope s7, [], []⟩
def d8 : He.DefD := ⟨(("are_pairs_of" : Str), none), ("are_pairs_of" : Str), ("are_pairs_of" : Str), L2.defArgs s8, L2.defBody s8, L2.defScope s8, [], []⟩
def d9 : He.DefD := ⟨(("is_field_by" : Str), none), ("is_field_by" : Str), ("is_field_by" : Str), L2.defArgs s9, L2.defBody s9, L2.defScope s9, [], []⟩
def d10 : He.DefD := ⟨(("are_numbers_upto" : Str), none), ("are_numbers_upto" : Str), ("are_numbers_upto" : Str), L2.defArgs s10, L2.defBody s10, L2.defScope s10, [], []⟩
def d11 : He.DefD := ⟨(("is_lot_by" : Str), none), ("is_lot_by" : Str), ("is_lot_by" : Str), L2.defArgs s11, L2.defBody s11, L2.defScope s11, [], []⟩
def d12 : He.DefD := ⟨(("against_by" : Str), none), ("against_by" : Str), ("against_by" : Str), L2.defArgs s12, L2.defBody s12, L2.defScope s12, [], []⟩
def d13 : He.DefD := ⟨(("bits_of" : Str), none), ("bits_of" : Str), ("bits_of" : Str), L2.defArgs s13, L2.defBody s13, L2.defScope s13, [], []⟩
def d14 : He.DefD := ⟨(("points_in" : Str), none), ("points_in" : Str), ("points_in" : Str), L2.defArgs s14, L2.defBody s14, L2.defScope s14, [], []⟩
def d15 : He.DefD := ⟨(("is_within" : Str), none), ("is_within" : Str), ("is_within" : Str), L2.defArgs s15, L2.defBody s15, L2.defScope s15, [], []⟩
def d16 : He.DefD := ⟨(("check_field" : Str), none), ("check_field" : Str), ("check_field" : Str), L2.defArgs s16, L2.defBody s16, L2.defScope s16, [], []⟩
def d17 : He.DefD := ⟨(("check_lot" : Str), none), ("check_lot" : Str), ("check_lot" : Str), L2.defArgs s17, L2.defBody s17, L2.defScope s17, [], []⟩
def d18 : He.DefD := ⟨(("unions" : Str), none), ("unions" : Str), ("unions" : Str), L2.defArgs s18, L2.defBody s18, L2.defScope s18, [], []⟩
def d19 : He.DefD := ⟨(("Lots" : Str), some ("__init__" : Str)), ("__init__" : Str), ("Lots.__init__" : Str), L2.defArgs s19, L2.defBody s19, L2.defScope s19, [], []⟩
def d20 : He.DefD := ⟨(("Lots" : Str), some ("every" : Str)), ("every" : Str), ("Lots.every" : Str), L2.defArgs s20, L2.defBody s20, L2.defScope s20, [], []⟩
def d21 : He.DefD := ⟨(("Lots" : Str), some ("is_quiet" : Str)), ("is_quiet" : Str), ("Lots.is_quiet" : Str), L2.defArgs s21, L2.defBody s21, L2.defScope s21, [], []⟩
def d22 : He.DefD := ⟨(("Lots" : Str), some ("defended" : Str)), ("defended" : Str), ("Lots.defended" : Str), L2.defArgs s22, L2.defBody s22, L2.defScope s22, [], []⟩
def d23 : He.DefD := ⟨(("Lots" : Str), some ("is_held" : Str)), ("is_held" : Str), ("Lots.is_held" : Str), L2.defArgs s23, L2.defBody s23, L2.defScope s23, [], []⟩
def d24 : He.DefD := ⟨(("Lots" : Str), some ("is_whole" : Str)), ("is_whole" : Str), ("Lots.is_whole" : Str), L2.defArgs s24, L2.defBody s24, L2.defScope s24, [], []⟩
def d25 : He.DefD := ⟨(("Lots" : Str), some ("reached" : Str)), ("reached" : Str), ("Lots.reached" : Str), L2.defArgs s25, L2.defBody s25, L2.defScope s25, [], []⟩
def d26 : He.DefD := ⟨(("step_bits" : Str), none), ("step_bits" : Str), ("step_bits" : Str), L2.defArgs s26, L2.defBody s26, L2.defScope s26, [], []⟩
def d27 : He.DefD := ⟨(("steps_by" : Str), none), ("steps_by" : Str), ("steps_by" : Str), L2.defArgs s27, L2.defBody s27, L2.defScope s27, [], []⟩
def d28 : He.DefD := ⟨(("ground_by" : Str), none), ("ground_by" : Str), ("ground_by" : Str), L2.defArgs s28, L2.defBody s28, L2.defScope s28, [], []⟩
def d29 : He.DefD := ⟨(("ground" : Str), none), ("ground" : Str), ("ground" : Str), L2.defArgs s29, L2.defBody s29, L2.defScope s29, [], []⟩
def d30 : He.DefD := ⟨(("steps" : Str), none), ("steps" : Str), ("steps" : Str), L2.defArgs s30, L2.defBody s30, L2.defScope s30, [], []⟩
def d31 : He.DefD := ⟨(("held_bits" : Str), none), ("held_bits" : Str), ("held_bits" : Str), L2.defArgs s31, L2.defBody s31, L2.defScope s31, [], []⟩
def d32 : He.DefD := ⟨(("whole_bits" : Str), none), ("whole_bits" : Str), ("whole_bits" : Str), L2.defArgs s32, L2.defBody s32, L2.defScope s32, [], []⟩
def d33 : He.DefD := ⟨(("quiet_sorts" : Str), none), ("quiet_sorts" : Str), ("quiet_sorts" : Str), L2.defArgs s33, L2.defBody s33, L2.defScope s33, [], []⟩
def d34 : He.DefD := ⟨(("most_bits" : Str), none), ("most_bits" : Str), ("most_bits" : Str), L2.defArgs s34, L2.defBody s34, L2.defScope s34, [], []⟩
def d35 : He.DefD := ⟨(("wide_bits" : Str), none), ("wide_bits" : Str), ("wide_bits" : Str), L2.defArgs s35, L2.defBody s35, L2.defScope s35, [], []⟩
def d36 : He.DefD := ⟨(("inner_bits" : Str), none), ("inner_bits" : Str), ("inner_bits" : Str), L2.defArgs s36, L2.defBody s36, L2.defScope s36, [], []⟩
def d37 : He.DefD := ⟨(("bits_by" : Str), none), ("bits_by" : Str), ("bits_by" : Str), L2.defArgs s37, L2.defBody s37, L2.defScope s37, [], []⟩
def d38 : He.DefD := ⟨(("lots_by" : Str), none), ("lots_by" : Str), ("lots_by" : Str), L2.defArgs s38, L2.defBody s38, L2.defScope s38, [], []⟩
def d39 : He.DefD := ⟨(("all_within" : Str), none), ("all_within" : Str), ("all_within" : Str), L2.defArgs s39, L2.defBody s39, L2.defScope s39, [], []⟩
def d40 : He.DefD := ⟨(("are_words" : Str), none), ("are_words" : Str), ("are_words" : Str), L2.defArgs s40, L2.defBody s40, L2.defScope s40, [], []⟩
def d41 : He.DefD := ⟨(("word_by" : Str), none), ("word_by" : Str), ("word_by" : Str), L2.defArgs s41, L2.defBody s41, L2.defScope s41, [], []⟩
def d42 : He.DefD := ⟨(("label_by" : Str), none), ("label_by" : Str), ("label_by" : Str), L2.defArgs s42, L2.defBody s42, L2.defScope s42, [], []⟩
def d43 : He.DefD := ⟨(("is_right_at" : Str), none), ("is_right_at" : Str), ("is_right_at" : Str), L2.defArgs s43, L2.defBody s43, L2.defScope s43, [], []⟩
def d44 : He.DefD := ⟨(("faults_by" : Str), none), ("faults_by" : Str), ("faults_by" : Str), L2.defArgs s44, L2.defBody s44, L2.defScope s44, [], []⟩
def d45 : He.DefD := ⟨(("is_right_by" : Str), none), ("is_right_by" : Str), ("is_right_by" : Str), L2.defArgs s45, L2.defBody s45, L2.defScope s45, [], []⟩
def d46 : He.DefD := ⟨(("is_right_label" : Str), none), ("is_right_label" : Str), ("is_right_label" : Str), L2.defArgs s46, L2.defBody s46, L2.defScope s46, [], []⟩
def d47 : He.DefD := ⟨(("label_of" : Str), none), ("label_of" : Str), ("label_of" : Str), L2.defArgs s47, L2.defBody s47, L2.defScope s47, [], []⟩
def d48 : He.DefD := ⟨(("lots_beside" : Str), none), ("lots_beside" : Str), ("lots_beside" : Str), L2.defArgs s48, L2.defBody s48, L2.defScope s48, [], []⟩
def d49 : He.DefD := ⟨(("struck_by" : Str), none), ("struck_by" : Str), ("struck_by" : Str), L2.defArgs s49, L2.defBody s49, L2.defScope s49, [], []⟩
def d50 : He.DefD := ⟨(("defended_by" : Str), none), ("defended_by" : Str), ("defended_by" : Str), L2.defArgs s50, L2.defBody s50, L2.defScope s50, [], []⟩
def d51 : He.DefD := ⟨(("is_whole_lots" : Str), none), ("is_whole" : Str), ("is_whole" : Str), L2.defArgs s51, L2.defBody s51, L2.defScope s51, [], []⟩
def d52 : He.DefD := ⟨(("check_sort" : Str), none), ("check_sort" : Str), ("check_sort" : Str), L2.defArgs s52, L2.defBody s52, L2.defScope s52, [], []⟩
def d53 : He.DefD := ⟨(("check_sorted" : Str), none), ("check_sorted" : Str), ("check_sorted" : Str), L2.defArgs s53, L2.defBody s53, L2.defScope s53, [], []⟩
def d54 : He.DefD := ⟨(("lots_of" : Str), none), ("lots_of" : Str), ("lots_of" : Str), L2.defArgs s54, L2.defBody s54, L2.defScope s54, [], []⟩
def d55 : He.DefD := ⟨(("is_of" : Str), none), ("is_of" : Str), ("is_of" : Str), L2.defArgs s55, L2.defBody s55, L2.defScope s55, [], []⟩
def d56 : He.DefD := ⟨(("within_all" : Str), none), ("within_all" : Str), ("within_all" : Str), L2.defArgs s56, L2.defBody s56, L2.defScope s56, [], []⟩
def d57 : He.DefD := ⟨(("_law_dice" : Str), none), ("_law_dice" : Str), ("_law_dice" : Str), L2.defArgs s57, L2.defBody s57, L2.defScope s57, [], []⟩
def d58 : He.DefD := ⟨(("_law_pick" : Str), none), ("_law_pick" : Str), ("_law_pick" : Str), L2.defArgs s58, L2.defBody s58, L2.defScope s58, [], []⟩
def d59 : He.DefD := ⟨(("_law_any" : Str), none), ("_law_any" : Str), ("_law_any" : Str), L2.defArgs s59, L2.defBody s59, L2.defScope s59, [], []⟩
def d60 : He.DefD := ⟨(("_law_field" : Str), none), ("_law_field" : Str), ("_law_field" : Str), L2.defArgs s60, L2.defBody s60, L2.defScope s60, [], []⟩
def d61 : He.DefD := ⟨(("_law_foes" : Str), none), ("_law_foes" : Str), ("_law_foes" : Str), L2.defArgs s61, L2.defBody s61, L2.defScope s61, [], []⟩
def d62 : He.DefD := ⟨(("_law_every" : Str), none), ("_law_every" : Str), ("_law_every" : Str), L2.defArgs s62, L2.defBody s62, L2.defScope s62, [], []⟩
def d63 : He.DefD := ⟨(("_law_struck" : Str), none), ("_law_struck" : Str), ("_law_struck" : Str), L2.defArgs s63, L2.defBody s63, L2.defScope s63, [], []⟩
def d64 : He.DefD := ⟨(("_law_safe" : Str), none), ("_law_safe" : Str), ("_law_safe" : Str), L2.defArgs s64, L2.defBody s64, L2.defScope s64, [], []⟩
def d65 : He.DefD := ⟨(("_law_quiet" : Str), none), ("_law_quiet" : Str), ("_law_quiet" : Str), L2.defArgs s65, L2.defBody s65, L2.defScope s65, [], []⟩
def d66 : He.DefD := ⟨(("_law_rise" : Str), none), ("_law_rise" : Str), ("_law_rise" : Str), L2.defArgs s66, L2.defBody s66, L2.defScope s66, [], []⟩
def d67 : He.DefD := ⟨(("_law_whole" : Str), none), ("_law_whole" : Str), ("_law_whole" : Str), L2.defArgs s67, L2.defBody s67, L2.defScope s67, [], []⟩
def d68 : He.DefD := ⟨(("_law_label" : Str), none), ("_law_label" : Str), ("_law_label" : Str), L2.defArgs s68, L2.defBody s68, L2.defScope s68, [], []⟩
def d69 : He.DefD := ⟨(("_law_right" : Str), none), ("_law_right" : Str), ("_law_right" : Str), L2.defArgs s69, L2.defBody s69, L2.defScope s69, [], []⟩
def d70 : He.DefD := ⟨(("law" : Str), none), ("law" : Str), ("law" : Str), L2.defArgs s70, L2.defBody s70, L2.defScope s70, [], []⟩
def fn : List He.DefD := [d0, d1, d2, d3, d4, d5, d6, d7, d8, d9, d10, d11, d12, d13, d14, d15, d16, d17, d18, d19, d20, d21, d22, d23, d24, d25, d26, d27, d28, d29, d30, d31, d32, d33, d34, d35, d36, d37, d38, d39, d40, d41, d42, d43, d44, d45, d46, d47, d48, d49, d50, d51, d52, d53, d54, d55, d56, d57, d58, d59, d60, d61, d62, d63, d64, d65, d66, d67, d68, d69, d70]
def tcs : List (Str × List He.Dv) := [(("LABEL_WORDS" : Str), [(.str ("in" : Str)), (.str ("out" : Str)), (.str ("open" : Str))]), (("SORTS" : Str), [(.str ("quiet" : Str)), (.str ("held" : Str)), (.str ("whole" : Str)), (.str ("ground" : Str)), (.str ("loose" : Str)), (.str ("most" : Str)), (.str ("stable" : Str)), (.str ("wide" : Str)), (.str ("stage" : Str)), (.str ("ideal" : Str)), (.str ("eager" : Str))])]
def lam : List Str := [("lots_by" : Str)]
def tqL : List Str := [((("lots_by" : Str) ++ ".<locals>.") ++ "<lambda>")]
def fa : List He.Fa := [.glo ("_law_any" : Str), .glo ("_law_dice" : Str), .glo ("_law_every" : Str), .glo ("_law_field" : Str), .glo ("_law_foes" : Str), .glo ("_law_label" : Str), .glo ("_law_pick" : Str), .glo ("_law_quiet" : Str), .glo ("_law_right" : Str), .glo ("_law_rise" : Str), .glo ("_law_safe" : Str), .glo ("_law_struck" : Str), .glo ("_law_whole" : Str), .glo ("against_by" : Str), .glo ("all_within" : Str), .glo ("are_numbers_upto" : Str), .glo ("are_pairs_of" : Str), .glo ("are_words" : Str), .glo ("bits_by" : Str), .glo ("bits_of" : Str), .glo ("check_field" : Str), .glo ("check_lot" : Str), .glo ("check_sort" : Str), .glo ("check_sorted" : Str), .glo ("defended_by" : Str), .glo ("faults_by" : Str), .glo ("ground" : Str), .glo ("ground_by" : Str), .glo ("held_bits" : Str), .glo ("inner_bits" : Str), .glo ("is_ascending" : Str), .glo ("is_between" : Str), .glo ("is_field_by" : Str), .glo ("is_lot_by" : Str), .glo ("is_of" : Str), .glo ("is_pair_of" : Str), .glo ("is_right_at" : Str), .glo ("is_right_by" : Str), .glo ("is_right_label" : Str), .glo ("is_row" : Str), .glo ("is_string" : Str), .glo ("is_tuple_of" : Str), .glo ("is_whole_lots" : Str), .glo ("is_whole_plain" : Str), .glo ("is_within" : Str), .glo ("is_word_in" : Str), .glo ("label_by" : Str), .glo ("label_of" : Str), .glo ("law" : Str), .glo ("lots_beside" : Str), .glo ("lots_by" : Str), .glo ("lots_of" : Str), .glo ("most_bits" : Str), .glo ("points_in" : Str), .glo ("quiet_sorts" : Str), .glo ("step_bits" : Str), .glo ("steps" : Str), .glo ("steps_by" : Str), .glo ("struck_by" : Str), .glo ("unions" : Str), .glo ("whole_bits" : Str), .glo ("wide_bits" : Str), .glo ("within_all" : Str), .glo ("word_by" : Str), .glo ("Lots" : Str), .free ("abs" : Str), .free ("all" : Str), .free ("any" : Str), .free ("bool" : Str), .free ("divmod" : Str), .free ("int" : Str), .free ("isinstance" : Str), .free ("len" : Str), .free ("list" : Str), .free ("range" : Str), .free ("repr" : Str), .free ("set" : Str), .free ("sorted" : Str), .free ("str" : Str), .free ("sum" : Str), .free ("tuple" : Str), .free ("zip" : Str), .str ("GROUND" : Str) ("ground" : Str), .str ("HELD" : Str) ("held" : Str), .str ("IDEAL" : Str) ("ideal" : Str), .str ("IN" : Str) ("in" : Str), .str ("LOOSE" : Str) ("loose" : Str), .str ("MOST" : Str) ("most" : Str), .int ("MOST_POINTS" : Str) 8, .str ("OPEN" : Str) ("open" : Str), .str ("OUT" : Str) ("out" : Str), .str ("QUIET" : Str) ("quiet" : Str), .str ("STABLE" : Str) ("stable" : Str), .str ("STAGE" : Str) ("stage" : Str), .str ("WHOLE" : Str) ("whole" : Str), .str ("WIDE" : Str) ("wide" : Str), .cls ("Lots" : Str), .mkr ("Lots" : Str), .meth ("Lots" : Str) ("every" : Str), .meth ("Lots" : Str) ("is_quiet" : Str), .meth ("Lots" : Str) ("defended" : Str), .meth ("Lots" : Str) ("is_held" : Str), .meth ("Lots" : Str) ("is_whole" : Str), .meth ("Lots" : Str) ("reached" : Str), .noat ("Lots" : Str) ("many" : Str), .noat ("Lots" : Str) ("by" : Str), .noat ("Lots" : Str) ("onto" : Str), .noat ("Lots" : Str) ("struck" : Str), .noat ("Lots" : Str) ("needed" : Str)]
def lawF : Nat := 70

abbrev hk : PySem.W.Hook := MP.hookT 4 fa fn lam tcs
def ob (s : PySem.W.SharedT) : MP.AlT := MP.obsT 4 fa fn lam tcs (HandSHeadRun.getT s)
theorem ob_eq (s : PySem.W.SharedT) : ob s = hk.obs s.abs := MP.obsT_eq (HandSHeadRun.getT_eq s)
def lay (K : Fg) (ps : List Addr) : Lay := ⟨K, fun c => He.ga K (clA.getD c ""), nms, fun f => He.fAd K (fnA.getD f ("", none)), [], fun t => ps.getD t 0, fun t => tqL.getD t ""⟩
def loose0 : List Str := [("is_whole" : Str), ("is_whole_plain" : Str), ("is_between" : Str), ("is_string" : Str), ("is_tuple_of" : Str), ("is_row" : Str), ("is_word_in" : Str), ("is_ascending" : Str), ("FieldError" : Str), ("InvalidField" : Str), ("InvalidWord" : Str), ("InvalidLot" : Str), ("MOST_POINTS" : Str), ("is_pair_of" : Str), ("are_pairs_of" : Str), ("is_field_by" : Str), ("are_numbers_upto" : Str), ("is_lot_by" : Str), ("against_by" : Str), ("bits_of" : Str), ("points_in" : Str), ("is_within" : Str), ("check_field" : Str), ("check_lot" : Str), ("unions" : Str), ("Lots" : Str), ("step_bits" : Str), ("steps_by" : Str), ("ground_by" : Str), ("ground" : Str), ("steps" : Str), ("QUIET" : Str), ("HELD" : Str), ("WHOLE" : Str), ("GROUND" : Str)]
def loose1 : List Str := [("LOOSE" : Str), ("MOST" : Str), ("STABLE" : Str), ("WIDE" : Str), ("STAGE" : Str), ("IDEAL" : Str), ("EAGER" : Str), ("SORTS" : Str), ("tops_of" : Str), ("greatest_by" : Str), ("quiet_bits" : Str), ("held_bits" : Str), ("whole_bits" : Str), ("quiet_sorts" : Str), ("most_bits" : Str), ("wide_bits" : Str), ("inner_bits" : Str), ("bits_by" : Str), ("all_within" : Str), ("IN" : Str), ("OUT" : Str), ("OPEN" : Str), ("LABEL_WORDS" : Str), ("are_words" : Str), ("word_by" : Str), ("label_by" : Str), ("is_right_at" : Str), ("faults_by" : Str), ("is_right_by" : Str), ("is_right_label" : Str), ("label_of" : Str), ("lots_beside" : Str), ("struck_by" : Str), ("defended_by" : Str), ("is_whole_lots" : Str)]
def loose2 : List Str := [("check_sort" : Str), ("check_sorted" : Str), ("lots_of" : Str), ("is_of" : Str), ("within_all" : Str), ("_law_dice" : Str), ("_law_pick" : Str), ("_law_any" : Str), ("_law_field" : Str), ("_law_foes" : Str), ("_law_every" : Str), ("_law_struck" : Str), ("_law_safe" : Str), ("_law_quiet" : Str), ("_law_rise" : Str), ("_law_whole" : Str), ("_law_label" : Str), ("_law_right" : Str)]
def loose : List Str := loose0 ++ loose1 ++ loose2
theorem run (w : World) : HandSHeadRun.RunEq R (PySem.W.view R.prog [61, 103]) hk ob 6000 loose w := by
  intro os
  kernel_rfl
theorem chk_all : fds.all (FD.ok T) = true := by kernel_rfl
section
variable {K : Fg} {h h0 : Heap} {mg : Str → Option Value} {cs : List (Addr × Addr)}
theorem x0 {w : World} {base : Heap} (c : He.SaysD fa fn K) : FdX ⟨R.prog, w, K, mg, base⟩ (lay K (cs.map (·.2))) T 0 (fds.getD 0 ⟨⟨0, 0, false, .nil⟩, [], [], ⟨.function, [], false, false, []⟩, [], none⟩) := by
  obtain ⟨fd, F⟩ := c.def_ 0 (d := d0) rfl
  exact ⟨_, _, _, fd, F, FunD.bindsN F (fun _ _ _ _ _ _ us hl => match us, hl with | [_], _ => rfl), (fun q hq e => by
      simp only [T, List.mem_cons, List.not_mem_nil, or_false] at hq
      rcases hq with rfl | rfl | rfl | rfl | rfl <;> exact absurd e (by decide)), tab_no rfl⟩
theorem x1 {w : World} {base : Heap} (c : He.SaysD fa fn K) : FdX ⟨R.prog, w, K, mg, base⟩ (lay K (cs.map (·.2))) T 1 (fds.getD 1 ⟨⟨0, 0, false, .nil⟩, [], [], ⟨.function, [], false, false, []⟩, [], none⟩) := by
  obtain ⟨fd, F⟩ := c.def_ 1 (d := d1) rfl
  exact ⟨_, _, _, fd, F, FunD.bindsN F (fun _ _ _ _ _ _ us hl => match us, hl with | [_, _, _], _ => rfl), (fun q hq e => by
      simp only [T, List.mem_cons, List.not_mem_nil, or_false] at hq
      rcases hq with rfl | rfl | rfl | rfl | rfl <;> exact absurd e (by decide)), tab_no rfl⟩
theorem x2 {w : World} {base : Heap} (c : He.SaysD fa fn K) : FdX ⟨R.prog, w, K, mg, base⟩ (lay K (cs.map (·.2))) T 2 (fds.getD 2 ⟨⟨0, 0, false, .nil⟩, [], [], ⟨.function, [], false, false, []⟩, [], none⟩) := by
  obtain ⟨fd, F⟩ := c.def_ 2 (d := d2) rfl
  exact ⟨_, _, _, fd, F, FunD.bindsN F (fun _ _ _ _ _ _ us hl => match us, hl with | [_], _ => rfl), (fun q hq e => by
      simp only [T, List.mem_cons, List.not_mem_nil, or_false] at hq
      rcases hq with rfl | rfl | rfl | rfl | rfl <;> exact absurd e (by decide)), tab_no rfl⟩
theorem x3 {w : World} {base : Heap} (c : He.SaysD fa fn K) : FdX ⟨R.prog, w, K, mg, base⟩ (lay K (cs.map (·.2))) T 3 (fds.getD 3 ⟨⟨0, 0, false, .nil⟩, [], [], ⟨.function, [], false, false, []⟩, [], none⟩) := by
  obtain ⟨fd, F⟩ := c.def_ 3 (d := d3) rfl
  exact ⟨_, _, _, fd, F, FunD.bindsN F (fun _ _ _ _ _ _ us hl => match us, hl with | [_, _], _ => rfl), (fun q hq e => by
      simp only [T, List.mem_cons, List.not_mem_nil, or_false] at hq
      rcases hq with rfl | rfl | rfl | rfl | rfl <;> exact absurd e (by decide)), tab_no rfl⟩
theorem x4 {w : World} {base : Heap} (c : He.SaysD fa fn K) : FdX ⟨R.prog, w, K, mg, base⟩ (lay K (cs.map (·.2))) T 4 (fds.getD 4 ⟨⟨0, 0, false, .nil⟩, [], [], ⟨.function, [], false, false, []⟩, [], none⟩) := by
  obtain ⟨fd, F⟩ := c.def_ 4 (d := d4) rfl
  exact ⟨_, _, _, fd, F, FunD.bindsN F (fun _ _ _ _ _ _ us hl => match us, hl with | [_, _, _], _ => rfl), (fun q hq e => by
      simp only [T, List.mem_cons, List.not_mem_nil, or_false] at hq
      rcases hq with rfl | rfl | rfl | rfl | rfl <;> exact absurd e (by decide)), tab_no rfl⟩
theorem x5 {w : World} {base : Heap} (c : He.SaysD fa fn K) : FdX ⟨R.prog, w, K, mg, base⟩ (lay K (cs.map (·.2))) T 5 (fds.getD 5 ⟨⟨0, 0, false, .nil⟩, [], [], ⟨.function, [], false, false, []⟩, [], none⟩) := by
  obtain ⟨fd, F⟩ := c.def_ 5 (d := d5) rfl
  exact ⟨_, _, _, fd, F, FunD.bindsN F (fun _ _ _ _ _ _ us hl => match us, hl with | [_, _], _ => rfl), (fun q hq e => by
      simp only [T, List.mem_cons, List.not_mem_nil, or_false] at hq
      rcases hq with rfl | rfl | rfl | rfl | rfl <;> exact absurd e (by decide)), tab_no rfl⟩
theorem x6 {w : World} {base : Heap} (c : He.SaysD fa fn K) : FdX ⟨R.prog, w, K, mg, base⟩ (lay K (cs.map (·.2))) T 6 (fds.getD 6 ⟨⟨0, 0, false, .nil⟩, [], [], ⟨.function, [], false, false, []⟩, [], none⟩) := by
  obtain ⟨fd, F⟩ := c.def_ 6 (d := d6) rfl
  exact ⟨_, _, _, fd, F, FunD.bindsN F (fun _ _ _ _ _ _ us hl => match us, hl with | [_], _ => rfl), (fun q hq e => by
      simp only [T, List.mem_cons, List.not_mem_nil, or_false] at hq
      rcases hq with rfl | rfl | rfl | rfl | rfl <;> exact absurd e (by decide)), tab_no rfl⟩
theorem x7 {w : World} {base : Heap} (c : He.SaysD fa fn K) : FdX ⟨R.prog, w, K, mg, base⟩ (lay K (cs.map (·.2))) T 7 (fds.getD 7 ⟨⟨0, 0, false, .nil⟩, [], [], ⟨.function, [], false, false, []⟩, [], none⟩) := by
  obtain ⟨fd, F⟩ := c.def_ 7 (d := d7) rfl
  exact ⟨_, _, _, fd, F, FunD.bindsN F (fun _ _ _ _ _ _ us hl => match us, hl with | [_, _], _ => rfl), (fun q hq e => by
      simp only [T, List.mem_cons, List.not_mem_nil, or_false] at hq
      rcases hq with rfl | rfl | rfl | rfl | rfl <;> exact absurd e (by decide)), tab_no rfl⟩
theorem x8 {w : World} {base : Heap} (c : He.SaysD fa fn K) : FdX ⟨R.prog, w, K, mg, base⟩ (lay K (cs.map (·.2))) T 8 (fds.getD 8 ⟨⟨0, 0, false, .nil⟩, [], [], ⟨.function, [], false, false, []⟩, [], none⟩) := by
  obtain ⟨fd, F⟩ := c.def_ 8 (d := d8) rfl
  exact ⟨_, _, _, fd, F, FunD.bindsN F (fun _ _ _ _ _ _ us hl => match us, hl with | [_, _], _ => rfl), (fun q hq e => by
      simp only [T, List.mem_cons, List.not_mem_nil, or_false] at hq
      rcases hq with rfl | rfl | rfl | rfl | rfl <;> exact absurd e (by decide)), tab_no rfl⟩
theorem x9 {w : World} {base : Heap} (c : He.SaysD fa fn K) : FdX ⟨R.prog, w, K, mg, base⟩ (lay K (cs.map (·.2))) T 9 (fds.getD 9 ⟨⟨0, 0, false, .nil⟩, [], [], ⟨.function, [], false, false, []⟩, [], none⟩) := by
  obtain ⟨fd, F⟩ := c.def_ 9 (d := d9) rfl
  exact ⟨_, _, _, fd, F, FunD.bindsN F (fun _ _ _ _ _ _ us hl => match us, hl with | [_], _ => rfl), (fun q hq e => by
      simp only [T, List.mem_cons, List.not_mem_nil, or_false] at hq
      rcases hq with rfl | rfl | rfl | rfl | rfl <;> exact absurd e (by decide)), tab_no rfl⟩
theorem x10 {w : World} {base : Heap} (c : He.SaysD fa fn K) : FdX ⟨R.prog, w, K, mg, base⟩ (lay K (cs.map (·.2))) T 10 (fds.getD 10 ⟨⟨0, 0, false, .nil⟩, [], [], ⟨.function, [], false, false, []⟩, [], none⟩) := by
  obtain ⟨fd, F⟩ := c.def_ 10 (d := d10) rfl
  exact ⟨_, _, _, fd, F, FunD.bindsN F (fun _ _ _ _ _ _ us hl => match us, hl with | [_, _], _ => rfl), (fun q hq e => by
      simp only [T, List.mem_cons, List.not_mem_nil, or_false] at hq
      rcases hq with rfl | rfl | rfl | rfl | rfl <;> exact absurd e (by decide)), tab_no rfl⟩
theorem x11 {w : World} {base : Heap} (c : He.SaysD fa fn K) : FdX ⟨R.prog, w, K, mg, base⟩ (lay K (cs.map (·.2))) T 11 (fds.getD 11 ⟨⟨0, 0, false, .nil⟩, [], [], ⟨.function, [], false, false, []⟩, [], none⟩) := by
  obtain ⟨fd, F⟩ := c.def_ 11 (d := d11) rfl
  exact ⟨_, _, _, fd, F, FunD.bindsN F (fun _ _ _ _ _ _ us hl => match us, hl with | [_, _], _ => rfl), (fun q hq e => by
      simp only [T, List.mem_cons, List.not_mem_nil, or_false] at hq
      rcases hq with rfl | rfl | rfl | rfl | rfl <;> exact absurd e (by decide)), tab_no rfl⟩
theorem x12 {w : World} {base : Heap} (c : He.SaysD fa fn K) : FdX ⟨R.prog, w, K, mg, base⟩ (lay K (cs.map (·.2))) T 12 (fds.getD 12 ⟨⟨0, 0, false, .nil⟩, [], [], ⟨.function, [], false, false, []⟩, [], none⟩) := by
  obtain ⟨fd, F⟩ := c.def_ 12 (d := d12) rfl
  exact ⟨_, _, _, fd, F, FunD.bindsN F (fun _ _ _ _ _ _ us hl => match us, hl with | [_, _], _ => rfl), (fun q hq e => by
      simp only [T, List.mem_cons, List.not_mem_nil, or_false] at hq
      rcases hq with rfl | rfl | rfl | rfl | rfl <;> exact absurd e (by decide)), tab_no rfl⟩
theorem x13 {w : World} {base : Heap} (c : He.SaysD fa fn K) : FdX ⟨R.prog, w, K, mg, base⟩ (lay K (cs.map (·.2))) T 13 (fds.getD 13 ⟨⟨0, 0, false, .nil⟩, [], [], ⟨.function, [], false, false, []⟩, [], none⟩) := by
  obtain ⟨fd, F⟩ := c.def_ 13 (d := d13) rfl
  exact ⟨_, _, _, fd, F, FunD.bindsN F (fun _ _ _ _ _ _ us hl => match us, hl with | [_], _ => rfl), (fun q hq e => by
      simp only [T, List.mem_cons, List.not_mem_nil, or_false] at hq
      rcases hq with rfl | rfl | rfl | rfl | rfl <;> exact absurd e (by decide)), tab_no rfl⟩
theorem x14 {w : World} {base : Heap} (c : He.SaysD fa fn K) : FdX ⟨R.prog, w, K, mg, base⟩ (lay K (cs.map (·.2))) T 14 (fds.getD 14 ⟨⟨0, 0, false, .nil⟩, [], [], ⟨.function, [], false, false, []⟩, [], none⟩) := by
  obtain ⟨fd, F⟩ := c.def_ 14 (d := d14) rfl
  exact ⟨_, _, _, fd, F, FunD.bindsN F (fun _ _ _ _ _ _ us hl => match us, hl with | [_], _ => rfl), (fun q hq e => by
      simp only [T, List.mem_cons, List.not_mem_nil, or_false] at hq
      rcases hq with rfl | rfl | rfl | rfl | rfl <;> exact absurd e (by decide)), tab_no rfl⟩
theorem x15 {w : World} {base : Heap} (c : He.SaysD fa fn K) : FdX ⟨R.prog, w, K, mg, base⟩ (lay K (cs.map (·.2))) T 15 (fds.getD 15 ⟨⟨0, 0, false, .nil⟩, [], [], ⟨.function, [], false, false, []⟩, [], none⟩) := by
  obtain ⟨fd, F⟩ := c.def_ 15 (d := d15) rfl
  exact ⟨_, _, _, fd, F, FunD.bindsN F (fun _ _ _ _ _ _ us hl => match us, hl with | [_, _], _ => rfl), (fun q hq e => by
      simp only [T, List.mem_cons, List.not_mem_nil, or_false] at hq
      rcases hq with rfl | rfl | rfl | rfl | rfl <;> exact absurd e (by decide)), tab_no rfl⟩
theorem x16 {w : World} {base : Heap} (c : He.SaysD fa fn K) : FdX ⟨R.prog, w, K, mg, base⟩ (lay K (cs.map (·.2))) T 16 (fds.getD 16 ⟨⟨0, 0, false, .nil⟩, [], [], ⟨.function, [], false, false, []⟩, [], none⟩) := by
  obtain ⟨fd, F⟩ := c.def_ 16 (d := d16) rfl
  exact ⟨_, _, _, fd, F, FunD.bindsN F (fun _ _ _ _ _ _ us hl => match us, hl with | [_], _ => rfl), (fun q hq e => by
      simp only [T, List.mem_cons, List.not_mem_nil, or_false] at hq
      rcases hq with rfl | rfl | rfl | rfl | rfl <;> exact absurd e (by decide)), tab_no rfl⟩
theorem x17 {w : World} {base : Heap} (c : He.SaysD fa fn K) : FdX ⟨R.prog, w, K, mg, base⟩ (lay K (cs.map (·.2))) T 17 (fds.getD 17 ⟨⟨0, 0, false, .nil⟩, [], [], ⟨.function, [], false, false, []⟩, [], none⟩) := by
  obtain ⟨fd, F⟩ := c.def_ 17 (d := d17) rfl
  exact ⟨_, _, _, fd, F, FunD.bindsN F (fun _ _ _ _ _ _ us hl => match us, hl with | [_, _], _ => rfl), (fun q hq e => by
      simp only [T, List.mem_cons, List.not_mem_nil, or_false] at hq
      rcases hq with rfl | rfl | rfl | rfl | rfl <;> exact absurd e (by decide)), tab_no rfl⟩
theorem x18 {w : World} {base : Heap} (c : He.SaysD fa fn K) : FdX ⟨R.prog, w, K, mg, base⟩ (lay K (cs.map (·.2))) T 18 (fds.getD 18 ⟨⟨0, 0, false, .nil⟩, [], [], ⟨.function, [], false, false, []⟩, [], none⟩) := by
  obtain ⟨fd, F⟩ := c.def_ 18 (d := d18) rfl
  exact ⟨_, _, _, fd, F, FunD.bindsN F (fun _ _ _ _ _ _ us hl => match us, hl with | [_], _ => rfl), (fun q hq e => by
      simp only [T, List.mem_cons, List.not_mem_nil, or_false] at hq
      rcases hq with rfl | rfl | rfl | rfl | rfl <;> exact absurd e (by decide)), tab_no rfl⟩
theorem x19 {w : World} {base : Heap} (c : He.SaysD fa fn K) : FdX ⟨R.prog, w, K, mg, base⟩ (lay K (cs.map (·.2))) T 19 (fds.getD 19 ⟨⟨0, 0, false, .nil⟩, [], [], ⟨.function, [], false, false, []⟩, [], none⟩) := by
  obtain ⟨fd, F⟩ := c.def_ 19 (d := d19) rfl
  exact ⟨_, _, _, fd, F, FunD.bindsN F (fun _ _ _ _ _ _ us hl => match us, hl with | [_, _], _ => rfl), (fun q hq e => by
      simp only [T, List.mem_cons, List.not_mem_nil, or_false] at hq
      rcases hq with rfl | rfl | rfl | rfl | rfl <;> exact absurd e (by decide)), tab_no rfl⟩
theorem x20 {w : World} {base : Heap} (c : He.SaysD fa fn K) : FdX ⟨R.prog, w, K, mg, base⟩ (lay K (cs.map (·.2))) T 20 (fds.getD 20 ⟨⟨0, 0, false, .nil⟩, [], [], ⟨.function, [], false, false, []⟩, [], none⟩) := by
  obtain ⟨fd, F⟩ := c.def_ 20 (d := d20) rfl
  exact ⟨_, _, _, fd, F, FunD.bindsN F (fun _ _ _ _ _ _ us hl => match us, hl with | [_], _ => rfl), (fun q hq e => by
      simp only [T, List.mem_cons, List.not_mem_nil, or_false] at hq
      rcases hq with rfl | rfl | rfl | rfl | rfl <;> exact absurd e (by decide)), tab_no rfl⟩
theorem x21 {w : World} {base : Heap} (c : He.SaysD fa fn K) : FdX ⟨R.prog, w, K, mg, base⟩ (lay K (cs.map (·.2))) T 21 (fds.getD 21 ⟨⟨0, 0, false, .nil⟩, [], [], ⟨.function, [], false, false, []⟩, [], none⟩) := by
  obtain ⟨fd, F⟩ := c.def_ 21 (d := d21) rfl
  exact ⟨_, _, _, fd, F, FunD.bindsN F (fun _ _ _ _ _ _ us hl => match us, hl with | [_, _], _ => rfl), (fun q hq e => by
      simp only [T, List.mem_cons, List.not_mem_nil, or_false] at hq
      rcases hq with rfl | rfl | rfl | rfl | rfl <;> exact absurd e (by decide)), tab_no rfl⟩
theorem x22 {w : World} {base : Heap} (c : He.SaysD fa fn K) : FdX ⟨R.prog, w, K, mg, base⟩ (lay K (cs.map (·.2))) T 22 (fds.getD 22 ⟨⟨0, 0, false, .nil⟩, [], [], ⟨.function, [], false, false, []⟩, [], none⟩) := by
  obtain ⟨fd, F⟩ := c.def_ 22 (d := d22) rfl
  exact ⟨_, _, _, fd, F, FunD.bindsN F (fun _ _ _ _ _ _ us hl => match us, hl with | [_, _], _ => rfl), (fun q hq e => by
      simp only [T, List.mem_cons, List.not_mem_nil, or_false] at hq
      rcases hq with rfl | rfl | rfl | rfl | rfl <;> exact absurd e (by decide)), tab_no rfl⟩
theorem x23 {w : World} {base : Heap} (c : He.SaysD fa fn K) : FdX ⟨R.prog, w, K, mg, base⟩ (lay K (cs.map (·.2))) T 23 (fds.getD 23 ⟨⟨0, 0, false, .nil⟩, [], [], ⟨.function, [], false, false, []⟩, [], none⟩) := by
  obtain ⟨fd, F⟩ := c.def_ 23 (d := d23) rfl
  exact ⟨_, _, _, fd, F, FunD.bindsN F (fun _ _ _ _ _ _ us hl => match us, hl with | [_, _], _ => rfl), (fun q hq e => by
      simp only [T, List.mem_cons, List.not_mem_nil, or_false] at hq
      rcases hq with rfl | rfl | rfl | rfl | rfl <;> exact absurd e (by decide)), tab_no rfl⟩
theorem x24 {w : World} {base : Heap} (c : He.SaysD fa fn K) : FdX ⟨R.prog, w, K, mg, base⟩ (lay K (cs.map (·.2))) T 24 (fds.getD 24 ⟨⟨0, 0, false, .nil⟩, [], [], ⟨.function, [], false, false, []⟩, [], none⟩) := by
  obtain ⟨fd, F⟩ := c.def_ 24 (d := d24) rfl
  exact ⟨_, _, _, fd, F, FunD.bindsN F (fun _ _ _ _ _ _ us hl => match us, hl with | [_, _], _ => rfl), (fun q hq e => by
      simp only [T, List.mem_cons, List.not_mem_nil, or_false] at hq
      rcases hq with rfl | rfl | rfl | rfl | rfl <;> exact absurd e (by decide)), tab_no rfl⟩
theorem x25 {w : World} {base : Heap} (c : He.SaysD fa fn K) : FdX ⟨R.prog, w, K, mg, base⟩ (lay K (cs.map (·.2))) T 25 (fds.getD 25 ⟨⟨0, 0, false, .nil⟩, [], [], ⟨.function, [], false, false, []⟩, [], none⟩) := by
  obtain ⟨fd, F⟩ := c.def_ 25 (d := d25) rfl
  exact ⟨_, _, _, fd, F, FunD.bindsN F (fun _ _ _ _ _ _ us hl => match us, hl with | [_, _], _ => rfl), (fun q hq e => by
      simp only [T, List.mem_cons, List.not_mem_nil, or_false] at hq
      rcases hq with rfl | rfl | rfl | rfl | rfl <;> exact absurd e (by decide)), tab_no rfl⟩
theorem x26 {w : World} {base : Heap} (c : He.SaysD fa fn K) : FdX ⟨R.prog, w, K, mg, base⟩ (lay K (cs.map (·.2))) T 26 (fds.getD 26 ⟨⟨0, 0, false, .nil⟩, [], [], ⟨.function, [], false, false, []⟩, [], none⟩) := by
  obtain ⟨fd, F⟩ := c.def_ 26 (d := d26) rfl
  exact ⟨_, _, _, fd, F, FunD.bindsN F (fun _ _ _ _ _ _ us hl => match us, hl with | [_], _ => rfl), (fun q hq e => by
      simp only [T, List.mem_cons, List.not_mem_nil, or_false] at hq
      rcases hq with rfl | rfl | rfl | rfl | rfl <;> exact absurd e (by decide)), tab_no rfl⟩
theorem x27 {w : World} {base : Heap} (c : He.SaysD fa fn K) : FdX ⟨R.prog, w, K, mg, base⟩ (lay K (cs.map (·.2))) T 27 (fds.getD 27 ⟨⟨0, 0, false, .nil⟩, [], [], ⟨.function, [], false, false, []⟩, [], none⟩) := by
  obtain ⟨fd, F⟩ := c.def_ 27 (d := d27) rfl
  exact ⟨_, _, _, fd, F, FunD.bindsN F (fun _ _ _ _ _ _ us hl => match us, hl with | [_], _ => rfl), (fun q hq e => by
      simp only [T, List.mem_cons, List.not_mem_nil, or_false] at hq
      rcases hq with rfl | rfl | rfl | rfl | rfl <;> exact absurd e (by decide)), tab_no rfl⟩
theorem x28 {w : World} {base : Heap} (c : He.SaysD fa fn K) : FdX ⟨R.prog, w, K, mg, base⟩ (lay K (cs.map (·.2))) T 28 (fds.getD 28 ⟨⟨0, 0, false, .nil⟩, [], [], ⟨.function, [], false, false, []⟩, [], none⟩) := by
  obtain ⟨fd, F⟩ := c.def_ 28 (d := d28) rfl
  exact ⟨_, _, _, fd, F, FunD.bindsN F (fun _ _ _ _ _ _ us hl => match us, hl with | [_], _ => rfl), (fun q hq e => by
      simp only [T, List.mem_cons, List.not_mem_nil, or_false] at hq
      rcases hq with rfl | rfl | rfl | rfl | rfl <;> exact absurd e (by decide)), tab_no rfl⟩
theorem x29 {w : World} {base : Heap} (c : He.SaysD fa fn K) : FdX ⟨R.prog, w, K, mg, base⟩ (lay K (cs.map (·.2))) T 29 (fds.getD 29 ⟨⟨0, 0, false, .nil⟩, [], [], ⟨.function, [], false, false, []⟩, [], none⟩) := by
  obtain ⟨fd, F⟩ := c.def_ 29 (d := d29) rfl
  exact ⟨_, _, _, fd, F, FunD.bindsN F (fun _ _ _ _ _ _ us hl => match us, hl with | [_], _ => rfl), (fun q hq e => by
      simp only [T, List.mem_cons, List.not_mem_nil, or_false] at hq
      rcases hq with rfl | rfl | rfl | rfl | rfl <;> exact absurd e (by decide)), tab_no rfl⟩
theorem kw30 {fd : FuncData} (F : FunD K d30.name d30.qual d30.params d30.body d30.scope [] [] (He.fAd K d30.at_) fd) : KwOk K fd [("field" : Str)] [("field" : Str)] [0] := fun s ws _ hl => by
  obtain ⟨oc, od, dV, kV, doc, pm, an, cdv, ct, osl, rfl, lk, hcd, hD, hK⟩ := F.ex
  rcases hD with ⟨_, rfl⟩ | ⟨e, _⟩
  · match ws, hl with
    | [_], _ => exact .of_eq rfl
  · exact absurd rfl e
theorem x30 {w : World} {base : Heap} (c : He.SaysD fa fn K) : FdX ⟨R.prog, w, K, mg, base⟩ (lay K (cs.map (·.2))) T 30 (fds.getD 30 ⟨⟨0, 0, false, .nil⟩, [], [], ⟨.function, [], false, false, []⟩, [], none⟩) := by
  obtain ⟨fd, F⟩ := c.def_ 30 (d := d30) rfl
  exact ⟨_, _, _, fd, F, FunD.bindsN F (fun _ _ _ _ _ _ us hl => match us, hl with | [_], _ => rfl), (fun q hq e => by
      have hq : q ∈ T.kws := hq
      simp only [T, List.mem_cons, List.not_mem_nil, or_false] at hq
      rcases hq with rfl | rfl | rfl | rfl | rfl
      · exact kw30 F
      · exact absurd e (by decide)
      · exact absurd e (by decide)
      · exact absurd e (by decide)
      · exact absurd e (by decide)
      ), tab_no rfl⟩
theorem x31 {w : World} {base : Heap} (c : He.SaysD fa fn K) : FdX ⟨R.prog, w, K, mg, base⟩ (lay K (cs.map (·.2))) T 31 (fds.getD 31 ⟨⟨0, 0, false, .nil⟩, [], [], ⟨.function, [], false, false, []⟩, [], none⟩) := by
  obtain ⟨fd, F⟩ := c.def_ 31 (d := d31) rfl
  exact ⟨_, _, _, fd, F, FunD.bindsN F (fun _ _ _ _ _ _ us hl => match us, hl with | [_], _ => rfl), (fun q hq e => by
      simp only [T, List.mem_cons, List.not_mem_nil, or_false] at hq
      rcases hq with rfl | rfl | rfl | rfl | rfl <;> exact absurd e (by decide)), tab_no rfl⟩
theorem x32 {w : World} {base : Heap} (c : He.SaysD fa fn K) : FdX ⟨R.prog, w, K, mg, base⟩ (lay K (cs.map (·.2))) T 32 (fds.getD 32 ⟨⟨0, 0, false, .nil⟩, [], [], ⟨.function, [], false, false, []⟩, [], none⟩) := by
  obtain ⟨fd, F⟩ := c.def_ 32 (d := d32) rfl
  exact ⟨_, _, _, fd, F, FunD.bindsN F (fun _ _ _ _ _ _ us hl => match us, hl with | [_], _ => rfl), (fun q hq e => by
      simp only [T, List.mem_cons, List.not_mem_nil, or_false] at hq
      rcases hq with rfl | rfl | rfl | rfl | rfl <;> exact absurd e (by decide)), tab_no rfl⟩
theorem x33 {w : World} {base : Heap} (c : He.SaysD fa fn K) : FdX ⟨R.prog, w, K, mg, base⟩ (lay K (cs.map (·.2))) T 33 (fds.getD 33 ⟨⟨0, 0, false, .nil⟩, [], [], ⟨.function, [], false, false, []⟩, [], none⟩) := by
  obtain ⟨fd, F⟩ := c.def_ 33 (d := d33) rfl
  exact ⟨_, _, _, fd, F, FunD.bindsN F (fun _ _ _ _ _ _ us hl => match us, hl with | [_, _], _ => rfl), (fun q hq e => by
      simp only [T, List.mem_cons, List.not_mem_nil, or_false] at hq
      rcases hq with rfl | rfl | rfl | rfl | rfl <;> exact absurd e (by decide)), tab_no rfl⟩
theorem x34 {w : World} {base : Heap} (c : He.SaysD fa fn K) : FdX ⟨R.prog, w, K, mg, base⟩ (lay K (cs.map (·.2))) T 34 (fds.getD 34 ⟨⟨0, 0, false, .nil⟩, [], [], ⟨.function, [], false, false, []⟩, [], none⟩) := by
  obtain ⟨fd, F⟩ := c.def_ 34 (d := d34) rfl
  exact ⟨_, _, _, fd, F, FunD.bindsN F (fun _ _ _ _ _ _ us hl => match us, hl with | [_], _ => rfl), (fun q hq e => by
      simp only [T, List.mem_cons, List.not_mem_nil, or_false] at hq
      rcases hq with rfl | rfl | rfl | rfl | rfl <;> exact absurd e (by decide)), tab_no rfl⟩
theorem x35 {w : World} {base : Heap} (c : He.SaysD fa fn K) : FdX ⟨R.prog, w, K, mg, base⟩ (lay K (cs.map (·.2))) T 35 (fds.getD 35 ⟨⟨0, 0, false, .nil⟩, [], [], ⟨.function, [], false, false, []⟩, [], none⟩) := by
  obtain ⟨fd, F⟩ := c.def_ 35 (d := d35) rfl
  exact ⟨_, _, _, fd, F, FunD.bindsN F (fun _ _ _ _ _ _ us hl => match us, hl with | [_], _ => rfl), (fun q hq e => by
      simp only [T, List.mem_cons, List.not_mem_nil, or_false] at hq
      rcases hq with rfl | rfl | rfl | rfl | rfl <;> exact absurd e (by decide)), tab_no rfl⟩
theorem x36 {w : World} {base : Heap} (c : He.SaysD fa fn K) : FdX ⟨R.prog, w, K, mg, base⟩ (lay K (cs.map (·.2))) T 36 (fds.getD 36 ⟨⟨0, 0, false, .nil⟩, [], [], ⟨.function, [], false, false, []⟩, [], none⟩) := by
  obtain ⟨fd, F⟩ := c.def_ 36 (d := d36) rfl
  exact ⟨_, _, _, fd, F, FunD.bindsN F (fun _ _ _ _ _ _ us hl => match us, hl with | [_, _], _ => rfl), (fun q hq e => by
      simp only [T, List.mem_cons, List.not_mem_nil, or_false] at hq
      rcases hq with rfl | rfl | rfl | rfl | rfl <;> exact absurd e (by decide)), tab_no rfl⟩
theorem x37 {w : World} {base : Heap} (c : He.SaysD fa fn K) : FdX ⟨R.prog, w, K, mg, base⟩ (lay K (cs.map (·.2))) T 37 (fds.getD 37 ⟨⟨0, 0, false, .nil⟩, [], [], ⟨.function, [], false, false, []⟩, [], none⟩) := by
  obtain ⟨fd, F⟩ := c.def_ 37 (d := d37) rfl
  exact ⟨_, _, _, fd, F, FunD.bindsN F (fun _ _ _ _ _ _ us hl => match us, hl with | [_, _], _ => rfl), (fun q hq e => by
      simp only [T, List.mem_cons, List.not_mem_nil, or_false] at hq
      rcases hq with rfl | rfl | rfl | rfl | rfl <;> exact absurd e (by decide)), tab_no rfl⟩
theorem x38 {w : World} {base : Heap} (c : He.SaysD fa fn K) (W : Tabs0 K mg lam cs h0) (TB : ∀ p ∈ cs, LamX.TabB base mg p.1 p.2) : FdX ⟨R.prog, w, K, mg, base⟩ (lay K (cs.map (·.2))) T 38 (fds.getD 38 ⟨⟨0, 0, false, .nil⟩, [], [], ⟨.function, [], false, false, []⟩, [], none⟩) := by
  obtain ⟨fd, F⟩ := c.def_ 38 (d := d38) rfl
  exact ⟨_, _, _, fd, F, FunD.bindsN F (fun _ _ _ _ _ _ us hl => match us, hl with | [_, _], _ => rfl), (fun q hq e => by
      simp only [T, List.mem_cons, List.not_mem_nil, or_false] at hq
      rcases hq with rfl | rfl | rfl | rfl | rfl <;> exact absurd e (by decide)), tabAt_of (t := 0) (x := ("lots_by" : Str)) W TB rfl rfl rfl rfl rfl⟩
theorem x39 {w : World} {base : Heap} (c : He.SaysD fa fn K) : FdX ⟨R.prog, w, K, mg, base⟩ (lay K (cs.map (·.2))) T 39 (fds.getD 39 ⟨⟨0, 0, false, .nil⟩, [], [], ⟨.function, [], false, false, []⟩, [], none⟩) := by
  obtain ⟨fd, F⟩ := c.def_ 39 (d := d39) rfl
  exact ⟨_, _, _, fd, F, FunD.bindsN F (fun _ _ _ _ _ _ us hl => match us, hl with | [_, _], _ => rfl), (fun q hq e => by
      simp only [T, List.mem_cons, List.not_mem_nil, or_false] at hq
      rcases hq with rfl | rfl | rfl | rfl | rfl <;> exact absurd e (by decide)), tab_no rfl⟩
theorem x40 {w : World} {base : Heap} (c : He.SaysD fa fn K) : FdX ⟨R.prog, w, K, mg, base⟩ (lay K (cs.map (·.2))) T 40 (fds.getD 40 ⟨⟨0, 0, false, .nil⟩, [], [], ⟨.function, [], false, false, []⟩, [], none⟩) := by
  obtain ⟨fd, F⟩ := c.def_ 40 (d := d40) rfl
  exact ⟨_, _, _, fd, F, FunD.bindsN F (fun _ _ _ _ _ _ us hl => match us, hl with | [_, _, _], _ => rfl), (fun q hq e => by
      simp only [T, List.mem_cons, List.not_mem_nil, or_false] at hq
      rcases hq with rfl | rfl | rfl | rfl | rfl <;> exact absurd e (by decide)), tab_no rfl⟩
theorem x41 {w : World} {base : Heap} (c : He.SaysD fa fn K) : FdX ⟨R.prog, w, K, mg, base⟩ (lay K (cs.map (·.2))) T 41 (fds.getD 41 ⟨⟨0, 0, false, .nil⟩, [], [], ⟨.function, [], false, false, []⟩, [], none⟩) := by
  obtain ⟨fd, F⟩ := c.def_ 41 (d := d41) rfl
  exact ⟨_, _, _, fd, F, FunD.bindsN F (fun _ _ _ _ _ _ us hl => match us, hl with | [_, _, _], _ => rfl), (fun q hq e => by
      simp only [T, List.mem_cons, List.not_mem_nil, or_false] at hq
      rcases hq with rfl | rfl | rfl | rfl | rfl <;> exact absurd e (by decide)), tab_no rfl⟩
theorem x42 {w : World} {base : Heap} (c : He.SaysD fa fn K) : FdX ⟨R.prog, w, K, mg, base⟩ (lay K (cs.map (·.2))) T 42 (fds.getD 42 ⟨⟨0, 0, false, .nil⟩, [], [], ⟨.function, [], false, false, []⟩, [], none⟩) := by
  obtain ⟨fd, F⟩ := c.def_ 42 (d := d42) rfl
  exact ⟨_, _, _, fd, F, FunD.bindsN F (fun _ _ _ _ _ _ us hl => match us, hl with | [_, _], _ => rfl), (fun q hq e => by
      simp only [T, List.mem_cons, List.not_mem_nil, or_false] at hq
      rcases hq with rfl | rfl | rfl | rfl | rfl <;> exact absurd e (by decide)), tab_no rfl⟩
theorem x43 {w : World} {base : Heap} (c : He.SaysD fa fn K) : FdX ⟨R.prog, w, K, mg, base⟩ (lay K (cs.map (·.2))) T 43 (fds.getD 43 ⟨⟨0, 0, false, .nil⟩, [], [], ⟨.function, [], false, false, []⟩, [], none⟩) := by
  obtain ⟨fd, F⟩ := c.def_ 43 (d := d43) rfl
  exact ⟨_, _, _, fd, F, FunD.bindsN F (fun _ _ _ _ _ _ us hl => match us, hl with | [_, _, _], _ => rfl), (fun q hq e => by
      simp only [T, List.mem_cons, List.not_mem_nil, or_false] at hq
      rcases hq with rfl | rfl | rfl | rfl | rfl <;> exact absurd e (by decide)), tab_no rfl⟩
theorem x44 {w : World} {base : Heap} (c : He.SaysD fa fn K) : FdX ⟨R.prog, w, K, mg, base⟩ (lay K (cs.map (·.2))) T 44 (fds.getD 44 ⟨⟨0, 0, false, .nil⟩, [], [], ⟨.function, [], false, false, []⟩, [], none⟩) := by
  obtain ⟨fd, F⟩ := c.def_ 44 (d := d44) rfl
  exact ⟨_, _, _, fd, F, FunD.bindsN F (fun _ _ _ _ _ _ us hl => match us, hl with | [_, _], _ => rfl), (fun q hq e => by
      simp only [T, List.mem_cons, List.not_mem_nil, or_false] at hq
      rcases hq with rfl | rfl | rfl | rfl | rfl <;> exact absurd e (by decide)), tab_no rfl⟩
theorem x45 {w : World} {base : Heap} (c : He.SaysD fa fn K) : FdX ⟨R.prog, w, K, mg, base⟩ (lay K (cs.map (·.2))) T 45 (fds.getD 45 ⟨⟨0, 0, false, .nil⟩, [], [], ⟨.function, [], false, false, []⟩, [], none⟩) := by
  obtain ⟨fd, F⟩ := c.def_ 45 (d := d45) rfl
  exact ⟨_, _, _, fd, F, FunD.bindsN F (fun _ _ _ _ _ _ us hl => match us, hl with | [_, _], _ => rfl), (fun q hq e => by
      simp only [T, List.mem_cons, List.not_mem_nil, or_false] at hq
      rcases hq with rfl | rfl | rfl | rfl | rfl <;> exact absurd e (by decide)), tab_no rfl⟩
theorem x46 {w : World} {base : Heap} (c : He.SaysD fa fn K) : FdX ⟨R.prog, w, K, mg, base⟩ (lay K (cs.map (·.2))) T 46 (fds.getD 46 ⟨⟨0, 0, false, .nil⟩, [], [], ⟨.function, [], false, false, []⟩, [], none⟩) := by
  obtain ⟨fd, F⟩ := c.def_ 46 (d := d46) rfl
  exact ⟨_, _, _, fd, F, FunD.bindsN F (fun _ _ _ _ _ _ us hl => match us, hl with | [_, _], _ => rfl), (fun q hq e => by
      simp only [T, List.mem_cons, List.not_mem_nil, or_false] at hq
      rcases hq with rfl | rfl | rfl | rfl | rfl <;> exact absurd e (by decide)), tab_no rfl⟩
theorem kw47 {fd : FuncData} (F : FunD K d47.name d47.qual d47.params d47.body d47.scope [] [] (He.fAd K d47.at_) fd) : KwOk K fd [("field" : Str), ("lot" : Str)] [("lot" : Str), ("field" : Str)] [1, 0] := fun s ws _ hl => by
  obtain ⟨oc, od, dV, kV, doc, pm, an, cdv, ct, osl, rfl, lk, hcd, hD, hK⟩ := F.ex
  rcases hD with ⟨_, rfl⟩ | ⟨e, _⟩
  · match ws, hl with
    | [_, _], _ => exact .of_eq rfl
  · exact absurd rfl e
theorem x47 {w : World} {base : Heap} (c : He.SaysD fa fn K) : FdX ⟨R.prog, w, K, mg, base⟩ (lay K (cs.map (·.2))) T 47 (fds.getD 47 ⟨⟨0, 0, false, .nil⟩, [], [], ⟨.function, [], false, false, []⟩, [], none⟩) := by
  obtain ⟨fd, F⟩ := c.def_ 47 (d := d47) rfl
  exact ⟨_, _, _, fd, F, FunD.bindsN F (fun _ _ _ _ _ _ us hl => match us, hl with | [_, _], _ => rfl), (fun q hq e => by
      have hq : q ∈ T.kws := hq
      simp only [T, List.mem_cons, List.not_mem_nil, or_false] at hq
      rcases hq with rfl | rfl | rfl | rfl | rfl
      · exact absurd e (by decide)
      · exact kw47 F
      · exact absurd e (by decide)
      · exact absurd e (by decide)
      · exact absurd e (by decide)
      ), tab_no rfl⟩
theorem x48 {w : World} {base : Heap} (c : He.SaysD fa fn K) : FdX ⟨R.prog, w, K, mg, base⟩ (lay K (cs.map (·.2))) T 48 (fds.getD 48 ⟨⟨0, 0, false, .nil⟩, [], [], ⟨.function, [], false, false, []⟩, [], none⟩) := by
  obtain ⟨fd, F⟩ := c.def_ 48 (d := d48) rfl
  exact ⟨_, _, _, fd, F, FunD.bindsN F (fun _ _ _ _ _ _ us hl => match us, hl with | [_, _], _ => rfl), (fun q hq e => by
      simp only [T, List.mem_cons, List.not_mem_nil, or_false] at hq
      rcases hq with rfl | rfl | rfl | rfl | rfl <;> exact absurd e (by decide)), tab_no rfl⟩
theorem kw49 {fd : FuncData} (F : FunD K d49.name d49.qual d49.params d49.body d49.scope [] [] (He.fAd K d49.at_) fd) : KwOk K fd [("field" : Str), ("lot" : Str)] [("lot" : Str), ("field" : Str)] [1, 0] := fun s ws _ hl => by
  obtain ⟨oc, od, dV, kV, doc, pm, an, cdv, ct, osl, rfl, lk, hcd, hD, hK⟩ := F.ex
  rcases hD with ⟨_, rfl⟩ | ⟨e, _⟩
  · match ws, hl with
    | [_, _], _ => exact .of_eq rfl
  · exact absurd rfl e
theorem x49 {w : World} {base : Heap} (c : He.SaysD fa fn K) : FdX ⟨R.prog, w, K, mg, base⟩ (lay K (cs.map (·.2))) T 49 (fds.getD 49 ⟨⟨0, 0, false, .nil⟩, [], [], ⟨.function, [], false, false, []⟩, [], none⟩) := by
  obtain ⟨fd, F⟩ := c.def_ 49 (d := d49) rfl
  exact ⟨_, _, _, fd, F, FunD.bindsN F (fun _ _ _ _ _ _ us hl => match us, hl with | [_, _], _ => rfl), (fun q hq e => by
      have hq : q ∈ T.kws := hq
      simp only [T, List.mem_cons, List.not_mem_nil, or_false] at hq
      rcases hq with rfl | rfl | rfl | rfl | rfl
      · exact absurd e (by decide)
      · exact absurd e (by decide)
      · exact kw49 F
      · exact absurd e (by decide)
      · exact absurd e (by decide)
      ), tab_no rfl⟩
theorem x50 {w : World} {base : Heap} (c : He.SaysD fa fn K) : FdX ⟨R.prog, w, K, mg, base⟩ (lay K (cs.map (·.2))) T 50 (fds.getD 50 ⟨⟨0, 0, false, .nil⟩, [], [], ⟨.function, [], false, false, []⟩, [], none⟩) := by
  obtain ⟨fd, F⟩ := c.def_ 50 (d := d50) rfl
  exact ⟨_, _, _, fd, F, FunD.bindsN F (fun _ _ _ _ _ _ us hl => match us, hl with | [_, _], _ => rfl), (fun q hq e => by
      simp only [T, List.mem_cons, List.not_mem_nil, or_false] at hq
      rcases hq with rfl | rfl | rfl | rfl | rfl <;> exact absurd e (by decide)), tab_no rfl⟩
theorem kw51 {fd : FuncData} (F : FunD K d51.name d51.qual d51.params d51.body d51.scope [] [] (He.fAd K d51.at_) fd) : KwOk K fd [("field" : Str), ("lot" : Str)] [("lot" : Str), ("field" : Str)] [1, 0] := fun s ws _ hl => by
  obtain ⟨oc, od, dV, kV, doc, pm, an, cdv, ct, osl, rfl, lk, hcd, hD, hK⟩ := F.ex
  rcases hD with ⟨_, rfl⟩ | ⟨e, _⟩
  · match ws, hl with
    | [_, _], _ => exact .of_eq rfl
  · exact absurd rfl e
theorem x51 {w : World} {base : Heap} (c : He.SaysD fa fn K) : FdX ⟨R.prog, w, K, mg, base⟩ (lay K (cs.map (·.2))) T 51 (fds.getD 51 ⟨⟨0, 0, false, .nil⟩, [], [], ⟨.function, [], false, false, []⟩, [], none⟩) := by
  obtain ⟨fd, F⟩ := c.def_ 51 (d := d51) rfl
  exact ⟨_, _, _, fd, F, FunD.bindsN F (fun _ _ _ _ _ _ us hl => match us, hl with | [_, _], _ => rfl), (fun q hq e => by
      have hq : q ∈ T.kws := hq
      simp only [T, List.mem_cons, List.not_mem_nil, or_false] at hq
      rcases hq with rfl | rfl | rfl | rfl | rfl
      · exact absurd e (by decide)
      · exact absurd e (by decide)
      · exact absurd e (by decide)
      · exact kw51 F
      · exact absurd e (by decide)
      ), tab_no rfl⟩
theorem x52 {w : World} {base : Heap} (c : He.SaysD fa fn K) : FdX ⟨R.prog, w, K, mg, base⟩ (lay K (cs.map (·.2))) T 52 (fds.getD 52 ⟨⟨0, 0, false, .nil⟩, [], [], ⟨.function, [], false, false, []⟩, [], none⟩) := by
  obtain ⟨fd, F⟩ := c.def_ 52 (d := d52) rfl
  exact ⟨_, _, _, fd, F, FunD.bindsN F (fun _ _ _ _ _ _ us hl => match us, hl with | [_], _ => rfl), (fun q hq e => by
      simp only [T, List.mem_cons, List.not_mem_nil, or_false] at hq
      rcases hq with rfl | rfl | rfl | rfl | rfl <;> exact absurd e (by decide)), tab_no rfl⟩
theorem x53 {w : World} {base : Heap} (c : He.SaysD fa fn K) : FdX ⟨R.prog, w, K, mg, base⟩ (lay K (cs.map (·.2))) T 53 (fds.getD 53 ⟨⟨0, 0, false, .nil⟩, [], [], ⟨.function, [], false, false, []⟩, [], none⟩) := by
  obtain ⟨fd, F⟩ := c.def_ 53 (d := d53) rfl
  exact ⟨_, _, _, fd, F, FunD.bindsN F (fun _ _ _ _ _ _ us hl => match us, hl with | [_, _], _ => rfl), (fun q hq e => by
      simp only [T, List.mem_cons, List.not_mem_nil, or_false] at hq
      rcases hq with rfl | rfl | rfl | rfl | rfl <;> exact absurd e (by decide)), tab_no rfl⟩
theorem kw54 {fd : FuncData} (F : FunD K d54.name d54.qual d54.params d54.body d54.scope [] [] (He.fAd K d54.at_) fd) : KwOk K fd [("field" : Str), ("sort" : Str)] [("sort" : Str), ("field" : Str)] [1, 0] := fun s ws _ hl => by
  obtain ⟨oc, od, dV, kV, doc, pm, an, cdv, ct, osl, rfl, lk, hcd, hD, hK⟩ := F.ex
  rcases hD with ⟨_, rfl⟩ | ⟨e, _⟩
  · match ws, hl with
    | [_, _], _ => exact .of_eq rfl
  · exact absurd rfl e
theorem x54 {w : World} {base : Heap} (c : He.SaysD fa fn K) : FdX ⟨R.prog, w, K, mg, base⟩ (lay K (cs.map (·.2))) T 54 (fds.getD 54 ⟨⟨0, 0, false, .nil⟩, [], [], ⟨.function, [], false, false, []⟩, [], none⟩) := by
  obtain ⟨fd, F⟩ := c.def_ 54 (d := d54) rfl
  exact ⟨_, _, _, fd, F, FunD.bindsN F (fun _ _ _ _ _ _ us hl => match us, hl with | [_, _], _ => rfl), (fun q hq e => by
      have hq : q ∈ T.kws := hq
      simp only [T, List.mem_cons, List.not_mem_nil, or_false] at hq
      rcases hq with rfl | rfl | rfl | rfl | rfl
      · exact absurd e (by decide)
      · exact absurd e (by decide)
      · exact absurd e (by decide)
      · exact absurd e (by decide)
      · exact kw54 F
      ), tab_no rfl⟩
theorem x55 {w : World} {base : Heap} (c : He.SaysD fa fn K) : FdX ⟨R.prog, w, K, mg, base⟩ (lay K (cs.map (·.2))) T 55 (fds.getD 55 ⟨⟨0, 0, false, .nil⟩, [], [], ⟨.function, [], false, false, []⟩, [], none⟩) := by
  obtain ⟨fd, F⟩ := c.def_ 55 (d := d55) rfl
  exact ⟨_, _, _, fd, F, FunD.bindsN F (fun _ _ _ _ _ _ us hl => match us, hl with | [_, _, _], _ => rfl), (fun q hq e => by
      simp only [T, List.mem_cons, List.not_mem_nil, or_false] at hq
      rcases hq with rfl | rfl | rfl | rfl | rfl <;> exact absurd e (by decide)), tab_no rfl⟩
theorem x56 {w : World} {base : Heap} (c : He.SaysD fa fn K) : FdX ⟨R.prog, w, K, mg, base⟩ (lay K (cs.map (·.2))) T 56 (fds.getD 56 ⟨⟨0, 0, false, .nil⟩, [], [], ⟨.function, [], false, false, []⟩, [], none⟩) := by
  obtain ⟨fd, F⟩ := c.def_ 56 (d := d56) rfl
  exact ⟨_, _, _, fd, F, FunD.bindsN F (fun _ _ _ _ _ _ us hl => match us, hl with | [_, _], _ => rfl), (fun q hq e => by
      simp only [T, List.mem_cons, List.not_mem_nil, or_false] at hq
      rcases hq with rfl | rfl | rfl | rfl | rfl <;> exact absurd e (by decide)), tab_no rfl⟩
theorem x57 {w : World} {base : Heap} (c : He.SaysD fa fn K) : FdX ⟨R.prog, w, K, mg, base⟩ (lay K (cs.map (·.2))) T 57 (fds.getD 57 ⟨⟨0, 0, false, .nil⟩, [], [], ⟨.function, [], false, false, []⟩, [], none⟩) := by
  obtain ⟨fd, F⟩ := c.def_ 57 (d := d57) rfl
  exact ⟨_, _, _, fd, F, FunD.bindsN F (fun _ _ _ _ _ _ us hl => match us, hl with | [_, _], _ => rfl), (fun q hq e => by
      simp only [T, List.mem_cons, List.not_mem_nil, or_false] at hq
      rcases hq with rfl | rfl | rfl | rfl | rfl <;> exact absurd e (by decide)), tab_no rfl⟩
theorem x58 {w : World} {base : Heap} (c : He.SaysD fa fn K) : FdX ⟨R.prog, w, K, mg, base⟩ (lay K (cs.map (·.2))) T 58 (fds.getD 58 ⟨⟨0, 0, false, .nil⟩, [], [], ⟨.function, [], false, false, []⟩, [], none⟩) := by
  obtain ⟨fd, F⟩ := c.def_ 58 (d := d58) rfl
  exact ⟨_, _, _, fd, F, FunD.bindsN F (fun _ _ _ _ _ _ us hl => match us, hl with | [_, _], _ => rfl), (fun q hq e => by
      simp only [T, List.mem_cons, List.not_mem_nil, or_false] at hq
      rcases hq with rfl | rfl | rfl | rfl | rfl <;> exact absurd e (by decide)), tab_no rfl⟩
theorem x59 {w : World} {base : Heap} (c : He.SaysD fa fn K) : FdX ⟨R.prog, w, K, mg, base⟩ (lay K (cs.map (·.2))) T 59 (fds.getD 59 ⟨⟨0, 0, false, .nil⟩, [], [], ⟨.function, [], false, false, []⟩, [], none⟩) := by
  obtain ⟨fd, F⟩ := c.def_ 59 (d := d59) rfl
  exact ⟨_, _, _, fd, F, FunD.bindsN F (fun _ _ _ _ _ _ us hl => match us, hl with | [_, _], _ => rfl), (fun q hq e => by
      simp only [T, List.mem_cons, List.not_mem_nil, or_false] at hq
      rcases hq with rfl | rfl | rfl | rfl | rfl <;> exact absurd e (by decide)), tab_no rfl⟩
theorem x60 {w : World} {base : Heap} (c : He.SaysD fa fn K) : FdX ⟨R.prog, w, K, mg, base⟩ (lay K (cs.map (·.2))) T 60 (fds.getD 60 ⟨⟨0, 0, false, .nil⟩, [], [], ⟨.function, [], false, false, []⟩, [], none⟩) := by
  obtain ⟨fd, F⟩ := c.def_ 60 (d := d60) rfl
  exact ⟨_, _, _, fd, F, FunD.bindsN F (fun _ _ _ _ _ _ us hl => match us, hl with | [_, _], _ => rfl), (fun q hq e => by
      simp only [T, List.mem_cons, List.not_mem_nil, or_false] at hq
      rcases hq with rfl | rfl | rfl | rfl | rfl <;> exact absurd e (by decide)), tab_no rfl⟩
theorem x61 {w : World} {base : Heap} (c : He.SaysD fa fn K) : FdX ⟨R.prog, w, K, mg, base⟩ (lay K (cs.map (·.2))) T 61 (fds.getD 61 ⟨⟨0, 0, false, .nil⟩, [], [], ⟨.function, [], false, false, []⟩, [], none⟩) := by
  obtain ⟨fd, F⟩ := c.def_ 61 (d := d61) rfl
  exact ⟨_, _, _, fd, F, FunD.bindsN F (fun _ _ _ _ _ _ us hl => match us, hl with | [_, _], _ => rfl), (fun q hq e => by
      simp only [T, List.mem_cons, List.not_mem_nil, or_false] at hq
      rcases hq with rfl | rfl | rfl | rfl | rfl <;> exact absurd e (by decide)), tab_no rfl⟩
theorem x62 {w : World} {base : Heap} (c : He.SaysD fa fn K) : FdX ⟨R.prog, w, K, mg, base⟩ (lay K (cs.map (·.2))) T 62 (fds.getD 62 ⟨⟨0, 0, false, .nil⟩, [], [], ⟨.function, [], false, false, []⟩, [], none⟩) := by
  obtain ⟨fd, F⟩ := c.def_ 62 (d := d62) rfl
  exact ⟨_, _, _, fd, F, FunD.bindsN F (fun _ _ _ _ _ _ us hl => match us, hl with | [_], _ => rfl), (fun q hq e => by
      simp only [T, List.mem_cons, List.not_mem_nil, or_false] at hq
      rcases hq with rfl | rfl | rfl | rfl | rfl <;> exact absurd e (by decide)), tab_no rfl⟩
theorem x63 {w : World} {base : Heap} (c : He.SaysD fa fn K) : FdX ⟨R.prog, w, K, mg, base⟩ (lay K (cs.map (·.2))) T 63 (fds.getD 63 ⟨⟨0, 0, false, .nil⟩, [], [], ⟨.function, [], false, false, []⟩, [], none⟩) := by
  obtain ⟨fd, F⟩ := c.def_ 63 (d := d63) rfl
  exact ⟨_, _, _, fd, F, FunD.bindsN F (fun _ _ _ _ _ _ us hl => match us, hl with | [_, _], _ => rfl), (fun q hq e => by
      simp only [T, List.mem_cons, List.not_mem_nil, or_false] at hq
      rcases hq with rfl | rfl | rfl | rfl | rfl <;> exact absurd e (by decide)), tab_no rfl⟩
theorem x64 {w : World} {base : Heap} (c : He.SaysD fa fn K) : FdX ⟨R.prog, w, K, mg, base⟩ (lay K (cs.map (·.2))) T 64 (fds.getD 64 ⟨⟨0, 0, false, .nil⟩, [], [], ⟨.function, [], false, false, []⟩, [], none⟩) := by
  obtain ⟨fd, F⟩ := c.def_ 64 (d := d64) rfl
  exact ⟨_, _, _, fd, F, FunD.bindsN F (fun _ _ _ _ _ _ us hl => match us, hl with | [_, _], _ => rfl), (fun q hq e => by
      simp only [T, List.mem_cons, List.not_mem_nil, or_false] at hq
      rcases hq with rfl | rfl | rfl | rfl | rfl <;> exact absurd e (by decide)), tab_no rfl⟩
theorem x65 {w : World} {base : Heap} (c : He.SaysD fa fn K) : FdX ⟨R.prog, w, K, mg, base⟩ (lay K (cs.map (·.2))) T 65 (fds.getD 65 ⟨⟨0, 0, false, .nil⟩, [], [], ⟨.function, [], false, false, []⟩, [], none⟩) := by
  obtain ⟨fd, F⟩ := c.def_ 65 (d := d65) rfl
  exact ⟨_, _, _, fd, F, FunD.bindsN F (fun _ _ _ _ _ _ us hl => match us, hl with | [_, _], _ => rfl), (fun q hq e => by
      simp only [T, List.mem_cons, List.not_mem_nil, or_false] at hq
      rcases hq with rfl | rfl | rfl | rfl | rfl <;> exact absurd e (by decide)), tab_no rfl⟩
theorem x66 {w : World} {base : Heap} (c : He.SaysD fa fn K) : FdX ⟨R.prog, w, K, mg, base⟩ (lay K (cs.map (·.2))) T 66 (fds.getD 66 ⟨⟨0, 0, false, .nil⟩, [], [], ⟨.function, [], false, false, []⟩, [], none⟩) := by
  obtain ⟨fd, F⟩ := c.def_ 66 (d := d66) rfl
  exact ⟨_, _, _, fd, F, FunD.bindsN F (fun _ _ _ _ _ _ us hl => match us, hl with | [_], _ => rfl), (fun q hq e => by
      simp only [T, List.mem_cons, List.not_mem_nil, or_false] at hq
      rcases hq with rfl | rfl | rfl | rfl | rfl <;> exact absurd e (by decide)), tab_no rfl⟩
theorem x67 {w : World} {base : Heap} (c : He.SaysD fa fn K) : FdX ⟨R.prog, w, K, mg, base⟩ (lay K (cs.map (·.2))) T 67 (fds.getD 67 ⟨⟨0, 0, false, .nil⟩, [], [], ⟨.function, [], false, false, []⟩, [], none⟩) := by
  obtain ⟨fd, F⟩ := c.def_ 67 (d := d67) rfl
  exact ⟨_, _, _, fd, F, FunD.bindsN F (fun _ _ _ _ _ _ us hl => match us, hl with | [_], _ => rfl), (fun q hq e => by
      simp only [T, List.mem_cons, List.not_mem_nil, or_false] at hq
      rcases hq with rfl | rfl | rfl | rfl | rfl <;> exact absurd e (by decide)), tab_no rfl⟩
theorem x68 {w : World} {base : Heap} (c : He.SaysD fa fn K) : FdX ⟨R.prog, w, K, mg, base⟩ (lay K (cs.map (·.2))) T 68 (fds.getD 68 ⟨⟨0, 0, false, .nil⟩, [], [], ⟨.function, [], false, false, []⟩, [], none⟩) := by
  obtain ⟨fd, F⟩ := c.def_ 68 (d := d68) rfl
  exact ⟨_, _, _, fd, F, FunD.bindsN F (fun _ _ _ _ _ _ us hl => match us, hl with | [_, _], _ => rfl), (fun q hq e => by
      simp only [T, List.mem_cons, List.not_mem_nil, or_false] at hq
      rcases hq with rfl | rfl | rfl | rfl | rfl <;> exact absurd e (by decide)), tab_no rfl⟩
theorem x69 {w : World} {base : Heap} (c : He.SaysD fa fn K) : FdX ⟨R.prog, w, K, mg, base⟩ (lay K (cs.map (·.2))) T 69 (fds.getD 69 ⟨⟨0, 0, false, .nil⟩, [], [], ⟨.function, [], false, false, []⟩, [], none⟩) := by
  obtain ⟨fd, F⟩ := c.def_ 69 (d := d69) rfl
  exact ⟨_, _, _, fd, F, FunD.bindsN F (fun _ _ _ _ _ _ us hl => match us, hl with | [_], _ => rfl), (fun q hq e => by
      simp only [T, List.mem_cons, List.not_mem_nil, or_false] at hq
      rcases hq with rfl | rfl | rfl | rfl | rfl <;> exact absurd e (by decide)), tab_no rfl⟩
theorem x70 {w : World} {base : Heap} (c : He.SaysD fa fn K) : FdX ⟨R.prog, w, K, mg, base⟩ (lay K (cs.map (·.2))) T 70 (fds.getD 70 ⟨⟨0, 0, false, .nil⟩, [], [], ⟨.function, [], false, false, []⟩, [], none⟩) := by
  obtain ⟨fd, F⟩ := c.def_ 70 (d := d70) rfl
  exact ⟨_, _, _, fd, F, FunD.bindsN F (fun _ _ _ _ _ _ us hl => match us, hl with | [_], _ => rfl), (fun q hq e => by
      simp only [T, List.mem_cons, List.not_mem_nil, or_false] at hq
      rcases hq with rfl | rfl | rfl | rfl | rfl <;> exact absurd e (by decide)), tab_no rfl⟩
theorem xs {w : World} {base : Heap} (c : He.SaysD fa fn K) (W : Tabs0 K mg lam cs h0) (TB : ∀ p ∈ cs, LamX.TabB base mg p.1 p.2) : FdXs ⟨R.prog, w, K, mg, base⟩ (lay K (cs.map (·.2))) T fds 0 := ⟨x0 c, x1 c, x2 c, x3 c, x4 c, x5 c, x6 c, x7 c, x8 c, x9 c, x10 c, x11 c, x12 c, x13 c, x14 c, x15 c, x16 c, x17 c, x18 c, x19 c, x20 c, x21 c, x22 c, x23 c, x24 c, x25 c, x26 c, x27 c, x28 c, x29 c, x30 c, x31 c, x32 c, x33 c, x34 c, x35 c, x36 c, x37 c, x38 c W TB, x39 c, x40 c, x41 c, x42 c, x43 c, x44 c, x45 c, x46 c, x47 c, x48 c, x49 c, x50 c, x51 c, x52 c, x53 c, x54 c, x55 c, x56 c, x57 c, x58 c, x59 c, x60 c, x61 c, x62 c, x63 c, x64 c, x65 c, x66 c, x67 c, x68 c, x69 c, x70 c, trivial⟩
theorem fix {w : World} {base : Heap} (X : K.In h) (Gm : h.Ns mainGlobals mg) (c : He.SaysD fa fn K) (ct : tupsB K tcs = true) : GFix ⟨R.prog, w, K, mg, base⟩ (lay K (cs.map (·.2))) P T :=
  gfix (cls := cls) (names := nmL) rfl rfl (nmF_inj (by decide +kernel) (by decide +kernel)) (fun _ => rfl) rfl
    ⟨⟨He.cls_ok (c.fact 96 (f := .cls ("Lots" : Str)) rfl), He.mkr_ok (c.fact 97 (f := .mkr ("Lots" : Str)) rfl), rfl, ⟨He.meth_ok (c.fact 98 (f := .meth ("Lots" : Str) ("every" : Str)) rfl), He.meth_ok (c.fact 99 (f := .meth ("Lots" : Str) ("is_quiet" : Str)) rfl), He.meth_ok (c.fact 100 (f := .meth ("Lots" : Str) ("defended" : Str)) rfl), He.meth_ok (c.fact 101 (f := .meth ("Lots" : Str) ("is_held" : Str)) rfl), He.meth_ok (c.fact 102 (f := .meth ("Lots" : Str) ("is_whole" : Str)) rfl), He.meth_ok (c.fact 103 (f := .meth ("Lots" : Str) ("reached" : Str)) rfl), trivial⟩, ⟨fun _ => He.noat_ok (c.fact 104 (f := .noat ("Lots" : Str) ("many" : Str)) rfl), fun _ => He.noat_ok (c.fact 105 (f := .noat ("Lots" : Str) ("by" : Str)) rfl), fun _ => He.noat_ok (c.fact 106 (f := .noat ("Lots" : Str) ("onto" : Str)) rfl), fun _ => He.noat_ok (c.fact 107 (f := .noat ("Lots" : Str) ("struck" : Str)) rfl), fun _ => He.noat_ok (c.fact 108 (f := .noat ("Lots" : Str) ("needed" : Str)) rfl), fun h => absurd h (by decide), fun h => absurd h (by decide), fun h => absurd h (by decide), fun h => absurd h (by decide), fun h => absurd h (by decide), fun h => absurd h (by decide), trivial⟩⟩,
    trivial⟩
    ⟨⟨He.glo_ok X Gm (c.fact 0 (f := .glo ("_law_any" : Str)) rfl), rfl⟩,
    ⟨He.glo_ok X Gm (c.fact 1 (f := .glo ("_law_dice" : Str)) rfl), rfl⟩,
    ⟨He.glo_ok X Gm (c.fact 2 (f := .glo ("_law_every" : Str)) rfl), rfl⟩,
    ⟨He.glo_ok X Gm (c.fact 3 (f := .glo ("_law_field" : Str)) rfl), rfl⟩,
    ⟨He.glo_ok X Gm (c.fact 4 (f := .glo ("_law_foes" : Str)) rfl), rfl⟩,
    ⟨He.glo_ok X Gm (c.fact 5 (f := .glo ("_law_label" : Str)) rfl), rfl⟩,
    ⟨He.glo_ok X Gm (c.fact 6 (f := .glo ("_law_pick" : Str)) rfl), rfl⟩,
    ⟨He.glo_ok X Gm (c.fact 7 (f := .glo ("_law_quiet" : Str)) rfl), rfl⟩,
    ⟨He.glo_ok X Gm (c.fact 8 (f := .glo ("_law_right" : Str)) rfl), rfl⟩,
    ⟨He.glo_ok X Gm (c.fact 9 (f := .glo ("_law_rise" : Str)) rfl), rfl⟩,
    ⟨He.glo_ok X Gm (c.fact 10 (f := .glo ("_law_safe" : Str)) rfl), rfl⟩,
    ⟨He.glo_ok X Gm (c.fact 11 (f := .glo ("_law_struck" : Str)) rfl), rfl⟩,
    ⟨He.glo_ok X Gm (c.fact 12 (f := .glo ("_law_whole" : Str)) rfl), rfl⟩,
    ⟨He.glo_ok X Gm (c.fact 13 (f := .glo ("against_by" : Str)) rfl), rfl⟩,
    ⟨He.glo_ok X Gm (c.fact 14 (f := .glo ("all_within" : Str)) rfl), rfl⟩,
    ⟨He.glo_ok X Gm (c.fact 15 (f := .glo ("are_numbers_upto" : Str)) rfl), rfl⟩,
    ⟨He.glo_ok X Gm (c.fact 16 (f := .glo ("are_pairs_of" : Str)) rfl), rfl⟩,
    ⟨He.glo_ok X Gm (c.fact 17 (f := .glo ("are_words" : Str)) rfl), rfl⟩,
    ⟨He.glo_ok X Gm (c.fact 18 (f := .glo ("bits_by" : Str)) rfl), rfl⟩,
    ⟨He.glo_ok X Gm (c.fact 19 (f := .glo ("bits_of" : Str)) rfl), rfl⟩,
    ⟨He.glo_ok X Gm (c.fact 20 (f := .glo ("check_field" : Str)) rfl), rfl⟩,
    ⟨He.glo_ok X Gm (c.fact 21 (f := .glo ("check_lot" : Str)) rfl), rfl⟩,
    ⟨He.glo_ok X Gm (c.fact 22 (f := .glo ("check_sort" : Str)) rfl), rfl⟩,
    ⟨He.glo_ok X Gm (c.fact 23 (f := .glo ("check_sorted" : Str)) rfl), rfl⟩,
    ⟨He.glo_ok X Gm (c.fact 24 (f := .glo ("defended_by" : Str)) rfl), rfl⟩,
    ⟨He.glo_ok X Gm (c.fact 25 (f := .glo ("faults_by" : Str)) rfl), rfl⟩,
    ⟨He.glo_ok X Gm (c.fact 26 (f := .glo ("ground" : Str)) rfl), rfl⟩,
    ⟨He.glo_ok X Gm (c.fact 27 (f := .glo ("ground_by" : Str)) rfl), rfl⟩,
    ⟨He.glo_ok X Gm (c.fact 28 (f := .glo ("held_bits" : Str)) rfl), rfl⟩,
    ⟨He.glo_ok X Gm (c.fact 29 (f := .glo ("inner_bits" : Str)) rfl), rfl⟩,
    ⟨He.glo_ok X Gm (c.fact 30 (f := .glo ("is_ascending" : Str)) rfl), rfl⟩,
    ⟨He.glo_ok X Gm (c.fact 31 (f := .glo ("is_between" : Str)) rfl), rfl⟩,
    ⟨He.glo_ok X Gm (c.fact 32 (f := .glo ("is_field_by" : Str)) rfl), rfl⟩,
    ⟨He.glo_ok X Gm (c.fact 33 (f := .glo ("is_lot_by" : Str)) rfl), rfl⟩,
    ⟨He.glo_ok X Gm (c.fact 34 (f := .glo ("is_of" : Str)) rfl), rfl⟩,
    ⟨He.glo_ok X Gm (c.fact 35 (f := .glo ("is_pair_of" : Str)) rfl), rfl⟩,
    ⟨He.glo_ok X Gm (c.fact 36 (f := .glo ("is_right_at" : Str)) rfl), rfl⟩,
    ⟨He.glo_ok X Gm (c.fact 37 (f := .glo ("is_right_by" : Str)) rfl), rfl⟩,
    ⟨He.glo_ok X Gm (c.fact 38 (f := .glo ("is_right_label" : Str)) rfl), rfl⟩,
    ⟨He.glo_ok X Gm (c.fact 39 (f := .glo ("is_row" : Str)) rfl), rfl⟩,
    ⟨He.glo_ok X Gm (c.fact 40 (f := .glo ("is_string" : Str)) rfl), rfl⟩,
    ⟨He.glo_ok X Gm (c.fact 41 (f := .glo ("is_tuple_of" : Str)) rfl), rfl⟩,
    ⟨He.glo_ok X Gm (c.fact 42 (f := .glo ("is_whole_lots" : Str)) rfl), rfl⟩,
    ⟨He.glo_ok X Gm (c.fact 43 (f := .glo ("is_whole_plain" : Str)) rfl), rfl⟩,
    ⟨He.glo_ok X Gm (c.fact 44 (f := .glo ("is_within" : Str)) rfl), rfl⟩,
    ⟨He.glo_ok X Gm (c.fact 45 (f := .glo ("is_word_in" : Str)) rfl), rfl⟩,
    ⟨He.glo_ok X Gm (c.fact 46 (f := .glo ("label_by" : Str)) rfl), rfl⟩,
    ⟨He.glo_ok X Gm (c.fact 47 (f := .glo ("label_of" : Str)) rfl), rfl⟩,
    ⟨He.glo_ok X Gm (c.fact 49 (f := .glo ("lots_beside" : Str)) rfl), rfl⟩,
    ⟨He.glo_ok X Gm (c.fact 50 (f := .glo ("lots_by" : Str)) rfl), rfl⟩,
    ⟨He.glo_ok X Gm (c.fact 51 (f := .glo ("lots_of" : Str)) rfl), rfl⟩,
    ⟨He.glo_ok X Gm (c.fact 52 (f := .glo ("most_bits" : Str)) rfl), rfl⟩,
    ⟨He.glo_ok X Gm (c.fact 53 (f := .glo ("points_in" : Str)) rfl), rfl⟩,
    ⟨He.glo_ok X Gm (c.fact 54 (f := .glo ("quiet_sorts" : Str)) rfl), rfl⟩,
    ⟨He.glo_ok X Gm (c.fact 55 (f := .glo ("step_bits" : Str)) rfl), rfl⟩,
    ⟨He.glo_ok X Gm (c.fact 56 (f := .glo ("steps" : Str)) rfl), rfl⟩,
    ⟨He.glo_ok X Gm (c.fact 57 (f := .glo ("steps_by" : Str)) rfl), rfl⟩,
    ⟨He.glo_ok X Gm (c.fact 58 (f := .glo ("struck_by" : Str)) rfl), rfl⟩,
    ⟨He.glo_ok X Gm (c.fact 59 (f := .glo ("unions" : Str)) rfl), rfl⟩,
    ⟨He.glo_ok X Gm (c.fact 60 (f := .glo ("whole_bits" : Str)) rfl), rfl⟩,
    ⟨He.glo_ok X Gm (c.fact 61 (f := .glo ("wide_bits" : Str)) rfl), rfl⟩,
    ⟨He.glo_ok X Gm (c.fact 62 (f := .glo ("within_all" : Str)) rfl), rfl⟩,
    ⟨He.glo_ok X Gm (c.fact 63 (f := .glo ("word_by" : Str)) rfl), rfl⟩,
    trivial⟩
    ⟨⟨He.glo_ok X Gm (c.fact 64 (f := .glo ("Lots" : Str)) rfl), rfl⟩,
    trivial⟩
    ⟨(let ⟨t, e⟩ := He.str_ok X Gm (c.fact 82 (f := .str ("GROUND" : Str) ("ground" : Str)) rfl); ⟨_, .str ("ground" : Str), e, ⟨t, rfl⟩, fun _ H μ => rep_str (by decide +kernel) H μ⟩),
    (let ⟨t, e⟩ := He.str_ok X Gm (c.fact 83 (f := .str ("HELD" : Str) ("held" : Str)) rfl); ⟨_, .str ("held" : Str), e, ⟨t, rfl⟩, fun _ H μ => rep_str (by decide +kernel) H μ⟩),
    (let ⟨t, e⟩ := He.str_ok X Gm (c.fact 84 (f := .str ("IDEAL" : Str) ("ideal" : Str)) rfl); ⟨_, .str ("ideal" : Str), e, ⟨t, rfl⟩, fun _ H μ => rep_str (by decide +kernel) H μ⟩),
    (let ⟨t, e⟩ := He.str_ok X Gm (c.fact 85 (f := .str ("IN" : Str) ("in" : Str)) rfl); ⟨_, .str ("in" : Str), e, ⟨t, rfl⟩, fun _ H μ => rep_str (by decide +kernel) H μ⟩),
    (tup_tk X Gm (ts := tcs) ct 0 (x := ("LABEL_WORDS" : Str)) (vs := [(.str ("in" : Str)), (.str ("out" : Str)), (.str ("open" : Str))]) rfl rfl rfl),
    (let ⟨t, e⟩ := He.str_ok X Gm (c.fact 86 (f := .str ("LOOSE" : Str) ("loose" : Str)) rfl); ⟨_, .str ("loose" : Str), e, ⟨t, rfl⟩, fun _ H μ => rep_str (by decide +kernel) H μ⟩),
    (let ⟨t, e⟩ := He.str_ok X Gm (c.fact 87 (f := .str ("MOST" : Str) ("most" : Str)) rfl); ⟨_, .str ("most" : Str), e, ⟨t, rfl⟩, fun _ H μ => rep_str (by decide +kernel) H μ⟩),
    (let ⟨t, e⟩ := He.int_ok X Gm (c.fact 88 (f := .int ("MOST_POINTS" : Str) 8) rfl); ⟨_, .int 8, e, ⟨t, rfl⟩, fun _ _ _ => Rep.int_⟩),
    (let ⟨t, e⟩ := He.str_ok X Gm (c.fact 89 (f := .str ("OPEN" : Str) ("open" : Str)) rfl); ⟨_, .str ("open" : Str), e, ⟨t, rfl⟩, fun _ H μ => rep_str (by decide +kernel) H μ⟩),
    (let ⟨t, e⟩ := He.str_ok X Gm (c.fact 90 (f := .str ("OUT" : Str) ("out" : Str)) rfl); ⟨_, .str ("out" : Str), e, ⟨t, rfl⟩, fun _ H μ => rep_str (by decide +kernel) H μ⟩),
    (let ⟨t, e⟩ := He.str_ok X Gm (c.fact 91 (f := .str ("QUIET" : Str) ("quiet" : Str)) rfl); ⟨_, .str ("quiet" : Str), e, ⟨t, rfl⟩, fun _ H μ => rep_str (by decide +kernel) H μ⟩),
    (tup_tk X Gm (ts := tcs) ct 1 (x := ("SORTS" : Str)) (vs := [(.str ("quiet" : Str)), (.str ("held" : Str)), (.str ("whole" : Str)), (.str ("ground" : Str)), (.str ("loose" : Str)), (.str ("most" : Str)), (.str ("stable" : Str)), (.str ("wide" : Str)), (.str ("stage" : Str)), (.str ("ideal" : Str)), (.str ("eager" : Str))]) rfl rfl rfl),
    (let ⟨t, e⟩ := He.str_ok X Gm (c.fact 92 (f := .str ("STABLE" : Str) ("stable" : Str)) rfl); ⟨_, .str ("stable" : Str), e, ⟨t, rfl⟩, fun _ H μ => rep_str (by decide +kernel) H μ⟩),
    (let ⟨t, e⟩ := He.str_ok X Gm (c.fact 93 (f := .str ("STAGE" : Str) ("stage" : Str)) rfl); ⟨_, .str ("stage" : Str), e, ⟨t, rfl⟩, fun _ H μ => rep_str (by decide +kernel) H μ⟩),
    (let ⟨t, e⟩ := He.str_ok X Gm (c.fact 94 (f := .str ("WHOLE" : Str) ("whole" : Str)) rfl); ⟨_, .str ("whole" : Str), e, ⟨t, rfl⟩, fun _ H μ => rep_str (by decide +kernel) H μ⟩),
    (let ⟨t, e⟩ := He.str_ok X Gm (c.fact 95 (f := .str ("WIDE" : Str) ("wide" : Str)) rfl); ⟨_, .str ("wide" : Str), e, ⟨t, rfl⟩, fun _ H μ => rep_str (by decide +kernel) H μ⟩),
    trivial⟩
    ⟨He.free_ok X Gm (c.fact 65 (f := .free ("abs" : Str)) rfl),
    He.free_ok X Gm (c.fact 66 (f := .free ("all" : Str)) rfl),
    He.free_ok X Gm (c.fact 67 (f := .free ("any" : Str)) rfl),
    He.free_ok X Gm (c.fact 68 (f := .free ("bool" : Str)) rfl),
    He.free_ok X Gm (c.fact 69 (f := .free ("divmod" : Str)) rfl),
    He.free_ok X Gm (c.fact 70 (f := .free ("int" : Str)) rfl),
    He.free_ok X Gm (c.fact 71 (f := .free ("isinstance" : Str)) rfl),
    He.free_ok X Gm (c.fact 72 (f := .free ("len" : Str)) rfl),
    He.free_ok X Gm (c.fact 73 (f := .free ("list" : Str)) rfl),
    He.free_ok X Gm (c.fact 74 (f := .free ("range" : Str)) rfl),
    He.free_ok X Gm (c.fact 75 (f := .free ("repr" : Str)) rfl),
    He.free_ok X Gm (c.fact 76 (f := .free ("set" : Str)) rfl),
    He.free_ok X Gm (c.fact 77 (f := .free ("sorted" : Str)) rfl),
    He.free_ok X Gm (c.fact 78 (f := .free ("str" : Str)) rfl),
    He.free_ok X Gm (c.fact 79 (f := .free ("sum" : Str)) rfl),
    He.free_ok X Gm (c.fact 80 (f := .free ("tuple" : Str)) rfl),
    He.free_ok X Gm (c.fact 81 (f := .free ("zip" : Str)) rfl),
    trivial⟩ rfl
theorem lam_glo (X : K.In h) (Gm : h.Ns mainGlobals mg) (c : He.SaysD fa fn K) : ∀ x ∈ lam, mg x = some (.ref (He.ga K x)) := fun x hx => by
  simp only [lam, List.mem_cons, List.not_mem_nil, or_false] at hx
  rcases hx with rfl
  · exact He.glo_ok X Gm (c.fact 50 (f := .glo ("lots_by" : Str)) rfl)
theorem facts {w : World} {f : Addr} (n : Nat) (math : ∀ ns : List Int, ns.length ≤ 63 → ∃ st', callF P n lawF [.set (ns.map PV.int)] (tabs0 lam.length) = .ok (.bl true) st') (X : K.In h) (Gm : h.Ns mainGlobals mg) (hfa : mg ("law" : Str) = some (.ref f)) (c : He.SaysD fa fn K) (ct : tupsB K tcs = true) (W : Tabs0 K mg lam cs h0) :
    ∀ base : Heap, K.In base → base.Ns mainGlobals mg → (∀ p ∈ cs, LamX.TabB base mg p.1 p.2) → ∃ fd ps, Binds K fd ps [] ∧ FnG R.prog w K mg base (3 * n) f fd ps (spLaw K (cs.map (·.2))) := by
  have e := hfa.symm.trans (He.glo_ok X Gm (c.fact 48 (f := .glo "law") rfl))
  cases e
  intro base _ _ TB
  obtain ⟨fd, ps, FA, hps, _⟩ := fns_ok (pins := 0) (fix (w := w) (base := base) (cs := cs) X Gm c ct) (funs_of (fds := fds) (fun f => by show fus[f]? = _; rw [← List.getElem?_map]; rfl) chk_all (xs c W TB)) n lawF _ rfl
  have hl : lam.length = (cs.map (·.2)).length := by rw [List.length_map]; exact W.len
  exact ⟨fd, ps, FA.bn, FA.ok.law (law_sp rfl hps rfl W.nd (by rw [← hl]; exact math))⟩
end
end LP

open PySem PySem.W PySem.Calls PyProof.Rows
theorem PySem.Challenge.cw_contendings_k40_whole_ground_by_steps_an_holds : PySem.Challenge.rw_contendings_k40_whole_ground_by_steps_an.Holds := by
  w_on; o_law
  refine HandSHeadRun.head_any (r := LP.R) (q := view LP.R.prog [61, 103]) (H := LP.hk) (ob := LP.ob) (M := 6000) (loose := LP.loose) (d := HandSHeadRun.topDef LP.R.prog 103) (kwd := []) LP.ob_eq (by kernel_rfl) (fun s => by kernel_rfl)
    LP.run (by kernel_rfl) (by kernel_rfl) (by kernel_rfl) (by rfl) (by first | assumption | decide +kernel) (by decide +kernel) ⟨rfl, rfl, rfl, rfl, rfl, by decide +kernel⟩ ?hw ?hc
  case hw => w_witness2
  case hc =>
    refine MP.walkTb (l := PySem.Challenge.rw_contendings_k40_whole_ground_by_steps_an) (lam := LP.lam) (n := 63) (k := 3 * 40) rfl (by decide) (by kernel_rfl) ⟨rfl, by decide, by decide⟩ (by decide +kernel) ?F
    intro w mg fa h Y Gm hmg0
    obtain ⟨K, KX, c, hB, ct⟩ := Y
    have hmg : mg ("law" : PySem.Str) = some (.ref fa) := by
      have e : (HandSHeadRun.topDef LP.R.prog 103).name = ("law" : PySem.Str) := by kernel_rfl
      rw [← e]
      exact hmg0
    refine ⟨K, KX, hB, LP.lam_glo KX Gm c, fun cs W => ⟨MP.spLaw K (List.map (fun x : PySem.Addr × PySem.Addr => x.2) cs), fun H a ns hl ht hne hS => ⟨a, ns, rfl, hS, hl, fun p hp => ?_, fun hp => ?_, fun _ => rfl⟩, LP.facts 40 LP.math KX Gm hmg c ct W⟩⟩
    · obtain ⟨q, hq, rfl⟩ := List.mem_map.mp hp
      exact ht q hq
    · obtain ⟨q, hq, e⟩ := List.mem_map.mp hp
      exact hne q hq e

