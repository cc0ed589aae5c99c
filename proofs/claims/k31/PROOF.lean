import PyProof.Rows.All
import HandS.ForMost
import HandS.ForExc
import HandS.Flow
import HandS.Style
import HandS.Conv
import HandS.Zip
import HandS.Deep
import HandS.IsInst
import HandS.TupAny
import HandS.TupMul
import HandS.StrMore
import HandS.Dict
import KE.GoesZip
import KE.GoesMore
import KE.GoesEnum
import KE.KDictZip
import HandS.RepeatKit
import HandS.SetFor
import KE.KIndexOf
import HandS.SortInts
import HandS.SortRule
import HandS.NoneIn
import PySem.Challenge.RW_allfolded_k31_whole_maps_and_stacks
set_option Elab.async false
set_option linter.all false
set_option maxRecDepth 100000
set_option maxHeartbeats 4000000
/-! RF: a small language over data, its meaning, and what ties it to the given text. -/
namespace RF
open PySem (Str Operator CmpOp)

/-! ### data -/
inductive D where
  | non | bl (b : Bool) | int (i : Int) | str (s : Str) | tup (ds : List D) | lst (ds : List D) | ref (n : Nat) | ty (n : String) | fn (i : Nat) | dct (ks : List (Int ⊕ Str)) (vs : List D)
deriving Inhabited
mutual
def D.beq : D → D → Bool
  | .non, .non => true
  | .bl a, .bl b => a == b
  | .int a, .int b => a == b
  | .str a, .str b => decide (a = b)
  | .tup a, .tup b => D.beqs a b
  | .lst a, .lst b => D.beqs a b
  | .ref a, .ref b => a == b
  | .ty a, .ty b => a == b
  | .fn a, .fn b => a == b
  | .dct a b, .dct c d => decide (a = c) && D.beqs b d
  | _, _ => false
def D.beqs : List D → List D → Bool
  | [], [] => true
  | x :: xs, y :: ys => D.beq x y && D.beqs xs ys
  | _, _ => false
end
mutual
theorem D.beq_eq : ∀ {a b : D}, D.beq a b = true → a = b
  | .non, b, h => by cases b <;> simp_all [D.beq]
  | .bl _, b, h => by cases b <;> simp_all [D.beq]
  | .int _, b, h => by cases b <;> simp_all [D.beq]
  | .str _, b, h => by cases b <;> simp_all [D.beq]
  | .tup a, .tup b, h => by rw [D.beq] at h; rw [D.beqs_eq h]
  | .lst a, .lst b, h => by rw [D.beq] at h; rw [D.beqs_eq h]
  | .dct a b, .dct c d, h => by rw [D.beq, Bool.and_eq_true, decide_eq_true_eq] at h; rw [h.1, D.beqs_eq h.2]
  | .ref _, b, h => by cases b <;> simp_all [D.beq]
  | .ty _, b, h => by cases b <;> simp_all [D.beq]
  | .fn _, b, h => by cases b <;> simp_all [D.beq]
  | .tup _, .non, h | .tup _, .bl _, h | .tup _, .int _, h | .tup _, .str _, h | .tup _, .lst _, h | .tup _, .ref _, h | .tup _, .ty _, h | .tup _, .fn _, h | .tup _, .dct _ _, h => by simp [D.beq] at h
  | .lst _, .non, h | .lst _, .bl _, h | .lst _, .int _, h | .lst _, .str _, h | .lst _, .tup _, h | .lst _, .ref _, h | .lst _, .ty _, h | .lst _, .fn _, h | .lst _, .dct _ _, h => by simp [D.beq] at h
  | .dct _ _, .non, h | .dct _ _, .bl _, h | .dct _ _, .int _, h | .dct _ _, .str _, h | .dct _ _, .lst _, h | .dct _ _, .tup _, h | .dct _ _, .ref _, h | .dct _ _, .ty _, h | .dct _ _, .fn _, h => by simp [D.beq] at h
theorem D.beqs_eq : ∀ {a b : List D}, D.beqs a b = true → a = b
  | [], [], _ => rfl
  | [], _ :: _, h => by simp [D.beqs] at h
  | _ :: _, [], h => by simp [D.beqs] at h
  | x :: xs, y :: ys, h => by
    rw [D.beqs, Bool.and_eq_true] at h
    rw [D.beq_eq h.1, D.beqs_eq h.2]
end
mutual
theorem D.beq_self : ∀ a : D, D.beq a a = true
  | .non => rfl
  | .bl _ => by simp [D.beq]
  | .int _ => by simp [D.beq]
  | .str _ => by simp [D.beq]
  | .tup a => by rw [D.beq]; exact D.beqs_self a
  | .lst a => by rw [D.beq]; exact D.beqs_self a
  | .ref _ => by simp [D.beq]
  | .ty _ => by simp [D.beq]
  | .fn _ => by simp [D.beq]
  | .dct _ b => by rw [D.beq, D.beqs_self b]; simp
theorem D.beqs_self : ∀ a : List D, D.beqs a a = true
  | [] => rfl
  | x :: xs => by rw [D.beqs, D.beq_self x, D.beqs_self xs]; rfl
end
@[simp] theorem D.beq_rfl (a : D) : D.beq a a = true := D.beq_self a
@[simp] theorem D.beqs_rfl (a : List D) : D.beqs a a = true := D.beqs_self a

/-- an object that may change -/
inductive MO where
  | dead | lst (ds : List D)
deriving Inhabited
def MO.beq : MO → MO → Bool
  | .dead, .dead => true
  | .lst a, .lst b => D.beqs a b
  | _, _ => false
theorem MO.beq_eq : ∀ {a b : MO}, MO.beq a b = true → a = b
  | .dead, .dead, _ => rfl
  | .lst _, .lst _, h => by rw [D.beqs_eq h]
  | .dead, .lst _, h => by simp [MO.beq] at h
  | .lst _, .dead, h => by simp [MO.beq] at h
@[simp] theorem MO.beq_self : ∀ a : MO, MO.beq a a = true
  | .dead => rfl
  | .lst a => D.beqs_self a
abbrev Mh := List MO

-- all references lie below n
mutual
def D.low (n : Nat) : D → Bool
  | .ref i => decide (i < n)
  | .tup ds => D.lows n ds
  | .dct _ ds => D.lows n ds
  | .lst ds => D.lows n ds
  | _ => true
def D.lows (n : Nat) : List D → Bool
  | [] => true
  | d :: ds => D.low n d && D.lows n ds
end
-- data without references
mutual
def D.nr : D → Bool
  | .ref _ => false
  | .tup ds => D.nrs ds
  | .dct _ ds => D.nrs ds
  | .lst ds => D.nrs ds
  | _ => true
def D.nrs : List D → Bool
  | [] => true
  | d :: ds => D.nr d && D.nrs ds
end
def MO.low (n : Nat) : MO → Bool
  | .dead => true
  | .lst ds => D.lows n ds

-- how deep data lie within one another, at most n
mutual
def D.dep : Nat → D → Bool
  | _, .non | _, .bl _ | _, .int _ | _, .str _ => true
  | n + 1, .tup ds => D.deps n ds
  | n + 1, .lst ds => D.deps n ds
  | _, _ => false
def D.deps : Nat → List D → Bool
  | _, [] => true
  | n, d :: ds => D.dep n d && D.deps n ds
end
-- equality as the language has it
mutual
def D.eqv : D → D → Bool
  | .non, .non => true
  | .bl a, .bl b => a == b
  | .bl a, .int j => (if a then 1 else 0) == j
  | .int i, .bl b => i == (if b then 1 else 0)
  | .int i, .int j => i == j
  | .str x, .str y => x == y
  | .lst xs, .lst ys => D.eqvs xs ys
  | .tup xs, .tup ys => D.eqvs xs ys
  | _, _ => false
def D.eqvs : List D → List D → Bool
  | [], [] => true
  | x :: xs, y :: ys => D.eqv x y && D.eqvs xs ys
  | _, _ => false
end

/-! ### what comes of a run -/
inductive R (α : Type) where
  | ok (a : α) (M : Mh) | exc (c : Nat) (fs : List D) (M : Mh) | bad
def R.bind {α β : Type} : R α → (α → Mh → R β) → R β
  | .ok a M, f => f a M
  | .exc c fs M, _ => .exc c fs M
  | .bad, _ => .bad
@[simp] theorem R.bind_ok {α β : Type} {a : α} {M : Mh} {f : α → Mh → R β} : (R.ok a M).bind f = f a M := (rfl)
@[simp] theorem R.bind_exc {α β : Type} {c : Nat} {fs : List D} {M : Mh} {f : α → Mh → R β} : (R.exc c fs M).bind f = .exc c fs M := (rfl)
@[simp] theorem R.bind_bad {α β : Type} {f : α → Mh → R β} : (R.bad).bind f = .bad := (rfl)

/-- no exception goes on -/
def R.only {α β : Type} : R α → (α → Mh → R β) → R β
  | .ok a M, f => f a M
  | _, _ => .bad
@[simp] theorem R.only_ok {α β : Type} {a : α} {M : Mh} {f : α → Mh → R β} : (R.ok a M).only f = f a M := (rfl)
@[simp] theorem R.only_exc {α β : Type} {c : Nat} {fs : List D} {M : Mh} {f : α → Mh → R β} : (R.exc c fs M).only f = .bad := (rfl)
@[simp] theorem R.only_bad {α β : Type} {f : α → Mh → R β} : (R.bad).only f = .bad := (rfl)

abbrev LINE : Nat := 16777216
/-- an object that is read: a tuple (true), a list (false), its items -/
def seqOf (M : Mh) : D → Option (Bool × List D)
  | .tup ds => some (true, ds)
  | .lst ds => some (false, ds)
  | .ref n => match M[n]? with
    | some (.lst ds) => some (false, ds)
    | _ => none
  | _ => none
/-- a changing list as it is now -/
def rd (M : Mh) : D → D
  | .ref n => match M[n]? with
    | some (.lst ds) => .lst ds
    | _ => .ref n
  | d => d
def truD (M : Mh) : D → Option Bool
  | .non => some false
  | .bl b => some b
  | .int i => some (i != 0)
  | .str s => some ((s.length : Int) != 0)
  | .tup ds => some (!ds.isEmpty)
  | .lst ds => some (!ds.isEmpty)
  | .ref n => match M[n]? with
    | some (.lst ds) => some (!ds.isEmpty)
    | _ => none
  | _ => none
def ofO {α : Type} (M : Mh) : Option α → R α
  | some a => .ok a M
  | none => .bad

/-! ### operators -/
def mulOk (i j : Int) : Bool := decide (i.natAbs < 18446744073709551616) || decide (j.natAbs < 18446744073709551616)
def divOk (j : Int) : Bool := decide (j ≠ 0) && decide (j.natAbs < 1073741824)
def powOk (i j : Int) : Bool := decide (0 ≤ j) && decide (j ≤ 1000000) && decide (i.natAbs < 18446744073709551616)
def strRep (x : Str) (n : Int) : Str := if n < 1 then Str.empty else ⟨(List.replicate n.toNat x.cps.toList).flatten.toArray⟩
def binD (op : Operator) (x y : D) (M : Mh) : R D :=
  match op, x, y with
  | .Add, .int i, .int j => .ok (.int (i + j)) M
  | .Sub, .int i, .int j => .ok (.int (i - j)) M
  | .Mult, .int i, .int j => if mulOk i j then .ok (.int (i * j)) M else .bad
  | .FloorDiv, .int i, .int j => if divOk j then .ok (.int (i.fdiv j)) M else .bad
  | .Mod, .int i, .int j => if j = 0 then .bad else .ok (.int (i.fmod j)) M
  | .Pow, .int i, .int j => if powOk i j then .ok (.int (i ^ j.toNat)) M else .bad
  | .Add, .str a, .str b => if a.length + b.length ≤ LINE then .ok (.str (a ++ b)) M else .bad
  | .Add, .tup a, .tup b => if a.length + b.length ≤ LINE then .ok (.tup (a ++ b)) M else .bad
  | .Mult, .tup a, .int k => if a.length ≤ 1000 && decide (k ≤ 1000) && decide (-1000 ≤ k) then .ok (.tup (List.replicate k.toNat a).flatten) M else .bad
  | .Mult, .str a, .int k => if a.length ≤ 1000 && decide (k ≤ 1000) && decide (-1000 ≤ k) then .ok (.str (strRep a k)) M else .bad
  | .Add, x, y => match seqOf M x, seqOf M y with
    | some (false, a), some (false, b) => if a.length + b.length ≤ LINE then .ok (.lst (a ++ b)) M else .bad
    | _, _ => .bad
  | _, _, _ => .bad
def inStr (i j : Str) : Bool :=
  match i.cps.toList with
  | [c] => decide (c ∈ j.cps.toList)
  | _ => !(PySem.Builtin.Str.occurrences j i 0 j.length 1).isEmpty
/-- equality, of data that are not too deep -/
def eqD (M : Mh) (x y : D) : Option Bool :=
  if (rd M x).dep 60 && (rd M y).dep 60 then some (D.eqv (rd M x) (rd M y)) else none
def D.flat : D → Bool
  | .non | .bl _ | .int _ | .str _ => true
  | _ => false
/-- a key of a dict -/
def keyD : D → Option (Int ⊕ Str)
  | .int i => some (.inl i)
  | .str s => some (.inr s)
  | _ => none
def lookK : List (Int ⊕ Str) → List D → (Int ⊕ Str) → Option D
  | k :: ks, v :: vs, q => if k = q then some v else lookK ks vs q
  | _, _, _ => none
/-- pairs of keys and values -/
def pairsD : List D → Option (List (Int ⊕ Str) × List D)
  | [] => some ([], [])
  | .tup [k, v] :: r => match keyD k, pairsD r with
    | some q, some (ks, vs) => some (q :: ks, v :: vs)
    | _, _ => none
  | _ => none
def inD (M : Mh) (x y : D) : Option Bool :=
  match y with
  | .dct ks _ => (keyD x).map fun k => ks.any fun q => decide (q = k)
  | .str j => match x with
    | .str i => some (inStr i j)
    | _ => none
  | _ => match seqOf M y with
    | some (_, ds) => if (x.flat && ds.all D.flat) || (x.dep 60 && D.deps 59 ds) then some (ds.any fun z => D.eqv z x) else none
    | none => none
def strLt (a b : Str) : Bool := decide (a.cps.toList < b.cps.toList)
def cmpD (op : CmpOp) (x y : D) (M : Mh) : R D :=
  match op with
  | .Eq => ofO M ((eqD M x y).map D.bl)
  | .NotEq => ofO M ((eqD M x y).map fun b => D.bl (!b))
  | .Lt => match x, y with
    | .int i, .int j => .ok (.bl (decide (i < j))) M
    | .str i, .str j => .ok (.bl (strLt i j)) M
    | _, _ => .bad
  | .LtE => match x, y with
    | .int i, .int j => .ok (.bl (decide (i ≤ j))) M
    | .str i, .str j => .ok (.bl (!strLt j i)) M
    | _, _ => .bad
  | .Gt => match x, y with
    | .int i, .int j => .ok (.bl (decide (j < i))) M
    | .str i, .str j => .ok (.bl (strLt j i)) M
    | _, _ => .bad
  | .GtE => match x, y with
    | .int i, .int j => .ok (.bl (decide (j ≤ i))) M
    | .str i, .str j => .ok (.bl (!strLt i j)) M
    | _, _ => .bad
  | .In => ofO M ((inD M x y).map D.bl)
  | .NotIn => ofO M ((inD M x y).map fun b => D.bl (!b))
  | .Is => match y with
    | .non => .ok (.bl (match x with | .non => true | _ => false)) M
    | .bl b => match x with
      | .bl a => .ok (.bl (decide (a = b))) M
      | _ => .bad
    | _ => .bad
  | .IsNot => match y with
    | .non => .ok (.bl (match x with | .non => false | _ => true)) M
    | .bl b => match x with
      | .bl a => .ok (.bl (!decide (a = b))) M
      | _ => .bad
    | _ => .bad

/-! ### built-ins -/
inductive Bi where
  | len | abs | int | min | max | sum | all | any | tuple | list | isinst | str | sorted | dict
deriving DecidableEq
def intsD : List D → Option (List Int)
  | [] => some []
  | .int i :: r => (intsD r).map (i :: ·)
  | _ => none
def blsD : List D → Option (List Bool)
  | [] => some []
  | .bl i :: r => (blsD r).map (i :: ·)
  | _ => none
def strsD : List D → Option (List Str)
  | [] => some []
  | .str i :: r => (strsD r).map (i :: ·)
  | _ => none
def maxI : List Int → Option Int
  | [] => none
  | x :: xs => some (xs.foldl (fun m y => if y > m then y else m) x)
def minI : List Int → Option Int
  | [] => none
  | x :: xs => some (xs.foldl (fun m y => if y < m then y else m) x)
/-- the name of a value's type -/
def tyOf (M : Mh) : D → Option String
  | .non => some "NoneType"
  | .bl _ => some "bool"
  | .int _ => some "int"
  | .str _ => some "str"
  | .tup _ => some "tuple"
  | .lst _ => some "list"
  | .ref n => match M[n]? with
    | some (.lst _) => some "list"
    | _ => none
  | _ => none
def isTy (a b : String) : Option Bool :=
  if b == "int" || b == "bool" || b == "str" || b == "tuple" || b == "list" || b == "dict" then
    if a == b then some true else
    if a == "bool" && b == "int" then some true else
    if a == "NoneType" || a == "bool" || a == "int" || a == "str" || a == "tuple" || a == "list" then some false else none
  else none
def signs (s : Str) : List D := s.cps.toList.map fun c => .str ⟨#[c]⟩
def insStr (x : Str) : List Str → List Str
  | [] => [x]
  | y :: ys => if strLt y x then y :: insStr x ys else x :: y :: ys
def sortStr : List Str → List Str
  | [] => []
  | x :: xs => insStr x (sortStr xs)
def insInt (x : Int) : List Int → List Int
  | [] => [x]
  | y :: ys => if y < x then y :: insInt x ys else x :: y :: ys
def sortInt : List Int → List Int
  | [] => []
  | x :: xs => insInt x (sortInt xs)
def lexL : List Int → List Int → Bool
  | [], [] => false
  | [], _ :: _ => true
  | _ :: _, [] => false
  | x :: xs, y :: ys => if x = y then lexL xs ys else decide (x < y)
def insL (x : List Int) : List (List Int) → List (List Int)
  | [] => [x]
  | y :: ys => if lexL y x then y :: insL x ys else x :: y :: ys
def sortL : List (List Int) → List (List Int)
  | [] => []
  | x :: xs => insL x (sortL xs)
def tupsD : List D → Option (List (List Int))
  | [] => some []
  | .tup ds :: r => match intsD ds with
    | some (x :: l) => (tupsD r).map ((x :: l) :: ·)
    | _ => none
  | _ => none
def ltK : Int ⊕ Str → Int ⊕ Str → Bool
  | .inl i, .inl j => decide (i < j)
  | .inr s, .inr t => decide (s.cps.toList < t.cps.toList)
  | .inl _, .inr _ => true
  | .inr _, .inl _ => false
def lexK : List (Int ⊕ Str) → List (Int ⊕ Str) → Bool
  | [], [] => false
  | [], _ :: _ => true
  | _ :: _, [] => false
  | x :: xs, y :: ys => if x = y then lexK xs ys else ltK x y
def insK (x : List (Int ⊕ Str)) : List (List (Int ⊕ Str)) → List (List (Int ⊕ Str))
  | [] => [x]
  | y :: ys => if lexK y x then y :: insK x ys else x :: y :: ys
def sortK : List (List (Int ⊕ Str)) → List (List (Int ⊕ Str))
  | [] => []
  | x :: xs => insK x (sortK xs)
def rowD : List D → Option (List (Int ⊕ Str))
  | [] => some []
  | d :: ds => match keyD d, rowD ds with
    | some k, some l => some (k :: l)
    | _, _ => none
def rowsD : List D → Option (List (List (Int ⊕ Str)))
  | [] => some []
  | .tup ds :: r => match rowD ds, rowsD r with
    | some l, some ls => some (l :: ls)
    | _, _ => none
  | _ => none
/-- all of one shape, with a whole number ahead -/
def rowsB (sh : List Bool) : List (List (Int ⊕ Str)) → Bool
  | [] => true
  | l :: ls => decide (l.map (·.isLeft) = sh) && rowsB sh ls
def kDD : Int ⊕ Str → D
  | .inl i => .int i
  | .inr s => .str s
/-- the items in order: whole numbers, texts, or tuples of whole numbers -/
def sortD (xs : List D) : Option (List D) :=
  match intsD xs with
  | some l => some ((sortInt l).map D.int)
  | none => match strsD xs with
    | some l => if l.length < 64 then some ((sortStr l).map D.str) else none
    | none => match tupsD xs with
      | some l => some ((sortL l).map fun q => D.tup (q.map D.int))
      | none => match rowsD xs with
        | some ls => match ls with
          | (.inl i :: r) :: _ => if rowsB ((Sum.inl i :: r).map (·.isLeft)) ls then some ((sortK ls).map fun q => D.tup (q.map kDD)) else none
          | _ => none
        | none => none
def biD (b : Bi) (ds : List D) (M : Mh) : R D :=
  match b, ds with
  | .len, [.str s] => .ok (.int s.length) M
  | .len, [d] => match seqOf M d with
    | some (_, xs) => .ok (.int xs.length) M
    | none => .bad
  | .abs, [.int i] => .ok (.int (if i < 0 then -i else i)) M
  | .int, [.int i] => .ok (.int i) M
  | .int, [.bl b] => .ok (.int (if b then 1 else 0)) M
  | .str, [.int i] => if i.natAbs.log2 < 1920 then .ok (.str (toString i)) M else .bad
  | .max, [.int i, .int j] => .ok (.int (if j > i then j else i)) M
  | .min, [.int i, .int j] => .ok (.int (if j < i then j else i)) M
  | .max, [d] => match seqOf M d with
    | some (_, xs) => ofO M (((intsD xs).bind maxI).map D.int)
    | none => .bad
  | .min, [d] => match seqOf M d with
    | some (_, xs) => ofO M (((intsD xs).bind minI).map D.int)
    | none => .bad
  | .sum, [d] => match seqOf M d with
    | some (false, xs) => ofO M ((intsD xs).map fun l => D.int l.sum)
    | _ => .bad
  | .all, [d] => match seqOf M d with
    | some (false, xs) => ofO M ((blsD xs).map fun l => D.bl (l.all id))
    | _ => .bad
  | .any, [d] => match seqOf M d with
    | some (false, xs) => ofO M ((blsD xs).map fun l => D.bl (l.any id))
    | _ => .bad
  | .tuple, [.str s] => .ok (.tup (signs s)) M
  | .tuple, [d] => match seqOf M d with
    | some (_, xs) => .ok (.tup xs) M
    | none => .bad
  | .sorted, [d] => match seqOf M d with
    | some (false, xs) => match sortD xs with
      | some ys => .ok (.lst ys) M
      | none => .bad
    | some (true, xs) => match intsD xs with
      | some l => .ok (.lst ((sortInt l).map D.int)) M
      | none => match tupsD xs with
        | some l => .ok (.lst ((sortL l).map fun q => D.tup (q.map D.int))) M
        | none => .bad
    | none => .bad
  | .dict, [d] => match seqOf M d with
    | some (false, xs) => match pairsD xs with
      | some (ks, vs) => if ks.Nodup ∧ ks.length ≤ LINE then .ok (.dct ks vs) M else .bad
      | none => .bad
    | _ => .bad
  | .list, [.str s] => .ok (.lst (signs s)) M
  | .list, [d] => match seqOf M d with
    | some (_, xs) => .ok (.lst xs) M
    | none => .bad
  | .isinst, [d, .ty n] => match tyOf M d with
    | some t => ofO M ((isTy t n).map D.bl)
    | none => .bad
  | _, _ => .bad

def rngOk (i : Int) : Bool := decide (i.natAbs < 4611686018427387904)
/-! ### methods -/
inductive Mt where
  | append | join | find | count | pop | reverse | extend | index
deriving DecidableEq
/-- the receiver is of the method's type -/
def mtOk (m : Mt) (d : D) (M : Mh) : Bool :=
  match m, d with
  | .append, .ref n => match M[n]? with
    | some (.lst _) => true
    | _ => false
  | .append, _ => false
  | .pop, .ref n => match M[n]? with
    | some (.lst _) => true
    | _ => false
  | .pop, _ => false
  | .reverse, .ref n => match M[n]? with
    | some (.lst _) => true
    | _ => false
  | .reverse, _ => false
  | .extend, .ref n => match M[n]? with
    | some (.lst _) => true
    | _ => false
  | .extend, _ => false
  | .index, d => match seqOf M d with
    | some _ => true
    | none => false
  | .count, .lst _ => true
  | _, .str _ => true
  | _, _ => false
def mtD (m : Mt) (o : D) (ds : List D) (M : Mh) : R D :=
  match m, o, ds with
  | .append, .ref n, [d] => match M[n]? with
    | some (.lst xs) => if xs.length < LINE then .ok .non (M.set n (.lst (xs ++ [d]))) else .bad
    | _ => .bad
  | .join, .str a, [d] => match seqOf M d with
    | some (_, xs) => match strsD xs with
      | some ys => if (ys.map Str.length).sum + ys.length * a.length ≤ LINE then .ok (.str (Str.join a ys)) M else .bad
      | none => .bad
    | none => .bad
  | .find, .str a, [.str b] => .ok (.int (PySem.Txt.find a b)) M
  | .count, .str a, [.str b] => .ok (.int (PySem.Txt.count a b)) M
  | .count, .lst xs, [.str b] => match strsD xs with
    | some l => .ok (.int ((l.filter fun s => decide (s = b)).length : Nat)) M
    | none => .bad
  | .pop, .ref n, [] => match M[n]? with
    | some (.lst xs) => match xs[xs.length - 1]? with
      | some y => .ok y (M.set n (.lst xs.dropLast))
      | none => .bad
    | _ => .bad
  | .pop, .ref n, [.int i] => match M[n]? with
    | some (.lst xs) => if rngOk i then (match L2.ixN xs.length i with
      | some k => match xs[k]? with
        | some y => .ok y (M.set n (.lst (xs.eraseIdx k)))
        | none => .bad
      | none => .bad) else .bad
    | _ => .bad
  | .reverse, .ref n, [] => match M[n]? with
    | some (.lst xs) => .ok .non (M.set n (.lst xs.reverse))
    | _ => .bad
  | .extend, .ref n, [.ref m] => if n = m then .bad else match M[n]?, M[m]? with
    | some (.lst xs), some (.lst ys) => if xs.length + ys.length ≤ LINE then .ok .non (M.set n (.lst (xs ++ ys))) else .bad
    | _, _ => .bad
  | .index, o, [.int i] => match seqOf M o with
    | some (_, xs) => match intsD xs with
      | some l => if l.length ≤ LINE && decide (i ∈ l) then .ok (.int (l.idxOf i : Nat)) M else .bad
      | none => .bad
    | _ => .bad
  | .index, o, [.str i] => match seqOf M o with
    | some (_, xs) => match strsD xs with
      | some l => if l.length ≤ LINE && decide (i ∈ l) then .ok (.int (l.idxOf i : Nat)) M else .bad
      | none => .bad
    | _ => .bad
  | _, _, _ => .bad

/-! ### items and slices -/
def subD (o i : D) (M : Mh) : R D :=
  match o, i with
  | .str z, .int k => match L2.atI z.cps.toList k with
    | some c => .ok (.str ⟨#[c]⟩) M
    | none => .bad
  | .dct ks vs, k => match keyD k with
    | some q => ofO M (lookK ks vs q)
    | none => .bad
  | o, .int k => match seqOf M o with
    | some (_, xs) => ofO M (L2.atI xs k)
    | none => .bad
  | _, _ => .bad
def cutL {α : Type} (xs : List α) (lo hi : Option Int) : List α :=
  (xs.drop (HT.sIx xs.length 0 lo)).take (HT.sIx xs.length xs.length hi - HT.sIx xs.length 0 lo)
def partD : D → Option (Option Int)
  | .non => some none
  | .int i => some (some i)
  | _ => none
def slcD (o lo hi : D) (M : Mh) : R D :=
  match partD lo, partD hi with
  | some l, some h => match o with
    | .str z => .ok (.str ⟨(cutL z.cps.toList l h).toArray⟩) M
    | o => match seqOf M o with
      | some (true, xs) => .ok (.tup (cutL xs l h)) M
      | some (false, xs) => .ok (.lst (cutL xs l h)) M
      | none => .bad
  | _, _ => .bad
def revD (o : D) (M : Mh) : R D :=
  match o with
  | .str z => .ok (.str ⟨z.cps.toList.reverse.toArray⟩) M
  | o => match seqOf M o with
    | some (true, xs) => .ok (.tup xs.reverse) M
    | some (false, xs) => .ok (.lst xs.reverse) M
    | none => .bad
/-- o[i] = d -/
def putD (o i d : D) (M : Mh) : Option Mh :=
  match o, i with
  | .ref n, .int k => match M[n]? with
    | some (.lst xs) => match L2.ixN xs.length k with
      | some j => some (M.set n (.lst (xs.set j d)))
      | none => none
    | _ => none
  | _, _ => none
/-- a changing list is no longer changed -/
def frzD (d : D) (M : Mh) : R D :=
  match d with
  | .ref n => match M[n]? with
    | some (.lst ds) => .ok (.lst ds) (M.set n .dead)
    | _ => .bad
  | d => .ok d M
/-- what is walked: items, and the changing list they are of -/
def iterD (d : D) (M : Mh) : Option (List D × Option Nat) :=
  match d with
  | .str s => some (signs s, none)
  | .tup ds => some (ds, none)
  | .lst ds => some (ds, none)
  | .ref n => match M[n]? with
    | some (.lst ds) => some (ds, some n)
    | _ => none
  | _ => none
/-- the items of what does not change -/
def fzOf : D → Option (List D)
  | .tup ds => some ds
  | .lst ds => some ds
  | .str s => some (signs s)
  | _ => none
def still (M : Mh) (xs : List D) : Option Nat → Bool
  | none => true
  | some n => match M[n]? with
    | some (.lst ys) => D.beqs ys xs
    | _ => false
def rngL (lo hi : Int) : List D := (List.range (hi - lo).toNat).map fun (i : Nat) => .int (lo + (i : Int))

/-- each number once -/
def ddI (l : List Int) : List Int := l.foldl (fun acc x => if acc.any (· == x) then acc else acc ++ [x]) []
/-- what is made of one value -/
inductive Un where
  | lenset | tab (ks vs : List D) | listM
def keyOk : D → Bool
  | .int _ => true
  | .str _ => true
  | _ => false
def nodupD : List D → Bool
  | [] => true
  | k :: ks => !(ks.any fun j => D.beq k j) && nodupD ks
def tabD : List D → List D → D → Option D
  | k :: ks, v :: vs, x => if D.beq k x then some v else tabD ks vs x
  | _, _, _ => none
def unD (u : Un) (x : D) (M : Mh) : R D :=
  match u with
  | .lenset => match seqOf M x with
    | some (_, xs) => match intsD xs with
      | some l => if l.length ≤ 4000 then .ok (.int ((ddI l).length : Nat)) M else .bad
      | none => .bad
    | none => .bad
  | .tab ks vs => if keyOk x && ks.all keyOk && vs.all D.flat && nodupD ks && decide (ks.length = vs.length) && decide (ks.length ≤ 15) then ofO M (tabD ks vs x) else .bad
  | .listM => match seqOf M x with
    | some (_, xs) => .ok (.ref M.length) (M ++ [.lst xs])
    | none => .bad
def newL (mu : Bool) (ds : List D) (M : Mh) : R D := if mu then .ok (.ref M.length) (M ++ [.lst ds]) else .ok (.lst ds) M
def rng3L (lo c : Int) (n : Nat) : List D := (List.range n).map fun (i : Nat) => .int (lo + (i : Int) * c)
/-! ### the language -/
mutual
inductive E where
  | var (i : Nat) | con (d : D) | glob (g : Nat) | tyc (n : String)
  | bin (op : Operator) (a b : E) | neg (a : E) | not (a : E) | and (a b : E) | or (a b : E) | ite (c a b : E)
  | cmp (op : CmpOp) (a b : E) | chn (op op' : CmpOp) (a b c : E)
  | tup (es : Es) | lst (mu : Bool) (es : Es)
  | call (f : Nat) (es : Es) | bi (b : Bi) (es : Es) | mt (m : Mt) (o : E) (es : Es)
  | sub (a i : E) | slc (a lo hi : E) | rev (a : E) | frz (a : E)
  | comp (mu : Bool) (elt : E) (g : G) (it : I) (cs : Es) (own : List Nat)
  | tupI (it : I) | lstI (mu : Bool) (it : I) | nvr
  | un (u : Un) (a : E) | lmul (mu : Bool) (es : Es) (n : E)
inductive Es where
  | nil | cons (e : E) (es : Es)
inductive I where
  | ex (e : E) | rng1 (a : E) | rng2 (a b : E) | zip (a b : E) | enm (a : E) | enmF (a b : E) | rng3 (a b c : E) | zipR (a b : I)
inductive G where
  | nm (i : Nat) | tp (gs : Gs) | sb (o i : E)
inductive Gs where
  | nil | cons (g : G) (gs : Gs)
end
mutual
inductive S where
  | set (g : G) (e : E) | expr (e : E) | ret (e : E) | ifs (c : E) (a b : Ss) | for (g : G) (it : I) (body : Ss) | while (c : E) (body : Ss)
  | brk | cnt | pas | rse (c : Nat) | nvr
inductive Ss where
  | nil | cons (s : S) (ss : Ss)
end

abbrev Env := List (Option D)
def wipeE (env : Env) : List Nat → Env
  | [] => env
  | v :: vs => (wipeE env vs).set v none

/-- how a block ends -/
inductive F where
  | nx (env : Env) | rt (d : D) | bk (env : Env) | ct (env : Env) | ex (c : Nat) (fs : List D) (env : Env)
/-- an exception becomes an end of the block -/
def R.bindS {α : Type} (env : Env) : R α → (α → Mh → R F) → R F
  | .ok a M, f => f a M
  | .exc c fs M, _ => .ok (.ex c fs env) M
  | .bad, _ => .bad
@[simp] theorem R.bindS_ok {α : Type} {env : Env} {a : α} {M : Mh} {f : α → Mh → R F} : (R.ok a M).bindS env f = f a M := (rfl)
@[simp] theorem R.bindS_exc {α : Type} {env : Env} {c : Nat} {fs : List D} {M : Mh} {f : α → Mh → R F} : (R.exc c fs M).bindS env f = .ok (.ex c fs env) M := (rfl)
@[simp] theorem R.bindS_bad {α : Type} {env : Env} {f : α → Mh → R F} : (R.bad).bindS env f = .bad := (rfl)

/-- a walk of a comprehension: f gives none (left out) or an item -/
def compL (f : D → Mh → R (Option D)) (all : List D) (src : Option Nat) : List D → Mh → List D → R (List D)
  | [], M, acc => if still M all src then .ok acc M else .bad
  | x :: xs, M, acc => if still M all src then (f x M).bind fun o M' => match o with
      | some y => if acc.length < LINE then compL f all src xs M' (acc ++ [y]) else .bad
      | none => compL f all src xs M' acc
    else .bad
def forL (f : D → Env → Mh → R F) (all : List D) (src : Option Nat) : List D → Env → Mh → R F
  | [], env, M => if still M all src then .ok (.nx env) M else .bad
  | x :: xs, env, M => if still M all src then (f x env M).bind fun fl M' => match fl with
      | .nx env' => forL f all src xs env' M'
      | .ct env' => forL f all src xs env' M'
      | .bk env' => .ok (.nx env') M'
      | fl => .ok fl M'
    else .bad
def whileL (c : Env → Mh → R Bool) (f : Env → Mh → R F) : Nat → Env → Mh → R F
  | 0, _, _ => .bad
  | n + 1, env, M => (c env M).bindS env fun b M1 => if b then (f env M1).bind fun fl M' => match fl with
      | .nx env' => whileL c f n env' M'
      | .ct env' => whileL c f n env' M'
      | .bk env' => .ok (.nx env') M'
      | fl => .ok fl M'
    else .ok (.nx env) M1
abbrev TURNS : Nat := 1000000000000

section
variable (Γ : List D) (Φ : Nat → List D → Mh → R D)
mutual
def evE : E → Env → Mh → R D
  | .var i, env, M => match env[i]? with
    | some (some d) => .ok d M
    | _ => .bad
  | .con d, _, M => .ok d M
  | .tyc n, _, M => .ok (.ty n) M
  | .glob g, _, M => ofO M Γ[g]?
  | .bin op a b, env, M => (evE a env M).bind fun x M1 => (evE b env M1).bind fun y M2 => binD op x y M2
  | .neg a, env, M => (evE a env M).bind fun x M1 => match x with
    | .int i => .ok (.int (-i)) M1
    | _ => .bad
  | .not a, env, M => (evE a env M).bind fun x M1 => ofO M1 ((truD M1 x).map fun b => .bl (!b))
  | .and a b, env, M => (evE a env M).bind fun x M1 => match truD M1 x with
    | some true => evE b env M1
    | some false => .ok x M1
    | none => .bad
  | .or a b, env, M => (evE a env M).bind fun x M1 => match truD M1 x with
    | some true => .ok x M1
    | some false => evE b env M1
    | none => .bad
  | .ite c a b, env, M => (evE c env M).bind fun x M1 => match truD M1 x with
    | some true => evE a env M1
    | some false => evE b env M1
    | none => .bad
  | .cmp op a b, env, M => (evE a env M).bind fun x M1 => (evE b env M1).bind fun y M2 => cmpD op x y M2
  | .chn op op' a b c, env, M => (evE a env M).bind fun x M1 => (evE b env M1).bind fun y M2 => (cmpD op x y M2).bind fun r M3 => match r with
    | .bl true => (evE c env M3).bind fun z M4 => cmpD op' y z M4
    | .bl false => .ok (.bl false) M3
    | _ => .bad
  | .tup es, env, M => (evEs es env M).bind fun ds M1 => if ds.length ≤ LINE then .ok (.tup ds) M1 else .bad
  | .lst mu es, env, M => (evEs es env M).bind fun ds M1 => if ds.length ≤ LINE then (if mu then .ok (.ref M1.length) (M1 ++ [.lst ds]) else .ok (.lst ds) M1) else .bad
  | .call f es, env, M => (evEs es env M).bind fun ds M1 => Φ f ds M1
  | .bi b es, env, M => (evEs es env M).bind fun ds M1 => biD b ds M1
  | .nvr, _, _ => .bad
  | .mt m o es, env, M => (evE o env M).bind fun x M1 => if mtOk m x M1 then (evEs es env M1).bind fun ds M2 => mtD m x ds M2 else .bad
  | .sub a i, env, M => (evE a env M).bind fun x M1 => (evE i env M1).bind fun y M2 => subD x y M2
  | .slc a lo hi, env, M => (evE a env M).bind fun x M1 => (evE lo env M1).bind fun y M2 => match partD y with
    | some _ => (evE hi env M2).bind fun z M3 => slcD x y z M3
    | none => .bad
  | .rev a, env, M => (evE a env M).bind fun x M1 => revD x M1
  | .frz a, env, M => (evE a env M).bind fun x M1 => frzD x M1
  | .comp mu elt g it cs own, env, M => (evI it env M).bind fun p M1 =>
      (compL (fun x M => (asg g x (wipeE env own) M).bind fun env2 M2 => (evC cs env2 M2).bind fun b M3 => if b then (evE elt env2 M3).only fun y M4 => .ok (some y) M4 else .ok none M3) p.1 p.2 p.1 M1 []).only
        fun ds M2 => if mu then .ok (.ref M2.length) (M2 ++ [.lst ds]) else .ok (.lst ds) M2
  | .tupI it, env, M => (evI it env M).bind fun p M1 => if p.1.length ≤ LINE then .ok (.tup p.1) M1 else .bad
  | .lstI mu it, env, M => (evI it env M).bind fun p M1 => if p.1.length ≤ LINE then (if mu then .ok (.ref M1.length) (M1 ++ [.lst p.1]) else .ok (.lst p.1) M1) else .bad
  | .un u a, env, M => (evE a env M).bind fun x M1 => unD u x M1
  | .lmul mu es n, env, M => (evEs es env M).bind fun ds M1 => if ds.length ≤ LINE then (evE n env M1).bind fun y M2 => match y with
      | .int k => if rngOk k && decide (ds.length * k.toNat ≤ LINE) then newL mu (List.replicate k.toNat ds).flatten M2 else .bad
      | _ => .bad
    else .bad
def evEs : Es → Env → Mh → R (List D)
  | .nil, _, M => .ok [] M
  | .cons e es, env, M => (evE e env M).bind fun d M1 => (evEs es env M1).bind fun ds M2 => .ok (d :: ds) M2
/-- tests, one behind the other -/
def evC : Es → Env → Mh → R Bool
  | .nil, _, M => .ok true M
  | .cons e es, env, M => (evE e env M).bind fun x M1 => match truD M1 x with
    | some true => evC es env M1
    | some false => .ok false M1
    | none => .bad
def evI : I → Env → Mh → R (List D × Option Nat)
  | .ex e, env, M => (evE e env M).bind fun d M1 => ofO M1 (iterD d M1)
  | .rng1 a, env, M => (evE a env M).bind fun x M1 => match x with
    | .int j => if rngOk j then .ok (rngL 0 j, none) M1 else .bad
    | _ => .bad
  | .rng2 a b, env, M => (evE a env M).bind fun x M1 => (evE b env M1).bind fun y M2 => match x, y with
    | .int i, .int j => if rngOk i && rngOk j then .ok (rngL i j, none) M2 else .bad
    | _, _ => .bad
  | .zip a b, env, M => (evE a env M).bind fun x M1 => (evE b env M1).bind fun y M2 => match fzOf x, fzOf y with
    | some xs, some ys => .ok (List.zipWith (fun p q => D.tup [p, q]) xs ys, none) M2
    | _, _ => .bad
  | .enm a, env, M => (evE a env M).bind fun x M1 => match fzOf x with
    | some xs => .ok (xs.zipIdx.map (fun p => D.tup [.int p.2, p.1]), none) M1
    | none => .bad
  | .enmF a b, env, M => (evE a env M).bind fun x M1 => (evE b env M1).bind fun y M2 => match fzOf x, y with
    | some xs, .int c => if 0 ≤ c ∧ c < 1000000 then .ok ((xs.zipIdx c.toNat).map (fun p => D.tup [.int p.2, p.1]), none) M2 else .bad
    | _, _ => .bad
  | .rng3 a b c, env, M => (evE a env M).bind fun x M1 => (evE b env M1).bind fun y M2 => (evE c env M2).bind fun z M3 => match x, y, z with
    | .int i, .int j, .int k => if rngOk i && rngOk j && decide (k ≠ 0) && decide (k.natAbs < 1073741824) && PySem.Builtin.Range.small i j k && decide (0 ≤ PySem.Builtin.Range.rangeSize i j k) then .ok (rng3L i k (PySem.Builtin.Range.rangeSize i j k).toNat, none) M3 else .bad
    | _, _, _ => .bad
  | .zipR a b, env, M => (evI a env M).bind fun p M1 => (evI b env M1).bind fun q M2 => .ok (List.zipWith (fun x y => D.tup [x, y]) p.1 q.1, none) M2
/-- a target is stored to -/
def asg : G → D → Env → Mh → R Env
  | .nm i, d, env, M => .ok (env.set i (some d)) M
  | .tp gs, d, env, M => match seqOf M d with
    | some (_, ds) => asgs gs ds env M
    | _ => .bad
  | .sb o i, d, env, M => ((evE o env M).bind fun x M1 => (evE i env M1).bind fun y M2 => match putD x y d M2 with
      | some M3 => .ok () M3
      | none => .bad).only fun _ M3 => .ok env M3
def asgs : Gs → List D → Env → Mh → R Env
  | .nil, [], env, M => .ok env M
  | .cons g gs, d :: ds, env, M => (asg g d env M).bind fun env' M' => asgs gs ds env' M'
  | _, _, _, _ => .bad
end
mutual
def exS : S → Env → Mh → R F
  | .set g e, env, M => (evE Γ Φ e env M).bindS env fun d M1 => (asg Γ Φ g d env M1).bind fun env' M2 => .ok (.nx env') M2
  | .expr e, env, M => (evE Γ Φ e env M).bindS env fun _ M1 => .ok (.nx env) M1
  | .ret e, env, M => (evE Γ Φ e env M).bindS env fun d M1 => .ok (.rt d) M1
  | .ifs c a b, env, M => (evE Γ Φ c env M).bindS env fun x M1 => match truD M1 x with
    | some true => exSs a env M1
    | some false => exSs b env M1
    | none => .bad
  | .for g it body, env, M => (evI Γ Φ it env M).bindS env fun p M1 =>
      forL (fun x env M => (asg Γ Φ g x env M).bind fun env' M' => exSs body env' M') p.1 p.2 p.1 env M1
  | .while c body, env, M => whileL (fun env M => (evE Γ Φ c env M).bind fun x M1 => ofO M1 (truD M1 x)) (fun env M => exSs body env M) TURNS env M
  | .brk, env, M => .ok (.bk env) M
  | .cnt, env, M => .ok (.ct env) M
  | .pas, env, M => .ok (.nx env) M
  | .rse c, env, M => .ok (.ex c [] env) M
  | .nvr, _, _ => .bad
def exSs : Ss → Env → Mh → R F
  | .nil, env, M => .ok (.nx env) M
  | .cons s ss, env, M => (exS s env M).bind fun f M1 => match f with
    | .nx env' => exSs ss env' M1
    | f => .ok f M1
end
end

/-- a def: its parameters, how many names, its body -/
structure Fd where
  ar : Nat
  nn : Nat
  body : Ss
/-- what was there is as it was, or holds nothing new -/
def oldOk (n : Nat) : Mh → Mh → Bool
  | [], _ => true
  | _ :: _, [] => false
  | o :: r, o' :: r' => (MO.beq o' o || o'.low n) && oldOk n r r'
/-- behind a call: what the call alone knew is forgotten -/
def fin (M : Mh) : R D → R D
  | .ok d M' => if d.low M.length && oldOk M.length M M' then .ok d (M'.take M.length) else .ok d M'
  | r => r
def flowD : R F → R D
  | .ok (.rt d) M => .ok d M
  | .ok (.nx _) M => .ok .non M
  | .ok (.ex c fs _) M => .exc c fs M
  | _ => .bad
/-- the body's run -/
def goF (Γ : List D) (Φ : Nat → List D → Mh → R D) (f : Fd) (ds : List D) (M : Mh) : R D :=
  flowD (exSs Γ Φ f.body (ds.map some ++ List.replicate (f.nn - f.ar) none) M)
/-- a call: with plain data it runs in a heap of its own, if it gives plain data -/
def runF (Γ : List D) (Φ : Nat → List D → Mh → R D) (f : Fd) (ds : List D) (M : Mh) : R D :=
  if ds.length = f.ar then
    if D.nrs ds then
      match goF Γ Φ f ds [] with
      | .ok d _ => if d.nr then .ok d M else fin M (goF Γ Φ f ds M)
      | .exc c fs _ => if D.nrs fs then .exc c fs M else .bad
      | .bad => .bad
    else fin M (goF Γ Φ f ds M)
  else .bad
/-- the defs P, to a depth of calls -/
def callP (Γ : List D) (P : List Fd) : Nat → Nat → List D → Mh → R D
  | 0, _, _, _ => .bad
  | k + 1, f, ds, M => match P[f]? with
    | some fd => runF Γ (callP Γ P k) fd ds M
    | none => .bad
end RF

set_option Elab.async false
set_option linter.all false
set_option maxRecDepth 100000
set_option maxHeartbeats 4000000
namespace RF
open PySem PySem.Spec PyProof.Rows L2

mutual
theorem D.nr_low {n : Nat} : ∀ {d : D}, d.nr = true → d.low n = true
  | .non, _ => rfl
  | .bl _, _ => rfl
  | .int _, _ => rfl
  | .str _, _ => rfl
  | .tup ds, h => by rw [D.nr] at h; rw [D.low]; exact D.nrs_low h
  | .lst ds, h => by rw [D.nr] at h; rw [D.low]; exact D.nrs_low h
  | .ref _, h => by simp [D.nr] at h
  | .ty _, _ => rfl
  | .fn _, _ => rfl
  | .dct _ ds, h => by rw [D.nr] at h; rw [D.low]; exact D.nrs_low h
theorem D.nrs_low {n : Nat} : ∀ {ds : List D}, D.nrs ds = true → D.lows n ds = true
  | [], _ => rfl
  | d :: ds, h => by
    rw [D.nrs, Bool.and_eq_true] at h
    rw [D.lows, D.nr_low h.1, D.nrs_low h.2]; rfl
end
/-! ### data in the heap -/
/-- a list that is not changed any more -/
def FzL (K : PySem.W.Frag) (H : Hp) (a : Addr) (xs : List V) : Prop :=
  (∃ o, H a = some (.frz o (.lst xs))) ∨
    ∃ (o : Obj) (its : Array Value) (n : Nat), K.lookup a = some o ∧ o.cls = .type "list" ∧ o.dict = none ∧ o.data = .seq its n ∧ its.size ≤ sizeLine ∧ Vals xs its.toList
theorem FzL.seq {K : PySem.W.Frag} {H : Hp} {a : Addr} {xs : List V} (h : FzL K H a xs) : SqL K H a xs := by
  rcases h with ⟨o, h⟩ | h
  · exact .inl (.inr ⟨o, h⟩)
  · exact .inr h
/-- a tuple whose object has no dict -/
def SqN (K : PySem.W.Frag) (H : Hp) (a : Addr) (xs : List V) : Prop :=
  (∃ o : Obj, H a = some (.frz o (.tup xs)) ∧ o.dict = none) ∨
    ∃ (o : Obj) (its : Array Value) (n : Nat), K.lookup a = some o ∧ o.cls = .type "tuple" ∧ o.dict = none ∧ o.data = .seq its n ∧ its.size ≤ sizeLine ∧ Vals xs its.toList
theorem SqN.seq {K : PySem.W.Frag} {H : Hp} {a : Addr} {xs : List V} (h : SqN K H a xs) : SqT K H a xs := by
  rcases h with ⟨o, h, _⟩ | ⟨o, its, n, h1, h2, _, h3, h4, h5⟩
  · exact .inl (.inr ⟨o, h⟩)
  · exact .inr ⟨o, its, n, h1, h2, h3, h4, h5⟩
theorem SqN.of {K : PySem.W.Frag} {H : Hp} {a : Addr} {xs : List V} {o : Obj} (h : H a = some (.frz o (.tup xs))) (hd : o.dict = none) : SqN K H a xs := .inl ⟨o, h, hd⟩
/-- a dict that is not changed any more -/
def FzD (H : Hp) (a : Addr) (kvs : List (Key × V)) : Prop := ∃ o, H a = some (.frz o (.dK kvs))
def sgood (s : Str) : Bool := PyData.strOk s && decide (s.length ≤ 16777216)
/-- the defs that are handed on as values: where they stand -/
abbrev Fa := Nat → Option Addr
mutual
inductive RelD (K : PySem.W.Frag) (fa : Fa) (ρ : List Addr) (H : Hp) : D → V → Prop
  | non : RelD K fa ρ H .non .non
  | bl (b : Bool) : RelD K fa ρ H (.bl b) (.bl b)
  | int (i : Int) : RelD K fa ρ H (.int i) (.int i)
  | str (s : Str) (h : sgood s = true) : RelD K fa ρ H (.str s) (.str s)
  | tup {ds : List D} {a : Addr} {xs : List V} (h : SqN K H a xs) (r : RelDs K fa ρ H ds xs) : RelD K fa ρ H (.tup ds) (.ref a)
  | lst {ds : List D} {a : Addr} {xs : List V} (h : FzL K H a xs) (r : RelDs K fa ρ H ds xs) : RelD K fa ρ H (.lst ds) (.ref a)
  | ref {n : Nat} {a : Addr} (h : ρ[n]? = some a) : RelD K fa ρ H (.ref n) (.ref a)
  | ty (n : String) : RelD K fa ρ H (.ty n) (.ty n)
  | fn {i : Nat} {a : Addr} (h : fa i = some a) : RelD K fa ρ H (.fn i) (.ref a)
  | dct {ks : List (Int ⊕ Str)} {ds : List D} {a : Addr} {kvs : List (Key × V)} {xs : List V} (h : FzD H a kvs) (hk : kvs.map (·.1) = ks) (hv : kvs.map (·.2) = xs) (r : RelDs K fa ρ H ds xs) : RelD K fa ρ H (.dct ks ds) (.ref a)
inductive RelDs (K : PySem.W.Frag) (fa : Fa) (ρ : List Addr) (H : Hp) : List D → List V → Prop
  | nil : RelDs K fa ρ H [] []
  | cons {d : D} {v : V} {ds : List D} {vs : List V} (h : RelD K fa ρ H d v) (r : RelDs K fa ρ H ds vs) : RelDs K fa ρ H (d :: ds) (v :: vs)
end
/-- what never changes: tuples, what is frozen -/
def Perm : HO → Prop
  | .tup _ => True
  | .frz _ _ => True
  | _ => False
def Kp (H H' : Hp) : Prop := ∀ b o, H b = some o → Perm o → H' b = some o
theorem Kp.refl (H : Hp) : Kp H H := fun _ _ h _ => h
theorem Kp.trans {H H1 H2 : Hp} (a : Kp H H1) (b : Kp H1 H2) : Kp H H2 := fun c o h p => b c o (a c o h p) p
theorem Kp.of_same {H H' : Hp} (s : Same H H') : Kp H H' := fun b o h _ => s b o h
theorem same_new {H : Hp} {p : Addr} {o : HO} (h : H p = none) : Same H (upd H p o) := fun b x e => by
  rw [upd_ne (ne_of_none e h)]; exact e
theorem Kp.write {H : Hp} {p : Addr} {o o' : HO} (h : H p = some o) (n : ¬ Perm o) : Kp H (upd H p o') := fun b x e q => by
  rw [upd_ne (fun z => by subst z; rw [h] at e; cases e; exact n q)]; exact e
theorem sqT_kp {K : PySem.W.Frag} {H H' : Hp} {a : Addr} {xs : List V} (k : Kp H H') (h : SqT K H a xs) : SqT K H' a xs := by
  rcases h with (h | ⟨o, h⟩) | h
  · exact .inl (.inl (k _ _ h trivial))
  · exact .inl (.inr ⟨o, k _ _ h trivial⟩)
  · exact .inr h
theorem SqN.kp {K : PySem.W.Frag} {H H' : Hp} {a : Addr} {xs : List V} (k : Kp H H') (h : SqN K H a xs) : SqN K H' a xs := by
  rcases h with ⟨o, h, hd⟩ | h
  · exact .inl ⟨o, k _ _ h trivial, hd⟩
  · exact .inr h
theorem FzD.kp {H H' : Hp} {a : Addr} {kvs : List (Key × V)} (k : Kp H H') (h : FzD H a kvs) : FzD H' a kvs := by
  obtain ⟨o, h⟩ := h
  exact ⟨o, k _ _ h trivial⟩
theorem FzL.kp {K : PySem.W.Frag} {H H' : Hp} {a : Addr} {xs : List V} (k : Kp H H') (h : FzL K H a xs) : FzL K H' a xs := by
  rcases h with ⟨o, h⟩ | h
  · exact .inl ⟨o, k _ _ h trivial⟩
  · exact .inr h
abbrev Grow (ρ ρ' : List Addr) : Prop := ρ <+: ρ'
theorem Grow.at {ρ ρ' : List Addr} {n : Nat} {a : Addr} (g : Grow ρ ρ') (h : ρ[n]? = some a) : ρ'[n]? = some a := by
  obtain ⟨t, rfl⟩ := g
  obtain ⟨hl, e⟩ := List.getElem?_eq_some_iff.mp h
  rw [List.getElem?_append_left hl]; exact h
section
variable {K : PySem.W.Frag} {fa : Fa} {ρ ρ' : List Addr} {H H' : Hp}
mutual
theorem RelD.mono (g : Grow ρ ρ') (k : Kp H H') : ∀ {d : D} {v : V}, RelD K fa ρ H d v → RelD K fa ρ' H' d v
  | _, _, .non => .non
  | _, _, .bl b => .bl b
  | _, _, .int i => .int i
  | _, _, .str s h => .str s h
  | _, _, .tup h r => .tup (h.kp k) (RelDs.mono g k r)
  | _, _, .lst h r => .lst (h.kp k) (RelDs.mono g k r)
  | _, _, .ref h => .ref (g.at h)
  | _, _, .ty n => .ty n
  | _, _, .fn h => .fn h
  | _, _, .dct h hk hv r => .dct (h.kp k) hk hv (RelDs.mono g k r)
theorem RelDs.mono (g : Grow ρ ρ') (k : Kp H H') : ∀ {ds : List D} {vs : List V}, RelDs K fa ρ H ds vs → RelDs K fa ρ' H' ds vs
  | _, _, .nil => .nil
  | _, _, .cons h r => .cons (RelD.mono g k h) (RelDs.mono g k r)
end
-- .. with what is below n alone
mutual
theorem RelD.low {n : Nat} : ∀ {d : D} {v : V}, RelD K fa ρ H d v → d.low n = true → RelD K fa (ρ.take n) H d v
  | _, _, .non, _ => .non
  | _, _, .bl b, _ => .bl b
  | _, _, .int i, _ => .int i
  | _, _, .str s h, _ => .str s h
  | _, _, .tup h r, l => .tup h (RelDs.low r (by simpa [D.low] using l))
  | _, _, .lst h r, l => .lst h (RelDs.low r (by simpa [D.low] using l))
  | .ref m, _, .ref h, l => .ref (by
      have l' : m < n := by simpa [D.low] using l
      rw [List.getElem?_take_of_lt l']; exact h)
  | _, _, .ty n, _ => .ty n
  | _, _, .fn h, _ => .fn h
  | _, _, .dct h hk hv r, l => .dct h hk hv (RelDs.low r (by simpa [D.low] using l))
theorem RelDs.low {n : Nat} : ∀ {ds : List D} {vs : List V}, RelDs K fa ρ H ds vs → D.lows n ds = true → RelDs K fa (ρ.take n) H ds vs
  | _, _, .nil, _ => .nil
  | _, _, .cons h r, l => by
    rw [D.lows, Bool.and_eq_true] at l
    exact .cons (RelD.low h l.1) (RelDs.low r l.2)
end
theorem RelDs.length : ∀ {ds : List D} {vs : List V}, RelDs K fa ρ H ds vs → ds.length = vs.length
  | _, _, .nil => rfl
  | _, _, .cons _ r => by simp [RelDs.length r]
theorem RelDs.get : ∀ {ds : List D} {vs : List V} {i : Nat} {d : D}, RelDs K fa ρ H ds vs → ds[i]? = some d → ∃ v, vs[i]? = some v ∧ RelD K fa ρ H d v
  | _, _, _, _, .nil, e => by simp at e
  | _, _, 0, _, .cons h _, e => by simp at e; subst e; exact ⟨_, rfl, h⟩
  | _, _, i + 1, d, .cons _ r, e => by
    obtain ⟨v, h1, h2⟩ := RelDs.get (i := i) (d := d) r (by simpa using e)
    exact ⟨v, by simpa using h1, h2⟩
theorem RelDs.getV : ∀ {ds : List D} {vs : List V} {i : Nat} {v : V}, RelDs K fa ρ H ds vs → vs[i]? = some v → ∃ d, ds[i]? = some d ∧ RelD K fa ρ H d v
  | _, _, _, _, .nil, e => by simp at e
  | _, _, 0, _, .cons h _, e => by simp at e; subst e; exact ⟨_, rfl, h⟩
  | _, _, i + 1, d, .cons _ r, e => by
    obtain ⟨v, h1, h2⟩ := RelDs.getV (i := i) (v := d) r (by simpa using e)
    exact ⟨v, by simpa using h1, h2⟩
theorem RelDs.append : ∀ {ds es : List D} {vs ws : List V}, RelDs K fa ρ H ds vs → RelDs K fa ρ H es ws → RelDs K fa ρ H (ds ++ es) (vs ++ ws)
  | _, _, _, _, .nil, s => s
  | _, _, _, _, .cons h r, s => .cons h (RelDs.append r s)
theorem RelDs.set {d : D} {v : V} (h : RelD K fa ρ H d v) : ∀ {ds : List D} {vs : List V} (i : Nat), RelDs K fa ρ H ds vs → RelDs K fa ρ H (ds.set i d) (vs.set i v)
  | _, _, _, .nil => .nil
  | _, _, 0, .cons _ r => .cons h r
  | _, _, i + 1, .cons q r => .cons q (RelDs.set h i r)
theorem RelDs.take : ∀ {ds : List D} {vs : List V} (n : Nat), RelDs K fa ρ H ds vs → RelDs K fa ρ H (ds.take n) (vs.take n)
  | _, _, 0, _ => .nil
  | _, _, _ + 1, .nil => .nil
  | _, _, n + 1, .cons h r => .cons h (RelDs.take n r)
theorem RelDs.drop : ∀ {ds : List D} {vs : List V} (n : Nat), RelDs K fa ρ H ds vs → RelDs K fa ρ H (ds.drop n) (vs.drop n)
  | _, _, 0, r => r
  | _, _, _ + 1, .nil => .nil
  | _, _, n + 1, .cons _ r => RelDs.drop n r
theorem RelDs.reverse : ∀ {ds : List D} {vs : List V}, RelDs K fa ρ H ds vs → RelDs K fa ρ H ds.reverse vs.reverse
  | _, _, .nil => .nil
  | _, _, .cons h r => by
    rw [List.reverse_cons, List.reverse_cons]
    exact (RelDs.reverse r).append (.cons h .nil)
theorem RelDs.dropLast : ∀ {ds : List D} {vs : List V}, RelDs K fa ρ H ds vs → RelDs K fa ρ H ds.dropLast vs.dropLast
  | _, _, .nil => .nil
  | _, _, .cons h .nil => .nil
  | _, _, .cons h (.cons h2 r) => .cons h (RelDs.dropLast (.cons h2 r))
theorem RelDs.eraseIdx : ∀ {ds : List D} {vs : List V} (i : Nat), RelDs K fa ρ H ds vs → RelDs K fa ρ H (ds.eraseIdx i) (vs.eraseIdx i)
  | _, _, _, .nil => .nil
  | _, _, 0, .cons _ r => r
  | _, _, i + 1, .cons h r => .cons h (RelDs.eraseIdx i r)
theorem RelDs.rep {ds : List D} {vs : List V} (r : RelDs K fa ρ H ds vs) : ∀ k : Nat, RelDs K fa ρ H (List.replicate k ds).flatten (List.replicate k vs).flatten
  | 0 => .nil
  | k + 1 => by
    simp only [List.replicate_succ, List.flatten_cons]
    exact r.append (RelDs.rep r k)
theorem RelDs.cut {ds : List D} {vs : List V} (r : RelDs K fa ρ H ds vs) (lo hi : Option Int) : RelDs K fa ρ H (cutL ds lo hi) (cutV vs lo hi) := by
  unfold cutL cutV
  rw [r.length]
  exact (r.drop _).take _
theorem RelDs.at {ds : List D} {vs : List V} {k : Int} {d : D} (r : RelDs K fa ρ H ds vs) (h : atI ds k = some d) : ∃ v, atI vs k = some v ∧ RelD K fa ρ H d v := by
  unfold atI at h ⊢
  rw [r.length] at h
  cases e : ixN vs.length k with
  | none => rw [e] at h; cases h
  | some j => rw [e] at h; exact r.get h
theorem RelDs.ints : ∀ {ds : List D} {vs : List V} {l : List Int}, RelDs K fa ρ H ds vs → intsD ds = some l → vs = l.map V.int
  | _, _, l, .nil, e => by cases e; rfl
  | _, _, l, .cons (.int i) r, e => by
    unfold intsD at e
    cases q : intsD _ with
    | none => rw [q] at e; cases e
    | some m => rw [q] at e; cases e; rw [RelDs.ints r q]; rfl
  | _, _, l, .cons .non r, e => by simp [intsD] at e
  | _, _, l, .cons (.bl _) r, e => by simp [intsD] at e
  | _, _, l, .cons (.str _ _) r, e => by simp [intsD] at e
  | _, _, l, .cons (.tup _ _) r, e => by simp [intsD] at e
  | _, _, l, .cons (.lst _ _) r, e => by simp [intsD] at e
  | _, _, l, .cons (.ref _) r, e => by simp [intsD] at e
  | _, _, l, .cons (.ty _) r, e => by simp [intsD] at e
  | _, _, l, .cons (.fn _) r, e => by simp [intsD] at e
  | _, _, l, .cons (.dct _ _ _ _) r, e => by simp [intsD] at e
theorem RelDs.bls : ∀ {ds : List D} {vs : List V} {l : List Bool}, RelDs K fa ρ H ds vs → blsD ds = some l → vs = l.map V.bl
  | _, _, l, .nil, e => by cases e; rfl
  | _, _, l, .cons (.bl i) r, e => by
    unfold blsD at e
    cases q : blsD _ with
    | none => rw [q] at e; cases e
    | some m => rw [q] at e; cases e; rw [RelDs.bls r q]; rfl
  | _, _, l, .cons .non r, e => by simp [blsD] at e
  | _, _, l, .cons (.int _) r, e => by simp [blsD] at e
  | _, _, l, .cons (.str _ _) r, e => by simp [blsD] at e
  | _, _, l, .cons (.tup _ _) r, e => by simp [blsD] at e
  | _, _, l, .cons (.lst _ _) r, e => by simp [blsD] at e
  | _, _, l, .cons (.ref _) r, e => by simp [blsD] at e
  | _, _, l, .cons (.ty _) r, e => by simp [blsD] at e
  | _, _, l, .cons (.fn _) r, e => by simp [blsD] at e
  | _, _, l, .cons (.dct _ _ _ _) r, e => by simp [blsD] at e
theorem RelDs.strs : ∀ {ds : List D} {vs : List V} {l : List Str}, RelDs K fa ρ H ds vs → strsD ds = some l → vs = l.map V.str ∧ ∀ s ∈ l, sgood s = true
  | _, _, l, .nil, e => by cases e; exact ⟨rfl, by simp⟩
  | _, _, l, .cons (.str i hi) r, e => by
    unfold strsD at e
    cases q : strsD _ with
    | none => rw [q] at e; cases e
    | some m =>
      rw [q] at e; cases e
      obtain ⟨h1, h2⟩ := RelDs.strs r q
      refine ⟨by rw [h1]; rfl, fun s hs => ?_⟩
      rcases List.mem_cons.mp hs with rfl | hs
      · exact hi
      · exact h2 s hs
  | _, _, l, .cons .non r, e => by simp [strsD] at e
  | _, _, l, .cons (.bl _) r, e => by simp [strsD] at e
  | _, _, l, .cons (.int _) r, e => by simp [strsD] at e
  | _, _, l, .cons (.tup _ _) r, e => by simp [strsD] at e
  | _, _, l, .cons (.lst _ _) r, e => by simp [strsD] at e
  | _, _, l, .cons (.ref _) r, e => by simp [strsD] at e
  | _, _, l, .cons (.ty _) r, e => by simp [strsD] at e
  | _, _, l, .cons (.fn _) r, e => by simp [strsD] at e
  | _, _, l, .cons (.dct _ _ _ _) r, e => by simp [strsD] at e
end

/-! ### the objects that may change -/
def ObjR (K : PySem.W.Frag) (fa : Fa) (ρ : List Addr) (H : Hp) (a : Addr) : MO → Prop
  | .dead => True
  | .lst ds => ∃ xs, H a = some (.lst xs) ∧ RelDs K fa ρ H ds xs
def live : MO → Bool
  | .dead => false
  | .lst _ => true
structure Sim (K : PySem.W.Frag) (fa : Fa) (ρ : List Addr) (M : Mh) (H : Hp) : Prop where
  len : ρ.length = M.length
  obj : ∀ (i : Nat) (o : MO) (a : Addr), M[i]? = some o → ρ[i]? = some a → ObjR K fa ρ H a o
  inj : ∀ (i j : Nat) (o o' : MO) (a : Addr), M[i]? = some o → M[j]? = some o' → live o = true → live o' = true → ρ[i]? = some a → ρ[j]? = some a → i = j
  hs : ∀ b, b ∈ ρ → ∃ o, H b = some o
/-- from a state to a later one: what is tracked grows; what never changes stays; what is not tracked stays, and is not tracked later -/
structure Fr (ρ : List Addr) (H : Hp) (ρ' : List Addr) (H' : Hp) : Prop where
  g : Grow ρ ρ'
  k : Kp H H'
  p : ∀ b o, H b = some o → b ∉ ρ → H' b = some o ∧ b ∉ ρ'
theorem Fr.refl (ρ : List Addr) (H : Hp) : Fr ρ H ρ H := ⟨List.prefix_refl _, Kp.refl _, fun _ _ h n => ⟨h, n⟩⟩
theorem Fr.trans {ρ ρ1 ρ2 : List Addr} {H H1 H2 : Hp} (a : Fr ρ H ρ1 H1) (b : Fr ρ1 H1 ρ2 H2) : Fr ρ H ρ2 H2 :=
  ⟨a.g.trans b.g, a.k.trans b.k, fun c o h n => let ⟨h1, n1⟩ := a.p c o h n; b.p c o h1 n1⟩
theorem Fr.same {ρ : List Addr} {H H' : Hp} (s : Same H H') : Fr ρ H ρ H' := ⟨List.prefix_refl _, Kp.of_same s, fun b o h n => ⟨s b o h, n⟩⟩
theorem Fr.new {ρ : List Addr} {H : Hp} {p : Addr} {o : HO} (h : H p = none) : Fr ρ H (ρ ++ [p]) (upd H p o) :=
  ⟨List.prefix_append _ _, Kp.of_same (same_new h), fun b u e n => ⟨same_new h b u e, fun hm => by
    rcases List.mem_append.mp hm with hm | hm
    · exact n hm
    · have : b = p := by simpa using hm
      rw [this, h] at e; cases e⟩⟩
theorem Fr.write {ρ : List Addr} {H : Hp} {p : Addr} {o o' : HO} (h : H p = some o) (n : ¬ Perm o) (m : p ∈ ρ) : Fr ρ H ρ (upd H p o') :=
  ⟨List.prefix_refl _, Kp.write h n, fun b u e q => ⟨by rw [upd_ne (show b ≠ p from fun z => q (by rw [z]; exact m))]; exact e, q⟩⟩
section
variable {K : PySem.W.Frag} {fa : Fa} {ρ ρ' : List Addr} {H H' : Hp} {M : Mh}
theorem ObjR.tracked {a : Addr} {o : MO} (h : ObjR K fa ρ H a o) (l : live o = true) : ∃ xs, H a = some (.lst xs) := by
  cases o with
  | dead => cases l
  | lst ds => obtain ⟨xs, e, _⟩ := h; exact ⟨xs, e⟩
theorem Sim.at (S : Sim K fa ρ M H) {n : Nat} {ds : List D} (h : M[n]? = some (.lst ds)) : ∃ a xs, ρ[n]? = some a ∧ H a = some (.lst xs) ∧ RelDs K fa ρ H ds xs := by
  have hl : n < ρ.length := by rw [S.len]; exact (List.getElem?_eq_some_iff.mp h).1
  have ha : ρ[n]? = some ρ[n] := List.getElem?_eq_getElem hl
  obtain ⟨xs, e, r⟩ := S.obj n _ _ h ha
  exact ⟨_, xs, ha, e, r⟩
/-- all that was tracked is as it was -/
theorem Sim.same (S : Sim K fa ρ M H) (s : Same H H') : Sim K fa ρ M H' := by
  refine ⟨S.len, fun i o a h1 h2 => ?_, S.inj, fun b hb => let ⟨o, e⟩ := S.hs b hb; ⟨o, s b o e⟩⟩
  have q := S.obj i o a h1 h2
  cases o with
  | dead => trivial
  | lst ds => obtain ⟨xs, e, r⟩ := q; exact ⟨xs, s _ _ e, r.mono (List.prefix_refl _) (Kp.of_same s)⟩
/-- a new list that may change -/
theorem Sim.new (S : Sim K fa ρ M H) {p : Addr} {xs : List V} {ds : List D} (h : H p = none) (r : RelDs K fa ρ H ds xs) : Sim K fa (ρ ++ [p]) (M ++ [.lst ds]) (upd H p (.lst xs)) := by
  have s : Same H (upd H p (.lst xs)) := same_new h
  have g : Grow ρ (ρ ++ [p]) := List.prefix_append _ _
  have k := Kp.of_same s
  have old : ∀ {i : Nat} {o : MO} {a : Addr}, (M ++ [MO.lst ds])[i]? = some o → (ρ ++ [p])[i]? = some a → (M[i]? = some o ∧ ρ[i]? = some a) ∨ (i = M.length ∧ o = .lst ds ∧ a = p) := fun {i o a} h1 h2 => by
    by_cases hi : i < M.length
    · rw [List.getElem?_append_left hi] at h1
      rw [List.getElem?_append_left (by rw [S.len]; exact hi)] at h2
      exact .inl ⟨h1, h2⟩
    · have hl := (List.getElem?_eq_some_iff.mp h1).1
      rw [List.length_append] at hl
      have e : i = M.length := by simp at hl; omega
      subst e
      rw [List.getElem?_append_right (Nat.le_refl _)] at h1
      rw [List.getElem?_append_right (by rw [S.len]; exact Nat.le_refl _), S.len] at h2
      simp at h1 h2
      exact .inr ⟨rfl, h1.symm, h2.symm⟩
  refine ⟨by simp [S.len], fun i o a h1 h2 => ?_, fun i j o o' a h1 h2 l1 l2 e1 e2 => ?_, fun b hb => ?_⟩
  · rcases old h1 h2 with ⟨q1, q2⟩ | ⟨rfl, rfl, rfl⟩
    · have q := S.obj i o a q1 q2
      cases o with
      | dead => trivial
      | lst es => obtain ⟨ys, e, r'⟩ := q; exact ⟨ys, s _ _ e, r'.mono g k⟩
    · exact ⟨xs, upd_same, r.mono g k⟩
  · rcases old h1 e1 with ⟨q1, q2⟩ | ⟨rfl, rfl, rfl⟩ <;> rcases old h2 e2 with ⟨q3, q4⟩ | ⟨e3, rfl, e4⟩
    · exact S.inj i j o o' a q1 q3 l1 l2 q2 q4
    · obtain ⟨ys, e⟩ := (S.obj i o a q1 q2).tracked l1
      rw [e4, h] at e; cases e
    · obtain ⟨ys, e⟩ := (S.obj j o' _ q3 q4).tracked l2
      rw [h] at e; cases e
    · exact e3.symm
  · rcases List.mem_append.mp hb with hb | hb
    · obtain ⟨o, e⟩ := S.hs b hb; exact ⟨o, s b o e⟩
    · have : b = p := by simpa using hb
      rw [this]; exact ⟨_, upd_same⟩
theorem has_upd {H : Hp} {b p : Addr} {o' : HO} (h : ∃ o, H b = some o) : ∃ o, upd H p o' b = some o := by
  by_cases e : b = p
  · subst e; exact ⟨_, upd_same⟩
  · obtain ⟨o, q⟩ := h; exact ⟨o, by rw [upd_ne e]; exact q⟩
/-- what is not tracked is changed -/
theorem Sim.other (S : Sim K fa ρ M H) {p : Addr} {o o' : HO} (hp : p ∉ ρ) (h : H p = some o) (n : ¬ Perm o) : Sim K fa ρ M (upd H p o') := by
  have k : Kp H (upd H p o') := Kp.write h n
  refine ⟨S.len, fun i u a h1 h2 => ?_, S.inj, fun b hb => has_upd (S.hs b hb)⟩
  have q := S.obj i u a h1 h2
  cases u with
  | dead => trivial
  | lst ds => obtain ⟨xs, e, r⟩ := q; exact ⟨xs, by rw [upd_ne (show a ≠ p from fun z => hp (by rw [← z]; exact List.mem_of_getElem? h2))]; exact e, r.mono (List.prefix_refl _) k⟩
/-- a list that was not tracked is tracked -/
theorem Sim.adopt (S : Sim K fa ρ M H) {p : Addr} {xs : List V} {ds : List D} (hp : p ∉ ρ) (h : H p = some (.lst xs)) (r : RelDs K fa ρ H ds xs) : Sim K fa (ρ ++ [p]) (M ++ [.lst ds]) H := by
  have g : Grow ρ (ρ ++ [p]) := List.prefix_append _ _
  have old : ∀ {i : Nat} {o : MO} {a : Addr}, (M ++ [MO.lst ds])[i]? = some o → (ρ ++ [p])[i]? = some a → (M[i]? = some o ∧ ρ[i]? = some a) ∨ (i = M.length ∧ o = .lst ds ∧ a = p) := fun {i o a} h1 h2 => by
    by_cases hi : i < M.length
    · rw [List.getElem?_append_left hi] at h1
      rw [List.getElem?_append_left (by rw [S.len]; exact hi)] at h2
      exact .inl ⟨h1, h2⟩
    · have hl := (List.getElem?_eq_some_iff.mp h1).1
      rw [List.length_append] at hl
      have e : i = M.length := by simp at hl; omega
      subst e
      rw [List.getElem?_append_right (Nat.le_refl _)] at h1
      rw [List.getElem?_append_right (by rw [S.len]; exact Nat.le_refl _), S.len] at h2
      simp at h1 h2
      exact .inr ⟨rfl, h1.symm, h2.symm⟩
  refine ⟨by simp [S.len], fun i o a h1 h2 => ?_, fun i j o o' a h1 h2 l1 l2 e1 e2 => ?_, fun b hb => ?_⟩
  · rcases old h1 h2 with ⟨q1, q2⟩ | ⟨rfl, rfl, rfl⟩
    · have q := S.obj i o a q1 q2
      cases o with
      | dead => trivial
      | lst es => obtain ⟨ys, e, r'⟩ := q; exact ⟨ys, e, r'.mono g (Kp.refl _)⟩
    · exact ⟨xs, h, r.mono g (Kp.refl _)⟩
  · rcases old h1 e1 with ⟨q1, q2⟩ | ⟨rfl, rfl, rfl⟩ <;> rcases old h2 e2 with ⟨q3, q4⟩ | ⟨e3, rfl, e4⟩
    · exact S.inj i j o o' a q1 q3 l1 l2 q2 q4
    · exact absurd (List.mem_of_getElem? q2) (e4 ▸ hp)
    · exact absurd (List.mem_of_getElem? q4) hp
    · exact e3.symm
  · rcases List.mem_append.mp hb with hb | hb
    · exact S.hs b hb
    · have : b = p := by simpa using hb
      rw [this]; exact ⟨_, h⟩
/-- a list that is changed -/
theorem Sim.put (S : Sim K fa ρ M H) {n : Nat} {p : Addr} {xs ys : List V} {ds es : List D} (hn : M[n]? = some (.lst ds)) (hp : ρ[n]? = some p) (hH : H p = some (.lst xs)) (r : RelDs K fa ρ H es ys) :
    Sim K fa ρ (M.set n (.lst es)) (upd H p (.lst ys)) := by
  have k : Kp H (upd H p (.lst ys)) := Kp.write hH (fun z => z)
  refine ⟨by simp [S.len], fun i o a h1 h2 => ?_, fun i j o o' a h1 h2 l1 l2 e1 e2 => ?_, fun b hb => has_upd (S.hs b hb)⟩
  · by_cases hi : n = i
    · subst hi
      rw [List.getElem?_set_self (List.getElem?_eq_some_iff.mp hn).1] at h1
      cases h1
      rw [hp] at h2; cases h2
      exact ⟨ys, upd_same, r.mono (List.prefix_refl _) k⟩
    · rw [List.getElem?_set_ne hi] at h1
      have q := S.obj i o a h1 h2
      cases o with
      | dead => trivial
      | lst fs =>
        obtain ⟨zs, e, r'⟩ := q
        have ne : a ≠ p := fun z => by
          subst z
          exact hi (S.inj n i _ _ a hn h1 rfl rfl hp h2)
        exact ⟨zs, by rw [upd_ne ne]; exact e, r'.mono (List.prefix_refl _) k⟩
  · have was : ∀ {i : Nat} {o : MO}, (M.set n (.lst es))[i]? = some o → live o = true → ∃ o', M[i]? = some o' ∧ live o' = true := fun {i o} h l => by
      by_cases hi : n = i
      · subst hi; exact ⟨_, hn, rfl⟩
      · rw [List.getElem?_set_ne hi] at h; exact ⟨o, h, l⟩
    obtain ⟨o1, g1, m1⟩ := was h1 l1
    obtain ⟨o2, g2, m2⟩ := was h2 l2
    exact S.inj i j o1 o2 a g1 g2 m1 m2 e1 e2
/-- a list that is no longer changed -/
theorem Sim.kill (S : Sim K fa ρ M H) {n : Nat} {p : Addr} {xs : List V} {ds : List D} {o : HO} (hn : M[n]? = some (.lst ds)) (hp : ρ[n]? = some p) (hH : H p = some (.lst xs)) : Sim K fa ρ (M.set n .dead) (upd H p o) := by
  have k : Kp H (upd H p o) := Kp.write hH (fun z => z)
  refine ⟨by simp [S.len], fun i o' a h1 h2 => ?_, fun i j o1 o2 a h1 h2 l1 l2 e1 e2 => ?_, fun b hb => has_upd (S.hs b hb)⟩
  · by_cases hi : n = i
    · subst hi
      rw [List.getElem?_set_self (List.getElem?_eq_some_iff.mp hn).1] at h1
      cases h1
      trivial
    · rw [List.getElem?_set_ne hi] at h1
      have q := S.obj i o' a h1 h2
      cases o' with
      | dead => trivial
      | lst fs =>
        obtain ⟨zs, e, r'⟩ := q
        have ne : a ≠ p := fun z => by
          subst z
          exact hi (S.inj n i _ _ a hn h1 rfl rfl hp h2)
        exact ⟨zs, by rw [upd_ne ne]; exact e, r'.mono (List.prefix_refl _) k⟩
  · have was : ∀ {i : Nat} {o' : MO}, (M.set n .dead)[i]? = some o' → live o' = true → M[i]? = some o' := fun {i o'} h l => by
      by_cases hi : n = i
      · subst hi
        rw [List.getElem?_set_self (List.getElem?_eq_some_iff.mp hn).1] at h
        cases h; cases l
      · rw [List.getElem?_set_ne hi] at h; exact h
    exact S.inj i j o1 o2 a (was h1 l1) (was h2 l2) l1 l2 e1 e2
theorem oldOk_at : ∀ {n : Nat} {M M' : Mh} {i : Nat} {o o' : MO}, oldOk n M M' = true → M[i]? = some o → M'[i]? = some o' → o' = o ∨ o'.low n = true
  | _, [], _, _, _, _, _, h, _ => by simp at h
  | _, _ :: _, [], _, _, _, h, _, _ => by simp [oldOk] at h
  | n, a :: r, a' :: r', 0, o, o', h, h1, h2 => by
    simp [oldOk] at h h1 h2
    subst h1 h2
    rcases h.1 with q | q
    · exact .inl (MO.beq_eq q)
    · exact .inr q
  | n, a :: r, a' :: r', i + 1, o, o', h, h1, h2 => by
    simp [oldOk] at h h1 h2
    exact oldOk_at h.2 h1 h2
theorem oldOk_len : ∀ {n : Nat} {M M' : Mh}, oldOk n M M' = true → M.length ≤ M'.length
  | _, [], _, _ => Nat.zero_le _
  | _, _ :: _, [], h => by simp [oldOk] at h
  | n, a :: r, a' :: r', h => by
    simp [oldOk] at h
    simpa using oldOk_len h.2
theorem RelDs.relow {n : Nat} {ds : List D} {vs ws : List V} {ρ0 : List Addr} {H0 : Hp} (r : RelDs K fa ρ H ds vs) (hl : D.lows n ds = true) : RelDs K fa (ρ.take n) H ds vs := r.low hl
-- what holds of older data holds of them below
mutual
theorem RelD.lows {ρ0 : List Addr} {H0 : Hp} {v0 : V} : ∀ {d : D}, RelD K fa ρ0 H0 d v0 → d.low ρ0.length = true
  | _, .non => rfl
  | _, .bl b => rfl
  | _, .int i => rfl
  | _, .str s h => rfl
  | _, .tup h r => by rw [D.low]; exact RelDs.lowsAll r
  | _, .lst h r => by rw [D.low]; exact RelDs.lowsAll r
  | _, .ref h => by rw [D.low]; exact decide_eq_true (List.getElem?_eq_some_iff.mp h).1
  | _, .ty n => rfl
  | _, .fn h => rfl
  | _, .dct h hk hv r => by rw [D.low]; exact RelDs.lowsAll r
theorem RelDs.lowsAll {ρ0 : List Addr} {H0 : Hp} {vs : List V} : ∀ {ds : List D}, RelDs K fa ρ0 H0 ds vs → D.lows ρ0.length ds = true
  | _, .nil => rfl
  | _, .cons h r => by rw [D.lows, RelD.lows h, RelDs.lowsAll r]; rfl
end
/-- behind a call: back to what was there -/
theorem Sim.back {ρ0 : List Addr} {M0 : Mh} {H0 : Hp} (S0 : Sim K fa ρ0 M0 H0) (S : Sim K fa ρ M H) (g : Grow ρ0 ρ) (ok : oldOk M0.length M0 M = true) : Sim K fa ρ0 (M.take M0.length) H := by
  have e0 : ρ.take M0.length = ρ0 := by
    obtain ⟨t, rfl⟩ := g
    rw [← S0.len, List.take_left]
  have hl := oldOk_len ok
  refine ⟨by rw [List.length_take, S0.len]; omega, fun i o a h1 h2 => ?_, fun i j o o' a h1 h2 l1 l2 e1 e2 => ?_, fun b hb => S.hs b (g.subset hb)⟩
  · have hi : i < M0.length := by
      have := (List.getElem?_eq_some_iff.mp h1).1
      rw [List.length_take] at this; omega
    rw [List.getElem?_take_of_lt hi] at h1
    have q := S.obj i o a h1 (g.at h2)
    have h0 : M0[i]? = some M0[i] := List.getElem?_eq_getElem hi
    have lw : o.low M0.length = true := by
      rcases oldOk_at ok h0 h1 with e | e
      · have q0 := S0.obj i _ a h0 h2
        subst e
        generalize M0[i] = o at q0 ⊢
        cases o with
        | dead => rfl
        | lst ds => obtain ⟨xs, _, r⟩ := q0; rw [← S0.len]; exact r.lowsAll
      · exact e
    cases o with
    | dead => trivial
    | lst ds =>
      obtain ⟨xs, e, r⟩ := q
      refine ⟨xs, e, ?_⟩
      rw [← e0]
      exact r.low lw
  · have cut : ∀ {i : Nat} {o : MO}, (M.take M0.length)[i]? = some o → M[i]? = some o := fun {i o} h => by
      have hi := (List.getElem?_eq_some_iff.mp h).1
      rw [List.length_take] at hi
      rw [List.getElem?_take_of_lt (by omega)] at h
      exact h
    exact S.inj i j o o' a (cut h1) (cut h2) l1 l2 (g.at e1) (g.at e2)
end
end RF

set_option Elab.async false
set_option linter.all false
set_option maxRecDepth 100000
set_option maxHeartbeats 4000000
namespace RF
open PySem PySem.Spec PyProof.Rows L2

/-! ### what is wanted behind a run -/
/-- an exception's fields -/
def XR (K : PySem.W.Frag) (fa : Fa) (ρ : List Addr) (H : Hp) (fs : List D) (d : Option Addr) : Prop := fs = [] ∧ d = none
abbrev Rl (α β : Type) := List Addr → Hp → α → β → Prop
def Post {α β : Type} (K : PySem.W.Frag) (fa : Fa) (cl : Nat → Value) (rl : Rl α β) (ρ : List Addr) (H : Hp) (r : R α) (Q : β → Hp → Prop) (W : XK) : Prop :=
  match r with
  | .ok a M => ∀ ρ' b H', Fr ρ H ρ' H' → rl ρ' H' a b → Sim K fa ρ' M H' → Q b H'
  | .exc c fs M => ∀ ρ' d H', Fr ρ H ρ' H' → Sim K fa ρ' M H' → XR K fa ρ' H' fs d → W (cl c) d H'
  | .bad => False
section
variable {K : PySem.W.Frag} {fa : Fa} {cl : Nat → Value} {ρ ρ' : List Addr} {H H' : Hp} {M : Mh} {W : XK}
theorem Post.mono {α β : Type} {rl : Rl α β} {r : R α} {Q : β → Hp → Prop} (p : Post K fa cl rl ρ H r Q W) (g : Fr ρ H ρ' H') : Post K fa cl rl ρ' H' r Q W := by
  cases r with
  | ok a M => exact fun ρ2 b H2 g2 => p ρ2 b H2 (g.trans g2)
  | exc c fs M => exact fun ρ2 d H2 g2 => p ρ2 d H2 (g.trans g2)
  | bad => exact p
theorem Post.imp {α β : Type} {rl : Rl α β} {r : R α} {Q Q' : β → Hp → Prop} (p : Post K fa cl rl ρ H r Q W) (h : ∀ b H', Q b H' → Q' b H') : Post K fa cl rl ρ H r Q' W := by
  cases r with
  | ok a M => exact fun ρ2 b H2 g2 r2 s2 => h _ _ (p ρ2 b H2 g2 r2 s2)
  | exc c fs M => exact p
  | bad => exact p
/-- the first of two runs -/
theorem Post.bind {α β γ δ : Type} {rl : Rl α β} {rl2 : Rl γ δ} {r : R α} {f : α → Mh → R γ} {Q : δ → Hp → Prop} {Q1 : β → Hp → Prop} (p : Post K fa cl rl2 ρ H (r.bind f) Q W)
    (h : ∀ a M1 ρ1 b H1, r = .ok a M1 → Fr ρ H ρ1 H1 → rl ρ1 H1 a b → Sim K fa ρ1 M1 H1 → Post K fa cl rl2 ρ1 H1 (f a M1) Q W → Q1 b H1) : Post K fa cl rl ρ H r Q1 W := by
  cases r with
  | ok a M => exact fun ρ1 b H1 g r s => h a M ρ1 b H1 rfl g r s (Post.mono (r := f a M) p g)
  | exc c fs M => exact p
  | bad => exact p
theorem Post.ok {α β : Type} {rl : Rl α β} {a : α} {b : β} {Q : β → Hp → Prop} (p : Post K fa cl rl ρ H (.ok a M) Q W) (g : Fr ρ H ρ' H') (r : rl ρ' H' a b) (s : Sim K fa ρ' M H') : Q b H' := p ρ' b H' g r s
theorem Post.ok0 {α β : Type} {rl : Rl α β} {a : α} {b : β} {Q : β → Hp → Prop} (p : Post K fa cl rl ρ H (.ok a M) Q W) (r : rl ρ H a b) (s : Sim K fa ρ M H) : Q b H := p ρ b H (Fr.refl _ _) r s
end

/-! ### the slots -/
structure EnvR (K : PySem.W.Frag) (fa : Fa) (ρ : List Addr) (H : Hp) (σ : L2.St) (env : Env) : Prop where
  len : σ.length = env.length
  at_ : ∀ (i : Nat) (d : D), env[i]? = some (some d) → ∃ v, σ[i]? = some (some v) ∧ RelD K fa ρ H d v
section
variable {K : PySem.W.Frag} {fa : Fa} {cl : Nat → Value} {ρ ρ' : List Addr} {H H' : Hp} {M : Mh} {W : XK} {σ : L2.St} {env : Env}
theorem EnvR.mono (e : EnvR K fa ρ H σ env) (g : Fr ρ H ρ' H') : EnvR K fa ρ' H' σ env :=
  ⟨e.len, fun i d h => let ⟨v, h1, h2⟩ := e.at_ i d h; ⟨v, h1, h2.mono g.g g.k⟩⟩
theorem EnvR.set (e : EnvR K fa ρ H σ env) (i : Nat) {d : D} {v : V} (r : RelD K fa ρ H d v) : EnvR K fa ρ H (σ.set i (some v)) (env.set i (some d)) := by
  refine ⟨by simp [e.len], fun j c h => ?_⟩
  by_cases hj : i = j
  · subst hj
    have hl : i < env.length := by have := (List.getElem?_eq_some_iff.mp h).1; simpa using this
    rw [List.getElem?_set_self hl] at h
    cases h
    exact ⟨v, by rw [List.getElem?_set_self (by rw [e.len]; exact hl)], r⟩
  · rw [List.getElem?_set_ne hj] at h ⊢
    exact e.at_ j c h
theorem wipeE_len (env : Env) : ∀ l : List Nat, (wipeE env l).length = env.length
  | [] => rfl
  | v :: vs => by unfold wipeE; rw [List.length_set, wipeE_len env vs]
theorem EnvR.wipe (e : EnvR K fa ρ H σ env) : ∀ l : List Nat, EnvR K fa ρ H (L2.wipe σ l) (wipeE env l)
  | [] => e
  | v :: vs => by
    have ih := EnvR.wipe e vs
    refine ⟨by unfold L2.wipe wipeE; simp [ih.len], fun j c h => ?_⟩
    unfold wipeE at h
    by_cases hj : v = j
    · subst hj
      have hl : v < (wipeE env vs).length := by have := (List.getElem?_eq_some_iff.mp h).1; simpa using this
      rw [List.getElem?_set_self hl] at h; cases h
    · rw [List.getElem?_set_ne hj] at h
      unfold L2.wipe
      rw [List.getElem?_set_ne hj]
      exact ih.at_ j c h

/-! ### reading -/
theorem seqOf_rel (S : Sim K fa ρ M H) {d : D} {v : V} (h : RelD K fa ρ H d v) {k : Bool} {ds : List D} (e : seqOf M d = some (k, ds)) :
    ∃ a xs, v = .ref a ∧ RelDs K fa ρ H ds xs ∧ (k = true → SqN K H a xs) ∧ (k = false → SqL K H a xs) := by
  cases h with
  | tup h r => simp only [seqOf, Option.some.injEq, Prod.mk.injEq] at e; obtain ⟨rfl, rfl⟩ := e; exact ⟨_, _, rfl, r, fun _ => h, (fun z => nomatch z)⟩
  | lst h r => simp only [seqOf, Option.some.injEq, Prod.mk.injEq] at e; obtain ⟨rfl, rfl⟩ := e; exact ⟨_, _, rfl, r, (fun z => nomatch z), fun _ => h.seq⟩
  | @ref n a h =>
    simp only [seqOf] at e
    split at e
    · rename_i es hm
      simp only [Option.some.injEq, Prod.mk.injEq] at e
      obtain ⟨rfl, rfl⟩ := e
      obtain ⟨b, xs, h1, h2, r⟩ := S.at hm
      rw [h] at h1; cases h1
      exact ⟨_, _, rfl, r, (fun z => nomatch z), fun _ => .of h2⟩
    · cases e
  | non => simp [seqOf] at e
  | bl _ => simp [seqOf] at e
  | int _ => simp [seqOf] at e
  | str _ _ => simp [seqOf] at e
  | ty _ => simp [seqOf] at e
  | fn _ => simp [seqOf] at e
  | dct _ _ _ _ => simp [seqOf] at e
theorem sgood_len {s : Str} (h : sgood s = true) : s.length ≤ sizeLine := by
  rw [sizeLine_eq]
  unfold sgood at h
  simp at h
  exact h.2
theorem sgood_ok {s : Str} (h : sgood s = true) : PyData.strOk s = true := by
  unfold sgood at h
  simp at h
  exact h.1
theorem sgood_mk {s : Str} (h : PyData.strOk s = true) (l : s.length ≤ 16777216) : sgood s = true := by
  unfold sgood
  rw [h, decide_eq_true l]; rfl
theorem strOk_iff {s : Str} : PyData.strOk s = true ↔ ∀ c ∈ s.cps.toList, c < 0x110000 := by
  unfold PyData.strOk
  rw [Array.all_eq_true']
  simp
theorem sgood_sub {s t : Str} (h : sgood s = true) (m : ∀ c ∈ t.cps.toList, c ∈ s.cps.toList) (l : t.cps.toList.length ≤ s.cps.toList.length) : sgood t = true := by
  have h1 := strOk_iff.mp (sgood_ok h)
  have h2 := sgood_len h
  rw [sizeLine_eq] at h2
  refine sgood_mk (strOk_iff.mpr fun c hc => h1 c (m c hc)) ?_
  have e1 : t.length = t.cps.toList.length := by simp [Str.length]
  have e2 : s.length = s.cps.toList.length := by simp [Str.length]
  omega
theorem sgood_sign {s : Str} (h : sgood s = true) {c : Nat} (hc : c ∈ s.cps.toList) : sgood ⟨#[c]⟩ = true :=
  sgood_sub h (fun x hx => by simp at hx; subst hx; simpa using hc) (by
    cases e : s.cps.toList with
    | nil => rw [e] at hc; cases hc
    | cons a b => simp)
theorem sgood_append {s t : Str} (h : sgood s = true) (h' : sgood t = true) (l : s.length + t.length ≤ LINE) : sgood (s ++ t) = true := by
  have h1 := strOk_iff.mp (sgood_ok h)
  have h2 := strOk_iff.mp (sgood_ok h')
  have e : (s ++ t).cps.toList = s.cps.toList ++ t.cps.toList := by
    show (s.cps ++ t.cps).toList = _
    simp
  refine sgood_mk (strOk_iff.mpr fun c hc => ?_) ?_
  · rw [e] at hc
    rcases List.mem_append.mp hc with hc | hc
    · exact h1 c hc
    · exact h2 c hc
  · show (s.cps ++ t.cps).size ≤ _
    rw [Array.size_append]; exact l
theorem signs_rel {s : Str} (h : sgood s = true) {i : Nat} {d : D} (e : (signs s)[i]? = some d) : ∃ c, s.cps[i]? = some c ∧ d = .str ⟨#[c]⟩ ∧ RelD K fa ρ H d (.str ⟨#[c]⟩) := by
  unfold signs at e
  rw [List.getElem?_map] at e
  cases q : s.cps.toList[i]? with
  | none => rw [q] at e; cases e
  | some c =>
    rw [q] at e
    simp at e
    subst e
    refine ⟨c, by simpa using q, rfl, .str _ (sgood_sign h ?_)⟩
    exact List.mem_of_getElem? q

/-! ### truth -/
theorem truD_rel (S : Sim K fa ρ M H) {d : D} {v : V} (h : RelD K fa ρ H d v) {b : Bool} (e : truD M d = some b) : TruV K v H b := by
  have hem : ∀ {ds : List D} {xs : List V}, RelDs K fa ρ H ds xs → (!ds.isEmpty) = !xs.isEmpty := fun r => by cases r <;> rfl
  cases h with
  | non => simp [truD] at e; exact e
  | bl _ => simp [truD] at e; exact e.symm
  | int i => simp only [truD, Option.some.injEq] at e; exact e.symm
  | str s hs => simp only [truD, Option.some.injEq] at e; exact ⟨sgood_len hs, e.symm⟩
  | tup h r => simp only [truD, Option.some.injEq] at e; exact .inr (.inl ⟨_, h.seq, by rw [← e]; exact hem r⟩)
  | lst h r => simp only [truD, Option.some.injEq] at e; exact .inl ⟨_, h.seq, by rw [← e]; exact hem r⟩
  | ref h =>
    simp only [truD] at e
    split at e
    · rename_i ds hm
      simp only [Option.some.injEq] at e
      obtain ⟨a, xs, h1, h2, r⟩ := S.at hm
      rw [h] at h1; cases h1
      exact .inl ⟨xs, .of h2, by rw [← e]; exact hem r⟩
    · cases e
  | ty _ => simp [truD] at e
  | fn _ => simp [truD] at e
  | dct _ _ _ _ => simp [truD] at e
end

/-! ### a list that is not changed any more -/
def frzQ (Q : VK) : VK := fun v H => ∃ p xs, v = .ref p ∧ H p = some (.lst xs) ∧ ∀ o, Q v (upd H p (.frz o (.lst xs)))
theorem inv_frz {X : Cx} {pins : List (Addr × Obj)} {σ : L2.St} {H : Hp} {s : Shared} {p : Addr} {xs : List V} (I : Inv X pins σ H s) (h : H p = some (.lst xs)) : ∃ o, Inv X pins σ (upd H p (.frz o (.lst xs))) s := by
  obtain ⟨z, its, n, r, e⟩ := I.hok p _ h
  exact ⟨_, I.write (h' := s.heap) (t' := s.toks) (by rw [h]; trivial) (.inl rfl) (fun b u _ q => q) ⟨_, e⟩ ⟨e, z, its, n, r, e⟩⟩
theorem ep_frz {X : Cx} {pins : List (Addr × Obj)} {σ : L2.St} {Q : VK} {u : Value} {s : Shared} (h : EP X pins σ (frzQ Q) u s) : EP X pins σ Q u s := by
  obtain ⟨v, H, I, r, p, xs, rfl, hp, q⟩ := h
  obtain ⟨o, I'⟩ := inv_frz I hp
  exact ⟨.ref p, _, I', r, q o⟩
theorem pe_frz {X : Cx} {e : Expr} {t : TE} (h : PE X e t) : PE X e (fun σ H Q => t σ H (frzQ Q)) :=
  ⟨fun pins s σ H Q I hw => thn (h.run pins s σ H _ I hw) fun _ _ q => ep_frz q⟩
theorem op_frz {X : Cx} {f : Value → Value → Sem Value} {r : R2} (h : OpR X f r) : OpR X f (fun x y H Q => r x y H (frzQ Q)) :=
  fun pins s σ H x y v u Q I rx ry hw => thn (h pins s σ H x y v u _ I rx ry hw) fun _ _ q => ep_frz q
theorem call_frz {X : Cx} {f : Value} {r : List V → Hp → VK → Prop} (h : CallR X f r) : CallR X f (fun xs H Q => r xs H (frzQ Q)) :=
  fun pins s σ H vs us Q I rx hw => thn (h pins s σ H vs us _ I rx hw) fun _ _ q => ep_frz q
theorem sl_frz {X : Cx} {r : V → Option Int → Option Int → Hp → VK → Prop} (h : SlR X r) : SlR X (fun x lo hi H Q => r x lo hi H (frzQ Q)) := by
  intro pins s σ H x v vl vu lo hi sl Q I rx hs pl pu hw
  obtain ⟨T, f, h1, h2, h3⟩ := h pins s σ H x v vl vu lo hi sl _ I rx hs pl pu hw
  exact ⟨T, f, h1, h2, thn h3 fun _ _ q => ep_frz q⟩
section
variable {K : PySem.W.Frag} {fa : Fa} {cl : Nat → Value} {ρ ρ' : List Addr} {H H' : Hp} {M : Mh} {W : XK}
/-- a new list comes frozen -/
theorem frzQ_new {ds : List D} {xs : List V} {p : Addr} {Q : VK} (S : Sim K fa ρ M H) (hp : H p = none) (r : RelDs K fa ρ H ds xs) (q : Post K fa cl (RelD K fa) ρ H (.ok (.lst ds) M) Q W) : frzQ Q (.ref p) (upd H p (.lst xs)) := by
  refine ⟨p, xs, rfl, upd_same, fun o => ?_⟩
  rw [upd_upd]
  have s : Same H (upd H p (.frz o (.lst xs))) := same_new hp
  exact q.ok (Fr.same s) (.lst (.inl ⟨o, upd_same⟩) (r.mono (List.prefix_refl _) (Kp.of_same s))) (S.same s)
/-- a new tuple -/
theorem tup_new {ds : List D} {xs : List V} {p : Addr} {o : Obj} {Q : VK} (S : Sim K fa ρ M H) (hp : H p = none) (hd : o.dict = none) (r : RelDs K fa ρ H ds xs) (q : Post K fa cl (RelD K fa) ρ H (.ok (.tup ds) M) Q W) : Q (.ref p) (upd H p (.frz o (.tup xs))) := by
  have s : Same H (upd H p (.frz o (.tup xs))) := same_new hp
  exact q.ok (Fr.same s) (.tup (.of upd_same hd) (r.mono (List.prefix_refl _) (Kp.of_same s))) (S.same s)
/-- a new list that may change -/
theorem mut_new {ds : List D} {xs : List V} {p : Addr} {Q : VK} (S : Sim K fa ρ M H) (hp : H p = none) (r : RelDs K fa ρ H ds xs) (q : Post K fa cl (RelD K fa) ρ H (.ok (.ref M.length) (M ++ [.lst ds])) Q W) : Q (.ref p) (upd H p (.lst xs)) := by
  have s : Same H (upd H p (.lst xs)) := same_new hp
  refine q.ok (ρ' := ρ ++ [p]) (Fr.new hp) (.ref ?_) (S.new hp r)
  rw [List.getElem?_append_right (by rw [S.len]; exact Nat.le_refl _), S.len]
  simp
end
end RF

set_option Elab.async false
set_option linter.all false
set_option maxRecDepth 100000
set_option maxHeartbeats 4000000
/-! RF2h: new tuples, with what is known of their object (no dict). -/
namespace RF
open PySem PySem.Spec PyProof.Rows L2
abbrev tupO (its : List Value) : Obj := { cls := .type "tuple", data := .seq its.toArray }
theorem tupO_ok {P : Program} {w : World} {H : Hp} {h : Heap} {xs : List V} {its : List Value} (hz : xs.length ≤ sizeLine) (r : Vals xs its) : ObjOk P w H (h.push (tupO its)) h.objs.size (.frz (tupO its) (.tup xs)) :=
  ⟨Heap.get?_push_size _ rfl, hz, its, r, IsTup.new _ _⟩
section
variable {X : Cx} {pos : Pos}
-- a row of items
def tTupN (t : TA) : TE := fun σ H Q => t σ H fun xs H1 => xs.length ≤ sizeLine ∧ ∀ p o, H1 p = none → o.dict = none → Q (.ref p) (upd H1 p (.frz o (.tup xs)))
theorem pe_tupN {es : List Expr} {t : TA} {x1 : Nat} (h : PA X es t) : PE X (.Tuple es x1 pos) (tTupN t) := by
  refine ⟨fun pins s σ H Q I hq => ?_⟩
  refine wpAny_Tuple_spliced (thn (h.run pos pins s σ H _ I hq) fun us s1 ⟨xs, H1, I1, r, z, q⟩ => ⟨by rw [← r.length]; exact z, ?_⟩)
  have hf : H1 s1.heap.objs.size = none := I1.hok.fresh (Nat.le_refl _)
  exact ⟨.ref s1.heap.objs.size, _, I1.laid (t' := s1.toks) (o := .frz (tupO us) (.tup xs)) (fun b u e => Heap.get?_push_of_some _ e) (Nat.le_refl _) (tupO_ok z r), rfl, q _ _ hf rfl⟩
-- t + u
def rCatN (K : PySem.W.Frag) : R2 := fun x y H Q => ∃ a b xs ys, x = .ref a ∧ y = .ref b ∧ SqT K H a xs ∧ SqT K H b ys ∧ xs.length + ys.length ≤ sizeLine ∧
  (xs = [] → Q (.ref b) H) ∧ (xs ≠ [] → ys = [] → Q (.ref a) H) ∧ (xs ≠ [] → ys ≠ [] → ∀ p o, H p = none → o.dict = none → Q (.ref p) (upd H p (.frz o (.tup (xs ++ ys)))))
theorem op_catN : OpR X (binaryOp .Add) (rCatN X.K) := by
  intro pins s σ H x y v u Q I rx ry h
  obtain ⟨a, b, xs, ys, rfl, rfl, ha, hb, hz, q0, q1, q2⟩ := h
  cases rx
  cases ry
  obtain ⟨its, r1, p1, _⟩ := I.tuple ha
  obtain ⟨its2, r2, p2, _⟩ := I.tuple hb
  by_cases hx : xs = []
  · subst hx
    cases r1
    exact cat_tup0 p1 p2 ⟨.ref b, H, I, rfl, q0 rfl⟩
  · refine HT.cat_tup p1 p2 (fun z => hx (r1.nil_iff.mp z)) (fun z => ⟨.ref a, H, I, rfl, q1 hx (r2.nil_iff.mp z)⟩) (fun z => ?_) (by rw [← r1.length, ← r2.length]; exact hz)
    exact ⟨.ref s.heap.objs.size, _, I.laid (t' := s.toks) (o := .frz (tupO (its ++ its2)) (.tup (xs ++ ys))) (fun b ob q => Heap.get?_push_of_some _ q) (Nat.le_refl _) (tupO_ok (by rw [List.length_append]; exact hz) (r1.append r2)), rfl, q2 hx (fun w => z (r2.nil_iff.mpr w)) _ _ (I.hok.fresh (Nat.le_refl _)) rfl⟩
-- t[lo:hi]
def rSlN (K : PySem.W.Frag) : V → Option Int → Option Int → Hp → VK → Prop := fun x lo hi H Q => ∃ a xs, x = .ref a ∧ SqT K H a xs ∧
  (HT.sIx xs.length 0 lo = 0 ∧ HT.sIx xs.length xs.length hi = xs.length → Q (.ref a) H) ∧ (¬ (HT.sIx xs.length 0 lo = 0 ∧ HT.sIx xs.length xs.length hi = xs.length) → ∀ p o, H p = none → o.dict = none → Q (.ref p) (upd H p (.frz o (.tup (cutV xs lo hi)))))
theorem sl_tupN : SlR X (rSlN X.K) := by
  intro pins s σ H x v vl vu lo hi sl Q I rx hs pl pu h
  obtain ⟨a, xs, rfl, hx, q1, q2⟩ := h
  cases rx
  obtain ⟨its, r, ht, hz⟩ := I.tuple hx
  have hlen : its.toArray.size = xs.length := by rw [List.size_toArray]; exact r.length.symm
  refine ⟨"tuple", _, PyProof.Rows.slot_tuple_getitem.lookup, ht.typeIs, ?_⟩
  by_cases hw : HT.sIx xs.length 0 lo = 0 ∧ HT.sIx xs.length xs.length hi = xs.length
  · exact getItem_tuple_whole ht hs pl pu (by rw [hlen]; exact hw) ⟨.ref a, H, I, rfl, q1 hw⟩
  · refine HT.getItem_tuple_cut ht hs pl pu (by rw [hlen]; exact hw) ?_ (by rw [hlen]; exact hz)
    rw [hlen]
    exact ⟨.ref s.heap.objs.size, _, I.laid (t' := s.toks) (o := .frz (tupO ((its.drop (HT.sIx xs.length 0 lo)).take (HT.sIx xs.length xs.length hi - HT.sIx xs.length 0 lo))) (.tup (cutV xs lo hi))) (fun b ob q => Heap.get?_push_of_some _ q) (Nat.le_refl _) (tupO_ok (Nat.le_trans (cutV_length xs lo hi) hz) ((r.drop (HT.sIx xs.length 0 lo)).take (HT.sIx xs.length xs.length hi - HT.sIx xs.length 0 lo))), rfl, q2 hw _ _ (I.hok.fresh (Nat.le_refl _)) rfl⟩
-- tuple(xs)
theorem call_tuple_ofN : CallR X (.type "tuple") (fun xs H Q => ∃ p ys, xs = [.ref p] ∧ ((SqL X.K H p ys ∧ ∀ l o, H l = none → o.dict = none → Q (.ref l) (upd H l (.frz o (.tup ys)))) ∨ (SqT X.K H p ys ∧ Q (.ref p) H))) := by
  intro pins s σ H xs us Q I r h
  obtain ⟨p, ys, rfl, h⟩ := h
  obtain ⟨u, rfl, rx⟩ := vals1 r
  cases rx
  rcases h with ⟨hq, q⟩ | ⟨hq, q⟩
  · obtain ⟨its, r', pl, hz⟩ := I.list hq
    have hlen := r'.length
    refine call_tuple_list pl.isList (fun h' kp => ?_) (by simp only [List.size_toArray] <;> omega)
    have I1 : L2.Inv X pins σ H { s with heap := h' } := I.kept (t' := s.toks) kp
    have I2 : L2.Inv X pins σ (upd H h'.objs.size (.frz (tupO its) (.tup ys))) { s with heap := h'.push (tupO its) } :=
      I1.laid (t' := s.toks) (fun b o e => Heap.get?_push_of_some _ e) (Nat.le_refl _) (tupO_ok hz r')
    exact ⟨.ref h'.objs.size, _, I2, rfl, q _ _ (I1.hok.fresh (Nat.le_refl _)) rfl⟩
  · obtain ⟨its, r', pl, hz⟩ := I.tuple hq
    exact call_tuple_same pl ⟨.ref p, H, I, rfl, q⟩
-- tuple(range(..))
def tTupRgN (te : L2.St → Hp → (Int → Int → Hp → Prop) → Prop) : TE := fun σ H Q => te σ H fun a b H1 => RgOk a b ∧ ∀ q o, H1 q = none → o.dict = none → Q (.ref q) (upd H1 q (.frz o (.tup (rgV a b))))
theorem pe_tupRgN {e : Expr} {te : L2.St → Hp → (Int → Int → Hp → Prop) → Prop} {p pos : Pos} (hc : X.calm = true) (hg : Gl X "tuple") (hm : X.mg "tuple" = none) (he : PRg X e te) (na : starEach [e] X.env = (false, eval e X.env) :: starEach [] X.env := by rfl) : PE X (.Call (.Name "tuple" p) [e] [] pos) (tTupRgN te) := by
  refine ⟨fun pins s σ H Q I h => ?_⟩
  refine Call_ (ld_blt I hg hm boot_tuple (PyProof.Rows.callWith_type1 (args_cons (thn (he pins s σ H _ I h) fun x s1 ⟨r, a, b, t, u, v, H1, ex, hr, I1, ok, q⟩ => args_nil ?_) na) na))
  subst ex
  obtain ⟨b1, b2, b3, b4, b5⟩ := ok
  refine call_tuple_range (n := (b - a).toNat) (I1.ok.hd hc) hr (small_one b1 b2 b3 b4) (rangeSize_nat a b) b5 fun h' tk acc hk hi => ?_
  have I2 : L2.Inv X pins σ H1 { s1 with heap := h', toks := tk } := I1.kept hk
  refine ⟨.ref h'.objs.size, upd H1 h'.objs.size (.frz { cls := .type "tuple", data := .seq acc } (.tup (rgV a b))), I2.laid (t' := tk) (fun c o e => Heap.get?_push_of_some _ e) (Nat.le_refl _) (show ObjOk X.prog X.w _ _ _ (.frz _ (.tup (rgV a b))) from ⟨Heap.get?_push_size _ rfl, ?_, acc.toList, vals_rg hi, ?_⟩), rfl, q _ _ (I2.hok.fresh (Nat.le_refl _)) rfl⟩
  · rw [rgV_length, sizeLine_eq]; omega
  · rw [Array.toArray_toList]; exact IsTup.new _ _
-- t * k
def rRepN (K : PySem.W.Frag) : R2 := fun x y H Q => ∃ l k xs, x = .ref l ∧ y = .int k ∧ SqT K H l xs ∧ xs ≠ [] ∧ 2 ≤ k ∧ k ≤ 1000 ∧ xs.length ≤ 1000 ∧ ∀ p o, H p = none → o.dict = none → Q (.ref p) (upd H p (.frz o (.tup (List.replicate k.toNat xs).flatten)))
theorem op_repN : OpR X (binaryOp .Mult) (rRepN X.K) := by
  intro pins s σ H x y v u Q I rx ry h
  obtain ⟨l, k, xs, rfl, rfl, hT, hne, h1, h2, hz, q⟩ := h
  cases rx
  obtain ⟨t, rfl⟩ := ry
  obtain ⟨its, r, ⟨⟨cls, dd, data, sl⟩, ho, hc, n, hd⟩, hs⟩ := I.tuple hT
  simp only at hc hd
  subst hc hd
  have hle : its.length = xs.length := r.length.symm
  have hn : its ≠ [] := fun e => hne (by
    rw [e] at hle
    exact List.eq_nil_of_length_eq_zero hle.symm)
  have hi : its.toArray.isEmpty = false := by
    cases its with
    | nil => exact absurd rfl hn
    | cons a b => rfl
  have hsz0 : its.toArray.size = xs.length := by rw [List.size_toArray, hle]
  have hm : ((its.toArray.size : Nat) : Int) * k ≤ 1000000 := by
    rw [hsz0]
    have a1 : ((xs.length : Nat) : Int) * k ≤ 1000 * k := Int.mul_le_mul_of_nonneg_right (by omega) (by omega)
    omega
  have flen : (List.replicate k.toNat its).flatten.length ≤ sizeLine := by
    rw [PyProof.Rows.lm_len_rep_flat, hle, sizeLine_eq]
    have a1 : k.toNat * xs.length ≤ 1000 * 1000 := Nat.mul_le_mul (by omega) hz
    omega
  have c0 : (decide (k < -(2 ^ 63)) || decide (k ≥ 2 ^ 63)) = false := by
    rw [decide_eq_false (by omega), decide_eq_false (by omega)] <;> rfl
  have c1 : (its.toArray.isEmpty || k == 1) = false := by
    rw [hi, Bool.false_or]
    exact beq_eq_false_iff_ne.mpr (by omega)
  have c2 : (decide (k ≤ 0) || its.toArray.isEmpty) = false := by
    rw [hi, Bool.or_false]
    exact decide_eq_false (by omega)
  have c4 : Builtin.Tuple.tupleTooMany (((its.toArray.size : Nat) : Int) * k) = false := by
    unfold Builtin.Tuple.tupleTooMany
    rw [sizeLine_eq]
    exact decide_eq_false (by omega)
  refine wpAny_binaryOp_repeat_ref (T := "tuple") (U := "int") (by decide) ⟨_, ho, rfl⟩ (fun s' => typeIs_int s' k t) noFill_tuple_mul F.fills_int_mul F.slot_int_rmul repeat_tuple F.slot_int_index.lookup
    (call_meets F.slot_int_rmul (typeIs_int s k t) F.entry_int_rmul (F.args_int_rmul_2 _ _) (int_rmul_tuple k t l its.toArray n dd sl)
      ⟨ho, rfl, ⟨_, ho, rfl⟩, call_meets F.slot_tuple_mul ⟨_, ho, rfl⟩ F.entry_tuple_mul (F.args_tuple_mul_2 _ _) (tuple_mulW l its.toArray n dd sl k t c0 c1 c2 (by omega) c4 (by rw [size_rep, List.size_toArray]; exact flen)) ⟨ho, ?_⟩⟩)
  rw [size_rep]
  exact ⟨.ref s.heap.objs.size, _, I.laid (t' := s.toks) (o := .frz (tupO (List.replicate k.toNat its).flatten) (.tup (List.replicate k.toNat xs).flatten)) (fun b ob q => Heap.get?_push_of_some _ q) (Nat.le_refl _) (tupO_ok (by rw [PyProof.Rows.lm_len_rep_flat, sizeLine_eq]; have a1 : k.toNat * xs.length ≤ 1000 * 1000 := Nat.mul_le_mul (by omega) hz; omega) (r.rep k.toNat)), rfl, q _ _ (I.hok.fresh (Nat.le_refl _)) rfl⟩
end
end RF

set_option Elab.async false
set_option linter.all false
set_option maxRecDepth 100000
set_option maxHeartbeats 4000000
/-! RF2i: dicts that are made and then read. -/
namespace RF
open PySem PySem.Spec PyProof.Rows L2
section
variable {K : PySem.W.Frag} {fa : Fa} {ρ : List Addr} {H : Hp}
theorem keyD_rel {d : D} {v : V} {k : Key} (h : RelD K fa ρ H d v) (e : keyD d = some k) : v = kV k := by
  cases h <;> simp [keyD] at e
  · subst e; rfl
  · subst e; rfl
theorem dget_of {a : Addr} {kvs : List (Key × V)} {d : D} {y : V} {k : Key} (hf : FzD H a kvs) (hk : keyD d = some k) (h : RelD K fa ρ H d y) : DGet H a y (valV kvs k) := by
  obtain ⟨o, hf⟩ := hf
  exact .inl ⟨kvs, k, .inr ⟨o, hf⟩, keyD_rel h hk, rfl⟩
theorem mem_valV (k : Key) (kvs : List (Key × V)) : ((kvs.map (·.1)).any fun q => decide (q = k)) = (valV kvs k).isSome := by
  rw [List.any_map]
  exact valV_any k kvs
theorem look_rel {k : Key} : ∀ {kvs : List (Key × V)} {ds : List D} {d : D}, RelDs K fa ρ H ds (kvs.map (·.2)) → lookK (kvs.map (·.1)) ds k = some d → ∃ v, valV kvs k = some v ∧ RelD K fa ρ H d v
  | [], _, _, _, e => by simp [lookK] at e
  | p :: r, d0 :: ds, d, .cons h t, e => by
    rw [List.map_cons] at e
    unfold lookK at e
    by_cases c : p.1 = k
    · rw [if_pos c] at e
      cases e
      exact ⟨p.2, valV_pos c, h⟩
    · rw [if_neg c] at e
      obtain ⟨v, h1, h2⟩ := look_rel t e
      exact ⟨v, by rw [valV_neg c]; exact h1, h2⟩
end
section
variable {X : Cx}
theorem ix_dictK : IxR X (fun x y H Q => ∃ a kvs k v, x = .ref a ∧ y = kV k ∧ Rd H a (.dK kvs) ∧ valV kvs k = some v ∧ Q v H) := by
  intro value slice pins s σ H x y v u Q I rx ry ⟨a, kvs, k, w, ex, ey, e, l, q⟩ hs
  subst ex ey
  cases rx
  obtain ⟨z, hd, vs, rel, dd⟩ := dk_rd I.hok e
  obtain ⟨w', hw, rw'⟩ := RelO.some_of (v := w) (o := valueAt vs k) (by rw [← l]; exact rel.val k)
  exact subscriptTail_builtinR (x := w') dd.typeIs PySem.F.slot_dict_getitem.lookup (wpAny_getItem_of (Q := fun r s' => r = w' ∧ EP X pins σ Q r s') (kV_is ry) dd.mapOf hw ⟨rfl, w, H, I.tok _, rw', q⟩) hs
/-- a new dict that is not changed any more -/
def frzQD (Q : VK) : VK := fun v H => ∃ p kvs, v = .ref p ∧ H p = some (.dK kvs) ∧ ∀ o, Q v (upd H p (.frz o (.dK kvs)))
theorem inv_frzD {pins : List (Addr × Obj)} {σ : L2.St} {H : Hp} {s : Shared} {p : Addr} {kvs : List (Key × V)} (I : L2.Inv X pins σ H s) (h : H p = some (.dK kvs)) : ∃ o, L2.Inv X pins σ (upd H p (.frz o (.dK kvs))) s := by
  have ok := I.hok p _ h
  obtain ⟨z, y, vs, r, ob, es, ep, e, c⟩ := ok
  exact ⟨_, I.write (h' := s.heap) (t' := s.toks) (by rw [h]; trivial) (.inl rfl) (fun b u _ q => q) ⟨_, e⟩ ⟨e, z, y, vs, r, ob, es, ep, e, c⟩⟩
theorem call_frzD {f : Value} {r : List V → Hp → VK → Prop} (h : CallR X f r) : CallR X f (fun xs H Q => r xs H (frzQD Q)) :=
  fun pins s σ H vs us Q I rx hw => thn (h pins s σ H vs us _ I rx hw) fun _ _ q => by
    obtain ⟨v, H', I', r', p, kvs, rfl, hp, q⟩ := q
    obtain ⟨o, I''⟩ := inv_frzD I' hp
    exact ⟨.ref p, _, I'', r', q o⟩
theorem mergeK_nodup : ∀ (more kvs : List (Key × V)), (kvs.map (·.1) ++ more.map (·.1)).Nodup → mergeK kvs more = kvs ++ more
  | [], kvs, _ => by simp [mergeK]
  | p :: r, kvs, h => by
    have hn : valV kvs p.1 = none := by
      have hm := mem_valV p.1 kvs
      have : ((kvs.map (·.1)).any fun q => decide (q = p.1)) = false := by
        rw [List.any_eq_false]
        intro q hq e
        have e := of_decide_eq_true e
        subst e
        exact (List.nodup_append.mp h).2.2 p.1 hq p.1 (by simp) rfl
      rw [this] at hm
      cases hv : valV kvs p.1 with
      | none => rfl
      | some v => rw [hv] at hm; cases hm
    show mergeK (putK kvs p.1 p.2) r = _
    rw [putK_new p.2 hn, mergeK_nodup r (kvs ++ [(p.1, p.2)]) (by simpa using h)]
    simp
end
/-- the pairs of a list -/
def PrsAre (K : PySem.W.Frag) (H : Hp) : List V → List (Key × V) → Prop
  | [], [] => True
  | x :: xs, kv :: r => (∃ t, x = V.ref t ∧ SqT K H t [kV kv.1, kv.2]) ∧ PrsAre K H xs r
  | _, _ => False
theorem PrsAre.paired {K : PySem.W.Frag} {H : Hp} : ∀ {xs : List V} {kvs : List (Key × V)}, PrsAre K H xs kvs → ∃ ps : List Addr, xs = ps.map V.ref ∧ Paired (fun p kv => SqT K H p [kV kv.1, kv.2]) ps kvs
  | [], [], _ => ⟨[], rfl, .nil⟩
  | x :: xs, kv :: r, h => by
    obtain ⟨⟨t, rfl, q⟩, h⟩ := h
    obtain ⟨ps, e, p⟩ := h.paired
    exact ⟨t :: ps, by rw [e]; rfl, .cons q p⟩
  | [], _ :: _, h => h.elim
  | _ :: _, [], h => h.elim
theorem pairs_are {K : PySem.W.Frag} {fa : Fa} {ρ : List Addr} {H : Hp} : ∀ {ds : List D} {xs : List V} {ks : List (Int ⊕ Str)} {vs : List D}, RelDs K fa ρ H ds xs → pairsD ds = some (ks, vs) →
    ∃ kvs : List (Key × V), kvs.map (·.1) = ks ∧ PrsAre K H xs kvs ∧ RelDs K fa ρ H vs (kvs.map (·.2))
  | [], _, ks, vs, .nil, e => by cases e; exact ⟨[], rfl, trivial, .nil⟩
  | d :: ds, _, ks, vs, .cons h r, e => by
    unfold pairsD at e
    split at e
    · rename_i heq
      cases heq
    · rename_i k v r' heq
      cases heq
      split at e
      · rename_i q ks' vs' hk hp
        cases e
        cases h with | tup ht hr =>
        cases hr with | cons h1 hr =>
        cases hr with | cons h2 hr =>
        cases hr
        obtain ⟨kvs, e1, e2, e3⟩ := pairs_are r hp
        have ek := keyD_rel h1 hk
        subst ek
        exact ⟨(q, _) :: kvs, by rw [List.map_cons, e1], ⟨⟨_, rfl, ht.seq⟩, e2⟩, .cons h2 e3⟩
      · cases e
    · cases e
end RF

set_option Elab.async false
set_option linter.all false
set_option maxRecDepth 100000
set_option maxHeartbeats 4000000
namespace RF
open PySem PySem.Spec PyProof.Rows L2

/-! ### rules by values that the layer lacks -/
section
variable {X : Cx}
-- list + list, of any kind
theorem list_addS (l : Addr) (items : Array Value) (n : Nat) (b : Addr) (items2 : Array Value) (n2 : Nat) (sl sl2 : Array (Option Value)) (hc0 : items.size + items2.size ≤ sizeLine) :
    Meets (Builtin.«list.__add__» ⟨[.ref l, .ref b], []⟩) (fun _ R s => s.heap.get? l = some { cls := .type "list", dict := none, data := .seq items n, slots := sl } ∧ s.heap.get? b = some { cls := .type "list", dict := none, data := .seq items2 n2, slots := sl2 } ∧ R (.ok (.ret (Value.ref s.heap.objs.size))) { s with heap := s.heap.push { cls := Value.type "list", data := Data.seq (items ++ items2) }, toks := s.toks }) :=
  .of_wp fun prog w A R s h => by
    obtain ⟨hp, g, d, tk, os⟩ := s; obtain ⟨hl, hb, h⟩ := h
    have f1 := AutoSeq1.idx_int; have f2 := AutoSeq1.sub_tuple_tuple; have f3 := AutoSeq1.sub_list_list; have f4 := AutoSeq1.sub_tuple_list; have f5 := AutoSeq1.sub_list_tuple
    wp_walk using wpAny_loadPart' hl, wpAny_loadPart' hb
    exact ⟨_, rfl, h⟩
def rCatL (K : PySem.W.Frag) : R2 := fun x y H Q => ∃ l b xs zs, x = .ref l ∧ y = .ref b ∧ SqL K H l xs ∧ SqL K H b zs ∧ xs.length + zs.length ≤ sizeLine ∧ ∀ p, H p = none → Q (.ref p) (upd H p (.lst (xs ++ zs)))
theorem op_catL : OpR X (binaryOp .Add) (rCatL X.K) := by
  intro pins s σ H x y v u Q I rx ry h
  obtain ⟨l, b, xs, zs, rfl, rfl, hH, hB, hz, q⟩ := h
  cases rx
  cases ry
  obtain ⟨its, r, ⟨⟨c1, d1, t1, sl1⟩, n, ho, hc, hd, hdt⟩, hl⟩ := I.list hH
  obtain ⟨its2, r2, ⟨⟨c2, d2, t2, sl2⟩, n2, ho2, hc2, hd2, hdt2⟩, hl2⟩ := I.list hB
  simp only at hc hd hdt hc2 hd2 hdt2
  subst hc hd hdt hc2 hd2 hdt2
  have e1 := r.length
  have e2 := r2.length
  refine concat_meets ⟨_, ho, rfl⟩ ⟨_, ho2, rfl⟩ noFill_list_add seq_list_add F.slot_list_add F.entry_list_add (F.args_list_add_2 _ _)
    (list_addS l its.toArray n b its2.toArray n2 sl1 sl2 (by rw [List.size_toArray, List.size_toArray]; omega)) ⟨ho, ho2, ?_⟩
  have ea : its.toArray ++ its2.toArray = (its ++ its2).toArray := by simp
  rw [ea]
  exact ⟨.ref _, _, I.lnew (t' := s.toks) (r.append r2) (by rw [List.length_append]; omega), rfl, q _ I.fresh⟩

-- tuple * int: the same one; nothing
theorem tuple_mul_same (l : Addr) (items : Array Value) (n : Nat) (dd : Option Addr) (sl : Array (Option Value)) (x : Int) (u : Tok) (c0 : (decide (x < -(2 ^ 63)) || decide (x ≥ 2 ^ 63)) = false) (c1 : (items.isEmpty || x == 1) = true) :
    Meets (Builtin.«tuple.__mul__» ⟨[.ref l, .int x u], []⟩) (fun _ R s => s.heap.get? l = some { cls := .type "tuple", dict := dd, data := .seq items n, slots := sl } ∧
      R (.ok (.ret (Value.ref l))) s) :=
  .of_wp fun prog w A R s h => by
    obtain ⟨hp, g, d, tk, os⟩ := s
    obtain ⟨hl, h⟩ := h
    have f1 := AutoSeq1.idx_int
    wp_walk using wpAny_loadPart' hl
    repeat (first
      | (refine wpAny_ite_false (decide_eq_false (by rw [c0]; exact Bool.false_ne_true)) ?_; wp_walk using wpAny_loadPart' hl)
      | (refine wpAny_ite_true (decide_eq_true (by exact c1)) ?_; wp_walk using wpAny_loadPart' hl))
    all_goals first | exact ⟨_, rfl, h⟩ | trace_state
theorem tuple_mul_none (l : Addr) (items : Array Value) (n : Nat) (dd : Option Addr) (sl : Array (Option Value)) (x : Int) (u : Tok) (c0 : (decide (x < -(2 ^ 63)) || decide (x ≥ 2 ^ 63)) = false) (c1 : (items.isEmpty || x == 1) = false) (c2 : (decide (x ≤ 0) || items.isEmpty) = true) :
    Meets (Builtin.«tuple.__mul__» ⟨[.ref l, .int x u], []⟩) (fun _ R s => s.heap.get? l = some { cls := .type "tuple", dict := dd, data := .seq items n, slots := sl } ∧
      R (.ok (.ret (Value.ref s.heap.objs.size))) { s with heap := s.heap.push { cls := Value.type "tuple", data := Data.seq #[] }, toks := s.toks }) :=
  .of_wp fun prog w A R s h => by
    obtain ⟨hp, g, d, tk, os⟩ := s
    obtain ⟨hl, h⟩ := h
    have f1 := AutoSeq1.idx_int
    wp_walk using wpAny_loadPart' hl
    repeat (first
      | (refine wpAny_ite_false (decide_eq_false (by rw [c0]; exact Bool.false_ne_true)) ?_; wp_walk using wpAny_loadPart' hl)
      | (refine wpAny_ite_false (decide_eq_false (by rw [c1]; exact Bool.false_ne_true)) ?_; wp_walk using wpAny_loadPart' hl)
      | (refine wpAny_ite_true (decide_eq_true (by exact c2)) ?_; wp_walk using wpAny_loadPart' hl))
    all_goals first | exact ⟨_, rfl, h⟩ | trace_state

def rRepA (K : PySem.W.Frag) : R2 := fun x y H Q => ∃ l k xs, x = .ref l ∧ y = .int k ∧ SqT K H l xs ∧ -1000 ≤ k ∧ k ≤ 1000 ∧ xs.length ≤ 1000 ∧
  (xs = [] ∨ k = 1 → Q (.ref l) H) ∧ (¬ (xs = [] ∨ k = 1) → k ≤ 0 → ∀ p o, H p = none → o.dict = none → Q (.ref p) (upd H p (.frz o (.tup [])))) ∧
  (¬ (xs = [] ∨ k = 1) → ¬ k ≤ 0 → ∀ p o, H p = none → o.dict = none → Q (.ref p) (upd H p (.frz o (.tup (List.replicate k.toNat xs).flatten))))
theorem op_repA : OpR X (binaryOp .Mult) (rRepA X.K) := by
  intro pins s σ H x y v u Q I rx ry h
  obtain ⟨l, k, xs, rfl, rfl, hT, h1, h2, hz, q0, q1, q2⟩ := h
  by_cases c : xs = [] ∨ k = 1
  · cases rx
    obtain ⟨t, rfl⟩ := ry
    obtain ⟨its, r, ⟨⟨cls, dd, data, sl⟩, ho, hc, n, hd⟩, hs⟩ := I.tuple hT
    simp only at hc hd
    subst hc hd
    have c0 : (decide (k < -(2 ^ 63)) || decide (k ≥ 2 ^ 63)) = false := by
      rw [decide_eq_false (by omega), decide_eq_false (by omega)] <;> rfl
    have c1 : (its.toArray.isEmpty || k == 1) = true := by
      rcases c with c | c
      · subst c; cases r; rfl
      · subst c; simp
    refine wpAny_binaryOp_repeat_ref (T := "tuple") (U := "int") (by decide) ⟨_, ho, rfl⟩ (fun s' => typeIs_int s' k t) noFill_tuple_mul F.fills_int_mul F.slot_int_rmul repeat_tuple F.slot_int_index.lookup
      (call_meets F.slot_int_rmul (typeIs_int s k t) F.entry_int_rmul (F.args_int_rmul_2 _ _) (int_rmul_tuple k t l its.toArray n dd sl)
        ⟨ho, rfl, ⟨_, ho, rfl⟩, call_meets F.slot_tuple_mul ⟨_, ho, rfl⟩ F.entry_tuple_mul (F.args_tuple_mul_2 _ _) (tuple_mul_same l its.toArray n dd sl k t c0 c1) ⟨ho, ?_⟩⟩)
    exact ⟨.ref l, H, I, rfl, q0 c⟩
  · by_cases c2 : k ≤ 0
    · cases rx
      obtain ⟨t, rfl⟩ := ry
      obtain ⟨its, r, ⟨⟨cls, dd, data, sl⟩, ho, hc, n, hd⟩, hs⟩ := I.tuple hT
      simp only at hc hd
      subst hc hd
      have c0 : (decide (k < -(2 ^ 63)) || decide (k ≥ 2 ^ 63)) = false := by
        rw [decide_eq_false (by omega), decide_eq_false (by omega)] <;> rfl
      have hi : its.toArray.isEmpty = false := by
        cases r with
        | nil => exact absurd (.inl rfl) c
        | cons _ _ => rfl
      have c1 : (its.toArray.isEmpty || k == 1) = false := by
        rw [hi, Bool.false_or]
        exact beq_eq_false_iff_ne.mpr (fun z => c (.inr z))
      have c3 : (decide (k ≤ 0) || its.toArray.isEmpty) = true := by rw [decide_eq_true c2]; rfl
      refine wpAny_binaryOp_repeat_ref (T := "tuple") (U := "int") (by decide) ⟨_, ho, rfl⟩ (fun s' => typeIs_int s' k t) noFill_tuple_mul F.fills_int_mul F.slot_int_rmul repeat_tuple F.slot_int_index.lookup
        (call_meets F.slot_int_rmul (typeIs_int s k t) F.entry_int_rmul (F.args_int_rmul_2 _ _) (int_rmul_tuple k t l its.toArray n dd sl)
          ⟨ho, rfl, ⟨_, ho, rfl⟩, call_meets F.slot_tuple_mul ⟨_, ho, rfl⟩ F.entry_tuple_mul (F.args_tuple_mul_2 _ _) (tuple_mul_none l its.toArray n dd sl k t c0 c1 c3) ⟨ho, ?_⟩⟩)
      refine ⟨.ref s.heap.objs.size, _, I.laid (t' := s.toks) (o := .frz (tupO []) (.tup [])) (fun b ob q => Heap.get?_push_of_some _ q) (Nat.le_refl _) ?_, rfl, q1 c c2 _ _ (I.hok.fresh (Nat.le_refl _)) rfl⟩
      exact ⟨Heap.get?_push_size _ rfl, Nat.zero_le _, [], .nil, IsTup.new _ _⟩
    · exact op_repN pins s σ H _ _ v u Q I rx ry ⟨l, k, xs, rfl, rfl, hT, (fun z => c (.inl z)), by
        have : k ≠ 1 := fun z => c (.inr z)
        omega, h2, hz, q2 c c2⟩

-- text * int
theorem op_repS : OpR X (binaryOp .Mult) (fun x y H Q => ∃ a k, x = .str a ∧ y = .int k ∧ a.length ≤ 1000 ∧ -1000 ≤ k ∧ k ≤ 1000 ∧ Q (.str (Txt.mul a k)) H) := by
  intro pins s σ H x y v u Q I rx ry h
  obtain ⟨a, k, rfl, rfl, hz, h1, h2, q⟩ := h
  obtain ⟨t, rfl⟩ := rx
  obtain ⟨t', rfl⟩ := ry
  refine SB.mul ⟨?_, fun c1 c2 => ?_, fun c1 c2 => ?_⟩ fun t2 k2 => ⟨.str _, H, I.tok k2, ⟨t2, rfl⟩, q⟩
  · rw [decide_eq_false (by omega), decide_eq_false (by omega)] <;> rfl
  · have : (1000 : Int) ≤ (2 ^ 63 - 1) / k := by
      rw [Int.le_ediv_iff_mul_le (by omega)]
      omega
    omega
  · unfold Builtin.Str.tooLong
    have a1 : a.length * k.toNat ≤ 1000 * 1000 := Nat.mul_le_mul hz (by omega)
    rw [sizeLine_eq]
    exact decide_eq_false (by omega)

-- max, min of a tuple of ints
theorem iter_intTup {prog : Program} {w : World} {A : Around} {E : Value → Shared → Prop} {s : Shared} {l : Addr} {xs : Array (Int × Tok)} {Q : Value → Shared → Prop} (hl : IsTup s.heap l (intItems xs))
    (h : ∀ s₂ : Shared, s₂ = { s with heap := s.heap.push { cls := .type "tuple_iterator", data := .fields #[.ref l, .int 0 0] } } →
      (s₂.heap.IsTupleIter s.heap.objs.size l 0 ∧ s₂.heap.IsTuple l (intItems xs)) → (∀ b ∈ [s.heap.objs.size, l], b < s₂.heap.objs.size) → l ≠ s.heap.objs.size → Q (.ref s.heap.objs.size) s₂) :
    wpAny (model prog w) A (pyIter (.ref l)) Q E s := by
  have hlt : l < s.heap.objs.size := hl.lt
  have ht : s.heap.IsTuple l (intItems xs) := hl
  refine wpAny_pyIter_tuple ht (h _ rfl ⟨⟨_, Heap.get?_push_size _ rfl, rfl, rfl⟩, ?_⟩ (fun b hb => ?_) (Nat.ne_of_lt hlt))
  · obtain ⟨o, e, r⟩ := ht
    exact ⟨o, Heap.get?_push_of_some _ e, r⟩
  · show b < (s.heap.push _).objs.size
    rw [Heap.size_push]
    rcases List.mem_cons.mp hb with rfl | hb
    · exact Nat.lt_succ_self _
    · rcases List.mem_cons.mp hb with rfl | hb
      · exact Nat.lt_succ_of_lt hlt
      · cases hb
theorem old_keptT {s : Shared} {l : Addr} {h' : Heap} (hk : ∀ b o, b ∉ [s.heap.objs.size] → (s.heap.push { cls := .type "tuple_iterator", data := .fields #[.ref l, .int 0 0] }).get? b = some o → h'.get? b = some o) :
    ∀ b o, s.heap.get? b = some o → h'.get? b = some o := fun b o e => by
  refine hk b o (fun hm => ?_) (Heap.get?_push_of_some _ e)
  rcases List.mem_cons.mp hm with e1 | hm
  · exact absurd (e1 ▸ Heap.lt_size e) (Nat.lt_irrefl _)
  · cases hm
theorem max_tup {prog : Program} {w : World} {A : Around} {E : Value → Shared → Prop} {s : Shared} {l : Addr} {its : List Value} {ns : List Int} {Q : Value → Shared → Prop} (hh : A.handled = none) (hl : IsTup s.heap l its.toArray) (hi : IntsAre its ns) (hne : 0 < ns.length)
    (h : ∀ h' tk M t', (∀ b o, s.heap.get? b = some o → h'.get? b = some o) → M ∈ ns → (∀ a, a ∈ ns → a ≤ M) → Q (.int M t') { s with heap := h', toks := tk }) : wpAny (model prog w) A (call (.builtin "max") [.ref l]) Q E s := by
  obtain ⟨xs, e⟩ := hi.allInts.items
  have hn : numsOf (intItems xs).toList = ns := by rw [← e]; exact hi.numsOf
  rw [nums_intItems] at hn
  subst hn
  rw [e] at hl
  have hsz : 0 < xs.size := by simpa using hne
  refine call_max_walk (iter_intTup hl fun s₂ e st hfp hlI => ?_)
  subst e
  refine ⟨_, _, _, _, _, _, _, rfl, Walks.tuple (A := A.in1) hh _ l hlI (intItems xs), st, hfp, by simpa [intItems] using hsz, CmpOf.ints_gt (numAt xs) (fun _ _ => intItems_at), fun v h' tk hP hk => ?_⟩
  obtain ⟨t, rfl⟩ := intItems_at hP
  have hsz2 : (intItems xs).size = xs.size := by simp [intItems]
  rw [hsz2]
  obtain ⟨h1, h2⟩ := argBest_gt (numAt xs) (xs.size - 1)
  refine h h' tk _ t (old_keptT hk) ?_ fun a ha => ?_
  · rw [numAt_eq]; exact PySem.getD_mem (by rw [List.length_map, Array.length_toList]; omega)
  · obtain ⟨j, hj, rfl⟩ := mem_getD ha
    rw [List.length_map, Array.length_toList] at hj
    rw [← numAt_eq]; exact h2 j (by omega)
theorem min_tup {prog : Program} {w : World} {A : Around} {E : Value → Shared → Prop} {s : Shared} {l : Addr} {its : List Value} {ns : List Int} {Q : Value → Shared → Prop} (hh : A.handled = none) (hl : IsTup s.heap l its.toArray) (hi : IntsAre its ns) (hne : 0 < ns.length)
    (h : ∀ h' tk M t', (∀ b o, s.heap.get? b = some o → h'.get? b = some o) → M ∈ ns → (∀ a, a ∈ ns → M ≤ a) → Q (.int M t') { s with heap := h', toks := tk }) : wpAny (model prog w) A (call (.builtin "min") [.ref l]) Q E s := by
  obtain ⟨xs, e⟩ := hi.allInts.items
  have hn : numsOf (intItems xs).toList = ns := by rw [← e]; exact hi.numsOf
  rw [nums_intItems] at hn
  subst hn
  rw [e] at hl
  have hsz : 0 < xs.size := by simpa using hne
  refine call_min_walk (iter_intTup hl fun s₂ e st hfp hlI => ?_)
  subst e
  refine ⟨_, _, _, _, _, _, _, rfl, Walks.tuple (A := A.in1) hh _ l hlI (intItems xs), st, hfp, by simpa [intItems] using hsz, CmpOf.ints_lt (numAt xs) (fun _ _ => intItems_at), fun v h' tk hP hk => ?_⟩
  obtain ⟨t, rfl⟩ := intItems_at hP
  have hsz2 : (intItems xs).size = xs.size := by simp [intItems]
  rw [hsz2]
  obtain ⟨h1, h2⟩ := argBest_lt (numAt xs) (xs.size - 1)
  refine h h' tk _ t (old_keptT hk) ?_ fun a ha => ?_
  · rw [numAt_eq]; exact PySem.getD_mem (by rw [List.length_map, Array.length_toList]; omega)
  · obtain ⟨j, hj, rfl⟩ := mem_getD ha
    rw [List.length_map, Array.length_toList] at hj
    rw [← numAt_eq]; exact h2 j (by omega)
theorem cr_maxA (hc : X.calm = true) : CallR X (.builtin "max") (fun vs H Q => ∃ (a : Addr) (ns : List Int), vs = [V.ref a] ∧ (SqL X.K H a (ns.map V.int) ∨ SqT X.K H a (ns.map V.int)) ∧ 0 < ns.length ∧ ∀ m, m ∈ ns → (∀ y, y ∈ ns → y ≤ m) → Q (.int m) H) := by
  intro pins s σ H vs us Q I r h
  obtain ⟨a, ns, rfl, hs | hs, hne, q⟩ := h
  · exact cr_max hc pins s σ H _ us Q I r ⟨a, ns, rfl, hs, hne, q⟩
  · obtain ⟨its, rv, hl, _⟩ := I.tuple hs
    rw [Vals.ref1 r]
    exact max_tup (I.ok.hd hc) hl rv.ints hne fun h' tk m t' hk h1 h2 => ⟨.int _, H, I.kept hk, ⟨_, rfl⟩, q m h1 h2⟩
theorem cr_minA (hc : X.calm = true) : CallR X (.builtin "min") (fun vs H Q => ∃ (a : Addr) (ns : List Int), vs = [V.ref a] ∧ (SqL X.K H a (ns.map V.int) ∨ SqT X.K H a (ns.map V.int)) ∧ 0 < ns.length ∧ ∀ m, m ∈ ns → (∀ y, y ∈ ns → m ≤ y) → Q (.int m) H) := by
  intro pins s σ H vs us Q I r h
  obtain ⟨a, ns, rfl, hs | hs, hne, q⟩ := h
  · exact cr_min hc pins s σ H _ us Q I r ⟨a, ns, rfl, hs, hne, q⟩
  · obtain ⟨its, rv, hl, _⟩ := I.tuple hs
    rw [Vals.ref1 r]
    exact min_tup (I.ok.hd hc) hl rv.ints hne fun h' tk m t' hk h1 h2 => ⟨.int _, H, I.kept hk, ⟨_, rfl⟩, q m h1 h2⟩

-- list(text)
theorem call_list_strR (hc : X.calm = true) : CallR X (.type "list") (fun vs H Q => ∃ z : Str, vs = [V.str z] ∧ z.length ≤ sizeLine ∧ ∀ p, H p = none → Q (.ref p) (upd H p (.lst (z.cps.toList.map fun c => V.str ⟨#[c]⟩)))) := by
  intro pins s σ H vs us Q I r h
  obtain ⟨z, rfl, hz, q⟩ := h
  obtain ⟨u, rfl, t, rfl⟩ := vals1 r
  refine call_list_str (I.ok.hd hc) z t (fun h' tk acc' c' hk e hi => ?_) hz
  have hv : Vals (z.cps.toList.map fun c => V.str ⟨#[c]⟩) acc'.toList := by
    have hl : acc'.toList.length = z.cps.toList.length := by simpa using hi.1
    have key : ∀ (us : List Value) (cs : List Nat), us.length = cs.length → (∀ (j : Nat) (u : Value), us[j]? = some u → ∃ c t, cs[j]? = some c ∧ u = Value.str ⟨#[c]⟩ t) → Vals (cs.map fun c => V.str ⟨#[c]⟩) us := by
      intro us
      induction us with
      | nil => intro cs hl _; cases cs with
        | nil => exact .nil
        | cons _ _ => simp at hl
      | cons u us ih => intro cs hl h; cases cs with
        | nil => simp at hl
        | cons c cs =>
          obtain ⟨c', t, h1, h2⟩ := h 0 u rfl
          simp at h1
          subst h1 h2
          exact .cons ⟨t, rfl⟩ (ih cs (by simpa using hl) fun j u hj => h (j + 1) u hj)
    refine key acc'.toList z.cps.toList hl fun j u hj => ?_
    obtain ⟨c, t, h1, h2⟩ := hi.2 j u (by simpa using hj)
    exact ⟨c, t, by simpa using h1, h2⟩
  refine ⟨.ref s.heap.objs.size, _, I.laid (t' := tk) (o := .lst (z.cps.toList.map fun c => V.str ⟨#[c]⟩)) hk (Nat.le_refl _) ⟨?_, acc'.toList, c', hv, ?_⟩, rfl, q _ I.fresh⟩
  · rw [List.length_map]; simpa [Str.length] using hz
  · rw [Array.toArray_toList]; exact e

-- t[::-1], s[::-1]
theorem sliceApplied_rev {prog : Program} {w : World} {A : Around} {E : Value → Shared → Prop} {s : Shared} {sl : Addr} {vk : Value} {n : Nat} {Q : Int × Int × Nat → Shared → Prop} (hs : s.heap.IsSliceOf sl .none .none vk) (pk : IsPart vk (some (-1)))
    (h : Q ((n : Int) - 1, -1, n) s) : wpAny (model prog w) A (Builtin.Slice.sliceApplied (.ref sl) (pure (n : Int))) Q E s := by
  obtain ⟨os, hos, hcs, hds⟩ := id hs
  unfold Builtin.Slice.sliceApplied Builtin.Slice.sliceFields
  refine wpAny_bind (wpAny_bind (wpAny_field hos hds (x := .none) rfl (wpAny_bind (wpAny_field hos hds (x := .none) rfl (wpAny_bind (wpAny_field hos hds (x := vk) rfl (wpAny_pure ?_)))))))
  refine wpAny_bind (HT.slicePart_ pk ?_)
  show wpAny _ _ (if ((-1 : Int) == 0) = true then _ else _) _ _ s
  rw [if_neg (by decide)]
  refine wpAny_bind (slicePart_none (wpAny_bind (slicePart_none (wpAny_bind (wpAny_pure ?_)))))
  show wpAny _ _ (pure ((n : Int) - 1, (-1 : Int), Builtin.Slice.slicePlaces ((n : Int) - 1) (-1) (-1))) _ _ s
  have e : Builtin.Slice.slicePlaces ((n : Int) - 1) (-1) (-1) = n := by
    unfold Builtin.Slice.slicePlaces
    have h1 : ¬ ((-1 : Int) > 0) := by decide
    simp only [h1, if_false]
    split
    · rw [show (- -1 : Int) = 1 by decide, Int.ediv_one]; omega
    · omega
  rw [e]
  exact wpAny_pure h
theorem fm_congr {α β : Type} {f g : α → Option β} : ∀ {l : List α}, (∀ x ∈ l, f x = g x) → l.filterMap f = l.filterMap g
  | [], _ => rfl
  | x :: l, h => by
    rw [List.filterMap_cons, List.filterMap_cons, h x (by simp), fm_congr fun y hy => h y (by simp [hy])]
theorem pick_rev (xs : Array Value) : ((List.range xs.size).filterMap fun (m : Nat) => xs[(((xs.size : Int) - 1) + (m : Int) * (-1)).toNat]?).toArray = xs.toList.reverse.toArray := by
  have e : (List.range xs.size).filterMap (fun (m : Nat) => xs[(((xs.size : Int) - 1) + (m : Int) * (-1)).toNat]?) = ((List.range xs.size).map (fun k => xs.size - 1 - k)).filterMap (xs[·]?) := by
    rw [List.filterMap_map]
    refine fm_congr fun m hm => ?_
    have hm := List.mem_range.mp hm
    have e1 : (((xs.size : Int) - 1) + (m : Int) * (-1)).toNat = xs.size - 1 - m := by omega
    rw [e1]; rfl
  rw [e, PySem.W.krv_range, List.filterMap_reverse, PySem.W.krv_all]
theorem getItem_tuple_rev {prog : Program} {w : World} {A : Around} {E : Value → Shared → Prop} {s : Shared} {t sl : Addr} {items : Array Value} {vk : Value} {Q : Value → Shared → Prop} (ht : IsTup s.heap t items) (hs : s.heap.IsSliceOf sl .none .none vk) (pk : IsPart vk (some (-1)))
    (h : Q (.ref s.heap.objs.size) { s with heap := s.heap.push { cls := .type "tuple", data := .seq items.toList.reverse.toArray } }) (hsz : items.size ≤ sizeLine) : wpAny (model prog w) A (getItem (.ref t) (.ref sl)) Q E s := by
  have htake : sizeOk (.seq items.toList.reverse.toArray) := by
    show items.toList.reverse.toArray.size ≤ sizeLine
    simpa using hsz
  obtain ⟨os, hos, hcs, hds⟩ := id hs
  have hTs : s.TypeIs (.ref sl) "slice" := ⟨os, hos, hcs⟩
  unfold getItem
  try with_reducible refine wpAny_holding ?_
  first | refine wpAny_bind (wpAny_pure ?_) | skip
  refine wpAny_bind (wpAny_sequenceKey ht.typeIs (by decide) ?_)
  refine wpAny_bind (wpAny_callSpecial?_slot (name := Str.ofString "__getitem__") ht.typeIs PyProof.Rows.slot_tuple_getitem
    (wpAny_call_entry PyProof.Rows.slot_tuple_getitem ht.typeIs entry_tuple_getitem ?_ (args_tuple_getitem _ _)))
  show wpAny _ _ (Builtin.Tuple.tupleItemsOf (.ref t) >>= _) _ _ s
  refine wpAny_bind (tupleItemsOf_ ht ?_)
  refine wpAny_bind (wpAny_typeOf hTs ?_)
  rw [if_pos (by decide)]
  refine wpAny_bind (sliceApplied_rev hs pk ?_)
  have hno : ¬ ((((items.size : Int) - 1 == 0) && ((-1 : Int) == 1) && (items.size == items.size)) = true) := by
    rw [show ((-1 : Int) == 1) = false by decide, Bool.and_false, Bool.false_and]
    exact Bool.false_ne_true
  show wpAny _ _ (if (((items.size : Int) - 1 == 0) && ((-1 : Int) == 1) && (items.size == items.size)) = true then _ else _) _ _ s
  rw [if_neg hno, pick_rev]
  first
    | exact wpAny_bind (m := Builtin.Tuple.tupleExact _) (wpAny_newObj_type (wpAny_pure ⟨_, rfl, wpAny_pure h⟩) htake)
    | exact wpAny_bind (m := Builtin.Tuple.tupleExact _) (wpAny_newObj_type (wpAny_bind (wpAny_pure (wpAny_pure ⟨_, rfl, wpAny_pure h⟩))) htake)
    | exact wpAny_bind (wpAny_bind (m := Builtin.Tuple.tupleExact _) (wpAny_newObj_type (wpAny_pure (wpAny_pure ⟨_, rfl, wpAny_pure h⟩)) htake))
    | exact wpAny_bind (wpAny_bind (m := Builtin.Tuple.tupleExact _) (wpAny_newObj_type (wpAny_pure ⟨_, rfl, wpAny_pure h⟩) htake))
def tRevA (K : PySem.W.Frag) (te : TE) : TE := fun σ H Q => te σ H fun x H1 =>
  (∃ a xs, x = .ref a ∧ SqL K H1 a xs ∧ ∀ p, H1 p = none → Q (.ref p) (upd H1 p (.lst xs.reverse))) ∨
  (∃ a xs, x = .ref a ∧ SqT K H1 a xs ∧ ∀ p o, H1 p = none → o.dict = none → Q (.ref p) (upd H1 p (.frz o (.tup xs.reverse)))) ∨
  (∃ z : Str, x = .str z ∧ z.length ≤ sizeLine ∧ Q (.str ⟨z.cps.toList.reverse.toArray⟩) H1)
theorem pe_revA {e : Expr} {te : TE} {k : Nat} {p1 p2 p3 pos : Pos} (he : PE X e te) : PE X (.Subscript e (.Slice none none (some (.UnaryOp .USub (.Constant (.int 1) k p1) p2)) p3) pos) (tRevA X.K te) := by
  refine ⟨fun pins s σ H Q I h => ?_⟩
  refine Subscript_ (thn (he.run pins s σ H _ I h) fun v s1 ⟨x, H1, I1, r1, q1⟩ => ?_)
  have hst : PO X (some (.UnaryOp .USub (.Constant (.int 1) k p1) p2)) (tPart (tUn (rU fun i => .int (-i)) (tC (.int 1)))) := po_some (pe_un un_neg pe_int)
  refine wpAny_Slice (thn (po_none.run pins s1 σ H1 (fun o H2 => o = none ∧ H2 = H1) I1 ⟨rfl, rfl⟩) fun vl s2 ⟨l, H2, I2, pl, el, e2⟩ => ?_)
  subst el e2
  refine thn (po_none.run pins s2 σ H2 (fun o H3 => o = none ∧ H3 = H2) I2 ⟨rfl, rfl⟩) fun vu s3 ⟨u, H3, I3, pu, eu, e3⟩ => ?_
  subst eu e3
  refine thn (hst.run pins s3 σ H3 (fun o H4 => o = some (-1) ∧ H4 = H3) I3 ⟨1, rfl, -1, rfl, rfl, rfl⟩) fun vs s4 ⟨o, H4, I4, ps, eo, e4⟩ => ?_
  subst eo e4
  have I5 : Inv X pins σ H4 { s4 with heap := s4.heap.push { cls := .type "slice", data := .fields #[vl, vu, vs] } } := I4.kept (t' := s4.toks) fun b ob q => Heap.get?_push_of_some _ q
  rcases q1 with ⟨a, xs, rfl, hx, q⟩ | ⟨a, xs, rfl, hx, q⟩ | ⟨z, rfl, hz, q⟩
  · cases r1
    obtain ⟨its, r, ht, hz⟩ := I5.list hx
    have hlen := r.length
    show wpAny (model X.prog X.w) X.A (subscriptTail e (.Slice none none (some (.UnaryOp .USub (.Constant (.int 1) k p1) p2)) p3) (.ref a) (.ref s4.heap.objs.size)) (EP X pins σ Q) X.xe { s4 with heap := s4.heap.push { cls := .type "slice", data := .fields #[vl, vu, vs] } }
    refine tail_any (ops := [.ref a, .ref s4.heap.objs.size]) ht.isList.typeIs (PySem.slot_list_getitem.lookup) ?_ (by with_unfolding_all rfl)
    refine wpAny_getItem_list_slice ht.isList (Heap.IsSliceOf.new _ vl vu vs) pl pu ps (by decide) ?_ (by rw [List.size_toArray]; omega)
    rw [PySem.W.krv_pick]
    refine ⟨.ref _, _, I5.laid (t' := s4.toks) (o := .lst xs.reverse) (fun b ob q => Heap.get?_push_of_some _ q) (Nat.le_refl _) ?_, rfl, q _ (I5.hok.fresh (Nat.le_refl _))⟩
    exact ⟨by rw [List.length_reverse]; exact hz, _, 0, r.reverse, Heap.get?_push_size _ rfl⟩
  · cases r1
    obtain ⟨its, r, ht, hz⟩ := I5.tuple hx
    have hlen := r.length
    cases pl
    cases pu
    show wpAny (model X.prog X.w) X.A (subscriptTail e (.Slice none none (some (.UnaryOp .USub (.Constant (.int 1) k p1) p2)) p3) (.ref a) (.ref s4.heap.objs.size)) (EP X pins σ Q) X.xe { s4 with heap := s4.heap.push { cls := .type "slice", data := .fields #[.none, .none, vs] } }
    refine tail_any (ops := [.ref a, .ref s4.heap.objs.size]) ht.typeIs (PyProof.Rows.slot_tuple_getitem.lookup) ?_ (by with_unfolding_all rfl)
    refine getItem_tuple_rev ht (Heap.IsSliceOf.new _ .none .none vs) ps ?_ (by rw [List.size_toArray]; omega)
    refine ⟨.ref _, _, I5.laid (t' := s4.toks) (o := .frz (tupO its.reverse) (.tup xs.reverse)) (fun b ob q => Heap.get?_push_of_some _ q) (Nat.le_refl _) ?_, rfl, q _ _ (I5.hok.fresh (Nat.le_refl _)) rfl⟩
    exact ⟨Heap.get?_push_size _ rfl, by rw [List.length_reverse]; exact hz, its.reverse, r.reverse, IsTup.new _ _⟩
  · obtain ⟨t, rfl⟩ := r1
    cases pl
    cases pu
    cases ps with
    | int _ t2 =>
      show wpAny (model X.prog X.w) X.A (subscriptTail e (.Slice none none (some (.UnaryOp .USub (.Constant (.int 1) k p1) p2)) p3) (.str z t) (.ref s4.heap.objs.size)) (EP X pins σ Q) X.xe { s4 with heap := s4.heap.push { cls := .type "slice", data := .fields #[.none, .none, .int (-1) t2] } }
      refine tail_any (ops := [.str z t, .ref s4.heap.objs.size]) (typeIs_str _ z t) (F.slot_str_getitem.lookup) ?_ (by with_unfolding_all rfl)
      refine wpAny_getItem_str_slice (l := none) (u := none) (st := some (-1, t2)) ⟨_, Heap.get?_push_size _ rfl, rfl, rfl⟩ rfl ?_
      have e1 : ((slicePicked z none none (some (-1, t2))).filterMap (z.cps[·]?)) = z.cps.toList.reverse := by
        show ((Builtin.Str.strSliceIndices none none (-1) z.length).filterMap (z.cps[·]?)) = _
        have e2 : Builtin.Str.strSliceIndices none none (-1) z.length = (List.range z.cps.size).map fun k => z.cps.size - 1 - k := by
          rw [← PySem.W.krv_sliceRange]
          rfl
        rw [e2, PySem.W.krv_range, List.filterMap_reverse, PySem.W.krv_all]
      show Made.post (if ((-1 : Int) == 1 && (slicePicked z none none (some (-1, t2))).length == z.length) = true then Made.val (.str z t) else Made.str ⟨((slicePicked z none none (some (-1, t2))).filterMap (z.cps[·]?)).toArray⟩) (EP X pins σ Q) _
      rw [if_neg (by rw [show ((-1 : Int) == 1) = false by decide, Bool.false_and]; exact Bool.false_ne_true), e1]
      refine ⟨?_, .str _, H4, I5.tok _, ⟨_, rfl⟩, q⟩
      simpa [Str.length] using hz
end
end RF

set_option Elab.async false
set_option linter.all false
set_option maxRecDepth 100000
set_option maxHeartbeats 4000000
namespace RF
open PySem PySem.Spec PyProof.Rows L2

/-! ### zip to any target, over iterators of any kind -/
/-- a zip's own record: what it handed out last (or nothing), and whether that is known to be held -/
abbrev IsZipG (h : Heap) (z TI TO : Addr) (f0 : Value) (f1 : Bool) : Prop :=
  h.get? z = some { cls := .type "zip", dict := none, data := .fields #[f0, .bool f1, .bool false, .ref TI, .ref TO], slots := #[] }
def OkF (f0 : Value) : Prop := f0 = .none ∨ ∃ T : Addr, f0 = rawInt T
section
variable {prog : Program} {w : World} {A : Around} {E : Value → Shared → Prop} {s : Shared} {z TI TO i1 i2 : Addr} {fp1 fp2 : List Addr} {n1 n2 i : Nat} {P1 P2 : Nat → Value → Prop} {St1 St2 : Nat → Heap → Prop} {a1 a2 f0 : Value} {f1 : Bool}
theorem dead_ {a : Addr} {Q : Option Obj → Shared → Prop} (ha : s.heap.get? a = none) (h : Q none s) : wpAny (model prog w) A (loadIfAlive a) Q E s := by
  intro Γ p hΓ
  show Sem.wp (model prog w) Γ (Sem.loadIfAlive a Sem.pure) _ _ p s
  rw [Sem.wp_loadIfAlive, ha]
  exact wpAny_pure h Γ p hΓ
theorem ownedG {Q : Bool → Shared → Prop} (hz : IsZipG s.heap z TI TO f0 f1) (hf : OkF f0) (h1 : Q true s) (h0 : ∀ h', IsZipG h' z TI TO f0 true → Heap.SameBut z s.heap h' → Q false { s with heap := h' }) :
    wpAny (model prog w) A (Builtin.SmallTypes.ownedTupleIsFree (.ref z)) Q E s := by
  rcases hf with rfl | ⟨T, rfl⟩
  · unfold Builtin.SmallTypes.ownedTupleIsFree
    exact wpAny_bind (wpAny_field hz rfl (x := .none) rfl (wpAny_pure h1))
  · cases hT : s.heap.get? T with
    | some oT => exact wpAny_tupleHeld_zip (f := f1) hz hT h0
    | none =>
      unfold Builtin.SmallTypes.ownedTupleIsFree
      refine wpAny_bind (wpAny_field hz rfl (x := rawInt T) rfl ?_)
      show wpAny _ _ (loadIfAlive ((T : Int).toNat) >>= _) _ _ _
      rw [Int.toNat_natCast]
      refine wpAny_bind (dead_ hT ?_)
      simp only [Option.isNone_none, if_true]
      exact wpAny_pure h1
theorem zipG_item {Q : Value → Shared → Prop} (S : ZipSep2 z TI TO i1 i2 fp1 fp2) (D1 : Draws prog w A i1 fp1 n1 P1 St1) (D2 : Draws prog w A i2 fp2 n2 P2 St2)
    (hz : IsZipG s.heap z TI TO f0 f1) (hf : OkF f0) (hTI : IsTupOf2 s.heap TI (.ref i1) (.ref i2)) (hTO : IsTupOf2 s.heap TO a1 a2) (st1 : St1 i s.heap) (st2 : St2 i s.heap) (hlt1 : i < n1) (hlt2 : i < n2)
    (hQ : ∀ x1 x2 h' tk g0 g1, P1 i x1 → P2 i x2 → IsZipG h' z TI TO g0 g1 → OkF g0 → (g1 = false → f1 = false → f0 = .none → g0 = rawInt s.heap.objs.size) → (∃ b1 b2, IsTupOf2 h' TO b1 b2) → St1 (i + 1) h' → St2 (i + 1) h' → IsTupOf2 h' s.heap.objs.size x1 x2 → h'.objs.size = s.heap.objs.size + 1 →
      (∀ c o, c ≠ z → c ≠ TO → c ≠ i1 → c ≠ i2 → s.heap.get? c = some o → h'.get? c = some o) → Q (.ref s.heap.objs.size) { s with heap := h', toks := tk }) :
    wpAny (model prog w) A (Builtin.«zip.__next__» ⟨[.ref z], []⟩) (fun fin s' => ∃ v, fin = .done (.ret v) ∧ Q v s') E s := by
  obtain ⟨hp, g, d, tk0, os⟩ := s
  show wpAny _ _ (field (.ref z) 2 >>= _) _ _ _
  refine wpAny_bind (wpAny_field hz rfl (x := .bool false) rfl ?_)
  show wpAny _ _ (field (.ref z) 3 >>= _) _ _ _
  refine wpAny_bind (wpAny_field hz rfl (x := .ref TI) rfl ?_)
  refine wpAny_bind (wpAny_seqItems hTI rfl ?_)
  show wpAny _ _ (Builtin.SmallTypes.ownedTupleIsFree (.ref z) >>= _) _ _ _
  refine wpAny_bind (ownedG hz hf ?free fun hh hzh hsh => ?held)
  case free =>
    simp only [if_true]
    refine wpAny_bind (wpAny_rule ?_)
    refine wpAny_bind (wpAny_field hz rfl (x := .ref TO) rfl ?_)
    refine wpAny_bind (wpAny_setField_rec hz (by simp) fun g0 hz0 hs0 => ?_)
    replace hz0 : IsZipG g0 z TI TO .ellipsis f1 := hz0
    replace hs0 : Heap.SameBut z hp g0 := hs0
    refine wpAny_bind ?_
    simp only [List.zipIdx_cons, List.zipIdx_nil, List.forIn_cons, List.forIn_nil]
    refine wpAny_bind (wpAny_bind (wpAny_onRaise ?_))
    show wpAny _ _ (Builtin.SmallTypes.nextOf (.ref i1) >>= _) _ _ ⟨g0, g, d, tk0, os⟩
    refine wpAny_bind (D1.item i _ _ _ hlt1 (D1.over st1 hs0 S.zf1) fun x1 p1 tk1 hx1 sn1 hp1 => wpAny_pure ?_)
    replace hp1 : Heap.SameBut i1 g0 p1 := hp1
    have hU1 : IsTupOf2 p1 TO a1 a2 := hp1.extBut _ _ S.Ti1 (hs0.extBut _ _ S.TOz hTO)
    refine wpAny_bind (wpAny_seqItems (s := ⟨p1, g, d, tk1, os⟩) hU1 rfl ?_)
    refine wpAny_bind (updateSeq_IsTupOf2 (s := ⟨p1, g, d, tk1, os⟩) hU1 fun g1 hT1 hs1 => ?_)
    replace hT1 : IsTupOf2 g1 TO x1 a2 := hT1
    replace hs1 : Heap.SameBut TO p1 g1 := hs1
    refine wpAny_bind (wpAny_letGo (wpAny_pure ?_))
    refine wpAny_bind (wpAny_bind (wpAny_onRaise ?_))
    show wpAny _ _ (Builtin.SmallTypes.nextOf (.ref i2) >>= _) _ _ ⟨g1, g, d, tk1, os⟩
    refine wpAny_bind (D2.item i _ _ _ hlt2 (D2.over (D2.over (D2.over st2 hs0 S.zf2) hp1 S.sep1_2) hs1 S.Tf2) fun x2 p2 tk2 hx2 sn2 hp2 => wpAny_pure ?_)
    replace hp2 : Heap.SameBut i2 g1 p2 := hp2
    have hU2 : IsTupOf2 p2 TO x1 a2 := hp2.extBut _ _ S.Ti2 hT1
    refine wpAny_bind (wpAny_seqItems (s := ⟨p2, g, d, tk2, os⟩) hU2 rfl ?_)
    refine wpAny_bind (updateSeq_IsTupOf2 (s := ⟨p2, g, d, tk2, os⟩) hU2 fun g2 hT2 hs2 => ?_)
    replace hT2 : IsTupOf2 g2 TO x1 x2 := hT2
    replace hs2 : Heap.SameBut TO p2 g2 := hs2
    refine wpAny_bind (wpAny_letGo (wpAny_pure (wpAny_pure ?_)))
    refine wpAny_bind (wpAny_seqItems (s := ⟨g2, g, d, tk2, os⟩) hT2 rfl ?_)
    refine wpAny_bind (wpAny_newTuple ?_)
    have hsz : g2.objs.size = hp.objs.size := by rw [hs2.1, hp2.1, hs1.1, hp1.1, hs0.1]
    have hzz : IsZipG g2 z TI TO .ellipsis f1 := (hs2.extBut _ _ S.TOz.symm (hp2.extBut _ _ S.zi2 (hs1.extBut _ _ S.TOz.symm (hp1.extBut _ _ S.zi1 hz0))))
    have hkk : ∀ c o, c ≠ z → c ≠ TO → c ≠ i1 → c ≠ i2 → hp.get? c = some o → g2.get? c = some o := fun c o cz cT c1 c2 e =>
      (hs2.extBut _ _ cT (hp2.extBut _ _ c2 (hs1.extBut _ _ cT (hp1.extBut _ _ c1 (hs0.extBut _ _ cz e)))))
    have hj1 : St1 (i + 1) g2 := (D1.over (D1.over (D1.over sn1 hs1 S.Tf1) hp2 S.sep2_1) hs2 S.Tf1)
    have hj2 : St2 (i + 1) g2 := (D2.over sn2 hs2 S.Tf2)
    have hzlt : z < g2.objs.size := Heap.lt_size hzz
    show wpAny _ _ (Builtin.SmallTypes.ownedTupleHandOut (.ref z) (.ref g2.objs.size) >>= _) _ _ ⟨g2.push { cls := .type "tuple", data := .seq #[x1, x2] }, g, d, tk2, os⟩
    refine wpAny_bind ?_
    unfold Builtin.SmallTypes.ownedTupleHandOut
    have hz₆ : IsZipG (g2.push { cls := .type "tuple", data := .seq #[x1, x2] }) z TI TO .ellipsis f1 := Heap.get?_push_of_some _ hzz
    refine wpAny_bind (wpAny_setField_rec hz₆ (by simp) fun h₇ hz₇ hs₇ => ?_)
    replace hz₇ : IsZipG h₇ z TI TO (rawInt g2.objs.size) f1 := hz₇
    refine wpAny_setField_rec hz₇ (by simp) fun h₈ hz₈ hs₈ => ?_
    replace hz₈ : IsZipG h₈ z TI TO (rawInt g2.objs.size) false := hz₈
    replace hs₇ : Heap.SameBut z (g2.push { cls := .type "tuple", data := .seq #[x1, x2] }) h₇ := hs₇
    replace hs₈ : Heap.SameBut z h₇ h₈ := hs₈
    have up : ∀ c o, c ≠ z → g2.get? c = some o → h₈.get? c = some o := fun c o c1 e => hs₈.extBut _ _ c1 (hs₇.extBut _ _ c1 (Heap.get?_push_of_some _ e))
    have hT₈ : IsTupOf2 h₈ g2.objs.size x1 x2 := hs₈.extBut _ _ (Nat.ne_of_gt hzlt) (hs₇.extBut _ _ (Nat.ne_of_gt hzlt) (Heap.get?_push_size _ rfl))
    have hz8 : h₈.objs.size = g2.objs.size + 1 := by rw [hs₈.1, hs₇.1, Heap.size_push]
    rw [hsz] at hz₈ hT₈ hz8
    refine wpAny_pure ⟨_, rfl, ?_⟩
    show Q (.ref g2.objs.size) ⟨h₈, g, d, tk2, os⟩
    rw [hsz]
    exact hQ x1 x2 h₈ tk2 (rawInt hp.objs.size) false hx1 hx2 hz₈ (.inr ⟨_, rfl⟩) (fun _ _ _ => rfl) ⟨_, _, up _ _ S.TOz hT2⟩ (D1.frame _ _ _ hj1 fun b hb o e => up b o (fun q => S.zf1 (q ▸ hb)) e) (D2.frame _ _ _ hj2 fun b hb o e => up b o (fun q => S.zf2 (q ▸ hb)) e) hT₈ hz8 fun c o cz cT c1 c2 e => up c o cz (hkk c o cz cT c1 c2 e)
  case held =>
    replace hzh : IsZipG hh z TI TO f0 true := hzh
    replace hsh : Heap.SameBut z hp hh := hsh
    simp only [Bool.false_eq_true, if_false]
    refine wpAny_bind ?_
    rw [← Array.forIn_toList]
    simp only [List.forIn_cons, List.forIn_nil]
    refine wpAny_bind (wpAny_bind (wpAny_holding ?_))
    show wpAny _ _ (Builtin.SmallTypes.nextOf (.ref i1) >>= _) _ _ ⟨hh, g, d, tk0, os⟩
    refine wpAny_bind (D1.item i ⟨hh, g, d, tk0, os⟩ _ _ hlt1 (D1.over st1 hsh S.zf1) fun x1 p1 tk1 hx1 sn1 hp1 => wpAny_pure ?_)
    replace hp1 : Heap.SameBut i1 hh p1 := hp1
    refine wpAny_pure ?_
    refine wpAny_bind (wpAny_bind (wpAny_holding ?_))
    show wpAny _ _ (Builtin.SmallTypes.nextOf (.ref i2) >>= _) _ _ ⟨p1, g, d, tk1, os⟩
    refine wpAny_bind (D2.item i ⟨p1, g, d, tk1, os⟩ _ _ hlt2 (D2.over (D2.over st2 hsh S.zf2) hp1 S.sep1_2) fun x2 p2 tk2 hx2 sn2 hp2 => wpAny_pure ?_)
    replace hp2 : Heap.SameBut i2 p1 p2 := hp2
    refine wpAny_pure (wpAny_pure ?_)
    show wpAny _ _ (newTuple [x1, x2] >>= _) _ _ _
    refine wpAny_bind (wpAny_newTuple ?_)
    have hsz : p2.objs.size = hp.objs.size := by rw [hp2.1, hp1.1, hsh.1]
    have hz₃ : IsZipG p2 z TI TO f0 true := hp2.extBut _ _ S.zi2 (hp1.extBut _ _ S.zi1 hzh)
    have hTO3 : IsTupOf2 p2 TO a1 a2 := hp2.extBut _ _ S.Ti2 (hp1.extBut _ _ S.Ti1 (hsh.extBut _ _ S.TOz hTO))
    have hk : ∀ c o, c ≠ z → c ≠ i1 → c ≠ i2 → hp.get? c = some o → p2.get? c = some o := fun c o c1 c2 c3 e => hp2.extBut _ _ c3 (hp1.extBut _ _ c2 (hsh.extBut _ _ c1 e))
    have hj1 : St1 (i + 1) p2 := D1.over sn1 hp2 S.sep2_1
    refine wpAny_pure ⟨_, rfl, ?_⟩
    show Q (.ref p2.objs.size) ⟨p2.push { cls := .type "tuple", data := .seq #[x1, x2] }, g, d, tk2, os⟩
    have hpr : IsTupOf2 (p2.push { cls := .type "tuple", data := .seq #[x1, x2] }) p2.objs.size x1 x2 := Heap.get?_push_size _ rfl
    have hz4 : (p2.push { cls := .type "tuple", data := .seq #[x1, x2] }).objs.size = p2.objs.size + 1 := Heap.size_push ..
    rw [hsz] at hpr hz4 ⊢
    exact hQ x1 x2 _ tk2 f0 true hx1 hx2 (Heap.get?_push_of_some _ hz₃) hf (fun z => nomatch z) ⟨_, _, Heap.get?_push_of_some _ hTO3⟩ (D1.frame _ _ _ hj1 fun b hb o e => Heap.get?_push_of_some _ e) (D2.frame _ _ _ sn2 fun b hb o e => Heap.get?_push_of_some _ e) hpr hz4 fun c o c1 _ c2 c3 e => Heap.get?_push_of_some _ (hk c o c1 c2 c3 e)
theorem zipG_end {Q : Fin → Shared → Prop} (S : ZipSep2 z TI TO i1 i2 fp1 fp2) (D1 : Draws prog w A i1 fp1 n1 P1 St1) (D2 : Draws prog w A i2 fp2 n2 P2 St2)
    (hz : IsZipG s.heap z TI TO f0 f1) (hf : OkF f0) (hTI : IsTupOf2 s.heap TI (.ref i1) (.ref i2)) (hTO : IsTupOf2 s.heap TO a1 a2) (st1 : St1 i s.heap) (st2 : St2 i s.heap) (hle1 : i ≤ n1) (hle2 : i ≤ n2) (hend : i = n1 ∨ i = n2)
    (hE : ∀ h' tk e, (∀ c o, c ≠ z → c ≠ TO → c ≠ i1 → c ≠ i2 → s.heap.get? c = some o → h'.get? c = some o) → (∃ o, h'.get? e = some o ∧ o.cls = .type "StopIteration") → E (.ref e) { s with heap := h', toks := tk }) :
    wpAny (model prog w) A (Builtin.«zip.__next__» ⟨[.ref z], []⟩) Q E s := by
  obtain ⟨hp, g, d, tk0, os⟩ := s
  show wpAny _ _ (field (.ref z) 2 >>= _) _ _ _
  refine wpAny_bind (wpAny_field hz rfl (x := .bool false) rfl ?_)
  show wpAny _ _ (field (.ref z) 3 >>= _) _ _ _
  refine wpAny_bind (wpAny_field hz rfl (x := .ref TI) rfl ?_)
  refine wpAny_bind (wpAny_seqItems hTI rfl ?_)
  show wpAny _ _ (Builtin.SmallTypes.ownedTupleIsFree (.ref z) >>= _) _ _ _
  refine wpAny_bind (ownedG hz hf ?free fun hh hzh hsh => ?held)
  case free =>
    simp only [if_true]
    refine wpAny_bind (wpAny_rule ?_)
    refine wpAny_bind (wpAny_field hz rfl (x := .ref TO) rfl ?_)
    refine wpAny_bind (wpAny_setField_rec hz (by simp) fun g0 hz0 hs0 => ?_)
    replace hz0 : IsZipG g0 z TI TO .ellipsis f1 := hz0
    replace hs0 : Heap.SameBut z hp g0 := hs0
    refine wpAny_bind ?_
    simp only [List.zipIdx_cons, List.zipIdx_nil, List.forIn_cons, List.forIn_nil]
    refine wpAny_bind (wpAny_bind (wpAny_onRaise ?_))
    show wpAny _ _ (Builtin.SmallTypes.nextOf (.ref i1) >>= _) _ _ ⟨g0, g, d, tk0, os⟩
    by_cases hlt1 : i < n1
    · refine wpAny_bind (D1.item i _ _ _ hlt1 (D1.over st1 hs0 S.zf1) fun x1 p1 tk1 hx1 sn1 hp1 => wpAny_pure ?_)
      replace hp1 : Heap.SameBut i1 g0 p1 := hp1
      have hU1 : IsTupOf2 p1 TO a1 a2 := hp1.extBut _ _ S.Ti1 (hs0.extBut _ _ S.TOz hTO)
      refine wpAny_bind (wpAny_seqItems (s := ⟨p1, g, d, tk1, os⟩) hU1 rfl ?_)
      refine wpAny_bind (updateSeq_IsTupOf2 (s := ⟨p1, g, d, tk1, os⟩) hU1 fun g1 hT1 hs1 => ?_)
      replace hT1 : IsTupOf2 g1 TO x1 a2 := hT1
      replace hs1 : Heap.SameBut TO p1 g1 := hs1
      refine wpAny_bind (wpAny_letGo (wpAny_pure ?_))
      have hi2 : i = n2 := by omega
      refine wpAny_bind (wpAny_bind (wpAny_onRaise ?_))
      show wpAny _ _ (Builtin.SmallTypes.nextOf (.ref i2) >>= _) _ _ ⟨g1, g, d, tk1, os⟩
      refine wpAny_bind (D2.done ⟨g1, g, d, tk1, os⟩ _ _ (by rw [← hi2]; exact (D2.over (D2.over (D2.over st2 hs0 S.zf2) hp1 S.sep1_2) hs1 S.Tf2)) fun q e hq he => ?_)
      replace hq : Heap.ExtBut i2 g1 q := hq
      obtain ⟨oe, hoe, hce⟩ := he
      replace hoe : q.get? e = some oe := hoe
      have hzq : IsZipG q z TI TO .ellipsis f1 := hq _ _ S.zi2 (hs1.extBut _ _ S.TOz.symm (hp1.extBut _ _ S.zi1 hz0))
      have hez : e ≠ z := fun x => by subst x; rw [hzq] at hoe; cases hoe; simp at hce
      refine wpAny_setField_rec (s := ⟨q, g, d, tk1, os⟩) hzq (by simp) fun q' _ hq' => ?_
      replace hq' : Heap.SameBut z q q' := hq'
      exact hE q' tk1 e (fun c o cz cT c1 c2 x => hq'.extBut _ _ cz (hq _ _ c2 (hs1.extBut _ _ cT (hp1.extBut _ _ c1 (hs0.extBut _ _ cz x))))) ⟨oe, hq'.extBut _ _ hez hoe, hce⟩
    · have hi1 : i = n1 := by omega
      refine wpAny_bind (D1.done ⟨g0, g, d, tk0, os⟩ _ _ (by rw [← hi1]; exact (D1.over st1 hs0 S.zf1)) fun q e hq he => ?_)
      replace hq : Heap.ExtBut i1 g0 q := hq
      obtain ⟨oe, hoe, hce⟩ := he
      replace hoe : q.get? e = some oe := hoe
      have hzq : IsZipG q z TI TO .ellipsis f1 := hq _ _ S.zi1 hz0
      have hez : e ≠ z := fun x => by subst x; rw [hzq] at hoe; cases hoe; simp at hce
      refine wpAny_setField_rec (s := ⟨q, g, d, tk0, os⟩) hzq (by simp) fun q' _ hq' => ?_
      replace hq' : Heap.SameBut z q q' := hq'
      exact hE q' tk0 e (fun c o cz cT c1 c2 x => hq'.extBut _ _ cz (hq _ _ c1 (hs0.extBut _ _ cz x))) ⟨oe, hq'.extBut _ _ hez hoe, hce⟩
  case held =>
    replace hzh : IsZipG hh z TI TO f0 true := hzh
    replace hsh : Heap.SameBut z hp hh := hsh
    simp only [Bool.false_eq_true, if_false]
    refine wpAny_bind ?_
    rw [← Array.forIn_toList]
    simp only [List.forIn_cons, List.forIn_nil]
    refine wpAny_bind (wpAny_bind (wpAny_holding ?_))
    show wpAny _ _ (Builtin.SmallTypes.nextOf (.ref i1) >>= _) _ _ ⟨hh, g, d, tk0, os⟩
    by_cases hlt1 : i < n1
    · refine wpAny_bind (D1.item i ⟨hh, g, d, tk0, os⟩ _ _ hlt1 (D1.over st1 hsh S.zf1) fun x1 p1 tk1 hx1 sn1 hp1 => wpAny_pure ?_)
      replace hp1 : Heap.SameBut i1 hh p1 := hp1
      refine wpAny_pure ?_
      have hi2 : i = n2 := by omega
      refine wpAny_bind (wpAny_bind (wpAny_holding ?_))
      show wpAny _ _ (Builtin.SmallTypes.nextOf (.ref i2) >>= _) _ _ ⟨p1, g, d, tk1, os⟩
      refine wpAny_bind (D2.done ⟨p1, g, d, tk1, os⟩ _ _ (by rw [← hi2]; exact (D2.over (D2.over st2 hsh S.zf2) hp1 S.sep1_2)) fun q e hq he => ?_)
      replace hq : Heap.ExtBut i2 p1 q := hq
      exact hE q tk1 e (fun c o cz cT c1 c2 x => hq _ _ c2 (hp1.extBut _ _ c1 (hsh.extBut _ _ cz x))) he
    · have hi1 : i = n1 := by omega
      refine wpAny_bind (D1.done ⟨hh, g, d, tk0, os⟩ _ _ (by rw [← hi1]; exact (D1.over st1 hsh S.zf1)) fun q e hq he => ?_)
      replace hq : Heap.ExtBut i1 hh q := hq
      exact hE q tk0 e (fun c o cz cT c1 c2 x => hq _ _ c1 (hsh.extBut _ _ cz x)) he
theorem pyNext_zipG_item {Q : Option Value → Shared → Prop} (S : ZipSep2 z TI TO i1 i2 fp1 fp2) (D1 : Draws prog w A.in1 i1 fp1 n1 P1 St1) (D2 : Draws prog w A.in1 i2 fp2 n2 P2 St2)
    (hz : IsZipG s.heap z TI TO f0 f1) (hf : OkF f0) (hTI : IsTupOf2 s.heap TI (.ref i1) (.ref i2)) (hTO : IsTupOf2 s.heap TO a1 a2) (st1 : St1 i s.heap) (st2 : St2 i s.heap) (hlt1 : i < n1) (hlt2 : i < n2)
    (hQ : ∀ x1 x2 h' tk g0 g1, P1 i x1 → P2 i x2 → IsZipG h' z TI TO g0 g1 → OkF g0 → (∃ b1 b2, IsTupOf2 h' TO b1 b2) → St1 (i + 1) h' → St2 (i + 1) h' → IsTupOf2 h' s.heap.objs.size x1 x2 → h'.objs.size = s.heap.objs.size + 1 →
      (∀ c o, c ≠ z → c ≠ TO → c ≠ i1 → c ≠ i2 → s.heap.get? c = some o → h'.get? c = some o) → Q (some (.ref s.heap.objs.size)) { s with heap := h', toks := tk }) :
    wpAny (model prog w) A (pyNext (.ref z)) Q E s := by
  have hT : s.TypeIs (.ref z) "zip" := ⟨_, hz, rfl⟩
  unfold pyNext
  exact wpAny_bind (wpAny_attempt (wpAny_callSpecial?_slot (name := Str.ofString "__next__") hT F.slot_zip_next
    (wpAny_call_entry F.slot_zip_next hT F.entry_zip_next
      (zipG_item S D1 D2 hz hf hTI hTO st1 st2 hlt1 hlt2 fun x1 x2 h' tk g0 g1 y1 y2 b1 b2 _ b3 d1 d2 b5 b6 b7 => wpAny_pure (hQ x1 x2 h' tk g0 g1 y1 y2 b1 b2 b3 d1 d2 b5 b6 b7)) (F.args_zip_next_1 _))))
theorem pyNext_zipG_end {Q : Option Value → Shared → Prop} (S : ZipSep2 z TI TO i1 i2 fp1 fp2) (D1 : Draws prog w A.in1 i1 fp1 n1 P1 St1) (D2 : Draws prog w A.in1 i2 fp2 n2 P2 St2)
    (hz : IsZipG s.heap z TI TO f0 f1) (hf : OkF f0) (hTI : IsTupOf2 s.heap TI (.ref i1) (.ref i2)) (hTO : IsTupOf2 s.heap TO a1 a2) (st1 : St1 i s.heap) (st2 : St2 i s.heap) (hle1 : i ≤ n1) (hle2 : i ≤ n2) (hend : i = n1 ∨ i = n2)
    (hQ : ∀ h' tk, (∀ c o, c ≠ z → c ≠ TO → c ≠ i1 → c ≠ i2 → s.heap.get? c = some o → h'.get? c = some o) → Q none { s with heap := h', toks := tk }) : wpAny (model prog w) A (pyNext (.ref z)) Q E s := by
  have hT : s.TypeIs (.ref z) "zip" := ⟨_, hz, rfl⟩
  unfold pyNext
  refine wpAny_bind (wpAny_attempt (wpAny_callSpecial?_slot (name := Str.ofString "__next__") hT F.slot_zip_next
    (wpAny_call_entry F.slot_zip_next hT F.entry_zip_next (zipG_end S D1 D2 hz hf hTI hTO st1 st2 hle1 hle2 hend fun h' tk e hk he => ?_) (F.args_zip_next_1 _))))
  obtain ⟨o, ho, hc⟩ := he
  refine wpAny_bind (wpAny_isInstance (T := "StopIteration") (b := true) ⟨o, ho, hc⟩ isSubtype_stop ?_)
  exact wpAny_pure (hQ _ _ hk)
/-- what stands ahead of the store: nothing, or the pair is let go -/
theorem goG {tg : Expr} {T : Addr} {Q : Unit → Shared → Prop} (hz : IsZipG s.heap z TI TO f0 f1) (hf : OkF f0)
    (h : ∀ h' g0, IsZipG h' z TI TO g0 f1 → OkF g0 → Heap.SameBut z s.heap h' → Q () { s with heap := h' }) : wpAny (model prog w) A (letOwnedTupleGo tg (.ref z) (.ref T)) Q E s := by
  have plain : Q () s := h s.heap f0 hz hf (Heap.SameBut.refl _ _)
  have go : wpAny (model prog w) A (do
      let o ← load z
      match o.cls, o.data with
      | .type n, .fields vs =>
        if ["enumerate", "zip", "dict_itemiterator", "dict_reverseitemiterator", "odict_iterator", "itertools.zip_longest", "itertools.pairwise"].contains n && vs[0]? == some (rawInt T) then do
          rule "for.unpacks-the-owned-tuple"
          updateField z 0 .none
      | _, _ => pure ()) Q E s := by
    refine wpAny_bind (wpAny_load hz ?_)
    show wpAny _ _ (if (["enumerate", "zip", "dict_itemiterator", "dict_reverseitemiterator", "odict_iterator", "itertools.zip_longest", "itertools.pairwise"].contains "zip" && (#[f0, .bool f1, .bool false, .ref TI, .ref TO] : Array Value)[0]? == some (rawInt T)) = true then _ else _) Q E s
    by_cases c : (["enumerate", "zip", "dict_itemiterator", "dict_reverseitemiterator", "odict_iterator", "itertools.zip_longest", "itertools.pairwise"].contains "zip" && (#[f0, .bool f1, .bool false, .ref TI, .ref TO] : Array Value)[0]? == some (rawInt T)) = true
    · rw [if_pos c]
      refine wpAny_bind (wpAny_rule ?_)
      show wpAny _ _ (setField (.ref z) 0 .none) Q E s
      exact wpAny_setField_rec hz (by simp) fun h' hz' hs' => h h' .none hz' (.inl rfl) hs'
    · rw [if_neg c]
      exact wpAny_pure plain
  cases tg with
  | Tuple es k pos => exact go
  | List es pos => exact go
  | _ => exact wpAny_pure plain
end

/-! ### what is walked, by its kind -/
inductive Sk where
  | L (a : Addr) (xs : List V) | T (a : Addr) (xs : List V) | S (z : Str) (t : Tok) | R (lo : Int) (n : Nat)
def signsV (z : Str) : List V := z.cps.toList.map fun c => V.str ⟨#[c]⟩
def rgI (lo : Int) (n : Nat) : List V := (List.range n).map fun i => V.int (lo + (i : Nat))
def Sk.items : Sk → List V
  | .L _ xs => xs
  | .T _ xs => xs
  | .S z _ => signsV z
  | .R lo n => rgI lo n
def Sk.it (k : Sk) (it : Addr) (i : Nat) (h : Heap) : Prop :=
  match k with
  | .L a _ => h.IsListIter it a i
  | .T a _ => h.IsTupleIter it a i
  | .S z t => h.IsStrIter it (strIterType z) z t i
  | .R lo n => IsRangeIter h it (lo + (i : Nat)) ((n : Int) - (i : Nat)) 1
def Sk.ok (K : PySem.W.Frag) (H : Hp) : Sk → Prop
  | .L a xs => SqL K H a xs
  | .T a xs => SqT K H a xs
  | .S _ _ => True
  | .R _ _ => True
def Sk.off (k : Sk) (b : Addr) : Prop :=
  match k with
  | .L a _ => a ≠ b
  | .T a _ => a ≠ b
  | .S _ _ => True
  | .R _ _ => True
/-- a range is walked by what its own call has made -/
def Sk.plain : Sk → Prop
  | .R _ _ => False
  | _ => True
def Sk.val : Sk → Value
  | .L a _ => .ref a
  | .T a _ => .ref a
  | .S z t => .str z t
  | .R _ _ => .none
theorem Sk.it_keep {k : Sk} {it : Addr} {i : Nat} {h h' : Heap} (x : k.it it i h) (e : ∀ o, h.get? it = some o → h'.get? it = some o) : k.it it i h' := by
  cases k with
  | L a xs => exact Heap.IsListIter.at x e
  | T a xs => exact Heap.IsTupleIter.at x e
  | S z t => obtain ⟨o, ho, r⟩ := x; exact ⟨o, e o ho, r⟩
  | R lo n => exact e _ x
theorem Sk.it_obj {k : Sk} {it : Addr} {i : Nat} {h : Heap} (x : k.it it i h) : ∃ o, h.get? it = some o ∧ ∀ v, o.data ≠ .cell v := by
  cases k with
  | L a xs => obtain ⟨o, e, c, d⟩ := x; exact ⟨o, e, fun v z => by rw [d] at z; cases z⟩
  | T a xs => obtain ⟨o, e, c, d⟩ := x; exact ⟨o, e, fun v z => by rw [d] at z; cases z⟩
  | S z t => obtain ⟨o, e, c, d⟩ := x; exact ⟨o, e, fun v z => by rw [d] at z; cases z⟩
  | R lo n => exact ⟨_, x, fun v z => nomatch z⟩
theorem draws_range {prog : Program} {w : World} {A : Around} (hh : A.handled = none) (it : Addr) (lo : Int) (n : Nat) :
    Draws prog w A it [it] n (fun i v => i < n ∧ ∃ t, v = .int (lo + (i : Nat)) t) (fun i h => IsRangeIter h it (lo + (i : Nat)) ((n : Int) - (i : Nat)) 1) where
  live := fun _ _ st => ⟨_, st⟩
  frame := fun _ _ _ st hk => hk it (by simp) _ st
  item := fun i s Q E hi st hQ => by
    unfold Builtin.SmallTypes.nextOf
    refine wpAny_bind (CpRep.range_item st (by omega) fun h' hit' hs' => wpAny_pure ?_)
    refine hQ _ h' (s.toks + 1) ⟨hi, _, rfl⟩ ?_ hs'
    have e1 : lo + (i : Int) + 1 = lo + ((i + 1 : Nat) : Int) := by omega
    have e2 : (n : Int) - (i : Int) - 1 = (n : Int) - ((i + 1 : Nat) : Int) := by omega
    rw [e1, e2] at hit'
    exact hit'
  done := fun s Q E st hE => by
    unfold Builtin.SmallTypes.nextOf
    refine wpAny_bind (CpRep.range_end hh st (by omega) fun e h' hs hx => ?_)
    obtain ⟨a, o, vs, rfl, ho, hc, _⟩ := hs
    exact hE h' a hx ⟨o, ho, hc⟩
theorem begins_range (r : Addr) (a b : Int) (t u v : Tok) (ha : -(2 ^ 62) ≤ a) (ha' : a < 2 ^ 62) (hb : -(2 ^ 62) ≤ b) (hb' : b < 2 ^ 62) :
    Begins (.ref r) { cls := .type "range_iterator", data := .fields #[rawInt a, rawInt ((b - a).toNat : Int), rawInt 1] } fun h => IsRange h r a b 1 t u v where
  iter := fun prog w A E s Q hr h => wpAny_pyIter_range hr (small_one ha ha' hb hb') (by rw [rangeSize_nat]; exact h)
  keeps := fun h h' x hk => hk r _ x
  free := rfl
section
variable {X : Cx} {pins : List (Addr × Obj)} {σ : L2.St} {H : Hp} {s : Shared}
theorem Vals.getU : ∀ {xs : List V} {us : List Value} {i : Nat} {u : Value}, Vals xs us → us[i]? = some u → ∃ x, xs[i]? = some x ∧ RelV x u
  | _, _, _, _, .nil, e => by simp at e
  | _, _, 0, _, .cons r _, e => by simp at e; subst e; exact ⟨_, rfl, r⟩
  | _, _, i + 1, x, .cons _ t, e => by
    obtain ⟨u, h1, h2⟩ := Vals.getU (i := i) (u := x) t (by simpa using e)
    exact ⟨u, by simpa using h1, h2⟩
theorem Sk.draws (k : Sk) (I : L2.Inv X pins σ H s) (ok : k.ok X.K H) {A : Around} (hh : A.handled = none) (it : Addr) (hne : k.off it) :
    ∃ (fp : List Addr) (P : Nat → Value → Prop) (St : Nat → Heap → Prop), Draws X.prog X.w A it fp k.items.length P St ∧ it ∈ fp ∧ (∀ b ∈ fp, b ≠ it → b < s.heap.objs.size ∧ ¬ k.off b) ∧
      (∀ i, k.it it i s.heap → St i s.heap) ∧ (∀ i h, St i h → k.it it i h) ∧ (∀ i x, P i x → ∃ v, k.items[i]? = some v ∧ RelV v x) := by
  cases k with
  | L a xs =>
    obtain ⟨its, rv, p, _⟩ := I.list ok
    have hl : xs.length = its.toArray.size := by rw [List.size_toArray]; exact rv.length
    refine ⟨[it, a], fun i v => its.toArray[i]? = some v, fun i h => h.IsListIter it a i ∧ h.IsList a its.toArray, by show Draws _ _ _ _ _ xs.length _ _; rw [hl]; exact Draws.list hh it a hne its.toArray, by simp, fun b hb hbi => ?_, fun i x => ⟨x, p.isList⟩, fun i h x => x.1, fun i x hx => ?_⟩
    · have e : b = a := by
        have e' : b = it ∨ b = a := by simpa using hb
        exact e'.resolve_left hbi
      subst e
      exact ⟨p.lt, fun z => z rfl⟩
    · exact Vals.getU rv (by simpa using hx)
  | T a xs =>
    obtain ⟨its, rv, p, _⟩ := I.tuple ok
    have hl : xs.length = its.toArray.size := by rw [List.size_toArray]; exact rv.length
    refine ⟨[it, a], fun i v => its.toArray[i]? = some v, fun i h => h.IsTupleIter it a i ∧ h.IsTuple a its.toArray, by show Draws _ _ _ _ _ xs.length _ _; rw [hl]; exact Draws.tuple hh it a hne its.toArray, by simp, fun b hb hbi => ?_, fun i x => ⟨x, p⟩, fun i h x => x.1, fun i x hx => ?_⟩
    · have e : b = a := by
        have e' : b = it ∨ b = a := by simpa using hb
        exact e'.resolve_left hbi
      subst e
      exact ⟨p.lt, fun z => z rfl⟩
    · exact Vals.getU rv (by simpa using hx)
  | S z t =>
    have hl : (signsV z).length = z.cps.size := by simp [signsV]
    refine ⟨_, _, _, by show Draws _ _ _ _ _ (signsV z).length _ _; rw [hl]; exact Draws.text hh it z t, by simp, fun b hb hbi => absurd (by simpa using hb) hbi, fun i x => x, fun i h x => x, fun i x hx => ?_⟩
    obtain ⟨c, u, hc, rfl⟩ := hx
    refine ⟨.str ⟨#[c]⟩, ?_, ⟨u, rfl⟩⟩
    show (signsV z)[i]? = _
    unfold signsV
    rw [List.getElem?_map]
    have : z.cps.toList[i]? = some c := by simpa using hc
    rw [this]; rfl
  | R lo n =>
    have hl : (rgI lo n).length = n := by simp [rgI]
    refine ⟨_, _, _, by show Draws _ _ _ _ _ (rgI lo n).length _ _; rw [hl]; exact draws_range hh it lo n, by simp, fun b hb hbi => absurd (by simpa using hb) hbi, fun i x => x, fun i h x => x, fun i x hx => ?_⟩
    obtain ⟨hi, t, rfl⟩ := hx
    refine ⟨.int (lo + (i : Nat)), ?_, ⟨t, rfl⟩⟩
    show (rgI lo n)[i]? = _
    simp [rgI, hi]
theorem Sk.begins (k : Sk) (pl : k.plain) (I : L2.Inv X pins σ H s) (ok : k.ok X.K H) : ∃ (o : Obj) (Hb : Heap → Prop), Begins k.val o Hb ∧ Hb s.heap ∧ ∀ (h : Heap) (it : Addr), h.get? it = some o → k.it it 0 h := by
  cases k with
  | L a xs =>
    obtain ⟨its, rv, p, _⟩ := I.list ok
    exact ⟨_, _, begins_list a its.toArray, p.isList, fun h it e => ⟨_, e, rfl, rfl⟩⟩
  | T a xs =>
    obtain ⟨its, rv, p, _⟩ := I.tuple ok
    exact ⟨_, _, begins_tuple a its.toArray, p, fun h it e => ⟨_, e, rfl, rfl⟩⟩
  | S z t => exact ⟨_, _, begins_text z t, trivial, fun h it e => ⟨_, e, rfl, rfl⟩⟩
  | R lo n => exact pl.elim
end
/-- pairs of two walks -/
def ItP (K : PySem.W.Frag) (k1 k2 : Sk) : It :=
  ⟨fun i H => k1.ok K H ∧ k2.ok K H ∧ i < k1.items.length ∧ i < k2.items.length,
    fun i H v H' => ∃ T x y o, v = .ref T ∧ H T = none ∧ o.dict = none ∧ H' = upd H T (.frz o (.tup [x, y])) ∧ k1.items[i]? = some x ∧ k2.items[i]? = some y,
    fun i H => k1.ok K H ∧ k2.ok K H ∧ i = min k1.items.length k2.items.length⟩
structure ZAp (z TI TO i1 i2 : Addr) (k1 k2 : Sk) : Prop where
  nd : [z, TI, TO, i1, i2].Nodup
  o1 : ∀ b ∈ [z, TI, TO, i1, i2], k1.off b
  o2 : ∀ b ∈ [z, TI, TO, i1, i2], k2.off b
theorem ZAp.sep {z TI TO i1 i2 : Addr} {k1 k2 : Sk} (D : ZAp z TI TO i1 i2 k1 k2) {fp1 fp2 : List Addr} (m1 : i1 ∈ fp1) (m2 : i2 ∈ fp2) (h1 : ∀ b ∈ fp1, b ≠ i1 → ¬ k1.off b) (h2 : ∀ b ∈ fp2, b ≠ i2 → ¬ k2.off b) : ZipSep2 z TI TO i1 i2 fp1 fp2 := by
  have nd := D.nd
  simp only [List.nodup_cons, List.mem_cons, List.not_mem_nil, not_or, or_false] at nd
  obtain ⟨⟨a1, a2, a3, a4⟩, ⟨b1, b2, b3⟩, ⟨c1, c2⟩, d1, _⟩ := nd
  refine ⟨Ne.symm a1, Ne.symm a2, b1, b2, m1, fun q => ?_, fun q => ?_, b3, m2, fun q => ?_, fun q => ?_, fun q => ?_, fun q => ?_⟩
  · exact h1 z q a3 (D.o1 z (by simp))
  · exact h1 TO q c1 (D.o1 TO (by simp))
  · exact h2 z q a4 (D.o2 z (by simp))
  · exact h2 TO q c2 (D.o2 TO (by simp))
  · exact h2 i1 q d1 (D.o2 i1 (by simp))
  · exact h1 i2 q (Ne.symm d1) (D.o1 i2 (by simp))
theorem turn_zipG {P : Program} {w : World} {K : PySem.W.Frag} {tg : Expr} {z TI TO i1 i2 : Addr} {k1 k2 : Sk} (D : ZAp z TI TO i1 i2 k1 k2) :
    Turn P w K tg (ItP K k1 k2) [z, TI, TO, i1, i2] z (fun i h => (∃ f0 f1, IsZipG h z TI TO f0 f1 ∧ OkF f0) ∧ IsTupOf2 h TI (.ref i1) (.ref i2) ∧ (∃ x y, IsTupOf2 h TO x y) ∧ k1.it i1 i h ∧ k2.it i2 i h) where
  mem := by simp
  obj := fun i h st c hc => by
    obtain ⟨⟨f0, f1, hz, _⟩, hTI, ⟨x, y, hTO⟩, h1, h2⟩ := st
    have e' : c = z ∨ c = TI ∨ c = TO ∨ c = i1 ∨ c = i2 := by simpa using hc
    rcases e' with q | q | q | q | q
    · rw [q]; exact ⟨_, hz, fun v q => nomatch q⟩
    · rw [q]; exact ⟨_, hTI, fun v q => nomatch q⟩
    · rw [q]; exact ⟨_, hTO, fun v q => nomatch q⟩
    · rw [q]; exact Sk.it_obj h1
    · rw [q]; exact Sk.it_obj h2
  keep := fun i h h' st k => by
    obtain ⟨⟨f0, f1, hz, hf⟩, hTI, ⟨x, y, hTO⟩, h1, h2⟩ := st
    exact ⟨⟨f0, f1, k z (by simp) _ hz, hf⟩, k TI (by simp) _ hTI, ⟨x, y, k TO (by simp) _ hTO⟩, Sk.it_keep h1 fun o q => k i1 (by simp) o q, Sk.it_keep h2 fun o q => k i2 (by simp) o q⟩
  item := by
    intro X hP hw hK hc i pins s σ H E I hf st hg
    subst hP hw hK
    obtain ⟨⟨f0, f1, hz, hok⟩, hTI, ⟨x0, y0, hTO⟩, h1, h2⟩ := st
    obtain ⟨ok1, ok2, l1, l2⟩ := hg
    have hA : X.A.in1.handled = none := I.ok.hd hc
    obtain ⟨fp1, P1, St1, D1, m1, n1, s1, u1, v1⟩ := k1.draws I ok1 hA i1 (D.o1 i1 (by simp))
    obtain ⟨fp2, P2, St2, D2, m2, n2, s2, u2, v2⟩ := k2.draws I ok2 hA i2 (D.o2 i2 (by simp))
    have S := D.sep m1 m2 (fun b hb hn => (n1 b hb hn).2) fun b hb hn => (n2 b hb hn).2
    have hzl : z < s.heap.objs.size := Heap.lt_size hz
    refine pyNext_zipG_item S D1 D2 hz hok hTI hTO (s1 i h1) (s2 i h2) l1 l2 fun x1 x2 h' tk g0 g1 p1 p2 z' ok' to' t1' t2' hT hsz hk => ?_
    refine ⟨_, rfl, goG (s := { s with heap := h', toks := tk }) z' ok' fun h'' g0' z'' ok'' sb => ?_⟩
    obtain ⟨x, ex, rx⟩ := v1 i x1 p1
    obtain ⟨y, ey, ry⟩ := v2 i x2 p2
    have hT2 : h''.get? s.heap.objs.size = some { cls := .type "tuple", data := .seq #[x1, x2] } := (sb.2 _ (Nat.ne_of_gt hzl)).trans hT
    have new : ObjOk X.prog X.w (upd H s.heap.objs.size (.frz { cls := .type "tuple", data := .seq #[x1, x2] } (.tup [x, y]))) h'' s.heap.objs.size (.frz { cls := .type "tuple", data := .seq #[x1, x2] } (.tup [x, y])) :=
      ⟨hT2, by show 2 ≤ sizeLine; decide, [x1, x2], .cons rx (.cons ry .nil), ⟨_, hT2, rfl, _, rfl⟩⟩
    have I1 : L2.Inv X pins σ (upd H s.heap.objs.size (.frz { cls := .type "tuple", data := .seq #[x1, x2] } (.tup [x, y]))) { s with heap := h'', toks := tk } :=
      I.turnedNew (t' := tk) (ch := [z, TI, TO, i1, i2]) (fun c o hb q => (sb.2 c (fun q' => hb (by simp [q']))).trans (hk c o (fun q' => hb (by simp [q'])) (fun q' => hb (by simp [q'])) (fun q' => hb (by simp [q'])) (fun q' => hb (by simp [q'])) q)) hf (Nat.le_refl _) new
    obtain ⟨b1, b2, to'⟩ := to'
    refine ⟨.ref s.heap.objs.size, _, I1, rfl, ⟨_, x, y, _, rfl, I.hok.fresh (Nat.le_refl _), rfl, rfl, ex, ey⟩, ⟨⟨g0', g1, z'', ok''⟩, ?_, ⟨b1, b2, ?_⟩, ?_, ?_⟩, fun c hcm => ?_⟩
    · exact (sb.2 _ S.TIz).trans (hk _ _ S.TIz S.TITO S.TIi1 S.TIi2 hTI)
    · exact (sb.2 _ S.TOz).trans to'
    · exact Sk.it_keep (u1 _ _ t1') fun o q => (sb.2 _ (Ne.symm S.zi1)).trans q
    · exact Sk.it_keep (u2 _ _ t2') fun o q => (sb.2 _ (Ne.symm S.zi2)).trans q
    · have hlt : c < s.heap.objs.size := by
        have e' : c = z ∨ c = TI ∨ c = TO ∨ c = i1 ∨ c = i2 := by simpa using hcm
        rcases e' with q | q | q | q | q
        · rw [q]; exact hzl
        · rw [q]; exact Heap.lt_size hTI
        · rw [q]; exact Heap.lt_size hTO
        · rw [q]; obtain ⟨_, e1, _⟩ := Sk.it_obj h1; exact Heap.lt_size e1
        · rw [q]; obtain ⟨_, e2, _⟩ := Sk.it_obj h2; exact Heap.lt_size e2
      rw [upd_ne (Nat.ne_of_lt hlt)]
      exact (hf c hcm).1
  done := by
    intro X hP hw hK hc i pins s σ H E I hf st hg
    subst hP hw hK
    obtain ⟨⟨f0, f1, hz, hok⟩, hTI, ⟨x0, y0, hTO⟩, h1, h2⟩ := st
    obtain ⟨ok1, ok2, he⟩ := hg
    have hA : X.A.in1.handled = none := I.ok.hd hc
    obtain ⟨fp1, P1, St1, D1, m1, n1, s1, u1, v1⟩ := k1.draws I ok1 hA i1 (D.o1 i1 (by simp))
    obtain ⟨fp2, P2, St2, D2, m2, n2, s2, u2, v2⟩ := k2.draws I ok2 hA i2 (D.o2 i2 (by simp))
    have S := D.sep m1 m2 (fun b hb hn => (n1 b hb hn).2) fun b hb hn => (n2 b hb hn).2
    exact pyNext_zipG_end S D1 D2 hz hok hTI hTO (s1 i h1) (s2 i h2) (by omega) (by omega) (by omega) fun h' tk hk => ⟨rfl, I.turnedL (t' := tk) (ch := [z, TI, TO, i1, i2]) (fun c o hb q =>
      hk c o (fun q' => hb (by simp [q'])) (fun q' => hb (by simp [q'])) (fun q' => hb (by simp [q'])) (fun q' => hb (by simp [q'])) q) hf⟩
  self := fun A i s Q E st h => by
    obtain ⟨⟨f0, f1, hz, _⟩, _⟩ := st
    have hT : s.TypeIs (.ref z) "zip" := ⟨_, hz, rfl⟩
    refine wpAny_pyIter_slot hT PySem.F.slot_zip_iter (wpAny_call_entry PySem.F.slot_zip_iter hT PySem.F.entry_zip_iter ?_ (PySem.F.args_zip_iter_1 _))
    exact wpAny_pure ⟨_, rfl, "zip", _, hT, PySem.F.slot_zip_next.lookup, h⟩
-- numbered items
def ItE (K : PySem.W.Frag) (k : Sk) : It :=
  ⟨fun i H => k.ok K H ∧ i < k.items.length,
    fun i H v H' => ∃ T x o, v = .ref T ∧ H T = none ∧ o.dict = none ∧ H' = upd H T (.frz o (.tup [.int (i : Nat), x])) ∧ k.items[i]? = some x,
    fun i H => k.ok K H ∧ i = k.items.length⟩
theorem turn_enumG {P : Program} {w : World} {K : PySem.W.Frag} {elts : List Expr} {kk : Nat} {tpos : Pos} {e it : Addr} {k : Sk} (hne : e ≠ it) (o1 : k.off e) (o2 : k.off it) :
    Turn P w K (.Tuple elts kk tpos) (ItE K k) [e, it] e (fun i h => (∃ old, IsEnum h e it i old) ∧ k.it it i h) where
  mem := by simp
  obj := fun i h st b hb => by
    obtain ⟨⟨old, he⟩, h1⟩ := st
    have e' : b = e ∨ b = it := by simpa using hb
    rcases e' with z | z
    · rw [z]; exact ⟨_, he, fun v q => nomatch q⟩
    · rw [z]; exact Sk.it_obj h1
  keep := fun i h h' st kp => let ⟨⟨old, he⟩, hi⟩ := st; ⟨⟨old, kp e (by simp) _ he⟩, Sk.it_keep hi fun o q => kp it (by simp) o q⟩
  item := by
    intro X hP hw hK hc i pins s σ H E I hf st hg
    subst hP hw hK
    obtain ⟨⟨old, he⟩, hit⟩ := st
    obtain ⟨ok, hi⟩ := hg
    have hA : X.A.in1.handled = none := I.ok.hd hc
    obtain ⟨fp, P1, St1, D1, m1, n1, s1, u1, v1⟩ := k.draws I ok hA it o2
    have hel : e < s.heap.objs.size := Heap.lt_size he
    have hil : it < s.heap.objs.size := by obtain ⟨_, q, _⟩ := Sk.it_obj hit; exact Heap.lt_size q
    have hef : e ∉ fp := fun q => (n1 e q hne).2 o1
    refine wpAny_pyNext_enum_itemD D1 he (s1 i hit) hi hne hef fun u h' tk p1 ho hit' hT hsz hk => ?_
    refine ⟨_, rfl, wpAny_letOwnedTupleGo_enum (s := { s with heap := h', toks := tk + 1 }) ho fun h'' he' sb => ?_⟩
    obtain ⟨x, ex, rx⟩ := v1 i u p1
    have hT2 : h''.get? s.heap.objs.size = some { cls := .type "tuple", data := .seq #[.int i tk, u] } := (sb.2 _ (Nat.ne_of_gt hel)).trans hT
    have new : ObjOk X.prog X.w (upd H s.heap.objs.size (.frz { cls := .type "tuple", data := .seq #[.int i tk, u] } (.tup [.int (i : Nat), x]))) h'' s.heap.objs.size (.frz { cls := .type "tuple", data := .seq #[.int i tk, u] } (.tup [.int (i : Nat), x])) :=
      ⟨hT2, by show 2 ≤ sizeLine; decide, [.int i tk, u], .cons ⟨_, rfl⟩ (.cons rx .nil), ⟨_, hT2, rfl, _, rfl⟩⟩
    have I1 : L2.Inv X pins σ (upd H s.heap.objs.size (.frz { cls := .type "tuple", data := .seq #[.int i tk, u] } (.tup [.int (i : Nat), x]))) { s with heap := h'', toks := tk + 1 } :=
      I.turnedNew (ch := [e, it]) (fun b ob hb q => (sb.2 b (fun z => hb (by simp [z]))).trans (hk b ob (fun z => hb (by simp [z])) (fun z => hb (by simp [z])) q)) hf (Nat.le_refl _) new
    refine ⟨.ref s.heap.objs.size, _, I1, rfl, ⟨_, x, _, rfl, I.hok.fresh (Nat.le_refl _), rfl, rfl, ex⟩, ⟨⟨u, ?_⟩, Sk.it_keep (u1 _ _ hit') fun o q => (sb.2 it (Ne.symm hne)).trans q⟩, fun b hb => ?_⟩
    · have e1 : ((i + 1 : Nat) : Int) = (i : Int) + 1 := by omega
      rw [e1]; exact he'
    · have hb' : b < s.heap.objs.size := by
        have e' : b = e ∨ b = it := by simpa using hb
        rcases e' with z | z
        · rw [z]; exact hel
        · rw [z]; exact hil
      rw [upd_ne (Nat.ne_of_lt hb')]
      exact (hf b hb).1
  done := by
    intro X hP hw hK hc i pins s σ H E I hf st hg
    subst hP hw hK
    obtain ⟨⟨old, he⟩, hit⟩ := st
    obtain ⟨ok, hi⟩ := hg
    have hA : X.A.in1.handled = none := I.ok.hd hc
    obtain ⟨fp, P1, St1, D1, m1, n1, s1, u1, v1⟩ := k.draws I ok hA it o2
    obtain ⟨f0, f1, f2, f3, f4, f5⟩ := hf it (by simp)
    subst hi
    exact wpAny_pyNext_enum_endD D1 he (s1 _ hit) fun h' eb => ⟨rfl, I.turned (t' := s.toks) (fun b o hb q => eb b o hb q) f0 f1 f3 f4 f5⟩
  self := fun A i s Q E st h => let ⟨⟨_, he⟩, _⟩ := st; wpAny_pyIter_enum he h

/-- how a value is walked, now and later -/
def SkV (K : PySem.W.Frag) (H : Hp) (x : V) (xs : List V) : Prop :=
  (∃ a, x = .ref a ∧ ∀ H', Kp H H' → SqL K H' a xs) ∨ (∃ a, x = .ref a ∧ ∀ H', Kp H H' → SqT K H' a xs) ∨ ∃ z, x = .str z ∧ xs = signsV z
theorem SkV.sk {X : Cx} {pins : List (Addr × Obj)} {σ : L2.St} {H : Hp} {s : Shared} {x : V} {u : Value} {xs : List V} (h : SkV X.K H x xs) (r : RelV x u) (I : L2.Inv X pins σ H s) :
    ∃ k : Sk, k.items = xs ∧ (∀ H', Kp H H' → k.ok X.K H') ∧ k.val = u ∧ (∀ b, s.heap.objs.size ≤ b → k.off b) ∧ k.plain := by
  rcases h with ⟨a, rfl, q⟩ | ⟨a, rfl, q⟩ | ⟨z, rfl, rfl⟩
  · cases r
    obtain ⟨its, rv, p, _⟩ := I.list (q H (Kp.refl H))
    exact ⟨.L a xs, rfl, q, rfl, fun b hb z => by subst z; exact absurd (Nat.lt_of_lt_of_le p.lt hb) (Nat.lt_irrefl _), trivial⟩
  · cases r
    obtain ⟨its, rv, p, _⟩ := I.tuple (q H (Kp.refl H))
    exact ⟨.T a xs, rfl, q, rfl, fun b hb z => by subst z; exact absurd (Nat.lt_of_lt_of_le p.lt hb) (Nat.lt_irrefl _), trivial⟩
  · obtain ⟨t, rfl⟩ := r
    exact ⟨.S z t, rfl, fun _ _ => trivial, rfl, fun _ _ => trivial, trivial⟩
def iZipG (K : PySem.W.Frag) (ta : TA) : TI := fun σ H R => ta σ H fun vs H1 => ∃ x y xs ys, vs = [x, y] ∧ SkV K H1 x xs ∧ SkV K H1 y ys ∧ ∀ k1 k2 : Sk, k1.items = xs → k2.items = ys → (∀ H', Kp H1 H' → k1.ok K H') → (∀ H', Kp H1 H' → k2.ok K H') → R (ItP K k1 k2) H1
/-- zip begins, over two beginnings -/
theorem zip_tail {X : Cx} {tg : Expr} {pins : List (Addr × Obj)} {σ : L2.St} {H : Hp} {s : Shared} {R : It → Hp → Prop} {v1 v2 : Value} {o1 o2 : Obj} {Hb1 Hb2 : Heap → Prop} {k1 k2 : Sk} (I : L2.Inv X pins σ H s)
    (B1 : Begins v1 o1 Hb1) (B2 : Begins v2 o2 Hb2) (hb1 : Hb1 s.heap) (hb2 : Hb2 s.heap) (st1 : ∀ (h : Heap) (it : Addr), h.get? it = some o1 → k1.it it 0 h) (st2 : ∀ (h : Heap) (it : Addr), h.get? it = some o2 → k2.it it 0 h)
    (off1 : ∀ b, s.heap.objs.size ≤ b → k1.off b) (off2 : ∀ b, s.heap.objs.size ≤ b → k2.off b) (q : R (ItP X.K k1 k2) H) :
    wpAny (model X.prog X.w) X.A (call (.type "zip") [v1, v2]) (fun v s1 => wpAny (model X.prog X.w) X.A (pyIter v) (PIE X pins σ tg R) X.xe s1) X.xe s := by
  refine zip_begins2 B1 B2 hb1 hb2 fun h' hz hTI hTO g1 g2 hsz hk => ?_
  have I2 : L2.Inv X pins σ H { s with heap := h' } := I.kept (t' := s.toks) hk
  have new : ∀ c, c ∈ [s.heap.objs.size + 4, s.heap.objs.size + 2, s.heap.objs.size + 3, s.heap.objs.size, s.heap.objs.size + 1] → s.heap.objs.size ≤ c := fun c hc => by
    simp only [List.mem_cons, List.not_mem_nil, or_false] at hc
    rcases hc with rfl | rfl | rfl | rfl | rfl
    · exact Nat.le_add_right _ _
    · exact Nat.le_add_right _ _
    · exact Nat.le_add_right _ _
    · exact Nat.le_refl _
    · exact Nat.le_add_right _ _
  have nd : [s.heap.objs.size + 4, s.heap.objs.size + 2, s.heap.objs.size + 3, s.heap.objs.size, s.heap.objs.size + 1].Nodup := by
    generalize s.heap.objs.size = n
    simp only [List.nodup_cons, List.mem_cons, List.not_mem_nil, not_or, or_false, not_false_eq_true, and_true, List.nodup_nil]
    omega
  have hT : ({ s with heap := h' } : Shared).TypeIs (.ref (s.heap.objs.size + 4)) "zip" := ⟨_, hz, rfl⟩
  refine wpAny_pyIter_slot hT PySem.F.slot_zip_iter (wpAny_call_entry PySem.F.slot_zip_iter hT PySem.F.entry_zip_iter ?_ (PySem.F.args_zip_iter_1 _))
  refine wpAny_pure ⟨_, rfl, "zip", _, hT, PySem.F.slot_zip_next.lookup, ?_⟩
  exact ⟨s.heap.objs.size + 4, [s.heap.objs.size + 4, s.heap.objs.size + 2, s.heap.objs.size + 3, s.heap.objs.size, s.heap.objs.size + 1], _, _, H, rfl, I2,
    turn_zipG ⟨nd, fun b hb => off1 b (new b hb), fun b hb => off2 b (new b hb)⟩, ⟨⟨_, _, hz, .inl rfl⟩, hTI, ⟨_, _, hTO⟩, st1 _ _ g1, st2 _ _ g2⟩,
    fun b hb => I.fpOk (new b hb) (I.hok.fresh (new b hb)), q⟩
theorem pi_zipG {X : Cx} {tg e e2 : Expr} {ta : TA} {p pos : Pos} (hg : Gl X "zip") (hm : X.mg "zip" = none) (ha : PA X [e, e2] ta)
    (hs : starEach [e, e2] X.env = (false, eval e X.env) :: starEach [e2] X.env) (hpl : (backTo pos (starEach [e2] X.env)).any (·.1) = false) :
    PI X tg (.Call (.Name "zip" p) [e, e2] [] pos) (iZipG X.K ta) := by
  refine ⟨fun pins s σ H R I h => ?_⟩
  refine Call_ (ld_blt I hg hm PyProof.Rows.boot_zip (PyProof.Rows.callWith_type1 (thn (ha.run pos pins s σ H _ I h) fun us s1 ⟨vs, H1, I1, r1, q1⟩ => ?_) hs hpl))
  obtain ⟨x, y, xs, ys, rfl, sx, sy, q⟩ := q1
  obtain ⟨u1, u2, rfl, r1, r2⟩ := vals2 r1
  obtain ⟨k1, e1, ok1, rfl, off1, pl1⟩ := sx.sk r1 I1
  obtain ⟨k2, e2, ok2, rfl, off2, pl2⟩ := sy.sk r2 I1
  obtain ⟨o1, Hb1, B1, hb1, st1⟩ := k1.begins pl1 I1 (ok1 _ (Kp.refl _))
  obtain ⟨o2, Hb2, B2, hb2, st2⟩ := k2.begins pl2 I1 (ok2 _ (Kp.refl _))
  exact zip_tail I1 B1 B2 hb1 hb2 st1 st2 off1 off2 (q k1 k2 e1 e2 ok1 ok2)
/-- a range as an argument: its object is new -/
def PRgF (X : Cx) (e : Expr) (t : L2.St → Hp → (Int → Int → Hp → Prop) → Prop) : Prop := ∀ (pins : List (Addr × Obj)) (s : Shared) (σ : L2.St) (H : Hp) (Q : Int → Int → Hp → Prop), L2.Inv X pins σ H s → t σ H Q →
  wpAny (model X.prog X.w) X.A (eval e X.env) (fun y z => ∃ r a b t u v H1, y = .ref r ∧ IsRange z.heap r a b 1 t u v ∧ L2.Inv X pins σ H1 z ∧ FpOk X pins H1 r ∧ Q a b H1) X.xe s
theorem PRgF.imp {X : Cx} {e : Expr} {t t' : L2.St → Hp → (Int → Int → Hp → Prop) → Prop} (h : PRgF X e t) (i : ∀ σ H Q, t' σ H Q → t σ H Q) : PRgF X e t' := fun pins s σ H Q I q => h pins s σ H Q I (i σ H Q q)
theorem range_made {X : Cx} {pins : List (Addr × Obj)} {σ : L2.St} {H : Hp} {z : Shared} {a b : Int} {t u v : Tok} {tk : Nat} {Q : Int → Int → Hp → Prop} (I : L2.Inv X pins σ H z) (q : Q a b H) :
    ∃ r a' b' t' u' v' H1, (Value.ref z.heap.objs.size) = .ref r ∧ IsRange (z.heap.push { cls := .type "range", data := .fields #[.int a t, .int b u, .int 1 v] }) r a' b' 1 t' u' v' ∧
      L2.Inv X pins σ H1 { z with heap := z.heap.push { cls := .type "range", data := .fields #[.int a t, .int b u, .int 1 v] }, toks := tk } ∧ FpOk X pins H1 r ∧ Q a' b' H1 :=
  ⟨_, a, b, t, u, v, H, rfl, IsRange.new _ _ _ _ _ _ _, I.kept fun c o e => Heap.get?_push_of_some _ e, I.fpOk (Nat.le_refl _) (I.hok.fresh (Nat.le_refl _)), q⟩
theorem prgF_1 {X : Cx} {a : Expr} {ta : TE} {p pos : Pos} (hg : Gl X "range") (hm : X.mg "range" = none) (ha : PE X a ta) (na : starEach [a] X.env = (false, eval a X.env) :: starEach [] X.env) : PRgF X (.Call (.Name "range" p) [a] [] pos) (tRg1 ta) :=
  fun pins s σ H Q I h => Call_ (ld_blt I hg hm boot_range (callWith_type1 (one_arg ha I h (fun c z x Hx Ix rx ⟨n, ex, qx⟩ => by
    subst ex
    obtain ⟨t, rfl⟩ := rx
    exact call_range_1 (range_made Ix qx)) na) na))
theorem prgF_2 {X : Cx} {a b : Expr} {ta tb : TE} {p pos : Pos} (hg : Gl X "range") (hm : X.mg "range" = none) (ha : PE X a ta) (hb : PE X b tb) (na : starEach [a, b] X.env = (false, eval a X.env) :: starEach [b] X.env)
    (nb : starEach [b] X.env = (false, eval b X.env) :: starEach [] X.env) (hp : (backTo pos (starEach [b] X.env)).any (·.1) = false) : PRgF X (.Call (.Name "range" p) [a, b] [] pos) (tRg2 ta tb) :=
  fun pins s σ H Q I h => Call_ (ld_blt I hg hm boot_range (callWith_type1 (args_cons (thn (ha.run pins s σ H _ I h) fun c z ⟨x, Hx, Ix, rx, qx⟩ => one_arg hb Ix qx (fun c2 z2 y Hy Iy ry ⟨i, j, ei, ej, qy⟩ => by
    subst ei ej
    obtain ⟨t, rfl⟩ := rx
    obtain ⟨t2, rfl⟩ := ry
    exact call_range_2 (range_made Iy qy)) nb) na) na hp))
def iZipRR (K : PySem.W.Frag) (t1 t2 : L2.St → Hp → (Int → Int → Hp → Prop) → Prop) : TI := fun σ H R => t1 σ H fun a b H1 => -(2 ^ 62) ≤ a ∧ a < 2 ^ 62 ∧ -(2 ^ 62) ≤ b ∧ b < 2 ^ 62 ∧ t2 σ H1 fun c d H2 => -(2 ^ 62) ≤ c ∧ c < 2 ^ 62 ∧ -(2 ^ 62) ≤ d ∧ d < 2 ^ 62 ∧ R (ItP K (.R a (b - a).toNat) (.R c (d - c).toNat)) H2
theorem pi_zipRR {X : Cx} {tg e e2 : Expr} {t1 t2 : L2.St → Hp → (Int → Int → Hp → Prop) → Prop} {p pos : Pos} (hg : Gl X "zip") (hm : X.mg "zip" = none) (h1 : PRgF X e t1) (h2 : PRgF X e2 t2)
    (hs : starEach [e, e2] X.env = (false, eval e X.env) :: starEach [e2] X.env) (hs2 : starEach [e2] X.env = (false, eval e2 X.env) :: starEach [] X.env) (hpl : (backTo pos (starEach [e2] X.env)).any (·.1) = false) :
    PI X tg (.Call (.Name "zip" p) [e, e2] [] pos) (iZipRR X.K t1 t2) := by
  refine ⟨fun pins s σ H R I h => ?_⟩
  refine Call_ (ld_blt I hg hm PyProof.Rows.boot_zip (PyProof.Rows.callWith_type1 (args_cons (thn (h1 pins s σ H _ I h) fun u1 s1 hu1 => ?_) hs) hs hpl))
  obtain ⟨r1, a, b, t, u, v, H1, rfl, g1, I1, f1, b1, b2, b3, b4, q1⟩ := hu1
  have hp : L2.Inv X (pins ++ pinsAt [r1] s1.heap) σ H1 s1 := I1.pinned (fun c hc => by
    have e : c = r1 := by simpa using hc
    subst e
    exact f1) (fun c hc => by
    have e : c = r1 := by simpa using hc
    subst e
    exact ⟨_, g1, fun v z => nomatch z⟩)
  refine args_cons (thn (h2 _ s1 σ H1 _ hp q1) fun u2 s2 hu2 => args_nil ?_) hs2
  obtain ⟨r2, c, d, t', u', v', H2, rfl, g2, I2, f2, c1, c2, c3, c4, q2⟩ := hu2
  have g1' : IsRange s2.heap r1 a b 1 t u v := by
    have := (I2.pin (r1, _) (List.mem_append_right _ (List.mem_append_right _ (mem_pinsAt (by simp) g1)))).1
    exact this
  exact zip_tail (k1 := .R a (b - a).toNat) (k2 := .R c (d - c).toNat) I2.unpinned (begins_range r1 a b t u v b1 b2 b3 b4) (begins_range r2 c d t' u' v' c1 c2 c3 c4) g1' g2
    (fun h it e => by show IsRangeIter _ _ _ _ _; simpa using e) (fun h it e => by show IsRangeIter _ _ _ _ _; simpa using e) (fun _ _ => trivial) (fun _ _ => trivial) q2
def iEnmG (K : PySem.W.Frag) (ta : TA) : TI := fun σ H R => ta σ H fun vs H1 => ∃ x xs, vs = [x] ∧ SkV K H1 x xs ∧ ∀ k : Sk, k.items = xs → (∀ H', Kp H1 H' → k.ok K H') → R (ItE K k) H1
theorem enum_new1 {v : Value} {o : Obj} {Hb : Heap → Prop} (B : Begins v o Hb) :
    Meets (Builtin.«enumerate.__new__» ⟨[.type "enumerate", v], []⟩) (fun _ R s => Hb s.heap ∧
      R (.ok (.ret (.ref (s.heap.push o).objs.size))) { s with heap := (s.heap.push o).push { cls := .type "enumerate", data := .fields #[.none, .bool false, .ref s.heap.objs.size, rawInt 0, .none, .none] } }) :=
  .of_wp fun prog w A R s h => by
    obtain ⟨hp, g, d, tk, os⟩ := s; obtain ⟨h1, h⟩ := h
    have hsub := sub_enumerate
    have q1 : ∀ {A' : Around} {E : Value → Shared → Prop} {Q : Value → Shared → Prop}, Q (.ref hp.objs.size) ⟨hp.push o, g, d, tk, os⟩ → wpAny (model prog w) A' (pyIter v) Q E ⟨hp, g, d, tk, os⟩ :=
      fun q => B.iter prog w _ _ ⟨hp, g, d, tk, os⟩ _ h1 q
    wp_walk using q1
    refine wpAny_stack_any fun st => wpAny_pure ?_
    split
    · rename_i c _ _ _ _ _
      cases (c == Value.type "enumerate")
      · wp_walk using q1
        exact ⟨_, rfl, h⟩
      · wp_walk using q1
        exact ⟨_, rfl, h⟩
    · wp_walk using q1
      exact ⟨_, rfl, h⟩
theorem enum_begins1 {prog : Program} {w : World} {A : Around} {E : Value → Shared → Prop} {s : Shared} {v : Value} {o : Obj} {Hb : Heap → Prop} {Q : Value → Shared → Prop} (B : Begins v o Hb) (h1 : Hb s.heap)
    (h : ∀ h', IsEnum h' (s.heap.objs.size + 1) s.heap.objs.size 0 .none → h'.get? s.heap.objs.size = some o → h'.objs.size = s.heap.objs.size + 2 →
      (∀ b o, s.heap.get? b = some o → h'.get? b = some o) → Q (.ref (s.heap.objs.size + 1)) { s with heap := h' }) :
    wpAny (model prog w) A (call (.type "enumerate") [v]) Q E s := by
  refine callType_new F.called_enumerate (by decide) (F.typeCall_enumerate_1 _) (F.newCall_enumerate_1 _) (fun obj => F.args_object_init_2 obj _) F.entry_enumerate_new
    (enum_new1 B) ⟨h1, ?_⟩
  have hz : (s.heap.push o).objs.size = s.heap.objs.size + 1 := Heap.size_push ..
  show _ ∧ _
  rw [hz]
  have he : IsEnum ((s.heap.push o).push { cls := .type "enumerate", data := .fields #[.none, .bool false, .ref s.heap.objs.size, rawInt 0, .none, .none] }) (s.heap.objs.size + 1) s.heap.objs.size 0 .none := by
    have := Heap.get?_push_size (s.heap.push o) (o := { cls := .type "enumerate", data := .fields #[.none, .bool false, .ref s.heap.objs.size, rawInt 0, .none, .none] }) rfl
    rw [hz] at this; exact this
  refine ⟨⟨_, he, rfl⟩, h _ he (Heap.get?_push_of_some _ (Heap.get?_push_size _ B.free)) (by rw [Heap.size_push, hz]) fun b o x => Heap.get?_push_of_some _ (Heap.get?_push_of_some _ x)⟩
theorem pi_enmG {X : Cx} {e : Expr} {ta : TA} {p pos tpos : Pos} {elts : List Expr} {kk : Nat} (hg : Gl X "enumerate") (hm : X.mg "enumerate" = none) (ha : PA X [e] ta) (hs : starEach [e] X.env = (false, eval e X.env) :: starEach [] X.env) :
    PI X (.Tuple elts kk tpos) (.Call (.Name "enumerate" p) [e] [] pos) (iEnmG X.K ta) := by
  refine ⟨fun pins s σ H R I h => ?_⟩
  refine Call_ (ld_blt I hg hm boot_enumerate (PyProof.Rows.callWith_type1 (thn (ha.run pos pins s σ H _ I h) fun us s1 ⟨vs, H1, I1, r1, q1⟩ => ?_) hs rfl))
  obtain ⟨x, xs, rfl, sx, q⟩ := q1
  obtain ⟨u1, rfl, rr⟩ := vals1 r1
  obtain ⟨k1, e1, ok1, rfl, off1, pl1⟩ := sx.sk rr I1
  obtain ⟨o1, Hb1, B1, hb1, st1⟩ := k1.begins pl1 I1 (ok1 _ (Kp.refl _))
  refine enum_begins1 B1 hb1 fun h' he g1 hsz hk => wpAny_pyIter_enum he ?_
  have I2 : L2.Inv X pins σ H1 { s1 with heap := h' } := I1.kept (t' := s1.toks) hk
  refine ⟨s1.heap.objs.size + 1, [s1.heap.objs.size + 1, s1.heap.objs.size], _, _, H1, rfl, I2, turn_enumG (k := k1) (Nat.succ_ne_self _) (off1 _ (Nat.le_add_right _ _)) (off1 _ (Nat.le_refl _)), ⟨⟨.none, he⟩, st1 _ _ g1⟩, fun b hb => ?_, q k1 e1 ok1⟩
  have hle : s1.heap.objs.size ≤ b := by
    have e' : b = s1.heap.objs.size + 1 ∨ b = s1.heap.objs.size := by simpa using hb
    rcases e' with z | z
    · rw [z]; exact Nat.le_add_right _ _
    · rw [z]; exact Nat.le_refl _
  exact I1.fpOk hle (I1.hok.fresh hle)
end RF

set_option Elab.async false
set_option linter.all false
set_option maxRecDepth 100000
set_option maxHeartbeats 4000000
namespace RF
open PySem PySem.Spec PyProof.Rows L2

/-! ### tuple(text) -/
section
variable {prog : Program} {w : World} {A : Around} {E : Value → Shared → Prop} {s : Shared}
theorem collect_strT {Q : List Value → Shared → Prop} (hh : A.handled = none) (x : Str) (t : Tok) (hn : x.cps.size ≤ sizeLine)
    (hQ : ∀ (h' : Heap) (tk : Nat) (acc : Array Value), (∀ b o, s.heap.get? b = some o → h'.get? b = some o) → ItemsOf (SignAt x) acc x.cps.size → Q acc.toList { s with heap := h', toks := tk }) :
    wpAny (model prog w) A (collect (.str x t)) Q E s := by
  unfold collect
  refine wpAny_bind (wpAny_runValue (codeAny_builtin F.entry_proto_collect ?_))
  rw [Around.under_plainId F.plain_proto_collect _]
  show wpAny _ A.in1 (newList [] >>= fun l => again (.builtin "list.__iadd__" ⟨[l, .str x t], []⟩)) _ _ s
  refine wpAny_bind (wpAny_newObj_type ?_)
  refine wpAny_pure ⟨plainId_quiet F.plain_list_iadd _, codeAny_builtin F.entry_list_iadd ?_⟩
  rw [Around.under_plainId F.plain_list_iadd _]
  show wpAny _ A.in1 (Builtin.List.listExtendWith (.ref s.heap.objs.size) (.str x t) (.ref s.heap.objs.size)) _ _ _
  have hS : (s.heap.push { cls := .type "list", data := .seq ([] : List Value).toArray }).get? s.heap.objs.size = some { cls := .type "list", data := .seq #[] 0 } := Heap.get?_push_size _ rfl
  refine wpAny_mono (wpAny_extend_str (A := A) (R := fun rr s' => rr = .ok (.ret (.ref s.heap.objs.size)) ∧ ∃ (h' : Heap) (tk : Nat) (acc : Array Value) (c' : Nat), s' = { s with heap := h', toks := tk } ∧
      (∀ b o, s.heap.get? b = some o → h'.get? b = some o) ∧ h'.get? s.heap.objs.size = some { cls := .type "list", dict := none, data := .seq acc c', slots := #[] } ∧ ItemsOf (SignAt x) acc x.cps.size)
    (s := { s with heap := s.heap.push { cls := .type "list", data := .seq ([] : List Value).toArray } }) hh x t _ _ 0 hS
    (fun h' tk acc c' hk e hi => ⟨rfl, h', tk, acc, c', rfl, fun b o q => hk b o (Nat.ne_of_lt (Heap.lt_size q)) (Heap.get?_push_of_some _ q), e, hi⟩) hn) (fun fin s' h => ?_) (fun e s' h => ?_)
  · cases fin with
    | done f =>
      obtain ⟨e, h', tk, acc, c', rfl, hk, hS', hi⟩ := h
      cases e
      show wpAny _ A (load s.heap.objs.size >>= _) _ _ _
      exact wpAny_bind (wpAny_load hS' (wpAny_pure (hQ h' tk acc hk hi)))
    | again c' =>
      refine ⟨h.1, codeAny_mono h.2 fun rr s'' hr' => ?_⟩
      obtain ⟨rfl, h', tk, acc, c', rfl, hk, hS', hi⟩ := hr'
      show wpAny _ A (load s.heap.objs.size >>= _) _ _ _
      exact wpAny_bind (wpAny_load hS' (wpAny_pure (hQ h' tk acc hk hi)))
  · exact absurd h.1 (by simp)
theorem code_tuple_new_strT {Q₁ : Value → Shared → Prop} (hh : A.handled = none) (x : Str) (t : Tok) (hn : x.cps.size ≤ sizeLine)
    (h : ∀ (h' : Heap) (tk : Nat) (acc : Array Value), (∀ b o, s.heap.get? b = some o → h'.get? b = some o) → ItemsOf (SignAt x) acc x.cps.size →
      Q₁ (.ref h'.objs.size) { s with heap := h'.push { cls := .type "tuple", data := .seq acc }, toks := tk }) :
    codeAny (model prog w) A (.call (.builtin "tuple.__new__") ⟨[.type "tuple", .str x t], []⟩) (wants Q₁ E) s := by
  refine codeAny_of_tree ?_
  show wpAny _ A.in1 (do checkBuiltinCall "tuple.__new__" ⟨[.type "tuple", .str x t], []⟩; again (.builtin "tuple.__new__" ⟨[.type "tuple", .str x t], []⟩)) _ _ s
  refine wpAny_bind (wpAny_of_eq (F.newCall_tuple_1 _) (wpAny_pure ⟨plainId_quiet F.plain_tuple_new _, codeAny_builtin F.entry_tuple_new ?_⟩))
  rw [Around.under_plainId F.plain_tuple_new _]
  have hsub := sub_tuple_self
  have hinit := init_tuple_lookup
  have hmh := madeHere_tuple
  have hTI : s.TypeIs (.str x t) "str" := rfl
  have hh1 : A.in1.handled = none := hh
  wp_walk using wpAny_typeOf hTI, collect_strT (A := A.in1) hh1 x t hn
  intro h' tk acc hk hacc
  show wpAny _ _ (Builtin.Tuple.tupleExact acc.toList.toArray >>= fun v => ret v) _ _ _
  unfold Builtin.Tuple.tupleExact
  refine wpAny_bind (wpAny_newObj_type ?_ (by show acc.toList.toArray.size ≤ sizeLine; simp only [Array.toArray_toList]; rw [hacc.1]; exact hn))
  refine wpAny_pure ?_
  have e : acc.toList.toArray = acc := by simp
  rw [e]
  exact h h' tk acc hk hacc
theorem call_tuple_strT {Q : Value → Shared → Prop} (hh : A.handled = none) (x : Str) (t : Tok) (hn : x.cps.size ≤ sizeLine)
    (hQ : ∀ (h' : Heap) (tk : Nat) (acc : Array Value), (∀ b o, s.heap.get? b = some o → h'.get? b = some o) → ItemsOf (SignAt x) acc x.cps.size →
      Q (.ref h'.objs.size) { s with heap := h'.push { cls := .type "tuple", data := .seq acc }, toks := tk }) :
    wpAny (model prog w) A (call (.type "tuple") [.str x t]) Q E s := by
  refine callType_codes (Q₁ := fun obj s₁ => s₁.TypeIs obj "tuple" ∧ Q obj s₁) F.called_tuple (F.typeCall_tuple_1 _) F.entry_object_init
    (code_tuple_new_strT (A := A.in1) hh x t hn fun h' tk acc hk hacc => ⟨⟨_, Heap.get?_push_size _ rfl, rfl⟩, hQ h' tk acc hk hacc⟩) fun obj s₁ h₁ => ?_
  exact ⟨h₁.1, F.args_object_init_2 obj _, object_init_meets F.called_tuple.init.lookup F.called_tuple.made (by decide) prog w A.in1 _ s₁ ⟨h₁.1, rfl, h₁.2⟩⟩
end
section
variable {X : Cx}
theorem call_tuple_strR (hc : X.calm = true) : CallR X (.type "tuple") (fun vs H Q => ∃ z : Str, vs = [V.str z] ∧ z.length ≤ sizeLine ∧ ∀ p o, H p = none → o.dict = none → Q (.ref p) (upd H p (.frz o (.tup (z.cps.toList.map fun c => V.str ⟨#[c]⟩))))) := by
  intro pins s σ H vs us Q I r h
  obtain ⟨z, rfl, hz, q⟩ := h
  obtain ⟨u, rfl, t, rfl⟩ := vals1 r
  refine call_tuple_strT (I.ok.hd hc) z t hz fun h' tk acc hk hi => ?_
  have hv : Vals (z.cps.toList.map fun c => V.str ⟨#[c]⟩) acc.toList := by
    have hl : acc.toList.length = z.cps.toList.length := by simpa using hi.1
    have key : ∀ (us : List Value) (cs : List Nat), us.length = cs.length → (∀ (j : Nat) (u : Value), us[j]? = some u → ∃ c t, cs[j]? = some c ∧ u = Value.str ⟨#[c]⟩ t) → Vals (cs.map fun c => V.str ⟨#[c]⟩) us := by
      intro us
      induction us with
      | nil => intro cs hl _; cases cs with
        | nil => exact .nil
        | cons _ _ => simp at hl
      | cons u us ih => intro cs hl h; cases cs with
        | nil => simp at hl
        | cons c cs =>
          obtain ⟨c', t, h1, h2⟩ := h 0 u rfl
          simp at h1
          subst h1 h2
          exact .cons ⟨t, rfl⟩ (ih cs (by simpa using hl) fun j u hj => h (j + 1) u hj)
    refine key acc.toList z.cps.toList hl fun j u hj => ?_
    obtain ⟨c, t, h1, h2⟩ := hi.2 j u (by simpa using hj)
    exact ⟨c, t, by simpa using h1, h2⟩
  have I1 : Inv X pins σ H { s with heap := h', toks := tk } := I.kept hk
  have hl : (z.cps.toList.map fun c => V.str ⟨#[c]⟩).length ≤ sizeLine := by rw [List.length_map]; simpa [Str.length] using hz
  have I2 : L2.Inv X pins σ (upd H h'.objs.size (.frz { cls := .type "tuple", data := .seq acc } (.tup (z.cps.toList.map fun c => V.str ⟨#[c]⟩)))) { s with heap := h'.push { cls := .type "tuple", data := .seq acc }, toks := tk } :=
    I1.laid (t' := tk) (fun b o e => Heap.get?_push_of_some _ e) (Nat.le_refl _) (show ObjOk X.prog X.w _ _ _ (.frz _ (.tup _)) from ⟨Heap.get?_push_size _ rfl, hl, acc.toList, hv, by
      have e : acc.toList.toArray = acc := by simp
      rw [e]; exact IsTup.new _ _⟩)
  exact ⟨.ref h'.objs.size, _, I2, rfl, q _ _ (I1.hok.fresh (Nat.le_refl _)) rfl⟩
end
end RF

set_option Elab.async false
set_option linter.all false
set_option maxRecDepth 100000
set_option maxHeartbeats 4000000
namespace RF
open PySem PySem.Spec PyProof.Rows L2

/-! ### two sorted lists of the same items are one -/
theorem srt_uniq {α : Type} {le : α → α → Prop} (anti : ∀ a b, le a b → le b a → a = b) : ∀ {l m : List α}, l.Pairwise le → m.Pairwise le → l.Perm m → l = m
  | [], m, _, _, p => (List.Perm.eq_nil p.symm).symm
  | x :: l, [], _, _, p => absurd p.length_eq (by simp)
  | x :: l, y :: m, hl, hm, p => by
    have e : x = y := by
      rcases List.mem_cons.mp (p.mem_iff.mp (List.mem_cons_self (a := x) (l := l))) with e | hx
      · exact e
      · rcases List.mem_cons.mp (p.mem_iff.mpr (List.mem_cons_self (a := y) (l := m))) with e | hy
        · exact e.symm
        · exact anti _ _ ((List.pairwise_cons.mp hl).1 y hy) ((List.pairwise_cons.mp hm).1 x hx)
    subst e
    rw [srt_uniq anti (List.pairwise_cons.mp hl).2 (List.pairwise_cons.mp hm).2 p.cons_inv]
theorem ltCps_eq : ∀ a b : List Nat, ltCps a b = decide (a < b)
  | [], [] => by simp [ltCps]
  | [], b :: bs => by simp [ltCps]
  | a :: as, [] => by simp [ltCps]
  | a :: as, b :: bs => by
    rw [ltCps, ltCps_eq as bs]
    by_cases h : a < b
    · simp [h, List.cons_lt_cons_iff]
    · by_cases h2 : a = b
      · subst h2; simp [List.cons_lt_cons_iff]
      · simp [h, h2, List.cons_lt_cons_iff]
/-- x stands at or before y -/
def strLe (x y : Str) : Prop := strLt y x = false
theorem strLe_iff {x y : Str} : strLe x y ↔ x.cps.toList ≤ y.cps.toList := by
  unfold strLe strLt
  rw [decide_eq_false_iff_not]
  exact List.not_lt
theorem strLe_trans {x y z : Str} (h1 : strLe x y) (h2 : strLe y z) : strLe x z := by
  rw [strLe_iff] at *
  exact List.le_trans h1 h2
theorem strLe_total (x y : Str) : strLe x y ∨ strLe y x := by
  rw [strLe_iff, strLe_iff]
  exact List.le_total _ _
theorem strLe_anti {x y : Str} (h1 : strLe x y) (h2 : strLe y x) : x = y := by
  rw [strLe_iff] at *
  have := List.le_antisymm h1 h2
  cases x; cases y
  simp only [Str.mk.injEq] at *
  exact Array.toList_inj.mp this
theorem risingS_pw : ∀ (l : List Str) (p : Str), risingS p l = true → (p :: l).Pairwise strLe
  | [], p, _ => List.pairwise_singleton _ _
  | x :: r, p, h => by
    rw [risingS, Bool.and_eq_true, ltCps_eq] at h
    have ih := risingS_pw r x h.2
    have hx : strLe p x := by unfold strLe strLt; simpa using h.1
    refine List.pairwise_cons.mpr ⟨fun y hy => ?_, ih⟩
    rcases List.mem_cons.mp hy with rfl | hy
    · exact hx
    · exact strLe_trans hx ((List.pairwise_cons.mp ih).1 y hy)
theorem sortedS_pw : ∀ {l : List Str}, sortedS l = true → l.Pairwise strLe
  | [], _ => .nil
  | x :: r, h => risingS_pw r x h
theorem insStr_perm (x : Str) : ∀ l, (insStr x l).Perm (x :: l)
  | [] => .refl _
  | y :: ys => by
    unfold insStr
    split
    · exact ((insStr_perm x ys).cons y).trans (.swap x y ys)
    · exact .refl _
theorem sortStr_perm : ∀ l, (sortStr l).Perm l
  | [] => .refl _
  | x :: xs => (insStr_perm x _).trans ((sortStr_perm xs).cons x)
theorem insStr_pw (x : Str) : ∀ {l}, l.Pairwise strLe → (insStr x l).Pairwise strLe
  | [], _ => List.pairwise_singleton _ _
  | y :: ys, h => by
    unfold insStr
    have hc := List.pairwise_cons.mp h
    split
    · rename_i q
      refine List.pairwise_cons.mpr ⟨fun z hz => ?_, insStr_pw x hc.2⟩
      rcases List.mem_cons.mp ((insStr_perm x ys).mem_iff.mp hz) with rfl | hz
      · rcases strLe_total y z with a | a
        · exact a
        · unfold strLe at a; rw [q] at a; cases a
      · exact hc.1 z hz
    · rename_i q
      have hx : strLe x y := by unfold strLe; simpa using q
      refine List.pairwise_cons.mpr ⟨fun z hz => ?_, h⟩
      rcases List.mem_cons.mp hz with rfl | hz
      · exact hx
      · exact strLe_trans hx (hc.1 z hz)
theorem sortStr_pw : ∀ l, (sortStr l).Pairwise strLe
  | [] => .nil
  | x :: xs => insStr_pw x (sortStr_pw xs)
theorem sortStr_is {l ys : List Str} (p : ys.Perm l) (s : sortedS ys = true) : ys = sortStr l :=
  srt_uniq (fun _ _ => strLe_anti) (sortedS_pw s) (sortStr_pw l) (p.trans (sortStr_perm l).symm)
theorem insInt_perm (x : Int) : ∀ l, (insInt x l).Perm (x :: l)
  | [] => .refl _
  | y :: ys => by
    unfold insInt
    split
    · exact ((insInt_perm x ys).cons y).trans (.swap x y ys)
    · exact .refl _
theorem sortInt_perm : ∀ l, (sortInt l).Perm l
  | [] => .refl _
  | x :: xs => (insInt_perm x _).trans ((sortInt_perm xs).cons x)
theorem insInt_pw (x : Int) : ∀ {l : List Int}, l.Pairwise (· ≤ ·) → (insInt x l).Pairwise (· ≤ ·)
  | [], _ => List.pairwise_singleton _ _
  | y :: ys, h => by
    unfold insInt
    have hc := List.pairwise_cons.mp h
    split
    · rename_i q
      refine List.pairwise_cons.mpr ⟨fun z hz => ?_, insInt_pw x hc.2⟩
      rcases List.mem_cons.mp ((insInt_perm x ys).mem_iff.mp hz) with rfl | hz
      · omega
      · exact hc.1 z hz
    · rename_i q
      refine List.pairwise_cons.mpr ⟨fun z hz => ?_, h⟩
      rcases List.mem_cons.mp hz with rfl | hz
      · omega
      · have := hc.1 z hz; omega
theorem sortInt_pw : ∀ l, (sortInt l).Pairwise (· ≤ ·)
  | [] => .nil
  | x :: xs => insInt_pw x (sortInt_pw xs)
theorem sortInt_is {l ys : List Int} (p : ys.Perm l) (s : ys.Pairwise (· ≤ ·)) : ys = sortInt l :=
  srt_uniq (fun _ _ => Int.le_antisymm) s (sortInt_pw l) (p.trans (sortInt_perm l).symm)
end RF

set_option Elab.async false
set_option linter.all false
set_option maxRecDepth 100000
set_option maxHeartbeats 4000000
namespace RF
open PySem PySem.Spec PyProof.Rows L2

/-! ### len(set(xs)) of whole numbers -/
theorem ddI_mem_go (l : List Int) : ∀ acc : List Int, acc.Nodup → (l.foldl (fun acc x => if acc.any (· == x) then acc else acc ++ [x]) acc).Nodup ∧ ∀ k, k ∈ l.foldl (fun acc x => if acc.any (· == x) then acc else acc ++ [x]) acc ↔ k ∈ acc ∨ k ∈ l := by
  induction l with
  | nil => intro acc h; exact ⟨h, fun k => by simp⟩
  | cons a r ih =>
    intro acc h
    rw [List.foldl_cons]
    by_cases ha : acc.any (· == a) = true
    · rw [if_pos ha]
      obtain ⟨h1, h2⟩ := ih acc h
      refine ⟨h1, fun k => ?_⟩
      rw [h2]
      have : a ∈ acc := by simpa using ha
      constructor
      · rintro (h | h)
        · exact .inl h
        · exact .inr (List.mem_cons_of_mem _ h)
      · rintro (h | h)
        · exact .inl h
        · rcases List.mem_cons.mp h with rfl | h
          · exact .inl this
          · exact .inr h
    · rw [if_neg ha]
      have hna : a ∉ acc := by simpa using ha
      obtain ⟨h1, h2⟩ := ih (acc ++ [a]) (by
        rw [List.nodup_append]
        refine ⟨h, by simp, fun x hx y hy => ?_⟩
        simp at hy
        subst hy
        exact fun e => hna (e ▸ hx))
      refine ⟨h1, fun k => ?_⟩
      rw [h2]
      simp only [List.mem_append, List.mem_cons, List.not_mem_nil, or_false]
      constructor
      · rintro ((h | h) | h)
        · exact .inl h
        · exact .inr (.inl h)
        · exact .inr (.inr h)
      · rintro (h | h | h)
        · exact .inl (.inl h)
        · exact .inl (.inr h)
        · exact .inr h
theorem ddI_nodup (l : List Int) : (ddI l).Nodup := (ddI_mem_go l [] (by simp)).1
theorem ddI_mem {l : List Int} {k : Int} : k ∈ ddI l ↔ k ∈ l := by
  have := (ddI_mem_go l [] (by simp)).2 k
  simpa [ddI] using this
theorem nodup_same_len {α : Type} [DecidableEq α] {l m : List α} (hl : l.Nodup) (hm : m.Nodup) (h : ∀ k, k ∈ l ↔ k ∈ m) : l.length = m.length := ((List.perm_ext_iff_of_nodup hl hm).mpr h).length_eq
theorem ddI_first {ns : List Int} : firstMet (fun i => ns.getD i 0) ns.length = ddI ns := by
  unfold firstMet ddI
  have e : (List.range ns.length).map (fun i => ns.getD i 0) = ns := by
    apply List.ext_getElem
    · simp
    · intro i h1 h2
      simp [List.getD_eq_getElem?_getD, h2]
  rw [e]
  rfl
theorem intsAre_v : ∀ {ns : List Int} {us : List Value}, Vals (ns.map V.int) us → IntsAre us ns
  | [], _, .nil => .nil
  | n :: ns, _, .cons r t => by
    obtain ⟨k, rfl⟩ := r
    exact .cons n k (intsAre_v t)
theorem strsAre_v : ∀ {ns : List Str} {us : List Value}, Vals (ns.map V.str) us → StrsAre us ns
  | [], _, .nil => .nil
  | n :: ns, _, .cons r t => by
    obtain ⟨k, rfl⟩ := r
    exact .cons n k (strsAre_v t)
def tLenSetD (K : PySem.W.Frag) (ta : TE) : TE := fun σ H Q => ta σ H fun x H1 => ∃ (l : Addr) (ns : List Int), x = .ref l ∧ (SqL K H1 l (ns.map V.int) ∨ SqT K H1 l (ns.map V.int)) ∧ ns.length ≤ 4000 ∧ Q (.int ((ddI ns).length : Nat)) H1
theorem pe_lenSetD {X : Cx} {a : Expr} {ta : TE} {p p2 q pos : Pos} (hg : Gl X "len") (hm : X.mg "len" = none) (hg2 : Gl X "set") (hm2 : X.mg "set" = none) (ha : PE X a ta) (hc : X.calm = true)
    (na : starEach [a] X.env = (false, eval a X.env) :: starEach [] X.env) : PE X (.Call (.Name "len" p) [.Call (.Name "set" p2) [a] [] q] [] pos) (tLenSetD X.K ta) := by
  refine ⟨fun pins s σ H Q I h => ?_⟩
  refine Call_ (ld_blt I hg hm boot_len (callWith_builtin1 (args_cons ?_ rfl) rfl rfl))
  refine Call_ (ld_blt I hg2 hm2 boot_set (callWith_type1 (args_cons (thn (ha.run pins s σ H _ I h) fun v s1 ⟨x, H1, I1, r1, q1⟩ => args_nil ?_) na) na rfl))
  obtain ⟨l, ns, rfl, hq, hl, q1⟩ := q1
  cases r1
  rcases hq with hq | hq
  · obtain ⟨its, r, pl, hz⟩ := I1.list hq
    have hlen : its.toArray.size = ns.length := by rw [List.size_toArray, ← r.length, List.length_map]
    refine call_set_list (I1.ok.hd hc) pl.isList (by simpa using intsAre_v r) (by rw [hlen]; unfold scanBound; omega) fun h' tk hS hk => args_nil ?_
    rw [hlen, ddI_first] at hS
    obtain ⟨o, es, ep, t, ho, hex, hd, _, _, _, hf, hn⟩ := hS
    have I2 : Inv X pins σ H1 { s1 with heap := h', toks := tk } := I1.kept fun b o e => hk b o (Heap.lt_size e) e
    have hle : (ddI ns).length ≤ ns.length := by rw [← ddI_first]; exact firstMet_length_le _ _
    exact call_len_set ho hex hd hf (by rw [hn]; omega) ⟨.int ((ddI ns).length : Nat), H1, I2.tok _, ⟨_, by rw [hn]⟩, q1⟩
  · obtain ⟨its, r, pl, hz⟩ := I1.tuple hq
    refine call_set_tupI ns (I1.ok.hd hc) pl (by simpa using intsAre_v r) (by unfold scanBound; omega) fun h' tk c hS hcl hk => args_nil ?_
    obtain ⟨o, es, ep, t, ho, hex, hd, hg, hnd, hmem, hb, hf, hn, _, _⟩ := hS
    have I2 : Inv X pins σ H1 { s1 with heap := h', toks := tk } := I1.kept fun b o e => hk b o e
    have hcn : c = (ddI ns).length := by
      have := nodup_same_len hnd (ddI_nodup ns) fun k => by rw [← hmem, ddI_mem, decide_eq_true_eq]
      rw [List.length_map, Array.length_toList] at this
      omega
    exact call_len_set ho hex hd hf (by rw [hn]; omega) ⟨.int ((ddI ns).length : Nat), H1, I2.tok _, ⟨_, by rw [hn, hcn]⟩, q1⟩
/-! ### sorted of a tuple of whole numbers -/
theorem sorted_keeps {h : Heap} {a b : Addr} {vs : List Value} {out : Array Value} {o : Obj} (hb : b ≠ a) (e : h.get? b = some o) : (sortedHeap h a vs out).get? b = some o := by
  unfold sortedHeap
  rw [Heap.get?_update_ne _ _ _ _ hb]
  refine Heap.get?_push_of_some _ (Heap.get?_push_of_some _ ?_)
  rw [Heap.get?_update_ne _ _ _ _ hb]
  exact e
theorem sorted_place {h : Heap} {a : Addr} {vs its : List Value} {out : Array Value} {n : Nat} (e : h.get? a = some (seqObj "list" its.toArray n)) : ∃ c, (sortedHeap h a vs out).get? a = some (seqObj "list" out c) := by
  unfold sortedHeap
  obtain ⟨c, hc⟩ : ∃ c, (h.update a (Obj.mapSeq fun _ => #[])).get? a = some (seqObj "list" #[] c) := ⟨_, get?_update_seq e (fun _ => #[])⟩
  have h2 := Heap.get?_push_of_some (seqObj "list" #[] 0) (Heap.get?_push_of_some (seqObj "tuple" vs.toArray 0) hc)
  exact ⟨_, get?_update_seq h2 (fun _ => out)⟩
theorem sorted_ofTuple {prog : Program} {w : World} {A : Around} {E : Value → Shared → Prop} {s : Shared} {l : Addr} {vs : List Value} {ns : List Int} {Q : Value → Shared → Prop} (hl : s.heap.IsTuple l vs.toArray) (hi : IntsAre vs ns) (hz : vs.length ≤ sizeLine)
    (h : ∀ (out : List Value) (ms : List Int) (h0 h' : Heap) (p : Addr) (c : Nat), IntsAre out ms → ms.Perm ns → ms.Pairwise (· ≤ ·) → (∀ b o, s.heap.get? b = some o → h0.get? b = some o) → (∀ b o, h0.get? b = some o → h'.get? b = some o) → h0.objs.size ≤ p → h'.get? p = some (seqObj "list" out.toArray c) → Q (.ref p) { s with heap := h' }) :
    wpAny (model prog w) A (call (.builtin "sorted") [.ref l]) Q E s := by
  obtain ⟨o, ho, hc, n, hd⟩ := id hl
  refine Calls.call_function_entry kind_sorted plain_sorted entry_sorted (args_sorted1 _) ?_
  unfold Builtin.«sorted»
  refine wpAny_bind (m := checkCount "sorted" 1 1 _) (wpAny_pure (wpAny_bind (wpAny_collect_seq l (.inr rfl) ho hc hd (fun h0 k0 => ?_) (by rw [List.size_toArray]; exact hz))))
  have e0 : vs.toArray.toList = vs := by simp
  rw [e0]
  refine wpAny_bind (wpAny_newList ?_ hz)
  have hp : (h0.push (seqObj "list" vs.toArray 0)).get? h0.objs.size = some (seqObj "list" vs.toArray 0) := Heap.get?_push_size _ rfl
  have fin : ∀ out : List Value, SrtO.Srtd SrtO.ltIv out → SrtO.Stb SrtO.ltIv out vs → Q (.ref h0.objs.size) { s with heap := sortedHeap (h0.push (seqObj "list" vs.toArray 0)) h0.objs.size vs out.toArray } := fun out q1 q2 => by
    obtain ⟨k1, k2, k3⟩ := SrtO.ints_out hi q1 q2
    obtain ⟨c, hc⟩ := sorted_place (vs := vs) (out := out.toArray) hp
    exact h out _ h0 _ _ c k1 k2 k3 k0 (fun b u e => sorted_keeps (Nat.ne_of_lt (Heap.lt_size e)) (Heap.get?_push_of_some _ e)) (Nat.le_refl _) hc
  refine wpAny_bind (wpAny_holding (wpAny_call_entry slot_list_sort ⟨_, hp, rfl⟩ entry_list_sort (SrtO.list_sort_ord (s := { s with heap := h0.push (seqObj "list" vs.toArray 0) }) SrtO.swo_int hp hz (fun h2 => SrtO.ints_sortable hi h2) fun out q1 q2 => ⟨_, rfl, wpAny_pure ⟨_, rfl, fin out q1 q2⟩⟩) (args_list_sort _)))
def rSortedTI (K : PySem.W.Frag) : List V → Hp → VK → Prop := fun xs H Q => ∃ (a : Addr) (ns : List Int), xs = [.ref a] ∧ SqT K H a (ns.map V.int) ∧ ∀ (ms : List Int) (p : Addr), ms.Perm ns → ms.Pairwise (· ≤ ·) → H p = none → Q (.ref p) (upd H p (.lst (ms.map V.int)))
theorem cr_sortedTI {X : Cx} : CallR X (.builtin "sorted") (rSortedTI X.K) := by
  intro pins s σ H vs us Q I r ⟨a, ns, e, hs, q⟩
  subst e
  obtain ⟨its, rv, hl, hz⟩ := I.tuple hs
  rw [Vals.ref1 r]
  have hi := intsAre_v rv
  refine sorted_ofTuple hl hi (by rw [← rv.length]; exact hz) fun out ms h0 h' p c k1 k2 k3 k0 kk hp hob => ?_
  have I0 : Inv X pins σ H { s with heap := h0 } := I.kept (t' := s.toks) k0
  refine ⟨.ref p, upd H p (.lst (ms.map V.int)), I0.laid (t' := s.toks) kk hp ⟨by rw [List.length_map, k2.length_eq]; rw [List.length_map] at hz; exact hz, out, c, vals_of_ints k1, hob⟩, rfl, q ms p k2 k3 (I0.hok.fresh hp)⟩
end RF

set_option Elab.async false
set_option linter.all false
set_option maxRecDepth 100000
set_option maxHeartbeats 4000000
/-! RF2f: list(zip(..)) of any two sources. -/
namespace RF
open PySem PySem.Spec PyProof.Rows L2

namespace FZ
theorem no_len : typeLookup (.type "zip") "__len__" = pure none := by rw [typeLookup_type, builtinLookup_eq_fast]; kernel_rfl
theorem no_hint : typeLookup (.type "zip") "__length_hint__" = pure none := by rw [typeLookup_type, builtinLookup_eq_fast]; kernel_rfl
end FZ

/-- an object of ours that was not tracked is tracked from now on -/
theorem Inv.track {X : Cx} {pins : List (Addr × Obj)} {σ : L2.St} {H : Hp} {s : Shared} {S : Addr} {ob : HO} (I : L2.Inv X pins σ H s) (hf : FpOk X pins H S) (new : ObjOk X.prog X.w (upd H S ob) s.heap S ob) : L2.Inv X pins σ (upd H S ob) s := by
  have hn : H S = none := hf.1
  have I0 := I.step (h' := s.heap) (t' := s.toks) (H' := upd H S ob) (g' := s.gens) (d' := s.drawn) (ch := [S]) (fun b hb => by
      have e : b = S := by simpa using hb
      subst e
      exact ⟨hf.2.2.2.1, hf.2.1, hf.2.2.2.2.1, hf.2.2.2.2.2⟩) (fun b o _ _ hc e _ => e) (fun b o _ _ hc e _ => ⟨o.slots, e⟩)
    (fun b o hc e n => by rw [upd_ne (by simpa using hc)]; exact n) (fun b o hc e => ⟨o, e⟩) (fun b xs e => by rw [upd_ne (ne_of_none e hn)]; exact e) (fun b o u e => by rw [upd_ne (ne_of_none e hn)]; exact e)
    (fun b ps e => ⟨#[], by rw [upd_ne (ne_of_none e hn), e]; simp⟩) (fun m hm => hm) (fun b u e => ?_) I.bare
  · exact I0
  · by_cases hb : b = S
    · subst hb
      rw [upd_same] at e
      cases e
      exact new
    · rw [upd_ne hb] at e
      exact (I.hok b u e).stay (fun c v _ q => q) (fun c q => by rw [upd_ne (ne_of_none q hn)]; exact q) fun c xs q => by rw [upd_ne (ne_of_none q hn)]; exact q

/-- the pairs stand in H as tuples -/
def PairsAt (H : Hp) (vs : List V) (ps : List (V × V)) : Prop := vs.length = ps.length ∧ ∀ (j : Nat) (x y : V), ps[j]? = some (x, y) → ∃ T o, vs[j]? = some (.ref T) ∧ H T = some (.frz o (.tup [x, y])) ∧ o.dict = none
theorem PairsAt.nil (H : Hp) : PairsAt H [] [] := ⟨rfl, fun j x y h => by simp at h⟩
theorem PairsAt.snoc {H : Hp} {vs : List V} {ps : List (V × V)} {T : Addr} {x y : V} {o : Obj} (p : PairsAt H vs ps) (hT : H T = none) (hd : o.dict = none) : PairsAt (upd H T (.frz o (.tup [x, y]))) (vs ++ [.ref T]) (ps ++ [(x, y)]) := by
  obtain ⟨e, p⟩ := p
  refine ⟨by simp [e], fun j a b h => ?_⟩
  by_cases hj : j < ps.length
  · rw [List.getElem?_append_left hj] at h
    obtain ⟨U, oU, h1, h2, h3⟩ := p j a b h
    exact ⟨U, oU, by rw [List.getElem?_append_left (by omega)]; exact h1, by rw [upd_ne (ne_of_none h2 hT)]; exact h2, h3⟩
  · rw [List.getElem?_append_right (by omega)] at h
    by_cases hj2 : j - ps.length = 0
    · rw [hj2] at h
      simp only [List.getElem?_cons_zero, Option.some.injEq, Prod.mk.injEq] at h
      obtain ⟨rfl, rfl⟩ := h
      refine ⟨T, o, ?_, upd_same, hd⟩
      rw [List.getElem?_append_right (by omega), e, hj2]
      rfl
    · obtain ⟨m, hm⟩ := Nat.exists_eq_succ_of_ne_zero hj2
      rw [hm] at h
      simp at h

theorem zip_take_snoc {α β : Type} (xs : List α) (ys : List β) (i : Nat) (x : α) (y : β) (h1 : xs[i]? = some x) (h2 : ys[i]? = some y) : (xs.zip ys).take (i + 1) = (xs.zip ys).take i ++ [(x, y)] := by
  have hz : (xs.zip ys)[i]? = some (x, y) := by
    rw [List.getElem?_zip_eq_some]
    exact ⟨h1, h2⟩
  rw [List.take_add_one, hz]
  rfl

/-- the loop of list(zip(..)) -/
theorem zip_loop {X : Cx} {pins : List (Addr × Obj)} {σ : L2.St} {A : Around} (hh : A.handled = none) {z TI TO i1 i2 S : Addr} {k1 k2 : Sk} (D : ZAp z TI TO i1 i2 k1 k2) (hS : S ∉ [z, TI, TO, i1, i2]) (H0 : Hp)
    (ok1 : ∀ H', Kp H0 H' → k1.ok X.K H') (ok2 : ∀ H', Kp H0 H' → k2.ok X.K H') (hl : min k1.items.length k2.items.length ≤ sizeLine) {R : Result → Shared → Prop} {res : Value}
    (hR : ∀ s' H' vs acc c, L2.Inv X pins σ H' s' → FpOk X pins H' S → Same H0 H' → s'.heap.get? S = some { cls := .type "list", dict := none, data := .seq acc c, slots := #[] } → Vals vs acc.toList → PairsAt H' vs (k1.items.zip k2.items) → R (.ok (.ret res)) s') :
    ∀ (m i : Nat) (s : Shared) (H : Hp) (vs : List V) (acc : Array Value) (c : Nat), min k1.items.length k2.items.length - i = m → i ≤ min k1.items.length k2.items.length → L2.Inv X pins σ H s → Same H0 H → (∀ b ∈ [z, TI, TO, i1, i2, S], FpOk X pins H b) →
      ((∃ f0 f1, IsZipG s.heap z TI TO f0 f1 ∧ OkF f0) ∧ IsTupOf2 s.heap TI (.ref i1) (.ref i2) ∧ (∃ x y, IsTupOf2 s.heap TO x y) ∧ k1.it i1 i s.heap ∧ k2.it i2 i s.heap) →
      s.heap.get? S = some { cls := .type "list", dict := none, data := .seq acc c, slots := #[] } → Vals vs acc.toList → PairsAt H vs ((k1.items.zip k2.items).take i) →
      codeAny (model X.prog X.w) A (.builtin "list.extend.loop" ⟨[.ref S, .ref z, res], []⟩) R s := by
  have hne : ∀ b ∈ [z, TI, TO, i1, i2], b ≠ S := fun b hb q => hS (by rw [← q]; exact hb)
  intro m
  induction m with
  | zero =>
    intro i s H vs acc c hm hi I sm hf st hg hv hp
    obtain ⟨⟨f0, f1, hz, hok⟩, hTI, ⟨x0, y0, hTO⟩, h1, h2⟩ := st
    have hA : A.in1.in1.handled = none := hh
    obtain ⟨fp1, P1, St1, D1, m1, n1, s1, u1, v1⟩ := k1.draws I (ok1 _ (Kp.of_same sm)) hA i1 (D.o1 i1 (by simp))
    obtain ⟨fp2, P2, St2, D2, m2, n2, s2, u2, v2⟩ := k2.draws I (ok2 _ (Kp.of_same sm)) hA i2 (D.o2 i2 (by simp))
    have Se := D.sep m1 m2 (fun b hb hn => (n1 b hb hn).2) fun b hb hn => (n2 b hb hn).2
    refine codeAny_builtin F.entry_extend_loop ?_
    rw [Around.under_plainId F.plain_extend_loop _]
    show wpAny _ A.in1 (pyNext (.ref z) >>= _) _ _ s
    refine wpAny_bind (pyNext_zipG_end Se D1 D2 hz hok hTI hTO (s1 i h1) (s2 i h2) (by omega) (by omega) (by omega) fun h' tk hk => ?_)
    have kS : h'.get? S = _ := hk S _ (Ne.symm (hne z (by simp))) (Ne.symm (hne TO (by simp))) (Ne.symm (hne i1 (by simp))) (Ne.symm (hne i2 (by simp))) hg
    have I1 : L2.Inv X pins σ H { s with heap := h', toks := tk } := I.turnedL (t' := tk) (ch := [z, TI, TO, i1, i2]) (fun b o hb q =>
      hk b o (fun q' => hb (by simp [q'])) (fun q' => hb (by simp [q'])) (fun q' => hb (by simp [q'])) (fun q' => hb (by simp [q'])) q) fun b hb => hf b (List.mem_append_left [S] hb)
    have et : (k1.items.zip k2.items).take i = k1.items.zip k2.items := List.take_of_length_le (by rw [List.length_zip]; omega)
    rw [et] at hp
    exact wpAny_pure (hR _ H vs acc c I1 (hf S (by simp)) sm kS hv hp)
  | succ m ih =>
    intro i s H vs acc c hm hi I sm hf st hg hv hp
    obtain ⟨⟨f0, f1, hz, hok⟩, hTI, ⟨x0, y0, hTO⟩, h1, h2⟩ := st
    have hA : A.in1.in1.handled = none := hh
    obtain ⟨fp1, P1, St1, D1, m1, n1, s1, u1, v1⟩ := k1.draws I (ok1 _ (Kp.of_same sm)) hA i1 (D.o1 i1 (by simp))
    obtain ⟨fp2, P2, St2, D2, m2, n2, s2, u2, v2⟩ := k2.draws I (ok2 _ (Kp.of_same sm)) hA i2 (D.o2 i2 (by simp))
    have Se := D.sep m1 m2 (fun b hb hn => (n1 b hb hn).2) fun b hb hn => (n2 b hb hn).2
    refine codeAny_builtin F.entry_extend_loop ?_
    rw [Around.under_plainId F.plain_extend_loop _]
    show wpAny _ A.in1 (pyNext (.ref z) >>= _) _ _ s
    refine wpAny_bind (pyNext_zipG_item Se D1 D2 hz hok hTI hTO (s1 i h1) (s2 i h2) (by omega) (by omega) fun x1 x2 h' tk g0 g1 p1 p2 z' ok' to' t1' t2' hT hsz hk => ?_)
    obtain ⟨x, ex, rx⟩ := v1 i x1 p1
    obtain ⟨y, ey, ry⟩ := v2 i x2 p2
    have kS : h'.get? S = _ := hk S _ (Ne.symm (hne z (by simp))) (Ne.symm (hne TO (by simp))) (Ne.symm (hne i1 (by simp))) (Ne.symm (hne i2 (by simp))) hg
    have hSl : S < s.heap.objs.size := Heap.lt_size hg
    have hzl : z < s.heap.objs.size := Heap.lt_size hz
    have lts : ∀ b ∈ [z, TI, TO, i1, i2, S], b < s.heap.objs.size := fun b hb => by
      have e' : b = z ∨ b = TI ∨ b = TO ∨ b = i1 ∨ b = i2 ∨ b = S := by simpa using hb
      rcases e' with q | q | q | q | q | q
      · rw [q]; exact hzl
      · rw [q]; exact Heap.lt_size hTI
      · rw [q]; exact Heap.lt_size hTO
      · rw [q]; obtain ⟨_, e1, _⟩ := Sk.it_obj h1; exact Heap.lt_size e1
      · rw [q]; obtain ⟨_, e2, _⟩ := Sk.it_obj h2; exact Heap.lt_size e2
      · rw [q]; exact hSl
    have ha : acc.size = i := by
      have e1 := hv.length
      have e2 := hp.1
      rw [List.length_take, List.length_zip] at e2
      simp at e1
      omega
    have line : i < sizeLine := by omega
    refine wpAny_bind ?_
    refine wpAny_updateSeq kS rfl (wpAny_pure ⟨plainId_quiet F.plain_extend_loop _, ?_⟩) (by rw [ha]; omega) (by show (acc.push _).size ≤ sizeLine + 1; rw [Array.size_push, ha]; omega)
    have hSn : S ≠ s.heap.objs.size := Nat.ne_of_lt hSl
    have keep3 : ∀ b o, b ≠ S → h'.get? b = some o → (h'.update S (Obj.mapSeq (·.push (.ref s.heap.objs.size)))).get? b = some o := fun b o hb e => (Heap.get?_update_other _ _ (Ne.symm hb)).trans e
    have new : ObjOk X.prog X.w (upd H s.heap.objs.size (.frz { cls := .type "tuple", data := .seq #[x1, x2] } (.tup [x, y]))) (h'.update S (Obj.mapSeq (·.push (.ref s.heap.objs.size)))) s.heap.objs.size (.frz { cls := .type "tuple", data := .seq #[x1, x2] } (.tup [x, y])) :=
      ⟨keep3 _ _ (Ne.symm hSn) hT, by show 2 ≤ sizeLine; decide, [x1, x2], .cons rx (.cons ry .nil), ⟨_, keep3 _ _ (Ne.symm hSn) hT, rfl, _, rfl⟩⟩
    have I1 : L2.Inv X pins σ (upd H s.heap.objs.size (.frz { cls := .type "tuple", data := .seq #[x1, x2] } (.tup [x, y]))) { s with heap := h'.update S (Obj.mapSeq (·.push (.ref s.heap.objs.size))), toks := tk } :=
      I.turnedNew (t' := tk) (ch := [z, TI, TO, i1, i2, S]) (fun b o hb q => keep3 b o (fun q' => hb (by simp [q'])) (hk b o (fun q' => hb (by simp [q'])) (fun q' => hb (by simp [q'])) (fun q' => hb (by simp [q'])) (fun q' => hb (by simp [q'])) q)) hf (Nat.le_refl _) new
    obtain ⟨b1, b2, to'⟩ := to'
    have hn : H s.heap.objs.size = none := I.hok.fresh (Nat.le_refl _)
    refine ih (i + 1) _ (upd H s.heap.objs.size (.frz { cls := .type "tuple", data := .seq #[x1, x2] } (.tup [x, y]))) (vs ++ [.ref s.heap.objs.size]) (acc.push (.ref s.heap.objs.size)) _ (by omega) (by omega) I1 (fun b o e => same_new hn b o (sm b o e)) (fun b hb => ?_)
      ⟨⟨g0, g1, keep3 _ _ (hne z (by simp)) z', ok'⟩, keep3 _ _ (hne TI (by simp)) (hk _ _ Se.TIz Se.TITO Se.TIi1 Se.TIi2 hTI), ⟨b1, b2, keep3 _ _ (hne TO (by simp)) to'⟩,
        Sk.it_keep (u1 _ _ t1') fun o q => keep3 _ o (hne i1 (by simp)) q, Sk.it_keep (u2 _ _ t2') fun o q => keep3 _ o (hne i2 (by simp)) q⟩
      (Heap.get?_update_self _ kS rfl) ?_ ?_
    · obtain ⟨a1, a2⟩ := hf b hb
      exact ⟨by rw [upd_ne (Nat.ne_of_lt (lts b hb))]; exact a1, a2⟩
    · rw [Array.toList_push]
      exact hv.append (.cons rfl .nil)
    · rw [zip_take_snoc _ _ i x y ex ey]
      exact hp.snoc hn rfl

/-- list(z) of a zip that stands at its beginning -/
theorem call_list_zip {X : Cx} {pins : List (Addr × Obj)} {σ : L2.St} {s : Shared} {H : Hp} {z TI TO i1 i2 : Addr} {k1 k2 : Sk} {Q : VK} {E : Value → Shared → Prop} (hc : X.calm = true) (nd : [z, TI, TO, i1, i2].Nodup) (o1 : ∀ b ∈ [z, TI, TO, i1, i2], k1.off b) (o2 : ∀ b ∈ [z, TI, TO, i1, i2], k2.off b)
    (ok1 : ∀ H', Kp H H' → k1.ok X.K H') (ok2 : ∀ H', Kp H H' → k2.ok X.K H') (hl : min k1.items.length k2.items.length ≤ sizeLine) (I : L2.Inv X pins σ H s) (hf : ∀ b ∈ [z, TI, TO, i1, i2], FpOk X pins H b)
    (hz : ∃ f0 f1, IsZipG s.heap z TI TO f0 f1 ∧ OkF f0) (hTI : IsTupOf2 s.heap TI (.ref i1) (.ref i2)) (hTO : ∃ x y, IsTupOf2 s.heap TO x y) (h1 : k1.it i1 0 s.heap) (h2 : k2.it i2 0 s.heap)
    (q : ∀ (H' : Hp) (vs : List V) (S : Addr), Same H H' → PairsAt H' vs (k1.items.zip k2.items) → H' S = none → Q (.ref S) (upd H' S (.lst vs))) :
    wpAny (model X.prog X.w) X.A (call (.type "list") [.ref z]) (EP X pins σ Q) E s := by
  obtain ⟨f0, f1, hz, hok⟩ := hz
  have zl : z < s.heap.objs.size := Heap.lt_size hz
  have hSz : s.heap.objs.size ≠ z := Nat.ne_of_gt zl
  have it1 : i1 < s.heap.objs.size := by obtain ⟨_, e1, _⟩ := Sk.it_obj h1; exact Heap.lt_size e1
  have it2 : i2 < s.heap.objs.size := by obtain ⟨_, e2, _⟩ := Sk.it_obj h2; exact Heap.lt_size e2
  have lts : ∀ b ∈ [z, TI, TO, i1, i2], b < s.heap.objs.size := fun b hb => by
    obtain ⟨x, y, hTO⟩ := hTO
    have e' : b = z ∨ b = TI ∨ b = TO ∨ b = i1 ∨ b = i2 := by simpa using hb
    rcases e' with q | q | q | q | q <;> rw [q]
    · exact zl
    · exact Heap.lt_size hTI
    · exact Heap.lt_size hTO
    · exact it1
    · exact it2
  have hSm : s.heap.objs.size ∉ [z, TI, TO, i1, i2] := fun hm => Nat.lt_irrefl _ (lts _ hm)
  have fS : FpOk X pins H s.heap.objs.size := I.fpOk (Nat.le_refl _) (I.hok.fresh (Nat.le_refl _))
  have hd : X.A.handled = none := I.ok.hd hc
  refine callType_codes (Q₁ := fun obj s₁ => obj = .ref s.heap.objs.size ∧ s₁ = { s with heap := s.heap.push { cls := .type "list", data := .seq #[] } }) F.called_list (F.typeCall_list_1 _) F.entry_list_init
    (code_list_new _ ⟨rfl, rfl⟩) fun obj s₁ e₁ => ?_
  obtain ⟨rfl, rfl⟩ := e₁
  have g0 : (s.heap.push { cls := .type "list", data := .seq #[] }).get? s.heap.objs.size = some { cls := .type "list", data := .seq #[] } := Heap.get?_push_size _ rfl
  refine ⟨⟨_, g0, rfl⟩, F.args_list_init_2 _ _, ?_⟩
  show wpAny _ X.A.in1.in1 (Builtin.List.listItems (.ref s.heap.objs.size) >>= fun old => Builtin.List.listUpdate (.ref s.heap.objs.size) (fun _ => #[]) >>= fun _ => letGo old.toList.reverse >>= fun _ => Builtin.List.listExtendWith (.ref s.heap.objs.size) (.ref z) .none) _ _ _
  refine wpAny_bind ?_
  unfold Builtin.List.listItems
  refine wpAny_bind (wpAny_seqItems g0 rfl (wpAny_pure ?_))
  show wpAny _ X.A.in1.in1 (updateSeq s.heap.objs.size (fun _ => #[]) >>= fun _ => letGo (#[] : Array Value).toList.reverse >>= fun _ => Builtin.List.listExtendWith (.ref s.heap.objs.size) (.ref z) .none) _ _ _
  refine wpAny_bind (wpAny_updateSeq g0 rfl ?_)
  have g1 := Heap.get?_update_self (Obj.mapSeq (fun _ => (#[] : Array Value))) g0 rfl
  refine wpAny_bind (wpAny_letGo ?_)
  have up : ∀ (h : Heap) (f : Obj → Obj), (∀ b o, s.heap.get? b = some o → h.get? b = some o) → ∀ b o, s.heap.get? b = some o → (h.update s.heap.objs.size f).get? b = some o := fun h f k b o e =>
    (Heap.get?_update_other _ _ (Ne.symm (Nat.ne_of_lt (Heap.lt_size e)))).trans (k b o e)
  have k1' : ∀ b o, s.heap.get? b = some o → (s.heap.push { cls := .type "list", data := .seq #[] }).get? b = some o := fun b o e => Heap.get?_push_of_some _ e
  have k2' := up _ (Obj.mapSeq (fun _ => (#[] : Array Value))) k1'
  have ty : ∀ {h : Heap}, (∀ b o, s.heap.get? b = some o → h.get? b = some o) → ({ s with heap := h } : Shared).TypeIs (.ref z) "zip" := fun {h} k => ⟨_, k _ _ hz, rfl⟩
  unfold Builtin.List.listExtendWith
  refine wpAny_bind (wpAny_typeOf (ty k2') ?_)
  have t1 : Builtin.List.listSameRef (.ref s.heap.objs.size) (.ref z) = false := by simp [Builtin.List.listSameRef, hSz]
  have t2 : (Value.type "zip" == Value.type "list") = false := by decide
  have t3 : (Value.type "zip" == Value.type "tuple") = false := by decide
  simp only [t1, t2, t3, Bool.or_false, Bool.false_eq_true, if_false]
  refine wpAny_bind (wpAny_pyIter_slot (ty k2') PySem.F.slot_zip_iter (wpAny_call_entry PySem.F.slot_zip_iter (ty k2') PySem.F.entry_zip_iter ?_ (PySem.F.args_zip_iter_1 _)))
  refine wpAny_pure ⟨_, rfl, "zip", _, ty k2', PySem.F.slot_zip_next.lookup, ?_⟩
  refine wpAny_bind (wpAny_holding ?_)
  unfold Builtin.List.listLengthHint
  refine wpAny_bind (wpAny_specialOf (ty k2') FZ.no_len ?_)
  show wpAny _ X.A.in1.in1 (specialOf (Value.ref z) (Str.ofString "__length_hint__") >>= _) _ _ _
  refine wpAny_bind (wpAny_specialOf (ty k2') FZ.no_hint ?_)
  refine wpAny_pure ?_
  show wpAny _ X.A.in1.in1 (rule "list.extend.makes-room" >>= fun _ => Builtin.List.listTouch (.ref s.heap.objs.size) >>= fun _ => again (.builtin "list.extend.loop" ⟨[.ref s.heap.objs.size, .ref z, .none], []⟩)) _ _ _
  refine wpAny_bind (wpAny_rule ?_)
  refine wpAny_bind ?_
  show wpAny _ X.A.in1.in1 (updateSeq s.heap.objs.size (·.push .none) >>= fun _ => updateSeq s.heap.objs.size (·.pop)) _ _ _
  refine wpAny_bind (wpAny_updateSeq g1 rfl ?_)
  have g2 := Heap.get?_update_self (Obj.mapSeq (·.push Value.none)) g1 rfl
  have k3' := up _ (Obj.mapSeq (·.push Value.none)) k2'
  refine wpAny_updateSeq g2 rfl ?_
  have g3 := Heap.get?_update_self (Obj.mapSeq (·.pop)) g2 rfl
  have k4' := up _ (Obj.mapSeq (·.pop)) k3'
  refine wpAny_pure ⟨plainId_quiet F.plain_extend_loop _, ?_⟩
  obtain ⟨x0, y0, hTO⟩ := hTO
  refine zip_loop (A := X.A.in1) hd ⟨nd, o1, o2⟩ hSm H ok1 ok2 hl (fun s' H' vs acc c J fp sm gS hv hp => ?_) _ 0 _ H [] _ _ rfl (Nat.zero_le _) (I.kept (t' := s.toks) k4') (fun _ _ e => e) (fun b hb => ?_)
    ⟨⟨f0, f1, k4' _ _ hz, hok⟩, k4' _ _ hTI, ⟨x0, y0, k4' _ _ hTO⟩, Sk.it_keep h1 fun o e => k4' _ o e, Sk.it_keep h2 fun o e => k4' _ o e⟩ g3 .nil (PairsAt.nil H)
  · refine ⟨rfl, ?_⟩
    have hn : vs.length ≤ sizeLine := by
      rw [hp.1, List.length_zip]
      exact hl
    exact ⟨.ref s.heap.objs.size, _, Inv.track (ob := .lst vs) J fp ⟨hn, acc.toList, c, hv, by rw [Array.toArray_toList]; exact gS⟩, rfl, q H' vs _ sm hp fp.1⟩
  · rcases List.mem_append.mp (show b ∈ [z, TI, TO, i1, i2] ++ [s.heap.objs.size] from hb) with hb | hb
    · exact hf b hb
    · have e : b = s.heap.objs.size := by simpa using hb
      rw [e]
      exact fS
def tLstZip (K : PySem.W.Frag) (ta : TA) : TE := fun σ H Q => ta σ H fun vs H1 => ∃ x y xs ys, vs = [x, y] ∧ SkV K H1 x xs ∧ SkV K H1 y ys ∧ min xs.length ys.length ≤ sizeLine ∧
  ∀ (H' : Hp) (zs : List V) (S : Addr), Same H1 H' → PairsAt H' zs (xs.zip ys) → H' S = none → Q (.ref S) (upd H' S (.lst zs))
theorem pe_listZip {X : Cx} {e e2 : Expr} {ta : TA} {p pos p2 pos2 : Pos} (hc : X.calm = true) (hgl : Gl X "list") (hml : X.mg "list" = none) (hg : Gl X "zip") (hm : X.mg "zip" = none) (ha : PA X [e, e2] ta)
    (hs : starEach [e, e2] X.env = (false, eval e X.env) :: starEach [e2] X.env) (hpl : (backTo pos2 (starEach [e2] X.env)).any (·.1) = false) :
    PE X (.Call (.Name "list" p) [.Call (.Name "zip" p2) [e, e2] [] pos2] [] pos) (tLstZip X.K ta) := by
  have na : starEach [.Call (.Name "zip" p2) [e, e2] [] pos2] X.env = (false, eval (.Call (.Name "zip" p2) [e, e2] [] pos2) X.env) :: starEach [] X.env := rfl
  refine ⟨fun pins s σ H Q I h => ?_⟩
  refine Call_ (ld_blt I hgl hml boot_list (PyProof.Rows.callWith_type1 (args_cons ?_ na) na))
  refine Call_ (ld_blt I hg hm PyProof.Rows.boot_zip (PyProof.Rows.callWith_type1 (thn (ha.run pos2 pins s σ H _ I h) fun us s1 ⟨vs, H1, I1, r1, q1⟩ => ?_) hs hpl))
  obtain ⟨x, y, xs, ys, rfl, sx, sy, hl, q⟩ := q1
  obtain ⟨u1, u2, rfl, r1, r2⟩ := vals2 r1
  obtain ⟨k1, e1, ok1, rfl, off1, pl1⟩ := sx.sk r1 I1
  obtain ⟨k2, e2, ok2, rfl, off2, pl2⟩ := sy.sk r2 I1
  obtain ⟨o1, Hb1, B1, hb1, st1⟩ := k1.begins pl1 I1 (ok1 _ (Kp.refl _))
  obtain ⟨o2, Hb2, B2, hb2, st2⟩ := k2.begins pl2 I1 (ok2 _ (Kp.refl _))
  subst e1 e2
  refine zip_begins2 B1 B2 hb1 hb2 fun h' hz hTI hTO g1 g2 hsz hk => args_nil ?_
  have I2 : L2.Inv X pins σ H1 { s1 with heap := h' } := I1.kept (t' := s1.toks) hk
  have new : ∀ c, c ∈ [s1.heap.objs.size + 4, s1.heap.objs.size + 2, s1.heap.objs.size + 3, s1.heap.objs.size, s1.heap.objs.size + 1] → s1.heap.objs.size ≤ c := fun c hc => by
    simp only [List.mem_cons, List.not_mem_nil, or_false] at hc
    rcases hc with rfl | rfl | rfl | rfl | rfl
    · exact Nat.le_add_right _ _
    · exact Nat.le_add_right _ _
    · exact Nat.le_add_right _ _
    · exact Nat.le_refl _
    · exact Nat.le_add_right _ _
  have nd : [s1.heap.objs.size + 4, s1.heap.objs.size + 2, s1.heap.objs.size + 3, s1.heap.objs.size, s1.heap.objs.size + 1].Nodup := by
    generalize s1.heap.objs.size = n
    simp only [List.nodup_cons, List.mem_cons, List.not_mem_nil, not_or, or_false, not_false_eq_true, and_true, List.nodup_nil]
    omega
  exact call_list_zip hc nd (fun b hb => off1 b (new b hb)) (fun b hb => off2 b (new b hb)) ok1 ok2 hl I2 (fun b hb => I1.fpOk (new b hb) (I1.hok.fresh (new b hb))) ⟨_, _, hz, .inl rfl⟩ hTI ⟨_, _, hTO⟩ (st1 _ _ g1) (st2 _ _ g2) q
end RF

set_option Elab.async false
set_option linter.all false
set_option maxRecDepth 100000
set_option maxHeartbeats 4000000
/-! RF2g: sorted of a list of tuples of whole numbers; enumerate from a count. -/
namespace RF
open PySem PySem.Spec PyProof.Rows L2

/-! ### rows of whole numbers, item by item -/
theorem lexL_asym : ∀ x y, lexL x y = true → lexL y x = false
  | [], [], h => by cases h
  | [], _ :: _, _ => rfl
  | _ :: _, [], h => by cases h
  | x :: xs, y :: ys, h => by
    unfold lexL at h ⊢
    by_cases e : x = y
    · rw [if_pos e] at h
      rw [if_pos e.symm]
      exact lexL_asym xs ys h
    · rw [if_neg e] at h
      rw [if_neg (Ne.symm e)]
      have := of_decide_eq_true h
      exact decide_eq_false (by omega)
theorem lexL_tr : ∀ x y z, lexL y x = false → lexL z y = false → lexL z x = false
  | [], [], [], _, _ => rfl
  | [], [], _ :: _, _, _ => rfl
  | [], _ :: _, [], _, h => by cases h
  | [], _ :: _, _ :: _, _, _ => rfl
  | _ :: _, [], _, h, _ => by cases h
  | _ :: _, _ :: _, [], _, h => by cases h
  | x :: xs, y :: ys, z :: zs, h1, h2 => by
    unfold lexL at h1 h2 ⊢
    by_cases e1 : y = x
    · rw [if_pos e1] at h1
      by_cases e2 : z = y
      · rw [if_pos e2] at h2
        rw [if_pos (e2.trans e1)]
        exact lexL_tr xs ys zs h1 h2
      · rw [if_neg e2] at h2
        have := of_decide_eq_false h2
        rw [if_neg (fun e => e2 (e.trans e1.symm))]
        exact decide_eq_false (by omega)
    · rw [if_neg e1] at h1
      have h1 := of_decide_eq_false h1
      by_cases e2 : z = y
      · rw [if_neg (fun e => e1 (e2.symm.trans e))]
        exact decide_eq_false (by omega)
      · rw [if_neg e2] at h2
        have h2 := of_decide_eq_false h2
        rw [if_neg (fun e => by omega)]
        exact decide_eq_false (by omega)
theorem lexL_swo : SrtO.Swo lexL := ⟨lexL_asym, lexL_tr⟩
theorem lexL_eq : ∀ x y, lexL x y = false → lexL y x = false → x = y
  | [], [], _, _ => rfl
  | [], _ :: _, h, _ => by cases h
  | _ :: _, [], _, h => by cases h
  | x :: xs, y :: ys, h1, h2 => by
    unfold lexL at h1 h2
    by_cases e : x = y
    · rw [if_pos e] at h1
      rw [if_pos e.symm] at h2
      rw [e, lexL_eq xs ys h1 h2]
    · rw [if_neg e] at h1
      rw [if_neg (Ne.symm e)] at h2
      have h1 := of_decide_eq_false h1
      have h2 := of_decide_eq_false h2
      omega
theorem insL_perm (x : List Int) : ∀ l, (insL x l).Perm (x :: l)
  | [] => .refl _
  | y :: ys => by
    unfold insL
    split
    · exact ((insL_perm x ys).cons y).trans (.swap x y ys)
    · exact .refl _
theorem sortL_perm : ∀ l, (sortL l).Perm l
  | [] => .refl _
  | x :: xs => (insL_perm x _).trans ((sortL_perm xs).cons x)
theorem insL_pw (x : List Int) : ∀ {l : List (List Int)}, SrtO.Srtd lexL l → SrtO.Srtd lexL (insL x l)
  | [], _ => List.pairwise_singleton _ _
  | y :: ys, h => by
    unfold insL
    have hc := List.pairwise_cons.mp h
    split
    · rename_i q
      refine List.pairwise_cons.mpr ⟨fun z hz => ?_, insL_pw x hc.2⟩
      rcases List.mem_cons.mp ((insL_perm x ys).mem_iff.mp hz) with rfl | hz
      · exact lexL_asym _ _ q
      · exact hc.1 z hz
    · rename_i q
      have q : lexL y x = false := by simpa using q
      refine List.pairwise_cons.mpr ⟨fun z hz => ?_, h⟩
      rcases List.mem_cons.mp hz with rfl | hz
      · exact q
      · exact lexL_tr x y z q (hc.1 z hz)
theorem sortL_pw : ∀ l, SrtO.Srtd lexL (sortL l)
  | [] => .nil
  | x :: xs => insL_pw x (sortL_pw xs)
theorem sortL_uniq : ∀ {l m : List (List Int)}, SrtO.Srtd lexL l → SrtO.Srtd lexL m → l.Perm m → l = m
  | [], m, _, _, h => (List.Perm.eq_nil h.symm).symm
  | x :: l, [], _, _, h => absurd h.length_eq (by simp)
  | x :: l, y :: m, hl, hm, h => by
    have cl := List.pairwise_cons.mp hl
    have cm := List.pairwise_cons.mp hm
    have e : x = y := by
      rcases List.mem_cons.mp (h.mem_iff.mp (List.mem_cons_self (a := x) (l := l))) with e | h1
      · exact e
      · rcases List.mem_cons.mp (h.mem_iff.mpr (List.mem_cons_self (a := y) (l := m))) with e | h2
        · exact e.symm
        · exact lexL_eq x y (cm.1 x h1) (cl.1 y h2)
    subst e
    rw [sortL_uniq cl.2 cm.2 ((List.perm_cons x).mp h)]
theorem sortL_is {l ys : List (List Int)} (p : ys.Perm l) (s : SrtO.Srtd lexL ys) : ys = sortL l := sortL_uniq s (sortL_pw l) (p.trans (sortL_perm l).symm)

/-! ### sorted of a list of tuples of whole numbers -/
section
variable {prog : Program} {w : World} {A : Around} {E : Value → Shared → Prop} {s : Shared}
theorem lexL_kat {b : Bool} {Q : Bool → Shared → Prop} {xs : List Value} {ns : List Int} (hx : IntsAre xs ns) : ∀ {ys : List Value} {ms : List Int} (i : Nat) (fin : Bool), IntsAre ys ms → fin = decide (ns.length < ms.length) → Q (lexL ns ms) s →
    PySem.W.KatLex prog w A b fin Q (xs.zip ys) i s := by
  induction hx with
  | nil =>
    intro ys ms i fin hy hf h
    cases hy with
    | nil => subst hf; exact PySem.W.kat_nil h
    | cons q u hy => subst hf; exact PySem.W.kat_nil h
  | @cons p t xs ns hx ih =>
    intro ys ms i fin hy hf h
    cases hy with
    | nil => subst hf; exact PySem.W.kat_nil h
    | @cons q u ys ms hy =>
      show PySem.W.KatLex prog w A b fin Q ((Value.int p t, Value.int q u) :: xs.zip ys) i s
      refine PySem.W.kat_cons (wpAny_eqBool_int ?_)
      have hf' : fin = decide (ns.length < ms.length) := by rw [hf]; exact decide_eq_decide.mpr (by rw [List.length_cons, List.length_cons]; omega)
      by_cases e : p = q
      · subst e
        rw [beq_self_eq_true]
        unfold lexL at h
        rw [if_pos rfl] at h
        exact PySem.W.kat_yes (ih (i + 1) fin hy hf' h)
      · rw [show (p == q) = false from beq_eq_false_iff_ne.mpr e]
        unfold lexL at h
        rw [if_neg e] at h
        exact PySem.W.kat_no (TS.oneLt_ints _ h)
theorem tupsL_cmp {vs : List Value} {k : Value → List Int} (hp : ∀ v ∈ vs, TS.TupInts s.heap v (k v)) : SrtO.Cmp prog w A s (tuples' true) (fun p => p.1 ∈ vs) (SrtO.lt2 fun v u => lexL (k v) (k u)) := by
  intro p q hm hm'
  obtain ⟨a, xs, e, ⟨o, ho, hc, n, hd⟩, hi⟩ := hp _ hm
  obtain ⟨a', xs', e', ⟨o', ho', hc', n', hd'⟩, hi'⟩ := hp _ hm'
  show wpAny (model prog w) A (keyLt' (tuples' true) p.1 q.1) (fun r s' => s' = s ∧ r = lexL (k p.1) (k q.1)) (fun _ _ => False) s
  generalize k p.1 = ns at hi ⊢
  generalize k q.1 = ms at hi' ⊢
  rw [e, e']
  refine PySem.W.kat_lt ho hd ho' hd' (lexL_kat hi 0 _ hi' ?_ ⟨rfl, rfl⟩)
  rw [← hi.length, ← hi'.length, Array.length_toList, Array.length_toList]
theorem tupsL_firsts {h : Heap} {k : Value → List Int} : ∀ {vs : List Value}, (∀ v ∈ vs, TS.TupInts h v (k v) ∧ k v ≠ []) → ∃ fs : List Value, PySem.W.KatTups h vs fs ∧ fs.length = vs.length ∧ ∀ f ∈ fs, ∃ x t, f = Value.int x t
  | [], _ => ⟨[], PySem.W.KatTups.nil, rfl, fun _ hm => by simp at hm⟩
  | v :: vs, hp => by
    obtain ⟨fs, h1, h2, h3⟩ := tupsL_firsts (vs := vs) fun v' hm => hp v' (List.mem_cons_of_mem _ hm)
    obtain ⟨⟨a, xs, e, ⟨o, ho, hc, n, hd⟩, hi⟩, hne⟩ := hp v (List.mem_cons_self ..)
    subst e
    generalize k (.ref a) = ns at hi hne
    obtain ⟨l⟩ := xs
    cases hi with
    | nil => exact absurd rfl hne
    | @cons x t us ns hu =>
      refine ⟨.int x t :: fs, PySem.W.KatTups.cons ho hc hd rfl h1, by rw [List.length_cons, List.length_cons, h2], fun f hm => ?_⟩
      rcases List.mem_cons.mp hm with rfl | hm
      · exact ⟨x, t, rfl⟩
      · exact h3 f hm
theorem tupsL_sortable {a : Addr} {vs : List Value} {k : Value → List Int} (h0 : 0 < vs.length) (hp : ∀ v ∈ vs, TS.TupInts s.heap v (k v) ∧ k v ≠ []) (ha : ∀ o, s.heap.get? a = some o → o.cls ≠ .type "tuple") : SrtO.SortableO prog w A s a vs fun v u => lexL (k v) (k u) := by
  intro h' keep
  have hp' : ∀ v ∈ vs, TS.TupInts h' v (k v) ∧ k v ≠ [] := fun v hm => ⟨(hp v hm).1.keeps fun b o e c => keep b o (fun z => by subst z; exact ha o e c) e, (hp v hm).2⟩
  obtain ⟨fs, h1, h2, h3⟩ := tupsL_firsts hp'
  refine ⟨tuples' true, fun Q E hq => ?_, tupsL_cmp fun v hm => (hp' v hm).1⟩
  refine PySem.W.kat_kind (T := .type "int") h1 (by omega) (fun f hm => ?_) (by rfl) ?_
  · obtain ⟨x, t, rfl⟩ := h3 f hm
    exact PySem.W.Looks.now
  · have e : (Value.type "int" != Value.type "tuple") = true := by first | decide +kernel | rfl | decide
    rw [e]
    exact hq
theorem sorted_tupsL {l : Addr} {vs : List Value} {k : Value → List Int} {Q : Value → Shared → Prop} (hl : s.heap.IsList l vs.toArray) (hz : vs.length ≤ sizeLine) (hp : ∀ v ∈ vs, TS.TupInts s.heap v (k v) ∧ k v ≠ [])
    (h : ∀ (h' : Heap) (d : Addr) (out : List Value), SrtO.Srtd (fun v u => lexL (k v) (k u)) out → SrtO.Stb (fun v u => lexL (k v) (k u)) out vs → (∀ b o, s.heap.get? b = some o → h'.get? b = some o) → s.heap.objs.size ≤ d → (∃ n, h'.get? d = some (seqObj "list" out.toArray n)) → Q (.ref d) { s with heap := h' }) :
    wpAny (model prog w) A (call (.builtin "sorted") [.ref l]) Q E s := by
  refine SrtO.sorted_ord (ltv := fun v u => lexL (k v) (k u)) ⟨fun x y => lexL_asym _ _, fun x y z => lexL_tr _ _ _⟩ hl hz (fun h2 h₁ a ha kk => ?_) fun out hs hb => ?_
  · refine tupsL_sortable (s := { s with heap := h₁ }) (by omega) (fun v hm => ⟨(hp v hm).1.keeps fun b o e _ => (kk b o e).2, (hp v hm).2⟩) fun o e => ?_
    have e' : some o = some (seqObj "list" vs.toArray 0) := e.symm.trans ha
    cases e'
    intro c
    exact absurd (Value.type.inj c) (by decide)
  · exact h _ _ out hs hb (fun b o e => sortedAll_old e) (Nat.le_succ _) (sortedAll_at s.heap vs out.toArray)
end
/-- a list of tuples of whole numbers -/
def TupsAre (K : PySem.W.Frag) (H : Hp) : List V → List (List Int) → Prop
  | [], [] => True
  | x :: xs, l :: ls => (∃ t, x = V.ref t ∧ SqN K H t (l.map V.int)) ∧ TupsAre K H xs ls
  | _, _ => False
theorem TupsAre.perm_of {K : PySem.W.Frag} {H : Hp} {k : V → List Int} : ∀ {xs : List V}, (∀ x ∈ xs, ∃ t, x = V.ref t ∧ SqN K H t ((k x).map V.int)) → TupsAre K H xs (xs.map k)
  | [], _ => trivial
  | x :: xs, h => ⟨h x List.mem_cons_self, TupsAre.perm_of fun y hy => h y (List.mem_cons_of_mem _ hy)⟩
theorem TupsAre.keys {K : PySem.W.Frag} {H : Hp} {k : V → List Int} (uq : ∀ (t : Addr) (l l' : List Int), SqN K H t (l.map V.int) → SqN K H t (l'.map V.int) → l = l') (hk : ∀ (t : Addr) (l : List Int), SqN K H t (l.map V.int) → SqN K H t ((k (V.ref t)).map V.int)) :
    ∀ {xs : List V} {ls : List (List Int)}, TupsAre K H xs ls → ls = xs.map k ∧ ∀ x ∈ xs, ∃ t, x = V.ref t ∧ SqN K H t ((k x).map V.int)
  | [], [], _ => ⟨rfl, fun _ h => nomatch h⟩
  | x :: xs, l :: ls, h => by
    obtain ⟨⟨t, e, hs⟩, r⟩ := h
    obtain ⟨e1, e2⟩ := TupsAre.keys uq hk r
    subst e
    have q := hk t l hs
    refine ⟨?_, fun y hy => ?_⟩
    · rw [List.map_cons, ← e1, uq _ _ _ hs q]
    · rcases List.mem_cons.mp hy with rfl | hy
      · exact ⟨t, rfl, q⟩
      · exact e2 y hy
  | [], _ :: _, h => h.elim
  | _ :: _, [], h => h.elim
theorem map_int_inj : ∀ {l l' : List Int}, l.map V.int = l'.map V.int → l = l'
  | [], [], _ => rfl
  | [], _ :: _, h => nomatch h
  | _ :: _, [], h => nomatch h
  | x :: l, y :: l', h => by
    simp only [List.map_cons, List.cons.injEq, V.int.injEq] at h
    rw [h.1, map_int_inj h.2]
def rSortedL (K : PySem.W.Frag) : List V → Hp → VK → Prop := fun vs H Q => ∃ (a : Addr) (xs : List V) (ls : List (List Int)), vs = [V.ref a] ∧ SqL K H a xs ∧ TupsAre K H xs ls ∧ (∀ l ∈ ls, l ≠ []) ∧
  ∀ ys p, TupsAre K H ys (sortL ls) → H p = none → Q (.ref p) (upd H p (.lst ys))
theorem cr_sortedL {X : Cx} : CallR X (.builtin "sorted") (rSortedL X.K) := by
  classical
  intro pins s σ H vs us Q I r h
  obtain ⟨a, xs, ls, rfl, hs, ht, hne, q⟩ := h
  obtain ⟨its, rv, hl, hz⟩ := I.list hs
  obtain ⟨u, rfl, ru⟩ := vals1 r
  obtain rfl : u = Value.ref a := ru
  have uq : ∀ (t : Addr) (l l' : List Int), SqN X.K H t (l.map V.int) → SqN X.K H t (l'.map V.int) → l = l' := fun t l l' h h' => map_int_inj (I.tuple_inj h.seq h'.seq)
  let k : V → List Int := fun x => match x with
    | .ref t => if h : ∃ l : List Int, SqN X.K H t (l.map V.int) then h.choose else []
    | _ => []
  have hk : ∀ (t : Addr) (l : List Int), SqN X.K H t (l.map V.int) → SqN X.K H t ((k (V.ref t)).map V.int) := fun t l h => by
    have he : ∃ l : List Int, SqN X.K H t (l.map V.int) := ⟨l, h⟩
    show SqN X.K H t ((if h : ∃ l : List Int, SqN X.K H t (l.map V.int) then h.choose else []).map V.int)
    rw [dif_pos he]
    exact he.choose_spec
  obtain ⟨el, hx⟩ := ht.keys uq hk
  clear_value k
  obtain ⟨e1, e2⟩ := refs_back rv fun x m => by
    obtain ⟨t, e, _⟩ := hx x m
    exact ⟨t, e⟩
  refine sorted_tupsL (k := fun u => k (backV u)) hl.isList (by rw [← rv.length]; exact hz) (fun v hv => ?_) fun h' d out h1 h2 kp hd hn => ?_
  · obtain ⟨t, rfl⟩ := e2 v hv
    have hm : V.ref t ∈ xs := by rw [e1]; exact List.mem_map.mpr ⟨_, hv, rfl⟩
    obtain ⟨t', e, ht'⟩ := hx _ hm
    cases e
    obtain ⟨its2, r2, p2, _⟩ := I.tuple ht'.seq
    refine ⟨⟨t, its2.toArray, rfl, p2, by rw [show its2.toArray.toList = its2 from by simp]; exact intsAre_v r2⟩, ?_⟩
    exact hne _ (by rw [el]; exact List.mem_map.mpr ⟨_, hm, rfl⟩)
  · have h3 : ∀ u ∈ out, ∃ a, u = Value.ref a := fun u hu => e2 u (h2.perm.mem_iff.mp hu)
    obtain ⟨n, hn⟩ := hn
    have hb : (out.map backV).Perm xs := by rw [e1]; exact h2.perm.map _
    have hs2 : (out.map backV).map k = sortL ls := by
      refine sortL_is (by rw [el]; exact hb.map k) ?_
      rw [List.map_map]
      exact SrtO.srtd_map (f := k ∘ backV) h1
    refine ⟨.ref d, upd H d (.lst (out.map backV)), I.laid (t' := s.toks) kp hd ⟨?_, out, n, vals_back h3, hn⟩, rfl, q _ d ?_ (I.hok.fresh hd)⟩
    · rw [hb.length_eq]
      exact hz
    · rw [← hs2]
      exact TupsAre.perm_of fun x hm => hx x (hb.mem_iff.mp hm)
theorem sorted_ofTupleL {prog : Program} {w : World} {A : Around} {E : Value → Shared → Prop} {s : Shared} {l : Addr} {vs : List Value} {k : Value → List Int} {Q : Value → Shared → Prop} (hl : s.heap.IsTuple l vs.toArray) (hp : ∀ v ∈ vs, TS.TupInts s.heap v (k v) ∧ k v ≠ []) (hz : vs.length ≤ sizeLine)
    (h : ∀ (out : List Value) (h0 h' : Heap) (p : Addr) (c : Nat), SrtO.Srtd (fun v u => lexL (k v) (k u)) out → SrtO.Stb (fun v u => lexL (k v) (k u)) out vs → (∀ b o, s.heap.get? b = some o → h0.get? b = some o) → (∀ b o, h0.get? b = some o → h'.get? b = some o) → h0.objs.size ≤ p → h'.get? p = some (seqObj "list" out.toArray c) → Q (.ref p) { s with heap := h' }) :
    wpAny (model prog w) A (call (.builtin "sorted") [.ref l]) Q E s := by
  obtain ⟨o, ho, hc, n, hd⟩ := id hl
  refine Calls.call_function_entry kind_sorted plain_sorted entry_sorted (args_sorted1 _) ?_
  unfold Builtin.«sorted»
  refine wpAny_bind (m := checkCount "sorted" 1 1 _) (wpAny_pure (wpAny_bind (wpAny_collect_seq l (.inr rfl) ho hc hd (fun h0 k0 => ?_) (by rw [List.size_toArray]; exact hz))))
  have e0 : vs.toArray.toList = vs := by simp
  rw [e0]
  refine wpAny_bind (wpAny_newList ?_ hz)
  have hpp : (h0.push (seqObj "list" vs.toArray 0)).get? h0.objs.size = some (seqObj "list" vs.toArray 0) := Heap.get?_push_size _ rfl
  have fin : ∀ out : List Value, SrtO.Srtd (fun v u => lexL (k v) (k u)) out → SrtO.Stb (fun v u => lexL (k v) (k u)) out vs → Q (.ref h0.objs.size) { s with heap := sortedHeap (h0.push (seqObj "list" vs.toArray 0)) h0.objs.size vs out.toArray } := fun out q1 q2 => by
    obtain ⟨c, hc⟩ := sorted_place (vs := vs) (out := out.toArray) hpp
    exact h out h0 _ _ c q1 q2 k0 (fun b u e => sorted_keeps (Nat.ne_of_lt (Heap.lt_size e)) (Heap.get?_push_of_some _ e)) (Nat.le_refl _) hc
  refine wpAny_bind (wpAny_holding (wpAny_call_entry slot_list_sort ⟨_, hpp, rfl⟩ entry_list_sort (SrtO.list_sort_ord (ltv := fun v u => lexL (k v) (k u)) (s := { s with heap := h0.push (seqObj "list" vs.toArray 0) }) ⟨fun x y => lexL_asym _ _, fun x y z => lexL_tr _ _ _⟩ hpp hz (fun h2 => ?_) fun out q1 q2 => ⟨_, rfl, wpAny_pure ⟨_, rfl, fin out q1 q2⟩⟩) (args_list_sort _)))
  refine tupsL_sortable (s := { s with heap := h0.push (seqObj "list" vs.toArray 0) }) (by omega) (fun v hm => ⟨(hp v hm).1.keeps fun b o e _ => Heap.get?_push_of_some _ (k0 b o e), (hp v hm).2⟩) fun o e => ?_
  have e' : some o = some (seqObj "list" vs.toArray 0) := e.symm.trans hpp
  cases e'
  intro c
  exact absurd (Value.type.inj c) (by decide)
def rSortedTL (K : PySem.W.Frag) : List V → Hp → VK → Prop := fun vs H Q => ∃ (a : Addr) (xs : List V) (ls : List (List Int)), vs = [V.ref a] ∧ SqT K H a xs ∧ TupsAre K H xs ls ∧ (∀ l ∈ ls, l ≠ []) ∧
  ∀ ys p, TupsAre K H ys (sortL ls) → H p = none → Q (.ref p) (upd H p (.lst ys))
theorem cr_sortedTL {X : Cx} : CallR X (.builtin "sorted") (rSortedTL X.K) := by
  classical
  intro pins s σ H vs us Q I r h
  obtain ⟨a, xs, ls, rfl, hs, ht, hne, q⟩ := h
  obtain ⟨its, rv, hl, hz⟩ := I.tuple hs
  obtain ⟨u, rfl, ru⟩ := vals1 r
  obtain rfl : u = Value.ref a := ru
  have uq : ∀ (t : Addr) (l l' : List Int), SqN X.K H t (l.map V.int) → SqN X.K H t (l'.map V.int) → l = l' := fun t l l' h h' => map_int_inj (I.tuple_inj h.seq h'.seq)
  let k : V → List Int := fun x => match x with
    | .ref t => if h : ∃ l : List Int, SqN X.K H t (l.map V.int) then h.choose else []
    | _ => []
  have hk : ∀ (t : Addr) (l : List Int), SqN X.K H t (l.map V.int) → SqN X.K H t ((k (V.ref t)).map V.int) := fun t l h => by
    have he : ∃ l : List Int, SqN X.K H t (l.map V.int) := ⟨l, h⟩
    show SqN X.K H t ((if h : ∃ l : List Int, SqN X.K H t (l.map V.int) then h.choose else []).map V.int)
    rw [dif_pos he]
    exact he.choose_spec
  obtain ⟨el, hx⟩ := ht.keys uq hk
  clear_value k
  obtain ⟨e1, e2⟩ := refs_back rv fun x m => by
    obtain ⟨t, e, _⟩ := hx x m
    exact ⟨t, e⟩
  refine sorted_ofTupleL (k := fun u => k (backV u)) hl (fun v hv => ?_) (by rw [← rv.length]; exact hz) fun out h0 h' d n h1 h2 k0 kk hd hn => ?_
  · obtain ⟨t, rfl⟩ := e2 v hv
    have hm : V.ref t ∈ xs := by rw [e1]; exact List.mem_map.mpr ⟨_, hv, rfl⟩
    obtain ⟨t', e, ht'⟩ := hx _ hm
    cases e
    obtain ⟨its2, r2, p2, _⟩ := I.tuple ht'.seq
    refine ⟨⟨t, its2.toArray, rfl, p2, by rw [show its2.toArray.toList = its2 from by simp]; exact intsAre_v r2⟩, ?_⟩
    exact hne _ (by rw [el]; exact List.mem_map.mpr ⟨_, hm, rfl⟩)
  · have h3 : ∀ u ∈ out, ∃ a, u = Value.ref a := fun u hu => e2 u (h2.perm.mem_iff.mp hu)
    have hb : (out.map backV).Perm xs := by rw [e1]; exact h2.perm.map _
    have hs2 : (out.map backV).map k = sortL ls := by
      refine sortL_is (by rw [el]; exact hb.map k) ?_
      rw [List.map_map]
      exact SrtO.srtd_map (f := k ∘ backV) h1
    have I0 : Inv X pins σ H { s with heap := h0 } := I.kept (t' := s.toks) k0
    refine ⟨.ref d, upd H d (.lst (out.map backV)), I0.laid (t' := s.toks) kk hd ⟨?_, out, n, vals_back h3, hn⟩, rfl, q _ d ?_ (I0.hok.fresh hd)⟩
    · rw [hb.length_eq]
      exact hz
    · rw [← hs2]
      exact TupsAre.perm_of fun x hm => hx x (hb.mem_iff.mp hm)
-- numbered items, from a count
def ItEF (K : PySem.W.Frag) (k : Sk) (c : Nat) : It :=
  ⟨fun i H => k.ok K H ∧ i < k.items.length,
    fun i H v H' => ∃ T x o, v = .ref T ∧ H T = none ∧ o.dict = none ∧ H' = upd H T (.frz o (.tup [.int ((c + i : Nat) : Int), x])) ∧ k.items[i]? = some x,
    fun i H => k.ok K H ∧ i = k.items.length⟩
theorem turn_enumGF {P : Program} {w : World} {K : PySem.W.Frag} {elts : List Expr} {kk : Nat} {tpos : Pos} {e it : Addr} {k : Sk} {c : Nat} (hne : e ≠ it) (o1 : k.off e) (o2 : k.off it) :
    Turn P w K (.Tuple elts kk tpos) (ItEF K k c) [e, it] e (fun i h => (∃ old, IsEnum h e it ((c + i : Nat) : Int) old) ∧ k.it it i h) where
  mem := by simp
  obj := fun i h st b hb => by
    obtain ⟨⟨old, he⟩, h1⟩ := st
    have e' : b = e ∨ b = it := by simpa using hb
    rcases e' with z | z
    · rw [z]; exact ⟨_, he, fun v q => nomatch q⟩
    · rw [z]; exact Sk.it_obj h1
  keep := fun i h h' st kp => let ⟨⟨old, he⟩, hi⟩ := st; ⟨⟨old, kp e (by simp) _ he⟩, Sk.it_keep hi fun o q => kp it (by simp) o q⟩
  item := by
    intro X hP hw hK hc i pins s σ H E I hf st hg
    subst hP hw hK
    obtain ⟨⟨old, he⟩, hit⟩ := st
    obtain ⟨ok, hi⟩ := hg
    have hA : X.A.in1.handled = none := I.ok.hd hc
    obtain ⟨fp, P1, St1, D1, m1, n1, s1, u1, v1⟩ := k.draws I ok hA it o2
    have hel : e < s.heap.objs.size := Heap.lt_size he
    have hil : it < s.heap.objs.size := by obtain ⟨_, q, _⟩ := Sk.it_obj hit; exact Heap.lt_size q
    have hef : e ∉ fp := fun q => (n1 e q hne).2 o1
    refine PySem.wpAny_pyNext_enum_itemC D1 he (s1 i hit) hi hne hef fun u h' tk p1 ho hit' hT hsz hk => ?_
    refine ⟨_, rfl, PySem.wpAny_letOwnedTupleGo_enum (s := { s with heap := h', toks := tk + 1 }) ho fun h'' he' sb => ?_⟩
    obtain ⟨x, ex, rx⟩ := v1 i u p1
    have hT2 : h''.get? s.heap.objs.size = some { cls := .type "tuple", data := .seq #[.int ((c + i : Nat) : Int) tk, u] } := (sb.2 _ (Nat.ne_of_gt hel)).trans hT
    have new : ObjOk X.prog X.w (upd H s.heap.objs.size (.frz { cls := .type "tuple", data := .seq #[.int ((c + i : Nat) : Int) tk, u] } (.tup [.int ((c + i : Nat) : Int), x]))) h'' s.heap.objs.size (.frz { cls := .type "tuple", data := .seq #[.int ((c + i : Nat) : Int) tk, u] } (.tup [.int ((c + i : Nat) : Int), x])) :=
      ⟨hT2, by show 2 ≤ sizeLine; decide, [.int ((c + i : Nat) : Int) tk, u], .cons ⟨_, rfl⟩ (.cons rx .nil), ⟨_, hT2, rfl, _, rfl⟩⟩
    have I1 : L2.Inv X pins σ (upd H s.heap.objs.size (.frz { cls := .type "tuple", data := .seq #[.int ((c + i : Nat) : Int) tk, u] } (.tup [.int ((c + i : Nat) : Int), x]))) { s with heap := h'', toks := tk + 1 } :=
      I.turnedNew (ch := [e, it]) (fun b ob hb q => (sb.2 b (fun z => hb (by simp [z]))).trans (hk b ob (fun z => hb (by simp [z])) (fun z => hb (by simp [z])) q)) hf (Nat.le_refl _) new
    refine ⟨.ref s.heap.objs.size, _, I1, rfl, ⟨_, x, _, rfl, I.hok.fresh (Nat.le_refl _), rfl, rfl, ex⟩, ⟨⟨u, ?_⟩, Sk.it_keep (u1 _ _ hit') fun o q => (sb.2 it (Ne.symm hne)).trans q⟩, fun b hb => ?_⟩
    · have e1 : ((c + (i + 1) : Nat) : Int) = ((c + i : Nat) : Int) + 1 := by omega
      rw [e1]; exact he'
    · have hb' : b < s.heap.objs.size := by
        have e' : b = e ∨ b = it := by simpa using hb
        rcases e' with z | z
        · rw [z]; exact hel
        · rw [z]; exact hil
      rw [upd_ne (Nat.ne_of_lt hb')]
      exact (hf b hb).1
  done := by
    intro X hP hw hK hc i pins s σ H E I hf st hg
    subst hP hw hK
    obtain ⟨⟨old, he⟩, hit⟩ := st
    obtain ⟨ok, hi⟩ := hg
    have hA : X.A.in1.handled = none := I.ok.hd hc
    obtain ⟨fp, P1, St1, D1, m1, n1, s1, u1, v1⟩ := k.draws I ok hA it o2
    obtain ⟨f0, f1, f2, f3, f4, f5⟩ := hf it (by simp)
    subst hi
    exact wpAny_pyNext_enum_endD D1 he (s1 _ hit) fun h' eb => ⟨rfl, I.turned (t' := s.toks) (fun b o hb q => eb b o hb q) f0 f1 f3 f4 f5⟩
  self := fun A i s Q E st h => let ⟨⟨_, he⟩, _⟩ := st; wpAny_pyIter_enum he h

def iEnmGF (K : PySem.W.Frag) (ta : TA) : TI := fun σ H R => ta σ H fun vs H1 => ∃ (x : V) (xs : List V) (c : Nat), vs = [x, .int c] ∧ c < 1000000 ∧ SkV K H1 x xs ∧ ∀ k : Sk, k.items = xs → (∀ H', Kp H1 H' → k.ok K H') → R (ItEF K k c) H1
theorem pi_enmGF {X : Cx} {e e2 : Expr} {ta : TA} {p pos tpos : Pos} {elts : List Expr} {kk : Nat} (hg : Gl X "enumerate") (hm : X.mg "enumerate" = none) (ha : PA X [e, e2] ta) (hs : starEach [e, e2] X.env = (false, eval e X.env) :: starEach [e2] X.env) (hpl : (backTo pos (starEach [e2] X.env)).any (·.1) = false) :
    PI X (.Tuple elts kk tpos) (.Call (.Name "enumerate" p) [e, e2] [] pos) (iEnmGF X.K ta) := by
  refine ⟨fun pins s σ H R I h => ?_⟩
  refine Call_ (ld_blt I hg hm boot_enumerate (PyProof.Rows.callWith_type1 (thn (ha.run pos pins s σ H _ I h) fun us s1 ⟨vs, H1, I1, r1, q1⟩ => ?_) hs hpl))
  obtain ⟨x, xs, c, rfl, hc, sx, q⟩ := q1
  obtain ⟨u1, u2, rfl, rr, rc⟩ := vals2 r1
  obtain ⟨tc, rfl⟩ := rc
  obtain ⟨k1, e1, ok1, rfl, off1, pl1⟩ := sx.sk rr I1
  obtain ⟨o1, Hb1, B1, hb1, st1⟩ := k1.begins pl1 I1 (ok1 _ (Kp.refl _))
  refine PySem.enum_begins B1 hb1 (by omega) (by omega) fun h' he g1 hsz hk => wpAny_pyIter_enum he ?_
  have I2 : L2.Inv X pins σ H1 { s1 with heap := h' } := I1.kept (t' := s1.toks) hk
  refine ⟨s1.heap.objs.size + 1, [s1.heap.objs.size + 1, s1.heap.objs.size], _, _, H1, rfl, I2, turn_enumGF (k := k1) (c := c) (Nat.succ_ne_self _) (off1 _ (Nat.le_add_right _ _)) (off1 _ (Nat.le_refl _)), ⟨⟨.none, he⟩, st1 _ _ g1⟩, fun b hb => ?_, q k1 e1 ok1⟩
  have hle : s1.heap.objs.size ≤ b := by
    have e' : b = s1.heap.objs.size + 1 ∨ b = s1.heap.objs.size := by simpa using hb
    rcases e' with z | z
    · rw [z]; exact Nat.le_add_right _ _
    · rw [z]; exact Nat.le_refl _
  exact I1.fpOk hle (I1.hok.fresh hle)
end RF

set_option Elab.async false
set_option linter.all false
set_option maxRecDepth 100000
set_option maxHeartbeats 4000000
/-! RF2j: sorted of a list of tuples of whole numbers and texts, all of one shape. -/
namespace RF
open PySem PySem.Spec PyProof.Rows L2
theorem strLt_irr {s t : Str} (h1 : strLt s t = false) (h2 : strLt t s = false) : s = t := strLe_anti h2 h1
theorem ltK_asym : ∀ x y : Int ⊕ Str, ltK x y = true → ltK y x = false
  | .inl i, .inl j, h => by
    have := of_decide_eq_true h
    exact decide_eq_false (by omega)
  | .inr s, .inr t, h => by
    rcases strLe_total s t with a | a
    · exact a
    · have : strLt s t = false := a
      rw [show ltK (.inr s) (.inr t) = strLt s t from rfl, this] at h
      cases h
  | .inl _, .inr _, _ => rfl
  | .inr _, .inl _, h => by cases h
theorem ltK_tr : ∀ x y z : Int ⊕ Str, ltK y x = false → ltK z y = false → ltK z x = false
  | .inl i, .inl j, .inl k, h1, h2 => by
    have h1 := of_decide_eq_false h1
    have h2 := of_decide_eq_false h2
    exact decide_eq_false (by omega)
  | .inr s, .inr t, .inr r, h1, h2 => by
    have a : strLe s t := h1
    have b : strLe t r := h2
    exact strLe_trans a b
  | .inl _, .inl _, .inr _, _, _ => rfl
  | .inl _, .inr _, .inl _, _, h => by cases h
  | .inl _, .inr _, .inr _, _, _ => rfl
  | .inr _, .inl _, _, h, _ => by cases h
  | .inr _, .inr _, .inl _, _, h => by cases h
theorem ltK_eq : ∀ x y : Int ⊕ Str, ltK x y = false → ltK y x = false → x = y
  | .inl i, .inl j, h1, h2 => by
    have h1 := of_decide_eq_false h1
    have h2 := of_decide_eq_false h2
    rw [show i = j by omega]
  | .inr s, .inr t, h1, h2 => by rw [strLt_irr (s := s) (t := t) h1 h2]
  | .inl _, .inr _, h, _ => by cases h
  | .inr _, .inl _, _, h => by cases h
theorem lexK_asym : ∀ x y, lexK x y = true → lexK y x = false
  | [], [], h => by cases h
  | [], _ :: _, _ => rfl
  | _ :: _, [], h => by cases h
  | x :: xs, y :: ys, h => by
    unfold lexK at h ⊢
    by_cases e : x = y
    · rw [if_pos e] at h
      rw [if_pos e.symm]
      exact lexK_asym xs ys h
    · rw [if_neg e] at h
      rw [if_neg (Ne.symm e)]
      exact ltK_asym _ _ h
theorem lexK_tr : ∀ x y z, lexK y x = false → lexK z y = false → lexK z x = false
  | [], [], [], _, _ => rfl
  | [], [], _ :: _, _, _ => rfl
  | [], _ :: _, [], _, h => by cases h
  | [], _ :: _, _ :: _, _, _ => rfl
  | _ :: _, [], _, h, _ => by cases h
  | _ :: _, _ :: _, [], _, h => by cases h
  | x :: xs, y :: ys, z :: zs, h1, h2 => by
    unfold lexK at h1 h2 ⊢
    by_cases e1 : y = x
    · rw [if_pos e1] at h1
      by_cases e2 : z = y
      · rw [if_pos e2] at h2
        rw [if_pos (e2.trans e1)]
        exact lexK_tr xs ys zs h1 h2
      · rw [if_neg e2] at h2
        subst e1
        rw [if_neg e2]
        exact h2
    · rw [if_neg e1] at h1
      by_cases e2 : z = y
      · subst e2
        rw [if_neg e1]
        exact h1
      · rw [if_neg e2] at h2
        have h3 := ltK_tr x y z h1 h2
        by_cases e3 : z = x
        · subst e3
          exact absurd (ltK_eq _ _ h2 h1) e2
        · rw [if_neg e3]
          exact h3
theorem lexK_eq : ∀ x y, lexK x y = false → lexK y x = false → x = y
  | [], [], _, _ => rfl
  | [], _ :: _, h, _ => by cases h
  | _ :: _, [], _, h => by cases h
  | x :: xs, y :: ys, h1, h2 => by
    unfold lexK at h1 h2
    by_cases e : x = y
    · rw [if_pos e] at h1
      rw [if_pos e.symm] at h2
      rw [e, lexK_eq xs ys h1 h2]
    · rw [if_neg e] at h1
      rw [if_neg (Ne.symm e)] at h2
      exact absurd (ltK_eq _ _ h1 h2) e
theorem insK_perm (x : List (Int ⊕ Str)) : ∀ l, (insK x l).Perm (x :: l)
  | [] => .refl _
  | y :: ys => by
    unfold insK
    split
    · exact ((insK_perm x ys).cons y).trans (.swap x y ys)
    · exact .refl _
theorem sortK_perm : ∀ l, (sortK l).Perm l
  | [] => .refl _
  | x :: xs => (insK_perm x _).trans ((sortK_perm xs).cons x)
theorem insK_pw (x : List (Int ⊕ Str)) : ∀ {l : List (List (Int ⊕ Str))}, SrtO.Srtd lexK l → SrtO.Srtd lexK (insK x l)
  | [], _ => List.pairwise_singleton _ _
  | y :: ys, h => by
    unfold insK
    have hc := List.pairwise_cons.mp h
    split
    · rename_i q
      refine List.pairwise_cons.mpr ⟨fun z hz => ?_, insK_pw x hc.2⟩
      rcases List.mem_cons.mp ((insK_perm x ys).mem_iff.mp hz) with rfl | hz
      · exact lexK_asym _ _ q
      · exact hc.1 z hz
    · rename_i q
      have q : lexK y x = false := by simpa using q
      refine List.pairwise_cons.mpr ⟨fun z hz => ?_, h⟩
      rcases List.mem_cons.mp hz with rfl | hz
      · exact q
      · exact lexK_tr x y z q (hc.1 z hz)
theorem sortK_pw : ∀ l, SrtO.Srtd lexK (sortK l)
  | [] => .nil
  | x :: xs => insK_pw x (sortK_pw xs)
theorem sortK_uniq : ∀ {l m : List (List (Int ⊕ Str))}, SrtO.Srtd lexK l → SrtO.Srtd lexK m → l.Perm m → l = m
  | [], m, _, _, h => (List.Perm.eq_nil h.symm).symm
  | x :: l, [], _, _, h => absurd h.length_eq (by simp)
  | x :: l, y :: m, hl, hm, h => by
    have cl := List.pairwise_cons.mp hl
    have cm := List.pairwise_cons.mp hm
    have e : x = y := by
      rcases List.mem_cons.mp (h.mem_iff.mp (List.mem_cons_self (a := x) (l := l))) with e | h1
      · exact e
      · rcases List.mem_cons.mp (h.mem_iff.mpr (List.mem_cons_self (a := y) (l := m))) with e | h2
        · exact e.symm
        · exact lexK_eq x y (cm.1 x h1) (cl.1 y h2)
    subst e
    rw [sortK_uniq cl.2 cm.2 ((List.perm_cons x).mp h)]
theorem sortK_is {l ys : List (List (Int ⊕ Str))} (p : ys.Perm l) (s : SrtO.Srtd lexK ys) : ys = sortK l := sortK_uniq s (sortK_pw l) (p.trans (sortK_perm l).symm)
/-! ### sorted of such a list -/
def TupRow (h : Heap) (v : Value) (ns : List Key) : Prop := ∃ a xs, v = .ref a ∧ IsTup h a xs ∧ Vals (ns.map kV) xs.toList
theorem TupRow.keeps {h h' : Heap} {v : Value} {ns : List Key} (x : TupRow h v ns) (k : ∀ b o, h.get? b = some o → o.cls = .type "tuple" → h'.get? b = some o) : TupRow h' v ns := by
  obtain ⟨a, xs, e, ⟨o, ho, hc, hd⟩, i⟩ := x
  exact ⟨a, xs, e, ⟨o, k _ _ ho hc, hc, hd⟩, i⟩
section
variable {prog : Program} {w : World} {A : Around} {E : Value → Shared → Prop} {s : Shared}
theorem oneLt_strs (c : Bool) (hc : c = false) {p q : Str} {t u : Tok} {Q : Bool → Shared → Prop} (h : Q (decide (p.cps.toList < q.cps.toList)) s) : wpAny (model prog w) A (oneLt' c (.str p t) (.str q u)) Q E s := by
  subst hc
  exact PySem.W.kat_one _ _ (PyProof.Rows.lt_str (Q := PySem.W.BoolBack Q) h)
theorem lexK_kat {b : Bool} {Q : Bool → Shared → Prop} : ∀ {ns : List Key} {xs : List Value} {ms : List Key} {ys : List Value} (i : Nat) (fin : Bool), Vals (ns.map kV) xs → Vals (ms.map kV) ys → (i = 0 → ∀ k r, ns = k :: r → k.isLeft = true) → ns.map (·.isLeft) = ms.map (·.isLeft) → fin = decide (ns.length < ms.length) → Q (lexK ns ms) s →
    PySem.W.KatLex prog w A b fin Q (xs.zip ys) i s
  | [], _, [], _, i, fin, .nil, .nil, _, _, hf, h => by subst hf; exact PySem.W.kat_nil h
  | [], _, _ :: _, _, i, fin, _, _, _, hs, _, _ => by simp at hs
  | _ :: _, _, [], _, i, fin, _, _, _, hs, _, _ => by simp at hs
  | .inl p :: ns, _, .inl q :: ms, _, i, fin, .cons (l₂ := xs) r1 hx, .cons (l₂ := ys) r2 hy, h0, hs, hf, h => by
    obtain ⟨t, rfl⟩ := r1
    obtain ⟨u, rfl⟩ := r2
    show PySem.W.KatLex prog w A b fin Q ((Value.int p t, Value.int q u) :: xs.zip ys) i s
    refine PySem.W.kat_cons (wpAny_eqBool_int ?_)
    have hf' : fin = decide (ns.length < ms.length) := by rw [hf]; exact decide_eq_decide.mpr (by rw [List.length_cons, List.length_cons]; omega)
    simp only [List.map_cons, List.cons.injEq] at hs
    by_cases e : p = q
    · subst e
      rw [beq_self_eq_true]
      unfold lexK at h
      rw [if_pos rfl] at h
      exact PySem.W.kat_yes (lexK_kat (i + 1) fin hx hy (fun z => by omega) hs.2 hf' h)
    · rw [show (p == q) = false from beq_eq_false_iff_ne.mpr e]
      unfold lexK at h
      rw [if_neg (fun z => e (Sum.inl.inj z))] at h
      exact PySem.W.kat_no (TS.oneLt_ints _ h)
  | .inr p :: ns, _, .inr q :: ms, _, i, fin, .cons (l₂ := xs) r1 hx, .cons (l₂ := ys) r2 hy, h0, hs, hf, h => by
    obtain ⟨t, rfl⟩ := r1
    obtain ⟨u, rfl⟩ := r2
    show PySem.W.KatLex prog w A b fin Q ((Value.str p t, Value.str q u) :: xs.zip ys) i s
    refine PySem.W.kat_cons (wpAny_eqBool_str ?_)
    have hf' : fin = decide (ns.length < ms.length) := by rw [hf]; exact decide_eq_decide.mpr (by rw [List.length_cons, List.length_cons]; omega)
    simp only [List.map_cons, List.cons.injEq] at hs
    have hi : i ≠ 0 := fun z => by have := h0 z _ _ rfl; cases this
    by_cases e : p = q
    · subst e
      rw [decide_eq_true rfl]
      unfold lexK at h
      rw [if_pos rfl] at h
      exact PySem.W.kat_yes (lexK_kat (i + 1) fin hx hy (fun z => by omega) hs.2 hf' h)
    · rw [decide_eq_false e]
      unfold lexK at h
      rw [if_neg (fun z => e (Sum.inr.inj z))] at h
      refine PySem.W.kat_no (oneLt_strs _ ?_ h)
      rw [show (i == 0) = false from beq_eq_false_iff_ne.mpr hi, Bool.and_false]
  | .inl _ :: _, _, .inr _ :: _, _, _, _, _, _, _, hs, _, _ => by simp at hs
  | .inr _ :: _, _, .inl _ :: _, _, _, _, _, _, _, hs, _, _ => by simp at hs
/-- such rows: none is empty, the first item a whole number, all of one shape -/
def RowsOk (sh : List Bool) (l : List Key) : Prop := l.map (·.isLeft) = sh ∧ ∃ (i : Int) (r : List Key), l = .inl i :: r
theorem rows_cmp {vs : List Value} {sh : List Bool} {k : Value → List Key} (hp : ∀ v ∈ vs, TupRow s.heap v (k v) ∧ RowsOk sh (k v)) : SrtO.Cmp prog w A s (tuples' true) (fun p => p.1 ∈ vs) (SrtO.lt2 fun v u => lexK (k v) (k u)) := by
  intro p q hm hm'
  obtain ⟨⟨a, xs, e, ⟨o, ho, hc, n, hd⟩, hi⟩, s1, i1, r1, e1⟩ := hp _ hm
  obtain ⟨⟨a', xs', e', ⟨o', ho', hc', n', hd'⟩, hi'⟩, s2, _⟩ := hp _ hm'
  show wpAny (model prog w) A (keyLt' (tuples' true) p.1 q.1) (fun r s' => s' = s ∧ r = lexK (k p.1) (k q.1)) (fun _ _ => False) s
  generalize k p.1 = ns at hi s1 e1 ⊢
  generalize k q.1 = ms at hi' s2 ⊢
  rw [e, e']
  refine PySem.W.kat_lt ho hd ho' hd' (lexK_kat 0 _ hi hi' (fun _ k r z => by rw [e1] at z; cases z; rfl) (s1.trans s2.symm) ?_ ⟨rfl, rfl⟩)
  have l1 := hi.length
  have l2 := hi'.length
  rw [List.length_map] at l1 l2
  rw [l1, l2, Array.length_toList, Array.length_toList]
theorem rows_firsts {h : Heap} {sh : List Bool} {k : Value → List Key} : ∀ {vs : List Value}, (∀ v ∈ vs, TupRow h v (k v) ∧ RowsOk sh (k v)) → ∃ fs : List Value, PySem.W.KatTups h vs fs ∧ fs.length = vs.length ∧ ∀ f ∈ fs, ∃ x t, f = Value.int x t
  | [], _ => ⟨[], PySem.W.KatTups.nil, rfl, fun _ hm => by simp at hm⟩
  | v :: vs, hp => by
    obtain ⟨fs, h1, h2, h3⟩ := rows_firsts (vs := vs) fun v' hm => hp v' (List.mem_cons_of_mem _ hm)
    obtain ⟨⟨a, xs, e, ⟨o, ho, hc, n, hd⟩, hi⟩, _, i, r, e1⟩ := hp v (List.mem_cons_self ..)
    subst e
    rw [e1] at hi
    obtain ⟨l⟩ := xs
    cases hi with
    | @cons _ u _ us r1 hu =>
      obtain ⟨t, rfl⟩ := r1
      refine ⟨.int i t :: fs, PySem.W.KatTups.cons ho hc hd rfl h1, by rw [List.length_cons, List.length_cons, h2], fun f hm => ?_⟩
      rcases List.mem_cons.mp hm with rfl | hm
      · exact ⟨i, t, rfl⟩
      · exact h3 f hm
theorem rows_sortable {a : Addr} {vs : List Value} {sh : List Bool} {k : Value → List Key} (h0 : 0 < vs.length) (hp : ∀ v ∈ vs, TupRow s.heap v (k v) ∧ RowsOk sh (k v)) (ha : ∀ o, s.heap.get? a = some o → o.cls ≠ .type "tuple") : SrtO.SortableO prog w A s a vs fun v u => lexK (k v) (k u) := by
  intro h' keep
  have hp' : ∀ v ∈ vs, TupRow h' v (k v) ∧ RowsOk sh (k v) := fun v hm => ⟨(hp v hm).1.keeps fun b o e c => keep b o (fun z => by subst z; exact ha o e c) e, (hp v hm).2⟩
  obtain ⟨fs, h1, h2, h3⟩ := rows_firsts hp'
  refine ⟨tuples' true, fun Q E hq => ?_, rows_cmp hp'⟩
  refine PySem.W.kat_kind (T := .type "int") h1 (by omega) (fun f hm => ?_) (by rfl) ?_
  · obtain ⟨x, t, rfl⟩ := h3 f hm
    exact PySem.W.Looks.now
  · have e : (Value.type "int" != Value.type "tuple") = true := by first | decide +kernel | rfl | decide
    rw [e]
    exact hq
theorem sorted_rows {l : Addr} {vs : List Value} {sh : List Bool} {k : Value → List Key} {Q : Value → Shared → Prop} (hl : s.heap.IsList l vs.toArray) (hz : vs.length ≤ sizeLine) (hp : ∀ v ∈ vs, TupRow s.heap v (k v) ∧ RowsOk sh (k v))
    (h : ∀ (h' : Heap) (d : Addr) (out : List Value), SrtO.Srtd (fun v u => lexK (k v) (k u)) out → SrtO.Stb (fun v u => lexK (k v) (k u)) out vs → (∀ b o, s.heap.get? b = some o → h'.get? b = some o) → s.heap.objs.size ≤ d → (∃ n, h'.get? d = some (seqObj "list" out.toArray n)) → Q (.ref d) { s with heap := h' }) :
    wpAny (model prog w) A (call (.builtin "sorted") [.ref l]) Q E s := by
  refine SrtO.sorted_ord (ltv := fun v u => lexK (k v) (k u)) ⟨fun x y => lexK_asym _ _, fun x y z => lexK_tr _ _ _⟩ hl hz (fun h2 h₁ a ha kk => ?_) fun out hs hb => ?_
  · refine rows_sortable (s := { s with heap := h₁ }) (by omega) (fun v hm => ⟨(hp v hm).1.keeps fun b o e _ => (kk b o e).2, (hp v hm).2⟩) fun o e => ?_
    have e' : some o = some (seqObj "list" vs.toArray 0) := e.symm.trans ha
    cases e'
    intro c
    exact absurd (Value.type.inj c) (by decide)
  · exact h _ _ out hs hb (fun b o e => sortedAll_old e) (Nat.le_succ _) (sortedAll_at s.heap vs out.toArray)
end
/-- a list of such tuples -/
def RowsAre (K : PySem.W.Frag) (H : Hp) : List V → List (List Key) → Prop
  | [], [] => True
  | x :: xs, l :: ls => (∃ t, x = V.ref t ∧ SqN K H t (l.map kV)) ∧ RowsAre K H xs ls
  | _, _ => False
theorem RowsAre.perm_of {K : PySem.W.Frag} {H : Hp} {k : V → List Key} : ∀ {xs : List V}, (∀ x ∈ xs, ∃ t, x = V.ref t ∧ SqN K H t ((k x).map kV)) → RowsAre K H xs (xs.map k)
  | [], _ => trivial
  | x :: xs, h => ⟨h x List.mem_cons_self, RowsAre.perm_of fun y hy => h y (List.mem_cons_of_mem _ hy)⟩
theorem RowsAre.keys {K : PySem.W.Frag} {H : Hp} {k : V → List Key} (uq : ∀ (t : Addr) (l l' : List Key), SqN K H t (l.map kV) → SqN K H t (l'.map kV) → l = l') (hk : ∀ (t : Addr) (l : List Key), SqN K H t (l.map kV) → SqN K H t ((k (V.ref t)).map kV)) :
    ∀ {xs : List V} {ls : List (List Key)}, RowsAre K H xs ls → ls = xs.map k ∧ ∀ x ∈ xs, ∃ t, x = V.ref t ∧ SqN K H t ((k x).map kV)
  | [], [], _ => ⟨rfl, fun _ h => nomatch h⟩
  | x :: xs, l :: ls, h => by
    obtain ⟨⟨t, e, hs⟩, r⟩ := h
    obtain ⟨e1, e2⟩ := RowsAre.keys uq hk r
    subst e
    have q := hk t l hs
    refine ⟨?_, fun y hy => ?_⟩
    · rw [List.map_cons, ← e1, uq _ _ _ hs q]
    · rcases List.mem_cons.mp hy with rfl | hy
      · exact ⟨t, rfl, q⟩
      · exact e2 y hy
  | [], _ :: _, h => h.elim
  | _ :: _, [], h => h.elim
def rSortedK (K : PySem.W.Frag) : List V → Hp → VK → Prop := fun vs H Q => ∃ (a : Addr) (xs : List V) (ls : List (List Key)) (sh : List Bool), vs = [V.ref a] ∧ SqL K H a xs ∧ RowsAre K H xs ls ∧ (∀ l ∈ ls, RowsOk sh l) ∧
  ∀ ys p, RowsAre K H ys (sortK ls) → H p = none → Q (.ref p) (upd H p (.lst ys))
theorem cr_sortedK {X : Cx} : CallR X (.builtin "sorted") (rSortedK X.K) := by
  classical
  intro pins s σ H vs us Q I r h
  obtain ⟨a, xs, ls, sh, rfl, hs, ht, hne, q⟩ := h
  obtain ⟨its, rv, hl, hz⟩ := I.list hs
  obtain ⟨u, rfl, ru⟩ := vals1 r
  obtain rfl : u = Value.ref a := ru
  have uq : ∀ (t : Addr) (l l' : List Key), SqN X.K H t (l.map kV) → SqN X.K H t (l'.map kV) → l = l' := fun t l l' h h' => kVs_inj (I.tuple_inj h.seq h'.seq)
  let k : V → List Key := fun x => match x with
    | .ref t => if h : ∃ l : List Key, SqN X.K H t (l.map kV) then h.choose else []
    | _ => []
  have hk : ∀ (t : Addr) (l : List Key), SqN X.K H t (l.map kV) → SqN X.K H t ((k (V.ref t)).map kV) := fun t l h => by
    have he : ∃ l : List Key, SqN X.K H t (l.map kV) := ⟨l, h⟩
    show SqN X.K H t ((if h : ∃ l : List Key, SqN X.K H t (l.map kV) then h.choose else []).map kV)
    rw [dif_pos he]
    exact he.choose_spec
  obtain ⟨el, hx⟩ := ht.keys uq hk
  clear_value k
  obtain ⟨e1, e2⟩ := refs_back rv fun x m => by
    obtain ⟨t, e, _⟩ := hx x m
    exact ⟨t, e⟩
  refine sorted_rows (sh := sh) (k := fun u => k (backV u)) hl.isList (by rw [← rv.length]; exact hz) (fun v hv => ?_) fun h' d out h1 h2 kp hd hn => ?_
  · obtain ⟨t, rfl⟩ := e2 v hv
    have hm : V.ref t ∈ xs := by rw [e1]; exact List.mem_map.mpr ⟨_, hv, rfl⟩
    obtain ⟨t', e, ht'⟩ := hx _ hm
    cases e
    obtain ⟨its2, r2, p2, _⟩ := I.tuple ht'.seq
    refine ⟨⟨t, its2.toArray, rfl, p2, by rw [show its2.toArray.toList = its2 from by simp]; exact r2⟩, ?_⟩
    exact hne _ (by rw [el]; exact List.mem_map.mpr ⟨_, hm, rfl⟩)
  · have h3 : ∀ u ∈ out, ∃ a, u = Value.ref a := fun u hu => e2 u (h2.perm.mem_iff.mp hu)
    obtain ⟨n, hn⟩ := hn
    have hb : (out.map backV).Perm xs := by rw [e1]; exact h2.perm.map _
    have hs2 : (out.map backV).map k = sortK ls := by
      refine sortK_is (by rw [el]; exact hb.map k) ?_
      rw [List.map_map]
      exact SrtO.srtd_map (f := k ∘ backV) h1
    refine ⟨.ref d, upd H d (.lst (out.map backV)), I.laid (t' := s.toks) kp hd ⟨?_, out, n, vals_back h3, hn⟩, rfl, q _ d ?_ (I.hok.fresh hd)⟩
    · rw [hb.length_eq]
      exact hz
    · rw [← hs2]
      exact RowsAre.perm_of fun x hm => hx x (hb.mem_iff.mp hm)
/-! ### data -/
theorem rowsB_ok {sh : List Bool} : ∀ {ls : List (List Key)}, rowsB sh ls = true → ∀ l ∈ ls, l.map (·.isLeft) = sh
  | [], _, _, h => nomatch h
  | a :: ls, e, l, h => by
    unfold rowsB at e
    rw [Bool.and_eq_true, decide_eq_true_eq] at e
    rcases List.mem_cons.mp h with rfl | h
    · exact e.1
    · exact rowsB_ok e.2 l h
theorem rows_shape {i : Int} {r : List Key} {l : List Key} (h : l.map (·.isLeft) = ((Sum.inl i :: r : List Key)).map (·.isLeft)) : RowsOk (((Sum.inl i :: r : List Key)).map (·.isLeft)) l := by
  refine ⟨h, ?_⟩
  cases l with
  | nil => simp at h
  | cons a l =>
    cases a with
    | inl j => exact ⟨j, l, rfl⟩
    | inr s => simp at h
abbrev kD : Key → D := kDD
theorem keyD_kD {d : D} {k : Key} (h : keyD d = some k) : d = kD k := by
  cases d <;> simp [keyD] at h
  · subst h; rfl
  · subst h; rfl
theorem rowD_rel {K : PySem.W.Frag} {fa : Fa} {ρ : List Addr} {H : Hp} : ∀ {ds : List D} {xs : List V} {l : List Key}, RelDs K fa ρ H ds xs → rowD ds = some l → xs = l.map kV ∧ ds = l.map kD ∧ ∀ s, Sum.inr s ∈ l → sgood s = true
  | [], _, l, .nil, e => by cases e; exact ⟨rfl, rfl, fun _ h => nomatch h⟩
  | d :: ds, _, l, .cons h r, e => by
    unfold rowD at e
    split at e
    · rename_i k l' hk hl
      cases e
      obtain ⟨e1, e2, e3⟩ := rowD_rel r hl
      refine ⟨by rw [List.map_cons, keyD_rel h hk, e1], by rw [List.map_cons, keyD_kD hk, e2], fun s hs => ?_⟩
      rcases List.mem_cons.mp hs with q | q
      · subst q
        have := keyD_kD hk
        subst this
        cases h with | str _ g => exact g
      · exact e3 s q
    · cases e
theorem row_rels {K : PySem.W.Frag} {fa : Fa} {ρ : List Addr} {H : Hp} : ∀ (l : List Key), (∀ s, Sum.inr s ∈ l → sgood s = true) → RelDs K fa ρ H (l.map kD) (l.map kV)
  | [], _ => .nil
  | .inl i :: l, h => .cons (.int i) (row_rels l fun s hs => h s (List.mem_cons_of_mem _ hs))
  | .inr s :: l, h => .cons (.str s (h s List.mem_cons_self)) (row_rels l fun s hs => h s (List.mem_cons_of_mem _ hs))
theorem rowsD_rel {K : PySem.W.Frag} {fa : Fa} {ρ : List Addr} {H : Hp} : ∀ {ds : List D} {xs : List V} {ls : List (List Key)}, RelDs K fa ρ H ds xs → rowsD ds = some ls → RowsAre K H xs ls ∧ ∀ l ∈ ls, ∀ s, Sum.inr s ∈ l → sgood s = true
  | [], _, l, .nil, e => by cases e; exact ⟨trivial, fun _ h => nomatch h⟩
  | d :: ds, _, l, .cons h r, e => by
    unfold rowsD at e
    split at e
    · rename_i heq
      cases heq
    · rename_i ts r' heq
      cases heq
      split at e
      · rename_i l1 l2 h1 h2
        cases e
        cases h with | tup ht hr =>
        obtain ⟨e1, _, e3⟩ := rowD_rel hr h1
        subst e1
        obtain ⟨f1, f2⟩ := rowsD_rel r h2
        refine ⟨⟨⟨_, rfl, ht⟩, f1⟩, fun l hl => ?_⟩
        rcases List.mem_cons.mp hl with rfl | hl
        · exact e3
        · exact f2 l hl
      · cases e
    · cases e
theorem rows_rels {K : PySem.W.Frag} {fa : Fa} {ρ : List Addr} {H : Hp} : ∀ {ls : List (List Key)} {ys : List V}, RowsAre K H ys ls → (∀ l ∈ ls, ∀ s, Sum.inr s ∈ l → sgood s = true) → RelDs K fa ρ H (ls.map fun q => D.tup (q.map kD)) ys
  | [], [], _, _ => .nil
  | [], _ :: _, h, _ => h.elim
  | _ :: _, [], h, _ => h.elim
  | l :: ls, y :: ys, h, g => by
    obtain ⟨⟨t, e, hs⟩, r⟩ := h
    subst e
    exact .cons (.tup hs (row_rels l (g l List.mem_cons_self))) (rows_rels r fun l hl => g l (List.mem_cons_of_mem _ hl))
end RF

set_option Elab.async false
set_option linter.all false
set_option maxRecDepth 100000
set_option maxHeartbeats 4000000
namespace RF
open PySem PySem.Spec PyProof.Rows L2

/-! ### data as the layer's equality has them -/
mutual
def D.py : D → PyData
  | .non => .none
  | .bl b => .bool b
  | .int i => .int i
  | .str s => .str s
  | .tup ds => .tuple (D.pys ds)
  | .lst ds => .list (D.pys ds)
  | .ref _ => .none
  | .ty _ => .none
  | .fn _ => .none
  | .dct _ _ => .none
def D.pys : List D → List PyData
  | [] => []
  | d :: ds => D.py d :: D.pys ds
end
section
variable {K : PySem.W.Frag} {fa : Fa} {ρ : List Addr} {H : Hp} {M : Mh}
mutual
theorem dp_of : ∀ {n : Nat} {d : D} {v : V}, RelD K fa ρ H d v → d.dep n = true → Dp K H v d.py ∧ d.py.canLay0 = true ∧ d.py.depth ≤ n
  | n, _, _, .non, _ => ⟨.non, rfl, Nat.zero_le _⟩
  | n, _, _, .bl b, _ => ⟨.bl b, rfl, Nat.zero_le _⟩
  | n, _, _, .int i, _ => ⟨.int i, rfl, Nat.zero_le _⟩
  | n, _, _, .str s h, _ => ⟨.str s, sgood_ok h, Nat.zero_le _⟩
  | n + 1, _, _, .tup h r, e => by
    rw [D.dep] at e
    obtain ⟨h1, h2, h3⟩ := dps_of r e
    exact ⟨.tup h.seq h1, h2, Nat.succ_le_succ h3⟩
  | n + 1, _, _, .lst h r, e => by
    rw [D.dep] at e
    obtain ⟨h1, h2, h3⟩ := dps_of r e
    exact ⟨.lst h.seq h1, h2, Nat.succ_le_succ h3⟩
  | 0, _, _, .tup h r, e => by simp [D.dep] at e
  | 0, _, _, .lst h r, e => by simp [D.dep] at e
  | n, _, _, .ref h, e => by simp [D.dep] at e
  | n, _, _, .ty _, e => by simp [D.dep] at e
  | n, _, _, .fn _, e => by simp [D.dep] at e
  | n, _, _, .dct _ _ _ _, e => by simp [D.dep] at e
theorem dps_of : ∀ {n : Nat} {ds : List D} {vs : List V}, RelDs K fa ρ H ds vs → D.deps n ds = true → DpAll K H vs (D.pys ds) ∧ PyData.canLayAll0 (D.pys ds) = true ∧ PyData.depthAll (D.pys ds) ≤ n
  | n, _, _, .nil, _ => ⟨.nil, rfl, Nat.zero_le _⟩
  | n, _, _, .cons h r, e => by
    rw [D.deps, Bool.and_eq_true] at e
    obtain ⟨a1, a2, a3⟩ := dp_of h e.1
    obtain ⟨b1, b2, b3⟩ := dps_of r e.2
    refine ⟨.cons a1 b1, ?_, ?_⟩
    · show (PyData.canLay0 _ && PyData.canLayAll0 _) = true
      rw [a2, b2]; rfl
    · show max (PyData.depth _) (PyData.depthAll _) ≤ n
      exact Nat.max_le.mpr ⟨a3, b3⟩
end
mutual
theorem eqv_py : ∀ {n m : Nat} {a b : D}, a.dep n = true → b.dep m = true → PyData.eqv a.py b.py = D.eqv a b
  | _, _, .non, .non, _, _ => rfl
  | _, _, .bl _, .bl _, _, _ => rfl
  | _, _, .bl _, .int _, _, _ => rfl
  | _, _, .int _, .bl _, _, _ => rfl
  | _, _, .int _, .int _, _, _ => rfl
  | _, _, .str _, .str _, _, _ => rfl
  | n + 1, m + 1, .tup xs, .tup ys, h, k => by
    rw [D.dep] at h k
    show PyData.eqvAll (D.pys xs) (D.pys ys) = D.eqv _ _
    rw [eqvs_py h k, D.eqv]
  | n + 1, m + 1, .lst xs, .lst ys, h, k => by
    rw [D.dep] at h k
    show PyData.eqvAll (D.pys xs) (D.pys ys) = D.eqv _ _
    rw [eqvs_py h k, D.eqv]
  | 0, _, .tup _, _, h, _ => by simp [D.dep] at h
  | 0, _, .lst _, _, h, _ => by simp [D.dep] at h
  | _, 0, _, .tup _, _, h => by simp [D.dep] at h
  | _, 0, _, .lst _, _, h => by simp [D.dep] at h
  | _, _, .ref _, _, h, _ => by simp [D.dep] at h
  | _, _, .ty _, _, h, _ => by simp [D.dep] at h
  | _, _, .fn _, _, h, _ => by simp [D.dep] at h
  | _, _, .dct _ _, _, h, _ => by simp [D.dep] at h
  | _, _, _, .ref _, _, h => by simp [D.dep] at h
  | _, _, _, .ty _, _, h => by simp [D.dep] at h
  | _, _, _, .fn _, _, h => by simp [D.dep] at h
  | _, _, _, .dct _ _, _, h => by simp [D.dep] at h
  | _, _, .non, .bl _, _, _ | _, _, .non, .int _, _, _ | _, _, .non, .str _, _, _ | _, _, .non, .tup _, _, _ | _, _, .non, .lst _, _, _ => by simp [D.eqv, D.py]; rfl
  | _, _, .bl _, .non, _, _ | _, _, .bl _, .str _, _, _ | _, _, .bl _, .tup _, _, _ | _, _, .bl _, .lst _, _, _ => by simp [D.eqv, D.py]; rfl
  | _, _, .int _, .non, _, _ | _, _, .int _, .str _, _, _ | _, _, .int _, .tup _, _, _ | _, _, .int _, .lst _, _, _ => by simp [D.eqv, D.py]; rfl
  | _, _, .str _, .non, _, _ | _, _, .str _, .bl _, _, _ | _, _, .str _, .int _, _, _ | _, _, .str _, .tup _, _, _ | _, _, .str _, .lst _, _, _ => by simp [D.eqv, D.py]; rfl
  | _, _, .tup _, .non, _, _ | _, _, .tup _, .bl _, _, _ | _, _, .tup _, .int _, _, _ | _, _, .tup _, .str _, _, _ | _, _, .tup _, .lst _, _, _ => by simp [D.eqv, D.py]; rfl
  | _, _, .lst _, .non, _, _ | _, _, .lst _, .bl _, _, _ | _, _, .lst _, .int _, _, _ | _, _, .lst _, .str _, _, _ | _, _, .lst _, .tup _, _, _ => by simp [D.eqv, D.py]; rfl
theorem eqvs_py : ∀ {n m : Nat} {a b : List D}, D.deps n a = true → D.deps m b = true → PyData.eqvAll (D.pys a) (D.pys b) = D.eqvs a b
  | _, _, [], [], _, _ => rfl
  | _, _, [], _ :: _, _, _ => rfl
  | _, _, _ :: _, [], _, _ => rfl
  | n, m, x :: xs, y :: ys, h, k => by
    rw [D.deps, Bool.and_eq_true] at h k
    show (PyData.eqv x.py y.py && PyData.eqvAll (D.pys xs) (D.pys ys)) = _
    rw [eqv_py h.1 k.1, eqvs_py h.2 k.2, D.eqvs]
end
/-- a changing list, read as it is -/
theorem RelD.rd (S : Sim K fa ρ M H) {d : D} {v : V} (h : RelD K fa ρ H d v) : (∀ n, (rd M d).dep n = true → Dp K H v (rd M d).py ∧ (rd M d).py.canLay0 = true ∧ (rd M d).py.depth ≤ n) := by
  intro n e
  cases h with
  | @ref i a h =>
    simp only [RF.rd] at e ⊢
    split at e
    · rename_i ds hm
      obtain ⟨b, xs, h1, h2, r⟩ := S.at hm
      rw [h] at h1; cases h1
      cases n with
      | zero => simp [D.dep] at e
      | succ n =>
        rw [D.dep] at e
        obtain ⟨q1, q2, q3⟩ := dps_of r e
        exact ⟨.lst (.of h2) q1, q2, Nat.succ_le_succ q3⟩
    · simp [D.dep] at e
  | non => exact dp_of (K := K) (fa := fa) (ρ := ρ) (H := H) .non e
  | bl b => exact dp_of (K := K) (fa := fa) (ρ := ρ) (H := H) (.bl b) e
  | int b => exact dp_of (K := K) (fa := fa) (ρ := ρ) (H := H) (.int b) e
  | str b h => exact dp_of (K := K) (fa := fa) (ρ := ρ) (H := H) (.str b h) e
  | tup h r => exact dp_of (K := K) (fa := fa) (ρ := ρ) (H := H) (.tup h r) e
  | lst h r => exact dp_of (K := K) (fa := fa) (ρ := ρ) (H := H) (.lst h r) e
  | ty b => simp [RF.rd, D.dep] at e
  | fn b => simp [RF.rd, D.dep] at e
  | dct _ _ _ _ => simp [RF.rd, D.dep] at e
theorem shaped_of {d : D} (h : d.py.canLay0 = true) (k : d.py.depth ≤ 60) : SeqAt.shaped d.py = true := by
  unfold SeqAt.shaped
  rw [h, decide_eq_true (show d.py.depth ≤ 64 by omega)]; rfl
end

/-! ### texts -/
theorem mul_rep {x : Str} {n : Int} : Txt.mul x n = strRep x n := by
  unfold Txt.mul strRep
  split
  · rfl
  · rename_i h
    split
    · rename_i h2
      rw [Bool.or_eq_true] at h2
      rcases h2 with h2 | h2
      · have : n = 1 := by simpa using h2
        subst this
        obtain ⟨c⟩ := x
        simp
      · have : x.cps = #[] := by simpa [Str.length] using h2
        obtain ⟨c⟩ := x
        simp only at this
        subst this
        congr 1
        simp
    · congr 1
      have key : ∀ (k : Nat) (acc : Array Nat), (List.replicate k x.cps).foldl (fun a b => a ++ b) acc = (acc.toList ++ (List.replicate k x.cps.toList).flatten).toArray := by
        intro k
        induction k with
        | zero => intro acc; simp
        | succ k ih => intro acc; rw [List.replicate_succ, List.foldl_cons, ih, List.replicate_succ, List.flatten_cons, Array.toList_append, List.append_assoc]
      rw [key]; simp
theorem strRep_list {x : Str} {n : Int} : (strRep x n).cps.toList = (List.replicate n.toNat x.cps.toList).flatten := by
  unfold strRep
  split
  · have : n.toNat = 0 := by omega
    rw [this]; rfl
  · simp
theorem len_rep {α : Type} (l : List α) (k : Nat) : (List.replicate k l).flatten.length = k * l.length := by
  induction k with
  | zero => simp
  | succ k ih => rw [List.replicate_succ, List.flatten_cons, List.length_append, ih, Nat.succ_mul]; omega
theorem sgood_rep {s : Str} (h : sgood s = true) {n : Int} (hl : s.length ≤ 1000) (hn : n ≤ 1000) : sgood (strRep s n) = true := by
  have h1 := strOk_iff.mp (sgood_ok h)
  refine sgood_mk (strOk_iff.mpr fun c hc => ?_) ?_
  · rw [strRep_list] at hc
    obtain ⟨l, hl1, hl2⟩ := List.mem_flatten.mp hc
    rw [List.mem_replicate] at hl1
    obtain ⟨_, rfl⟩ := hl1
    exact h1 c hl2
  · have e : (strRep s n).length = (strRep s n).cps.toList.length := by simp [Str.length]
    rw [e, strRep_list, len_rep]
    have e2 : s.cps.toList.length = s.length := by simp [Str.length]
    rw [e2]
    have : n.toNat * s.length ≤ 1000 * 1000 := Nat.mul_le_mul (by omega) hl
    omega
theorem sgood_join {a : Str} (h : sgood a = true) : ∀ (ys : List Str), (∀ s ∈ ys, sgood s = true) → (ys.map Str.length).sum + ys.length * a.length ≤ LINE → sgood (Str.join a ys) = true := by
  intro ys hy hl
  refine sgood_mk ?_ (Nat.le_trans (StrLaws.join_length_le a ys) hl)
  clear hl
  induction ys with
  | nil => exact strOk_iff.mpr fun c hc => by cases hc
  | cons x r ih =>
    have hx := sgood_ok (hy x List.mem_cons_self)
    have ih := ih fun s hs => hy s (List.mem_cons_of_mem _ hs)
    cases r with
    | nil => exact hx
    | cons y r =>
      have e : Str.join a (x :: y :: r) = x ++ a ++ Str.join a (y :: r) := rfl
      rw [e]
      have ap : ∀ {p q : Str}, PyData.strOk p = true → PyData.strOk q = true → PyData.strOk (p ++ q) = true := fun {p q} h1 h2 => by
        refine strOk_iff.mpr fun c hc => ?_
        have e : (p ++ q).cps.toList = p.cps.toList ++ q.cps.toList := by
          show (p.cps ++ q.cps).toList = _
          simp
        rw [e] at hc
        rcases List.mem_append.mp hc with hc | hc
        · exact strOk_iff.mp h1 c hc
        · exact strOk_iff.mp h2 c hc
      exact ap (ap hx (sgood_ok h)) ih

/-! ### the rules -/
section
variable {X : Cx} {fa : Fa} {cl : Nat → Value}
/-- two data -/
def rD2 (K : PySem.W.Frag) (fa : Fa) (cl : Nat → Value) (g : D → D → Mh → R D) : R2 := fun x y H Q => ∃ (ρ : List Addr) (M : Mh) (d e : D) (W : XK), RelD K fa ρ H d x ∧ RelD K fa ρ H e y ∧ Sim K fa ρ M H ∧ Post K fa cl (RelD K fa) ρ H (g d e M) Q W
theorem opB_bin (op : Operator) : OpR X (binaryOp op) (rD2 X.K fa cl (binD op)) := by
  intro pins s σ H x y v u Q I rx ry ⟨ρ, M, d, e, W, h1, h2, S, p⟩
  unfold binD at p
  split at p
  · cases h1; cases h2; exact op_add pins s σ H _ _ v u Q I rx ry ⟨_, _, rfl, rfl, p.ok0 (.int _) S⟩
  · cases h1; cases h2; exact op_sub pins s σ H _ _ v u Q I rx ry ⟨_, _, rfl, rfl, p.ok0 (.int _) S⟩
  · split at p
    · rename_i hc
      cases h1; cases h2
      refine op_mul pins s σ H _ _ v u Q I rx ry ⟨_, _, rfl, rfl, ?_, p.ok0 (.int _) S⟩
      unfold mulOk at hc
      rw [Bool.or_eq_true, decide_eq_true_eq, decide_eq_true_eq] at hc
      unfold L2.CMul
      omega
    · exact p.elim
  · split at p
    · rename_i hc
      cases h1; cases h2
      refine op_fdivN pins s σ H _ _ v u Q I rx ry ⟨_, _, rfl, rfl, ?_, p.ok0 (.int _) S⟩
      unfold divOk at hc
      simpa [L2.CDivN] using hc
    · exact p.elim
  · split at p
    · exact p.elim
    · rename_i hc
      cases h1; cases h2
      exact op_modN pins s σ H _ _ v u Q I rx ry ⟨_, _, rfl, rfl, hc, p.ok0 (.int _) S⟩
  · split at p
    · rename_i hc
      cases h1; cases h2
      refine op_pow pins s σ H _ _ v u Q I rx ry ⟨_, _, rfl, rfl, ?_, p.ok0 (.int _) S⟩
      unfold powOk at hc
      simp only [Bool.and_eq_true, decide_eq_true_eq] at hc
      exact ⟨hc.1.1, hc.1.2, hc.2⟩
    · exact p.elim
  · split at p
    · rename_i hc
      cases h1 with | str _ g1 => cases h2 with | str _ g2 =>
      exact op_add_str pins s σ H _ _ v u Q I rx ry ⟨_, _, rfl, rfl, by rw [sizeLine_eq]; exact hc, p.ok0 (.str _ (sgood_append g1 g2 hc)) S⟩
    · exact p.elim
  · split at p
    · rename_i hc
      cases h1 with | tup t1 r1 => cases h2 with | tup t2 r2 =>
      refine op_catN pins s σ H _ _ v u Q I rx ry ⟨_, _, _, _, rfl, rfl, t1.seq, t2.seq, by rw [sizeLine_eq, ← r1.length, ← r2.length]; exact hc, fun e => ?_, fun _ e => ?_, fun _ _ q o hq hd => ?_⟩
      · subst e
        cases r1
        exact p.ok0 (.tup t2 r2) S
      · subst e
        cases r2
        exact p.ok0 (.tup t1 (by simpa using r1)) S
      · exact tup_new S hq hd (r1.append r2) p
    · exact p.elim
  · split at p
    · rename_i hc
      simp only [Bool.and_eq_true, decide_eq_true_eq] at hc
      obtain ⟨⟨c1, c2⟩, c3⟩ := hc
      cases h1 with | tup t1 r1 =>
      cases h2 with | int k =>
      refine op_repA pins s σ H _ _ v u Q I rx ry ⟨_, _, _, rfl, rfl, t1.seq, c3, c2, by rw [← r1.length]; exact c1, fun e => ?_, fun _ hk q o hq hd => ?_, fun _ _ q o hq hd => ?_⟩
      · rcases e with e | e
        · subst e
          cases r1
          refine p.ok0 (.tup t1 ?_) S
          simp
          exact .nil
        · subst e
          refine p.ok0 (.tup t1 ?_) S
          simpa using r1
      · rw [Int.toNat_of_nonpos hk] at p
        exact tup_new S hq hd .nil p
      · exact tup_new S hq hd (r1.rep _) p
    · exact p.elim
  · split at p
    · rename_i hc
      simp only [Bool.and_eq_true, decide_eq_true_eq] at hc
      obtain ⟨⟨c1, c2⟩, c3⟩ := hc
      cases h1 with | str _ g1 => cases h2 with | int k =>
      refine op_repS pins s σ H _ _ v u Q I rx ry ⟨_, _, rfl, rfl, c1, c3, c2, ?_⟩
      rw [mul_rep]
      exact p.ok0 (.str _ (sgood_rep g1 c1 c2)) S
    · exact p.elim
  · split at p
    · rename_i e1 e2
      split at p
      · rename_i hc
        obtain ⟨a1, xs1, rfl, r1, _, q1⟩ := seqOf_rel S h1 e1
        obtain ⟨a2, xs2, rfl, r2, _, q2⟩ := seqOf_rel S h2 e2
        refine op_frz op_catL pins s σ H _ _ v u Q I rx ry ⟨_, _, _, _, rfl, rfl, q1 rfl, q2 rfl, by rw [sizeLine_eq, ← r1.length, ← r2.length]; exact hc, fun q hq => ?_⟩
        exact frzQ_new S hq (r1.append r2) p
      · exact p.elim
    · exact p.elim
  · exact p.elim

theorem flat_rel {K : PySem.W.Frag} {ρ : List Addr} {H : Hp} {d : D} {v : V} (h : RelD K fa ρ H d v) (f : d.flat = true) : flatV v = true ∧ ∀ {e : D} {u : V}, RelD K fa ρ H e u → e.flat = true → eqV v u = D.eqv d e := by
  cases h with
  | non => exact ⟨rfl, fun h f => by cases h <;> first | rfl | simp [D.flat] at f⟩
  | bl b => exact ⟨rfl, fun h f => by cases h <;> first | rfl | simp [D.flat] at f⟩
  | int i => exact ⟨rfl, fun h f => by cases h <;> first | rfl | simp [D.flat] at f⟩
  | str s hs => exact ⟨rfl, fun h f => by cases h <;> first | rfl | simp [D.flat] at f⟩
  | tup _ _ => simp [D.flat] at f
  | lst _ _ => simp [D.flat] at f
  | ref _ => simp [D.flat] at f
  | ty _ => simp [D.flat] at f
  | fn _ => simp [D.flat] at f
  | dct _ _ _ _ => simp [D.flat] at f
theorem flats_rel {K : PySem.W.Frag} {ρ : List Addr} {H : Hp} {e : D} {u : V} (he : RelD K fa ρ H e u) (fe : e.flat = true) : ∀ {ds : List D} {vs : List V}, RelDs K fa ρ H ds vs → ds.all D.flat = true → vs.all flatV = true ∧ inV u vs = ds.any fun z => D.eqv z e
  | _, _, .nil, _ => ⟨rfl, rfl⟩
  | _, _, .cons h r, f => by
    rw [List.all_cons, Bool.and_eq_true] at f
    obtain ⟨a1, a2⟩ := flat_rel h f.1
    obtain ⟨b1, b2⟩ := flats_rel he fe r f.2
    unfold inV at b2 ⊢
    rw [List.all_cons, List.any_cons, List.any_cons, a1, b1, a2 he fe, b2]
    exact ⟨rfl, rfl⟩
theorem strLt_eq {i j : Str} : decide (i.cps.toList < j.cps.toList) = strLt i j := rfl
theorem seqOf_rd {M : Mh} {d : D} {k : Bool} {ds : List D} (h : seqOf M d = some (k, ds)) : rd M d = if k then .tup ds else .lst ds := by
  unfold seqOf at h
  split at h
  · cases h; rfl
  · cases h; rfl
  · split at h
    · rename_i n xs e
      cases h
      unfold rd
      simp only [e]; rfl
    · cases h
  · cases h
theorem any_py {x : D} (hx : x.dep 60 = true) : ∀ {ds : List D}, D.deps 59 ds = true → ((D.pys ds).any fun z => PyData.eqv z x.py) = ds.any fun z => D.eqv z x
  | [], _ => rfl
  | d :: ds, h => by
    rw [D.deps, Bool.and_eq_true] at h
    show (PyData.eqv d.py x.py || (D.pys ds).any _) = _
    rw [List.any_cons, any_py hx h.2, eqv_py h.1 hx]
theorem op_inDeep {neg : Bool} (hu : X.A.units + 65 < cLine) : OpR X (compareOp (if neg then .NotIn else .In)) (rD2 X.K fa cl fun d e M => match seqOf M e with
    | some (_, ds) => if d.dep 60 && D.deps 59 ds then .ok (.bl (if neg then !(ds.any fun z => D.eqv z d) else ds.any fun z => D.eqv z d)) M else .bad
    | none => .bad) := by
  intro pins s σ H x y v u Q I rx ry ⟨ρ, M, d, e, W, h1, h2, S, p⟩
  cases hs : seqOf M e with
  | none => simp only [hs] at p; exact p.elim
  | some kd =>
    obtain ⟨k, ds⟩ := kd
    simp only [hs] at p
    split at p
    · rename_i hd
      rw [Bool.and_eq_true] at hd
      have er := seqOf_rd hs
      have hde : (rd M e).dep 60 = true := by rw [er]; cases k <;> exact hd.2
      have hrd : rd M d = d := by cases d <;> first | rfl | (simp [D.dep] at hd)
      obtain ⟨a1, a2, a3⟩ := h1.rd S 60 (by rw [hrd]; exact hd.1)
      obtain ⟨b1, b2, b3⟩ := h2.rd S 60 hde
      rw [hrd] at a1 a2 a3
      rw [er] at b1 b2 b3
      have q := p.ok0 (.bl _) S
      rw [← any_py hd.1 hd.2] at q
      obtain ⟨as, r1⟩ := Dp.reads I _ x v a1 rx
      obtain ⟨bs, r2⟩ := Dp.reads I _ y u b1 ry
      have sd := shaped_of a2 a3
      cases k with
      | true =>
        have sl : PyData.canLayAll0 (D.pys ds) = true := b2
        cases neg with
        | true => exact SeqAt.notIn_tuple_reads r2 r1 sl (SeqAt.canLay_of_shaped sd) (room_in_shaped sd hu) ⟨.bl _, H, I, rfl, q⟩
        | false => exact SeqAt.in_tuple_reads r2 r1 sl (SeqAt.canLay_of_shaped sd) (room_in_shaped sd hu) ⟨.bl _, H, I, rfl, q⟩
      | false =>
        have sl : PyData.canLayAll0 (D.pys ds) = true := b2
        cases neg with
        | true => exact SeqAt.notIn_list_reads r2 r1 sl (SeqAt.canLay_of_shaped sd) (room_in_shaped sd hu) ⟨.bl _, H, I, rfl, q⟩
        | false => exact SeqAt.in_list_reads r2 r1 sl (SeqAt.canLay_of_shaped sd) (room_in_shaped sd hu) ⟨.bl _, H, I, rfl, q⟩
    · exact p.elim
theorem opC_in {neg : Bool} (hu : X.A.units + 65 < cLine) : OpR X (compareOp (if neg then .NotIn else .In)) (rD2 X.K fa cl fun d e M => ofO M ((inD M d e).map fun b => D.bl (if neg then !b else b))) := by
  intro pins s σ H x y v u Q I rx ry ⟨ρ, M, d, e, W, h1, h2, S, p⟩
  cases hb : inD M d e with
  | none => simp only [hb, Option.map_none, ofO] at p; exact p.elim
  | some b =>
    simp only [hb, Option.map_some, ofO] at p
    have q := p.ok0 (.bl _) S
    unfold inD at hb
    split at hb
    · rename_i ks ds
      cases hk : keyD d with
      | none => rw [hk] at hb; cases hb
      | some k =>
        rw [hk] at hb
        simp only [Option.map_some, Option.some.injEq] at hb
        cases h2 with | dct hf hk2 hv r =>
        subst hk2
        have g := dget_of hf hk h1
        have eb : (valV _ k).isSome = b := (mem_valV k _).symm.trans hb
        rw [← eb] at q
        cases rx2 : ry
        cases neg with
        | true => exact d_notIn (by omega) I g rx fun s' I' => ⟨.bl _, H, I', rfl, q⟩
        | false => exact d_in (by omega) I g rx fun s' I' => ⟨.bl _, H, I', rfl, q⟩
    · cases h2 with
      | str z hz =>
        split at hb
        · cases h1 with
          | str c hc =>
            simp only [Option.some.injEq] at hb
            unfold inStr at hb
            split at hb
            · rename_i k hk
              have ek : ∀ {c : Str} {k : Nat}, c.cps.toList = [k] → c = ⟨#[k]⟩ := fun {c k} e => by
                obtain ⟨a⟩ := c
                have : a = [k].toArray := by rw [← e]
                rw [this]
              have ek := ek hk
              cases neg with
              | true => exact op_notIn_sign pins s σ H _ _ v u Q I rx ry ⟨k, _, by rw [ek], rfl, by rw [hb]; exact q⟩
              | false => exact op_in_sign pins s σ H _ _ v u Q I rx ry ⟨k, _, by rw [ek], rfl, by rw [hb]; exact q⟩
            · cases neg with
              | true => exact op_notIn_str pins s σ H _ _ v u Q I rx ry ⟨_, _, rfl, rfl, by rw [hb]; exact q⟩
              | false => exact op_in_str pins s σ H _ _ v u Q I rx ry ⟨_, _, rfl, rfl, by rw [hb]; exact q⟩
        · cases hb
    · split at hb
      · rename_i k ds hs
        split at hb
        · rename_i hf
          simp only [Option.some.injEq] at hb
          by_cases hflat : (d.flat && ds.all D.flat) = true
          · rw [Bool.and_eq_true] at hflat
            have hf := hflat
            obtain ⟨a, xs, rfl, r, q1, q2⟩ := seqOf_rel S h2 hs
            obtain ⟨f1, f2⟩ := flats_rel h1 hf.1 r hf.2
            have fx := (flat_rel h1 hf.1).1
            rw [hb] at f2
            have hq : SqL X.K H a xs ∨ SqT X.K H a xs := by
              cases k with
              | true => exact .inr (q1 rfl).seq
              | false => exact .inl (q2 rfl)
            cases neg with
            | true => exact op_notIn_seq pins s σ H _ _ v u Q I rx ry ⟨a, xs, rfl, hq, fx, f1, by rw [f2]; exact q⟩
            | false => exact op_in_seq pins s σ H _ _ v u Q I rx ry ⟨a, xs, rfl, hq, fx, f1, by rw [f2]; exact q⟩
          · have hdd : (d.dep 60 && D.deps 59 ds) = true := by
              rw [Bool.or_eq_true] at hf
              rcases hf with hf | hf
              · exact absurd hf hflat
              · exact hf
            refine op_inDeep (cl := cl) (neg := neg) hu pins s σ H x y v u Q I rx ry ⟨ρ, M, d, e, W, h1, h2, S, ?_⟩
            simp only [hs]
            rw [if_pos hdd, hb]
            exact p
        · cases hb
      · cases hb
theorem opC_eq {neg : Bool} (hu : X.A.units + 64 < cLine) : OpR X (compareOp (if neg then .NotEq else .Eq)) (rD2 X.K fa cl fun d e M => ofO M ((eqD M d e).map fun b => D.bl (if neg then !b else b))) := by
  intro pins s σ H x y v u Q I rx ry ⟨ρ, M, d, e, W, h1, h2, S, p⟩
  cases hb : eqD M d e with
  | none => simp only [hb, Option.map_none, ofO] at p; exact p.elim
  | some b =>
    simp only [hb, Option.map_some, ofO] at p
    have q := p.ok0 (.bl _) S
    unfold eqD at hb
    split at hb
    · rename_i hd
      rw [Bool.and_eq_true] at hd
      obtain ⟨a1, a2, a3⟩ := h1.rd S 60 hd.1
      obtain ⟨b1, b2, b3⟩ := h2.rd S 60 hd.2
      simp only [Option.some.injEq] at hb
      have e := eqv_py hd.1 hd.2
      rw [hb] at e
      cases neg with
      | true => exact op_neD hu pins s σ H _ _ v u Q I rx ry ⟨_, _, a1, b1, shaped_of a2 a3, shaped_of b2 b3, by rw [e]; exact q⟩
      | false => exact op_eqD hu pins s σ H _ _ v u Q I rx ry ⟨_, _, a1, b1, shaped_of a2 a3, shaped_of b2 b3, by rw [e]; exact q⟩
    · cases hb
theorem opC_is {neg : Bool} : OpR X (compareOp (if neg then .IsNot else .Is)) (rD2 X.K fa cl fun d e M => cmpD (if neg then .IsNot else .Is) d e M) := by
  intro pins s σ H x y v u Q I rx ry ⟨ρ, M, d, e, W, h1, h2, S, p⟩
  cases neg with
  | true =>
    simp only [if_true, cmpD] at p
    split at p
    · cases h2
      have q := p.ok0 (.bl _) S
      exact op_notN pins s σ H _ _ v u Q I rx ry ⟨rfl, by cases h1 <;> exact q⟩
    · split at p
      · cases h1; cases h2
        exact op_notBl pins s σ H _ _ v u Q I rx ry ⟨_, _, rfl, rfl, p.ok0 (.bl _) S⟩
      · exact p.elim
    · exact p.elim
  | false =>
    simp only [Bool.false_eq_true, if_false, cmpD] at p
    split at p
    · cases h2
      have q := p.ok0 (.bl _) S
      exact op_isN pins s σ H _ _ v u Q I rx ry ⟨rfl, by cases h1 <;> exact q⟩
    · split at p
      · cases h1; cases h2
        exact op_isBl pins s σ H _ _ v u Q I rx ry ⟨_, _, rfl, rfl, p.ok0 (.bl _) S⟩
      · exact p.elim
    · exact p.elim
theorem opB_cmp (hu' : X.A.units + 65 < cLine) (op : CmpOp) : OpR X (compareOp op) (rD2 X.K fa cl (cmpD op)) := by
  have hu : X.A.units + 64 < cLine := by omega
  cases op with
  | Eq => exact opC_eq (neg := false) hu
  | NotEq => exact opC_eq (neg := true) hu
  | In => exact opC_in (neg := false) hu'
  | NotIn => exact opC_in (neg := true) hu'
  | Is => exact opC_is (neg := false)
  | IsNot => exact opC_is (neg := true)
  | Lt =>
    intro pins s σ H x y v u Q I rx ry ⟨ρ, M, d, e, W, h1, h2, S, p⟩
    simp only [cmpD] at p
    split at p
    · cases h1; cases h2; exact op_lt pins s σ H _ _ v u Q I rx ry ⟨_, _, rfl, rfl, p.ok0 (.bl _) S⟩
    · cases h1; cases h2; exact op_lt_str pins s σ H _ _ v u Q I rx ry ⟨_, _, rfl, rfl, p.ok0 (.bl _) S⟩
    · exact p.elim
  | LtE =>
    intro pins s σ H x y v u Q I rx ry ⟨ρ, M, d, e, W, h1, h2, S, p⟩
    simp only [cmpD] at p
    split at p
    · cases h1; cases h2; exact op_le pins s σ H _ _ v u Q I rx ry ⟨_, _, rfl, rfl, p.ok0 (.bl _) S⟩
    · cases h1; cases h2; exact op_le_str pins s σ H _ _ v u Q I rx ry ⟨_, _, rfl, rfl, p.ok0 (.bl _) S⟩
    · exact p.elim
  | Gt =>
    intro pins s σ H x y v u Q I rx ry ⟨ρ, M, d, e, W, h1, h2, S, p⟩
    simp only [cmpD] at p
    split at p
    · cases h1; cases h2; exact op_gt pins s σ H _ _ v u Q I rx ry ⟨_, _, rfl, rfl, p.ok0 (.bl _) S⟩
    · cases h1; cases h2; exact op_gt_str pins s σ H _ _ v u Q I rx ry ⟨_, _, rfl, rfl, p.ok0 (.bl _) S⟩
    · exact p.elim
  | GtE =>
    intro pins s σ H x y v u Q I rx ry ⟨ρ, M, d, e, W, h1, h2, S, p⟩
    simp only [cmpD] at p
    split at p
    · cases h1; cases h2; exact op_ge pins s σ H _ _ v u Q I rx ry ⟨_, _, rfl, rfl, p.ok0 (.bl _) S⟩
    · cases h1; cases h2; exact op_ge_str pins s σ H _ _ v u Q I rx ry ⟨_, _, rfl, rfl, p.ok0 (.bl _) S⟩
    · exact p.elim
end
end RF

set_option Elab.async false
set_option linter.all false
set_option maxRecDepth 100000
set_option maxHeartbeats 4000000
namespace RF
open PySem PySem.Spec PyProof.Rows L2

/-! ### built-ins over data -/
/-- the built-in's own value -/
def Bi.val : Bi → Value
  | .len => .builtin "len"
  | .abs => .builtin "abs"
  | .int => .type "int"
  | .min => .builtin "min"
  | .max => .builtin "max"
  | .sum => .builtin "sum"
  | .all => .builtin "all"
  | .any => .builtin "any"
  | .tuple => .type "tuple"
  | .list => .type "list"
  | .isinst => .builtin "isinstance"
  | .str => .type "str"
  | .sorted => .builtin "sorted"
  | .dict => .type "dict"
def rDs (K : PySem.W.Frag) (fa : Fa) (cl : Nat → Value) (g : List D → Mh → R D) : List V → Hp → VK → Prop := fun vs H Q => ∃ (ρ : List Addr) (M : Mh) (ds : List D) (W : XK), RelDs K fa ρ H ds vs ∧ Sim K fa ρ M H ∧ Post K fa cl (RelD K fa) ρ H (g ds M) Q W
theorem maxI_of : ∀ (l : List Int) (x : Int), l.foldl (fun m y => if y > m then y else m) x ∈ x :: l ∧ ∀ y ∈ x :: l, y ≤ l.foldl (fun m y => if y > m then y else m) x
  | [], x => by simp
  | a :: r, x => by
    rw [List.foldl_cons]
    obtain ⟨h1, h2⟩ := maxI_of r (if a > x then a else x)
    refine ⟨?_, fun y hy => ?_⟩
    · rcases List.mem_cons.mp h1 with h | h
      · rw [h]; split <;> simp
      · exact List.mem_cons_of_mem _ (List.mem_cons_of_mem _ h)
    · have hb := h2 (if a > x then a else x) List.mem_cons_self
      rcases List.mem_cons.mp hy with rfl | hy
      · refine Int.le_trans ?_ hb; split <;> omega
      · rcases List.mem_cons.mp hy with rfl | hy
        · refine Int.le_trans ?_ hb; split <;> omega
        · exact h2 y (List.mem_cons_of_mem _ hy)
theorem minI_of : ∀ (l : List Int) (x : Int), l.foldl (fun m y => if y < m then y else m) x ∈ x :: l ∧ ∀ y ∈ x :: l, l.foldl (fun m y => if y < m then y else m) x ≤ y
  | [], x => by simp
  | a :: r, x => by
    rw [List.foldl_cons]
    obtain ⟨h1, h2⟩ := minI_of r (if a < x then a else x)
    refine ⟨?_, fun y hy => ?_⟩
    · rcases List.mem_cons.mp h1 with h | h
      · rw [h]; split <;> simp
      · exact List.mem_cons_of_mem _ (List.mem_cons_of_mem _ h)
    · have hb := h2 (if a < x then a else x) List.mem_cons_self
      rcases List.mem_cons.mp hy with rfl | hy
      · refine Int.le_trans hb ?_; split <;> omega
      · rcases List.mem_cons.mp hy with rfl | hy
        · refine Int.le_trans hb ?_; split <;> omega
        · exact h2 y (List.mem_cons_of_mem _ hy)
theorem maxI_eq {l : List Int} {m a : Int} (h : maxI l = some m) (ha : a ∈ l) (hb : ∀ y, y ∈ l → y ≤ a) : a = m ∧ 0 < l.length := by
  cases l with
  | nil => cases h
  | cons x r =>
    simp only [maxI, Option.some.injEq] at h
    obtain ⟨h1, h2⟩ := maxI_of r x
    rw [h] at h1 h2
    exact ⟨Int.le_antisymm (h2 a ha) (hb m h1), by simp⟩
theorem minI_eq {l : List Int} {m a : Int} (h : minI l = some m) (ha : a ∈ l) (hb : ∀ y, y ∈ l → a ≤ y) : a = m ∧ 0 < l.length := by
  cases l with
  | nil => cases h
  | cons x r =>
    simp only [minI, Option.some.injEq] at h
    obtain ⟨h1, h2⟩ := minI_of r x
    rw [h] at h1 h2
    exact ⟨Int.le_antisymm (hb m h1) (h2 a ha), by simp⟩
theorem signs_rels {K : PySem.W.Frag} {fa : Fa} {ρ : List Addr} {H : Hp} {s : Str} (h : sgood s = true) : RelDs K fa ρ H (signs s) (s.cps.toList.map fun c => V.str ⟨#[c]⟩) := by
  have key : ∀ l : List Nat, (∀ c ∈ l, c ∈ s.cps.toList) → RelDs K fa ρ H (l.map fun c => D.str ⟨#[c]⟩) (l.map fun c => V.str ⟨#[c]⟩) := by
    intro l
    induction l with
    | nil => intro _; exact .nil
    | cons c r ih => intro hl; exact .cons (.str _ (sgood_sign h (hl c List.mem_cons_self))) (ih fun x hx => hl x (List.mem_cons_of_mem _ hx))
  exact key _ fun _ h => h
theorem ints_rels {K : PySem.W.Frag} {fa : Fa} {ρ : List Addr} {H : Hp} : ∀ l : List Int, RelDs K fa ρ H (l.map D.int) (l.map V.int)
  | [] => .nil
  | _ :: r => .cons (.int _) (ints_rels r)
theorem strs_rels {K : PySem.W.Frag} {fa : Fa} {ρ : List Addr} {H : Hp} : ∀ l : List Str, (∀ s ∈ l, sgood s = true) → RelDs K fa ρ H (l.map D.str) (l.map V.str)
  | [], _ => .nil
  | _ :: r, h => .cons (.str _ (h _ List.mem_cons_self)) (strs_rels r fun s hs => h s (List.mem_cons_of_mem _ hs))
theorem RelDs.tups {K : PySem.W.Frag} {fa : Fa} {ρ : List Addr} {H : Hp} : ∀ {ds : List D} {vs : List V} {ls : List (List Int)}, RelDs K fa ρ H ds vs → tupsD ds = some ls → TupsAre K H vs ls ∧ ∀ l ∈ ls, l ≠ []
  | _, _, _, .nil, e => by cases e; exact ⟨trivial, fun _ h => nomatch h⟩
  | _ :: ds2, _, _, .cons (.tup (ds := ds) h q) r, e => by
    unfold tupsD at e
    cases qi : intsD ds with
    | none => simp only [qi] at e; cases e
    | some m =>
      simp only [qi] at e
      cases m with
      | nil => cases e
      | cons x l =>
        cases qr : tupsD ds2 with
        | none => simp only [qr] at e; cases e
        | some ls =>
          simp only [qr] at e
          cases e
          obtain ⟨h1, h2⟩ := RelDs.tups r qr
          have ex := q.ints qi
          subst ex
          refine ⟨⟨⟨_, rfl, h⟩, h1⟩, fun y hy => ?_⟩
          rcases List.mem_cons.mp hy with rfl | hy
          · simp
          · exact h2 y hy
  | _, _, _, .cons .non r, e => by simp [tupsD] at e
  | _, _, _, .cons (.bl _) r, e => by simp [tupsD] at e
  | _, _, _, .cons (.int _) r, e => by simp [tupsD] at e
  | _, _, _, .cons (.str _ _) r, e => by simp [tupsD] at e
  | _, _, _, .cons (.lst _ _) r, e => by simp [tupsD] at e
  | _, _, _, .cons (.ref _) r, e => by simp [tupsD] at e
  | _, _, _, .cons (.ty _) r, e => by simp [tupsD] at e
  | _, _, _, .cons (.fn _) r, e => by simp [tupsD] at e
  | _, _, _, .cons (.dct _ _ _ _) r, e => by simp [tupsD] at e
theorem tups_rels {K : PySem.W.Frag} {fa : Fa} {ρ : List Addr} {H : Hp} : ∀ {ls : List (List Int)} {ys : List V}, TupsAre K H ys ls → RelDs K fa ρ H (ls.map fun q => D.tup (q.map D.int)) ys
  | [], [], _ => .nil
  | [], _ :: _, h => h.elim
  | _ :: _, [], h => h.elim
  | l :: ls, y :: ys, h => by
    obtain ⟨⟨t, e, hs⟩, r⟩ := h
    subst e
    exact .cons (.tup hs (ints_rels l)) (tups_rels r)
theorem isTy_kit {a b : String} {r : Bool} (h : isTy a b = some r) : kitB a b = some r := by
  unfold isTy at h
  split at h
  · rename_i hb
    simp only [Bool.or_eq_true, beq_iff_eq] at hb
    split at h
    · rename_i ha
      have ha := eq_of_beq ha
      subst ha
      cases h
      rcases hb with ((((hb | hb) | hb) | hb) | hb) | hb <;> subst hb <;> decide +kernel
    · split at h
      · rename_i h2
        rw [Bool.and_eq_true] at h2
        have e1 := eq_of_beq h2.1
        have e2 := eq_of_beq h2.2
        subst e1 e2
        cases h
        decide +kernel
      · split at h
        · rename_i hne hn2 ha
          simp only [Bool.or_eq_true, beq_iff_eq] at ha
          cases h
          rcases hb with ((((hb | hb) | hb) | hb) | hb) | hb <;> subst hb <;> rcases ha with ((((ha | ha) | ha) | ha) | ha) | ha <;> subst ha <;> first
            | (decide +kernel)
            | exact absurd rfl hne
            | exact absurd rfl hn2
        · cases h
  · cases h
theorem sgood_int {i : Int} (h : i.natAbs.log2 < 1920) : sgood (Str.ofString (toString i)) = true := by
  have hl := int_text_fits h
  rw [sizeLine_eq] at hl
  refine sgood_mk (strOk_iff.mpr fun c hc => ?_) hl
  by_cases hlt : c < 0x110000
  · exact hlt
  · exact absurd hc (int_text_free' c ⟨by omega, .inr (by omega)⟩ i)
section
variable {X : Cx} {fa : Fa} {cl : Nat → Value}
theorem tyOf_rel {K : PySem.W.Frag} {ρ : List Addr} {H : Hp} {M : Mh} (S : Sim K fa ρ M H) {d : D} {v : V} (h : RelD K fa ρ H d v) {t : String} (e : tyOf M d = some t) : TyX K H v (.type t) := by
  cases h with
  | non => cases e; exact .base .non
  | bl b => cases e; exact .base (.bl b)
  | int i => cases e; exact .base (.int i)
  | str s hs => cases e; exact .base (.str s)
  | tup h r =>
    cases e
    rcases h with ⟨o, h, _⟩ | ⟨o, its, n, hk, hc, _⟩
    · exact .fTuple h
    · exact .kTuple hk hc
  | lst h r =>
    cases e
    rcases h with ⟨o, h⟩ | ⟨o, its, n, hk, hc, _⟩
    · exact .base (.frz h)
    · exact .kList hk hc
  | ref h =>
    simp only [tyOf] at e
    split at e
    · rename_i ds hm
      cases e
      obtain ⟨a, xs, h1, h2, r⟩ := S.at hm
      rw [h] at h1; cases h1
      exact .base (.lst h2)
    · cases e
  | ty _ => cases e
  | fn _ => cases e
  | dct _ _ _ _ => cases e
theorem crB (hc : X.calm = true) (b : Bi) : CallR X b.val (rDs X.K fa cl (biD b)) := by
  intro pins s σ H vs us Q I rv ⟨ρ, M, ds, W, h, S, p⟩
  unfold biD at p
  split at p
  · -- len of a text
    cases h with | cons h r =>
    cases r; cases h with | str z hz =>
    exact call_len pins s σ H _ us Q I rv ⟨_, _, rfl, ⟨by rw [sizeLine_eq]; exact by have := sgood_len hz; rwa [sizeLine_eq] at this, rfl⟩, p.ok0 (.int _) S⟩
  · split at p
    · rename_i e
      cases h with | cons h r =>
      cases r
      obtain ⟨a, xs, rfl, r, q1, q2⟩ := seqOf_rel S h e
      rename_i k _
      refine call_len pins s σ H _ us Q I rv ⟨_, _, rfl, ?_, p.ok0 (.int _) S⟩
      cases k with
      | true => exact .inr ⟨xs, (q1 rfl).seq, by rw [r.length]⟩
      | false => exact .inl ⟨xs, q2 rfl, by rw [r.length]⟩
    · exact p.elim
  · cases h with | cons h r =>
    cases r; cases h
    exact call_abs pins s σ H _ us Q I rv ⟨_, rfl, p.ok0 (.int _) S⟩
  · cases h with | cons h r =>
    cases r; cases h
    exact call_int1 pins s σ H _ us Q I rv (.inl ⟨_, rfl, p.ok0 (.int _) S⟩)
  · cases h with | cons h r =>
    cases r; cases h
    exact call_int1 pins s σ H _ us Q I rv (.inr ⟨_, rfl, p.ok0 (.int _) S⟩)
  · split at p
    · rename_i hz
      cases h with | cons h r =>
      cases r; cases h
      exact call_str_int pins s σ H _ us Q I rv ⟨_, rfl, hz, p.ok0 (.str _ (sgood_int hz)) S⟩
    · exact p.elim
  · cases h with | cons h r =>
    cases r with | cons h' r =>
    cases r; cases h; cases h'
    exact call_max2 hc pins s σ H _ us Q I rv ⟨_, _, rfl, p.ok0 (.int _) S⟩
  · cases h with | cons h r =>
    cases r with | cons h' r =>
    cases r; cases h; cases h'
    exact call_min2 hc pins s σ H _ us Q I rv ⟨_, _, rfl, p.ok0 (.int _) S⟩
  · split at p
    · rename_i e
      cases h with | cons h r =>
      cases r
      rename_i k ds _
      obtain ⟨a, xs, rfl, r, q1, q2⟩ := seqOf_rel S h e
      cases hi : intsD ds with
      | none => simp only [hi, Option.bind_none, Option.map_none, ofO] at p; exact p.elim
      | some l =>
        have ex := r.ints hi
        subst ex
        simp only [hi, Option.bind_some] at p
        cases hm : maxI l with
        | none => simp only [hm, Option.map_none, ofO] at p; exact p.elim
        | some m =>
          simp only [hm, Option.map_some, ofO] at p
          have hn : 0 < l.length := by cases l with | nil => cases hm | cons a r => simp
          refine cr_maxA hc pins s σ H _ us Q I rv ⟨a, l, rfl, ?_, hn, fun m' h1 h2 => ?_⟩
          · cases k with
            | true => exact .inr (q1 rfl).seq
            | false => exact .inl (q2 rfl)
          · rw [(maxI_eq hm h1 h2).1]; exact p.ok0 (.int _) S
    · exact p.elim
  · split at p
    · rename_i e
      cases h with | cons h r =>
      cases r
      rename_i k ds _
      obtain ⟨a, xs, rfl, r, q1, q2⟩ := seqOf_rel S h e
      cases hi : intsD ds with
      | none => simp only [hi, Option.bind_none, Option.map_none, ofO] at p; exact p.elim
      | some l =>
        have ex := r.ints hi
        subst ex
        simp only [hi, Option.bind_some] at p
        cases hm : minI l with
        | none => simp only [hm, Option.map_none, ofO] at p; exact p.elim
        | some m =>
          simp only [hm, Option.map_some, ofO] at p
          have hn : 0 < l.length := by cases l with | nil => cases hm | cons a r => simp
          refine cr_minA hc pins s σ H _ us Q I rv ⟨a, l, rfl, ?_, hn, fun m' h1 h2 => ?_⟩
          · cases k with
            | true => exact .inr (q1 rfl).seq
            | false => exact .inl (q2 rfl)
          · rw [(minI_eq hm h1 h2).1]; exact p.ok0 (.int _) S
    · exact p.elim
  · split at p
    · rename_i ds e
      cases h with | cons h r =>
      cases r
      obtain ⟨a, xs, rfl, r, q1, q2⟩ := seqOf_rel S h e
      cases hi : intsD ds with
      | none => simp only [hi, Option.map_none, ofO] at p; exact p.elim
      | some l =>
        have ex := r.ints hi
        subst ex
        simp only [hi, Option.map_some, ofO] at p
        exact cr_sum hc pins s σ H _ us Q I rv ⟨a, l, rfl, q2 rfl, p.ok0 (.int _) S⟩
    · exact p.elim
  · split at p
    · rename_i ds e
      cases h with | cons h r =>
      cases r
      obtain ⟨a, xs, rfl, r, q1, q2⟩ := seqOf_rel S h e
      cases hi : blsD ds with
      | none => simp only [hi, Option.map_none, ofO] at p; exact p.elim
      | some l =>
        have ex := r.bls hi
        subst ex
        simp only [hi, Option.map_some, ofO] at p
        exact cr_all hc pins s σ H _ us Q I rv ⟨a, l, rfl, q2 rfl, p.ok0 (.bl _) S⟩
    · exact p.elim
  · split at p
    · rename_i ds e
      cases h with | cons h r =>
      cases r
      obtain ⟨a, xs, rfl, r, q1, q2⟩ := seqOf_rel S h e
      cases hi : blsD ds with
      | none => simp only [hi, Option.map_none, ofO] at p; exact p.elim
      | some l =>
        have ex := r.bls hi
        subst ex
        simp only [hi, Option.map_some, ofO] at p
        exact cr_any hc pins s σ H _ us Q I rv ⟨a, l, rfl, q2 rfl, p.ok0 (.bl _) S⟩
    · exact p.elim
  · cases h with | cons h r =>
    cases r; cases h with | str z hz =>
    exact call_tuple_strR hc pins s σ H _ us Q I rv ⟨_, rfl, sgood_len hz, fun q o hq hd => tup_new S hq hd (signs_rels hz) p⟩
  · split at p
    · rename_i k ds e
      cases h with | cons h r =>
      cases r
      obtain ⟨a, xs, rfl, r, q1, q2⟩ := seqOf_rel S h e
      refine call_tuple_ofN pins s σ H _ us Q I rv ⟨a, xs, rfl, ?_⟩
      cases k with
      | true => exact .inr ⟨(q1 rfl).seq, p.ok0 (.tup (q1 rfl) r) S⟩
      | false => exact .inl ⟨q2 rfl, fun q o hq hd => tup_new S hq hd r p⟩
    · exact p.elim
  · split at p
    · rename_i ds e
      cases h with | cons h r =>
      cases r
      obtain ⟨a, xs, rfl, r, q1, q2⟩ := seqOf_rel S h e
      unfold sortD at p
      cases hi : intsD ds with
      | some l =>
        have ex := r.ints hi
        subst ex
        simp only [hi] at p
        refine call_frz cr_sortedI pins s σ H _ us Q I rv ⟨a, l, rfl, q2 rfl, fun ns' q hp ho hq => ?_⟩
        rw [sortInt_is hp ho]
        exact frzQ_new S hq (ints_rels _) p
      | none =>
        simp only [hi] at p
        cases hs : strsD ds with
        | none =>
          simp only [hs] at p
          cases ht : tupsD ds with
          | none =>
            simp only [ht] at p
            cases hk : rowsD ds with
            | none => simp only [hk] at p; exact p.elim
            | some ls =>
              simp only [hk] at p
              obtain ⟨f1, f2⟩ := rowsD_rel r hk
              split at p
              · rename_i h64
                split at h64
                · rename_i i0 r0 l0
                  split at h64
                  · rename_i hb
                    cases h64
                    refine call_frz cr_sortedK pins s σ H _ us Q I rv ⟨a, xs, _, _, rfl, q2 rfl, f1, fun l hl => rows_shape (rowsB_ok hb l hl), fun ys q hys hq => frzQ_new S hq (rows_rels hys fun l hl => f2 l ((sortK_perm _).mem_iff.mp hl)) p⟩
                  · cases h64
                · cases h64
              · exact p.elim
          | some ls =>
            simp only [ht] at p
            obtain ⟨t1, t2⟩ := r.tups ht
            exact call_frz cr_sortedL pins s σ H _ us Q I rv ⟨a, xs, ls, rfl, q2 rfl, t1, t2, fun ys q hys hq => frzQ_new S hq (tups_rels hys) p⟩
        | some l =>
          obtain ⟨ex, hg⟩ := r.strs hs
          subst ex
          simp only [hs] at p
          split at p
          · rename_i h64
            split at h64
            · rename_i hlt
              cases h64
              refine call_frz cr_sortedS pins s σ H _ us Q I rv ⟨a, l, rfl, q2 rfl, hlt, fun ns' q hp ho hq => ?_⟩
              rw [sortStr_is hp ho]
              exact frzQ_new S hq (strs_rels _ fun s hs => hg s ((sortStr_perm l).mem_iff.mp hs)) p
            · cases h64
          · exact p.elim
    · rename_i ds e
      cases h with | cons h r =>
      cases r
      obtain ⟨a, xs, rfl, r, q1, q2⟩ := seqOf_rel S h e
      cases hi : intsD ds with
      | some l =>
        have ex := r.ints hi
        subst ex
        simp only [hi] at p
        refine call_frz cr_sortedTI pins s σ H _ us Q I rv ⟨a, l, rfl, (q1 rfl).seq, fun ns' q hp ho hq => ?_⟩
        rw [sortInt_is hp ho]
        exact frzQ_new S hq (ints_rels _) p
      | none =>
        simp only [hi] at p
        cases ht : tupsD ds with
        | none => simp only [ht] at p; exact p.elim
        | some ls =>
          simp only [ht] at p
          obtain ⟨t1, t2⟩ := r.tups ht
          exact call_frz cr_sortedTL pins s σ H _ us Q I rv ⟨a, xs, ls, rfl, (q1 rfl).seq, t1, t2, fun ys q hys hq => frzQ_new S hq (tups_rels hys) p⟩
    · exact p.elim
  · split at p
    · rename_i ds e
      cases h with | cons h r =>
      cases r
      obtain ⟨a, xs, rfl, r, q1, q2⟩ := seqOf_rel S h e
      split at p
      · rename_i ks vs hp
        split at p
        · rename_i hn
          obtain ⟨kvs, e1, e2, e3⟩ := pairs_are r hp
          obtain ⟨ps, e4, e5⟩ := e2.paired
          subst e4
          refine call_frzD (call_dictP hc) pins s σ H _ us Q I rv ⟨a, ps, kvs, rfl, q2 rfl, e5, fun l hl => ?_⟩
          have em : mergeK [] kvs = kvs := by
            rw [mergeK_nodup kvs [] (by rw [List.map_nil, List.nil_append, e1]; exact hn.1)]
            rfl
          rw [em]
          refine ⟨l, kvs, rfl, upd_same, fun o => ?_⟩
          rw [upd_upd]
          have s : Same H (upd H l (.frz o (.dK kvs))) := same_new hl
          exact p.ok (Fr.same s) (.dct ⟨o, upd_same⟩ e1 rfl (e3.mono (List.prefix_refl _) (Kp.of_same s))) (S.same s)
        · exact p.elim
      · exact p.elim
    · exact p.elim
  · cases h with | cons h r =>
    cases r; cases h with | str z hz =>
    exact call_frz (call_list_strR hc) pins s σ H _ us Q I rv ⟨_, rfl, sgood_len hz, fun q hq => frzQ_new S hq (signs_rels hz) p⟩
  · split at p
    · rename_i k ds e
      cases h with | cons h r =>
      cases r
      obtain ⟨a, xs, rfl, r, q1, q2⟩ := seqOf_rel S h e
      refine call_frz call_list_of pins s σ H _ us Q I rv ⟨a, xs, rfl, ?_, fun q hq => frzQ_new S hq r p⟩
      cases k with
      | true => exact .inr (q1 rfl).seq
      | false => exact .inl (q2 rfl)
    · exact p.elim
  · split at p
    · rename_i t e
      cases h with | cons h r =>
      cases r with | cons h' r =>
      cases r; cases h'
      rename_i n _ _
      cases hb : isTy t n with
      | none => simp only [hb, Option.map_none, ofO] at p; exact p.elim
      | some b =>
        simp only [hb, Option.map_some, ofO] at p
        exact call_isi pins s σ H _ us Q I rv ⟨_, _, _, _, _, rfl, .ty _, tyOf_rel S h e, kit_ty (isTy_kit hb), p.ok0 (.bl _) S⟩
    · exact p.elim
  · exact p.elim
end
end RF

set_option Elab.async false
set_option linter.all false
set_option maxRecDepth 100000
set_option maxHeartbeats 4000000
namespace RF
open PySem PySem.Spec PyProof.Rows L2

/-! ### methods -/
/-- the type whose method it is, by the receiver -/
def Mt.ty (m : Mt) (d : D) : String :=
  match m with
  | .append => "list"
  | .pop => "list"
  | .reverse => "list"
  | .extend => "list"
  | .index => match d with
    | .tup _ => "tuple"
    | _ => "list"
  | .count => match d with
    | .lst _ => "list"
    | _ => "str"
  | _ => "str"
def Mt.id (m : Mt) (d : D) : String :=
  match m with
  | .append => "list.append"
  | .join => "str.join"
  | .find => "str.find"
  | .count => match d with
    | .lst _ => "list.count"
    | _ => "str.count"
  | .pop => "list.pop"
  | .reverse => "list.reverse"
  | .extend => "list.extend"
  | .index => match d with
    | .tup _ => "tuple.index"
    | _ => "list.index"
def Mt.name : Mt → Str
  | .append => Str.ofString "append"
  | .join => Str.ofString "join"
  | .find => Str.ofString "find"
  | .count => Str.ofString "count"
  | .pop => Str.ofString "pop"
  | .reverse => Str.ofString "reverse"
  | .extend => Str.ofString "extend"
  | .index => Str.ofString "index"
theorem mt_facts (m : Mt) (d : D) : PlainAttrs (m.ty d) ∧ Slot (m.ty d) m.name (m.id d) ∧ typeOf (.builtin (m.id d)) = pure (.type "method_descriptor") := by
  cases m with
  | append => exact ⟨F.plainAttrs_list, F.slot_list_append, F.type_list_append⟩
  | join => exact ⟨F.plainAttrs_str, F.slot_str_join, F.type_str_join⟩
  | find => exact ⟨F.plainAttrs_str, F.slot_str_find, F.type_str_find⟩
  | count => cases d with
    | lst ds => exact ⟨F.plainAttrs_list, F.slot_list_count, F.type_list_count⟩
    | _ => exact ⟨F.plainAttrs_str, F.slot_str_count, F.type_str_count⟩
  | pop => exact ⟨F.plainAttrs_list, F.slot_list_pop, F.type_list_pop⟩
  | reverse => exact ⟨F.plainAttrs_list, F.slot_list_reverse, F.type_list_reverse⟩
  | extend => exact ⟨F.plainAttrs_list, F.slot_list_extend, F.type_list_extend⟩
  | index => cases d with
    | tup ds => exact ⟨F.plainAttrs_tuple, F.slot_tuple_index, F.type_tuple_index⟩
    | _ => exact ⟨F.plainAttrs_list, F.slot_list_index, F.type_list_index⟩
theorem idx_list {M : Mh} {d : D} {xs : List D} (e : seqOf M d = some (false, xs)) : Mt.id .index d = "list.index" ∧ Mt.ty .index d = "list" := by
  cases d with
  | tup ds => simp [seqOf] at e
  | _ => exact ⟨rfl, rfl⟩
theorem idx_tup {M : Mh} {d : D} {xs : List D} (e : seqOf M d = some (true, xs)) : Mt.id .index d = "tuple.index" ∧ Mt.ty .index d = "tuple" := by
  cases d with
  | tup ds => exact ⟨rfl, rfl⟩
  | ref n =>
    simp only [seqOf] at e
    split at e <;> simp at e
  | _ => simp [seqOf] at e
theorem count_is {k : Str} : ∀ {l : List Str}, countIn (.str k) (l.map PyData.str) = ((l.filter fun s => decide (s = k)).length : Nat)
  | [] => rfl
  | a :: l => by
    rw [List.map_cons, countIn, count_is, List.filter_cons]
    by_cases e : a = k
    · have : same (.str a) (.str k) = true := by subst e; simp [same]
      rw [this, decide_eq_true e, if_pos rfl, if_pos rfl, List.length_cons]
      push_cast
      omega
    · have : same (.str a) (.str k) = false := by simp [same, e]
      rw [this, decide_eq_false e]
      simp
/-- an object, its arguments -/
def rDm (K : PySem.W.Frag) (fa : Fa) (cl : Nat → Value) (g : D → List D → Mh → R D) (d : D) : V → List V → Hp → VK → Prop := fun x vs H Q => ∃ (ρ : List Addr) (M : Mh) (ds : List D) (W : XK), RelD K fa ρ H d x ∧ RelDs K fa ρ H ds vs ∧ Sim K fa ρ M H ∧ Post K fa cl (RelD K fa) ρ H (g d ds M) Q W
section
variable {X : Cx} {fa : Fa} {cl : Nat → Value}
theorem mtB (m : Mt) (d : D) : MtR X (m.id d) (rDm X.K fa cl (mtD m) d) := by
  intro pins s σ H x vs v us Q I rx rv ⟨ρ, M, ds, W, h, hs, S, p⟩
  unfold mtD at p
  split at p
  · rename_i n e
    split at p
    · rename_i xs hn
      split at p
      · rename_i hl
        cases h with | ref hr =>
        cases hs with | cons h1 r =>
        cases r
        obtain ⟨a, ys, e1, e2, r⟩ := S.at hn
        rw [hr] at e1; cases e1
        refine mt_append pins s σ H _ _ v us Q I rx rv ⟨_, ys, _, rfl, rfl, e2, by rw [sizeLine_eq, ← r.length]; exact hl, ?_⟩
        exact p.ok (Fr.write e2 (fun z => z) (List.mem_of_getElem? hr)) .non (S.put hn hr e2 (r.append (.cons h1 .nil)))
      · exact p.elim
    · exact p.elim
  · split at p
    · rename_i k xs e
      split at p
      · rename_i ys hy
        split at p
        · rename_i hl
          cases h with | str _ ha =>
          cases hs with | cons h1 r =>
          cases r
          obtain ⟨b, zs, rfl, r, q1, q2⟩ := seqOf_rel S h1 e
          obtain ⟨e1, hg⟩ := r.strs hy
          subst e1
          refine mt_join pins s σ H _ _ v us Q I rx rv ⟨_, b, ys, rfl, rfl, ?_, hl, ?_⟩
          · cases k with
            | true => exact .inr (q1 rfl).seq
            | false => exact .inl (q2 rfl)
          · rw [show Txt.join _ ys = Str.join _ ys from StrLaws.glued_eq_join _ ys]
            exact p.ok0 (.str _ (sgood_join ha ys hg hl)) S
        · exact p.elim
      · exact p.elim
    · exact p.elim
  · cases h with | str _ ha =>
    cases hs with | cons h1 r =>
    cases r; cases h1
    exact mt_find pins s σ H _ _ v us Q I rx rv ⟨_, _, rfl, rfl, p.ok0 (.int _) S⟩
  · cases h with | str _ ha =>
    cases hs with | cons h1 r =>
    cases r; cases h1
    exact mt_count pins s σ H _ _ v us Q I rx rv ⟨_, _, rfl, rfl, p.ok0 (.int _) S⟩
  · -- count of a text in a list
    split at p
    · rename_i l hl
      cases h with | lst hf r =>
      obtain ⟨e1, _⟩ := r.strs hl
      subst e1
      cases hs with | cons h1 r1 =>
      cases r1; cases h1
      cases rx
      cases rv with | cons ru rv =>
      cases rv
      obtain ⟨t, rfl⟩ := ru
      obtain ⟨its, rr, pl, hz⟩ := I.list hf.seq
      refine count_list_strs pl.isList (strsAre_v rr) ?_
      rw [count_is]
      exact ⟨.int _, H, I.tok _, ⟨_, rfl⟩, p.ok0 (.int _) S⟩
    · exact p.elim
  · -- pop()
    split at p
    · rename_i n xs hn
      split at p
      · rename_i y hy
        cases h with | ref hr =>
        cases hs
        obtain ⟨a, ys, e1, e2, r⟩ := S.at hn
        rw [hr] at e1; cases e1
        obtain ⟨w, hw, rw_⟩ := r.get hy
        have k := Kp.write (o' := .lst ys.dropLast) e2 (fun z => z)
        refine mt_pop pins s σ H _ _ v us Q I rx rv ⟨_, ys, w, rfl, rfl, e2, by rw [← r.length]; exact hw, ?_⟩
        exact p.ok (Fr.write e2 (fun z => z) (List.mem_of_getElem? hr)) (rw_.mono (List.prefix_refl _) k) (S.put hn hr e2 r.dropLast)
      · exact p.elim
    · exact p.elim
  · -- pop(i)
    split at p
    · rename_i n i xs hn
      split at p
      · rename_i hi
        split at p
        · rename_i k hk
          split at p
          · rename_i y hy
            cases h with | ref hr =>
            cases hs with | cons h1 r1 =>
            cases r1; cases h1
            obtain ⟨a, ys, e1, e2, r⟩ := S.at hn
            rw [hr] at e1; cases e1
            obtain ⟨w, hw, rw_⟩ := r.get hy
            have kk := Kp.write (o' := .lst (ys.eraseIdx k)) e2 (fun z => z)
            unfold rngOk at hi
            rw [decide_eq_true_eq] at hi
            refine mt_popAt pins s σ H _ _ v us Q I rx rv ⟨_, ys, _, k, w, rfl, rfl, e2, by omega, by omega, ?_, hw, ?_⟩
            · rw [← r.length]; exact (ixN_seq hk).1
            · exact p.ok (Fr.write e2 (fun z => z) (List.mem_of_getElem? hr)) (rw_.mono (List.prefix_refl _) kk) (S.put hn hr e2 (r.eraseIdx k))
          · exact p.elim
        · exact p.elim
      · exact p.elim
    · exact p.elim
  · -- reverse()
    split at p
    · rename_i n xs hn
      cases h with | ref hr =>
      cases hs
      obtain ⟨a, ys, e1, e2, r⟩ := S.at hn
      rw [hr] at e1; cases e1
      refine mt_reverse pins s σ H _ _ v us Q I rx rv ⟨_, ys, rfl, rfl, e2, ?_⟩
      exact p.ok (Fr.write e2 (fun z => z) (List.mem_of_getElem? hr)) .non (S.put hn hr e2 r.reverse)
    · exact p.elim
  · -- extend
    split at p
    · exact p.elim
    · rename_i n m hne
      split at p
      · rename_i xs ys hn hm
        split at p
        · rename_i hl
          cases h with | ref hr =>
          cases hs with | cons h1 r1 =>
          cases r1; cases h1 with | ref hr2 =>
          obtain ⟨a, zs, e1, e2, r⟩ := S.at hn
          rw [hr] at e1; cases e1
          obtain ⟨b, ws, e3, e4, r2⟩ := S.at hm
          rw [hr2] at e3; cases e3
          refine mt_extend pins s σ H _ _ v us Q I rx rv ⟨_, _, zs, ws, rfl, rfl, e2, e4, by rw [sizeLine_eq, ← r.length, ← r2.length]; exact hl, ?_⟩
          exact p.ok (Fr.write e2 (fun z => z) (List.mem_of_getElem? hr)) .non (S.put hn hr e2 (r.append r2))
        · exact p.elim
      · exact p.elim
  · -- index of a number
    split at p
    · rename_i tf xs e
      split at p
      · rename_i l hl
        split at p
        · rename_i hc
          rw [Bool.and_eq_true, decide_eq_true_eq, decide_eq_true_eq] at hc
          cases hs with | cons h1 r1 =>
          cases r1; cases h1
          obtain ⟨b, zs, rfl, r, q1, q2⟩ := seqOf_rel S h e
          have e1 := r.ints hl
          subst e1
          cases rx
          cases rv with | cons ru rv =>
          cases rv
          obtain ⟨t, rfl⟩ := ru
          cases tf with
          | false =>
            rw [(idx_list e).1]
            obtain ⟨its, rr, pl, hz⟩ := I.list (q2 rfl)
            exact SeqAt.list_index_ints pl.isList (intsAre_v rr) (by rw [sizeLine_eq]; exact hc.1) hc.2 ⟨.int _, H, I.tok _, ⟨_, rfl⟩, p.ok0 (.int _) S⟩
          | true =>
            rw [(idx_tup e).1]
            obtain ⟨its, rr, pl, hz⟩ := I.tuple (q1 rfl).seq
            exact SeqAt.tuple_index_ints pl (intsAre_v rr) hc.2 ⟨.int _, H, I.tok _, ⟨_, rfl⟩, p.ok0 (.int _) S⟩
        · exact p.elim
      · exact p.elim
    · exact p.elim
  · -- index of a text
    split at p
    · rename_i tf xs e
      split at p
      · rename_i l hl
        split at p
        · rename_i hc
          rw [Bool.and_eq_true, decide_eq_true_eq, decide_eq_true_eq] at hc
          cases hs with | cons h1 r1 =>
          cases r1; cases h1
          obtain ⟨b, zs, rfl, r, q1, q2⟩ := seqOf_rel S h e
          obtain ⟨e1, _⟩ := r.strs hl
          subst e1
          cases rx
          cases rv with | cons ru rv =>
          cases rv
          obtain ⟨t, rfl⟩ := ru
          cases tf with
          | false =>
            rw [(idx_list e).1]
            obtain ⟨its, rr, pl, hz⟩ := I.list (q2 rfl)
            exact SeqAt.list_index_strs pl.isList (strsAre_v rr) (by rw [sizeLine_eq]; exact hc.1) hc.2 ⟨.int _, H, I.tok _, ⟨_, rfl⟩, p.ok0 (.int _) S⟩
          | true =>
            rw [(idx_tup e).1]
            obtain ⟨its, rr, pl, hz⟩ := I.tuple (q1 rfl).seq
            exact SeqAt.tuple_index_strs pl (strsAre_v rr) hc.2 ⟨.int _, H, I.tok _, ⟨_, rfl⟩, p.ok0 (.int _) S⟩
        · exact p.elim
      · exact p.elim
    · exact p.elim
  · exact p.elim
/-- the value is of that builtin type; a tuple's object has no dict -/
def tyR (K : PySem.W.Frag) (T : String) (x : V) (H : Hp) : Prop := tyV K T x H ∨ (T = "tuple" ∧ ∃ p xs, x = .ref p ∧ SqN K H p xs)
theorem tyR_is {pins : List (Addr × Obj)} {σ : L2.St} {H : Hp} {s : Shared} {T : String} {x : V} {v : Value} (I : L2.Inv X pins σ H s) (r : RelV x v) (ty : tyR X.K T x H) :
    s.TypeIs v T ∧ ∀ a, v = .ref a → ∃ ob, s.heap.get? a = some ob ∧ ob.dict = none := by
  rcases ty with ty | ⟨rfl, p, xs, rfl, hq⟩
  · exact tyV_is I r ty
  · cases r
    rcases hq with ⟨o, hk, hd⟩ | ⟨o, its, n, hk, hc, hd, _⟩
    · obtain ⟨e, _, its, _, ob, e2, hc, _⟩ := I.hok p _ hk
      rw [e] at e2
      cases e2
      exact ⟨⟨o, e, hc⟩, fun a q => by cases q; exact ⟨o, e, hd⟩⟩
    · exact ⟨⟨o, I.kIn p o hk, hc⟩, fun a q => by cases q; exact ⟨o, I.kIn _ o hk, hd⟩⟩
def tBR0 (K : PySem.W.Frag) (T : String) (r : V → List V → Hp → VK → Prop) (to : TE) : TE := fun σ H Q => to σ H fun x H1 => tyR K T x H1 ∧ r x [] H1 Q
def tBR (K : PySem.W.Frag) (T : String) (r : V → List V → Hp → VK → Prop) (to : TE) (t : TA) : TE := fun σ H Q => to σ H fun x H1 => tyR K T x H1 ∧ t σ H1 fun xs H2 => r x xs H2 Q
theorem pe_br0 {o : Expr} {to : TE} {name : Str} {apos cpos : Pos} {T id : String} {r : V → List V → Hp → VK → Prop} (pa : PlainAttrs T) (slot : Slot T name id) (hty : typeOf (.builtin id) = pure (.type "method_descriptor")) (hm : MtR X id r) (ho : PE X o to)
    (hbase : attributeBase o name X.env (eval o X.env) = eval o X.env := by rfl) (hline : (apos.endLine == cpos.line) = true := by rfl) : PE X (.Call (.Attribute o name apos) [] [] cpos) (tBR0 X.K T r to) := by
  refine ⟨fun pins s σ H Q I h => ?_⟩
  refine wpAny_Call_method0_late hbase hline (thn (ho.run pins s σ H _ I h) fun v s1 ⟨x, H1, I1, r1, ty, q1⟩ => ?_)
  obtain ⟨h1, h2⟩ := tyR_is I1 r1 ty
  exact ⟨T, id, pa, slot, hty, h1, h2, Calls.callWith_builtin rfl (PySem.evalArgs_none (hm pins s1 σ H1 x [] v [] Q I1 r1 .nil q1))⟩
theorem pe_br {o e : Expr} {es : List Expr} {to : TE} {t : TA} {name : Str} {apos cpos : Pos} {T id : String} {r : V → List V → Hp → VK → Prop} (pa : PlainAttrs T) (slot : Slot T name id) (hty : typeOf (.builtin id) = pure (.type "method_descriptor")) (hm : MtR X id r) (ho : PE X o to) (ha : PA X (e :: es) t)
    (hbase : attributeBase o name X.env (eval o X.env) = eval o X.env := by rfl)
    (hfew : ((backTo cpos (starEach (e :: es) X.env)).all (fun x => !x.1) && (backToKw cpos (keywordEach [] X.env)).all (fun x => x.1.isSome)
      && decide ((e :: es).length + ([] : List Keyword).length + (if ([] : List Keyword).isEmpty then 0 else 1) < 30)) = true := by rfl)
    (hline : (apos.endLine == cpos.line) = true := by rfl) (hs : starEach (e :: es) X.env = (false, eval e X.env) :: starEach es X.env := by rfl) (hplain : (backTo cpos (starEach es X.env)).any (·.1) = false := by rfl) :
    PE X (.Call (.Attribute o name apos) (e :: es) [] cpos) (tBR X.K T r to t) := by
  refine ⟨fun pins s σ H Q I h => ?_⟩
  refine wpAny_Call_method_late hbase hfew hline rfl (thn (ho.run pins s σ H _ I h) fun v s1 ⟨x, H1, I1, r1, ty, q1⟩ => ?_)
  obtain ⟨h1, h2⟩ := tyR_is I1 r1 ty
  refine ⟨T, id, pa, slot, hty, h1, h2, ?_⟩
  have hA := ha.run cpos pins s1 σ H1 _ I1 q1
  rw [hs] at hA ⊢
  refine Calls.callWith_builtin (by show (false || (backTo cpos (starEach es X.env)).any (·.1)) = false; rw [hplain] <;> rfl) (Calls.evalArgs_plain ?_)
  exact thn hA fun us s2 ⟨vs, H2, I2, r2, q2⟩ => hm pins s2 σ H2 x vs v us Q I2 r1 r2 q2
/-- the receiver is of the method's type, or nothing is known -/
theorem mt_ty {ρ : List Addr} {H : Hp} {M : Mh} {m : Mt} {d : D} {x : V} (S : Sim X.K fa ρ M H) (h : RelD X.K fa ρ H d x) (ok : mtOk m d M = true) : tyR X.K (m.ty d) x H := by
  have lstC : ∀ n, d = .ref n → (match M[n]? with
    | some (.lst _) => true
    | _ => false) = true → tyV X.K "list" x H := fun n e ok2 => by
    subst e
    cases h with
    | ref hr =>
      split at ok2
      · rename_i xs hn
        obtain ⟨a, ys, e1, e2, r⟩ := S.at hn
        rw [hr] at e1; cases e1
        exact .inl ⟨rfl, ys, .of e2⟩
      · cases ok2
  unfold mtOk at ok
  cases m with
  | append => cases d with
    | ref n => exact .inl (lstC n rfl ok)
    | _ => cases ok
  | pop => cases d with
    | ref n => exact .inl (lstC n rfl ok)
    | _ => cases ok
  | reverse => cases d with
    | ref n => exact .inl (lstC n rfl ok)
    | _ => cases ok
  | extend => cases d with
    | ref n => exact .inl (lstC n rfl ok)
    | _ => cases ok
  | join => refine .inl ?_; cases h <;> first | rfl | cases ok
  | find => refine .inl ?_; cases h <;> first | rfl | cases ok
  | count => refine .inl ?_; cases h with
    | lst hf r => exact .inl ⟨rfl, _, hf.seq⟩
    | str _ _ => rfl
    | _ => cases ok
  | index =>
    have ok3 : (match seqOf M d with
      | some _ => true
      | none => false) = true := by cases d <;> exact ok
    split at ok3
    · rename_i q e
      obtain ⟨tf, ds⟩ := q
      obtain ⟨a, xs, rfl, r, q1, q2⟩ := seqOf_rel S h e
      cases tf with
      | false =>
        rw [(idx_list e).2]
        exact .inl (.inl ⟨rfl, xs, q2 rfl⟩)
      | true =>
        rw [(idx_tup e).2]
        exact .inr ⟨rfl, a, xs, rfl, q1 rfl⟩
    · cases ok3

/-! ### items, slices -/
theorem atI_map {α β : Type} {f : α → β} {l : List α} {k : Int} {c : α} (h : atI l k = some c) : atI (l.map f) k = some (f c) := by
  unfold atI at h ⊢
  rw [List.length_map]
  cases e : ixN l.length k with
  | none => rw [e] at h; cases h
  | some j =>
    rw [e] at h
    simp only [Option.bind_some] at h ⊢
    rw [List.getElem?_map, h]; rfl
theorem atI_mem {α : Type} {l : List α} {k : Int} {c : α} (h : atI l k = some c) : c ∈ l := by
  unfold atI at h
  cases e : ixN l.length k with
  | none => rw [e] at h; cases h
  | some j => rw [e] at h; exact List.mem_of_getElem? h
theorem ixB : IxR X (rD2 X.K fa cl subD) := by
  intro value slice pins s σ H x y v u Q I rx ry ⟨ρ, M, d, e, W, h1, h2, S, p⟩ hs
  unfold subD at p
  split at p
  · split at p
    · rename_i c hc
      cases h1 with | str z hz =>
      cases h2
      exact ix_str value slice pins s σ H _ _ v u Q I rx ry ⟨_, _, c, rfl, rfl, sgood_len hz, hc, p.ok0 (.str _ (sgood_sign hz (atI_mem hc))) S⟩ hs
    · exact p.elim
  · split at p
    · rename_i q hk
      cases h1 with | dct hf hk2 hv r =>
      subst hk2 hv
      cases hl : lookK _ _ q with
      | none => rw [hl] at p; exact p.elim
      | some w =>
        rw [hl] at p
        obtain ⟨y, h3, h4⟩ := look_rel r hl
        obtain ⟨o, hf⟩ := hf
        have ek := keyD_rel h2 hk
        exact ix_dictK value slice pins s σ H _ _ v u Q I rx ry ⟨_, _, q, y, rfl, ek, .inr ⟨o, hf⟩, h3, p.ok0 h4 S⟩ hs
    · exact p.elim
  · split at p
    · rename_i k ds e
      obtain ⟨a, xs, rfl, r, q1, q2⟩ := seqOf_rel S h1 e
      cases h2
      rename_i j _ _ _
      cases hj : atI ds j with
      | none => simp only [hj, ofO] at p; exact p.elim
      | some w =>
        simp only [hj, ofO] at p
        obtain ⟨y, hy, ry'⟩ := r.at hj
        cases k with
        | true => exact ix_tup value slice pins s σ H _ _ v u Q I rx ry ⟨a, xs, _, y, rfl, rfl, (q1 rfl).seq, hy, p.ok0 ry' S⟩ hs
        | false => exact ix_list value slice pins s σ H _ _ v u Q I rx ry ⟨a, xs, _, y, rfl, rfl, q2 rfl, hy, p.ok0 ry' S⟩ hs
    · exact p.elim
  · exact p.elim
theorem cut_mem {α : Type} {l : List α} {lo hi : Option Int} {x : α} (h : x ∈ cutL l lo hi) : x ∈ l := List.drop_subset _ _ (List.take_subset _ _ h)
theorem cut_len {α : Type} (l : List α) (lo hi : Option Int) : (cutL l lo hi).length ≤ l.length := by
  unfold cutL
  rw [List.length_take, List.length_drop]
  omega
/-- a slice by data -/
def rDl (K : PySem.W.Frag) (fa : Fa) (cl : Nat → Value) : V → Option Int → Option Int → Hp → VK → Prop := fun x lo hi H Q => ∃ (ρ : List Addr) (M : Mh) (d dl dh : D) (W : XK), RelD K fa ρ H d x ∧ partD dl = some lo ∧ partD dh = some hi ∧ Sim K fa ρ M H ∧ Post K fa cl (RelD K fa) ρ H (slcD d dl dh M) Q W
theorem slB : SlR X (rDl X.K fa cl) := by
  intro pins s σ H x v vl vu lo hi sl Q I rx hsl pl pu ⟨ρ, M, d, dl, dh, W, h1, e1, e2, S, p⟩
  unfold slcD at p
  simp only [e1, e2] at p
  split at p
  · cases h1 with | str z hz =>
    refine sl_str pins s σ H _ v vl vu lo hi sl Q I rx hsl pl pu ⟨_, rfl, sgood_len hz, ?_⟩
    have e : ∀ z : Str, cutS z lo hi = ⟨(cutL z.cps.toList lo hi).toArray⟩ := fun z => by
      unfold cutS cutL
      simp [Str.length]
    rw [e]
    exact p.ok0 (.str _ (sgood_sub hz (fun c hc => cut_mem (lo := lo) (hi := hi) (by simpa using hc)) (by rw [List.toList_toArray]; exact cut_len _ lo hi))) S
  · split at p
    · rename_i ds e
      obtain ⟨a, xs, rfl, r, q1, q2⟩ := seqOf_rel S h1 e
      refine sl_tupN pins s σ H _ v vl vu lo hi sl Q I rx hsl pl pu ⟨a, xs, rfl, (q1 rfl).seq, fun ⟨c1, c2⟩ => ?_, fun _ q o hq hd => ?_⟩
      · refine p.ok0 (.tup (q1 rfl) ?_) S
        have e : cutL ds lo hi = ds := by
          unfold cutL
          rw [r.length, c1, c2]
          simp [← r.length]
        rw [e]; exact r
      · exact tup_new S hq hd (r.cut lo hi) p
    · rename_i ds e
      obtain ⟨a, xs, rfl, r, q1, q2⟩ := seqOf_rel S h1 e
      exact sl_frz sl_list pins s σ H _ v vl vu lo hi sl Q I rx hsl pl pu ⟨a, xs, rfl, q2 rfl, fun q hq => frzQ_new S hq (r.cut lo hi) p⟩
    · exact p.elim
/-- a part that may be None -/
def tPartN (t : TE) : TO := fun σ H Q => t σ H fun x H1 => (x = .non ∧ Q none H1) ∨ ∃ i, x = .int i ∧ Q (some i) H1
theorem po_someN {e : Expr} {te : TE} (h : PE X e te) : PO X (some e) (tPartN te) := by
  refine ⟨fun pins s σ H Q I hw => ?_⟩
  rw [evalPart_some]
  refine thn (h.run pins s σ H _ I hw) fun u s1 ⟨x, H1, I1, r1, q1⟩ => ?_
  rcases q1 with ⟨rfl, q⟩ | ⟨i, rfl, q⟩
  · cases r1
    exact ⟨none, H1, I1, .none, q⟩
  · obtain ⟨t, rfl⟩ := r1
    exact ⟨some i, H1, I1, .int i t, q⟩
theorem rev_rel {ρ : List Addr} {H : Hp} {M : Mh} {d : D} {x : V} {Q : VK} {W : XK} (S : Sim X.K fa ρ M H) (h : RelD X.K fa ρ H d x) (p : Post X.K fa cl (RelD X.K fa) ρ H (revD d M) Q W) :
    (∃ a xs, x = .ref a ∧ SqL X.K H a xs ∧ ∀ p, H p = none → frzQ Q (.ref p) (upd H p (.lst xs.reverse))) ∨
    (∃ a xs, x = .ref a ∧ SqT X.K H a xs ∧ ∀ p o, H p = none → o.dict = none → Q (.ref p) (upd H p (.frz o (.tup xs.reverse)))) ∨
    (∃ z : Str, x = .str z ∧ z.length ≤ sizeLine ∧ Q (.str ⟨z.cps.toList.reverse.toArray⟩) H) := by
  unfold revD at p
  split at p
  · cases h with | str z hz =>
    exact .inr (.inr ⟨_, rfl, sgood_len hz, p.ok0 (.str _ (sgood_sub hz (fun c hc => by simpa using hc) (by simp))) S⟩)
  · split at p
    · rename_i ds e
      obtain ⟨a, xs, rfl, r, q1, q2⟩ := seqOf_rel S h e
      exact .inr (.inl ⟨a, xs, rfl, (q1 rfl).seq, fun q o hq hd => tup_new S hq hd r.reverse p⟩)
    · rename_i ds e
      obtain ⟨a, xs, rfl, r, q1, q2⟩ := seqOf_rel S h e
      exact .inl ⟨a, xs, rfl, q2 rfl, fun q hq => frzQ_new S hq r.reverse p⟩
    · exact p.elim
def tRevD (K : PySem.W.Frag) (te : TE) : TE := fun σ H Q => te σ H fun x H1 =>
  (∃ a xs, x = .ref a ∧ SqL K H1 a xs ∧ ∀ p, H1 p = none → frzQ Q (.ref p) (upd H1 p (.lst xs.reverse))) ∨
  (∃ a xs, x = .ref a ∧ SqT K H1 a xs ∧ ∀ p o, H1 p = none → o.dict = none → Q (.ref p) (upd H1 p (.frz o (.tup xs.reverse)))) ∨
  (∃ z : Str, x = .str z ∧ z.length ≤ sizeLine ∧ Q (.str ⟨z.cps.toList.reverse.toArray⟩) H1)
/-- frozen where it is a list that changes -/
def frzW (Q : VK) : VK := fun v H => Q v H ∨ frzQ Q v H
theorem ep_frzW {pins : List (Addr × Obj)} {σ : L2.St} {Q : VK} {u : Value} {s : Shared} (h : EP X pins σ (frzW Q) u s) : EP X pins σ Q u s := by
  obtain ⟨v, H, I, r, q⟩ := h
  rcases q with q | q
  · exact ⟨v, H, I, r, q⟩
  · exact ep_frz ⟨v, H, I, r, q⟩
theorem pe_frzW {e : Expr} {t : TE} (h : PE X e t) : PE X e (fun σ H Q => t σ H (frzW Q)) :=
  ⟨fun pins s σ H Q I hw => thn (h.run pins s σ H _ I hw) fun _ _ q => ep_frzW q⟩
/-- .. and gone from what may change -/
theorem frzD_rel {ρ : List Addr} {H : Hp} {M : Mh} {d : D} {x : V} {Q : VK} {W : XK} (S : Sim X.K fa ρ M H) (h : RelD X.K fa ρ H d x) (p : Post X.K fa cl (RelD X.K fa) ρ H (frzD d M) Q W) : frzW Q x H := by
  unfold frzD at p
  split at p
  · split at p
    · rename_i n ds hn
      cases h with | ref hr =>
      obtain ⟨a, xs, e1, e2, r⟩ := S.at hn
      rw [hr] at e1; cases e1
      refine .inr ⟨_, xs, rfl, e2, fun o => ?_⟩
      have k := Kp.write (o' := .frz o (.lst xs)) e2 (fun z => z)
      exact p.ok (Fr.write e2 (fun z => z) (List.mem_of_getElem? hr)) (.lst (.inl ⟨o, upd_same⟩) (r.mono (List.prefix_refl _) k)) (S.kill hn hr e2)
    · exact p.elim
  · exact .inl (p.ok0 h S)

/-! ### stores -/
theorem putD_rel {ρ : List Addr} {H : Hp} {M M' : Mh} {o i d : D} {xo xi x : V} {Q : Hp → Prop} (S : Sim X.K fa ρ M H) (ho : RelD X.K fa ρ H o xo) (hi : RelD X.K fa ρ H i xi) (hd : RelD X.K fa ρ H d x)
    (e : putD o i d M = some M') (q : ∀ H', Fr ρ H ρ H' → Sim X.K fa ρ M' H' → Q H') : rSetL xo xi x H Q := by
  unfold putD at e
  split at e
  · rename_i n k
    cases ho with | ref hr =>
    cases hi
    split at e
    · rename_i xs hn
      split at e
      · rename_i j hj
        cases e
        obtain ⟨a, ys, e1, e2, r⟩ := S.at hn
        rw [hr] at e1; cases e1
        refine ⟨_, ys, _, j, rfl, rfl, e2, by rw [← r.length]; exact hj, q _ (Fr.write e2 (fun z => z) (List.mem_of_getElem? hr)) (S.put hn hr e2 (RelDs.set hd j r))⟩
      · cases e
    · cases e
  · cases e
end
end RF

set_option Elab.async false
set_option linter.all false
set_option maxRecDepth 100000
set_option maxHeartbeats 4000000
namespace RF
open PySem PySem.Spec PyProof.Rows L2

/-! ### walks over data -/
structure WalkR (K : PySem.W.Frag) (fa : Fa) (ρ : List Addr) (H : Hp) (ds : List D) (src : Option Nat) (J : It) : Prop where
  goes : ∀ (i : Nat) (ρ' : List Addr) (M' : Mh) (H' : Hp), Fr ρ H ρ' H' → Sim K fa ρ' M' H' → still M' ds src = true → i < ds.length → J.go i H'
  stops : ∀ (ρ' : List Addr) (M' : Mh) (H' : Hp), Fr ρ H ρ' H' → Sim K fa ρ' M' H' → still M' ds src = true → J.stop ds.length H'
  yields : ∀ (i : Nat) (ρ' : List Addr) (M' : Mh) (H' : Hp) (x : V) (H2 : Hp), Fr ρ H ρ' H' → Sim K fa ρ' M' H' → still M' ds src = true → i < ds.length → J.yld i H' x H2 →
    ∃ d, ds[i]? = some d ∧ RelD K fa ρ' H2 d x ∧ Same H' H2
abbrev rlI (K : PySem.W.Frag) (fa : Fa) : Rl (List D × Option Nat) It := fun ρ H p J => WalkR K fa ρ H p.1 p.2 J
theorem RelDs.of_at {K : PySem.W.Frag} {fa : Fa} {ρ : List Addr} {H : Hp} {ds : List D} {vs : List V} (r : RelDs K fa ρ H ds vs) {i : Nat} (hi : i < ds.length) : ∃ d v, ds[i]? = some d ∧ vs[i]? = some v ∧ RelD K fa ρ H d v := by
  obtain ⟨v, h1, h2⟩ := r.get (i := i) (d := ds[i]) (by simp [hi])
  exact ⟨_, v, by simp [hi], h1, h2⟩
section
variable {K : PySem.W.Frag} {fa : Fa} {ρ : List Addr} {H : Hp} {ds : List D} {M : Mh}
theorem walkR_list {a : Addr} {xs : List V} (h : FzL K H a xs) (r : RelDs K fa ρ H ds xs) : WalkR K fa ρ H ds none (Itl K a) := by
  refine ⟨fun i ρ' M' H' f S st hi => ?_, fun ρ' M' H' f S st => ?_, fun i ρ' M' H' x H2 f S st hi y => ?_⟩
  · obtain ⟨d, v, h1, h2, _⟩ := r.of_at hi
    exact ⟨xs, v, (h.kp f.k).seq, h2⟩
  · exact ⟨xs, (h.kp f.k).seq, by rw [r.length]; exact Nat.le_refl _⟩
  · obtain ⟨e, y⟩ := y
    subst e
    obtain ⟨d, v, h1, h2, h3⟩ := r.of_at hi
    have q := y xs (h.kp f.k).seq
    rw [h2] at q; cases q
    exact ⟨d, h1, h3.mono f.g f.k, fun _ _ e => e⟩
theorem walkR_tup {a : Addr} {xs : List V} (h : SqT K H a xs) (r : RelDs K fa ρ H ds xs) : WalkR K fa ρ H ds none (Itt K a) := by
  refine ⟨fun i ρ' M' H' f S st hi => ?_, fun ρ' M' H' f S st => ?_, fun i ρ' M' H' x H2 f S st hi y => ?_⟩
  · obtain ⟨d, v, h1, h2, _⟩ := r.of_at hi
    exact ⟨xs, v, sqT_kp f.k h, h2⟩
  · exact ⟨xs, sqT_kp f.k h, by rw [r.length]; exact Nat.le_refl _⟩
  · obtain ⟨e, y⟩ := y
    subst e
    obtain ⟨d, v, h1, h2, h3⟩ := r.of_at hi
    have q := y xs (sqT_kp f.k h)
    rw [h2] at q; cases q
    exact ⟨d, h1, h3.mono f.g f.k, fun _ _ e => e⟩
theorem still_some {M : Mh} {ds : List D} {n : Nat} (h : still M ds (some n) = true) : M[n]? = some (.lst ds) := by
  unfold still at h
  simp only at h
  split at h
  · rename_i ys hn
    rw [hn, D.beqs_eq h]
  · cases h
theorem walkR_ref {a : Addr} {n : Nat} (ha : ρ[n]? = some a) : WalkR K fa ρ H ds (some n) (Itl K a) := by
  have at_ : ∀ {ρ' : List Addr} {M' : Mh} {H' : Hp}, Fr ρ H ρ' H' → Sim K fa ρ' M' H' → still M' ds (some n) = true → ∃ xs, SqL K H' a xs ∧ RelDs K fa ρ' H' ds xs := fun {ρ' M' H'} f S st => by
    obtain ⟨b, xs, h1, h2, r⟩ := S.at (still_some st)
    rw [f.g.at ha] at h1; cases h1
    exact ⟨xs, .of h2, r⟩
  refine ⟨fun i ρ' M' H' f S st hi => ?_, fun ρ' M' H' f S st => ?_, fun i ρ' M' H' x H2 f S st hi y => ?_⟩
  · obtain ⟨xs, q, r⟩ := at_ f S st
    obtain ⟨d, v, h1, h2, _⟩ := r.of_at hi
    exact ⟨xs, v, q, h2⟩
  · obtain ⟨xs, q, r⟩ := at_ f S st
    exact ⟨xs, q, by rw [r.length]; exact Nat.le_refl _⟩
  · obtain ⟨e, y⟩ := y
    subst e
    obtain ⟨xs, q, r⟩ := at_ f S st
    obtain ⟨d, v, h1, h2, h3⟩ := r.of_at hi
    have q := y xs q
    rw [h2] at q; cases q
    exact ⟨d, h1, h3, fun _ _ e => e⟩
theorem walkR_str {z : Str} (hz : sgood z = true) : WalkR K fa ρ H (signs z) none (Its z) := by
  have el : (signs z).length = z.cps.size := by unfold signs; rw [List.length_map, Array.length_toList]
  refine ⟨fun i ρ' M' H' f S st hi => ?_, fun ρ' M' H' f S st => ?_, fun i ρ' M' H' x H2 f S st hi y => ?_⟩
  · exact (by rw [el] at hi; exact hi : i < z.cps.size)
  · exact (by rw [el]; exact Nat.le_refl _ : z.cps.size ≤ (signs z).length)
  · obtain ⟨e, c, hc, rfl⟩ := y
    subst e
    refine ⟨.str ⟨#[c]⟩, ?_, .str _ (sgood_sign hz ?_), fun _ _ e => e⟩
    · unfold signs
      rw [List.getElem?_map]
      have : z.cps.toList[i]? = some c := by simpa using hc
      rw [this]; rfl
    · have : z.cps.toList[i]? = some c := by simpa using hc
      exact List.mem_of_getElem? this
theorem walkR_rng {lo : Int} {n : Nat} : WalkR K fa ρ H ((List.range n).map fun (i : Nat) => D.int (lo + (i : Int))) none (Itr lo n) := by
  refine ⟨fun i ρ' M' H' f S st hi => ?_, fun ρ' M' H' f S st => ?_, fun i ρ' M' H' x H2 f S st hi y => ?_⟩
  · exact (by simpa using hi : i < n)
  · show n ≤ ((List.range n).map fun (i : Nat) => D.int (lo + (i : Int))).length
    simp
  · obtain ⟨e, rfl⟩ := y
    subst e
    have hi' : i < n := by simpa using hi
    exact ⟨.int (lo + i), by simp [hi'], .int _, fun _ _ e => e⟩
theorem walkR_rng3 {lo c : Int} {n : Nat} : WalkR K fa ρ H (rng3L lo c n) none (Itc lo c n) := by
  refine ⟨fun i ρ' M' H' f S st hi => ?_, fun ρ' M' H' f S st => ?_, fun i ρ' M' H' x H2 f S st hi y => ?_⟩
  · have : i < n := by simpa [rng3L] using hi
    exact this
  · show n ≤ (rng3L lo c n).length
    simp [rng3L]
  · obtain ⟨e, rfl⟩ := y
    subst e
    have hi' : i < n := by simpa [rng3L] using hi
    exact ⟨.int (lo + i * c), by simp [rng3L, hi'], .int _, fun _ _ e => e⟩
theorem fz_rel {X : Cx} {d : D} {v : V} (h : RelD X.K fa ρ H d v) {es : List D} (e : fzOf d = some es) : ∃ xs, SkV X.K H v xs ∧ RelDs X.K fa ρ H es xs := by
  cases h with
  | tup h r => simp only [fzOf, Option.some.injEq] at e; subst e; exact ⟨_, .inr (.inl ⟨_, rfl, fun H' k => sqT_kp k h.seq⟩), r⟩
  | lst h r => simp only [fzOf, Option.some.injEq] at e; subst e; exact ⟨_, .inl ⟨_, rfl, fun H' k => (h.kp k).seq⟩, r⟩
  | str z hz => simp only [fzOf, Option.some.injEq] at e; subst e; exact ⟨_, .inr (.inr ⟨z, rfl, rfl⟩), signs_rels hz⟩
  | non => simp [fzOf] at e
  | bl _ => simp [fzOf] at e
  | int _ => simp [fzOf] at e
  | ref _ => simp [fzOf] at e
  | ty _ => simp [fzOf] at e
  | fn _ => simp [fzOf] at e
  | dct _ _ _ _ => simp [fzOf] at e
theorem walkR_zip {k1 k2 : Sk} {d1 d2 : List D} (ok1 : ∀ H', Kp H H' → k1.ok K H') (ok2 : ∀ H', Kp H H' → k2.ok K H') (r1 : RelDs K fa ρ H d1 k1.items) (r2 : RelDs K fa ρ H d2 k2.items) :
    WalkR K fa ρ H (List.zipWith (fun p q => D.tup [p, q]) d1 d2) none (ItP K k1 k2) := by
  have e1 := r1.length
  have e2 := r2.length
  have el : (List.zipWith (fun p q => D.tup [p, q]) d1 d2).length = min k1.items.length k2.items.length := by rw [List.length_zipWith, e1, e2]
  refine ⟨fun i ρ' M' H' f S st hi => ?_, fun ρ' M' H' f S st => ?_, fun i ρ' M' H' x H2 f S st hi y => ?_⟩
  · rw [el] at hi
    exact ⟨ok1 _ f.k, ok2 _ f.k, by omega, by omega⟩
  · exact ⟨ok1 _ f.k, ok2 _ f.k, el⟩
  · obtain ⟨T, x, z, ob, rfl, hT, hd, rfl, h1, h2⟩ := y
    rw [el] at hi
    obtain ⟨p, hp, rp⟩ := r1.getV h1
    obtain ⟨q, hq, rq⟩ := r2.getV h2
    have s : Same H' (upd H' T (.frz ob (.tup [x, z]))) := same_new hT
    refine ⟨.tup [p, q], ?_, .tup (.of upd_same hd) (.cons ((rp.mono f.g f.k).mono (List.prefix_refl _) (Kp.of_same s)) (.cons ((rq.mono f.g f.k).mono (List.prefix_refl _) (Kp.of_same s)) .nil)), s⟩
    rw [List.getElem?_zipWith, hp, hq]
theorem walkR_enm {k1 : Sk} {d1 : List D} (ok1 : ∀ H', Kp H H' → k1.ok K H') (r1 : RelDs K fa ρ H d1 k1.items) :
    WalkR K fa ρ H (d1.zipIdx.map (fun p => D.tup [.int p.2, p.1])) none (ItE K k1) := by
  have e1 := r1.length
  have el : (d1.zipIdx.map (fun p => D.tup [.int p.2, p.1])).length = k1.items.length := by rw [List.length_map, List.length_zipIdx, e1]
  refine ⟨fun i ρ' M' H' f S st hi => ?_, fun ρ' M' H' f S st => ?_, fun i ρ' M' H' x H2 f S st hi y => ?_⟩
  · rw [el] at hi
    exact ⟨ok1 _ f.k, hi⟩
  · exact ⟨ok1 _ f.k, el⟩
  · obtain ⟨T, x, ob, rfl, hT, hd, rfl, h1⟩ := y
    obtain ⟨p, hp, rp⟩ := r1.getV h1
    have s : Same H' (upd H' T (.frz ob (.tup [.int (i : Nat), x]))) := same_new hT
    refine ⟨.tup [.int i, p], ?_, .tup (.of upd_same hd) (.cons (.int _) (.cons ((rp.mono f.g f.k).mono (List.prefix_refl _) (Kp.of_same s)) .nil)), s⟩
    rw [List.getElem?_map, List.getElem?_zipIdx, hp]
    simp
theorem walkR_enmF {k1 : Sk} {d1 : List D} (c : Nat) (ok1 : ∀ H', Kp H H' → k1.ok K H') (r1 : RelDs K fa ρ H d1 k1.items) :
    WalkR K fa ρ H ((d1.zipIdx c).map (fun p => D.tup [.int p.2, p.1])) none (ItEF K k1 c) := by
  have e1 := r1.length
  have el : ((d1.zipIdx c).map (fun p => D.tup [.int p.2, p.1])).length = k1.items.length := by rw [List.length_map, List.length_zipIdx, e1]
  refine ⟨fun i ρ' M' H' f S st hi => ?_, fun ρ' M' H' f S st => ?_, fun i ρ' M' H' x H2 f S st hi y => ?_⟩
  · rw [el] at hi
    exact ⟨ok1 _ f.k, hi⟩
  · exact ⟨ok1 _ f.k, el⟩
  · obtain ⟨T, x, ob, rfl, hT, hd, rfl, h1⟩ := y
    obtain ⟨p, hp, rp⟩ := r1.getV h1
    have s : Same H' (upd H' T (.frz ob (.tup [.int ((c + i : Nat) : Int), x]))) := same_new hT
    refine ⟨.tup [.int ((c + i : Nat) : Int), p], ?_, .tup (.of upd_same hd) (.cons (.int _) (.cons ((rp.mono f.g f.k).mono (List.prefix_refl _) (Kp.of_same s)) .nil)), s⟩
    rw [List.getElem?_map, List.getElem?_zipIdx, hp]
    simp
end

/-! ### how an iterable is begun -/
section
variable {X : Cx} {fa : Fa} {cl : Nat → Value} {tg : Expr}
def iAny (K : PySem.W.Frag) (te : TE) : TI := fun σ H R => te σ H fun x H1 =>
  (∃ a, x = .ref a ∧ (∃ xs, SqL K H1 a xs) ∧ R (Itl K a) H1) ∨ (∃ a, x = .ref a ∧ (∃ xs, SqT K H1 a xs) ∧ R (Itt K a) H1) ∨ ∃ z, x = .str z ∧ R (Its z) H1
theorem pi_any {e : Expr} {te : TE} (he : PE X e te) : PI X tg e (iAny X.K te) := by
  refine ⟨fun pins s σ H R I h => ?_⟩
  refine thn (he.run pins s σ H _ I h) fun v s1 ⟨x, H1, I1, r1, q1⟩ => ?_
  rcases q1 with ⟨a, e, ⟨xs, hq⟩, q⟩ | ⟨a, e, ⟨xs, hq⟩, q⟩ | ⟨z, e, q⟩
  · subst e
    cases r1
    obtain ⟨its, rv, p, hz⟩ := I1.list hq
    refine wpAny_pyIter_list p.isList ?_
    exact pi_one (tk := s1.toks) I1 _ (turn_list a _) ⟨_, Heap.get?_push_size _ rfl, rfl, rfl⟩ q
  · subst e
    cases r1
    obtain ⟨its, rv, p, hz⟩ := I1.tuple hq
    refine wpAny_pyIter_tuple (show s1.heap.IsTuple a its.toArray from p) ?_
    exact pi_one (tk := s1.toks) I1 _ (turn_tuple a _) ⟨_, Heap.get?_push_size _ rfl, rfl, rfl⟩ q
  · subst e
    obtain ⟨t, rfl⟩ := r1
    cases ha : z.cps.all (· < 128)
    · exact wpAny_pyIter_wide ha (pi_one (tk := s1.toks) I1 _ (turn_str _ z t "str_iterator" (.inr rfl)) ⟨_, Heap.get?_push_size _ rfl, rfl, rfl⟩ q)
    · exact wpAny_pyIter_ascii ha (pi_one (tk := s1.toks) I1 _ (turn_str _ z t "str_ascii_iterator" (.inl rfl)) ⟨_, Heap.get?_push_size _ rfl, rfl, rfl⟩ q)
theorem iter_rel {ρ : List Addr} {H : Hp} {M : Mh} {d : D} {x : V} {R : It → Hp → Prop} {W : XK} (S : Sim X.K fa ρ M H) (h : RelD X.K fa ρ H d x) (p : Post X.K fa cl (rlI X.K fa) ρ H (ofO M (iterD d M)) R W) :
    (∃ a, x = .ref a ∧ (∃ xs, SqL X.K H a xs) ∧ R (Itl X.K a) H) ∨ (∃ a, x = .ref a ∧ (∃ xs, SqT X.K H a xs) ∧ R (Itt X.K a) H) ∨ ∃ z, x = .str z ∧ R (Its z) H := by
  cases h with
  | str z hz => exact .inr (.inr ⟨_, rfl, p.ok0 (walkR_str hz) S⟩)
  | tup h r => exact .inr (.inl ⟨_, rfl, ⟨_, h.seq⟩, p.ok0 (walkR_tup h.seq r) S⟩)
  | lst h r => exact .inl ⟨_, rfl, ⟨_, h.seq⟩, p.ok0 (walkR_list h r) S⟩
  | ref h =>
    simp only [iterD] at p
    split at p
    · rename_i ds hn
      simp only [ofO] at p
      obtain ⟨a, xs, h1, h2, r⟩ := S.at hn
      rw [h] at h1; cases h1
      exact .inl ⟨_, rfl, ⟨xs, .of h2⟩, p.ok0 (walkR_ref h) S⟩
    · exact p.elim
  | non => exact p.elim
  | bl _ => exact p.elim
  | int _ => exact p.elim
  | ty _ => exact p.elim
  | fn _ => exact p.elim
  | dct _ _ _ _ => exact p.elim
end
end RF

set_option Elab.async false
set_option linter.all false
set_option maxRecDepth 100000
set_option maxHeartbeats 4000000
namespace RF
open PySem PySem.Spec PyProof.Rows L2

/-! ### the ends of a block -/
abbrev WX := Value → Option Addr → L2.St → Hp → Prop
def PostS (K : PySem.W.Frag) (fa : Fa) (cl : Nat → Value) (ρ : List Addr) (H : Hp) (r : R F) (D : Ends) (W : WX) : Prop :=
  match r with
  | .ok (.nx env) M => ∀ ρ' σ' H', Fr ρ H ρ' H' → EnvR K fa ρ' H' σ' env → Sim K fa ρ' M H' → D.nx σ' H'
  | .ok (.rt d) M => ∀ ρ' v H', Fr ρ H ρ' H' → RelD K fa ρ' H' d v → Sim K fa ρ' M H' → D.rt v H'
  | .ok (.bk env) M => ∀ ρ' σ' H', Fr ρ H ρ' H' → EnvR K fa ρ' H' σ' env → Sim K fa ρ' M H' → D.bk σ' H'
  | .ok (.ct env) M => ∀ ρ' σ' H', Fr ρ H ρ' H' → EnvR K fa ρ' H' σ' env → Sim K fa ρ' M H' → D.ct σ' H'
  | .ok (.ex c fs env) M => ∀ ρ' d σ' H', Fr ρ H ρ' H' → EnvR K fa ρ' H' σ' env → Sim K fa ρ' M H' → XR K fa ρ' H' fs d → W (cl c) d σ' H'
  | .exc _ _ _ => False
  | .bad => False
section
variable {K : PySem.W.Frag} {fa : Fa} {cl : Nat → Value} {ρ ρ' : List Addr} {H H' : Hp} {M : Mh} {W : WX} {D D' : Ends}
theorem PostS.mono {r : R F} (p : PostS K fa cl ρ H r D W) (g : Fr ρ H ρ' H') : PostS K fa cl ρ' H' r D W := by
  cases r with
  | ok f M =>
    cases f with
    | nx env => exact fun ρ2 b H2 g2 => p ρ2 b H2 (g.trans g2)
    | rt d => exact fun ρ2 b H2 g2 => p ρ2 b H2 (g.trans g2)
    | bk env => exact fun ρ2 b H2 g2 => p ρ2 b H2 (g.trans g2)
    | ct env => exact fun ρ2 b H2 g2 => p ρ2 b H2 (g.trans g2)
    | ex c fs env => exact fun ρ2 d b H2 g2 => p ρ2 d b H2 (g.trans g2)
  | exc c fs M => exact p
  | bad => exact p
/-- an expression ahead of the rest of the block -/
theorem PostS.bindS {α β : Type} {rl : Rl α β} {r : R α} {f : α → Mh → R F} {σ : L2.St} {env : Env} {Q1 : β → Hp → Prop} (p : PostS K fa cl ρ H (r.bindS env f) D W) (e : EnvR K fa ρ H σ env)
    (h : ∀ a M1 ρ1 b H1, r = .ok a M1 → Fr ρ H ρ1 H1 → rl ρ1 H1 a b → Sim K fa ρ1 M1 H1 → PostS K fa cl ρ1 H1 (f a M1) D W → Q1 b H1) : Post K fa cl rl ρ H r Q1 (fun c d H' => W c d σ H') := by
  cases r with
  | ok a M => exact fun ρ1 b H1 g r s => h a M ρ1 b H1 rfl g r s (PostS.mono (r := f a M) p g)
  | exc c fs M => exact fun ρ1 d H1 g s x => p ρ1 d σ H1 g (e.mono g) s x
  | bad => exact p
/-- a block ahead of the rest: its ends -/
def endsOf (K : PySem.W.Frag) (fa : Fa) (cl : Nat → Value) (ρ : List Addr) (H : Hp) (P : F → Mh → Prop) : Ends where
  nx := fun σ' H' => ∃ env M ρ', P (.nx env) M ∧ Fr ρ H ρ' H' ∧ EnvR K fa ρ' H' σ' env ∧ Sim K fa ρ' M H'
  rt := fun v H' => ∃ d M ρ', P (.rt d) M ∧ Fr ρ H ρ' H' ∧ RelD K fa ρ' H' d v ∧ Sim K fa ρ' M H'
  bk := fun σ' H' => ∃ env M ρ', P (.bk env) M ∧ Fr ρ H ρ' H' ∧ EnvR K fa ρ' H' σ' env ∧ Sim K fa ρ' M H'
  ct := fun σ' H' => ∃ env M ρ', P (.ct env) M ∧ Fr ρ H ρ' H' ∧ EnvR K fa ρ' H' σ' env ∧ Sim K fa ρ' M H'
/-- from what a block's result is to any ends that take it -/
theorem PostS.of {r : R F} (hx : ∀ c fs M, r ≠ .exc c fs M) (hb : r ≠ .bad) (hn : ∀ env M ρ' σ' H', r = .ok (.nx env) M → Fr ρ H ρ' H' → EnvR K fa ρ' H' σ' env → Sim K fa ρ' M H' → D.nx σ' H')
    (hr : ∀ d M ρ' v H', r = .ok (.rt d) M → Fr ρ H ρ' H' → RelD K fa ρ' H' d v → Sim K fa ρ' M H' → D.rt v H')
    (hk : ∀ env M ρ' σ' H', r = .ok (.bk env) M → Fr ρ H ρ' H' → EnvR K fa ρ' H' σ' env → Sim K fa ρ' M H' → D.bk σ' H')
    (hc : ∀ env M ρ' σ' H', r = .ok (.ct env) M → Fr ρ H ρ' H' → EnvR K fa ρ' H' σ' env → Sim K fa ρ' M H' → D.ct σ' H')
    (he : ∀ c fs env M ρ' d σ' H', r = .ok (.ex c fs env) M → Fr ρ H ρ' H' → EnvR K fa ρ' H' σ' env → Sim K fa ρ' M H' → XR K fa ρ' H' fs d → W (cl c) d σ' H') : PostS K fa cl ρ H r D W := by
  cases r with
  | ok f M =>
    cases f with
    | nx env => exact fun ρ' σ' H' => hn env M ρ' σ' H' rfl
    | rt d => exact fun ρ' σ' H' => hr d M ρ' σ' H' rfl
    | bk env => exact fun ρ' σ' H' => hk env M ρ' σ' H' rfl
    | ct env => exact fun ρ' σ' H' => hc env M ρ' σ' H' rfl
    | ex c fs env => exact fun ρ' d σ' H' => he c fs env M ρ' d σ' H' rfl
  | exc c fs M => exact hx c fs M rfl
  | bad => exact hb rfl
end

/-! ### loops -/
section
variable {K : PySem.W.Frag} {fa : Fa} {cl : Nat → Value} {ρ ρ' : List Addr} {H H' : Hp} {M : Mh} {W : WX} {D : Ends}
/-- one turn of a for: what is wanted behind the body -/
theorem forL_step {f : RF.D → Env → Mh → R F} {all xs : List RF.D} {src : Option Nat} {x : RF.D} {env : Env} {M : Mh} (p : PostS K fa cl ρ H (forL f all src (x :: xs) env M) D W) :
    still M all src = true ∧ PostS K fa cl ρ H (f x env M)
      { D with nx := fun σ' H' => ∃ env' M' ρ', Fr ρ H ρ' H' ∧ EnvR K fa ρ' H' σ' env' ∧ Sim K fa ρ' M' H' ∧ PostS K fa cl ρ' H' (forL f all src xs env' M') D W,
               ct := fun σ' H' => ∃ env' M' ρ', Fr ρ H ρ' H' ∧ EnvR K fa ρ' H' σ' env' ∧ Sim K fa ρ' M' H' ∧ PostS K fa cl ρ' H' (forL f all src xs env' M') D W,
               bk := D.nx } W := by
  unfold forL at p
  split at p
  · rename_i hs
    refine ⟨hs, ?_⟩
    cases hr : f x env M with
    | ok fl M' =>
      rw [hr, R.bind_ok] at p
      cases fl with
      | nx env' => exact fun ρ' σ' H' g e S => ⟨env', M', ρ', g, e, S, p.mono g⟩
      | rt d => exact p
      | bk env' => exact p
      | ct env' => exact fun ρ' σ' H' g e S => ⟨env', M', ρ', g, e, S, p.mono g⟩
      | ex c fs env' => exact p
    | exc c fs M' => rw [hr, R.bind_exc] at p; exact p
    | bad => rw [hr, R.bind_bad] at p; exact p
  · exact p.elim
theorem forL_done {f : RF.D → Env → Mh → R F} {all : List RF.D} {src : Option Nat} {env : Env} {M : Mh} (p : PostS K fa cl ρ H (forL f all src [] env M) D W) :
    still M all src = true ∧ PostS K fa cl ρ H (.ok (.nx env) M) D W := by
  unfold forL at p
  split at p
  · rename_i hs; exact ⟨hs, p⟩
  · exact p.elim
/-- a for -/
theorem for_rel {J : It} {f : RF.D → Env → Mh → R F} {ds : List RF.D} {src : Option Nat} {g : TG} {tb : TS} {σ : L2.St} {env : Env} (w : WalkR K fa ρ H ds src J) (e : EnvR K fa ρ H σ env) (S : Sim K fa ρ M H)
    (p : PostS K fa cl ρ H (forL f ds src ds env M) D W)
    (body : ∀ (d : RF.D) (x : V) (env : Env) (M : Mh) (ρ : List Addr) (σ : L2.St) (H : Hp) (D : Ends), RelD K fa ρ H d x → EnvR K fa ρ H σ env → Sim K fa ρ M H → PostS K fa cl ρ H (f d env M) D W → g x σ H fun σ2 H2 => tb D σ2 H2) :
    ∃ Wf : Nat → Nat → L2.St → Hp → Prop, (∃ m, Wf 0 m σ H) ∧ ∀ i m σ H, Wf i m σ H →
      (J.stop i H ∧ D.nx σ H) ∨ (J.go i H ∧ ∃ N : L2.St → Hp → Prop, (∀ σ' H', N σ' H' → ∃ m', m' < m ∧ Wf (i + 1) m' σ' H') ∧ ∀ x H', J.yld i H x H' → g x σ H' fun σ2 H2 => tb { D with nx := N, ct := N, bk := D.nx } σ2 H2) := by
  refine ⟨fun i m σ' H' => m = ds.length - i ∧ i ≤ ds.length ∧ ∃ env' M' ρ', Fr ρ H ρ' H' ∧ EnvR K fa ρ' H' σ' env' ∧ Sim K fa ρ' M' H' ∧ PostS K fa cl ρ' H' (forL f ds src (ds.drop i) env' M') D W,
    ⟨ds.length, by simp, Nat.zero_le _, env, M, ρ, Fr.refl _ _, e, S, by simpa using p⟩, ?_⟩
  rintro i m σ1 H1 ⟨rfl, hi, env1, M1, ρ1, g1, e1, S1, p1⟩
  by_cases hlt : i < ds.length
  · have hd : ds.drop i = ds[i] :: ds.drop (i + 1) := List.drop_eq_getElem_cons hlt
    rw [hd] at p1
    obtain ⟨st, p2⟩ := forL_step p1
    refine .inr ⟨w.goes i ρ1 M1 H1 g1 S1 st hlt, fun σ' H' => ∃ env' M' ρ', Fr ρ1 H1 ρ' H' ∧ EnvR K fa ρ' H' σ' env' ∧ Sim K fa ρ' M' H' ∧ PostS K fa cl ρ' H' (forL f ds src (ds.drop (i + 1)) env' M') D W,
      fun σ' H' ⟨env', M', ρ', g', e', S', p'⟩ => ⟨ds.length - (i + 1), by omega, rfl, hlt, env', M', ρ', g1.trans g', e', S', p'⟩, fun x H2 y => ?_⟩
    obtain ⟨d, hd', rd, sm⟩ := w.yields i ρ1 M1 H1 x H2 g1 S1 st hlt y
    have hdd : ds[i] = d := by simpa [hlt] using hd'
    rw [hdd] at p2
    have fr2 : Fr ρ1 H1 ρ1 H2 := Fr.same sm
    refine body d x env1 M1 ρ1 σ1 H2 _ rd (e1.mono fr2) (S1.same sm) ?_
    -- the ends, from the state behind the iterator's step
    refine PostS.of (r := f d env1 M1) ?_ ?_ ?_ ?_ ?_ ?_ ?_
    · intro c fs M' h; rw [h] at p2; exact p2
    · intro h; rw [h] at p2; exact p2
    · intro env' M' ρ' σ' H' h g' e' S'
      rw [h] at p2
      exact p2 ρ' σ' H' (fr2.trans g') e' S'
    · intro d' M' ρ' v H' h g' r' S'
      rw [h] at p2
      exact p2 ρ' v H' (fr2.trans g') r' S'
    · intro env' M' ρ' σ' H' h g' e' S'
      rw [h] at p2
      exact p2 ρ' σ' H' (fr2.trans g') e' S'
    · intro env' M' ρ' σ' H' h g' e' S'
      rw [h] at p2
      exact p2 ρ' σ' H' (fr2.trans g') e' S'
    · intro c fs env' M' ρ' d' σ' H' h g' e' S' x'
      rw [h] at p2
      exact p2 ρ' d' σ' H' (fr2.trans g') e' S' x'
  · have e0 : i = ds.length := by omega
    subst e0
    rw [List.drop_length] at p1
    obtain ⟨st, p2⟩ := forL_done p1
    exact .inl ⟨w.stops ρ1 M1 H1 g1 S1 st, p2 ρ1 σ1 H1 (Fr.refl _ _) e1 S1⟩

/-- a while -/
theorem while_rel {c : Env → Mh → R Bool} {f : Env → Mh → R F} {tc : TT} {tb : TS} {σ : L2.St} {env : Env} {n : Nat} (e : EnvR K fa ρ H σ env) (S : Sim K fa ρ M H) (p : PostS K fa cl ρ H (whileL c f n env M) D W)
    (test : ∀ (env : Env) (M : Mh) (ρ : List Addr) (σ : L2.St) (H : Hp) (Q : Bool → Hp → Prop), EnvR K fa ρ H σ env → Sim K fa ρ M H → Post K fa cl (fun _ _ a b => a = b) ρ H (c env M) Q (fun c d H' => W c d σ H') → tc σ H Q)
    (body : ∀ (env : Env) (M : Mh) (ρ : List Addr) (σ : L2.St) (H : Hp) (D : Ends), EnvR K fa ρ H σ env → Sim K fa ρ M H → PostS K fa cl ρ H (f env M) D W → tb D σ H) : tWhile tc tb D σ H := by
  refine ⟨fun m σ' H' => ∃ env' M' ρ', Fr ρ H ρ' H' ∧ EnvR K fa ρ' H' σ' env' ∧ Sim K fa ρ' M' H' ∧ PostS K fa cl ρ' H' (whileL c f m env' M') D W, ⟨n, env, M, ρ, Fr.refl _ _, e, S, p⟩, ?_⟩
  rintro m σ1 H1 ⟨env1, M1, ρ1, g1, e1, S1, p1⟩
  cases m with
  | zero => exact p1.elim
  | succ m =>
    unfold whileL at p1
    refine test env1 M1 ρ1 σ1 H1 _ e1 S1 (PostS.bindS (rl := fun _ _ a b => a = b) p1 e1 fun a M2 ρ2 b H2 h2 g2 r2 S2 p2 => ?_)
    subst r2
    cases a with
    | false =>
      simp only [Bool.false_eq_true, if_false] at p2 ⊢
      exact p2 ρ2 σ1 H2 (Fr.refl _ _) (e1.mono g2) S2
    | true =>
      simp only [if_true] at p2 ⊢
      refine ⟨fun σ' H' => ∃ env' M' ρ', Fr ρ2 H2 ρ' H' ∧ EnvR K fa ρ' H' σ' env' ∧ Sim K fa ρ' M' H' ∧ PostS K fa cl ρ' H' (whileL c f m env' M') D W,
        fun σ' H' ⟨env', M', ρ', g', e', S', p'⟩ => ⟨m, Nat.lt_succ_self _, env', M', ρ', (g1.trans g2).trans g', e', S', p'⟩, ?_⟩
      refine body env1 M2 ρ2 σ1 H2 _ (e1.mono g2) S2 ?_
      cases hr : f env1 M2 with
      | ok fl M' =>
        rw [hr, R.bind_ok] at p2
        cases fl with
        | nx env' => exact fun ρ' σ' H' g e S => ⟨env', M', ρ', g, e, S, p2.mono g⟩
        | rt d => exact p2
        | bk env' => exact p2
        | ct env' => exact fun ρ' σ' H' g e S => ⟨env', M', ρ', g, e, S, p2.mono g⟩
        | ex c fs env' => exact p2
      | exc c fs M' => rw [hr, R.bind_exc] at p2; exact p2
      | bad => rw [hr, R.bind_bad] at p2; exact p2
end

/-! ### comprehensions -/
theorem wipe_at {σ : L2.St} {j : Nat} : ∀ {vs : List Nat}, (L2.wipe σ vs)[j]? = if j ∈ vs ∧ j < σ.length then some none else σ[j]?
  | [] => by unfold L2.wipe; simp
  | v :: vs => by
    have ih := wipe_at (σ := σ) (j := j) (vs := vs)
    unfold L2.wipe
    by_cases hj : v = j
    · subst hj
      by_cases hl : v < σ.length
      · rw [List.getElem?_set_self (by rw [wipe_length]; exact hl)]
        simp [hl]
      · rw [List.getElem?_eq_none (by rw [List.length_set, wipe_length]; omega), List.getElem?_eq_none (by omega)]
        simp [hl]
    · rw [List.getElem?_set_ne hj, ih]
      have : (j ∈ v :: vs ∧ j < σ.length) ↔ (j ∈ vs ∧ j < σ.length) := by simp [Ne.symm hj]
      simp only [this]
theorem wipe_eq {σ σ' : L2.St} {vs : List Nat} (hl : σ'.length = σ.length) (h : ∀ j, j ∉ vs → σ'[j]? = σ[j]?) : L2.wipe σ' vs = L2.wipe σ vs := by
  apply List.ext_getElem?
  intro j
  rw [wipe_at, wipe_at, hl]
  split
  · rfl
  · rename_i hn
    by_cases hj : j ∈ vs
    · have : ¬ j < σ.length := fun z => hn ⟨hj, z⟩
      rw [List.getElem?_eq_none (by omega), List.getElem?_eq_none (by omega)]
    · exact h j hj
section
variable {K : PySem.W.Frag} {fa : Fa} {cl : Nat → Value} {ρ ρ' : List Addr} {H H' : Hp} {M : Mh}
theorem compL_step {f : D → Mh → R (Option D)} {all xs : List D} {src : Option Nat} {x : D} {M M2 : Mh} {acc out : List D} (p : compL f all src (x :: xs) M acc = .ok out M2) :
    still M all src = true ∧ ∃ o M', f x M = .ok o M' ∧ match o with
      | some y => acc.length < LINE ∧ compL f all src xs M' (acc ++ [y]) = .ok out M2
      | none => compL f all src xs M' acc = .ok out M2 := by
  unfold compL at p
  split at p
  · rename_i hs
    refine ⟨hs, ?_⟩
    cases hr : f x M with
    | ok o M' =>
      rw [hr, R.bind_ok] at p
      refine ⟨o, M', rfl, ?_⟩
      cases o with
      | none => exact p
      | some y =>
        simp only at p ⊢
        split at p
        · rename_i hl; exact ⟨hl, p⟩
        · cases p
    | exc c fs M' => rw [hr, R.bind_exc] at p; cases p
    | bad => rw [hr, R.bind_bad] at p; cases p
  · cases p
theorem compL_done {f : D → Mh → R (Option D)} {all : List D} {src : Option Nat} {M M2 : Mh} {acc out : List D} (p : compL f all src [] M acc = .ok out M2) : still M all src = true ∧ acc = out ∧ M = M2 := by
  unfold compL at p
  split at p
  · rename_i hs; cases p; exact ⟨hs, rfl, rfl⟩
  · cases p
theorem comp_rel {J : It} {f : D → Mh → R (Option D)} {ds out : List D} {src : Option Nat} {g : TG} {tt : TT} {te : TE} {vs : List Nat} {σ : L2.St} {Dl : Addr} {M2 : Mh} {Q : VK} (w : WalkR K fa ρ H ds src J) (S : Sim K fa ρ M H) (hD : H Dl = none)
    (run : compL f ds src ds M [] = .ok out M2)
    (body : ∀ (d : D) (x : V) (M M' : Mh) (ρ1 : List Addr) (H1 : Hp) (o : Option D) (K1 : V → Hp → Prop) (K0 : Hp → Prop), Fr ρ H ρ1 H1 → RelD K fa ρ1 H1 d x → Sim K fa ρ1 M H1 → f d M = .ok o M' →
      (∀ ρ' H', Fr ρ1 H1 ρ' H' → Sim K fa ρ' M' H' → match o with
        | some y => ∀ v, RelD K fa ρ' H' y v → K1 v H'
        | none => K0 H') → g x (L2.wipe σ vs) H1 fun σ2 H2 => L2.wipe σ2 vs = L2.wipe σ vs ∧ tt σ2 H2 fun b H3 => if b = true then te σ2 H3 fun y H4 => K1 y H4 else K0 H3)
    (fin : ∀ (ρ' : List Addr) (H' : Hp) (xs : List V), Fr ρ H ρ' H' → Sim K fa ρ' M2 H' → Dl ∉ ρ' → H' Dl = some (.lst xs) → RelDs K fa ρ' H' out xs → Q (.ref Dl) H') :
    ∃ Wf : Nat → Nat → Hp → Prop, (∃ m, Wf 0 m (upd H Dl (.lst []))) ∧ ∀ i m H, Wf i m H →
      (J.stop i H ∧ Q (.ref Dl) H) ∨ (J.go i H ∧ ∃ Nx : Hp → Prop, (∀ H', Nx H' → ∃ m', m' < m ∧ Wf (i + 1) m' H') ∧ ∀ x H', J.yld i H x H' → g x (L2.wipe σ vs) H' fun σ2 H2 => L2.wipe σ2 vs = L2.wipe σ vs ∧ tt σ2 H2 fun b H3 =>
        if b = true then te σ2 H3 fun y H4 => ∃ acc, H4 Dl = some (.lst acc) ∧ acc.length < sizeLine ∧ Nx (upd H4 Dl (.lst (acc ++ [y]))) else Nx H3) := by
  have s0 : Same H (upd H Dl (.lst [])) := same_new hD
  have nD : Dl ∉ ρ := fun hm => by obtain ⟨o, e⟩ := S.hs _ hm; rw [hD] at e; cases e
  refine ⟨fun i m H' => m = ds.length - i ∧ i ≤ ds.length ∧ ∃ ρ' M' acc xs, Fr ρ H ρ' H' ∧ Sim K fa ρ' M' H' ∧ Dl ∉ ρ' ∧ H' Dl = some (.lst xs) ∧ RelDs K fa ρ' H' acc xs ∧ compL f ds src (ds.drop i) M' acc = .ok out M2,
    ⟨ds.length, by simp, Nat.zero_le _, ρ, M, [], [], Fr.same s0, S.same s0, nD, upd_same, .nil, by simpa using run⟩, ?_⟩
  rintro i m H1 ⟨rfl, hi, ρ1, M1, acc, xs, g1, S1, n1, h1, r1, p1⟩
  by_cases hlt : i < ds.length
  · have hd : ds.drop i = ds[i] :: ds.drop (i + 1) := List.drop_eq_getElem_cons hlt
    rw [hd] at p1
    obtain ⟨st, o, M', hf, p2⟩ := compL_step p1
    refine .inr ⟨w.goes i ρ1 M1 H1 g1 S1 st hlt, fun H' => ∃ ρ' M' acc xs, Fr ρ H ρ' H' ∧ Sim K fa ρ' M' H' ∧ Dl ∉ ρ' ∧ H' Dl = some (.lst xs) ∧ RelDs K fa ρ' H' acc xs ∧ compL f ds src (ds.drop (i + 1)) M' acc = .ok out M2,
      fun H' q => ⟨ds.length - (i + 1), by omega, rfl, hlt, q⟩, fun x H2 y => ?_⟩
    obtain ⟨d, hd', rd, sm⟩ := w.yields i ρ1 M1 H1 x H2 g1 S1 st hlt y
    have hdd : ds[i] = d := by simpa [hlt] using hd'
    rw [hdd] at hf
    have fr2 : Fr ρ1 H1 ρ1 H2 := Fr.same sm
    refine body d x M1 M' ρ1 H2 o _ _ (g1.trans fr2) rd (S1.same sm) hf fun ρ' H' g' S' => ?_
    have g12 := fr2.trans g'
    obtain ⟨hD', nD'⟩ := g12.p Dl _ h1 n1
    have r' := r1.mono g12.g g12.k
    cases o with
    | none => exact ⟨ρ', M', acc, xs, g1.trans g12, S', nD', hD', r', p2⟩
    | some y =>
      simp only at p2 ⊢
      intro v rv
      refine ⟨xs, hD', by rw [sizeLine_eq, ← r1.length]; exact p2.1, ρ', M', acc ++ [y], xs ++ [v], ?_, S'.other nD' hD' (fun z => z), nD', upd_same, ?_, p2.2⟩
      · have q := g1.trans g12
        exact ⟨q.g, fun b u e z => by
            have ne : b ≠ Dl := fun c => by rw [c, hD] at e; cases e
            rw [upd_ne ne]; exact q.k b u e z, fun b u e n => by
            have ne : b ≠ Dl := fun c => by rw [c, hD] at e; cases e
            rw [upd_ne ne]; exact q.p b u e n⟩
      · have k : Kp H' (upd H' Dl (.lst (xs ++ [v]))) := Kp.write hD' (fun z => z)
        exact (r'.mono (List.prefix_refl _) k).append (.cons (rv.mono (List.prefix_refl _) k) .nil)
  · have e0 : i = ds.length := by omega
    subst e0
    rw [List.drop_length] at p1
    obtain ⟨st, rfl, rfl⟩ := compL_done p1
    exact .inl ⟨w.stops ρ1 M1 H1 g1 S1 st, fin ρ1 H1 xs g1 S1 n1 h1 r1⟩
end
end RF

set_option Elab.async false
set_option linter.all false
set_option maxRecDepth 100000
set_option maxHeartbeats 4000000
namespace RF
open PySem PySem.Spec PyProof.Rows L2

/-! ### the tables of a program; the tie of its terms to the given text -/
structure Tab where
  Γ : List RF.D
  gn : List Str
  fns : List (Str × List Str)
  cls : List Str
  blt : List Str
def visB (sc : Scope) (x : Str) : Bool :=
  (match sc.names.lookup x with
    | some .local => true
    | some .cell => true
    | some .free => true
    | _ => false) && !(x == ("__debug__" : Str)) && !(x == ("__classdict__" : Str))
def gloB (sc : Scope) (x : Str) : Bool :=
  (match sc.names.lookup x with
    | some .globalImplicit => true
    | _ => false) && !(x == ("__debug__" : Str)) && !(x == ("__name__" : Str))
/-- a name that may be stored to -/
def locB (os sc : Scope) (x : Str) : Bool :=
  match sc.names.lookup x with
  | some .local => true
  | some .cell => match os.names.lookup x with
    | some .cell => true
    | _ => false
  | _ => false
def isArg : Expr → Bool
  | .Starred .. => false
  | _ => true
def isIt : Expr → Bool
  | .Set .. => false
  | _ => true
def isIx : Expr → Bool
  | .Slice .. => false
  | _ => true
/-- its test is its value's truth -/
def isTr : Expr → Bool
  | .UnaryOp .Not _ _ => false
  | .BoolOp .. => false
  | .IfExp .. => false
  | .Compare .. => false
  | _ => true
def isOb : Expr → Bool
  | .Call (.Name _ _) [] [] _ => false
  | _ => true
def isCp : Expr → Bool
  | .ListComp .. => true
  | .SetComp .. => true
  | .DictComp .. => true
  | _ => false
def isTu : Expr → Bool
  | .Tuple .. => true
  | .List .. => true
  | _ => false
def Bi.name : Bi → Str
  | .len => Str.ofString "len"
  | .abs => Str.ofString "abs"
  | .int => Str.ofString "int"
  | .min => Str.ofString "min"
  | .max => Str.ofString "max"
  | .sum => Str.ofString "sum"
  | .all => Str.ofString "all"
  | .any => Str.ofString "any"
  | .tuple => Str.ofString "tuple"
  | .list => Str.ofString "list"
  | .isinst => Str.ofString "isinstance"
  | .str => Str.ofString "str"
  | .sorted => Str.ofString "sorted"
  | .dict => Str.ofString "dict"
theorem bi_boot (b : Bi) : bootBuiltins b.name = some b.val := by cases b <;> with_unfolding_all rfl
def tyNames : List String := ["int", "bool", "str", "tuple", "list", "dict"]
theorem ty_boot {n : String} (h : tyNames.contains n = true) : bootBuiltins (Str.ofString n) = some (.type n) := by
  unfold tyNames at h
  simp only [List.contains_eq_mem, List.mem_cons, List.not_mem_nil, or_false, decide_eq_true_eq] at h
  rcases h with rfl | rfl | rfl | rfl | rfl | rfl <;> with_unfolding_all rfl
mutual
def G.slots : G → List Nat
  | .nm i => [i]
  | .tp gs => gs.slots
  | .sb _ _ => []
def Gs.slots : Gs → List Nat
  | .nil => []
  | .cons g gs => g.slots ++ gs.slots
end
def Es.len : Es → Nat
  | .nil => 0
  | .cons _ es => es.len + 1
def Gs.len : Gs → Nat
  | .nil => 0
  | .cons _ gs => gs.len + 1
def ownN (N : List Str) (own : List Nat) : List (Str × Nat) := own.map fun i => (N.getD i default, i)

def isRg : I → Bool
  | .rng1 _ => true
  | .rng2 _ _ => true
  | _ => false
def isZp : I → Bool
  | .zip _ _ => true
  | _ => false
def noPart : E → Bool
  | .con .non => true
  | _ => false
section
variable (T : Tab) (N : List Str)
/-- a constant, or a def as a value -/
def chkC (sc : Scope) (d : RF.D) (ex : Expr) : Bool :=
  match ex with
  | .Constant c _ _ => match c, d with
    | .none, .non => true
    | .bool b, .bl b' => b == b'
    | .int i, .int j => i == j
    | .str s, .str s' => s == s' && sgood s'
    | _, _ => false
  | .Name x _ => match d with
    | .fn i => (match T.fns[i]? with
      | some p => p.1 == x
      | none => false) && gloB sc x
    | _ => false
  | _ => false
def chkTab (sc : Scope) : List RF.D → List RF.D → List (Option Expr) → List Expr → Bool
  | [], [], [], [] => true
  | k :: ks, v :: vs, some ke :: kes, ve :: ves => chkC T sc k ke && chkC T sc v ve && chkTab sc ks vs kes ves
  | _, _, _, _ => false
mutual
def chkE (os sc : Scope) : E → Expr → Bool
  | .var i, ex => match ex with
    | .Name x _ => N[i]? == some x && visB sc x
    | _ => false
  | .con d, ex => chkC T sc d ex
  | .glob g, ex => match ex with
    | .Name x _ => T.gn[g]? == some x && gloB sc x
    | _ => false
  | .tyc n, ex => match ex with
    | .Name x _ => x == Str.ofString n && tyNames.contains n && gloB sc x && T.blt.contains x
    | _ => false
  | .bin op a b, ex => match ex with
    | .BinOp a' op' b' _ => op == op' && chkE os sc a a' && chkE os sc b b'
    | _ => false
  | .neg a, ex => match ex with
    | .UnaryOp .USub a' _ => chkE os sc a a'
    | _ => false
  | .not a, ex => match ex with
    | .UnaryOp .Not a' _ => chkE os sc a a'
    | _ => false
  | .and a b, ex => match ex with
    | .BoolOp .And (x :: y :: rest) pos => chkE os sc a x && (match rest with
      | [] => chkE os sc b y
      | _ => chkE os sc b (.BoolOp .And (y :: rest) pos))
    | _ => false
  | .or a b, ex => match ex with
    | .BoolOp .Or (x :: y :: rest) pos => chkE os sc a x && (match rest with
      | [] => chkE os sc b y
      | _ => chkE os sc b (.BoolOp .Or (y :: rest) pos))
    | _ => false
  | .ite c a b, ex => match ex with
    | .IfExp c' a' b' _ => chkE os sc c c' && chkE os sc a a' && chkE os sc b b'
    | _ => false
  | .cmp op a b, ex => match ex with
    | .Compare a' [op'] [b'] _ => op == op' && isIt b' && chkE os sc a a' && chkE os sc b b'
    | _ => false
  | .chn op1 op2 a b c, ex => match ex with
    | .Compare a' [op1', op2'] [b', c'] _ => op1 == op1' && op2 == op2' && isIt b' && isIt c' && chkE os sc a a' && chkE os sc b b' && chkE os sc c c'
    | _ => false
  | .tup es, ex => match ex with
    | .Tuple es' _ _ => chkEs os sc es es'
    | _ => false
  | .lst _ es, ex => match ex with
    | .List es' _ => chkEs os sc es es'
    | _ => false
  | .call f es, ex => match ex with
    | .Call (.Name x _) es' [] _ => (match T.fns[f]? with
      | some p => p.1 == x && p.2.length == es.len
      | none => false) && gloB sc x && chkEs os sc es es'
    | _ => false
  | .bi b es, ex => match ex with
    | .Call (.Name x _) (e :: es') [] _ => x == b.name && gloB sc x && T.blt.contains x && chkEs os sc es (e :: es')
    | _ => false
  | .mt m o es, ex => match ex with
    | .Call (.Attribute o' name apos) [e] [] cpos => name == m.name && isOb o' && apos.endLine == cpos.line && chkE os sc o o' && chkEs os sc es [e]
    | .Call (.Attribute o' name apos) [] [] cpos => name == m.name && isOb o' && apos.endLine == cpos.line && chkE os sc o o' && chkEs os sc es []
    | _ => false
  | .sub a i, ex => match ex with
    | .Subscript a' i' _ => isIx i' && chkE os sc a a' && chkE os sc i i'
    | _ => false
  | .slc a lo hi, ex => match ex with
    | .Subscript a' (.Slice lo' hi' none _) _ => chkE os sc a a' && (match lo' with
      | some x => chkE os sc lo x
      | none => noPart lo) && (match hi' with
      | some x => chkE os sc hi x
      | none => noPart hi)
    | _ => false
  | .rev a, ex => match ex with
    | .Subscript a' (.Slice none none (some (.UnaryOp .USub (.Constant (.int 1) _ _) _)) _) _ => chkE os sc a a'
    | _ => false
  | .frz a, ex => isTr ex && chkE os sc a ex
  | .comp _ elt g it cs own, ex => match ex with
    | .ListComp elt' [⟨tg, iter, ifs, 0⟩] scope _ => isIt iter && chkI os sc tg it iter && blkC N sc scope (ownN N own) && g.slots.all (own.contains ·) &&
      chkG scope (relS scope sc) g tg && chkE scope (relS scope sc) elt elt' && (match ifs with
        | [] => chkEs scope (relS scope sc) cs []
        | [c] => chkEs scope (relS scope sc) cs [c]
        | _ => false)
    | _ => false
  | .tupI it, ex => match ex with
    | .Call (.Name x _) [r] [] _ => x == Str.ofString "tuple" && gloB sc x && T.blt.contains x && isRg it && chkI os sc (.Name x ⟨0, 0, 0, 0⟩) it r
    | _ => false
  | .lstI _ it, ex => match ex with
    | .Call (.Name x _) [r] [] _ => x == Str.ofString "list" && gloB sc x && T.blt.contains x && (isRg it || isZp it) && chkI os sc (.Name x ⟨0, 0, 0, 0⟩) it r
    | _ => false
  | .nvr, _ => true
  | .un u a, ex => match u with
    | .lenset => match ex with
      | .Call (.Name x _) [.Call (.Name y _) [a'] [] _] [] _ => x == Str.ofString "len" && gloB sc x && T.blt.contains x && y == Str.ofString "set" && gloB sc y && T.blt.contains y && isArg a' && chkE os sc a a'
      | _ => false
    | .tab ks vs => match ex with
      | .Subscript (.Dict keys vals _) a' _ => !keys.isEmpty && isIx a' && (ks.all keyOk && vs.all RF.D.flat && nodupD ks && decide (ks.length ≤ 15)) && chkTab T sc ks vs keys vals && chkE os sc a a'
      | _ => false
    | .listM => match ex with
      | .Call (.Name x _) [a'] [] _ => x == Str.ofString "list" && gloB sc x && T.blt.contains x && isArg a' && chkE os sc a a'
      | _ => false
  | .lmul _ es n, ex => match ex with
    | .BinOp (.List es' _) .Mult n' _ => chkEs os sc es es' && chkE os sc n n'
    | _ => false
def chkEs (os sc : Scope) : Es → List Expr → Bool
  | .nil, l => match l with
    | [] => true
    | _ => false
  | .cons e es, l => match l with
    | ex :: r => isArg ex && chkE os sc e ex && chkEs os sc es r
    | [] => false
def chkI (os sc : Scope) (tg : Expr) : I → Expr → Bool
  | .ex e, ex => chkE os sc e ex
  | .rng1 a, ex => match ex with
    | .Call (.Name x _) [a'] [] _ => x == Str.ofString "range" && gloB sc x && T.blt.contains x && isArg a' && chkE os sc a a'
    | _ => false
  | .rng2 a b, ex => match ex with
    | .Call (.Name x _) [a', b'] [] _ => x == Str.ofString "range" && gloB sc x && T.blt.contains x && isArg a' && isArg b' && chkE os sc a a' && chkE os sc b b'
    | _ => false
  | .zip a b, ex => match ex with
    | .Call (.Name x _) [a', b'] [] _ => x == Str.ofString "zip" && gloB sc x && T.blt.contains x && isArg a' && isArg b' && chkE os sc a a' && chkE os sc b b'
    | _ => false
  | .enm a, ex => match ex with
    | .Call (.Name x _) [a'] [] _ => (match tg with
      | .Tuple .. => true
      | _ => false) && x == Str.ofString "enumerate" && gloB sc x && T.blt.contains x && isArg a' && chkE os sc a a'
    | _ => false
  | .enmF a b, ex => match ex with
    | .Call (.Name x _) [a', b'] [] _ => (match tg with
      | .Tuple .. => true
      | _ => false) && x == Str.ofString "enumerate" && gloB sc x && T.blt.contains x && isArg a' && isArg b' && chkE os sc a a' && chkE os sc b b'
    | _ => false
  | .rng3 a b c, ex => match ex with
    | .Call (.Name x _) [a', b', c'] [] _ => x == Str.ofString "range" && gloB sc x && T.blt.contains x && isArg a' && isArg b' && isArg c' && chkE os sc a a' && chkE os sc b b' && chkE os sc c c'
    | _ => false
  | .zipR a b, ex => match ex with
    | .Call (.Name x p) [a', b'] [] _ => x == Str.ofString "zip" && gloB sc x && T.blt.contains x && isRg a && isRg b && chkI os sc (.Name x p) a a' && chkI os sc (.Name x p) b b'
    | _ => false
def chkG (os sc : Scope) : G → Expr → Bool
  | .nm i, ex => match ex with
    | .Name x _ => N[i]? == some x && locB os sc x
    | _ => false
  | .tp gs, ex => match ex with
    | .Tuple es _ _ => chkGs os sc gs es
    | _ => false
  | .sb o i, ex => match ex with
    | .Subscript o' i' _ => isIx i' && chkE os sc o o' && chkE os sc i i'
    | _ => false
def chkGs (os sc : Scope) : Gs → List Expr → Bool
  | .nil, l => match l with
    | [] => true
    | _ => false
  | .cons g gs, l => match l with
    | ex :: r => isArg ex && chkG os sc g ex && chkGs os sc gs r
    | [] => false
end
end

/-! ### where a term is read -/
/-- a def's promise -/
def spD (K : PySem.W.Frag) (fa : Fa) (cl : Nat → Value) (φ : List RF.D → Mh → R RF.D) (n : Nat) : Sp := fun vs H Q E =>
  vs.length = n ∧ ∃ (ρ : List Addr) (M : Mh) (ds : List RF.D), RelDs K fa ρ H ds vs ∧ Sim K fa ρ M H ∧ Post K fa cl (RelD K fa) ρ H (φ ds M) Q E
structure Ctx (T : Tab) (Φ : Nat → List RF.D → Mh → R RF.D) (fa : Fa) (cl : Nat → Value) (N : List Str) (k : Nat) (os sc : Scope) (X : Cx) (W : WX) : Prop where
  calm : X.calm = true
  names : X.N = N
  nd : N.Nodup
  scope : X.env.scope = sc
  room : Room k X.A
  takes : Takes X W
  fnc : ∀ x, os.names.lookup x = some .cell → X.fn x = true
  glob : ∀ (g : Nat) (x : Str) (d : RF.D), T.gn[g]? = some x → T.Γ[g]? = some d → ∃ u v, X.mg x = some u ∧ RelV v u ∧ RelD X.K fa [] (fun _ => none) d v
  blt : ∀ x, T.blt.contains x = true → X.mg x = none
  fns : ∀ (i : Nat) (x : Str) (ps : List Str), T.fns[i]? = some (x, ps) → ∃ (f : Addr) (fd : FuncData), X.mg x = some (.ref f) ∧ PySem.W.keepIn X.K (.ref f) = true ∧ Binds X.K fd ps [] ∧ fa i = some f ∧
    FnOk X.prog X.w X.K X.mg X.base (L2.CX X.prog X.w) k f fd ps (spD X.K fa cl (Φ i) ps.length)
section
variable {T : Tab} {Φ : Nat → List RF.D → Mh → R RF.D} {fa : Fa} {cl : Nat → Value} {N : List Str} {k : Nat} {os sc : Scope} {X : Cx} {W : WX}
theorem Ctx.blk (c : Ctx T Φ fa cl N k os sc X W) (s : Shared) (H : Hp) (C : Addr) (l : List (Str × Addr)) (fp : List Addr) (scope : Scope) : Ctx T Φ fa cl N k scope (relS scope sc) (X.blk s H scope (compEnvC scope l C X.env) fp) (fun _ _ _ _ => False) where
  calm := c.calm
  names := c.names
  nd := c.nd
  scope := by
    rw [← c.scope]
    rfl
  room := c.room
  takes := takes0
  fnc := fun x h => by
    show (scope.names.lookup x == some .cell) = true
    rw [h]; rfl
  glob := c.glob
  blt := c.blt
  fns := c.fns
theorem visB_ok (c : X.env.scope = sc) {x : Str} (h : visB sc x = true) : Vis X.env.scope x ∧ (x == ("__debug__" : Str)) = false ∧ (x == ("__classdict__" : Str)) = false := by
  unfold visB at h
  simp only [Bool.and_eq_true, Bool.not_eq_true'] at h
  refine ⟨?_, h.1.2, h.2⟩
  rw [c]
  have q := h.1.1
  split at q
  · rename_i e; exact .inl e
  · rename_i e; exact .inr (.inl e)
  · rename_i e; exact .inr (.inr e)
  · cases q
theorem gloB_ok (c : X.env.scope = sc) {x : Str} (h : gloB sc x = true) : Gl X x ∧ (x == ("__debug__" : Str)) = false ∧ x ≠ "__name__" := by
  unfold gloB at h
  simp only [Bool.and_eq_true, Bool.not_eq_true'] at h
  refine ⟨?_, h.1.2, fun e => ?_⟩
  · show X.env.scope.names.lookup x = _
    rw [c]
    have q := h.1.1
    split at q
    · assumption
    · cases q
  · have q := h.2
    rw [e] at q
    simp at q
theorem locB_ok (c : Ctx T Φ fa cl N k os sc X W) {x : Str} (h : locB os sc x = true) : Loc X.env.scope x ∧ (X.fn x = true ∨ X.env.scope.names.lookup x = some .local) := by
  unfold locB at h
  rw [c.scope]
  split at h
  · rename_i e; exact ⟨.inl e, .inr e⟩
  · rename_i e
    split at h
    · rename_i e2; exact ⟨.inr e, .inl (c.fnc x e2)⟩
    · cases h
  · cases h
theorem star_one {e : Expr} {es : List Expr} {env : PySem.Env} (h : isArg e = true) : starEach (e :: es) env = (false, eval e env) :: starEach es env := by
  cases e <;> first | rfl | cases h
theorem asg_one {e : Expr} {es : List Expr} {env : PySem.Env} (h : isArg e = true) : assignEach (e :: es) env = (false, assign e env) :: assignEach es env := by
  cases e <;> first | rfl | cases h
theorem fold_it {e : Expr} {env : PySem.Env} (h : isIt e = true) : ∀ x, foldedSetIterable e env x = pure x := by
  intro x
  cases e <;> first | rfl | cases h
theorem mark_it {op : CmpOp} {e : Expr} (h : isIt e = true) : behindInMarks op e = false := by
  cases e <;> first | rfl | cases h
theorem ix_plain {e : Expr} (h : isIx e = true) : PlainIx e := by
  intro o i
  cases e <;> first | rfl | cases h
theorem tr_plain {e : Expr} {env : PySem.Env} (h : isTr e = true) : ∀ whole, isTrue e env whole = (do let v ← whole; standAt e.pos; holding [v] (truthy v)) := by
  intro whole
  cases e with
  | UnaryOp op x pos => cases op <;> first | rfl | cases h
  | _ => first | rfl | cases h
theorem ob_plain {e : Expr} {name : Str} {env : PySem.Env} {w : Sem Value} (h : isOb e = true) : attributeBase e name env w = w := by
  unfold attributeBase
  split
  · cases h
  · rfl
theorem sw_none {e : Expr} {l : Nat} {env : PySem.Env} (h : isCp e = false) {t : Option Expr} : swapsWith e t l env = pure false := by
  cases e <;> first | rfl | cases h
end
end RF

set_option Elab.async false
set_option linter.all false
set_option maxRecDepth 100000
set_option maxHeartbeats 4000000
namespace RF
open PySem PySem.Spec PyProof.Rows L2

/-! ### readings of terms -/
section
variable (Γ : List D) (Φ : Nat → List D → Mh → R D) (K : PySem.W.Frag) (fa : Fa) (cl : Nat → Value) (W : WX)
abbrev rlB : Rl Bool Bool := fun _ _ a b => a = b
def tE (e : E) : TE := fun σ H Q => ∃ ρ env M, EnvR K fa ρ H σ env ∧ Sim K fa ρ M H ∧ Post K fa cl (RelD K fa) ρ H (evE Γ Φ e env M) Q (fun c d H' => W c d σ H')
def tT (e : E) : TT := fun σ H Q => ∃ ρ env M, EnvR K fa ρ H σ env ∧ Sim K fa ρ M H ∧ Post K fa cl rlB ρ H ((evE Γ Φ e env M).bind fun x M1 => ofO M1 (truD M1 x)) Q (fun c d H' => W c d σ H')
def tA (es : Es) : TA := fun σ H Q => ∃ ρ env M, EnvR K fa ρ H σ env ∧ Sim K fa ρ M H ∧ Post K fa cl (RelDs K fa) ρ H (evEs Γ Φ es env M) Q (fun c d H' => W c d σ H')
def tCs (cs : Es) : TT := fun σ H Q => ∃ ρ env M, EnvR K fa ρ H σ env ∧ Sim K fa ρ M H ∧ Post K fa cl rlB ρ H (evC Γ Φ cs env M) Q (fun c d H' => W c d σ H')
def tI (it : I) : TI := fun σ H Q => ∃ ρ env M, EnvR K fa ρ H σ env ∧ Sim K fa ρ M H ∧ Post K fa cl (rlI K fa) ρ H (evI Γ Φ it env M) Q (fun c d H' => W c d σ H')
/-- behind a store -/
def PostG (ρ : List Addr) (H : Hp) (σ : L2.St) (sl : List Nat) (r : R Env) (Q : L2.St → Hp → Prop) : Prop :=
  match r with
  | .ok env' M' => ∀ ρ' σ' H', Fr ρ H ρ' H' → EnvR K fa ρ' H' σ' env' → Sim K fa ρ' M' H' → σ'.length = σ.length → (∀ j, j ∉ sl → σ'[j]? = σ[j]?) → Q σ' H'
  | _ => False
def tG (g : G) : TG := fun v σ H Q => ∃ ρ d env M, RelD K fa ρ H d v ∧ EnvR K fa ρ H σ env ∧ Sim K fa ρ M H ∧ PostG K fa ρ H σ g.slots (asg Γ Φ g d env M) Q
def tGs (gs : Gs) : TGs := fun vs σ H Q => ∃ ρ ds env M, RelDs K fa ρ H ds vs ∧ EnvR K fa ρ H σ env ∧ Sim K fa ρ M H ∧ PostG K fa ρ H σ gs.slots (asgs Γ Φ gs ds env M) Q
end

theorem PE.imp {X : Cx} {e : Expr} {t t' : TE} (h : PE X e t) (i : ∀ σ H Q, t' σ H Q → t σ H Q) : PE X e t' := ⟨fun pins s σ H Q I q => h.run pins s σ H Q I (i σ H Q q)⟩
theorem PT.imp {X : Cx} {e : Expr} {t t' : TT} (h : PT X e t) (i : ∀ σ H Q, t' σ H Q → t σ H Q) : PT X e t' := ⟨fun pins s σ H Q I q => h.run pins s σ H Q I (i σ H Q q)⟩
theorem PW.imp {X : Cx} {e : Expr} {t t' : TT} (h : PW X e t) (i : ∀ σ H Q, t' σ H Q → t σ H Q) : PW X e t' := ⟨fun wh pins s σ H Q I q => h.run wh pins s σ H Q I (i σ H Q q)⟩
theorem PA.imp {X : Cx} {es : List Expr} {t t' : TA} (h : PA X es t) (i : ∀ σ H Q, t' σ H Q → t σ H Q) : PA X es t' := ⟨fun pos pins s σ H Q I q => h.run pos pins s σ H Q I (i σ H Q q)⟩
theorem PI.imp {X : Cx} {tg e : Expr} {t t' : TI} (h : PI X tg e t) (i : ∀ σ H Q, t' σ H Q → t σ H Q) : PI X tg e t' := ⟨fun pins s σ H Q I q => h.run pins s σ H Q I (i σ H Q q)⟩
theorem PG.imp {X : Cx} {e : Expr} {t t' : TG} (h : PG X e t) (i : ∀ v σ H Q, t' v σ H Q → t v σ H Q) : PG X e t' := ⟨fun pins s σ H v u Q I r q => h.run pins s σ H v u Q I r (i v σ H Q q)⟩
theorem PGs.imp {X : Cx} {es : List Expr} {t t' : TGs} (h : PGs X es t) (i : ∀ v σ H Q, t' v σ H Q → t v σ H Q) : PGs X es t' := ⟨fun pins s σ H v u Q I r q => h.run pins s σ H v u Q I r (i v σ H Q q)⟩

section
variable {T : Tab} {Φ : Nat → List D → Mh → R D} {fa : Fa} {cl : Nat → Value} {N : List Str} {k : Nat} {os sc : Scope} {X : Cx} {W : WX} {a b c : E} {ea eb ec : Expr} {pos : Pos}
/-- the test of a value -/
theorem gen_pt {e : E} {ex : Expr} (h : PE X ex ((tE T.Γ Φ X.K fa cl W) e)) (ht : isTr ex = true) : PT X ex ((tT T.Γ Φ X.K fa cl W) e) := by
  refine PT.imp (pt_truth h (tr_plain ht)) fun σ H Q ⟨ρ, env, M, e, S, p⟩ => ⟨ρ, env, M, e, S, p.bind fun x M1 ρ1 v H1 _ f r S1 p1 => ?_⟩
  cases ht : truD M1 x with
  | none => rw [ht] at p1; exact p1.elim
  | some k => rw [ht] at p1; exact ⟨k, truD_rel S1 r ht, p1.ok0 rfl S1⟩
theorem s_var (c : Ctx T Φ fa cl N k os sc X W) {i : Nat} {x : Str} (h1 : N[i]? = some x) (h2 : visB sc x = true) : PE X (.Name x pos) ((tE T.Γ Φ X.K fa cl W) (.var i)) := by
  obtain ⟨v1, v2, v3⟩ := visB_ok c.scope h2
  refine PE.imp (pe_var (by rw [c.names]; exact h1) v1 v2 v3) fun σ H Q ⟨ρ, env, M, e, S, p⟩ => ?_
  unfold evE at p
  split at p
  · rename_i d hd
    obtain ⟨v, g1, g2⟩ := e.at_ i d hd
    exact ⟨v, g1, p.ok0 g2 S⟩
  · exact p.elim
theorem s_con (c : Ctx T Φ fa cl N k os sc X W) {d : D} {ex : Expr} (h : chkC T sc d ex = true) : PE X ex ((tE T.Γ Φ X.K fa cl W) (.con d)) := by
  unfold chkC at h
  split at h
  · split at h
    · exact PE.imp pe_non fun σ H Q ⟨ρ, env, M, e, S, p⟩ => p.ok0 .non S
    · simp only [beq_iff_eq] at h
      subst h
      exact PE.imp pe_bl fun σ H Q ⟨ρ, env, M, e, S, p⟩ => p.ok0 (.bl _) S
    · simp only [beq_iff_eq] at h
      subst h
      exact PE.imp pe_int fun σ H Q ⟨ρ, env, M, e, S, p⟩ => p.ok0 (.int _) S
    · simp only [Bool.and_eq_true, beq_iff_eq] at h
      obtain ⟨h1, h2⟩ := h
      subst h1
      exact PE.imp pe_str fun σ H Q ⟨ρ, env, M, e, S, p⟩ => p.ok0 (.str _ h2) S
    · cases h
  · split at h
    · rename_i i
      rw [Bool.and_eq_true] at h
      obtain ⟨h1, h2⟩ := h
      split at h1
      · rename_i q hq
        have e1 := eq_of_beq h1
        obtain ⟨x', n⟩ := q
        subst e1
        obtain ⟨f, fd, g1, g2, g3, g4, g5⟩ := c.fns i _ n hq
        obtain ⟨v1, v2, v3⟩ := gloB_ok c.scope h2
        exact PE.imp (pe_glob (v := V.ref f) v1 g1 rfl v2) fun σ H Q ⟨ρ, env, M, e, S, p⟩ => p.ok0 (.fn g4) S
      · cases h1
    · cases h
  · cases h
theorem s_glob (c : Ctx T Φ fa cl N k os sc X W) {g : Nat} {x : Str} (h1 : T.gn[g]? = some x) (h2 : gloB sc x = true) : PE X (.Name x pos) ((tE T.Γ Φ X.K fa cl W) (.glob g)) := by
  obtain ⟨v1, v2, v3⟩ := gloB_ok c.scope h2
  cases hd : T.Γ[g]? with
  | none => exact ⟨fun pins s σ H Q I ⟨ρ, env, M, e, S, p⟩ => by unfold evE at p; rw [hd] at p; exact p.elim⟩
  | some d =>
    obtain ⟨u, v, g1, g2, g3⟩ := c.glob g x d h1 hd
    refine PE.imp (pe_glob v1 g1 g2 v2) fun σ H Q ⟨ρ, env, M, e, S, p⟩ => ?_
    unfold evE at p
    rw [hd] at p
    exact p.ok0 (g3.mono (List.nil_prefix) (fun _ _ z => by cases z)) S
theorem s_tyc (c : Ctx T Φ fa cl N k os sc X W) {n : String} (h1 : tyNames.contains n = true) (h2 : gloB sc (Str.ofString n) = true) (h3 : T.blt.contains (Str.ofString n) = true) : PE X (.Name (Str.ofString n) pos) ((tE T.Γ Φ X.K fa cl W) (.tyc n)) := by
  obtain ⟨v1, v2, v3⟩ := gloB_ok c.scope h2
  exact PE.imp (pe_bltn v1 (c.blt _ h3) (ty_boot h1) (show RelV (.ty n) _ from rfl) v3 v2) fun σ H Q ⟨ρ, env, M, e, S, p⟩ => p.ok0 (.ty n) S
theorem s_bin {op : Operator} (ha : PE X ea ((tE T.Γ Φ X.K fa cl W) a)) (hb : PE X eb ((tE T.Γ Φ X.K fa cl W) b)) : PE X (.BinOp ea op eb pos) ((tE T.Γ Φ X.K fa cl W) (.bin op a b)) :=
  PE.imp (pe_op (opB_bin (fa := fa) (cl := cl) op) ha hb) fun σ H Q ⟨ρ, env, M, e, S, p⟩ => ⟨ρ, env, M, e, S, Post.bind (rl := RelD X.K fa) p fun x M1 ρ1 v1 H1 _ f1 r1 S1 p1 =>
    ⟨ρ1, env, M1, e.mono f1, S1, Post.bind (rl := RelD X.K fa) p1 fun y M2 ρ2 v2 H2 _ f2 r2 S2 p2 => ⟨ρ2, M2, x, y, _, r1.mono f2.g f2.k, r2, S2, p2⟩⟩⟩
theorem s_neg (ha : PE X ea ((tE T.Γ Φ X.K fa cl W) a)) : PE X (.UnaryOp .USub ea pos) ((tE T.Γ Φ X.K fa cl W) (.neg a)) :=
  PE.imp (pe_un un_neg ha) fun σ H Q ⟨ρ, env, M, e, S, p⟩ => ⟨ρ, env, M, e, S, Post.bind (rl := RelD X.K fa) p fun x M1 ρ1 v1 H1 _ f1 r1 S1 p1 => by
    cases r1 <;> first
      | exact ⟨_, rfl, p1.ok0 (.int _) S1⟩
      | exact p1.elim⟩
theorem s_not (ha : PE X ea ((tE T.Γ Φ X.K fa cl W) a)) : PE X (.UnaryOp .Not ea pos) ((tE T.Γ Φ X.K fa cl W) (.not a)) :=
  PE.imp (pe_notT ha) fun σ H Q ⟨ρ, env, M, e, S, p⟩ => ⟨ρ, env, M, e, S, Post.bind (rl := RelD X.K fa) p fun x M1 ρ1 v1 H1 _ f1 r1 S1 p1 => by
    cases ht : truD M1 x with
    | none => rw [ht] at p1; exact p1.elim
    | some k => rw [ht] at p1; exact ⟨k, truD_rel S1 r1 ht, p1.ok0 (.bl _) S1⟩⟩
theorem s_notT (ha : PT X ea ((tT T.Γ Φ X.K fa cl W) a)) : PT X (.UnaryOp .Not ea pos) ((tT T.Γ Φ X.K fa cl W) (.not a)) :=
  PT.imp (pt_not ha) fun σ H Q ⟨ρ, env, M, e, S, p⟩ => ⟨ρ, env, M, e, S, by
    unfold evE at p
    cases hr : evE T.Γ Φ a env M with
    | ok x M1 =>
      rw [hr, R.bind_ok] at p
      rw [R.bind_ok]
      cases ht : truD M1 x with
      | none => rw [ht] at p; exact p.elim
      | some b =>
        rw [ht] at p
        intro ρ1 b' H1 f e' S1
        cases e'
        exact p ρ1 _ H1 f rfl S1
    | exc c fs M1 => rw [hr] at p; exact p
    | bad => rw [hr] at p; exact p⟩
theorem s_and (ha : PE X ea ((tE T.Γ Φ X.K fa cl W) a)) {rest : List Expr} (hb : PE X (.BoolOp .And (eb :: rest) pos) ((tE T.Γ Φ X.K fa cl W) b)) : PE X (.BoolOp .And (ea :: eb :: rest) pos) ((tE T.Γ Φ X.K fa cl W) (.and a b)) :=
  PE.imp (pe_andT ha hb) fun σ H Q ⟨ρ, env, M, e, S, p⟩ => ⟨ρ, env, M, e, S, Post.bind (rl := RelD X.K fa) p fun x M1 ρ1 v1 H1 _ f1 r1 S1 p1 => by
    cases ht : truD M1 x with
    | none => rw [ht] at p1; exact p1.elim
    | some k =>
      rw [ht] at p1
      refine ⟨k, truD_rel S1 r1 ht, ?_⟩
      cases k with
      | true => rw [if_pos rfl]; exact ⟨ρ1, env, M1, e.mono f1, S1, p1⟩
      | false => rw [if_neg (by decide)]; exact p1.ok0 r1 S1⟩
theorem s_or (ha : PE X ea ((tE T.Γ Φ X.K fa cl W) a)) {rest : List Expr} (hb : PE X (.BoolOp .Or (eb :: rest) pos) ((tE T.Γ Φ X.K fa cl W) b)) : PE X (.BoolOp .Or (ea :: eb :: rest) pos) ((tE T.Γ Φ X.K fa cl W) (.or a b)) :=
  PE.imp (pe_orT ha hb) fun σ H Q ⟨ρ, env, M, e, S, p⟩ => ⟨ρ, env, M, e, S, Post.bind (rl := RelD X.K fa) p fun x M1 ρ1 v1 H1 _ f1 r1 S1 p1 => by
    cases ht : truD M1 x with
    | none => rw [ht] at p1; exact p1.elim
    | some k =>
      rw [ht] at p1
      refine ⟨k, truD_rel S1 r1 ht, ?_⟩
      cases k with
      | false => rw [if_neg (by decide)]; exact ⟨ρ1, env, M1, e.mono f1, S1, p1⟩
      | true => rw [if_pos rfl]; exact p1.ok0 r1 S1⟩
theorem r_andT {σ : L2.St} {H : Hp} {Q : Bool → Hp → Prop} (h : (tT T.Γ Φ X.K fa cl W) (.and a b) σ H Q) : tAnd ((tT T.Γ Φ X.K fa cl W) a) ((tT T.Γ Φ X.K fa cl W) b) σ H Q := by
  obtain ⟨ρ, env, M, e, S, p⟩ := h
  refine ⟨ρ, env, M, e, S, ?_⟩
  unfold evE at p
  cases hr : evE T.Γ Φ a env M with
  | ok x M1 =>
    rw [hr, R.bind_ok] at p
    rw [R.bind_ok]
    cases ht : truD M1 x with
    | none => rw [ht] at p; exact p.elim
    | some b =>
      rw [ht] at p
      intro ρ1 b' H1 f e' S1
      cases e'
      cases b with
      | true => rw [if_pos rfl]; exact ⟨ρ1, env, M1, e.mono f, S1, Post.mono p f⟩
      | false =>
        rw [if_neg (by decide)]
        simp only [R.bind_ok, ht] at p
        exact p ρ1 _ H1 f rfl S1
  | exc c fs M1 => rw [hr] at p; exact p
  | bad => rw [hr] at p; exact p
theorem r_orT {σ : L2.St} {H : Hp} {Q : Bool → Hp → Prop} (h : (tT T.Γ Φ X.K fa cl W) (.or a b) σ H Q) : tOr ((tT T.Γ Φ X.K fa cl W) a) ((tT T.Γ Φ X.K fa cl W) b) σ H Q := by
  obtain ⟨ρ, env, M, e, S, p⟩ := h
  refine ⟨ρ, env, M, e, S, ?_⟩
  unfold evE at p
  cases hr : evE T.Γ Φ a env M with
  | ok x M1 =>
    rw [hr, R.bind_ok] at p
    rw [R.bind_ok]
    cases ht : truD M1 x with
    | none => rw [ht] at p; exact p.elim
    | some b =>
      rw [ht] at p
      intro ρ1 b' H1 f e' S1
      cases e'
      cases b with
      | false => rw [if_neg (by decide)]; exact ⟨ρ1, env, M1, e.mono f, S1, Post.mono p f⟩
      | true =>
        rw [if_pos rfl]
        simp only [R.bind_ok, ht] at p
        exact p ρ1 _ H1 f rfl S1
  | exc c fs M1 => rw [hr] at p; exact p
  | bad => rw [hr] at p; exact p
theorem s_ite (hc : PT X ec ((tT T.Γ Φ X.K fa cl W) c)) (ha : PE X ea ((tE T.Γ Φ X.K fa cl W) a)) (hb : PE X eb ((tE T.Γ Φ X.K fa cl W) b)) : PE X (.IfExp ec ea eb pos) ((tE T.Γ Φ X.K fa cl W) (.ite c a b)) :=
  PE.imp (pe_ifExp hc ha hb) fun σ H Q ⟨ρ, env, M, e, S, p⟩ => ⟨ρ, env, M, e, S, by
    unfold evE at p
    cases hr : evE T.Γ Φ c env M with
    | ok x M1 =>
      rw [hr, R.bind_ok] at p
      rw [R.bind_ok]
      cases ht : truD M1 x with
      | none => rw [ht] at p; exact p.elim
      | some b =>
        rw [ht] at p
        intro ρ1 b' H1 f e' S1
        cases e'
        cases b with
        | true => rw [if_pos rfl]; exact ⟨ρ1, env, M1, e.mono f, S1, Post.mono p f⟩
        | false => rw [if_neg (by decide)]; exact ⟨ρ1, env, M1, e.mono f, S1, Post.mono p f⟩
    | exc c fs M1 => rw [hr] at p; exact p
    | bad => rw [hr] at p; exact p⟩
theorem pt_ite {tc ta tb : TT} (hc : PT X ec tc) (ha : PT X ea ta) (hb : PT X eb tb) : PT X (.IfExp ec ea eb pos) (fun σ H Q => tc σ H fun c H1 => if c = true then ta σ H1 Q else tb σ H1 Q) := by
  refine ⟨fun pins s σ H Q I h => ?_⟩
  show wpAny _ _ (do if ← isTrue ec X.env (eval ec X.env) then isTrue ea X.env (eval ea X.env) else isTrue eb X.env (eval eb X.env)) _ _ _
  refine wpAny_bind (thn (hc.run pins s σ H _ I h) fun c s1 ⟨H1, I1, q1⟩ => ?_)
  cases c with
  | true => exact ha.run pins s1 σ H1 Q I1 q1
  | false => exact hb.run pins s1 σ H1 Q I1 q1
theorem s_iteT (hc : PT X ec ((tT T.Γ Φ X.K fa cl W) c)) (ha : PT X ea ((tT T.Γ Φ X.K fa cl W) a)) (hb : PT X eb ((tT T.Γ Φ X.K fa cl W) b)) : PT X (.IfExp ec ea eb pos) ((tT T.Γ Φ X.K fa cl W) (.ite c a b)) :=
  PT.imp (pt_ite hc ha hb) fun σ H Q ⟨ρ, env, M, e, S, p⟩ => ⟨ρ, env, M, e, S, by
    unfold evE at p
    cases hr : evE T.Γ Φ c env M with
    | ok x M1 =>
      rw [hr, R.bind_ok] at p
      rw [R.bind_ok]
      cases ht : truD M1 x with
      | none => rw [ht] at p; exact p.elim
      | some b =>
        rw [ht] at p
        intro ρ1 b' H1 f e' S1
        cases e'
        cases b with
        | true => rw [if_pos rfl]; exact ⟨ρ1, env, M1, e.mono f, S1, Post.mono p f⟩
        | false => rw [if_neg (by decide)]; exact ⟨ρ1, env, M1, e.mono f, S1, Post.mono p f⟩
    | exc c fs M1 => rw [hr] at p; exact p
    | bad => rw [hr] at p; exact p⟩
theorem cmpD_bl {op : CmpOp} {x y d : D} {M M' : Mh} (h : cmpD op x y M = .ok d M') : M' = M ∧ ∃ b, d = .bl b := by
  have key : ∀ {o : Option Bool} {f : Bool → D}, (∀ b, ∃ c, f b = .bl c) → ofO M (o.map f) = .ok d M' → M' = M ∧ ∃ b, d = .bl b := fun {o f} hf h => by
    cases o with
    | none => cases h
    | some b =>
      obtain ⟨c, hc⟩ := hf b
      simp only [Option.map_some, ofO, R.ok.injEq] at h
      exact ⟨h.2.symm, c, by rw [← h.1, hc]⟩
  cases op <;> simp only [cmpD] at h
  case Eq => exact key (fun b => ⟨_, rfl⟩) h
  case NotEq => exact key (fun b => ⟨_, rfl⟩) h
  case In => exact key (fun b => ⟨_, rfl⟩) h
  case NotIn => exact key (fun b => ⟨_, rfl⟩) h
  case Is => split at h <;> (try split at h) <;> first | (cases h; exact ⟨rfl, _, rfl⟩) | cases h
  case IsNot => split at h <;> (try split at h) <;> first | (cases h; exact ⟨rfl, _, rfl⟩) | cases h
  case Lt => split at h <;> first | (cases h; exact ⟨rfl, _, rfl⟩) | cases h
  case LtE => split at h <;> first | (cases h; exact ⟨rfl, _, rfl⟩) | cases h
  case Gt => split at h <;> first | (cases h; exact ⟨rfl, _, rfl⟩) | cases h
  case GtE => split at h <;> first | (cases h; exact ⟨rfl, _, rfl⟩) | cases h
theorem cmpD_exc {op : CmpOp} {x y : D} {M M' : Mh} {c : Nat} {fs : List D} : cmpD op x y M ≠ .exc c fs M' := by
  intro h
  have key : ∀ {o : Option D}, ofO M o ≠ .exc c fs M' := fun {o} h => by cases o <;> cases h
  cases op <;> simp only [cmpD] at h
  case Eq => exact key h
  case NotEq => exact key h
  case In => exact key h
  case NotIn => exact key h
  case Is => split at h <;> (try split at h) <;> cases h
  case IsNot => split at h <;> (try split at h) <;> cases h
  case Lt => split at h <;> cases h
  case LtE => split at h <;> cases h
  case Gt => split at h <;> cases h
  case GtE => split at h <;> cases h
theorem s_cmp {op : CmpOp} (hu : Room k X.A) (ha : PE X ea ((tE T.Γ Φ X.K fa cl W) a)) (hb : PE X eb ((tE T.Γ Φ X.K fa cl W) b)) (hm : isIt eb = true) : PE X (.Compare ea [op] [eb] pos) ((tE T.Γ Φ X.K fa cl W) (.cmp op a b)) :=
  PE.imp (pe_cmpR (opB_cmp (fa := fa) (cl := cl) (by have := hu.un; omega) op) ha hb (mark_it hm)) fun σ H Q ⟨ρ, env, M, e, S, p⟩ => ⟨ρ, env, M, e, S, Post.bind (rl := RelD X.K fa) p fun x M1 ρ1 v1 H1 _ f1 r1 S1 p1 =>
    ⟨ρ1, env, M1, e.mono f1, S1, Post.bind (rl := RelD X.K fa) p1 fun y M2 ρ2 v2 H2 _ f2 r2 S2 p2 => ⟨ρ2, M2, x, y, _, r1.mono f2.g f2.k, r2, S2, p2⟩⟩⟩
theorem R.bind_bind {α β γ : Type} {r : R α} {f : α → Mh → R β} {g : β → Mh → R γ} : (r.bind f).bind g = r.bind fun a M => (f a M).bind g := by cases r <;> rfl
/-- the end of a comparison as a test -/
theorem cmp_test {op : CmpOp} {x y : D} {M : Mh} {ρ : List Addr} {H : Hp} {Q : Bool → Hp → Prop} {V' : XK} (p : Post X.K fa cl rlB ρ H ((cmpD op x y M).bind fun x M1 => ofO M1 (truD M1 x)) Q V') :
    Post X.K fa cl (RelD X.K fa) ρ H (cmpD op x y M) (fun x H' => ∃ k, x = .bl k ∧ Q k H') V' := by
  cases hr : cmpD op x y M with
  | ok d M1 =>
    obtain ⟨rfl, b, rfl⟩ := cmpD_bl hr
    rw [hr] at p
    intro ρ1 v H1 f r S1
    cases r
    exact ⟨b, rfl, p ρ1 b H1 f rfl S1⟩
  | exc c fs M1 => exact absurd hr cmpD_exc
  | bad => rw [hr] at p; exact p
theorem s_cmpT {op : CmpOp} (hu : Room k X.A) (ha : PE X ea ((tE T.Γ Φ X.K fa cl W) a)) (hb : PE X eb ((tE T.Γ Φ X.K fa cl W) b)) (hm : isIt eb = true) : PT X (.Compare ea [op] [eb] pos) ((tT T.Γ Φ X.K fa cl W) (.cmp op a b)) :=
  PT.imp (pt_cmpR (opB_cmp (fa := fa) (cl := cl) (by have := hu.un; omega) op) ha hb (mark_it hm)) fun σ H Q ⟨ρ, env, M, e, S, p⟩ => ⟨ρ, env, M, e, S, by
    unfold evE at p
    rw [R.bind_bind] at p
    refine Post.bind (rl := RelD X.K fa) p fun x M1 ρ1 v1 H1 _ f1 r1 S1 p1 => ⟨ρ1, env, M1, e.mono f1, S1, ?_⟩
    rw [R.bind_bind] at p1
    exact Post.bind (rl := RelD X.K fa) p1 fun y M2 ρ2 v2 H2 _ f2 r2 S2 p2 => ⟨ρ2, M2, x, y, _, r1.mono f2.g f2.k, r2, S2, cmp_test p2⟩⟩
theorem lm_it {op op' : CmpOp} {b c : Expr} (h : isIt c = true) : lastMarks [op, op'] [b, c] = false := by
  show behindInMarks op' c = false
  exact mark_it h
theorem s_chn {op op' : CmpOp} (hu : Room k X.A) (ha : PE X ea ((tE T.Γ Φ X.K fa cl W) a)) (hb : PE X eb ((tE T.Γ Φ X.K fa cl W) b)) (hc : PE X ec ((tE T.Γ Φ X.K fa cl W) c)) (hm : isIt ec = true) : PE X (.Compare ea [op, op'] [eb, ec] pos) ((tE T.Γ Φ X.K fa cl W) (.chn op op' a b c)) :=
  PE.imp (pe_chain (opB_cmp (fa := fa) (cl := cl) (by have := hu.un; omega) op) (opB_cmp (fa := fa) (cl := cl) (by have := hu.un; omega) op') ha hb hc (lm_it hm)) fun σ H Q ⟨ρ, env, M, e, S, p⟩ => ⟨ρ, env, M, e, S, Post.bind (rl := RelD X.K fa) p fun x M1 ρ1 v1 H1 _ f1 r1 S1 p1 =>
    ⟨ρ1, env, M1, e.mono f1, S1, Post.bind (rl := RelD X.K fa) p1 fun y M2 ρ2 v2 H2 _ f2 r2 S2 p2 => ⟨ρ2, M2, x, y, _, r1.mono f2.g f2.k, r2, S2, Post.bind (rl := RelD X.K fa) p2 fun z M3 ρ3 v3 H3 hz f3 r3 S3 p3 => by
      obtain ⟨_, b, rfl⟩ := cmpD_bl hz
      cases r3
      refine ⟨b, rfl, ?_⟩
      cases b with
      | false => rw [if_neg (by decide)]; exact p3.ok0 (.bl _) S3
      | true =>
        rw [if_pos rfl]
        exact ⟨ρ3, env, M3, (e.mono f1).mono (f2.trans f3), S3, Post.bind (rl := RelD X.K fa) p3 fun w M4 ρ4 v4 H4 _ f4 r4 S4 p4 => ⟨ρ4, M4, y, w, _, r2.mono (f3.trans f4).g (f3.trans f4).k, r4, S4, p4⟩⟩⟩⟩⟩
theorem s_chnT {op op' : CmpOp} (hu : Room k X.A) (ha : PE X ea ((tE T.Γ Φ X.K fa cl W) a)) (hb : PE X eb ((tE T.Γ Φ X.K fa cl W) b)) (hc : PE X ec ((tE T.Γ Φ X.K fa cl W) c)) (hm : isIt ec = true) : PT X (.Compare ea [op, op'] [eb, ec] pos) ((tT T.Γ Φ X.K fa cl W) (.chn op op' a b c)) :=
  PT.imp (pt_chain (opB_cmp (fa := fa) (cl := cl) (by have := hu.un; omega) op) (opB_cmp (fa := fa) (cl := cl) (by have := hu.un; omega) op') ha hb hc (lm_it hm)) fun σ H Q ⟨ρ, env, M, e, S, p⟩ => ⟨ρ, env, M, e, S, by
    unfold evE at p
    rw [R.bind_bind] at p
    refine Post.bind (rl := RelD X.K fa) p fun x M1 ρ1 v1 H1 _ f1 r1 S1 p1 => ⟨ρ1, env, M1, e.mono f1, S1, ?_⟩
    rw [R.bind_bind] at p1
    refine Post.bind (rl := RelD X.K fa) p1 fun y M2 ρ2 v2 H2 _ f2 r2 S2 p2 => ⟨ρ2, M2, x, y, (fun c d H' => W c d σ H'), r1.mono f2.g f2.k, r2, S2, ?_⟩
    rw [R.bind_bind] at p2
    refine Post.bind (rl := RelD X.K fa) p2 fun z M3 ρ3 v3 H3 hz f3 r3 S3 p3 => ?_
    obtain ⟨_, b, rfl⟩ := cmpD_bl hz
    cases r3
    refine ⟨b, rfl, ?_⟩
    cases b with
    | false => rw [if_neg (by decide)]; exact ⟨false, rfl, p3.ok0 rfl S3⟩
    | true =>
      rw [if_pos rfl]
      rw [R.bind_bind] at p3
      exact ⟨ρ3, env, M3, (e.mono f1).mono (f2.trans f3), S3, Post.bind (rl := RelD X.K fa) p3 fun w M4 ρ4 v4 H4 _ f4 r4 S4 p4 => ⟨ρ4, M4, y, w, _, r2.mono (f3.trans f4).g (f3.trans f4).k, r4, S4, cmp_test p4⟩⟩⟩
end
end RF

set_option Elab.async false
set_option linter.all false
set_option maxRecDepth 100000
set_option maxHeartbeats 4000000
namespace RF
open PySem PySem.Spec PyProof.Rows L2
section
variable {T : Tab} {Φ : Nat → List D → Mh → R D} {fa : Fa} {cl : Nat → Value} {N : List Str} {k : Nat} {os sc : Scope} {X : Cx} {W : WX} {a b c : E} {ea eb ec : Expr} {pos : Pos}

/-! ### argument lists -/
theorem s_nil : PA X [] ((tA T.Γ Φ X.K fa cl W) .nil) := PA.imp pa_nil fun σ H Q ⟨ρ, env, M, e, S, p⟩ => p.ok0 .nil S
theorem s_cons {es : Es} {ees : List Expr} (ha : PE X ea ((tE T.Γ Φ X.K fa cl W) a)) (hs : PA X ees ((tA T.Γ Φ X.K fa cl W) es)) (hx : isArg ea = true) : PA X (ea :: ees) ((tA T.Γ Φ X.K fa cl W) (.cons a es)) :=
  PA.imp (pa_cons ha hs (star_one hx)) fun σ H Q ⟨ρ, env, M, e, S, p⟩ => ⟨ρ, env, M, e, S, Post.bind (rl := RelD X.K fa) p fun x M1 ρ1 v1 H1 _ f1 r1 S1 p1 =>
    ⟨ρ1, env, M1, e.mono f1, S1, Post.bind (rl := RelDs X.K fa) p1 fun ys M2 ρ2 v2 H2 _ f2 r2 S2 p2 => p2.ok0 (.cons (r1.mono f2.g f2.k) r2) S2⟩⟩
theorem c_nil : PTs X [] ((tCs T.Γ Φ X.K fa cl W) .nil) := ⟨fun pins s σ H Q I ⟨ρ, env, M, e, S, p⟩ => pts_nil.run pins s σ H Q I (p.ok0 rfl S)⟩
theorem c_one (ha : PT X ea ((tT T.Γ Φ X.K fa cl W) a)) : PTs X [ea] ((tCs T.Γ Φ X.K fa cl W) (.cons a .nil)) := ⟨fun pins s σ H Q I ⟨ρ, env, M, e, S, p⟩ => (pts_one ha).run pins s σ H Q I ⟨ρ, env, M, e, S, by
  unfold evC at p
  cases hr : evE T.Γ Φ a env M with
  | ok x M1 =>
    rw [hr, R.bind_ok] at p
    rw [R.bind_ok]
    cases ht : truD M1 x with
    | none => rw [ht] at p; exact p.elim
    | some b =>
      rw [ht] at p
      cases b with
      | true => unfold evC at p; exact p
      | false => exact p
  | exc c fs M1 => rw [hr] at p; exact p
  | bad => rw [hr] at p; exact p⟩⟩
theorem s_tup {es : Es} {ees : List Expr} {j : Nat} (hs : PA X ees ((tA T.Γ Φ X.K fa cl W) es)) : PE X (.Tuple ees j pos) ((tE T.Γ Φ X.K fa cl W) (.tup es)) :=
  PE.imp (pe_tupN hs) fun σ H Q ⟨ρ, env, M, e, S, p⟩ => ⟨ρ, env, M, e, S, Post.bind (rl := RelDs X.K fa) p fun ds M1 ρ1 vs H1 _ f1 r1 S1 p1 => by
    split at p1
    · rename_i hl
      exact ⟨by rw [sizeLine_eq, ← r1.length]; exact hl, fun q o hq hd => tup_new S1 hq hd r1 p1⟩
    · exact p1.elim⟩
theorem s_lst {es : Es} {ees : List Expr} {mu : Bool} (hs : PA X ees ((tA T.Γ Φ X.K fa cl W) es)) : PE X (.List ees pos) ((tE T.Γ Φ X.K fa cl W) (.lst mu es)) := by
  cases mu with
  | true =>
    exact PE.imp (pe_lst hs) fun σ H Q ⟨ρ, env, M, e, S, p⟩ => ⟨ρ, env, M, e, S, Post.bind (rl := RelDs X.K fa) p fun ds M1 ρ1 vs H1 _ f1 r1 S1 p1 => by
      split at p1
      · rename_i hl
        simp only [if_true] at p1
        exact ⟨by rw [sizeLine_eq, ← r1.length]; exact hl, fun q hq => mut_new S1 hq r1 p1⟩
      · exact p1.elim⟩
  | false =>
    exact PE.imp (pe_frz (pe_lst hs)) fun σ H Q ⟨ρ, env, M, e, S, p⟩ => ⟨ρ, env, M, e, S, Post.bind (rl := RelDs X.K fa) p fun ds M1 ρ1 vs H1 _ f1 r1 S1 p1 => by
      split at p1
      · rename_i hl
        simp only [Bool.false_eq_true, if_false] at p1
        exact ⟨by rw [sizeLine_eq, ← r1.length]; exact hl, fun q hq => frzQ_new S1 hq r1 p1⟩
      · exact p1.elim⟩

/-! ### calls -/
theorem plain_star {es : List Expr} {env : PySem.Env} (h : es.all isArg = true) {p : Pos} : (backTo p (starEach es env)).any (·.1) = false := by
  induction es with
  | nil => rfl
  | cons e es ih =>
    rw [List.all_cons, Bool.and_eq_true] at h
    rw [star_one h.1]
    show (false || (backTo p (starEach es env)).any (·.1)) = false
    rw [ih h.2]; rfl
theorem pe_callS0 {f : Addr} {fd : FuncData} {ps : List Str} {sp : Sp} {E : L2.St → XK} {x : Str} {p : Pos} {CX : CXT} (F : FnOk X.prog X.w X.K X.mg X.base CX k f fd ps sp) (hr : Room k X.A) (hg : Gl X x) (hm : X.mg x = some (.ref f)) (hk : PySem.W.keepIn X.K (.ref f) = true) (hb : Binds X.K fd ps []) (hx : ∀ σ, PassesAt CX X σ (E σ))
    (hdb : (x == ("__debug__" : Str)) = false) : PE X (.Call (.Name x p) [] [] pos) (tCallS sp E tNil) := by
  refine ⟨fun pins s σ H Q I h => ?_⟩
  refine wpAny_Call_Name_kw (ld_glob I hg hm ?_ hdb)
  exact PySem.W.callWith_K0 I.kIn hk (run_fnS (us := []) F hr hb (hx σ) I .nil h)
theorem evEs_len : ∀ {es : Es} {env : Env} {M M' : Mh} {ds : List D} {Γ : List D}, evEs Γ Φ es env M = .ok ds M' → ds.length = es.len
  | .nil, env, M, M', ds, Γ, h => by unfold evEs at h; cases h; rfl
  | .cons e es, env, M, M', ds, Γ, h => by
    unfold evEs at h
    cases hr : evE Γ Φ e env M with
    | ok x M1 =>
      rw [hr, R.bind_ok] at h
      cases hq : evEs Γ Φ es env M1 with
      | ok xs M2 =>
        rw [hq, R.bind_ok] at h
        cases h
        show xs.length + 1 = es.len + 1
        rw [evEs_len hq]
      | exc c fs M2 => rw [hq] at h; cases h
      | bad => rw [hq] at h; cases h
    | exc c fs M1 => rw [hr] at h; cases h
    | bad => rw [hr] at h; cases h
theorem s_call (c : Ctx T Φ fa cl N k os sc X W) {f : Nat} {x : Str} {p : Pos} {es : Es} {e : Expr} {ees : List Expr} {ps : List Str} (h1 : T.fns[f]? = some (x, ps)) (hn : ps.length = es.len) (h2 : gloB sc x = true) (hs : PA X (e :: ees) ((tA T.Γ Φ X.K fa cl W) es)) (ha : (e :: ees).all isArg = true) : PE X (.Call (.Name x p) (e :: ees) [] pos) ((tE T.Γ Φ X.K fa cl W) (.call f es)) := by
  obtain ⟨v1, v2, v3⟩ := gloB_ok c.scope h2
  obtain ⟨fa', fd, g1, g2, g3, g4, g5⟩ := c.fns f x _ h1
  rw [hn] at g5
  rw [List.all_cons, Bool.and_eq_true] at ha
  exact PE.imp (pe_callS (E := WE W) g5 c.room v1 g1 g2 g3 (fun σ => L2.passAt c.takes σ) hs v2 (star_one ha.1) (plain_star ha.2)) fun σ H Q ⟨ρ, env, M, e, S, p⟩ =>
    ⟨ρ, env, M, e, S, Post.bind (rl := RelDs X.K fa) p fun ds M1 ρ1 vs H1 hq f1 r1 S1 p1 => ⟨by rw [← r1.length]; exact evEs_len hq, ρ1, M1, ds, r1, S1, p1⟩⟩
theorem s_call0 (c : Ctx T Φ fa cl N k os sc X W) {f : Nat} {x : Str} {p : Pos} {ps : List Str} (h1 : T.fns[f]? = some (x, ps)) (hn : ps.length = 0) (h2 : gloB sc x = true) : PE X (.Call (.Name x p) [] [] pos) ((tE T.Γ Φ X.K fa cl W) (.call f .nil)) := by
  obtain ⟨v1, v2, v3⟩ := gloB_ok c.scope h2
  obtain ⟨fa', fd, g1, g2, g3, g4, g5⟩ := c.fns f x _ h1
  rw [hn] at g5
  exact PE.imp (pe_callS0 (E := WE W) g5 c.room v1 g1 g2 g3 (fun σ => L2.passAt c.takes σ) v2) fun σ H Q ⟨ρ, env, M, e, S, p⟩ => ⟨rfl, ρ, M, [], .nil, S, p⟩
theorem callR_any {v : Value} {r : List V → Hp → VK → Prop} {x : Str} {p : Pos} {e : Expr} {es : List Expr} {t : TA} (b : Bi) (hc : CallR X b.val r) (hg : Gl X b.name) (hm : X.mg b.name = none) (ha : PA X (e :: es) t) (hn : b.name ≠ "__name__") (hdb : (b.name == ("__debug__" : Str)) = false)
    (he : starEach (e :: es) X.env = (false, eval e X.env) :: starEach es X.env) (hpl : (backTo pos (starEach es X.env)).any (·.1) = false) : PE X (.Call (.Name b.name p) (e :: es) [] pos) (tCB r t) := by
  have hv := bi_boot b
  have two : (∃ id, b.val = .builtin id) ∨ ∃ n, b.val = .type n := by cases b <;> first | exact .inl ⟨_, rfl⟩ | exact .inr ⟨_, rfl⟩
  rcases two with ⟨id, hb⟩ | ⟨n, hb⟩
  · rw [hb] at hc hv
    exact pe_callB hc hg hm hv ha hn hdb he hpl
  · rw [hb] at hc hv
    exact pe_callTy hc hg hm hv ha hn hdb he hpl
theorem s_bi (c : Ctx T Φ fa cl N k os sc X W) (b : Bi) {p : Pos} {es : Es} {e : Expr} {ees : List Expr} (h2 : gloB sc b.name = true) (h3 : T.blt.contains b.name = true) (hs : PA X (e :: ees) ((tA T.Γ Φ X.K fa cl W) es)) (ha : (e :: ees).all isArg = true) : PE X (.Call (.Name b.name p) (e :: ees) [] pos) ((tE T.Γ Φ X.K fa cl W) (.bi b es)) := by
  obtain ⟨v1, v2, v3⟩ := gloB_ok c.scope h2
  rw [List.all_cons, Bool.and_eq_true] at ha
  exact PE.imp (callR_any (v := b.val) (x := b.name) b (crB (fa := fa) (cl := cl) c.calm b) v1 (c.blt _ h3) hs v3 v2 (star_one ha.1) (plain_star ha.2)) fun σ H Q ⟨ρ, env, M, e, S, p⟩ =>
    ⟨ρ, env, M, e, S, Post.bind (rl := RelDs X.K fa) p fun ds M1 ρ1 vs H1 hq f1 r1 S1 p1 => ⟨ρ1, M1, ds, _, r1, S1, p1⟩⟩
/-- the receiver, known ahead -/
def rcv (r : R D) : D := match r with
  | .ok x _ => x
  | _ => .non
theorem s_mt {m : Mt} {p : Pos} {es : Es} {e : Expr} (ho : PE X ea ((tE T.Γ Φ X.K fa cl W) a)) (hs : PA X [e] ((tA T.Γ Φ X.K fa cl W) es)) (ha : isArg e = true) (hob : isOb ea = true) (hl : (p.endLine == pos.line) = true) : PE X (.Call (.Attribute ea m.name p) [e] [] pos) ((tE T.Γ Φ X.K fa cl W) (.mt m a es)) := by
  refine ⟨fun pins s σ H Q I ⟨ρ, env, M, en, S, p⟩ => ?_⟩
  obtain ⟨f1, f2, f3⟩ := mt_facts m (rcv (evE T.Γ Φ a env M))
  have st := star_one (es := []) (env := X.env) ha
  refine (pe_br f1 f2 f3 (mtB (fa := fa) (cl := cl) m _) ho hs (ob_plain hob) ?_ hl st rfl).run pins s σ H Q I ⟨ρ, env, M, en, S, Post.bind (rl := RelD X.K fa) p fun d M1 ρ1 x H1 hq f1 r1 S1 p1 => ?_⟩
  · rw [st]; rfl
  · rw [hq]
    show tyR X.K (m.ty d) x H1 ∧ _
    split at p1
    · rename_i ok
      exact ⟨mt_ty S1 r1 ok, ρ1, env, M1, en.mono f1, S1, Post.bind (rl := RelDs X.K fa) p1 fun ds M2 ρ2 vs H2 hq f2 r2 S2 p2 => ⟨ρ2, M2, ds, _, r1.mono f2.g f2.k, r2, S2, p2⟩⟩
    · exact p1.elim
theorem s_mt0 {m : Mt} {p : Pos} {es : Es} (ho : PE X ea ((tE T.Γ Φ X.K fa cl W) a)) (hs : es = .nil) (hob : isOb ea = true) (hl : (p.endLine == pos.line) = true) : PE X (.Call (.Attribute ea m.name p) [] [] pos) ((tE T.Γ Φ X.K fa cl W) (.mt m a es)) := by
  subst hs
  refine ⟨fun pins s σ H Q I ⟨ρ, env, M, en, S, p⟩ => ?_⟩
  obtain ⟨f1, f2, f3⟩ := mt_facts m (rcv (evE T.Γ Φ a env M))
  refine (pe_br0 f1 f2 f3 (mtB (fa := fa) (cl := cl) m _) ho (ob_plain hob) hl).run pins s σ H Q I ⟨ρ, env, M, en, S, Post.bind (rl := RelD X.K fa) p fun d M1 ρ1 x H1 hq f1 r1 S1 p1 => ?_⟩
  rw [hq]
  show tyR X.K (m.ty d) x H1 ∧ _
  split at p1
  · rename_i ok
    exact ⟨mt_ty S1 r1 ok, ρ1, M1, [], _, r1, .nil, S1, p1⟩
  · exact p1.elim

/-! ### what is made of one value -/
theorem s_lenset (c : Ctx T Φ fa cl N k os sc X W) {p p2 q : Pos} (h1 : gloB sc (Str.ofString "len") = true) (h2 : T.blt.contains (Str.ofString "len") = true) (h3 : gloB sc (Str.ofString "set") = true) (h4 : T.blt.contains (Str.ofString "set") = true)
    (ha : PE X ea ((tE T.Γ Φ X.K fa cl W) a)) (hx : isArg ea = true) : PE X (.Call (.Name "len" p) [.Call (.Name "set" p2) [ea] [] q] [] pos) ((tE T.Γ Φ X.K fa cl W) (.un .lenset a)) := by
  obtain ⟨v1, v2, v3⟩ := gloB_ok c.scope h1
  obtain ⟨w1, w2, w3⟩ := gloB_ok c.scope h3
  refine PE.imp (pe_lenSetD v1 (c.blt _ h2) w1 (c.blt _ h4) ha c.calm (star_one hx)) fun σ H Q ⟨ρ, env, M, e, S, p⟩ => ⟨ρ, env, M, e, S, Post.bind (rl := RelD X.K fa) p fun x M1 ρ1 v1 H1 _ f1 r1 S1 p1 => ?_⟩
  unfold unD at p1
  simp only at p1
  split at p1
  · rename_i k xs e
    split at p1
    · rename_i l hl
      split at p1
      · rename_i h4
        obtain ⟨b, zs, rfl, r, q1, q2⟩ := seqOf_rel S1 r1 e
        have e1 := r.ints hl
        subst e1
        refine ⟨b, l, rfl, ?_, h4, p1.ok0 (.int _) S1⟩
        cases k with
        | true => exact .inr (q1 rfl).seq
        | false => exact .inl (q2 rfl)
      · exact p1.elim
    · exact p1.elim
  · exact p1.elim
theorem s_listM (c : Ctx T Φ fa cl N k os sc X W) {p : Pos} (h1 : gloB sc (Str.ofString "list") = true) (h2 : T.blt.contains (Str.ofString "list") = true)
    (ha : PE X ea ((tE T.Γ Φ X.K fa cl W) a)) (hx : isArg ea = true) : PE X (.Call (.Name "list" p) [ea] [] pos) ((tE T.Γ Φ X.K fa cl W) (.un .listM a)) := by
  obtain ⟨v1, v2, v3⟩ := gloB_ok c.scope h1
  refine PE.imp (callR_any (v := Bi.list.val) (x := Bi.list.name) .list call_list_of v1 (c.blt _ h2) (pa_cons ha pa_nil (star_one hx)) v3 v2 (star_one hx) rfl) fun σ H Q ⟨ρ, env, M, e, S, p⟩ => ⟨ρ, env, M, e, S, Post.bind (rl := RelD X.K fa) p fun x M1 ρ1 v1 H1 _ f1 r1 S1 p1 => ?_⟩
  unfold unD at p1
  simp only at p1
  split at p1
  · rename_i k xs e
    obtain ⟨b, zs, rfl, r, q1, q2⟩ := seqOf_rel S1 r1 e
    refine ⟨b, zs, rfl, ?_, fun q hq => mut_new S1 hq r p1⟩
    cases k with
    | true => exact .inr (q1 rfl).seq
    | false => exact .inl (q2 rfl)
  · exact p1.elim
def conV : D → V
  | .bl b => .bl b
  | .int i => .int i
  | .str s => .str s
  | _ => .non
def keyV : D → Key
  | .int i => .inl i
  | .str s => .inr s
  | _ => .inl 0
theorem con_pe {d : D} {ex : Expr} (h : chkC T sc d ex = true) (hf : d.flat = true) : PE X ex (fun σ H Q => Q (conV d) H) ∧ ∀ (ρ : List Addr) (H : Hp), RelD X.K fa ρ H d (conV d) := by
  unfold chkC at h
  split at h
  · split at h
    · exact ⟨pe_non, fun _ _ => .non⟩
    · simp only [beq_iff_eq] at h
      subst h
      exact ⟨pe_bl, fun _ _ => .bl _⟩
    · simp only [beq_iff_eq] at h
      subst h
      exact ⟨pe_int, fun _ _ => .int _⟩
    · simp only [Bool.and_eq_true, beq_iff_eq] at h
      obtain ⟨h1, h2⟩ := h
      subst h1
      exact ⟨pe_str, fun _ _ => .str _ h2⟩
    · cases h
  · split at h
    · simp [D.flat] at hf
    · cases h
  · cases h
theorem keyOk_flat {d : D} (h : keyOk d = true) : d.flat = true ∧ conV d = kV (keyV d) := by
  cases d with
  | int i => exact ⟨rfl, rfl⟩
  | str i => exact ⟨rfl, rfl⟩
  | _ => cases h
theorem pps_con : ∀ {ks vs : List D} {keys : List (Option Expr)} {vals : List Expr}, chkTab T sc ks vs keys vals = true → ks.all keyOk = true → vs.all D.flat = true →
    keys.all (·.isSome) = true ∧ keys.length = vals.length ∧ keys.length = ks.length ∧ ks.length = vs.length ∧ (∀ d ∈ vs, ∀ (ρ : List Addr) (H : Hp), RelD X.K fa ρ H d (conV d)) ∧
    ∃ trs, PPs X pos keys vals trs ∧ ∀ σ H (Q : List (V × V) → Hp → Prop), Q ((List.zip ks vs).map fun p => (kV (keyV p.1), conV p.2)) H → tPairs trs σ H Q
  | [], [], [], [], _, _, _ => ⟨rfl, rfl, rfl, rfl, by simp, [], pps_nil, fun _ _ _ q => q⟩
  | k :: ks, v :: vs, some ke :: kes, ve :: ves, h, hk, hv => by
    unfold chkTab at h
    simp only [Bool.and_eq_true] at h
    rw [List.all_cons, Bool.and_eq_true] at hk hv
    obtain ⟨i1, i2, i3, i4, i5, trs, i6, i7⟩ := pps_con h.2 hk.2 hv.2
    obtain ⟨k1, k2⟩ := keyOk_flat hk.1
    obtain ⟨c1, c2⟩ := con_pe (X := X) (fa := fa) h.1.1 k1
    obtain ⟨d1, d2⟩ := con_pe (X := X) (fa := fa) h.1.2 hv.1
    refine ⟨by simp [i1], by simp [i2], by simp [i3], by simp [i4], fun d hd => ?_, _, pps_cons c1 d1 i6, fun σ H Q q => ?_⟩
    · rcases List.mem_cons.mp hd with rfl | hd
      · exact d2
      · exact i5 d hd
    · show tPairs trs σ H fun ps H3 => Q ((conV k, conV v) :: ps) H3
      exact i7 σ H _ (by rw [k2]; exact q)
  | [], [], some _ :: _, _, h, _, _ => by simp [chkTab] at h
  | [], [], none :: _, _, h, _, _ => by simp [chkTab] at h
  | [], [], [], _ :: _, h, _, _ => by simp [chkTab] at h
  | [], _ :: _, _, _, h, _, _ => by simp [chkTab] at h
  | _ :: _, [], _, _, h, _, _ => by simp [chkTab] at h
  | _ :: _, _ :: _, [], _, h, _, _ => by simp [chkTab] at h
  | _ :: _, _ :: _, none :: _, _, h, _, _ => by simp [chkTab] at h
  | _ :: _, _ :: _, some _ :: _, [], h, _, _ => by simp [chkTab] at h
theorem beq_key {a b : D} (ha : keyOk a = true) (hb : keyOk b = true) : D.beq a b = decide (keyV a = keyV b) := by
  cases a <;> cases b <;> first
    | (simp [keyOk] at ha; done)
    | (simp [keyOk] at hb; done)
    | (simp [D.beq, keyV]; done)
    | (rw [Bool.eq_iff_iff]; simp [D.beq, keyV])
theorem merge_nodup : ∀ {ks vs : List D} (acc : List (Key × V)), ks.all keyOk = true → nodupD ks = true → (∀ k ∈ ks, valV acc (keyV k) = none) →
    mergeK acc ((List.zip ks vs).map fun p => (keyV p.1, conV p.2)) = acc ++ (List.zip ks vs).map fun p => (keyV p.1, conV p.2)
  | [], vs, acc, _, _, _ => by simp [mergeK]
  | k :: ks, [], acc, _, _, _ => by simp [mergeK]
  | k :: ks, v :: vs, acc, hk, hn, ha => by
    rw [List.all_cons, Bool.and_eq_true] at hk
    unfold nodupD at hn
    rw [Bool.and_eq_true, Bool.not_eq_true'] at hn
    have e : putK acc (keyV k) (conV v) = acc ++ [(keyV k, conV v)] := putK_new _ (ha k List.mem_cons_self)
    have ih := merge_nodup (ks := ks) (vs := vs) (acc ++ [(keyV k, conV v)]) hk.2 hn.2 fun j hj => by
      rw [valV_snoc _ _ _ _ (ha k List.mem_cons_self), if_neg, ha j (List.mem_cons_of_mem _ hj)]
      intro z
      have := List.any_eq_false.mp hn.1 j hj
      rw [beq_key hk.1 (List.all_eq_true.mp hk.2 j hj), decide_eq_true_eq] at this
      exact this z.symm
    show mergeK (putK acc (keyV k) (conV v)) ((List.zip ks vs).map fun p => (keyV p.1, conV p.2)) = _
    rw [e, ih]
    simp
theorem tab_val : ∀ {ks vs : List D} {x d : D}, ks.all keyOk = true → keyOk x = true → tabD ks vs x = some d → d ∈ vs ∧ valV ((List.zip ks vs).map fun p => (keyV p.1, conV p.2)) (keyV x) = some (conV d)
  | [], vs, x, d, _, _, h => by cases vs <;> cases h
  | k :: ks, [], x, d, _, _, h => by cases h
  | k :: ks, v :: vs, x, d, hk, hx, h => by
    rw [List.all_cons, Bool.and_eq_true] at hk
    unfold tabD at h
    rw [beq_key hk.1 hx] at h
    split at h
    · rename_i e
      cases h
      rw [decide_eq_true_eq] at e
      exact ⟨List.mem_cons_self, valV_pos e⟩
    · rename_i e
      rw [decide_eq_true_eq] at e
      obtain ⟨h1, h2⟩ := tab_val hk.2 hx h
      refine ⟨List.mem_cons_of_mem _ h1, ?_⟩
      rw [List.zip_cons_cons, List.map_cons]
      exact (valV_neg e).trans h2
theorem s_tab (c : Ctx T Φ fa cl N k os sc X W) {ks vs : List D} {keys : List (Option Expr)} {vals : List Expr} {dp : Pos} (hne : keys.isEmpty = false) (hg : (ks.all keyOk && vs.all D.flat && nodupD ks && decide (ks.length ≤ 15)) = true) (ht : chkTab T sc ks vs keys vals = true) (ha : PE X ea ((tE T.Γ Φ X.K fa cl W) a)) (hx : isIx ea = true) :
    PE X (.Subscript (.Dict keys vals dp) ea pos) ((tE T.Γ Φ X.K fa cl W) (.un (.tab ks vs) a)) := by
  have hu : X.A.units + 1 < cLine := by have := c.room.un; omega
  simp only [Bool.and_eq_true, decide_eq_true_eq] at hg
  obtain ⟨⟨⟨g1, g2⟩, g3⟩, g4⟩ := hg
  obtain ⟨i1, i2, i3, i4, i5, trs, i6, i7⟩ := pps_con (X := X) (fa := fa) (pos := dp) ht g1 g2
  refine PE.imp (pe_dget hu (pe_disp i6 i1 i2 (by intro z; rw [z] at hne; cases hne) (by omega)) ha (ix_plain hx)) fun σ H Q ⟨ρ, env, M, e, S, p⟩ => fun q hq => i7 _ _ _ ⟨upd_same, (List.zip ks vs).map fun p => (keyV p.1, conV p.2), ?_, ?_, ?_⟩
  · rw [List.map_map]; rfl
  · rw [List.length_map, List.length_zip]; omega
  · rw [upd_upd, merge_nodup (vs := vs) [] g1 g3 (fun _ _ => rfl), List.nil_append]
    have sm : Same H (upd H q (.dK ((List.zip ks vs).map fun p => (keyV p.1, conV p.2)))) := same_new hq
    have fr : Fr ρ H ρ _ := Fr.same sm
    refine ⟨ρ, env, M, e.mono fr, S.same sm, ?_⟩
    refine Post.bind (rl := RelD X.K fa) (Post.mono p fr) fun x M1 ρ1 v1 H1 _ f1 r1 S1 p1 => ?_
    have hqr : q ∉ ρ := fun z => by
      obtain ⟨o, ho⟩ := S.hs q z
      rw [hq] at ho; cases ho
    have hH1 := (f1.p q _ upd_same hqr).1
    unfold unD at p1
    simp only at p1
    split at p1
    · rename_i hc
      simp only [Bool.and_eq_true, decide_eq_true_eq] at hc
      cases hd : tabD ks vs x with
      | none => rw [hd] at p1; exact p1.elim
      | some d =>
        rw [hd] at p1
        obtain ⟨t1, t2⟩ := tab_val g1 hc.1.1.1.1.1 hd
        have hxv : v1 = kV (keyV x) := by
          cases r1 <;> first
            | rfl
            | (have := hc.1.1.1.1.1; cases this)
        refine ⟨q, conV d, rfl, ?_, p1.ok0 (i5 d t1 _ _) S1⟩
        rw [hxv, ← t2]
        exact DGet.k hH1
    · exact p1.elim
theorem s_lmul {mu : Bool} {es : Es} {ees : List Expr} {n : E} {en : Expr} {lp : Pos} (hs : PA X ees ((tA T.Γ Φ X.K fa cl W) es)) (hn : PE X en ((tE T.Γ Φ X.K fa cl W) n)) : PE X (.BinOp (.List ees lp) .Mult en pos) ((tE T.Γ Φ X.K fa cl W) (.lmul mu es n)) := by
  have go : ∀ σ H (Q : VK), (tE T.Γ Φ X.K fa cl W) (.lmul mu es n) σ H Q → tOp rRep (tLst ((tA T.Γ Φ X.K fa cl W) es)) ((tE T.Γ Φ X.K fa cl W) n) σ H (if mu then Q else frzQ Q) := fun σ H Q ⟨ρ, env, M, e, S, p⟩ => ⟨ρ, env, M, e, S, Post.bind (rl := RelDs X.K fa) p fun ds M1 ρ1 vs H1 _ f1 r1 S1 p1 => by
    split at p1
    · rename_i hl
      refine ⟨by rw [sizeLine_eq, ← r1.length]; exact hl, fun q hq => ?_⟩
      have sm : Same H1 (upd H1 q (.lst vs)) := same_new hq
      have fr : Fr ρ1 H1 ρ1 _ := Fr.same sm
      refine ⟨ρ1, env, M1, (e.mono f1).mono fr, S1.same sm, Post.bind (rl := RelD X.K fa) (Post.mono p1 fr) fun y M2 ρ2 v2 H2 _ f2 r2 S2 p2 => ?_⟩
      have hqr : q ∉ ρ1 := fun z => by
        obtain ⟨o, ho⟩ := S1.hs q z
        rw [hq] at ho; cases ho
      have hH2 := (f2.p q _ upd_same hqr).1
      split at p2
      · split at p2
        · rename_i kk hc
          simp only [Bool.and_eq_true, decide_eq_true_eq] at hc
          cases r2
          have hk := hc.1
          unfold rngOk at hk
          rw [decide_eq_true_eq] at hk
          have rr := (r1.mono fr.g fr.k).mono f2.g f2.k
          refine ⟨q, _, vs, rfl, rfl, hH2, by omega, by omega, by rw [sizeLine_eq, ← r1.length]; exact hc.2, fun q2 hq2 => ?_⟩
          unfold newL at p2
          cases mu with
          | true => exact mut_new S2 hq2 (rr.rep _) p2
          | false => exact frzQ_new S2 hq2 (rr.rep _) p2
        · exact p2.elim
      · exact p2.elim
    · exact p1.elim⟩
  cases mu with
  | true => exact PE.imp (pe_op op_rep (pe_lst hs) hn) go
  | false => exact PE.imp (pe_frz (pe_op op_rep (pe_lst hs) hn)) go

/-! ### items, slices -/
theorem s_sub (ha : PE X ea ((tE T.Γ Φ X.K fa cl W) a)) (hb : PE X eb ((tE T.Γ Φ X.K fa cl W) b)) (hx : isIx eb = true) : PE X (.Subscript ea eb pos) ((tE T.Γ Φ X.K fa cl W) (.sub a b)) :=
  PE.imp (pe_ix (ixB (fa := fa) (cl := cl)) ha hb (ix_plain hx)) fun σ H Q ⟨ρ, env, M, e, S, p⟩ => ⟨ρ, env, M, e, S, Post.bind (rl := RelD X.K fa) p fun x M1 ρ1 v1 H1 _ f1 r1 S1 p1 =>
    ⟨ρ1, env, M1, e.mono f1, S1, Post.bind (rl := RelD X.K fa) p1 fun y M2 ρ2 v2 H2 _ f2 r2 S2 p2 => ⟨ρ2, M2, x, y, _, r1.mono f2.g f2.k, r2, S2, p2⟩⟩⟩
/-- a part of a slice -/
def tP (Γ : List D) (Φ : Nat → List D → Mh → R D) (K : PySem.W.Frag) (fa : Fa) (cl : Nat → Value) (W : WX) (a : E) : TO := fun σ H Q => ∃ ρ env M, EnvR K fa ρ H σ env ∧ Sim K fa ρ M H ∧ Post K fa cl (fun _ _ d o => partD d = some o) ρ H ((evE Γ Φ a env M).bind fun d M1 => match partD d with
  | some _ => .ok d M1
  | none => .bad) Q (fun c d H' => W c d σ H')
theorem p_some (ha : PE X ea ((tE T.Γ Φ X.K fa cl W) a)) : PO X (some ea) (tP T.Γ Φ X.K fa cl W a) := ⟨fun pins s σ H Q I ⟨ρ, env, M, e, S, p⟩ => (po_someN ha).run pins s σ H Q I ⟨ρ, env, M, e, S, Post.bind (rl := RelD X.K fa) p fun x M1 ρ1 v1 H1 _ f1 r1 S1 p1 => by
  cases r1 <;> simp only [partD] at p1 <;> first
    | exact .inl ⟨rfl, p1.ok0 rfl S1⟩
    | exact .inr ⟨_, rfl, p1.ok0 rfl S1⟩
    | exact p1.elim⟩⟩
theorem p_none (h : noPart a = true) : PO X none (tP T.Γ Φ X.K fa cl W a) := ⟨fun pins s σ H Q I ⟨ρ, env, M, e, S, p⟩ => po_none.run pins s σ H Q I (by
  unfold noPart at h
  split at h
  · unfold evE at p
    exact p.ok0 rfl S
  · cases h)⟩
theorem s_slc {lo hi : Option Expr} {p2 : Pos} (ha : PE X ea ((tE T.Γ Φ X.K fa cl W) a)) (hl : PO X lo (tP T.Γ Φ X.K fa cl W b)) (hh : PO X hi (tP T.Γ Φ X.K fa cl W c)) : PE X (.Subscript ea (.Slice lo hi none p2) pos) ((tE T.Γ Φ X.K fa cl W) (.slc a b c)) :=
  PE.imp (pe_slice (slB (fa := fa) (cl := cl)) ha hl hh) fun σ H Q ⟨ρ, env, M, e, S, p⟩ => ⟨ρ, env, M, e, S, Post.bind (rl := RelD X.K fa) p fun x M1 ρ1 v1 H1 _ f1 r1 S1 p1 => by
    refine ⟨ρ1, env, M1, e.mono f1, S1, ?_⟩
    cases hr : evE T.Γ Φ b env M1 with
    | ok y M2 =>
      rw [hr, R.bind_ok] at p1
      rw [R.bind_ok]
      cases hy : partD y with
      | none => rw [hy] at p1; exact p1.elim
      | some l =>
        rw [hy] at p1
        intro ρ2 o H2 f2 ro S2
        rw [hy] at ro
        cases ro
        refine ⟨ρ2, env, M2, (e.mono f1).mono f2, S2, ?_⟩
        have p2 := Post.mono p1 f2
        simp only at p2
        cases hr2 : evE T.Γ Φ c env M2 with
        | ok z M3 =>
          rw [hr2, R.bind_ok] at p2
          rw [R.bind_ok]
          cases hz : partD z with
          | none => unfold slcD at p2; rw [hy, hz] at p2; exact p2.elim
          | some u =>
            intro ρ3 o H3 f3 ro S3
            rw [hz] at ro
            cases ro
            exact ⟨ρ3, M3, x, y, z, _, r1.mono (f2.trans f3).g (f2.trans f3).k, hy, hz, S3, Post.mono p2 f3⟩
        | exc c fs M3 => rw [hr2] at p2; exact p2
        | bad => rw [hr2] at p2; exact p2
    | exc c fs M3 => rw [hr] at p1; exact p1
    | bad => rw [hr] at p1; exact p1⟩
theorem s_rev {j : Nat} {p1 p2 p3 : Pos} (ha : PE X ea ((tE T.Γ Φ X.K fa cl W) a)) : PE X (.Subscript ea (.Slice none none (some (.UnaryOp .USub (.Constant (.int 1) j p1) p2)) p3) pos) ((tE T.Γ Φ X.K fa cl W) (.rev a)) :=
  PE.imp (pe_frzW (pe_revA ha)) fun σ H Q ⟨ρ, env, M, e, S, p⟩ => ⟨ρ, env, M, e, S, Post.bind (rl := RelD X.K fa) p fun x M1 ρ1 v1 H1 _ f1 r1 S1 p1 => by
    rcases rev_rel S1 r1 p1 with ⟨a, xs, h1, h2, h3⟩ | ⟨a, xs, h1, h2, h3⟩ | ⟨z, h1, h2, h3⟩
    · exact .inl ⟨a, xs, h1, h2, fun q hq => .inr (h3 q hq)⟩
    · exact .inr (.inl ⟨a, xs, h1, h2, fun q o hq hd => .inl (h3 q o hq hd)⟩)
    · exact .inr (.inr ⟨z, h1, h2, .inl h3⟩)⟩
theorem s_frz (ha : PE X ea ((tE T.Γ Φ X.K fa cl W) a)) : PE X ea ((tE T.Γ Φ X.K fa cl W) (.frz a)) :=
  PE.imp (pe_frzW ha) fun σ H Q ⟨ρ, env, M, e, S, p⟩ => ⟨ρ, env, M, e, S, Post.bind (rl := RelD X.K fa) p fun x M1 ρ1 v1 H1 _ f1 r1 S1 p1 => frzD_rel S1 r1 p1⟩
theorem s_nvr : PE X ea ((tE T.Γ Φ X.K fa cl W) .nvr) := ⟨fun pins s σ H Q I ⟨ρ, env, M, e, S, p⟩ => by unfold evE at p; exact p.elim⟩
theorem s_nvrT : PT X ea ((tT T.Γ Φ X.K fa cl W) .nvr) := ⟨fun pins s σ H Q I ⟨ρ, env, M, e, S, p⟩ => by unfold evE at p; exact p.elim⟩

/-! ### iterables -/
theorem i_ex {tg : Expr} (ha : PE X ea ((tE T.Γ Φ X.K fa cl W) a)) : PI X tg ea ((tI T.Γ Φ X.K fa cl W) (.ex a)) :=
  PI.imp (pi_any ha) fun σ H R ⟨ρ, env, M, e, S, p⟩ => ⟨ρ, env, M, e, S, Post.bind (rl := RelD X.K fa) p fun x M1 ρ1 v1 H1 _ f1 r1 S1 p1 => iter_rel S1 r1 p1⟩
theorem rngOk_of {i : Int} (h : rngOk i = true) : -(2 ^ 62) ≤ i ∧ i < 2 ^ 62 := by
  unfold rngOk at h
  rw [decide_eq_true_eq] at h
  omega
theorem i_rng1 (c : Ctx T Φ fa cl N k os sc X W) {tg : Expr} {p : Pos} (h2 : gloB sc (Str.ofString "range") = true) (h3 : T.blt.contains (Str.ofString "range") = true) (ha : PE X ea ((tE T.Γ Φ X.K fa cl W) a)) (hx : isArg ea = true) : PI X tg (.Call (.Name "range" p) [ea] [] pos) ((tI T.Γ Φ X.K fa cl W) (.rng1 a)) := by
  obtain ⟨v1, v2, v3⟩ := gloB_ok c.scope h2
  refine PI.imp (pi_range1 v1 (c.blt _ h3) (pa_cons ha pa_nil (star_one hx)) (star_one hx)) fun σ H R ⟨ρ, env, M, e, S, p⟩ => ⟨ρ, env, M, e, S, Post.bind (rl := RelD X.K fa) p fun x M1 ρ1 v1 H1 _ f1 r1 S1 p1 => ?_⟩
  cases r1 with
  | int j =>
    simp only at p1
    split at p1
    · rename_i hj
      obtain ⟨b1, b2⟩ := rngOk_of hj
      refine ⟨j, rfl, b1, b2, p1.ok0 ?_ S1⟩
      have : rngL 0 j = (List.range j.toNat).map fun (i : Nat) => D.int (0 + (i : Int)) := by unfold rngL; rw [Int.sub_zero]
      show WalkR _ _ _ _ (rngL 0 j) none _
      rw [this]
      exact walkR_rng
    · exact p1.elim
  | non => exact p1.elim
  | bl _ => exact p1.elim
  | str _ _ => exact p1.elim
  | tup _ _ => exact p1.elim
  | lst _ _ => exact p1.elim
  | ref _ => exact p1.elim
  | ty _ => exact p1.elim
  | fn _ => exact p1.elim
  | dct _ _ _ _ => exact p1.elim
theorem i_rng2 (c : Ctx T Φ fa cl N k os sc X W) {tg : Expr} {p : Pos} (h2 : gloB sc (Str.ofString "range") = true) (h3 : T.blt.contains (Str.ofString "range") = true) (ha : PE X ea ((tE T.Γ Φ X.K fa cl W) a)) (hx : isArg ea = true) (hb : PE X eb ((tE T.Γ Φ X.K fa cl W) b)) (hy : isArg eb = true) : PI X tg (.Call (.Name "range" p) [ea, eb] [] pos) ((tI T.Γ Φ X.K fa cl W) (.rng2 a b)) := by
  obtain ⟨v1, v2, v3⟩ := gloB_ok c.scope h2
  refine PI.imp (pi_range2 v1 (c.blt _ h3) (pa_cons ha (pa_cons hb pa_nil (star_one hy)) (star_one hx)) (by rw [star_one hx, star_one hy]; rfl) (star_one hy)) fun σ H R ⟨ρ, env, M, e, S, p⟩ => ⟨ρ, env, M, e, S, Post.bind (rl := RelD X.K fa) p fun x M1 ρ1 v1 H1 _ f1 r1 S1 p1 =>
    ⟨ρ1, env, M1, e.mono f1, S1, Post.bind (rl := RelD X.K fa) p1 fun y M2 ρ2 v2 H2 _ f2 r2 S2 p2 => ?_⟩⟩
  split at p2
  · split at p2
    · rename_i i j hj
      rw [Bool.and_eq_true] at hj
      cases r1
      cases r2
      obtain ⟨b1, b2⟩ := rngOk_of hj.1
      obtain ⟨b3, b4⟩ := rngOk_of hj.2
      exact ⟨_, _, rfl, ⟨b1, b2, b3, b4⟩, p2.ok0 (show WalkR _ _ _ _ (rngL _ _) none _ from walkR_rng) S2⟩
    · exact p2.elim
  · exact p2.elim
theorem i_rng3 (c : Ctx T Φ fa cl N k os sc X W) {tg : Expr} {p : Pos} {d : E} {ed : Expr} (h2 : gloB sc (Str.ofString "range") = true) (h3 : T.blt.contains (Str.ofString "range") = true) (ha : PE X ea ((tE T.Γ Φ X.K fa cl W) a)) (hx : isArg ea = true) (hb : PE X eb ((tE T.Γ Φ X.K fa cl W) b)) (hy : isArg eb = true) (hd : PE X ed ((tE T.Γ Φ X.K fa cl W) d)) (hz : isArg ed = true) :
    PI X tg (.Call (.Name "range" p) [ea, eb, ed] [] pos) ((tI T.Γ Φ X.K fa cl W) (.rng3 a b d)) := by
  obtain ⟨v1, v2, v3⟩ := gloB_ok c.scope h2
  refine PI.imp (pi_range3 v1 (c.blt _ h3) (pa_cons ha (pa_cons hb (pa_cons hd pa_nil (star_one hz)) (star_one hy)) (star_one hx)) (by rw [star_one hx]) (by rw [star_one hy, star_one hz]; rfl)) fun σ H R ⟨ρ, env, M, e, S, p⟩ => ⟨ρ, env, M, e, S, Post.bind (rl := RelD X.K fa) p fun x M1 ρ1 v1 H1 _ f1 r1 S1 p1 =>
    ⟨ρ1, env, M1, e.mono f1, S1, Post.bind (rl := RelD X.K fa) p1 fun y M2 ρ2 v2 H2 _ f2 r2 S2 p2 => ⟨ρ2, env, M2, (e.mono f1).mono f2, S2, Post.bind (rl := RelD X.K fa) p2 fun z M3 ρ3 v3 H3 _ f3 r3 S3 p3 => ?_⟩⟩⟩
  split at p3
  · split at p3
    · rename_i i j kk hj
      simp only [Bool.and_eq_true, decide_eq_true_eq] at hj
      obtain ⟨⟨⟨⟨⟨g1, g2⟩, g3⟩, g4⟩, g5⟩, g6⟩ := hj
      cases r1
      cases r2
      cases r3
      exact ⟨_, _, _, _, rfl, ⟨g3, g4, g5, (Int.toNat_of_nonneg g6).symm⟩, p3.ok0 (show WalkR _ _ _ _ (rng3L _ _ _) none _ from walkR_rng3) S3⟩
    · exact p3.elim
  · exact p3.elim
theorem i_zip (c : Ctx T Φ fa cl N k os sc X W) {tg : Expr} {p : Pos} (h2 : gloB sc (Str.ofString "zip") = true) (h3 : T.blt.contains (Str.ofString "zip") = true) (ha : PE X ea ((tE T.Γ Φ X.K fa cl W) a)) (hx : isArg ea = true) (hb : PE X eb ((tE T.Γ Φ X.K fa cl W) b)) (hy : isArg eb = true) : PI X tg (.Call (.Name "zip" p) [ea, eb] [] pos) ((tI T.Γ Φ X.K fa cl W) (.zip a b)) := by
  obtain ⟨v1, v2, v3⟩ := gloB_ok c.scope h2
  refine PI.imp (pi_zipG v1 (c.blt _ h3) (pa_cons ha (pa_cons hb pa_nil (star_one hy)) (star_one hx)) (star_one hx) (by rw [star_one hy]; rfl)) fun σ H R ⟨ρ, env, M, e, S, p⟩ => ⟨ρ, env, M, e, S, Post.bind (rl := RelD X.K fa) p fun x M1 ρ1 v1 H1 _ f1 r1 S1 p1 =>
    ⟨ρ1, env, M1, e.mono f1, S1, Post.bind (rl := RelD X.K fa) p1 fun y M2 ρ2 v2 H2 _ f2 r2 S2 p2 => ?_⟩⟩
  split at p2
  · rename_i xs ys hx hy
    obtain ⟨vx, sx, rx⟩ := fz_rel (r1.mono f2.g f2.k) hx
    obtain ⟨vy, sy, ry⟩ := fz_rel r2 hy
    refine ⟨v1, v2, vx, vy, rfl, sx, sy, fun k1 k2 e1 e2 ok1 ok2 => p2.ok0 ?_ S2⟩
    subst e1 e2
    exact walkR_zip ok1 ok2 rx ry
  · exact p2.elim
theorem i_enm (c : Ctx T Φ fa cl N k os sc X W) {elts : List Expr} {kk : Nat} {tp : Pos} {p : Pos} (h2 : gloB sc (Str.ofString "enumerate") = true) (h3 : T.blt.contains (Str.ofString "enumerate") = true) (ha : PE X ea ((tE T.Γ Φ X.K fa cl W) a)) (hx : isArg ea = true) : PI X (.Tuple elts kk tp) (.Call (.Name "enumerate" p) [ea] [] pos) ((tI T.Γ Φ X.K fa cl W) (.enm a)) := by
  obtain ⟨v1, v2, v3⟩ := gloB_ok c.scope h2
  refine PI.imp (pi_enmG v1 (c.blt _ h3) (pa_cons ha pa_nil (star_one hx)) (star_one hx)) fun σ H R ⟨ρ, env, M, e, S, p⟩ => ⟨ρ, env, M, e, S, Post.bind (rl := RelD X.K fa) p fun x M1 ρ1 v1 H1 _ f1 r1 S1 p1 => ?_⟩
  split at p1
  · rename_i xs hx
    obtain ⟨vx, sx, rx⟩ := fz_rel r1 hx
    refine ⟨v1, vx, rfl, sx, fun k1 e1 ok1 => p1.ok0 ?_ S1⟩
    subst e1
    exact walkR_enm ok1 rx
  · exact p1.elim

theorem i_enmF (c : Ctx T Φ fa cl N k os sc X W) {elts : List Expr} {kk : Nat} {tp : Pos} {p : Pos} (h2 : gloB sc (Str.ofString "enumerate") = true) (h3 : T.blt.contains (Str.ofString "enumerate") = true) (ha : PE X ea ((tE T.Γ Φ X.K fa cl W) a)) (hx : isArg ea = true) (hb : PE X eb ((tE T.Γ Φ X.K fa cl W) b)) (hy : isArg eb = true) : PI X (.Tuple elts kk tp) (.Call (.Name "enumerate" p) [ea, eb] [] pos) ((tI T.Γ Φ X.K fa cl W) (.enmF a b)) := by
  obtain ⟨v1, v2, v3⟩ := gloB_ok c.scope h2
  refine PI.imp (pi_enmGF v1 (c.blt _ h3) (pa_cons ha (pa_cons hb pa_nil (star_one hy)) (star_one hx)) (star_one hx) (by rw [star_one hy]; rfl)) fun σ H R ⟨ρ, env, M, e, S, p⟩ => ⟨ρ, env, M, e, S, Post.bind (rl := RelD X.K fa) p fun x M1 ρ1 v1 H1 _ f1 r1 S1 p1 =>
    ⟨ρ1, env, M1, e.mono f1, S1, Post.bind (rl := RelD X.K fa) p1 fun y M2 ρ2 v2 H2 _ f2 r2 S2 p2 => ?_⟩⟩
  split at p2
  · rename_i xs cc hx _
    split at p2
    · rename_i hc
      obtain ⟨vx, sx, rx⟩ := fz_rel (r1.mono f2.g f2.k) hx
      cases r2
      have ec : cc = ((cc.toNat : Nat) : Int) := (Int.toNat_of_nonneg hc.1).symm
      refine ⟨v1, vx, cc.toNat, by rw [← ec], by omega, sx, fun k1 e1 ok1 => p2.ok0 ?_ S2⟩
      subst e1
      exact walkR_enmF _ ok1 rx
    · exact p2.elim
  · exact p2.elim

/-! ### a range as a tuple, a list -/
def tRgD (Γ : List D) (Φ : Nat → List D → Mh → R D) (K : PySem.W.Frag) (fa : Fa) (cl : Nat → Value) (W : WX) (it : I) : L2.St → Hp → (Int → Int → Hp → Prop) → Prop := fun σ H R => ∃ ρ env M, EnvR K fa ρ H σ env ∧ Sim K fa ρ M H ∧
  Post K fa cl (fun _ _ (p : List D × Option Nat) (ab : Int × Int) => p.1 = rngL ab.1 ab.2 ∧ rngOk ab.1 = true ∧ rngOk ab.2 = true) ρ H (evI Γ Φ it env M) (fun ab H' => R ab.1 ab.2 H') (fun c d H' => W c d σ H')
theorem rg_rels {ρ : List Addr} {H : Hp} {K : PySem.W.Frag} {i j : Int} : RelDs K fa ρ H (rngL i j) (rgV i j) := by
  unfold rngL rgV
  generalize (j - i).toNat = n
  have key : ∀ l : List Nat, RelDs K fa ρ H (l.map fun (x : Nat) => D.int (i + (x : Int))) (l.map fun x => V.int (i + (x : Nat))) := fun l => by
    induction l with
    | nil => exact .nil
    | cons x r ih => exact .cons (.int _) ih
  exact key _
theorem rngL_len {i j : Int} : (rngL i j).length = (j - i).toNat := by unfold rngL; simp
/-- what PRg is, weaker -/
theorem PRg.imp {ex : Expr} {t t' : L2.St → Hp → (Int → Int → Hp → Prop) → Prop} (h : PRg X ex t) (i : ∀ σ H Q, t' σ H Q → t σ H Q) : PRg X ex t' := fun pins s σ H Q I q => h pins s σ H Q I (i σ H Q q)
theorem rg_1 (c : Ctx T Φ fa cl N k os sc X W) {p : Pos} (h2 : gloB sc (Str.ofString "range") = true) (h3 : T.blt.contains (Str.ofString "range") = true) (ha : PE X ea ((tE T.Γ Φ X.K fa cl W) a)) (hx : isArg ea = true) : PRg X (.Call (.Name "range" p) [ea] [] pos) (tRgD T.Γ Φ X.K fa cl W (.rng1 a)) := by
  obtain ⟨v1, v2, v3⟩ := gloB_ok c.scope h2
  refine PRg.imp (prg_1 v1 (c.blt _ h3) ha (star_one hx)) fun σ H R ⟨ρ, env, M, e, S, p⟩ => ⟨ρ, env, M, e, S, Post.bind (rl := RelD X.K fa) p fun x M1 ρ1 v1 H1 _ f1 r1 S1 p1 => ?_⟩
  cases r1 with
  | int j =>
    simp only at p1
    split at p1
    · rename_i hj
      exact ⟨j, rfl, p1.ok0 (b := (0, j)) ⟨rfl, show rngOk 0 = true from by decide, hj⟩ S1⟩
    · exact p1.elim
  | non => exact p1.elim
  | bl _ => exact p1.elim
  | str _ _ => exact p1.elim
  | tup _ _ => exact p1.elim
  | lst _ _ => exact p1.elim
  | ref _ => exact p1.elim
  | ty _ => exact p1.elim
  | fn _ => exact p1.elim
  | dct _ _ _ _ => exact p1.elim
theorem rg_2 (c : Ctx T Φ fa cl N k os sc X W) {p : Pos} (h2 : gloB sc (Str.ofString "range") = true) (h3 : T.blt.contains (Str.ofString "range") = true) (ha : PE X ea ((tE T.Γ Φ X.K fa cl W) a)) (hx : isArg ea = true) (hb : PE X eb ((tE T.Γ Φ X.K fa cl W) b)) (hy : isArg eb = true) : PRg X (.Call (.Name "range" p) [ea, eb] [] pos) (tRgD T.Γ Φ X.K fa cl W (.rng2 a b)) := by
  obtain ⟨v1, v2, v3⟩ := gloB_ok c.scope h2
  refine PRg.imp (prg_2 v1 (c.blt _ h3) ha hb (by rw [star_one hx]) (star_one hy) (by rw [star_one hy]; rfl)) fun σ H R ⟨ρ, env, M, e, S, p⟩ => ⟨ρ, env, M, e, S, Post.bind (rl := RelD X.K fa) p fun x M1 ρ1 v1 H1 _ f1 r1 S1 p1 =>
    ⟨ρ1, env, M1, e.mono f1, S1, Post.bind (rl := RelD X.K fa) p1 fun y M2 ρ2 v2 H2 _ f2 r2 S2 p2 => ?_⟩⟩
  split at p2
  · split at p2
    · rename_i hj
      rw [Bool.and_eq_true] at hj
      cases r1
      cases r2
      exact ⟨_, _, rfl, rfl, p2.ok0 (b := (_, _)) ⟨rfl, hj.1, hj.2⟩ S2⟩
    · exact p2.elim
  · exact p2.elim
theorem rgF_1 (c : Ctx T Φ fa cl N k os sc X W) {p : Pos} (h2 : gloB sc (Str.ofString "range") = true) (h3 : T.blt.contains (Str.ofString "range") = true) (ha : PE X ea ((tE T.Γ Φ X.K fa cl W) a)) (hx : isArg ea = true) : PRgF X (.Call (.Name "range" p) [ea] [] pos) (tRgD T.Γ Φ X.K fa cl W (.rng1 a)) := by
  obtain ⟨v1, v2, v3⟩ := gloB_ok c.scope h2
  refine PRgF.imp (prgF_1 v1 (c.blt _ h3) ha (star_one hx)) fun σ H R ⟨ρ, env, M, e, S, p⟩ => ⟨ρ, env, M, e, S, Post.bind (rl := RelD X.K fa) p fun x M1 ρ1 v1 H1 _ f1 r1 S1 p1 => ?_⟩
  cases r1 with
  | int j =>
    simp only at p1
    split at p1
    · rename_i hj
      exact ⟨j, rfl, p1.ok0 (b := (0, j)) ⟨rfl, show rngOk 0 = true from by decide, hj⟩ S1⟩
    · exact p1.elim
  | non => exact p1.elim
  | bl _ => exact p1.elim
  | str _ _ => exact p1.elim
  | tup _ _ => exact p1.elim
  | lst _ _ => exact p1.elim
  | ref _ => exact p1.elim
  | ty _ => exact p1.elim
  | fn _ => exact p1.elim
  | dct _ _ _ _ => exact p1.elim
theorem rgF_2 (c : Ctx T Φ fa cl N k os sc X W) {p : Pos} (h2 : gloB sc (Str.ofString "range") = true) (h3 : T.blt.contains (Str.ofString "range") = true) (ha : PE X ea ((tE T.Γ Φ X.K fa cl W) a)) (hx : isArg ea = true) (hb : PE X eb ((tE T.Γ Φ X.K fa cl W) b)) (hy : isArg eb = true) : PRgF X (.Call (.Name "range" p) [ea, eb] [] pos) (tRgD T.Γ Φ X.K fa cl W (.rng2 a b)) := by
  obtain ⟨v1, v2, v3⟩ := gloB_ok c.scope h2
  refine PRgF.imp (prgF_2 v1 (c.blt _ h3) ha hb (by rw [star_one hx]) (star_one hy) (by rw [star_one hy]; rfl)) fun σ H R ⟨ρ, env, M, e, S, p⟩ => ⟨ρ, env, M, e, S, Post.bind (rl := RelD X.K fa) p fun x M1 ρ1 v1 H1 _ f1 r1 S1 p1 =>
    ⟨ρ1, env, M1, e.mono f1, S1, Post.bind (rl := RelD X.K fa) p1 fun y M2 ρ2 v2 H2 _ f2 r2 S2 p2 => ?_⟩⟩
  split at p2
  · split at p2
    · rename_i hj
      rw [Bool.and_eq_true] at hj
      cases r1
      cases r2
      exact ⟨_, _, rfl, rfl, p2.ok0 (b := (_, _)) ⟨rfl, hj.1, hj.2⟩ S2⟩
    · exact p2.elim
  · exact p2.elim
theorem i_zipR (c : Ctx T Φ fa cl N k os sc X W) {tg : Expr} {p : Pos} {ia ib : I} {e1 e2 : Expr} (h2 : gloB sc (Str.ofString "zip") = true) (h3 : T.blt.contains (Str.ofString "zip") = true) (ha : PRgF X e1 (tRgD T.Γ Φ X.K fa cl W ia)) (hb : PRgF X e2 (tRgD T.Γ Φ X.K fa cl W ib)) (hx : isArg e1 = true) (hy : isArg e2 = true) :
    PI X tg (.Call (.Name "zip" p) [e1, e2] [] pos) ((tI T.Γ Φ X.K fa cl W) (.zipR ia ib)) := by
  obtain ⟨v1, v2, v3⟩ := gloB_ok c.scope h2
  refine PI.imp (pi_zipRR v1 (c.blt _ h3) ha hb (star_one hx) (star_one hy) (by rw [star_one hy]; rfl)) fun σ H R ⟨ρ, env, M, e, S, p⟩ => ⟨ρ, env, M, e, S, Post.bind p fun q M1 ρ1 ab H1 _ f1 r1 S1 p1 => ?_⟩
  obtain ⟨g1, g2, g3⟩ := r1
  obtain ⟨b1, b2⟩ := rngOk_of g2
  obtain ⟨b3, b4⟩ := rngOk_of g3
  refine ⟨b1, b2, b3, b4, ρ1, env, M1, e.mono f1, S1, Post.bind p1 fun q2 M2 ρ2 cd H2 _ f2 r2 S2 p2 => ?_⟩
  obtain ⟨k1, k2, k3⟩ := r2
  obtain ⟨c1, c2⟩ := rngOk_of k2
  obtain ⟨c3, c4⟩ := rngOk_of k3
  refine ⟨c1, c2, c3, c4, p2.ok0 ?_ S2⟩
  rw [g1, k1]
  exact walkR_zip (fun _ _ => trivial) (fun _ _ => trivial) (rg_rels (i := ab.1) (j := ab.2)) (rg_rels (i := cd.1) (j := cd.2))
theorem pairs_tail {H : Hp} {z : V} {zs : List V} {p : V × V} {ps : List (V × V)} (h : PairsAt H (z :: zs) (p :: ps)) : (∃ T o, z = .ref T ∧ H T = some (.frz o (.tup [p.1, p.2])) ∧ o.dict = none) ∧ PairsAt H zs ps := by
  obtain ⟨e, h⟩ := h
  refine ⟨?_, by simpa using e, fun j x y q => ?_⟩
  · obtain ⟨T, o, h1, h2⟩ := h 0 p.1 p.2 rfl
    exact ⟨T, o, by simpa using h1, h2⟩
  · obtain ⟨U, o, h1, h2⟩ := h (j + 1) x y (by simpa using q)
    exact ⟨U, o, by simpa using h1, h2⟩
theorem pairs_rel {K : PySem.W.Frag} {fa : Fa} {ρ : List Addr} {H : Hp} : ∀ {d1 : List D} {xs : List V} {d2 : List D} {ys zs : List V}, RelDs K fa ρ H d1 xs → RelDs K fa ρ H d2 ys → PairsAt H zs (xs.zip ys) → RelDs K fa ρ H (List.zipWith (fun p q => D.tup [p, q]) d1 d2) zs
  | [], _, d2, ys, zs, .nil, _, h => by
    have e : zs = [] := List.eq_nil_of_length_eq_zero (by simpa using h.1)
    subst e
    exact .nil
  | _ :: _, _ :: _, [], _, zs, .cons _ _, .nil, h => by
    have e : zs = [] := List.eq_nil_of_length_eq_zero (by simpa using h.1)
    subst e
    exact .nil
  | a :: d1, x :: xs, b :: d2, y :: ys, zs, .cons r1 t1, .cons r2 t2, h => by
    cases zs with
    | nil => exact absurd h.1 (by simp)
    | cons z zs =>
      obtain ⟨⟨T, o, rfl, hT, hd⟩, h'⟩ := pairs_tail (p := (x, y)) (ps := xs.zip ys) h
      exact .cons (.tup (.of hT hd) (.cons r1 (.cons r2 .nil))) (pairs_rel t1 t2 h')
theorem s_lstZ (c : Ctx T Φ fa cl N k os sc X W) {mu : Bool} {a b : E} {ea eb : Expr} {p pos p2 pos2 : Pos} (h2 : gloB sc (Str.ofString "list") = true) (h3 : T.blt.contains (Str.ofString "list") = true) (g2 : gloB sc (Str.ofString "zip") = true) (g3 : T.blt.contains (Str.ofString "zip") = true)
    (ha : PE X ea ((tE T.Γ Φ X.K fa cl W) a)) (hx : isArg ea = true) (hb : PE X eb ((tE T.Γ Φ X.K fa cl W) b)) (hy : isArg eb = true) : PE X (.Call (.Name "list" p) [.Call (.Name "zip" p2) [ea, eb] [] pos2] [] pos) ((tE T.Γ Φ X.K fa cl W) (.lstI mu (.zip a b))) := by
  obtain ⟨v1, v2, v3⟩ := gloB_ok c.scope h2
  obtain ⟨w1, w2, w3⟩ := gloB_ok c.scope g2
  have base := pe_listZip (pos := pos) (p := p) (p2 := p2) (pos2 := pos2) c.calm v1 (c.blt _ h3) w1 (c.blt _ g3) (pa_cons ha (pa_cons hb pa_nil (star_one hy)) (star_one hx)) (star_one hx) (by rw [star_one hy]; rfl)
  have key : ∀ (σ : L2.St) (H : Hp) (Q Q' : VK), (∀ (ρ : List Addr) (H : Hp) (M : Mh) (ds : List D) (xs : List V) (V' : XK) (q : Addr), Sim X.K fa ρ M H → H q = none → RelDs X.K fa ρ H ds xs → Post X.K fa cl (RelD X.K fa) ρ H (if mu then .ok (.ref M.length) (M ++ [.lst ds]) else .ok (.lst ds) M) Q V' → Q' (.ref q) (upd H q (.lst xs))) →
      (tE T.Γ Φ X.K fa cl W) (.lstI mu (.zip a b)) σ H Q → tLstZip X.K (tCons ((tE T.Γ Φ X.K fa cl W) a) (tCons ((tE T.Γ Φ X.K fa cl W) b) tNil)) σ H Q' := fun σ H Q Q' hq ⟨ρ, env, M, e, S, p⟩ => ⟨ρ, env, M, e, S, by
    unfold evE at p
    unfold evI at p
    rw [R.bind_bind] at p
    refine Post.bind (rl := RelD X.K fa) p fun x M1 ρ1 v1 H1 _ f1 r1 S1 p1 => ⟨ρ1, env, M1, e.mono f1, S1, ?_⟩
    rw [R.bind_bind] at p1
    refine Post.bind (rl := RelD X.K fa) p1 fun y M2 ρ2 v2 H2 _ f2 r2 S2 p2 => ?_
    split at p2
    · rename_i xs ys hx hy
      rw [R.bind_ok] at p2
      split at p2
      · rename_i hl
        obtain ⟨vx, sx, rx⟩ := fz_rel (r1.mono f2.g f2.k) hx
        obtain ⟨vy, sy, ry⟩ := fz_rel r2 hy
        refine ⟨v1, v2, vx, vy, rfl, sx, sy, ?_, fun H' zs q sm hp hn => ?_⟩
        · rw [List.length_zipWith, rx.length, ry.length] at hl
          exact hl
        · have f3 : Fr ρ2 H2 ρ2 H' := Fr.same sm
          exact hq ρ2 H' M2 _ _ _ q (S2.same sm) hn (pairs_rel (rx.mono f3.g f3.k) (ry.mono f3.g f3.k) hp) (Post.mono p2 f3)
      · exact p2.elim
    · exact p2.elim⟩
  cases mu with
  | true => exact PE.imp base fun σ H Q q => key σ H Q Q (fun ρ H M ds xs V' q S hn r p => mut_new S hn r (by simpa using p)) q
  | false => exact PE.imp (pe_frz base) fun σ H Q q => key σ H Q _ (fun ρ H M ds xs V' q S hn r p => frzQ_new S hn r (by simpa using p)) q
theorem s_tupI (c : Ctx T Φ fa cl N k os sc X W) {it : I} {ex : Expr} {p : Pos} (hr : PRg X ex (tRgD T.Γ Φ X.K fa cl W it)) (h2 : gloB sc (Str.ofString "tuple") = true) (h3 : T.blt.contains (Str.ofString "tuple") = true) (hx : isArg ex = true) : PE X (.Call (.Name "tuple" p) [ex] [] pos) ((tE T.Γ Φ X.K fa cl W) (.tupI it)) := by
  obtain ⟨v1, v2, v3⟩ := gloB_ok c.scope h2
  refine PE.imp (pe_tupRgN c.calm v1 (c.blt _ h3) hr (star_one hx)) fun σ H Q ⟨ρ, env, M, e, S, p⟩ => ⟨ρ, env, M, e, S, ?_⟩
  unfold evE at p
  refine Post.bind p fun q M1 ρ1 ab H1 _ f1 r1 S1 p1 => ?_
  obtain ⟨e1, b1, b2⟩ := r1
  rw [e1] at p1
  split at p1
  · rename_i hl
    obtain ⟨c1, c2⟩ := rngOk_of b1
    obtain ⟨c3, c4⟩ := rngOk_of b2
    rw [rngL_len] at hl
    exact ⟨⟨c1, c2, c3, c4, hl⟩, fun q o hq hd => tup_new S1 hq hd rg_rels p1⟩
  · exact p1.elim
theorem s_lstI (c : Ctx T Φ fa cl N k os sc X W) {mu : Bool} {it : I} {ex : Expr} {p : Pos} (hr : PRg X ex (tRgD T.Γ Φ X.K fa cl W it)) (h2 : gloB sc (Str.ofString "list") = true) (h3 : T.blt.contains (Str.ofString "list") = true) (hx : isArg ex = true) : PE X (.Call (.Name "list" p) [ex] [] pos) ((tE T.Γ Φ X.K fa cl W) (.lstI mu it)) := by
  obtain ⟨v1, v2, v3⟩ := gloB_ok c.scope h2
  have base := pe_listRg (pos := pos) (p := p) c.calm v1 (c.blt _ h3) hr (star_one hx)
  have key : ∀ (σ : L2.St) (H : Hp) (Q Q' : VK), (∀ (ρ : List Addr) (H : Hp) (M : Mh) (ds : List D) (xs : List V) (V' : XK) (q : Addr), Sim X.K fa ρ M H → H q = none → RelDs X.K fa ρ H ds xs → Post X.K fa cl (RelD X.K fa) ρ H (if mu then .ok (.ref M.length) (M ++ [.lst ds]) else .ok (.lst ds) M) Q V' → Q' (.ref q) (upd H q (.lst xs))) →
      (tE T.Γ Φ X.K fa cl W) (.lstI mu it) σ H Q → tLstRg (tRgD T.Γ Φ X.K fa cl W it) σ H Q' := fun σ H Q Q' hq ⟨ρ, env, M, e, S, p⟩ => ⟨ρ, env, M, e, S, by
    unfold evE at p
    refine Post.bind p fun q M1 ρ1 ab H1 _ f1 r1 S1 p1 => ?_
    obtain ⟨e1, b1, b2⟩ := r1
    rw [e1] at p1
    split at p1
    · rename_i hl
      obtain ⟨c1, c2⟩ := rngOk_of b1
      obtain ⟨c3, c4⟩ := rngOk_of b2
      rw [rngL_len] at hl
      exact ⟨⟨c1, c2, c3, c4, hl⟩, fun q hn => hq ρ1 H1 M1 _ _ _ q S1 hn rg_rels p1⟩
    · exact p1.elim⟩
  cases mu with
  | true => exact PE.imp base fun σ H Q q => key σ H Q Q (fun ρ H M ds xs V' q S hn r p => mut_new S hn r (by simpa using p)) q
  | false => exact PE.imp (pe_frz base) fun σ H Q q => key σ H Q _ (fun ρ H M ds xs V' q S hn r p => frzQ_new S hn r (by simpa using p)) q

/-! ### targets -/
theorem g_nm (c : Ctx T Φ fa cl N k os sc X W) {i : Nat} {x : Str} (h1 : N[i]? = some x) (h2 : locB os sc x = true) : PG X (.Name x pos) ((tG T.Γ Φ X.K fa) (.nm i)) := by
  obtain ⟨v1, v2⟩ := locB_ok c h2
  refine PG.imp (pg_name (by rw [c.names]; exact c.nd) (by rw [c.names]; exact h1) v1 v2) fun v σ H Q ⟨ρ, d, env, M, r, e, S, p⟩ => ?_
  unfold asg at p
  refine p ρ _ H (Fr.refl _ _) (e.set i r) S (by simp) fun j hj => ?_
  have : i ≠ j := fun z => hj (by unfold G.slots; simp [z])
  rw [List.getElem?_set_ne this]
theorem gs_nil : PGs X [] ((tGs T.Γ Φ X.K fa) .nil) := PGs.imp pgs_nil fun v σ H Q ⟨ρ, ds, env, M, r, e, S, p⟩ => by
  cases r with
  | nil => exact ⟨rfl, p ρ σ H (Fr.refl _ _) e S rfl fun _ _ => rfl⟩
  | cons _ _ => unfold asgs at p; exact p.elim
theorem gs_cons {g : G} {gs : Gs} {e : Expr} {es : List Expr} (h1 : PG X e ((tG T.Γ Φ X.K fa) g)) (h2 : PGs X es ((tGs T.Γ Φ X.K fa) gs)) (hx : isArg e = true) : PGs X (e :: es) ((tGs T.Γ Φ X.K fa) (.cons g gs)) :=
  PGs.imp (pgs_cons h1 h2 (by rw [asg_one hx]; rfl)) fun v σ H Q ⟨ρ, ds, env, M, r, e, S, p⟩ => by
    cases r with
    | nil => unfold asgs at p; exact p.elim
    | @cons d x ds vs h r =>
      unfold asgs at p
      refine ⟨_, _, rfl, ρ, d, env, M, h, e, S, ?_⟩
      cases hr : asg T.Γ Φ g d env M with
      | ok env1 M1 =>
        rw [hr, R.bind_ok] at p
        intro ρ1 σ1 H1 f1 e1 S1 l1 k1
        refine ⟨ρ1, ds, env1, M1, r.mono f1.g f1.k, e1, S1, ?_⟩
        cases hr2 : asgs T.Γ Φ gs ds env1 M1 with
        | ok env2 M2 =>
          rw [hr2] at p
          intro ρ2 σ2 H2 f2 e2 S2 l2 k2
          refine p ρ2 σ2 H2 (f1.trans f2) e2 S2 (l2.trans l1) fun j hj => ?_
          unfold Gs.slots at hj
          rw [List.mem_append, not_or] at hj
          rw [k2 j hj.2, k1 j hj.1]
        | exc c fs M2 => rw [hr2] at p; exact p
        | bad => rw [hr2] at p; exact p
      | exc c fs M1 => rw [hr] at p; exact p
      | bad => rw [hr] at p; exact p
theorem asgs_len : ∀ {gs : Gs} {ds : List D} {env env' : Env} {M M' : Mh} {Γ : List D}, asgs Γ Φ gs ds env M = .ok env' M' → ds.length = gs.len
  | .nil, [], _, _, _, _, _, _ => rfl
  | .nil, _ :: _, _, _, _, _, _, h => by unfold asgs at h; cases h
  | .cons _ _, [], _, _, _, _, _, h => by unfold asgs at h; cases h
  | .cons g gs, d :: ds, env, env', M, M', Γ, h => by
    unfold asgs at h
    cases hr : asg Γ Φ g d env M with
    | ok env1 M1 =>
      rw [hr, R.bind_ok] at h
      show ds.length + 1 = gs.len + 1
      rw [asgs_len h]
    | exc c fs M1 => rw [hr] at h; cases h
    | bad => rw [hr] at h; cases h
theorem fi_none {es : List Expr} {env : PySem.Env} (h : es.all isArg = true) : (assignEach es env).findIdx? (·.1) = none := by
  induction es with
  | nil => rfl
  | cons e es ih =>
    rw [List.all_cons, Bool.and_eq_true] at h
    rw [asg_one h.1, List.findIdx?_cons]
    simp [ih h.2]
theorem asg_len {es : List Expr} {env : PySem.Env} : (assignEach es env).length = es.length := by
  induction es with
  | nil => rfl
  | cons e es ih => cases e <;> (show (assignEach es env).length + 1 = _; rw [ih]; rfl)
/-- either of two -/
theorem pg_two {e : Expr} {t t' : TG} (h1 : PG X e t) (h2 : PG X e t') : PG X e (fun v σ H Q => t v σ H Q ∨ t' v σ H Q) :=
  ⟨fun pins s σ H v u Q I r hw => hw.elim (h1.run pins s σ H v u Q I r) (h2.run pins s σ H v u Q I r)⟩
theorem g_tp (c : Ctx T Φ fa cl N k os sc X W) {gs : Gs} {es : List Expr} {j : Nat} (h : PGs X es ((tGs T.Γ Φ X.K fa) gs)) (ha : es.all isArg = true) (hl : gs.len = es.length) : PG X (.Tuple es j pos) ((tG T.Γ Φ X.K fa) (.tp gs)) :=
  PG.imp (pg_two (pg_tup c.calm h (by rw [asg_len, ← hl]) (fi_none ha)) (pg_unl c.calm h (by rw [asg_len, ← hl]) (fi_none ha))) fun v σ H Q ⟨ρ, d, env, M, r, e, S, p⟩ => by
    unfold asg at p
    split at p
    · rename_i b ds hd
      obtain ⟨a, xs, rfl, r', q1, q2⟩ := seqOf_rel S r hd
      have hlen : xs.length = gs.len := by
        cases hr : asgs T.Γ Φ gs ds env M with
        | ok env1 M1 => rw [← r'.length]; exact asgs_len hr
        | exc c fs M1 => rw [hr] at p; exact p.elim
        | bad => rw [hr] at p; exact p.elim
      cases b with
      | true => exact .inl ⟨a, xs, rfl, (q1 rfl).seq, hlen, ρ, ds, env, M, r', e, S, p⟩
      | false => exact .inr ⟨a, xs, rfl, q2 rfl, hlen, ρ, ds, env, M, r', e, S, p⟩
    · exact p.elim
theorem g_sb (ho : PE X ea ((tE T.Γ Φ X.K fa cl W) a)) (hi : PE X eb ((tE T.Γ Φ X.K fa cl W) b)) (hx : isIx eb = true) : PG X (.Subscript ea eb pos) ((tG T.Γ Φ X.K fa) (.sb a b)) := by
  refine PG.imp (pg_sub ho hi set_list ?_) fun v σ H Q ⟨ρ, d, env, M, r, e, S, p⟩ => ⟨ρ, env, M, e, S, ?_⟩
  · intro v
    cases eb <;> first | rfl | cases hx
  · unfold asg at p
    cases hr : evE T.Γ Φ a env M with
    | ok x M1 =>
      rw [hr, R.bind_ok] at p
      intro ρ1 xv H1 f1 r1 S1
      refine ⟨ρ1, env, M1, e.mono f1, S1, ?_⟩
      cases hr2 : evE T.Γ Φ b env M1 with
      | ok y M2 =>
        rw [hr2, R.bind_ok] at p
        intro ρ2 yv H2 f2 r2 S2
        have f12 := f1.trans f2
        cases hp : putD x y d M2 with
        | none => rw [hp] at p; exact p.elim
        | some M3 =>
          rw [hp] at p
          exact putD_rel S2 (r1.mono f2.g f2.k) r2 (r.mono f12.g f12.k) hp fun H3 f3 S3 => p ρ2 σ H3 (f12.trans f3) (e.mono (f12.trans f3)) S3 rfl fun _ _ => rfl
      | exc c fs M2 => rw [hr2] at p; exact p.elim
      | bad => rw [hr2] at p; exact p.elim
    | exc c fs M1 => rw [hr] at p; exact p.elim
    | bad => rw [hr] at p; exact p.elim
end
end RF

set_option Elab.async false
set_option linter.all false
set_option maxRecDepth 100000
set_option maxHeartbeats 4000000
namespace RF
open PySem PySem.Spec PyProof.Rows L2
section
variable {T : Tab} {Φ : Nat → List D → Mh → R D} {fa : Fa} {cl : Nat → Value} {N : List Str} {k : Nat} {os sc : Scope} {X : Cx} {W : WX}

/-! ### comprehensions -/
abbrev WF : WX := fun _ _ _ _ => False
/-- what is asked of a block's parts -/
structure BlkC (T : Tab) (Φ : Nat → List D → Mh → R D) (fa : Fa) (cl : Nat → Value) (X : Cx) (scope : Scope) (g : G) (tg : Expr) (elt : E) (elt' : Expr) (cs : Es) (ifs : List Expr) : Prop where
  g : ∀ (s : Shared) (H : Hp) (C : Addr) (l : List (Str × Addr)) (fp : List Addr), PG (X.blk s H scope (compEnvC scope l C X.env) fp) tg (tG T.Γ Φ X.K fa g)
  t : ∀ (s : Shared) (H : Hp) (C : Addr) (l : List (Str × Addr)) (fp : List Addr), PTs (X.blk s H scope (compEnvC scope l C X.env) fp) ifs (tCs T.Γ Φ X.K fa cl WF cs)
  e : ∀ (s : Shared) (H : Hp) (C : Addr) (l : List (Str × Addr)) (fp : List Addr), PE (X.blk s H scope (compEnvC scope l C X.env) fp) elt' (tE T.Γ Φ X.K fa cl WF elt)
/-- the run of one turn -/
def turnC (Γ : List D) (Φ : Nat → List D → Mh → R D) (elt : E) (g : G) (cs : Es) (own : List Nat) (env : Env) : D → Mh → R (Option D) := fun x M =>
  (asg Γ Φ g x (wipeE env own) M).bind fun env2 M2 => (evC Γ Φ cs env2 M2).bind fun b M3 => if b then (evE Γ Φ elt env2 M3).only fun y M4 => .ok (some y) M4 else .ok none M3
theorem evE_cmpr {Γ : List D} {mu : Bool} {elt : E} {g : G} {it : I} {cs : Es} {own : List Nat} {env : Env} {M : Mh} : evE Γ Φ (.comp mu elt g it cs own) env M = (evI Γ Φ it env M).bind fun p M1 =>
      (compL (turnC Γ Φ elt g cs own env) p.1 p.2 p.1 M1 []).only fun ds M2 => if mu then .ok (.ref M2.length) (M2 ++ [.lst ds]) else .ok (.lst ds) M2 := by
  rw [evE.eq_def]; rfl
/-- the new list as the term's value: frozen, or tracked -/
theorem lc_rel {mu : Bool} {elt : E} {g : G} {it : I} {cs : Es} {own : List Nat} {σ : L2.St} {H : Hp} {Q Q' : VK} (hg : g.slots.all (own.contains ·) = true) (hq1 : mu = true → ∀ v H', Q v H' → Q' v H') (hq2 : mu = false → ∀ v H', frzQ Q v H' → Q' v H')
    (h : tE T.Γ Φ X.K fa cl W (.comp mu elt g it cs own) σ H Q) :
    tLc (tI T.Γ Φ X.K fa cl W it) (tG T.Γ Φ X.K fa g) (tCs T.Γ Φ X.K fa cl WF cs) (tE T.Γ Φ X.K fa cl WF elt) own σ H Q' := by
  obtain ⟨ρ, env, M, e, S, p⟩ := h
  rw [evE_cmpr] at p
  refine ⟨ρ, env, M, e, S, Post.bind (rl := rlI X.K fa) p fun it M1 ρ1 J H1 _ f1 w S1 p1 => ?_⟩
  intro Dl hD
  cases hr : compL (turnC T.Γ Φ elt g cs own env) it.1 it.2 it.1 M1 [] with
  | exc c fs M2 => rw [hr] at p1; exact p1.elim
  | bad => rw [hr] at p1; exact p1.elim
  | ok out M2 =>
    rw [hr, R.only_ok] at p1
    have e1 := e.mono f1
    refine comp_rel (Q := Q') w S1 hD hr (fun d x M' M'' ρ2 H2 o K1 K0 f2 rd S2 hf kk => ?_) fun ρ' H' xs f' S' nD hD' r' => ?_
    · -- one turn
      have ew : EnvR X.K fa ρ2 H2 (L2.wipe σ own) (wipeE env own) := (e1.mono f2).wipe own
      unfold turnC at hf
      refine ⟨ρ2, d, wipeE env own, M', rd, ew, S2, ?_⟩
      cases ha : asg T.Γ Φ g d (wipeE env own) M' with
      | exc c fs M3 => rw [ha] at hf; cases hf
      | bad => rw [ha] at hf; cases hf
      | ok env2 M3 =>
        rw [ha, R.bind_ok] at hf
        intro ρ3 σ3 H3 f3 e3 S3 l3 k3
        refine ⟨?_, ρ3, env2, M3, e3, S3, ?_⟩
        · rw [wipe_eq (σ := L2.wipe σ own) l3 fun j hj => k3 j fun hm => hj ?_]
          · exact wipe_eq (wipe_length _ _) fun j hj => wipe_out hj
          · have q := List.all_eq_true.mp hg j hm
            simpa using q
        · cases hc : evC T.Γ Φ cs env2 M3 with
          | exc c fs M4 => rw [hc] at hf; cases hf
          | bad => rw [hc] at hf; cases hf
          | ok b M4 =>
            rw [hc, R.bind_ok] at hf
            intro ρ4 b' H4 f4 eb S4
            cases eb
            cases b with
            | false =>
              simp only [Bool.false_eq_true, if_false] at hf ⊢
              cases hf
              exact kk ρ4 H4 (f3.trans f4) S4
            | true =>
              simp only [if_true] at hf ⊢
              refine ⟨ρ4, env2, M4, e3.mono f4, S4, ?_⟩
              cases he : evE T.Γ Φ elt env2 M4 with
              | exc c fs M5 => rw [he] at hf; cases hf
              | bad => rw [he] at hf; cases hf
              | ok y M5 =>
                rw [he] at hf
                cases hf
                intro ρ5 v H5 f5 r5 S5
                exact kk ρ5 H5 ((f3.trans f4).trans f5) S5 v r5
    · -- behind the last
      cases mu with
      | true =>
        simp only [if_true] at p1
        refine hq1 rfl _ _ ?_
        have fr : Fr ρ1 H1 (ρ' ++ [Dl]) H' := ⟨f'.g.trans (List.prefix_append _ _), f'.k, fun b u hb hn => by
          obtain ⟨q1, q2⟩ := f'.p b u hb hn
          refine ⟨q1, fun hm => ?_⟩
          rcases List.mem_append.mp hm with hm | hm
          · exact q2 hm
          · have : b = Dl := by simpa using hm
            rw [this, hD] at hb; cases hb⟩
        refine p1.ok fr (.ref ?_) (S'.adopt nD hD' r')
        rw [List.getElem?_append_right (by rw [S'.len]; exact Nat.le_refl _), S'.len]
        simp
      | false =>
        simp only [Bool.false_eq_true, if_false] at p1
        refine hq2 rfl _ _ ⟨Dl, xs, rfl, hD', fun o => ?_⟩
        have kq : Kp H' (upd H' Dl (.frz o (.lst xs))) := Kp.write hD' (fun z => z)
        have fr : Fr ρ1 H1 ρ' (upd H' Dl (.frz o (.lst xs))) := ⟨f'.g, f'.k.trans kq, fun b u hb hn => by
          have ne : b ≠ Dl := fun z => by rw [z, hD] at hb; cases hb
          rw [upd_ne ne]
          exact f'.p b u hb hn⟩
        exact p1.ok fr (.lst (.inl ⟨o, upd_same⟩) (r'.mono (List.prefix_refl _) kq)) (S'.other nD hD' (fun z => z))
theorem ownN_snd {N : List Str} {own : List Nat} : (ownN N own).map (·.2) = own := by
  unfold ownN
  rw [List.map_map]
  exact List.map_id own
theorem s_comp (c : Ctx T Φ fa cl N k os sc X W) {mu : Bool} {elt : E} {g : G} {it : I} {cs : Es} {own : List Nat} {tg iter elt' : Expr} {ifs : List Expr} {scope : Scope} {pos : Pos} (hi : PI X tg iter (tI T.Γ Φ X.K fa cl W it)) (hb : blkC N sc scope (ownN N own) = true)
    (B : BlkC T Φ fa cl X scope g tg elt elt' cs ifs) (hs : isIt iter = true) (hg : g.slots.all (own.contains ·) = true) : PE X (.ListComp elt' [⟨tg, iter, ifs, 0⟩] scope pos) (tE T.Γ Φ X.K fa cl W (.comp mu elt g it cs own)) := by
  have bk : BlkOk X.N X.env.scope scope (ownN N own) := by rw [c.names, c.scope]; exact blkOk_by hb
  have base := pe_lc (pos := pos) c.calm (by rw [c.names]; exact c.nd) hi bk B.g B.t B.e (fold_it hs)
  rw [ownN_snd] at base
  cases mu with
  | true => exact PE.imp base fun σ H Q q => lc_rel hg (fun _ _ _ q => q) (fun z => by cases z) q
  | false => exact PE.imp (pe_frz base) fun σ H Q q => lc_rel hg (fun z => by cases z) (fun _ _ _ q => q) q
end

/-! ### all terms -/
section
variable {T : Tab} {Φ : Nat → List D → Mh → R D} {fa : Fa} {cl : Nat → Value} {N : List Str} {k : Nat}
/-- an expression: its value; its test; as a whole test -/
structure Ok (T : Tab) (Φ : Nat → List D → Mh → R D) (fa : Fa) (cl : Nat → Value) (X : Cx) (W : WX) (et : E) (ex : Expr) : Prop where
  e : PE X ex (tE T.Γ Φ X.K fa cl W et)
  t : PT X ex (tT T.Γ Φ X.K fa cl W et)
theorem Ok.gen {X : Cx} {W : WX} {e : E} {ex : Expr} (h : PE X ex (tE T.Γ Φ X.K fa cl W e)) (ht : isTr ex = true) : Ok T Φ fa cl X W e ex := ⟨h, gen_pt h ht⟩
theorem pw_andN {X : Cx} {W : WX} {a b : E} {ea eb : Expr} {pos : Pos} (ha : PT X ea (tT T.Γ Φ X.K fa cl W a)) (hb : PT X eb (tT T.Γ Φ X.K fa cl W b)) : PT X (.BoolOp .And [ea, eb] pos) (tT T.Γ Φ X.K fa cl W (.and a b)) :=
  (PW.imp (pw_and ha (pw_and1 hb)) fun σ H Q q => r_andT q).pt
/-- the test of a written and, or is one whatever the whole is -/
theorem pw_of {X : Cx} {op : PySem.BoolOp} {vs : List Expr} {pos : Pos} {t : TT} (h : PT X (.BoolOp op vs pos) t) : PW X (.BoolOp op vs pos) t := ⟨fun wh pins s σ H Q I q => h.run pins s σ H Q I q⟩
theorem all_arg {os sc : Scope} : ∀ {es : Es} {l : List Expr}, chkEs T N os sc es l = true → l.all isArg = true ∧ es.len = l.length
  | .nil, l, h => by
    unfold chkEs at h
    split at h
    · exact ⟨rfl, rfl⟩
    · cases h
  | .cons e es, l, h => by
    unfold chkEs at h
    split at h
    · simp only [Bool.and_eq_true] at h
      obtain ⟨⟨h1, h2⟩, h3⟩ := h
      obtain ⟨q1, q2⟩ := all_arg h3
      exact ⟨by rw [List.all_cons, h1, q1]; rfl, by show es.len + 1 = _; rw [q2]; rfl⟩
    · cases h
theorem all_argG {os sc : Scope} : ∀ {gs : Gs} {l : List Expr}, chkGs T N os sc gs l = true → l.all isArg = true ∧ gs.len = l.length
  | .nil, l, h => by
    unfold chkGs at h
    split at h
    · exact ⟨rfl, rfl⟩
    · cases h
  | .cons e es, l, h => by
    unfold chkGs at h
    split at h
    · simp only [Bool.and_eq_true] at h
      obtain ⟨⟨h1, h2⟩, h3⟩ := h
      obtain ⟨q1, q2⟩ := all_argG h3
      exact ⟨by rw [List.all_cons, h1, q1]; rfl, by show es.len + 1 = _; rw [q2]; rfl⟩
    · cases h
mutual
theorem okE : ∀ (e : E) (os sc : Scope) (X : Cx) (W : WX) (ex : Expr), Ctx T Φ fa cl N k os sc X W → chkE T N os sc e ex = true → Ok T Φ fa cl X W e ex
  | .var i, os, sc, X, W, ex, c, h => by
    unfold chkE at h
    split at h
    · simp only [Bool.and_eq_true, beq_iff_eq] at h
      exact .gen (s_var c h.1 h.2) rfl
    · cases h
  | .con d, os, sc, X, W, ex, c, h => by
    unfold chkE at h
    refine .gen (s_con c h) ?_
    unfold chkC at h
    split at h
    · rfl
    · rfl
    · cases h
  | .glob g, os, sc, X, W, ex, c, h => by
    unfold chkE at h
    split at h
    · simp only [Bool.and_eq_true, beq_iff_eq] at h
      exact .gen (s_glob c h.1 h.2) rfl
    · cases h
  | .tyc n, os, sc, X, W, ex, c, h => by
    unfold chkE at h
    split at h
    · simp only [Bool.and_eq_true, beq_iff_eq] at h
      obtain ⟨⟨⟨h1, h2⟩, h3⟩, h4⟩ := h
      subst h1
      exact .gen (s_tyc c h2 h3 h4) rfl
    · cases h
  | .bin op a b, os, sc, X, W, ex, c, h => by
    unfold chkE at h
    split at h
    · simp only [Bool.and_eq_true, beq_iff_eq] at h
      obtain ⟨⟨h1, h2⟩, h3⟩ := h
      subst h1
      exact .gen (s_bin (okE a os sc X W _ c h2).e (okE b os sc X W _ c h3).e) rfl
    · cases h
  | .neg a, os, sc, X, W, ex, c, h => by
    unfold chkE at h
    split at h
    · exact .gen (s_neg (okE a os sc X W _ c h).e) rfl
    · cases h
  | .not a, os, sc, X, W, ex, c, h => by
    unfold chkE at h
    split at h
    · exact ⟨s_not (okE a os sc X W _ c h).e, s_notT (okE a os sc X W _ c h).t⟩
    · cases h
  | .and a b, os, sc, X, W, ex, c, h => by
    unfold chkE at h
    split at h
    · rename_i x y rest pos
      rw [Bool.and_eq_true] at h
      have ha := okE a os sc X W _ c h.1
      cases rest with
      | nil =>
        have hb := okE b os sc X W _ c h.2
        exact ⟨s_and ha.e (pe_one hb.e), (PW.imp (pw_and ha.t (pw_and1 hb.t)) fun σ H Q q => r_andT q).pt⟩
      | cons z rest =>
        have hb := okE b os sc X W _ c h.2
        exact ⟨s_and ha.e hb.e, (PW.imp (pw_and ha.t (pw_of hb.t)) fun σ H Q q => r_andT q).pt⟩
    · cases h
  | .or a b, os, sc, X, W, ex, c, h => by
    unfold chkE at h
    split at h
    · rename_i x y rest pos
      rw [Bool.and_eq_true] at h
      have ha := okE a os sc X W _ c h.1
      cases rest with
      | nil =>
        have hb := okE b os sc X W _ c h.2
        exact ⟨s_or ha.e (pe_one hb.e), (PW.imp (pw_or ha.t (pw_or1 hb.t)) fun σ H Q q => r_orT q).pt⟩
      | cons z rest =>
        have hb := okE b os sc X W _ c h.2
        exact ⟨s_or ha.e hb.e, (PW.imp (pw_or ha.t (pw_of hb.t)) fun σ H Q q => r_orT q).pt⟩
    · cases h
  | .ite c' a b, os, sc, X, W, ex, c, h => by
    unfold chkE at h
    split at h
    · simp only [Bool.and_eq_true] at h
      obtain ⟨⟨h1, h2⟩, h3⟩ := h
      have hc := okE c' os sc X W _ c h1
      have ha := okE a os sc X W _ c h2
      have hb := okE b os sc X W _ c h3
      exact ⟨s_ite hc.t ha.e hb.e, s_iteT hc.t ha.t hb.t⟩
    · cases h
  | .cmp op a b, os, sc, X, W, ex, c, h => by
    unfold chkE at h
    split at h
    · simp only [Bool.and_eq_true, beq_iff_eq] at h
      obtain ⟨⟨⟨h1, h2⟩, h3⟩, h4⟩ := h
      subst h1
      have ha := okE a os sc X W _ c h3
      have hb := okE b os sc X W _ c h4
      exact ⟨s_cmp c.room ha.e hb.e h2, s_cmpT c.room ha.e hb.e h2⟩
    · cases h
  | .chn op1 op2 a b d, os, sc, X, W, ex, c, h => by
    unfold chkE at h
    split at h
    · simp only [Bool.and_eq_true, beq_iff_eq] at h
      obtain ⟨⟨⟨⟨⟨⟨h1, h2⟩, h3⟩, h4⟩, h5⟩, h6⟩, h7⟩ := h
      subst h1 h2
      have ha := okE a os sc X W _ c h5
      have hb := okE b os sc X W _ c h6
      have hd := okE d os sc X W _ c h7
      exact ⟨s_chn c.room ha.e hb.e hd.e h4, s_chnT c.room ha.e hb.e hd.e h4⟩
    · cases h
  | .tup es, os, sc, X, W, ex, c, h => by
    unfold chkE at h
    split at h
    · exact .gen (s_tup (okEs es os sc X W _ c h)) rfl
    · cases h
  | .lst mu es, os, sc, X, W, ex, c, h => by
    unfold chkE at h
    split at h
    · exact .gen (s_lst (okEs es os sc X W _ c h)) rfl
    · cases h
  | .call f es, os, sc, X, W, ex, c, h => by
    unfold chkE at h
    split at h
    · rename_i x p ees pos
      simp only [Bool.and_eq_true] at h
      obtain ⟨⟨h1, h2⟩, h3⟩ := h
      split at h1
      · rename_i q hq
        simp only [Bool.and_eq_true, beq_iff_eq] at h1
        obtain ⟨x', n⟩ := q
        simp only at h1
        obtain ⟨rfl, hn⟩ := h1
        obtain ⟨q1, q2⟩ := all_arg h3
        cases ees with
        | nil =>
          cases es with
          | nil => exact .gen (s_call0 c hq hn h2) rfl
          | cons e es => cases q2
        | cons e ees => exact .gen (s_call c hq hn h2 (okEs es os sc X W _ c h3) q1) rfl
      · cases h1
    · cases h
  | .bi b es, os, sc, X, W, ex, c, h => by
    unfold chkE at h
    split at h
    · simp only [Bool.and_eq_true, beq_iff_eq] at h
      obtain ⟨⟨⟨h1, h2⟩, h3⟩, h4⟩ := h
      subst h1
      exact .gen (s_bi c b h2 h3 (okEs es os sc X W _ c h4) (all_arg h4).1) rfl
    · cases h
  | .mt m o es, os, sc, X, W, ex, c, h => by
    unfold chkE at h
    split at h
    · simp only [Bool.and_eq_true, beq_iff_eq] at h
      obtain ⟨⟨⟨⟨h1, h3⟩, h4⟩, h5⟩, h6⟩ := h
      subst h1
      have ha := (all_arg h6).1
      rw [List.all_cons, Bool.and_eq_true] at ha
      exact .gen (s_mt (okE o os sc X W _ c h5).e (okEs es os sc X W _ c h6) ha.1 h3 (beq_iff_eq.mpr h4)) rfl
    · simp only [Bool.and_eq_true, beq_iff_eq] at h
      obtain ⟨⟨⟨⟨h1, h3⟩, h4⟩, h5⟩, h6⟩ := h
      subst h1
      exact .gen (s_mt0 (okE o os sc X W _ c h5).e (by cases es with
        | nil => rfl
        | cons _ _ => unfold chkEs at h6; cases h6) h3 (beq_iff_eq.mpr h4)) rfl
    · cases h
  | .sub a i, os, sc, X, W, ex, c, h => by
    unfold chkE at h
    split at h
    · simp only [Bool.and_eq_true] at h
      obtain ⟨⟨h1, h2⟩, h3⟩ := h
      exact .gen (s_sub (okE a os sc X W _ c h2).e (okE i os sc X W _ c h3).e h1) rfl
    · cases h
  | .slc a lo hi, os, sc, X, W, ex, c, h => by
    unfold chkE at h
    split at h
    · rename_i a' lo' hi' p2 pos
      simp only [Bool.and_eq_true] at h
      obtain ⟨⟨h1, h2⟩, h3⟩ := h
      refine .gen (s_slc (okE a os sc X W _ c h1).e ?_ ?_) rfl
      · cases lo' with
        | some x => exact p_some (okE lo os sc X W _ c h2).e
        | none => exact p_none h2
      · cases hi' with
        | some x => exact p_some (okE hi os sc X W _ c h3).e
        | none => exact p_none h3
    · cases h
  | .rev a, os, sc, X, W, ex, c, h => by
    unfold chkE at h
    split at h
    · exact .gen (s_rev (okE a os sc X W _ c h).e) rfl
    · cases h
  | .frz a, os, sc, X, W, ex, c, h => by
    unfold chkE at h
    rw [Bool.and_eq_true] at h
    exact .gen (s_frz (okE a os sc X W _ c h.2).e) h.1
  | .comp mu elt g it cs own, os, sc, X, W, ex, c, h => by
    unfold chkE at h
    split at h
    · rename_i elt' tg iter ifs scope pos
      simp only [Bool.and_eq_true] at h
      obtain ⟨⟨⟨⟨⟨⟨h1, h2⟩, h3⟩, h4⟩, h5⟩, h6⟩, h7⟩ := h
      refine .gen (s_comp c (okI it os sc X W tg iter c h2) h3 ⟨fun s H C l fp => ?_, fun s H C l fp => ?_, fun s H C l fp => ?_⟩ h1 h4) rfl
      · exact okG g scope (relS scope sc) _ _ tg (c.blk s H C l fp scope) h5
      · cases ifs with
        | nil =>
          have q := (all_arg h7).2
          cases cs with
          | nil => exact c_nil
          | cons _ _ => cases q
        | cons c1 r =>
          cases r with
          | cons _ _ => cases h7
          | nil =>
            have q := (all_arg h7).2
            cases cs with
            | nil => cases q
            | cons e es =>
              cases es with
              | cons _ _ => cases q
              | nil =>
                unfold chkEs at h7
                simp only [Bool.and_eq_true] at h7
                exact c_one (okE e scope (relS scope sc) _ _ c1 (c.blk s H C l fp scope) h7.1.2).t
      · exact (okE elt scope (relS scope sc) _ _ elt' (c.blk s H C l fp scope) h6).e
    · cases h
  | .tupI it, os, sc, X, W, ex, c, h => by
    unfold chkE at h
    split at h
    · simp only [Bool.and_eq_true, beq_iff_eq] at h
      obtain ⟨⟨⟨⟨h1, h2⟩, h3⟩, h4⟩, h5⟩ := h
      subst h1
      have hr := okR it os sc X W _ _ c h4 h5
      exact .gen (s_tupI c hr.1 h2 h3 hr.2) rfl
    · cases h
  | .lstI mu it, os, sc, X, W, ex, c, h => by
    unfold chkE at h
    split at h
    · simp only [Bool.and_eq_true, beq_iff_eq] at h
      obtain ⟨⟨⟨⟨h1, h2⟩, h3⟩, h4⟩, h5⟩ := h
      subst h1
      rcases (Bool.or_eq_true _ _).mp h4 with h4 | h4
      · have hr := okR it os sc X W _ _ c h4 h5
        exact .gen (s_lstI c hr.1 h2 h3 hr.2) rfl
      · obtain ⟨a, b, ea, eb, p2, pos2, rfl, rfl, g1, g2, g3, g4, g5, g6⟩ := okZ it os sc X W _ _ c h4 h5
        exact .gen (s_lstZ c h2 h3 g1 g2 g3 g4 g5 g6) rfl
    · cases h
  | .nvr, os, sc, X, W, ex, c, h => ⟨s_nvr, s_nvrT⟩
  | .un u a, os, sc, X, W, ex, c, h => by
    unfold chkE at h
    split at h
    · split at h
      · simp only [Bool.and_eq_true, beq_iff_eq] at h
        obtain ⟨⟨⟨⟨⟨⟨⟨h1, h2⟩, h3⟩, h4⟩, h5⟩, h6⟩, h7⟩, h8⟩ := h
        subst h1
        subst h4
        exact .gen (s_lenset c h2 h3 h5 h6 (okE a os sc X W _ c h8).e h7) rfl
      · cases h
    · split at h
      · rw [Bool.and_eq_true, Bool.and_eq_true, Bool.and_eq_true, Bool.and_eq_true, Bool.not_eq_true'] at h
        obtain ⟨⟨⟨⟨h1, h2⟩, h3⟩, h4⟩, h5⟩ := h
        exact .gen (s_tab c h1 h3 h4 (okE a os sc X W _ c h5).e h2) rfl
      · cases h
    · split at h
      · simp only [Bool.and_eq_true, beq_iff_eq] at h
        obtain ⟨⟨⟨⟨h1, h2⟩, h3⟩, h4⟩, h5⟩ := h
        subst h1
        exact .gen (s_listM c h2 h3 (okE a os sc X W _ c h5).e h4) rfl
      · cases h
  | .lmul mu es n, os, sc, X, W, ex, c, h => by
    unfold chkE at h
    split at h
    · rw [Bool.and_eq_true] at h
      exact .gen (s_lmul (okEs es os sc X W _ c h.1) (okE n os sc X W _ c h.2).e) rfl
    · cases h
theorem okEs : ∀ (es : Es) (os sc : Scope) (X : Cx) (W : WX) (l : List Expr), Ctx T Φ fa cl N k os sc X W → chkEs T N os sc es l = true → PA X l (tA T.Γ Φ X.K fa cl W es)
  | .nil, os, sc, X, W, l, c, h => by
    unfold chkEs at h
    split at h
    · exact s_nil
    · cases h
  | .cons e es, os, sc, X, W, l, c, h => by
    unfold chkEs at h
    split at h
    · simp only [Bool.and_eq_true] at h
      obtain ⟨⟨h1, h2⟩, h3⟩ := h
      exact s_cons (okE e os sc X W _ c h2).e (okEs es os sc X W _ c h3) h1
    · cases h
theorem okI : ∀ (it : I) (os sc : Scope) (X : Cx) (W : WX) (tg ex : Expr), Ctx T Φ fa cl N k os sc X W → chkI T N os sc tg it ex = true → PI X tg ex (tI T.Γ Φ X.K fa cl W it)
  | .ex e, os, sc, X, W, tg, ex, c, h => by
    unfold chkI at h
    exact i_ex (okE e os sc X W _ c h).e
  | .rng1 a, os, sc, X, W, tg, ex, c, h => by
    unfold chkI at h
    split at h
    · simp only [Bool.and_eq_true, beq_iff_eq] at h
      obtain ⟨⟨⟨⟨h1, h2⟩, h3⟩, h4⟩, h5⟩ := h
      subst h1
      exact i_rng1 c h2 h3 (okE a os sc X W _ c h5).e h4
    · cases h
  | .rng2 a b, os, sc, X, W, tg, ex, c, h => by
    unfold chkI at h
    split at h
    · simp only [Bool.and_eq_true, beq_iff_eq] at h
      obtain ⟨⟨⟨⟨⟨⟨h1, h2⟩, h3⟩, h4⟩, h5⟩, h6⟩, h7⟩ := h
      subst h1
      exact i_rng2 c h2 h3 (okE a os sc X W _ c h6).e h4 (okE b os sc X W _ c h7).e h5
    · cases h
  | .zip a b, os, sc, X, W, tg, ex, c, h => by
    unfold chkI at h
    split at h
    · simp only [Bool.and_eq_true, beq_iff_eq] at h
      obtain ⟨⟨⟨⟨⟨⟨h1, h2⟩, h3⟩, h4⟩, h5⟩, h6⟩, h7⟩ := h
      subst h1
      exact i_zip c h2 h3 (okE a os sc X W _ c h6).e h4 (okE b os sc X W _ c h7).e h5
    · cases h
  | .enm a, os, sc, X, W, tg, ex, c, h => by
    unfold chkI at h
    split at h
    · simp only [Bool.and_eq_true, beq_iff_eq] at h
      obtain ⟨⟨⟨⟨⟨h0, h1⟩, h2⟩, h3⟩, h4⟩, h5⟩ := h
      subst h1
      split at h0
      · exact i_enm c h2 h3 (okE a os sc X W _ c h5).e h4
      · cases h0
    · cases h
  | .enmF a b, os, sc, X, W, tg, ex, c, h => by
    unfold chkI at h
    split at h
    · simp only [Bool.and_eq_true, beq_iff_eq] at h
      obtain ⟨⟨⟨⟨⟨⟨⟨h0, h1⟩, h2⟩, h3⟩, h4⟩, h5⟩, h6⟩, h7⟩ := h
      subst h1
      split at h0
      · exact i_enmF c h2 h3 (okE a os sc X W _ c h6).e h4 (okE b os sc X W _ c h7).e h5
      · cases h0
    · cases h
  | .rng3 a b d, os, sc, X, W, tg, ex, c, h => by
    unfold chkI at h
    split at h
    · simp only [Bool.and_eq_true, beq_iff_eq] at h
      obtain ⟨⟨⟨⟨⟨⟨⟨⟨h1, h2⟩, h3⟩, h4⟩, h5⟩, h6⟩, h7⟩, h8⟩, h9⟩ := h
      subst h1
      exact i_rng3 c h2 h3 (okE a os sc X W _ c h7).e h4 (okE b os sc X W _ c h8).e h5 (okE d os sc X W _ c h9).e h6
    · cases h
  | .zipR a b, os, sc, X, W, tg, ex, c, h => by
    unfold chkI at h
    split at h
    · simp only [Bool.and_eq_true, beq_iff_eq] at h
      obtain ⟨⟨⟨⟨⟨⟨h1, h2⟩, h3⟩, h4⟩, h5⟩, h6⟩, h7⟩ := h
      subst h1
      obtain ⟨a1, a2⟩ := okRF a os sc X W _ _ c h4 h6
      obtain ⟨b1, b2⟩ := okRF b os sc X W _ _ c h5 h7
      exact i_zipR c h2 h3 a1 b1 a2 b2
    · cases h
theorem okR : ∀ (it : I) (os sc : Scope) (X : Cx) (W : WX) (tg ex : Expr), Ctx T Φ fa cl N k os sc X W → isRg it = true → chkI T N os sc tg it ex = true → PRg X ex (tRgD T.Γ Φ X.K fa cl W it) ∧ isArg ex = true
  | .ex e, os, sc, X, W, tg, ex, c, hr, h => by cases hr
  | .rng1 a, os, sc, X, W, tg, ex, c, hr, h => by
    unfold chkI at h
    split at h
    · simp only [Bool.and_eq_true, beq_iff_eq] at h
      obtain ⟨⟨⟨⟨h1, h2⟩, h3⟩, h4⟩, h5⟩ := h
      subst h1
      exact ⟨rg_1 c h2 h3 (okE a os sc X W _ c h5).e h4, rfl⟩
    · cases h
  | .rng2 a b, os, sc, X, W, tg, ex, c, hr, h => by
    unfold chkI at h
    split at h
    · simp only [Bool.and_eq_true, beq_iff_eq] at h
      obtain ⟨⟨⟨⟨⟨⟨h1, h2⟩, h3⟩, h4⟩, h5⟩, h6⟩, h7⟩ := h
      subst h1
      exact ⟨rg_2 c h2 h3 (okE a os sc X W _ c h6).e h4 (okE b os sc X W _ c h7).e h5, rfl⟩
    · cases h
  | .zip a b, os, sc, X, W, tg, ex, c, hr, h => by cases hr
  | .enm a, os, sc, X, W, tg, ex, c, hr, h => by cases hr
  | .enmF a b, os, sc, X, W, tg, ex, c, hr, h => by cases hr
  | .rng3 a b d, os, sc, X, W, tg, ex, c, hr, h => by cases hr
  | .zipR a b, os, sc, X, W, tg, ex, c, hr, h => by cases hr
theorem okZ : ∀ (it : I) (os sc : Scope) (X : Cx) (W : WX) (tg ex : Expr), Ctx T Φ fa cl N k os sc X W → isZp it = true → chkI T N os sc tg it ex = true → ∃ (a b : E) (ea eb : Expr) (p2 pos2 : Pos), it = .zip a b ∧ ex = .Call (.Name "zip" p2) [ea, eb] [] pos2 ∧
    gloB sc (Str.ofString "zip") = true ∧ T.blt.contains (Str.ofString "zip") = true ∧ PE X ea (tE T.Γ Φ X.K fa cl W a) ∧ isArg ea = true ∧ PE X eb (tE T.Γ Φ X.K fa cl W b) ∧ isArg eb = true
  | .ex e, os, sc, X, W, tg, ex, c, hr, h => by cases hr
  | .rng1 a, os, sc, X, W, tg, ex, c, hr, h => by cases hr
  | .rng2 a b, os, sc, X, W, tg, ex, c, hr, h => by cases hr
  | .zip a b, os, sc, X, W, tg, ex, c, hr, h => by
    unfold chkI at h
    split at h
    · simp only [Bool.and_eq_true, beq_iff_eq] at h
      obtain ⟨⟨⟨⟨⟨⟨h1, h2⟩, h3⟩, h4⟩, h5⟩, h6⟩, h7⟩ := h
      subst h1
      exact ⟨a, b, _, _, _, _, rfl, rfl, h2, h3, (okE a os sc X W _ c h6).e, h4, (okE b os sc X W _ c h7).e, h5⟩
    · cases h
  | .enm a, os, sc, X, W, tg, ex, c, hr, h => by cases hr
  | .enmF a b, os, sc, X, W, tg, ex, c, hr, h => by cases hr
  | .rng3 a b d, os, sc, X, W, tg, ex, c, hr, h => by cases hr
  | .zipR a b, os, sc, X, W, tg, ex, c, hr, h => by cases hr
theorem okRF : ∀ (it : I) (os sc : Scope) (X : Cx) (W : WX) (tg ex : Expr), Ctx T Φ fa cl N k os sc X W → isRg it = true → chkI T N os sc tg it ex = true → PRgF X ex (tRgD T.Γ Φ X.K fa cl W it) ∧ isArg ex = true
  | .ex e, os, sc, X, W, tg, ex, c, hr, h => by cases hr
  | .rng1 a, os, sc, X, W, tg, ex, c, hr, h => by
    unfold chkI at h
    split at h
    · simp only [Bool.and_eq_true, beq_iff_eq] at h
      obtain ⟨⟨⟨⟨h1, h2⟩, h3⟩, h4⟩, h5⟩ := h
      subst h1
      exact ⟨rgF_1 c h2 h3 (okE a os sc X W _ c h5).e h4, rfl⟩
    · cases h
  | .rng2 a b, os, sc, X, W, tg, ex, c, hr, h => by
    unfold chkI at h
    split at h
    · simp only [Bool.and_eq_true, beq_iff_eq] at h
      obtain ⟨⟨⟨⟨⟨⟨h1, h2⟩, h3⟩, h4⟩, h5⟩, h6⟩, h7⟩ := h
      subst h1
      exact ⟨rgF_2 c h2 h3 (okE a os sc X W _ c h6).e h4 (okE b os sc X W _ c h7).e h5, rfl⟩
    · cases h
  | .zip a b, os, sc, X, W, tg, ex, c, hr, h => by cases hr
  | .enm a, os, sc, X, W, tg, ex, c, hr, h => by cases hr
  | .enmF a b, os, sc, X, W, tg, ex, c, hr, h => by cases hr
  | .rng3 a b d, os, sc, X, W, tg, ex, c, hr, h => by cases hr
  | .zipR a b, os, sc, X, W, tg, ex, c, hr, h => by cases hr
theorem okG : ∀ (g : G) (os sc : Scope) (X : Cx) (W : WX) (ex : Expr), Ctx T Φ fa cl N k os sc X W → chkG T N os sc g ex = true → PG X ex (tG T.Γ Φ X.K fa g)
  | .nm i, os, sc, X, W, ex, c, h => by
    unfold chkG at h
    split at h
    · simp only [Bool.and_eq_true, beq_iff_eq] at h
      exact g_nm c h.1 h.2
    · cases h
  | .tp gs, os, sc, X, W, ex, c, h => by
    unfold chkG at h
    split at h
    · exact g_tp c (okGs gs os sc X W _ c h) (all_argG h).1 (all_argG h).2
    · cases h
  | .sb o i, os, sc, X, W, ex, c, h => by
    unfold chkG at h
    split at h
    · simp only [Bool.and_eq_true] at h
      obtain ⟨⟨h1, h2⟩, h3⟩ := h
      exact g_sb (okE o os sc X W _ c h2).e (okE i os sc X W _ c h3).e h1
    · cases h
theorem okGs : ∀ (gs : Gs) (os sc : Scope) (X : Cx) (W : WX) (l : List Expr), Ctx T Φ fa cl N k os sc X W → chkGs T N os sc gs l = true → PGs X l (tGs T.Γ Φ X.K fa gs)
  | .nil, os, sc, X, W, l, c, h => by
    unfold chkGs at h
    split at h
    · exact gs_nil
    · cases h
  | .cons g gs, os, sc, X, W, l, c, h => by
    unfold chkGs at h
    split at h
    · simp only [Bool.and_eq_true] at h
      obtain ⟨⟨h1, h2⟩, h3⟩ := h
      exact gs_cons (okG g os sc X W _ c h2) (okGs gs os sc X W _ c h3) h1
    · cases h
end
end
end RF

set_option Elab.async false
set_option linter.all false
set_option maxRecDepth 100000
set_option maxHeartbeats 4000000
namespace RF
open PySem PySem.Spec PyProof.Rows L2

/-! ### the tie of blocks -/
/-- names that a pair of targets stores from the right; none: as any target -/
def swS (sc : Scope) (ts vs : List Expr) : Option (Option (List Str)) :=
  if !(ts.length == 2 || ts.length == 3) || vs.length != ts.length then some none else
  if vs.any (fun | .Starred .. => true | _ => false) then some none else
  let line := (ts.head?.map (·.pos.line)).getD 0
  let names := ts.filterMap fun
    | .Name id pos => if sc.names.lookup id == some .local && pos.line == line then some id else none
    | _ => none
  if names.length != ts.length || names.eraseDups.length != names.length then some none else
  if vs.all (foldedForSure 8) then some none else
  if vs.all (constantsAlone 8) then none else some (some names)
def swC (sc scope : Scope) (y : Str) (py pos : Pos) : Bool :=
  (sc.names.lookup y == some .local) && py.line == pos.line && !(scope.names.any fun (n, k) => n == y && (k == .local || k == .cell))
section
variable (T : Tab) (N : List Str)
/-- a store of a comprehension's list to a name, on its line -/
def chkSw (sc : Scope) (tg : Expr) (value : Expr) : Bool :=
  match tg, value with
  | .Name y py, .ListComp _ _ scope pos => swC sc scope y py pos
  | _, _ => false
def isComp : E → Bool
  | .comp .. => true
  | _ => false
/-- a pair (or three) stored at once -/
def chkPar (sc : Scope) (g : G) (e : E) (tg value : Expr) : Option Bool :=
  match tg, value with
  | .Tuple ts _ _, .Tuple vs _ _ => match swS sc ts vs with
    | some none => none
    | none => some false
    | some (some names) => some (match g, e, ts, vs with
      | .tp (.cons (.nm i) (.cons (.nm j) .nil)), .tup es, [.Name x _, .Name y _], [a, b] => i != j && N[i]? == some x && N[j]? == some y && sc.names.lookup x == some .local && sc.names.lookup y == some .local && names == [x, y] && chkEs T N sc sc es [a, b]
      | .tp (.cons (.nm i) (.cons (.nm j) (.cons (.nm l) .nil))), .tup es, [.Name x _, .Name y _, .Name z _], [a, b, c] => i != j && i != l && j != l && N[i]? == some x && N[j]? == some y && N[l]? == some z && sc.names.lookup x == some .local && sc.names.lookup y == some .local && sc.names.lookup z == some .local && names == [x, y, z] && chkEs T N sc sc es [a, b, c]
      | _, _, _, _ => false)
  | .List .., .Tuple .. => some false
  | _, _ => none
mutual
def chkS (sc : Scope) : S → Stmt → Bool
  | .set g e, st => match st with
    | .Assign [tg] value _ => match chkPar T N sc g e tg value with
      | some b => b
      | none => isArg tg && chkG T N sc sc g tg && chkE T N sc sc e value && (match value with
        | .ListComp .. => if chkSw sc tg value then isComp e else true
        | .SetComp .. => false
        | .DictComp .. => false
        | _ => true)
    | _ => false
  | .expr e, st => match st with
    | .Expr value _ => !isCp value && chkE T N sc sc e value
    | _ => false
  | .ret e, st => match st with
    | .Return (some value) _ => chkE T N sc sc e value
    | .Return none _ => (match e with
      | .con .non => true
      | _ => false)
    | _ => false
  | .ifs c a b, st => match st with
    | .If c' a' b' _ => chkE T N sc sc c c' && chkSs sc a a' && chkSs sc b b'
    | _ => false
  | .for g it body, st => match st with
    | .For tg iter body' [] _ => isIt iter && chkI T N sc sc tg it iter && chkG T N sc sc g tg && chkSs sc body body'
    | _ => false
  | .while c body, st => match st with
    | .While c' body' [] _ => chkE T N sc sc c c' && chkSs sc body body'
    | _ => false
  | .brk, st => match st with
    | .Break _ => true
    | _ => false
  | .cnt, st => match st with
    | .Continue _ => true
    | _ => false
  | .pas, st => match st with
    | .Pass _ => true
    | _ => false
  | .rse _, _ => false
  | .nvr, _ => true
def chkSs (sc : Scope) : Ss → List Stmt → Bool
  | .nil, l => match l with
    | [] => true
    | _ => false
  | .cons s ss, l => match l with
    | st :: r => chkS sc s st && chkSs sc ss r
    | [] => false
end
end

/-! ### readings of blocks -/
def tS (Γ : List D) (Φ : Nat → List D → Mh → R D) (K : PySem.W.Frag) (fa : Fa) (cl : Nat → Value) (W : WX) (s : S) : TS := fun D σ H => ∃ ρ env M, EnvR K fa ρ H σ env ∧ Sim K fa ρ M H ∧ PostS K fa cl ρ H (exS Γ Φ s env M) D W
def tSs (Γ : List D) (Φ : Nat → List D → Mh → R D) (K : PySem.W.Frag) (fa : Fa) (cl : Nat → Value) (W : WX) (s : Ss) : TS := fun D σ H => ∃ ρ env M, EnvR K fa ρ H σ env ∧ Sim K fa ρ M H ∧ PostS K fa cl ρ H (exSs Γ Φ s env M) D W
theorem PS.imp {X : Cx} {st : Stmt} {t t' : TS} (h : PS X st t) (i : ∀ D σ H, t' D σ H → t D σ H) : PS X st t' := ⟨fun pins s σ H D I q => h.run pins s σ H D I (i D σ H q)⟩
theorem PSs.imp {X : Cx} {st : List Stmt} {t t' : TS} (h : PSs X st t) (i : ∀ D σ H, t' D σ H → t D σ H) : PSs X st t' := ⟨fun pins s σ H D I q => h.run pins s σ H D I (i D σ H q)⟩
/-- a list just stored is no longer changed -/
def frzN (Nx : L2.St → Hp → Prop) : L2.St → Hp → Prop := fun σ H => ∃ p xs, H p = some (.lst xs) ∧ ∀ o, Nx σ (upd H p (.frz o (.lst xs)))
theorem ps_frz {X : Cx} {st : Stmt} {t : TS} (h : PS X st t) : PS X st (fun D σ H => t { D with nx := frzN D.nx } σ H) := ⟨fun pins s σ H D I q => thn (h.run pins s σ H _ I q) fun f s1 r => by
  cases f with
  | next =>
    obtain ⟨σ', H', I', p, xs, hp, q⟩ := r
    obtain ⟨o, I2⟩ := inv_frz I' hp
    exact ⟨σ', _, I2, q o⟩
  | ret v => exact r
  | brk => exact r
  | cont => exact r⟩
structure CtxS (T : Tab) (Φ : Nat → List D → Mh → R D) (fa : Fa) (cl : Nat → Value) (N : List Str) (k : Nat) (sc : Scope) (X : Cx) (W : WX) : Prop where
  c : Ctx T Φ fa cl N k sc sc X W
  own : PassesOwn (model X.prog X.w) X.A X.env X.xe
  kind : sc.kind = .function
section
variable {T : Tab} {Φ : Nat → List D → Mh → R D} {fa : Fa} {cl : Nat → Value} {N : List Str} {k : Nat} {sc : Scope} {X : Cx} {W : WX} {pos : Pos}
theorem bk_fun {env : PySem.Env} (h : env.scope.kind = .function) : env.blockKind = .function := by
  unfold PySem.Env.blockKind
  rw [h]
  rfl
theorem sw_set {env : PySem.Env} (hk : env.scope.kind = .function) {y : Str} {py lp : Pos} {l : Nat} {elt : Expr} {gs : List Comprehension} {scope : Scope} : swapsWith (.ListComp elt gs scope lp) (some (.Name y py)) l env = pure (swC env.scope scope y py lp) := by
  unfold swapsWith
  simp only [bk_fun hk]
  unfold swC
  rfl
theorem sw_oth {env : PySem.Env} {e tg : Expr} {l : Nat} (h : match tg with
    | .Name .. => false
    | _ => true) : swapsWith e (some tg) l env = pure false := by
  cases e <;> first
    | rfl
    | (cases tg <;> first | rfl | cases h)
/-- behind target and value: the block goes on -/
theorem set_rel {g : G} {e : E} {D : Ends} {σ : L2.St} {H : Hp} (h : (tS T.Γ Φ X.K fa cl W) (.set g e) D σ H) : tAsg ((tE T.Γ Φ X.K fa cl W) e) ((tG T.Γ Φ X.K fa) g) D σ H := by
  obtain ⟨ρ, env, M, en, S, p⟩ := h
  unfold exS at p
  refine ⟨ρ, env, M, en, S, PostS.bindS (rl := RelD X.K fa) p en fun d M1 ρ1 v H1 _ f1 r1 S1 p1 => ⟨ρ1, d, env, M1, r1, en.mono f1, S1, ?_⟩⟩
  cases hr : asg T.Γ Φ g d env M1 with
  | ok env2 M2 =>
    rw [hr] at p1
    intro ρ2 σ2 H2 f2 e2 S2 _ _
    exact p1 ρ2 σ2 H2 f2 e2 S2
  | exc c fs M2 => rw [hr] at p1; exact p1
  | bad => rw [hr] at p1; exact p1
theorem s_set {g : G} {e : E} {tg value : Expr} (he : PE X value ((tE T.Γ Φ X.K fa cl W) e)) (hg : PG X tg ((tG T.Γ Φ X.K fa) g)) (hs : swapsWithSole [tg] value pos.line X.env = pure false) (hw : swappedStores [tg] value X.env = pure none) (ht : isArg tg = true) :
    PS X (.Assign [tg] value pos) ((tS T.Γ Φ X.K fa cl W) (.set g e)) := PS.imp (ps_asg he hg hs hw (by rw [asg_one ht]; rfl)) fun D σ H h => set_rel h
theorem s_expr {e : E} {value : Expr} (he : PE X value ((tE T.Γ Φ X.K fa cl W) e)) (hc : isCp value = false) : PS X (.Expr value pos) ((tS T.Γ Φ X.K fa cl W) (.expr e)) :=
  PS.imp (ps_expr he (sw_none hc)) fun D σ H ⟨ρ, env, M, en, S, p⟩ => ⟨ρ, env, M, en, S, by
    unfold exS at p
    exact PostS.bindS (rl := RelD X.K fa) p en fun d M1 ρ1 v H1 _ f1 r1 S1 p1 => p1 ρ1 σ H1 (Fr.refl _ _) (en.mono f1) S1⟩
theorem s_ret {e : E} {value : Expr} (he : PE X value ((tE T.Γ Φ X.K fa cl W) e)) : PS X (.Return (some value) pos) ((tS T.Γ Φ X.K fa cl W) (.ret e)) :=
  PS.imp (ps_ret he) fun D σ H ⟨ρ, env, M, en, S, p⟩ => ⟨ρ, env, M, en, S, by
    unfold exS at p
    exact PostS.bindS (rl := RelD X.K fa) p en fun d M1 ρ1 v H1 _ f1 r1 S1 p1 => p1 ρ1 v H1 (Fr.refl _ _) r1 S1⟩
theorem s_retN : PS X (.Return none pos) ((tS T.Γ Φ X.K fa cl W) (.ret (.con .non))) :=
  PS.imp ps_retN fun D σ H ⟨ρ, env, M, en, S, p⟩ => by
    unfold exS evE at p
    exact p ρ _ H (Fr.refl _ _) .non S
theorem s_if {c : E} {a b : Ss} {c' : Expr} {a' b' : List Stmt} (hc : PT X c' ((tT T.Γ Φ X.K fa cl W) c)) (ha : PSs X a' ((tSs T.Γ Φ X.K fa cl W) a)) (hb : PSs X b' ((tSs T.Γ Φ X.K fa cl W) b)) : PS X (.If c' a' b' pos) ((tS T.Γ Φ X.K fa cl W) (.ifs c a b)) :=
  PS.imp (ps_if hc ha hb) fun D σ H ⟨ρ, env, M, en, S, p⟩ => ⟨ρ, env, M, en, S, by
    unfold exS at p
    cases hr : evE T.Γ Φ c env M with
    | ok x M1 =>
      rw [hr, R.bindS_ok] at p
      rw [R.bind_ok]
      cases ht : truD M1 x with
      | none => rw [ht] at p; exact p.elim
      | some b =>
        rw [ht] at p
        intro ρ1 b' H1 f e' S1
        cases e'
        cases b with
        | true => rw [if_pos rfl]; exact ⟨ρ1, env, M1, en.mono f, S1, PostS.mono p f⟩
        | false => rw [if_neg (by decide)]; exact ⟨ρ1, env, M1, en.mono f, S1, PostS.mono p f⟩
    | exc c fs M1 => rw [hr, R.bindS_exc] at p; exact fun ρ' d H' f S' x => p ρ' d σ H' f (en.mono f) S' x
    | bad => rw [hr] at p; exact p⟩
theorem s_for (c : CtxS T Φ fa cl N k sc X W) {g : G} {it : I} {body : Ss} {tg iter : Expr} {body' : List Stmt} (hi : PI X tg iter (tI T.Γ Φ X.K fa cl W it)) (hg : PG X tg ((tG T.Γ Φ X.K fa) g)) (hb : PSs X body' ((tSs T.Γ Φ X.K fa cl W) body)) (hs : isIt iter = true) : PS X (.For tg iter body' [] pos) ((tS T.Γ Φ X.K fa cl W) (.for g it body)) :=
  PS.imp (ps_for c.own c.c.calm hi hg hb (fold_it hs)) fun D σ H ⟨ρ, env, M, en, S, p⟩ => ⟨ρ, env, M, en, S, by
    unfold exS at p
    refine PostS.bindS (rl := rlI X.K fa) p en fun q M1 ρ1 J H1 _ f1 w S1 p1 => ?_
    refine for_rel (cl := cl) (W := W) w (en.mono f1) S1 p1 fun d x env2 M2 ρ2 σ2 H2 D2 r2 e2 S2 p2 => ⟨ρ2, d, env2, M2, r2, e2, S2, ?_⟩
    cases hr : asg T.Γ Φ g d env2 M2 with
    | ok env3 M3 =>
      rw [hr, R.bind_ok] at p2
      intro ρ3 σ3 H3 f3 e3 S3 _ _
      exact ⟨ρ3, env3, M3, e3, S3, PostS.mono p2 f3⟩
    | exc c fs M3 => rw [hr] at p2; exact p2
    | bad => rw [hr] at p2; exact p2⟩
theorem s_while (c : CtxS T Φ fa cl N k sc X W) {e : E} {body : Ss} {c' : Expr} {body' : List Stmt} (hc : PT X c' ((tT T.Γ Φ X.K fa cl W) e)) (hb : PSs X body' ((tSs T.Γ Φ X.K fa cl W) body)) : PS X (.While c' body' [] pos) ((tS T.Γ Φ X.K fa cl W) (.while e body)) :=
  PS.imp (ps_while c.own hc hb) fun D σ H ⟨ρ, env, M, en, S, p⟩ => by
    unfold exS at p
    exact while_rel (cl := cl) (W := W) en S p (fun env2 M2 ρ2 σ2 H2 Q e2 S2 p2 => ⟨ρ2, env2, M2, e2, S2, p2⟩) fun env2 M2 ρ2 σ2 H2 D2 e2 S2 p2 => ⟨ρ2, env2, M2, e2, S2, p2⟩
theorem ss_nil : PSs X [] ((tSs T.Γ Φ X.K fa cl W) .nil) := PSs.imp pss_nil fun D σ H ⟨ρ, env, M, en, S, p⟩ => by
  unfold exSs at p
  exact p ρ σ H (Fr.refl _ _) en S
theorem ss_cons {s : S} {ss : Ss} {st : Stmt} {sts : List Stmt} (h1 : PS X st ((tS T.Γ Φ X.K fa cl W) s)) (h2 : PSs X sts ((tSs T.Γ Φ X.K fa cl W) ss)) : PSs X (st :: sts) ((tSs T.Γ Φ X.K fa cl W) (.cons s ss)) :=
  PSs.imp (pss_cons h1 h2) fun D σ H ⟨ρ, env, M, en, S, p⟩ => ⟨ρ, env, M, en, S, by
    unfold exSs at p
    cases hr : exS T.Γ Φ s env M with
    | ok f M1 =>
      rw [hr, R.bind_ok] at p
      cases f with
      | nx env1 => exact fun ρ' σ' H' f e' S' => ⟨ρ', env1, M1, e', S', PostS.mono p f⟩
      | rt d => exact p
      | bk env1 => exact p
      | ct env1 => exact p
      | ex c fs env1 => exact p
    | exc c fs M1 => rw [hr, R.bind_exc] at p; exact p
    | bad => rw [hr, R.bind_bad] at p; exact p⟩
end
end RF

set_option Elab.async false
set_option linter.all false
set_option maxRecDepth 100000
set_option maxHeartbeats 4000000
namespace RF
open PySem PySem.Spec PyProof.Rows L2
section
variable {T : Tab} {Φ : Nat → List D → Mh → R D} {fa : Fa} {cl : Nat → Value} {N : List Str} {k : Nat} {sc : Scope} {X : Cx} {W : WX} {pos : Pos}
theorem swS_ok {env : PySem.Env} (hk : env.scope.kind = .function) {ts vs : List Expr} {j j2 : Nat} {p p2 : Pos} {r : Option (List Str)} (h : swS env.scope ts vs = some r) : swappedStores [.Tuple ts j p] (.Tuple vs j2 p2) env = pure r := by
  unfold swappedStores
  have hb : (env.blockKind != ScopeKind.function) = false := by rw [bk_fun hk]; rfl
  show (if (!(ts.length == 2 || ts.length == 3) || vs.length != ts.length || env.blockKind != .function) = true then _ else _) = _
  rw [hb, Bool.or_false]
  unfold swS at h
  split at h
  · rename_i c
    cases h
    rw [if_pos c]
  · rename_i c
    rw [if_neg c]
    split at h
    · rename_i c2
      cases h
      exact if_pos c2
    · rename_i c2
      refine (if_neg c2).trans ?_
      simp only at h
      split at h
      · rename_i c3
        cases h
        exact if_pos c3
      · rename_i c3
        refine (if_neg c3).trans ?_
        split at h
        · rename_i c4
          cases h
          exact if_pos c4
        · rename_i c4
          refine (if_neg c4).trans ?_
          split at h
          · cases h
          · rename_i c5
            refine (if_neg c5).trans ?_
            cases h
            rfl
/-- the slots behind a store of two -/
theorem par_rel {i j : Nat} {es : Es} {D : Ends} {σ : L2.St} {H : Hp} (hl : es.len = 2) (h : (tS T.Γ Φ X.K fa cl W) (.set (.tp (.cons (.nm i) (.cons (.nm j) .nil))) (.tup es)) D σ H) : tPar i j ((tA T.Γ Φ X.K fa cl W) es) D σ H := by
  obtain ⟨ρ, env, M, en, S, p⟩ := h
  unfold exS evE at p
  refine ⟨ρ, env, M, en, S, ?_⟩
  cases hr : evEs T.Γ Φ es env M with
  | ok ds M1 =>
    have hlen := evEs_len hr
    rw [hl] at hlen
    rw [hr, R.bind_ok] at p
    intro ρ1 vs H1 f1 r1 S1
    split at p
    · rw [R.bindS_ok] at p
      cases r1 with
      | nil => cases hlen
      | cons h1 r1 =>
        cases r1 with
        | nil => cases hlen
        | cons h2 r1 =>
          cases r1 with
          | cons _ _ => cases hlen
          | nil =>
            refine ⟨_, _, rfl, ?_⟩
            simp only [asg, asgs, seqOf, R.bind_ok] at p
            exact p ρ1 _ H1 f1 (((en.mono f1).set i h1).set j h2) S1
    · exact p.elim
  | exc c fs M1 => rw [hr, R.bind_exc, R.bindS_exc] at p; exact fun ρ' d H' f S' x => p ρ' d σ H' f (en.mono f) S' x
  | bad => rw [hr] at p; exact p
theorem par3_rel {i j l : Nat} {es : Es} {D : Ends} {σ : L2.St} {H : Hp} (hl : es.len = 3) (h : (tS T.Γ Φ X.K fa cl W) (.set (.tp (.cons (.nm i) (.cons (.nm j) (.cons (.nm l) .nil)))) (.tup es)) D σ H) : tPar3 i j l ((tA T.Γ Φ X.K fa cl W) es) D σ H := by
  obtain ⟨ρ, env, M, en, S, p⟩ := h
  unfold exS evE at p
  refine ⟨ρ, env, M, en, S, ?_⟩
  cases hr : evEs T.Γ Φ es env M with
  | ok ds M1 =>
    have hlen := evEs_len hr
    rw [hl] at hlen
    rw [hr, R.bind_ok] at p
    intro ρ1 vs H1 f1 r1 S1
    split at p
    · rw [R.bindS_ok] at p
      cases r1 with
      | nil => cases hlen
      | cons h1 r1 =>
        cases r1 with
        | nil => cases hlen
        | cons h2 r1 =>
          cases r1 with
          | nil => cases hlen
          | cons h3 r1 =>
            cases r1 with
            | cons _ _ => cases hlen
            | nil =>
              refine ⟨_, _, _, rfl, ?_⟩
              simp only [asg, asgs, seqOf, R.bind_ok] at p
              exact p ρ1 _ H1 f1 ((((en.mono f1).set i h1).set j h2).set l h3) S1
    · exact p.elim
  | exc c fs M1 => rw [hr, R.bind_exc, R.bindS_exc] at p; exact fun ρ' d H' f S' x => p ρ' d σ H' f (en.mono f) S' x
  | bad => rw [hr] at p; exact p
/-- the parts of a comprehension that is tied -/
theorem comp_parts (c : Ctx T Φ fa cl N k sc sc X W) {mu : Bool} {elt : E} {g : G} {it : I} {cs : Es} {own : List Nat} {elt' : Expr} {gs : List Comprehension} {scope : Scope} (h : chkE T N sc sc (.comp mu elt g it cs own) (.ListComp elt' gs scope pos) = true) :
    ∃ tg iter ifs, gs = [⟨tg, iter, ifs, 0⟩] ∧ PI X tg iter (tI T.Γ Φ X.K fa cl W it) ∧ blkC N sc scope (ownN N own) = true ∧ BlkC T Φ fa cl X scope g tg elt elt' cs ifs ∧ isIt iter = true ∧ g.slots.all (own.contains ·) = true := by
  unfold chkE at h
  split at h
  · rename_i elt'' tg iter ifs scope' pos' heq
    cases heq
    simp only [Bool.and_eq_true] at h
    obtain ⟨⟨⟨⟨⟨⟨h1, h2⟩, h3⟩, h4⟩, h5⟩, h6⟩, h7⟩ := h
    refine ⟨tg, iter, ifs, rfl, okI it sc sc X W tg iter c h2, h3, ⟨fun s H C l fp => ?_, fun s H C l fp => ?_, fun s H C l fp => ?_⟩, h1, h4⟩
    · exact okG g scope (relS scope sc) _ _ tg (c.blk s H C l fp scope) h5
    · cases ifs with
      | nil =>
        have q := (all_arg h7).2
        cases cs with
        | nil => exact c_nil
        | cons _ _ => cases q
      | cons c1 r =>
        cases r with
        | cons _ _ => cases h7
        | nil =>
          have q := (all_arg h7).2
          cases cs with
          | nil => cases q
          | cons e es =>
            cases es with
            | cons _ _ => cases q
            | nil =>
              unfold chkEs at h7
              simp only [Bool.and_eq_true] at h7
              exact c_one (okE e scope (relS scope sc) _ _ c1 (c.blk s H C l fp scope) h7.1.2).t
    · exact (okE elt scope (relS scope sc) _ _ elt' (c.blk s H C l fp scope) h6).e
  · cases h
/-- name = [..] on its line -/
theorem s_setLc (c : CtxS T Φ fa cl N k sc X W) {mu : Bool} {elt : E} {g : G} {it : I} {cs : Es} {own : List Nat} {elt' : Expr} {gs : List Comprehension} {scope : Scope} {i : Nat} {y : Str} {py lp : Pos} (h : chkE T N sc sc (.comp mu elt g it cs own) (.ListComp elt' gs scope lp) = true)
    (hy : N[i]? = some y) (hl : sc.names.lookup y = some .local) (hsw : swC sc scope y py lp = true) : PS X (.Assign [.Name y py] (.ListComp elt' gs scope lp) pos) ((tS T.Γ Φ X.K fa cl W) (.set (.nm i) (.comp mu elt g it cs own))) := by
  obtain ⟨tg, iter, ifs, rfl, hi, hb, B, hs, hg⟩ := comp_parts c.c h
  have bk : BlkOk X.N X.env.scope scope (ownN N own) := by rw [c.c.names, c.c.scope]; exact blkOk_by hb
  have base := ps_setLc (pos := lp) (spos := pos) (i := i) (y := y) (py := py) c.c.calm (by rw [c.c.names]; exact c.c.nd) (by rw [c.c.names]; exact hy) (by rw [c.c.scope]; exact hl)
    (by rw [sw_set (by rw [c.c.scope]; exact c.kind), c.c.scope, hsw]) hi bk B.g B.t B.e (fold_it hs)
  rw [ownN_snd] at base
  have key : ∀ (D : Ends) (σ : L2.St) (H : Hp), (tS T.Γ Φ X.K fa cl W) (.set (.nm i) (.comp mu elt g it cs own)) D σ H → (tE T.Γ Φ X.K fa cl W) (.comp mu elt g it cs own) σ H fun v H' => D.nx (σ.set i (some v)) H' := fun D σ H ⟨ρ, env, M, en, S, p⟩ => ⟨ρ, env, M, en, S, by
    unfold exS at p
    exact PostS.bindS (rl := RelD X.K fa) p en fun d M1 ρ1 v H1 _ f1 r1 S1 p1 => p1 ρ1 _ H1 (Fr.refl _ _) ((en.mono f1).set i r1) S1⟩
  cases mu with
  | true => exact PS.imp base fun D σ H q => lc_rel hg (fun _ _ _ q => q) (fun z => by cases z) (key D σ H q)
  | false => exact PS.imp (ps_frz base) fun D σ H q => lc_rel hg (fun z => by cases z) (fun _ v H' ⟨p, xs, e, h1, h2⟩ => ⟨p, xs, h1, by subst e; exact h2⟩) (key D σ H q)
theorem nodup2 {i j : Nat} (h : (i != j) = true) : i ≠ j := by simpa using h
theorem okSet (c : CtxS T Φ fa cl N k sc X W) {g : G} {e : E} {st : Stmt} (h : chkS T N sc (.set g e) st = true) : PS X st ((tS T.Γ Φ X.K fa cl W) (.set g e)) := by
  have hk : X.env.scope.kind = .function := by rw [c.c.scope]; exact c.kind
  unfold chkS at h
  split at h
  · rename_i tg value pos
    cases hp : chkPar T N sc g e tg value with
    | none =>
      rw [hp] at h
      simp only [Bool.and_eq_true] at h
      obtain ⟨⟨⟨h1, h2⟩, h3⟩, h4⟩ := h
      have hg := okG g sc sc X W tg c.c h2
      have he := (okE e sc sc X W value c.c h3).e
      -- no pair is stored at once
      have hw : swappedStores [tg] value X.env = pure none := by
        unfold chkPar at hp
        split at hp
        · rename_i ts j1 p1 vs j2 p2
          split at hp
          · rename_i hs
            exact swS_ok hk (by rw [c.c.scope]; exact hs)
          · cases hp
          · cases hp
        · cases hp
        · rename_i n1 n2
          cases tg <;> first
            | rfl
            | (cases value <;> first
                | rfl
                | exact absurd rfl (n1 _ _ _ _ _ _ rfl)
                | exact absurd rfl (n2 _ _ _ _ _ rfl)
                | (exfalso; exact n1 _ _ _ _ _ _ rfl rfl)
                | (exfalso; exact n2 _ _ _ _ _ rfl rfl))
      by_cases hsw : chkSw sc tg value = true
      · unfold chkSw at hsw
        split at hsw
        · rename_i y py elt' gs scope lp
          simp only [chkSw, hsw, if_true] at h4
          unfold isComp at h4
          split at h4
          · rename_i mu elt g' it cs own
            unfold chkG at h2
            cases g with
            | nm i =>
              simp only [Bool.and_eq_true, beq_iff_eq] at h2
              refine s_setLc c h3 h2.1 ?_ hsw
              unfold swC at hsw
              simp only [Bool.and_eq_true, beq_iff_eq] at hsw
              exact hsw.1.1
            | tp gs => cases h2
            | sb o i => cases h2
          · cases h4
        · cases hsw
      · have hs : swapsWithSole [tg] value pos.line X.env = pure false := by
          show swapsWith value (some tg) pos.line X.env = pure false
          cases htg : tg with
          | Name y py =>
            subst htg
            cases value with
            | ListComp elt' gs scope lp =>
              rw [sw_set hk, c.c.scope]
              have : swC sc scope y py lp = false := by simpa [chkSw] using hsw
              rw [this]
            | SetComp _ _ _ _ => cases h4
            | DictComp _ _ _ _ _ => cases h4
            | _ => rfl
          | _ => exact sw_oth rfl
        exact s_set he hg hs hw h1
    | some b =>
      rw [hp] at h
      simp only at h
      subst h
      unfold chkPar at hp
      split at hp
      · rename_i ts j1 p1 vs j2 p2
        split at hp
        · cases hp
        · cases hp
        · rename_i names hs
          have hw := swS_ok (j := j1) (j2 := j2) (p := p1) (p2 := p2) hk (by rw [c.c.scope]; exact hs)
          simp only [Option.some.injEq] at hp
          split at hp
          · rename_i i j es x px y py a b
            simp only [Bool.and_eq_true, beq_iff_eq] at hp
            obtain ⟨⟨⟨⟨⟨⟨q1, q2⟩, q3⟩, q4⟩, q5⟩, q6⟩, q7⟩ := hp
            subst q6
            have hl := (all_arg q7).2
            exact PS.imp (ps_par c.c.calm (by rw [c.c.names]; exact c.c.nd) (by rw [c.c.names]; exact q2) (by rw [c.c.names]; exact q3) (nodup2 q1) (by rw [c.c.scope]; exact q4) (by rw [c.c.scope]; exact q5) (okEs es sc sc X W _ c.c q7) hw rfl) fun D σ H q => par_rel hl q
          · rename_i i j l es x px y py z pz a b d
            simp only [Bool.and_eq_true, beq_iff_eq] at hp
            obtain ⟨⟨⟨⟨⟨⟨⟨⟨⟨⟨q1, q2⟩, q3⟩, q4⟩, q5⟩, q6⟩, q7⟩, q8⟩, q9⟩, q10⟩, q11⟩ := hp
            subst q10
            have hl := (all_arg q11).2
            exact PS.imp (ps_par3 c.c.calm (by rw [c.c.names]; exact c.c.nd) (by rw [c.c.names]; exact q4) (by rw [c.c.names]; exact q5) (by rw [c.c.names]; exact q6) (nodup2 q1) (nodup2 q2) (nodup2 q3) (by rw [c.c.scope]; exact q7) (by rw [c.c.scope]; exact q8) (by rw [c.c.scope]; exact q9) (okEs es sc sc X W _ c.c q11) hw rfl) fun D σ H q => par3_rel hl q
          · cases hp
      · cases hp
      · cases hp
  · cases h
mutual
theorem okS : ∀ (s : S) (st : Stmt), CtxS T Φ fa cl N k sc X W → chkS T N sc s st = true → PS X st ((tS T.Γ Φ X.K fa cl W) s)
  | .set g e, st, c, h => okSet c h
  | .expr e, st, c, h => by
    unfold chkS at h
    split at h
    · simp only [Bool.and_eq_true, Bool.not_eq_true'] at h
      exact s_expr (okE e sc sc X W _ c.c h.2).e h.1
    · cases h
  | .ret e, st, c, h => by
    unfold chkS at h
    split at h
    · exact s_ret (okE e sc sc X W _ c.c h).e
    · split at h
      · exact s_retN
      · cases h
    · cases h
  | .ifs e a b, st, c, h => by
    unfold chkS at h
    split at h
    · simp only [Bool.and_eq_true] at h
      obtain ⟨⟨h1, h2⟩, h3⟩ := h
      exact s_if (okE e sc sc X W _ c.c h1).t (okSs a _ c h2) (okSs b _ c h3)
    · cases h
  | .for g it body, st, c, h => by
    unfold chkS at h
    split at h
    · simp only [Bool.and_eq_true] at h
      obtain ⟨⟨⟨h1, h2⟩, h3⟩, h4⟩ := h
      exact s_for c (okI it sc sc X W _ _ c.c h2) (okG g sc sc X W _ c.c h3) (okSs body _ c h4) h1
    · cases h
  | .while e body, st, c, h => by
    unfold chkS at h
    split at h
    · simp only [Bool.and_eq_true] at h
      exact s_while c (okE e sc sc X W _ c.c h.1).t (okSs body _ c h.2)
    · cases h
  | .brk, st, c, h => by
    unfold chkS at h
    split at h
    · exact PS.imp ps_break fun D σ H ⟨ρ, env, M, en, S, p⟩ => p ρ σ H (Fr.refl _ _) en S
    · cases h
  | .cnt, st, c, h => by
    unfold chkS at h
    split at h
    · exact PS.imp ps_continue fun D σ H ⟨ρ, env, M, en, S, p⟩ => p ρ σ H (Fr.refl _ _) en S
    · cases h
  | .pas, st, c, h => by
    unfold chkS at h
    split at h
    · exact PS.imp ps_pass fun D σ H ⟨ρ, env, M, en, S, p⟩ => p ρ σ H (Fr.refl _ _) en S
    · cases h
  | .rse _, st, c, h => by unfold chkS at h; cases h
  | .nvr, st, c, h => PS.imp ps_never fun D σ H ⟨ρ, env, M, en, S, p⟩ => by unfold exS at p; exact p
theorem okSs : ∀ (ss : Ss) (l : List Stmt), CtxS T Φ fa cl N k sc X W → chkSs T N sc ss l = true → PSs X l ((tSs T.Γ Φ X.K fa cl W) ss)
  | .nil, l, c, h => by
    unfold chkSs at h
    split at h
    · exact ss_nil
    · cases h
  | .cons s ss, l, c, h => by
    unfold chkSs at h
    split at h
    · rw [Bool.and_eq_true] at h
      exact ss_cons (okS s _ c h.1) (okSs ss _ c h.2)
    · cases h
end
end
end RF

set_option Elab.async false
set_option linter.all false
set_option maxRecDepth 100000
set_option maxHeartbeats 4000000
namespace RF
open PySem PySem.Spec PyProof.Rows L2

/-! ### all defs -/
/-- a def of the top and its term -/
def DefP (T : Tab) (PD : List Fd) (fa : Fa) (K : PySem.W.Frag) (mg : Str → Option Value) (i : Nat) (x : Str) (ps : List Str) : Prop :=
  ∃ (f : Addr) (fd : FuncData) (N : List Str) (qual : Str) (st : Stmt) (t : Fd), PD[i]? = some t ∧ mg x = some (.ref f) ∧ fa i = some f ∧ Fun K x qual st f fd ∧
    FnScope N ps (defScope st) ∧ Binds K fd ps [] ∧ t.ar = ps.length ∧ t.nn = N.length ∧ chkSs T N (defScope st) t.body (defBody st) = true
/-- what stands behind the top, for the tables -/
structure Tops (T : Tab) (PD : List Fd) (fa : Fa) (K : PySem.W.Frag) (mg : Str → Option Value) : Prop where
  glob : ∀ (g : Nat) (x : Str) (d : D), T.gn[g]? = some x → T.Γ[g]? = some d → ∃ u v, mg x = some u ∧ RelV v u ∧ RelD K fa [] (fun _ => none) d v
  blt : ∀ x, T.blt.contains x = true → mg x = none
  defs : ∀ (i : Nat) (x : Str) (ps : List Str), T.fns[i]? = some (x, ps) → DefP T PD fa K mg i x ps
section
variable {T : Tab} {PD : List Fd} {fa : Fa} {cl : Nat → Value} {P : Program} {w : World} {K : PySem.W.Frag} {mg : Str → Option Value}
theorem start_rel {ρ : List Addr} {H : Hp} {ds : List D} {vs : List V} (r : RelDs K fa ρ H ds vs) {N : List Str} {nn ar : Nat} (h1 : nn = N.length) (h2 : ar = vs.length) : EnvR K fa ρ H (L2.start N vs) (ds.map some ++ List.replicate (nn - ar) none) := by
  have e := r.length
  unfold L2.start
  refine ⟨by simp [h1, h2, e], fun i d h => ?_⟩
  by_cases hi : i < ds.length
  · rw [List.getElem?_append_left (by simpa using hi), List.getElem?_map] at h
    cases q : ds[i]? with
    | none => rw [q] at h; cases h
    | some c =>
      rw [q] at h
      simp only [Option.map_some, Option.some.injEq] at h
      subst h
      obtain ⟨v, g1, g2⟩ := r.get q
      exact ⟨v, by rw [List.getElem?_append_left (by simp; omega), List.getElem?_map, g1]; rfl, g2⟩
  · rw [List.getElem?_append_right (by simp; omega), List.getElem?_replicate] at h
    split at h <;> cases h
/-- behind a call -/
theorem fin_post {ρ : List Addr} {H : Hp} {M : Mh} {Q : VK} {E : XK} {r : R F} (S : Sim K fa ρ M H) (p : Post K fa cl (RelD K fa) ρ H (fin M (flowD r)) Q E) :
    PostS K fa cl ρ H r { nx := fun _ H' => Q .non H', rt := Q } (fun c d _ H' => E c d H') := by
  have back : ∀ {d : D} {M' : Mh}, Post K fa cl (RelD K fa) ρ H (fin M (.ok d M')) Q E → ∀ ρ' v H', Fr ρ H ρ' H' → RelD K fa ρ' H' d v → Sim K fa ρ' M' H' → Q v H' := fun {d M'} p ρ' v H' f rd S' => by
    unfold fin at p
    simp only at p
    split at p
    · rename_i hc
      rw [Bool.and_eq_true] at hc
      have e0 : ρ'.take M.length = ρ := by
        obtain ⟨t, rfl⟩ := f.g
        rw [← S.len, List.take_left]
      have f0 : Fr ρ H ρ H' := ⟨List.prefix_refl _, f.k, fun b o h n => ⟨(f.p b o h n).1, n⟩⟩
      have r0 := rd.low hc.1
      rw [e0] at r0
      exact p ρ v H' f0 r0 (S.back S' f.g hc.2)
    · exact p ρ' v H' f rd S'
  cases r with
  | ok fl M' =>
    cases fl with
    | nx env => exact fun ρ' σ' H' f e S' => back p ρ' .non H' f .non S'
    | rt d => exact fun ρ' v H' f rd S' => back p ρ' v H' f rd S'
    | bk env => exact p.elim
    | ct env => exact p.elim
    | ex c fs env => exact fun ρ' d σ' H' f e S' x => p ρ' d H' f S' x
  | exc c fs M' => exact p.elim
  | bad => exact p.elim
theorem pure_back {ρ : List Addr} {H : Hp} {M M1 : Mh} {d : D} {Q : VK} {E : XK} (S : Sim K fa ρ M H) (hd : d.nr = true) (p : Post K fa cl (RelD K fa) ρ H (.ok d M) Q E) :
    ∀ ρ' v H', Fr [] H ρ' H' → RelD K fa ρ' H' d v → Sim K fa ρ' M1 H' → Q v H' := fun ρ' v H' f rd S' => by
  have s : Same H H' := fun b o e => (f.p b o e (by simp)).1
  have r0 := rd.low (D.nr_low (n := 0) hd)
  rw [List.take_zero] at r0
  exact p ρ v H' (Fr.same s) (r0.mono (List.nil_prefix) (Kp.refl _)) (S.same s)
theorem pure_post {ρ : List Addr} {H : Hp} {M M' : Mh} {d : D} {Q : VK} {E : XK} {r : R F} (S : Sim K fa ρ M H) (hg : flowD r = .ok d M') (hd : d.nr = true) (p : Post K fa cl (RelD K fa) ρ H (.ok d M) Q E) :
    PostS K fa cl [] H r { nx := fun _ H' => Q .non H', rt := Q } (fun c d _ H' => E c d H') := by
  cases r with
  | ok fl M1 =>
    cases fl with
    | nx env => cases hg; exact fun ρ' σ' H' f e S' => pure_back S hd p ρ' .non H' f .non S'
    | rt d => cases hg; exact fun ρ' v H' f rd S' => pure_back S hd p ρ' v H' f rd S'
    | bk env => cases hg
    | ct env => cases hg
    | ex c fs env => cases hg
  | exc c fs M' => cases hg
  | bad => cases hg
theorem pure_exc {ρ : List Addr} {H : Hp} {M M' : Mh} {c : Nat} {fs : List D} {Q : VK} {E : XK} {r : R F} (S : Sim K fa ρ M H) (hg : flowD r = .exc c fs M') (p : Post K fa cl (RelD K fa) ρ H (.exc c fs M) Q E) :
    PostS K fa cl [] H r { nx := fun _ H' => Q .non H', rt := Q } (fun c d _ H' => E c d H') := by
  cases r with
  | ok fl M1 =>
    cases fl with
    | nx env => cases hg
    | rt d => cases hg
    | bk env => cases hg
    | ct env => cases hg
    | ex c fs env =>
      cases hg
      exact fun ρ' d σ' H' f e S' x => by
        have s : Same H H' := fun b o e => (f.p b o e (by simp)).1
        exact p ρ d H' (Fr.same s) (S.same s) x
  | exc c fs M' => cases hg
  | bad => cases hg
theorem sim_nil {H : Hp} : Sim K fa [] [] H := ⟨rfl, fun i o a h _ => by simp at h, fun i j o o' a h => by simp at h, fun b hb => by simp at hb⟩
theorem rel_nil {ρ : List Addr} {H : Hp} {ds : List D} {vs : List V} (h : D.nrs ds = true) (r : RelDs K fa ρ H ds vs) : RelDs K fa [] H ds vs := by
  have := r.low (D.nrs_low (n := 0) h)
  rwa [List.take_zero] at this
theorem all_fns (hT : Tops T PD fa K mg) (base : Heap) : ∀ (k i : Nat) (x : Str) (ps : List Str), T.fns[i]? = some (x, ps) → ∃ (f : Addr) (fd : FuncData), mg x = some (.ref f) ∧ PySem.W.keepIn K (.ref f) = true ∧ Binds K fd ps [] ∧ fa i = some f ∧
    FnOk P w K mg base (L2.CX P w) k f fd ps (spD K fa cl (callP T.Γ PD k i) ps.length) ∧ ∃ oc od osl, K.lookup f = some ⟨oc, od, .func fd, osl⟩ := by
  have lk : ∀ {x qual : Str} {st : Stmt} {f : Addr} {fd : FuncData}, Fun K x qual st f fd → ∃ oc od osl, K.lookup f = some ⟨oc, od, .func fd, osl⟩ := fun F => by
    obtain ⟨oc, od, kV, doc, pm, an, cdv, ct, osl, e, l, c⟩ := F.ex
    exact ⟨oc, od, osl, l⟩
  intro k
  induction k with
  | zero =>
    intro i x ps h
    obtain ⟨f, fd, N, qual, st, t, h1, h2, h3, h4, h5, h6, h8, h9, h10⟩ := hT.defs i x ps h
    refine ⟨f, fd, h2, h4.kp, h6, h3, ⟨fun vs H Q E sp => sp.1, fun A outer s H args us vs Q E hr e0 hb hv sp => ?_⟩, lk h4⟩
    obtain ⟨_, ρ, M, ds, _, _, p⟩ := sp
    unfold callP at p
    exact p.elim
  | succ k ih =>
    intro i x ps h
    obtain ⟨f, fd, N, qual, st, t, h1, h2, h3, h4, h5, h6, h8, h9, h10⟩ := hT.defs i x ps h
    refine ⟨f, fd, h2, h4.kp, h6, h3, Fun.okX h4 h5 (fun vs H Q E sp => sp.1) fun cdv A outer s H vs Q E hr sp => ?_, lk h4⟩
    obtain ⟨hl, ρ, M, ds, r, S, p⟩ := sp
    unfold callP at p
    rw [h1] at p
    unfold runF at p
    simp only at p
    split at p
    · rename_i hla
      refine ⟨tSs T.Γ (callP T.Γ PD k) K fa cl (fun c d _ H' => E c d H') t.body, okSs (T := T) (Φ := callP T.Γ PD k) (fa := fa) (cl := cl) (N := N) (k := k) t.body _ ⟨⟨rfl, rfl, h5.nd, rfl, hr, L2.takes_of rfl rfl rfl rfl, fun _ _ => rfl, hT.glob, hT.blt, ?_⟩, L2.passes_of rfl, h5.kind⟩ h10, ?_⟩
      · exact fun j y m hj => by
          obtain ⟨f', fd', g1, g2, g3, g4, g5, _⟩ := ih j y m hj
          exact ⟨f', fd', g1, g2, g3, g4, g5⟩
      · split at p
        · rename_i hn
          split at p
          · rename_i d M' hg
            split at p
            · rename_i hd
              exact ⟨[], _, [], start_rel (rel_nil hn r) h9 (by rw [h8, hl]), sim_nil, pure_post S hg hd p⟩
            · exact ⟨ρ, _, M, start_rel r h9 (by rw [h8, hl]), S, fin_post S p⟩
          · rename_i c fs M' hg
            split at p
            · exact ⟨[], _, [], start_rel (rel_nil hn r) h9 (by rw [h8, hl]), sim_nil, pure_exc S hg p⟩
            · exact p.elim
          · exact p.elim
        · exact ⟨ρ, _, M, start_rel r h9 (by rw [h8, hl]), S, fin_post S p⟩
    · exact p.elim

/-! ### the tables filled from the top -/
def faOf (T : Tab) (mg : Str → Option Value) : Fa := fun i => match T.fns[i]? with
  | some p => match mg p.1 with
    | some (.ref a) => some a
    | _ => none
  | none => none
theorem faOf_eq {i : Nat} {x : Str} {ps : List Str} {f : Addr} (h : T.fns[i]? = some (x, ps)) (g : mg x = some (.ref f)) : faOf T mg i = some f := by
  unfold faOf
  rw [h]
  simp only
  rw [g]
def AllD {α : Type} (P : Nat → α → Prop) : Nat → List α → Prop
  | _, [] => True
  | j, p :: r => P j p ∧ AllD P (j + 1) r
theorem AllD.get {α : Type} {P : Nat → α → Prop} : ∀ {l : List α} {j i : Nat} {p : α}, AllD P j l → l[i]? = some p → P (j + i) p
  | [], _, _, _, _, h => by simp at h
  | q :: r, j, 0, p, a, h => by
    simp at h
    subst h
    exact a.1
  | q :: r, j, i + 1, p, a, h => by
    have := AllD.get (i := i) (p := p) a.2 (by simpa using h)
    rw [show j + (i + 1) = j + 1 + i by omega]
    exact this
/-- a constant of the top -/
def GlobP (T : Tab) (fa : Fa) (K : PySem.W.Frag) (mg : Str → Option Value) (g : Nat) (x : Str) : Prop := ∀ d, T.Γ[g]? = some d → ∃ u v, mg x = some u ∧ RelV v u ∧ RelD K fa [] (fun _ => none) d v
theorem tops_mk {h : Heap} {fa : Fa} (hb : AllD (fun _ x => mg x = none) 0 T.blt) (hg : AllD (fun g x => GlobP T fa K mg g x) 0 T.gn) (hd : AllD (fun i p => DefP T PD fa K mg i p.1 p.2) 0 T.fns) : Tops T PD fa K mg where
  glob := fun g x d h1 h2 => by
    have := hg.get h1
    rw [Nat.zero_add] at this
    exact this d h2
  blt := fun x hx => by
    have hm : x ∈ T.blt := by simpa using hx
    obtain ⟨i, hi⟩ := List.getElem?_of_mem hm
    exact hb.get hi
  defs := fun i x ps hx => by
    have := hd.get hx
    rw [Nat.zero_add] at this
    exact this
theorem def_mk {h : Heap} {x qual : Str} {st : Stmt} {f : Addr} {oc kV doc pm cdv ct : Value} {od an : Option Addr} {osl : Array (Option Value)} {N ps : List Str} {t : Fd} {i : Nat} (X : K.In h) (G : h.Ns mainGlobals mg)
    (a : PySem.W.nsIn K mainGlobals x = some (some (.ref f))) (l : K.lookup f = some ⟨oc, od, .func (PySem.W.fnOf x qual (defArgs st) (defBody st) (defScope st) .none kV doc pm an cdv ct), osl⟩) (c : PySem.W.codeIn K cdv qual = true) (kp : PySem.W.keepIn K (.ref f) = true)
    (hx : T.fns[i]? = some (x, ps)) (ht : PD[i]? = some t) (hS : FnScope N ps (defScope st)) (har : t.ar = ps.length) (hnn : t.nn = N.length)
    (hb : ∀ (kV doc pm : Value) (an : Option Addr) (cdv ct : Value) (us : List Value), us.length = ps.length → bindArgs (PySem.W.fnOf x qual (defArgs st) (defBody st) (defScope st) .none kV doc pm an cdv ct) ⟨us, []⟩ = pure (ps.zip us))
    (chk : chkSs T N (defScope st) t.body (defBody st) = true) : DefP T PD (faOf T mg) K mg i x ps := by
  have g := PySem.W.mg_of X G a
  have F := fun_mk (st := st) l c kp
  exact ⟨f, _, N, qual, st, t, ht, g, faOf_eq hx g, F, hS, F.binds hb, har, hnn, chk⟩
theorem glob_int {h : Heap} {g : Nat} {x : Str} {i : Int} {tk : Tok} {fa : Fa} (X : K.In h) (G : h.Ns mainGlobals mg) (a : PySem.W.nsIn K mainGlobals x = some (some (.int i tk))) (hd : T.Γ[g]? = some (.int i)) : GlobP T fa K mg g x := fun d e => by
  rw [hd] at e; cases e
  exact ⟨_, .int i, PySem.W.mg_of X G a, ⟨tk, rfl⟩, .int i⟩
theorem glob_str {h : Heap} {g : Nat} {x : Str} {s : Str} {tk : Tok} {fa : Fa} (X : K.In h) (G : h.Ns mainGlobals mg) (a : PySem.W.nsIn K mainGlobals x = some (some (.str s tk))) (hd : T.Γ[g]? = some (.str s)) (hs : sgood s = true) : GlobP T fa K mg g x := fun d e => by
  rw [hd] at e; cases e
  exact ⟨_, .str s, PySem.W.mg_of X G a, ⟨tk, rfl⟩, .str s hs⟩
/-- the law's def -/
theorem law_fn {fa : Fa} {il k : Nat} {x p : Str} (hT : Tops T PD fa K mg) (hl : T.fns[il]? = some (x, [p])) {f : Addr} (hf : mg x = some (.ref f)) :
    ∃ fd : FuncData, Binds K fd [p] [] ∧ ∀ base : Heap, FnOk P w K mg base (L2.CX P w) k f fd [p] (spD K fa cl (callP T.Γ PD k il) 1) := by
  obtain ⟨f0, fd, g1, g2, g3, g4, g5, oc, od, osl, e⟩ := all_fns (P := P) (w := w) (cl := cl) hT (default : Heap) k il x [p] hl
  rw [hf] at g1
  cases g1
  refine ⟨fd, g3, fun base => ?_⟩
  obtain ⟨f1, fd1, q1, q2, q3, q4, q5, oc1, od1, osl1, e1⟩ := all_fns (P := P) (w := w) (cl := cl) hT base k il x [p] hl
  rw [hf] at q1
  cases q1
  rw [e] at e1
  cases e1
  exact q5
/-- its promise at the script -/
theorem law_sp {fa : Fa} {φ : List D → Mh → R D} {n : Nat} (hφ : ∀ ns : List Int, ns.length ≤ n → ∃ M, φ [.lst (ns.map D.int)] [] = .ok (.bl true) M) {H : Hp} {a : Addr} {ns : List Int} (hn : ns.length ≤ n) (hO : Only H) (hS : SqL K H a (ns.map V.int)) :
    spD K fa cl φ 1 [.ref a] H (fun v _ => v = .bl true) (fun _ _ _ => False) := by
  have hF : FzL K H a (ns.map V.int) := by
    rcases hS with (h | ⟨o, h⟩) | h
    · rcases hO a with q | ⟨o, xs, q⟩
      · rw [q] at h; cases h
      · rw [q] at h; cases h
    · exact .inl ⟨o, h⟩
    · exact .inr h
  have hr : ∀ ns : List Int, RelDs K fa [] H (ns.map D.int) (ns.map V.int) := fun ns => by
    induction ns with
    | nil => exact .nil
    | cons i r ih => exact .cons (.int i) ih
  obtain ⟨M, e⟩ := hφ ns hn
  refine ⟨rfl, [], [], [.lst (ns.map D.int)], .cons (.lst hF (hr ns)) .nil, ⟨rfl, fun i o a h _ => by simp at h, fun i j o o' a h => by simp at h, fun b hb => by simp at hb⟩, ?_⟩
  rw [e]
  intro ρ' v H' _ r _
  cases r
  rfl
/-- the law's promise, at the head -/
def spLaw (K : PySem.W.Frag) (n : Nat) : Sp := fun vs H Q _ => ∃ (a : Addr) (ns : List Int), vs = [.ref a] ∧ SqL K H a (ns.map V.int) ∧ ns.length ≤ n ∧ Only H ∧ ∀ H', Q (.bl true) H'
theorem spLaw_sp {fa : Fa} {φ : List D → Mh → R D} {n : Nat} (hφ : ∀ ns : List Int, ns.length ≤ n → ∃ M, φ [.lst (ns.map D.int)] [] = .ok (.bl true) M) {vs : List V} {H : Hp} {Q : VK} {E : XK} (h : spLaw K n vs H Q E) :
    spD K fa cl φ 1 vs H Q E := by
  obtain ⟨a, ns, rfl, hS, hn, hO, hq⟩ := h
  obtain ⟨h1, ρ, M, ds, r, S, p⟩ := law_sp (cl := cl) hφ hn hO hS
  refine ⟨h1, ρ, M, ds, r, S, ?_⟩
  cases hr : φ ds M with
  | ok d M' =>
    rw [hr] at p
    intro ρ' v H' f rd S'
    have := p ρ' v H' f rd S'
    subst this
    exact hq H'
  | exc c fs M' =>
    rw [hr] at p
    intro ρ' d H' f S' x
    exact (p ρ' d H' f S' x).elim
  | bad => rw [hr] at p; exact p
/-- the law's def keeps its promise -/
theorem law_ok {il k n : Nat} {x p : Str} {f : Addr} {fd : FuncData} {oc : Value} {od : Option Addr} {osl : Array (Option Value)} (hT : Tops T PD (faOf T mg) K mg) (hl : T.fns[il]? = some (x, [p])) (hf : mg x = some (.ref f)) (lk : K.lookup f = some ⟨oc, od, .func fd, osl⟩)
    (hφ : ∀ ns : List Int, ns.length ≤ n → ∃ M, callP T.Γ PD k il [.lst (ns.map D.int)] [] = .ok (.bl true) M) (base : Heap) : FnOk P w K mg base (L2.CX P w) k f fd [p] (spLaw K n) := by
  obtain ⟨f1, fd1, q1, q2, q3, q4, q5, oc1, od1, osl1, e1⟩ := all_fns (P := P) (w := w) (cl := fun _ => .none) hT base k il x [p] hl
  rw [hf] at q1
  cases q1
  rw [lk] at e1
  cases e1
  exact q5.imp fun vs H Q E q => spLaw_sp hφ q
theorem only_cx {P : Program} {w : World} {H : Hp} {s : Shared} {e : Value} {s' : Shared} (h : L2.CX P w [] H s (fun _ _ _ => False) e s') : False := by
  obtain ⟨_, _, _, _, _, _, _, _, _, _, _, _, z⟩ := h
  exact z
end
end RF

set_option Elab.async false
set_option linter.all false
set_option maxRecDepth 100000
set_option maxHeartbeats 4000000
namespace RF
open PySem (Str Operator CmpOp)

/-- a marked state -/
def T (M : Mh) : Mh := M
/-! ### what a run does: its wishes -/
def R.sat {α : Type} (r : R α) (Q : α → Mh → Prop) : Prop := match r with
  | .ok a M => Q a M
  | _ => False
@[simp] theorem sat_ok {α : Type} {a : α} {M : Mh} {Q : α → Mh → Prop} : (R.ok a M).sat Q = Q a M := rfl
@[simp] theorem sat_exc {α : Type} {c : Nat} {fs : List D} {M : Mh} {Q : α → Mh → Prop} : (R.exc c fs M : R α).sat Q = False := rfl
@[simp] theorem sat_bad {α : Type} {Q : α → Mh → Prop} : (R.bad : R α).sat Q = False := rfl
theorem R.sat.mono {α : Type} {r : R α} {Q Q' : α → Mh → Prop} (h : r.sat Q) (i : ∀ a M, Q a M → Q' a M) : r.sat Q' := by
  cases r with
  | ok a M => exact i a M h
  | exc c fs M => exact h
  | bad => exact h
theorem R.sat.ex {α : Type} {r : R α} {Q : α → Mh → Prop} (h : r.sat Q) : ∃ a M, r = .ok a M ∧ Q a M := by
  cases r with
  | ok a M => exact ⟨a, M, rfl, h⟩
  | exc c fs M => exact h.elim
  | bad => exact h.elim
theorem sat_of {α : Type} {r : R α} {a : α} {M : Mh} {Q : α → Mh → Prop} (h : r = .ok a M) (q : Q a M) : r.sat Q := by rw [h]; exact q
theorem sat_bind {α β : Type} {r : R α} {f : α → Mh → R β} {Q : β → Mh → Prop} : (r.bind f).sat Q ↔ r.sat fun a M => (f a M).sat Q := by cases r <;> rfl
theorem sat_bindS {α : Type} {env : Env} {r : R α} {f : α → Mh → R F} {Q : F → Mh → Prop} (h : r.sat fun a M => (f a M).sat Q) : (r.bindS env f).sat Q := by
  cases r with
  | ok a M => exact h
  | exc c fs M => exact h.elim
  | bad => exact h.elim
theorem sat_only {α β : Type} {r : R α} {f : α → Mh → R β} {Q : β → Mh → Prop} : (r.only f).sat Q ↔ r.sat fun a M => (f a M).sat Q := by cases r <;> rfl

/-! ### a def's run -/
theorem callP_at {Γ : List D} {P : List Fd} {k i : Nat} {fd : Fd} {ds : List D} {M : Mh} (h : P[i]? = some fd) : callP Γ P (k + 1) i ds M = runF Γ (callP Γ P k) fd ds M := by
  show (match P[i]? with
    | some fd => runF Γ (callP Γ P k) fd ds M
    | none => R.bad) = _
  rw [h]
theorem oldOk_self (n : Nat) : ∀ M : Mh, oldOk n M M = true
  | [] => rfl
  | o :: r => by simp [oldOk, oldOk_self n r]
theorem oldOk_append (n : Nat) : ∀ (M t : Mh), oldOk n M (M ++ t) = true
  | [], t => rfl
  | o :: r, t => by
    show ((MO.beq o o || o.low n) && oldOk n r (r ++ t)) = true
    rw [oldOk_append n r t]; simp
theorem oldOk_set {n : Nat} {o : MO} (h : o.low n = true) : ∀ (M t : Mh) (i : Nat), oldOk n M (M.set i o ++ t) = true
  | [], t, i => rfl
  | a :: r, t, 0 => by
    show ((MO.beq o a || o.low n) && oldOk n r (r ++ t)) = true
    rw [h, oldOk_append n r t]; simp
  | a :: r, t, i + 1 => by
    show ((MO.beq a a || a.low n) && oldOk n r (r.set i o ++ t)) = true
    rw [oldOk_set h r t i]; simp
theorem nrs_iff {ds : List D} : D.nrs ds = true ↔ ∀ d ∈ ds, D.nr d = true := by
  induction ds with
  | nil => simp [D.nrs]
  | cons d ds ih => simp [D.nrs, ih]
@[simp] theorem nrs_append {a b : List D} : D.nrs (a ++ b) = (D.nrs a && D.nrs b) := by
  rw [Bool.eq_iff_iff, Bool.and_eq_true, nrs_iff, nrs_iff, nrs_iff]
  constructor
  · intro h; exact ⟨fun d hd => h d (List.mem_append_left _ hd), fun d hd => h d (List.mem_append_right _ hd)⟩
  · intro ⟨h1, h2⟩ d hd
    rcases List.mem_append.mp hd with hd | hd
    · exact h1 d hd
    · exact h2 d hd
@[simp] theorem nrs_map {α : Type} {f : α → D} {l : List α} (h : ∀ x, (f x).nr = true) : D.nrs (l.map f) = true := by
  rw [nrs_iff]; intro d hd
  obtain ⟨x, _, rfl⟩ := List.mem_map.mp hd
  exact h x
/-- a call that hands on a reference -/
theorem callP_mut {Γ : List D} {P : List Fd} {k i : Nat} {fd : Fd} {ds : List D} {M : Mh} (h : P[i]? = some fd) (ha : ds.length = fd.ar) (hn : D.nrs ds = false) : callP Γ P (k + 1) i ds M = fin M (goF Γ (callP Γ P k) fd ds M) := by
  rw [callP_at h]; unfold runF; rw [if_pos ha, if_neg (by rw [hn]; decide)]
/-- a call with plain data that gives plain data -/
theorem callP_pureS {Γ : List D} {P : List Fd} {k i : Nat} {fd : Fd} {ds : List D} {M : Mh} {Q : D → Prop} (h : P[i]? = some fd) (ha : ds.length = fd.ar) (hn : D.nrs ds = true) (e : (goF Γ (callP Γ P k) fd ds (T [])).sat fun a _ => a.nr = true ∧ Q a) :
    (callP Γ P (k + 1) i ds M).sat fun a M' => Q a ∧ M' = M := by
  obtain ⟨a, M', e, q, r⟩ := e.ex
  unfold T at e
  rw [callP_at h]; unfold runF; rw [if_pos ha, if_pos hn, e]; simp only; rw [if_pos q]; exact ⟨r, rfl⟩
theorem callP_pure {Γ : List D} {P : List Fd} {k i : Nat} {fd : Fd} {ds : List D} {M : Mh} {d : D} (h : P[i]? = some fd) (ha : ds.length = fd.ar) (hn : D.nrs ds = true) (hd : d.nr = true) (e : (goF Γ (callP Γ P k) fd ds (T [])).sat fun a _ => a = d) :
    callP Γ P (k + 1) i ds M = .ok d M := by
  obtain ⟨a, M', e, q, r⟩ := (callP_pureS (M := M) (Q := fun a => a = d) h ha hn (e.mono fun a M' q => ⟨by rw [q]; exact hd, q⟩)).ex
  subst q; subst r; exact e
/-- a call with plain data that gives a new object -/
theorem callP_new {Γ : List D} {P : List Fd} {k i : Nat} {fd : Fd} {ds : List D} {M : Mh} (h : P[i]? = some fd) (ha : ds.length = fd.ar) (hn : D.nrs ds = true) (e : (goF Γ (callP Γ P k) fd ds (T [])).sat fun a _ => a.nr = false) :
    callP Γ P (k + 1) i ds M = fin M (goF Γ (callP Γ P k) fd ds M) := by
  obtain ⟨a, M', e, q⟩ := e.ex
  unfold T at e
  rw [callP_at h]; unfold runF; rw [if_pos ha, if_pos hn, e]; simp only; rw [if_neg (by rw [q]; decide)]
/-- .. by the kernel -/
def okIs (d : D) : R D → Bool
  | .ok a _ => D.beq a d
  | _ => false
theorem callP_dec {Γ : List D} {P : List Fd} {k i : Nat} {fd : Fd} {ds : List D} {M : Mh} {d : D} (h : P[i]? = some fd) (ha : ds.length = fd.ar) (hn : D.nrs ds = true) (hd : d.nr = true) (e : okIs d (goF Γ (callP Γ P k) fd ds []) = true) :
    callP Γ P (k + 1) i ds M = .ok d M := callP_pure h ha hn hd (by
  unfold T
  cases q : goF Γ (callP Γ P k) fd ds [] with
  | ok a M' => rw [q] at e; exact D.beq_eq e
  | exc c fs M' => rw [q] at e; cases e
  | bad => rw [q] at e; cases e)
theorem fin_ok {M t : Mh} {d : D} (h : d.nr = true) : fin M (.ok d (M ++ t)) = .ok d M := by
  unfold fin
  simp only [D.nr_low h, oldOk_append, Bool.and_self, if_true, List.take_left]
theorem fin_self {M : Mh} {d : D} (h : d.nr = true) : fin M (.ok d M) = .ok d M := by
  have := fin_ok (M := M) (t := []) h
  simpa using this
theorem fin_set {M t : Mh} {d : D} {i : Nat} {o : MO} (h : d.nr = true) (ho : ∀ n, o.low n = true) : fin M (.ok d (M.set i o ++ t)) = .ok d (M.set i o) := by
  unfold fin
  have e : (M.set i o ++ t).take M.length = M.set i o := by
    rw [show M.length = (M.set i o).length by simp, List.take_left]
  simp only [D.nr_low h, oldOk_set (ho _), Bool.and_self, if_true, e]
theorem fin_set0 {M : Mh} {d : D} {i : Nat} {o : MO} (h : d.nr = true) (ho : ∀ n, o.low n = true) : fin M (.ok d (M.set i o)) = .ok d (M.set i o) := by
  have := fin_set (M := M) (t := []) (i := i) (o := o) h ho
  simpa using this
theorem fin_new {M M' : Mh} : fin M (.ok (.ref M.length) M') = .ok (.ref M.length) M' := by
  unfold fin
  simp [D.low]
@[simp] theorem fin_bad {M : Mh} : fin M .bad = .bad := rfl

/-! ### the objects -/
@[simp] theorem get_at {M : Mh} {o : MO} {t : Mh} : (M ++ o :: t)[M.length]? = some o := by simp
@[simp] theorem get_at1 {M : Mh} {a o : MO} {t : Mh} : (M ++ a :: o :: t)[M.length + 1]? = some o := by simp
@[simp] theorem get_at2 {M : Mh} {a b o : MO} {t : Mh} : (M ++ a :: b :: o :: t)[M.length + 2]? = some o := by simp
@[simp] theorem set_at {M : Mh} {o o' : MO} {t : Mh} : (M ++ o :: t).set M.length o' = M ++ o' :: t := by
  rw [List.set_append_right _ _ (Nat.le_refl _)]; simp
@[simp] theorem set_at1 {M : Mh} {a o o' : MO} {t : Mh} : (M ++ a :: o :: t).set (M.length + 1) o' = M ++ a :: o' :: t := by
  rw [List.set_append_right _ _ (Nat.le_add_right _ _)]; simp
@[simp] theorem set_at2 {M : Mh} {a b o o' : MO} {t : Mh} : (M ++ a :: b :: o :: t).set (M.length + 2) o' = M ++ a :: b :: o' :: t := by
  rw [List.set_append_right _ _ (Nat.le_add_right _ _)]; simp
@[simp] theorem still_none {M : Mh} {xs : List D} : still M xs none = true := rfl
@[simp] theorem seqOf_tup {M : Mh} {ds : List D} : seqOf M (.tup ds) = some (true, ds) := rfl
@[simp] theorem seqOf_lst {M : Mh} {ds : List D} : seqOf M (.lst ds) = some (false, ds) := rfl
theorem seqOf_ref {M : Mh} {n : Nat} {ds : List D} (h : M[n]? = some (.lst ds)) : seqOf M (.ref n) = some (false, ds) := by
  show (match M[n]? with
    | some (.lst ds) => some (false, ds)
    | _ => none) = _
  rw [h]
@[simp] theorem ints_map : ∀ l : List Int, intsD (l.map D.int) = some l
  | [] => rfl
  | i :: r => by simp [intsD, ints_map r]
@[simp] theorem strs_map : ∀ l : List Str, strsD (l.map D.str) = some l
  | [] => rfl
  | i :: r => by simp [strsD, strs_map r]
@[simp] theorem bls_map : ∀ l : List Bool, blsD (l.map D.bl) = some l
  | [] => rfl
  | i :: r => by simp [blsD, bls_map r]

/-! ### loops -/
theorem forL_sat {f : D → Env → Mh → R F} {all : List D} {Q : F → Mh → Prop} (I : Nat → Env → Mh → Prop) : ∀ (xs : List D) (i : Nat) (env : Env) (M : Mh), I i env M →
    (∀ j x env M, xs[j]? = some x → I (i + j) env M → (f x env M).sat fun fl M' => match fl with
      | .nx e => I (i + j + 1) e M'
      | .ct e => I (i + j + 1) e M'
      | .bk e => Q (.nx e) M'
      | fl => Q fl M') → (∀ env M, I (i + xs.length) env M → Q (.nx env) M) → (forL f all none xs env M).sat Q
  | [], i, env, M, h0, hs, he => by
    unfold forL
    simp only [still_none, if_true]
    exact he env M h0
  | x :: xs, i, env, M, h0, hs, he => by
    unfold forL
    simp only [still_none, if_true]
    rw [sat_bind]
    have h1 := hs 0 x env M rfl h0
    refine h1.mono fun fl M' q => ?_
    have rec_ : ∀ env', I (i + 1) env' M' → (forL f all none xs env' M').sat Q := fun env' hI => forL_sat I xs (i + 1) env' M' hI (fun j y e M hj hI => by
      have := hs (j + 1) y e M (by simpa using hj) (by rw [show i + (j + 1) = i + 1 + j by omega]; exact hI)
      rw [show i + (j + 1) = i + 1 + j by omega] at this
      exact this) fun e M hI => he e M (by rw [List.length_cons, show i + (xs.length + 1) = i + 1 + xs.length by omega]; exact hI)
    cases fl with
    | nx e => exact rec_ e q
    | ct e => exact rec_ e q
    | bk e => exact q
    | rt d => exact q
    | ex c fs e => exact q
theorem compL_sat {f : D → Mh → R (Option D)} {all : List D} {Q : List D → Mh → Prop} (I : Nat → List D → Mh → Prop) : ∀ (xs : List D) (i : Nat) (M : Mh) (acc : List D), I i acc M →
    (∀ j x M acc, xs[j]? = some x → I (i + j) acc M → (f x M).sat fun o M' => match o with
      | some y => acc.length < LINE ∧ I (i + j + 1) (acc ++ [y]) M'
      | none => I (i + j + 1) acc M') → (∀ acc M, I (i + xs.length) acc M → Q acc M) → (compL f all none xs M acc).sat Q
  | [], i, M, acc, h0, hs, he => by
    unfold compL
    simp only [still_none, if_true]
    exact he acc M h0
  | x :: xs, i, M, acc, h0, hs, he => by
    unfold compL
    simp only [still_none, if_true]
    rw [sat_bind]
    have h1 := hs 0 x M acc rfl h0
    refine h1.mono fun o M' q => ?_
    have rec_ : ∀ acc', I (i + 1) acc' M' → (compL f all none xs M' acc').sat Q := fun acc' hI => compL_sat I xs (i + 1) M' acc' hI (fun j y M acc hj hI => by
      have := hs (j + 1) y M acc (by simpa using hj) (by rw [show i + (j + 1) = i + 1 + j by omega]; exact hI)
      rw [show i + (j + 1) = i + 1 + j by omega] at this
      exact this) fun acc M hI => he acc M (by rw [List.length_cons, show i + (xs.length + 1) = i + 1 + xs.length by omega]; exact hI)
    cases o with
    | none => exact rec_ acc q
    | some y =>
      simp only
      rw [if_pos q.1]
      exact rec_ _ q.2
/-- .. of plain elements -/
theorem compL_map {f : D → Mh → R (Option D)} {all : List D} {M : Mh} {g : D → D} : ∀ (xs acc : List D), (∀ x ∈ xs, f x M = .ok (some (g x)) M) → acc.length + xs.length ≤ LINE → compL f all none xs M acc = .ok (acc ++ xs.map g) M
  | [], acc, _, _ => by unfold compL; simp
  | x :: xs, acc, h, hl => by
    unfold compL
    rw [List.length_cons] at hl
    simp only [still_none, if_true]
    rw [h x List.mem_cons_self, R.bind_ok]
    simp only
    rw [if_pos (by omega), compL_map xs (acc ++ [g x]) (fun y hy => h y (List.mem_cons_of_mem _ hy)) (by simp; omega)]
    simp
theorem compL_filter {f : D → Mh → R (Option D)} {all : List D} {M : Mh} {p : D → Bool} {g : D → D} : ∀ (xs acc : List D), (∀ x ∈ xs, f x M = .ok (if p x then some (g x) else none) M) → acc.length + xs.length ≤ LINE → compL f all none xs M acc = .ok (acc ++ (xs.filter p).map g) M
  | [], acc, _, _ => by unfold compL; simp
  | x :: xs, acc, h, hl => by
    unfold compL
    rw [List.length_cons] at hl
    simp only [still_none, if_true]
    rw [h x List.mem_cons_self, R.bind_ok]
    by_cases hp : p x = true
    · simp only [hp, if_true]
      rw [if_pos (by omega), compL_filter xs (acc ++ [g x]) (fun y hy => h y (List.mem_cons_of_mem _ hy)) (by simp; omega), List.filter_cons_of_pos hp]
      simp
    · simp only [hp]
      simp only [Bool.false_eq_true, if_false]
      rw [compL_filter xs acc (fun y hy => h y (List.mem_cons_of_mem _ hy)) (by omega), List.filter_cons_of_neg hp]
end RF
namespace RF
open PySem (Str Operator CmpOp)
/-! ### steps that the kernel does not unfold by itself -/
/-- by what is true -/
def condR {α : Type} (o : Option Bool) (a b : R α) : R α := match o with
  | some true => a
  | some false => b
  | none => .bad
@[simp] theorem condR_t {α : Type} {a b : R α} : condR (some true) a b = a := (rfl)
@[simp] theorem condR_f {α : Type} {a b : R α} : condR (some false) a b = b := (rfl)
@[simp] theorem condR_n {α : Type} {a b : R α} : condR none a b = .bad := (rfl)
def blO : D → Option Bool
  | .bl b => some b
  | _ => none
@[simp] theorem blO_bl {b : Bool} : blO (.bl b) = some b := (rfl)
theorem condR_blO {α : Type} {r : D} {a b : R α} : (match r with
    | .bl true => a
    | .bl false => b
    | _ => .bad) = condR (blO r) a b := by
  cases r with
  | bl c => cases c <;> rfl
  | _ => rfl
/-- what follows a statement -/
def nextF (f : F) (M : Mh) (g : Env → Mh → R F) : R F := match f with
  | .nx e => g e M
  | f => .ok f M
section
variable {e : Env} {M : Mh} {g : Env → Mh → R F} {d : D} {c : Nat} {fs : List D}
@[simp] theorem nextF_nx : nextF (.nx e) M g = g e M := (rfl)
@[simp] theorem nextF_rt : nextF (.rt d) M g = .ok (.rt d) M := (rfl)
@[simp] theorem nextF_bk : nextF (.bk e) M g = .ok (.bk e) M := (rfl)
@[simp] theorem nextF_ct : nextF (.ct e) M g = .ok (.ct e) M := (rfl)
@[simp] theorem nextF_ex : nextF (.ex c fs e) M g = .ok (.ex c fs e) M := (rfl)
end
/-! ### the steps of a run, as rewritings: they ask for a state that is marked (T M), so nothing is rewritten ahead of its turn -/
section
variable {Γ : List D} {Φ : Nat → List D → Mh → R D} {env : Env} {M : Mh} {a b c e o i : E} {es : Es}
@[simp] theorem evE_var {i : Nat} : evE Γ Φ (.var i) env (T M) = match env[i]? with
    | some (some d) => .ok d (T M)
    | _ => .bad := by first | rfl | (rw [evE]; rfl) | rw [evE]
@[simp] theorem evE_con {d : D} : evE Γ Φ (.con d) env (T M) = .ok d (T M) := by first | rfl | (rw [evE]; rfl) | rw [evE]
@[simp] theorem evE_tyc {n : String} : evE Γ Φ (.tyc n) env (T M) = .ok (.ty n) (T M) := by first | rfl | (rw [evE]; rfl) | rw [evE]
@[simp] theorem evE_glob {g : Nat} : evE Γ Φ (.glob g) env (T M) = ofO (T M) Γ[g]? := by first | rfl | (rw [evE]; rfl) | rw [evE]
@[simp] theorem evE_bin {op : Operator} : evE Γ Φ (.bin op a b) env (T M) = (evE Γ Φ a env (T M)).bind fun x M1 => (evE Γ Φ b env M1).bind fun y M2 => binD op x y M2 := by first | rfl | (rw [evE]; rfl) | rw [evE]
@[simp] theorem evE_neg : evE Γ Φ (.neg a) env (T M) = (evE Γ Φ a env (T M)).bind fun x M1 => match x with
    | .int i => .ok (.int (-i)) M1
    | _ => .bad := by first | rfl | (rw [evE]; rfl) | rw [evE]
@[simp] theorem evE_not : evE Γ Φ (.not a) env (T M) = (evE Γ Φ a env (T M)).bind fun x M1 => ofO M1 ((truD M1 x).map fun b => .bl (!b)) := by first | rfl | (rw [evE]; rfl) | rw [evE]
@[simp] theorem evE_and : evE Γ Φ (.and a b) env (T M) = (evE Γ Φ a env (T M)).bind fun x M1 => condR (truD M1 x) (evE Γ Φ b env M1) (.ok x M1) := by first | rfl | (rw [evE]; rfl) | rw [evE]
@[simp] theorem evE_or : evE Γ Φ (.or a b) env (T M) = (evE Γ Φ a env (T M)).bind fun x M1 => condR (truD M1 x) (.ok x M1) (evE Γ Φ b env M1) := by first | rfl | (rw [evE]; rfl) | rw [evE]
@[simp] theorem evE_ite : evE Γ Φ (.ite c a b) env (T M) = (evE Γ Φ c env (T M)).bind fun x M1 => condR (truD M1 x) (evE Γ Φ a env M1) (evE Γ Φ b env M1) := by first | rfl | (rw [evE]; rfl) | rw [evE]
@[simp] theorem evE_cmp {op : CmpOp} : evE Γ Φ (.cmp op a b) env (T M) = (evE Γ Φ a env (T M)).bind fun x M1 => (evE Γ Φ b env M1).bind fun y M2 => cmpD op x y M2 := by first | rfl | (rw [evE]; rfl) | rw [evE]
@[simp] theorem evE_chn {op op' : CmpOp} : evE Γ Φ (.chn op op' a b c) env (T M) = (evE Γ Φ a env (T M)).bind fun x M1 => (evE Γ Φ b env M1).bind fun y M2 => (cmpD op x y M2).bind fun r M3 => condR (blO r) ((evE Γ Φ c env M3).bind fun z M4 => cmpD op' y z M4) (.ok (.bl false) M3) := by rw [evE]; congr 1; funext x M1; congr 1; funext y M2; congr 1; funext r M3; exact condR_blO
@[simp] theorem evE_tup : evE Γ Φ (.tup es) env (T M) = (evEs Γ Φ es env (T M)).bind fun ds M1 => if ds.length ≤ LINE then .ok (.tup ds) M1 else .bad := by first | rfl | (rw [evE]; rfl) | rw [evE]
@[simp] theorem evE_lst {mu : Bool} : evE Γ Φ (.lst mu es) env (T M) = (evEs Γ Φ es env (T M)).bind fun ds M1 => if ds.length ≤ LINE then (if mu then .ok (.ref M1.length) (M1 ++ [.lst ds]) else .ok (.lst ds) M1) else .bad := by first | rfl | (rw [evE]; rfl) | rw [evE]
@[simp] theorem evE_call {f : Nat} : evE Γ Φ (.call f es) env (T M) = (evEs Γ Φ es env (T M)).bind fun ds M1 => Φ f ds M1 := by first | rfl | (rw [evE]; rfl) | rw [evE]
@[simp] theorem evE_bi {b : Bi} : evE Γ Φ (.bi b es) env (T M) = (evEs Γ Φ es env (T M)).bind fun ds M1 => biD b ds M1 := by first | rfl | (rw [evE]; rfl) | rw [evE]
@[simp] theorem evE_mt {m : Mt} : evE Γ Φ (.mt m o es) env (T M) = (evE Γ Φ o env (T M)).bind fun x M1 => if mtOk m x M1 then (evEs Γ Φ es env M1).bind fun ds M2 => mtD m x ds M2 else .bad := by first | rfl | (rw [evE]; rfl) | rw [evE]
@[simp] theorem evE_sub : evE Γ Φ (.sub a i) env (T M) = (evE Γ Φ a env (T M)).bind fun x M1 => (evE Γ Φ i env M1).bind fun y M2 => subD x y M2 := by first | rfl | (rw [evE]; rfl) | rw [evE]
@[simp] theorem evE_slc {lo hi : E} : evE Γ Φ (.slc a lo hi) env (T M) = (evE Γ Φ a env (T M)).bind fun x M1 => (evE Γ Φ lo env M1).bind fun y M2 => match partD y with
    | some _ => (evE Γ Φ hi env M2).bind fun z M3 => slcD x y z M3
    | none => .bad := by first | rfl | (rw [evE]; rfl) | rw [evE]
@[simp] theorem evE_rev : evE Γ Φ (.rev a) env (T M) = (evE Γ Φ a env (T M)).bind fun x M1 => revD x M1 := by first | rfl | (rw [evE]; rfl) | rw [evE]
@[simp] theorem evE_frz : evE Γ Φ (.frz a) env (T M) = (evE Γ Φ a env (T M)).bind fun x M1 => frzD x M1 := by first | rfl | (rw [evE]; rfl) | rw [evE]
@[simp] theorem evE_comp {mu : Bool} {elt : E} {g : G} {it : I} {cs : Es} {own : List Nat} : evE Γ Φ (.comp mu elt g it cs own) env (T M) = (evI Γ Φ it env (T M)).bind fun p M1 =>
      (compL (fun x M => (asg Γ Φ g x (wipeE env own) M).bind fun env2 M2 => (evC Γ Φ cs env2 M2).bind fun b M3 => if b then (evE Γ Φ elt env2 M3).only fun y M4 => .ok (some y) M4 else .ok none M3) p.1 p.2 p.1 M1 []).only
        fun ds M2 => if mu then .ok (.ref M2.length) (M2 ++ [.lst ds]) else .ok (.lst ds) M2 := by first | rfl | (rw [evE]; rfl) | rw [evE]
@[simp] theorem evE_tupI {it : I} : evE Γ Φ (.tupI it) env (T M) = (evI Γ Φ it env (T M)).bind fun p M1 => if p.1.length ≤ LINE then .ok (.tup p.1) M1 else .bad := by first | rfl | (rw [evE]; rfl) | rw [evE]
@[simp] theorem evE_lstI {mu : Bool} {it : I} : evE Γ Φ (.lstI mu it) env (T M) = (evI Γ Φ it env (T M)).bind fun p M1 => if p.1.length ≤ LINE then (if mu then .ok (.ref M1.length) (M1 ++ [.lst p.1]) else .ok (.lst p.1) M1) else .bad := by first | rfl | (rw [evE]; rfl) | rw [evE]
@[simp] theorem evE_un {u : Un} : evE Γ Φ (.un u a) env (T M) = (evE Γ Φ a env (T M)).bind fun x M1 => unD u x M1 := by rw [evE]
@[simp] theorem evE_lmul {mu : Bool} {n : E} : evE Γ Φ (.lmul mu es n) env (T M) = (evEs Γ Φ es env (T M)).bind fun ds M1 => if ds.length ≤ LINE then (evE Γ Φ n env M1).bind fun y M2 => match y with
      | .int k => if rngOk k && decide (ds.length * k.toNat ≤ LINE) then newL mu (List.replicate k.toNat ds).flatten M2 else .bad
      | _ => .bad
    else .bad := by first | rfl | (rw [evE]; rfl) | rw [evE]
@[simp] theorem evEs_nil : evEs Γ Φ .nil env (T M) = .ok [] (T M) := by first | rfl | (rw [evEs]; rfl) | rw [evEs]
@[simp] theorem evEs_cons : evEs Γ Φ (.cons e es) env (T M) = (evE Γ Φ e env (T M)).bind fun d M1 => (evEs Γ Φ es env M1).bind fun ds M2 => .ok (d :: ds) M2 := by first | rfl | (rw [evEs]; rfl) | rw [evEs]
@[simp] theorem evC_nil : evC Γ Φ .nil env (T M) = .ok true (T M) := by first | rfl | (rw [evC]; rfl) | rw [evC]
@[simp] theorem evC_cons : evC Γ Φ (.cons e es) env (T M) = (evE Γ Φ e env (T M)).bind fun x M1 => condR (truD M1 x) (evC Γ Φ es env M1) (.ok false M1) := by first | rfl | (rw [evC]; rfl) | rw [evC]
@[simp] theorem evI_ex : evI Γ Φ (.ex e) env (T M) = (evE Γ Φ e env (T M)).bind fun d M1 => ofO M1 (iterD d M1) := by first | rfl | (rw [evI]; rfl) | rw [evI]
@[simp] theorem evI_rng1 : evI Γ Φ (.rng1 a) env (T M) = (evE Γ Φ a env (T M)).bind fun x M1 => match x with
    | .int j => if rngOk j then .ok (rngL 0 j, none) M1 else .bad
    | _ => .bad := by first | rfl | (rw [evI]; rfl) | rw [evI]
@[simp] theorem evI_rng2 : evI Γ Φ (.rng2 a b) env (T M) = (evE Γ Φ a env (T M)).bind fun x M1 => (evE Γ Φ b env M1).bind fun y M2 => match x, y with
    | .int i, .int j => if rngOk i && rngOk j then .ok (rngL i j, none) M2 else .bad
    | _, _ => .bad := by first | rfl | (rw [evI]; rfl) | rw [evI]
@[simp] theorem evI_zip : evI Γ Φ (.zip a b) env (T M) = (evE Γ Φ a env (T M)).bind fun x M1 => (evE Γ Φ b env M1).bind fun y M2 => match fzOf x, fzOf y with
    | some xs, some ys => .ok (List.zipWith (fun p q => D.tup [p, q]) xs ys, none) M2
    | _, _ => .bad := by first | rfl | (rw [evI]; rfl) | rw [evI]
@[simp] theorem evI_enm : evI Γ Φ (.enm a) env (T M) = (evE Γ Φ a env (T M)).bind fun x M1 => match fzOf x with
    | some xs => .ok (xs.zipIdx.map (fun p => D.tup [.int p.2, p.1]), none) M1
    | none => .bad := by first | rfl | (rw [evI]; rfl) | rw [evI]
@[simp] theorem evI_enmF : evI Γ Φ (.enmF a b) env (T M) = (evE Γ Φ a env (T M)).bind fun x M1 => (evE Γ Φ b env M1).bind fun y M2 => match fzOf x, y with
    | some xs, .int c => if 0 ≤ c ∧ c < 1000000 then .ok ((xs.zipIdx c.toNat).map (fun p => D.tup [.int p.2, p.1]), none) M2 else .bad
    | _, _ => .bad := by first | rfl | (rw [evI]; rfl) | rw [evI]
@[simp] theorem evI_rng3 : evI Γ Φ (.rng3 a b c) env (T M) = (evE Γ Φ a env (T M)).bind fun x M1 => (evE Γ Φ b env M1).bind fun y M2 => (evE Γ Φ c env M2).bind fun z M3 => match x, y, z with
    | .int i, .int j, .int k => if rngOk i && rngOk j && decide (k ≠ 0) && decide (k.natAbs < 1073741824) && PySem.Builtin.Range.small i j k && decide (0 ≤ PySem.Builtin.Range.rangeSize i j k) then .ok (rng3L i k (PySem.Builtin.Range.rangeSize i j k).toNat, none) M3 else .bad
    | _, _, _ => .bad := by first | rfl | (rw [evI]; rfl) | rw [evI]
@[simp] theorem evI_zipR {ia ib : I} : evI Γ Φ (.zipR ia ib) env (T M) = (evI Γ Φ ia env (T M)).bind fun p M1 => (evI Γ Φ ib env M1).bind fun q M2 => .ok (List.zipWith (fun x y => D.tup [x, y]) p.1 q.1, none) M2 := by rw [evI]
@[simp] theorem asg_nm {i : Nat} {d : D} : asg Γ Φ (.nm i) d env (T M) = .ok (env.set i (some d)) (T M) := by first | rfl | (rw [asg]; rfl) | rw [asg]
@[simp] theorem asg_tp {gs : Gs} {d : D} : asg Γ Φ (.tp gs) d env (T M) = match seqOf (T M) d with
    | some (_, ds) => asgs Γ Φ gs ds env (T M)
    | _ => .bad := by first | rfl | (rw [asg]; rfl) | rw [asg]
@[simp] theorem asg_sb {d : D} : asg Γ Φ (.sb o i) d env (T M) = ((evE Γ Φ o env (T M)).bind fun x M1 => (evE Γ Φ i env M1).bind fun y M2 => match putD x y d M2 with
      | some M3 => .ok () M3
      | none => .bad).only fun _ M3 => .ok env M3 := by first | rfl | (rw [asg]; rfl) | rw [asg]
@[simp] theorem asgs_nil : asgs Γ Φ .nil [] env (T M) = .ok env (T M) := by first | rfl | (rw [asgs]; rfl) | rw [asgs]
@[simp] theorem asgs_cons {g : G} {gs : Gs} {d : D} {ds : List D} : asgs Γ Φ (.cons g gs) (d :: ds) env (T M) = (asg Γ Φ g d env (T M)).bind fun env' M' => asgs Γ Φ gs ds env' M' := by first | rfl | (rw [asgs]; rfl) | rw [asgs]
@[simp] theorem exS_set {g : G} : exS Γ Φ (.set g e) env (T M) = (evE Γ Φ e env (T M)).bindS env fun d M1 => (asg Γ Φ g d env M1).bind fun env' M2 => .ok (.nx env') M2 := by first | rfl | (rw [exS]; rfl) | rw [exS]
@[simp] theorem exS_expr : exS Γ Φ (.expr e) env (T M) = (evE Γ Φ e env (T M)).bindS env fun _ M1 => .ok (.nx env) M1 := by first | rfl | (rw [exS]; rfl) | rw [exS]
@[simp] theorem exS_ret : exS Γ Φ (.ret e) env (T M) = (evE Γ Φ e env (T M)).bindS env fun d M1 => .ok (.rt d) M1 := by first | rfl | (rw [exS]; rfl) | rw [exS]
@[simp] theorem exS_ifs {x y : Ss} : exS Γ Φ (.ifs c x y) env (T M) = (evE Γ Φ c env (T M)).bindS env fun d M1 => condR (truD M1 d) (exSs Γ Φ x env M1) (exSs Γ Φ y env M1) := by first | rfl | (rw [exS]; rfl) | rw [exS]
@[simp] theorem exS_for {g : G} {it : I} {body : Ss} : exS Γ Φ (.for g it body) env (T M) = (evI Γ Φ it env (T M)).bindS env fun p M1 =>
      forL (fun x env M => (asg Γ Φ g x env M).bind fun env' M' => exSs Γ Φ body env' M') p.1 p.2 p.1 env M1 := by first | rfl | (rw [exS]; rfl) | rw [exS]
@[simp] theorem exS_brk : exS Γ Φ .brk env (T M) = .ok (.bk env) (T M) := by first | rfl | (rw [exS]; rfl) | rw [exS]
@[simp] theorem exS_cnt : exS Γ Φ .cnt env (T M) = .ok (.ct env) (T M) := by first | rfl | (rw [exS]; rfl) | rw [exS]
@[simp] theorem exS_pas : exS Γ Φ .pas env (T M) = .ok (.nx env) (T M) := by first | rfl | (rw [exS]; rfl) | rw [exS]
@[simp] theorem exS_nvr : exS Γ Φ .nvr env (T M) = .bad := by first | rfl | (rw [exS]; rfl) | rw [exS]
@[simp] theorem exSs_nil : exSs Γ Φ .nil env (T M) = .ok (.nx env) (T M) := by first | rfl | (rw [exSs]; rfl) | rw [exSs]
@[simp] theorem exSs_cons {s : S} {ss : Ss} : exSs Γ Φ (.cons s ss) env (T M) = (exS Γ Φ s env (T M)).bind fun f M1 => nextF f M1 (exSs Γ Φ ss) := by first | rfl | (rw [exSs]; rfl) | rw [exSs]
end
@[simp] theorem ofO_some {α : Type} {M : Mh} {a : α} : ofO M (some a) = .ok a M := (rfl)
@[simp] theorem ofO_none {α : Type} {M : Mh} : ofO M (none : Option α) = .bad := (rfl)
section
variable {M : Mh} {ds es : List D} {x y d : D} {i j k : Int} {s t : Str} {b c : Bool} {n : Nat}
@[simp] theorem T_append {l : Mh} : T M ++ l = T (M ++ l) := (rfl)
@[simp] theorem T_length : (T M).length = M.length := (rfl)
@[simp] theorem iterD_str : iterD (.str s) (T M) = some (signs s, none) := (rfl)
@[simp] theorem iterD_tup : iterD (.tup ds) (T M) = some (ds, none) := (rfl)
@[simp] theorem iterD_lst : iterD (.lst ds) (T M) = some (ds, none) := (rfl)
@[simp] theorem truD_non : truD (T M) .non = some false := (rfl)
@[simp] theorem truD_bl : truD (T M) (.bl b) = some b := (rfl)
@[simp] theorem truD_int : truD (T M) (.int i) = some (i != 0) := (rfl)
@[simp] theorem truD_str : truD (T M) (.str s) = some ((s.length : Int) != 0) := (rfl)
@[simp] theorem truD_tup : truD (T M) (.tup ds) = some (!ds.isEmpty) := (rfl)
@[simp] theorem truD_lst : truD (T M) (.lst ds) = some (!ds.isEmpty) := (rfl)
@[simp] theorem seq_tup : seqOf (T M) (.tup ds) = some (true, ds) := (rfl)
@[simp] theorem seq_lst : seqOf (T M) (.lst ds) = some (false, ds) := (rfl)
@[simp] theorem seq_ref : seqOf (T M) (.ref n) = match M[n]? with
    | some (.lst ds) => some (false, ds)
    | _ => none := (rfl)
@[simp] theorem add_ii : binD .Add (.int i) (.int j) (T M) = .ok (.int (i + j)) (T M) := (rfl)
@[simp] theorem sub_ii : binD .Sub (.int i) (.int j) (T M) = .ok (.int (i - j)) (T M) := (rfl)
@[simp] theorem mul_ii : binD .Mult (.int i) (.int j) (T M) = if mulOk i j then .ok (.int (i * j)) (T M) else .bad := (rfl)
@[simp] theorem div_ii : binD .FloorDiv (.int i) (.int j) (T M) = if divOk j then .ok (.int (i.fdiv j)) (T M) else .bad := (rfl)
@[simp] theorem mod_ii : binD .Mod (.int i) (.int j) (T M) = if j = 0 then .bad else .ok (.int (i.fmod j)) (T M) := (rfl)
@[simp] theorem pow_ii : binD .Pow (.int i) (.int j) (T M) = if powOk i j then .ok (.int (i ^ j.toNat)) (T M) else .bad := (rfl)
@[simp] theorem add_ss : binD .Add (.str s) (.str t) (T M) = if s.length + t.length ≤ LINE then .ok (.str (s ++ t)) (T M) else .bad := (rfl)
@[simp] theorem add_tt : binD .Add (.tup ds) (.tup es) (T M) = if ds.length + es.length ≤ LINE then .ok (.tup (ds ++ es)) (T M) else .bad := (rfl)
@[simp] theorem add_ll : binD .Add (.lst ds) (.lst es) (T M) = if ds.length + es.length ≤ LINE then .ok (.lst (ds ++ es)) (T M) else .bad := (rfl)
@[simp] theorem mul_ti : binD .Mult (.tup ds) (.int k) (T M) = if ds.length ≤ 1000 && decide (k ≤ 1000) && decide (-1000 ≤ k) then .ok (.tup (List.replicate k.toNat ds).flatten) (T M) else .bad := (rfl)
@[simp] theorem mul_si : binD .Mult (.str s) (.int k) (T M) = if s.length ≤ 1000 && decide (k ≤ 1000) && decide (-1000 ≤ k) then .ok (.str (strRep s k)) (T M) else .bad := (rfl)
@[simp] theorem lt_ii : cmpD .Lt (.int i) (.int j) (T M) = .ok (.bl (decide (i < j))) (T M) := (rfl)
@[simp] theorem le_ii : cmpD .LtE (.int i) (.int j) (T M) = .ok (.bl (decide (i ≤ j))) (T M) := (rfl)
@[simp] theorem gt_ii : cmpD .Gt (.int i) (.int j) (T M) = .ok (.bl (decide (j < i))) (T M) := (rfl)
@[simp] theorem ge_ii : cmpD .GtE (.int i) (.int j) (T M) = .ok (.bl (decide (j ≤ i))) (T M) := (rfl)
@[simp] theorem lt_ss : cmpD .Lt (.str s) (.str t) (T M) = .ok (.bl (strLt s t)) (T M) := (rfl)
@[simp] theorem eq_xy : cmpD .Eq x y (T M) = ofO (T M) ((eqD (T M) x y).map D.bl) := (rfl)
@[simp] theorem ne_xy : cmpD .NotEq x y (T M) = ofO (T M) ((eqD (T M) x y).map fun b => D.bl (!b)) := (rfl)
@[simp] theorem in_xy : cmpD .In x y (T M) = ofO (T M) ((inD (T M) x y).map D.bl) := (rfl)
@[simp] theorem notIn_xy : cmpD .NotIn x y (T M) = ofO (T M) ((inD (T M) x y).map fun b => D.bl (!b)) := (rfl)
@[simp] theorem is_n : cmpD .Is x .non (T M) = .ok (.bl (match x with | .non => true | _ => false)) (T M) := (rfl)
@[simp] theorem isNot_n : cmpD .IsNot x .non (T M) = .ok (.bl (match x with | .non => false | _ => true)) (T M) := (rfl)
@[simp] theorem is_bb : cmpD .Is (.bl b) (.bl c) (T M) = .ok (.bl (decide (b = c))) (T M) := (rfl)
@[simp] theorem isNot_bb : cmpD .IsNot (.bl b) (.bl c) (T M) = .ok (.bl (!decide (b = c))) (T M) := (rfl)
@[simp] theorem eqD_ii : eqD (T M) (.int i) (.int j) = some (i == j) := by simp [eqD, rd, D.dep, D.eqv]
@[simp] theorem eqD_ss : eqD (T M) (.str s) (.str t) = some (s == t) := by simp [eqD, rd, D.dep, D.eqv]
@[simp] theorem eqD_bb : eqD (T M) (.bl b) (.bl c) = some (b == c) := by simp [eqD, rd, D.dep, D.eqv]
@[simp] theorem inD_tup : inD (T M) x (.tup ds) = if (x.flat && ds.all D.flat) || (x.dep 60 && D.deps 59 ds) then some (ds.any fun z => D.eqv z x) else none := (rfl)
@[simp] theorem inD_lst : inD (T M) x (.lst ds) = if (x.flat && ds.all D.flat) || (x.dep 60 && D.deps 59 ds) then some (ds.any fun z => D.eqv z x) else none := (rfl)
@[simp] theorem inD_str : inD (T M) (.str s) (.str t) = some (inStr s t) := (rfl)
@[simp] theorem bi_len_s : biD .len [.str s] (T M) = .ok (.int s.length) (T M) := (rfl)
@[simp] theorem bi_len_t : biD .len [.tup ds] (T M) = .ok (.int ds.length) (T M) := (rfl)
@[simp] theorem bi_len_l : biD .len [.lst ds] (T M) = .ok (.int ds.length) (T M) := (rfl)
@[simp] theorem bi_len_r : biD .len [.ref n] (T M) = match seqOf (T M) (.ref n) with
    | some (_, xs) => .ok (.int xs.length) (T M)
    | none => .bad := (rfl)
@[simp] theorem bi_abs : biD .abs [.int i] (T M) = .ok (.int (if i < 0 then -i else i)) (T M) := (rfl)
@[simp] theorem bi_int_i : biD .int [.int i] (T M) = .ok (.int i) (T M) := (rfl)
@[simp] theorem bi_int_b : biD .int [.bl b] (T M) = .ok (.int (if b then 1 else 0)) (T M) := (rfl)
@[simp] theorem bi_str : biD .str [.int i] (T M) = if i.natAbs.log2 < 1920 then .ok (.str (toString i)) (T M) else .bad := (rfl)
@[simp] theorem bi_max2 : biD .max [.int i, .int j] (T M) = .ok (.int (if j > i then j else i)) (T M) := (rfl)
@[simp] theorem bi_min2 : biD .min [.int i, .int j] (T M) = .ok (.int (if j < i then j else i)) (T M) := (rfl)
@[simp] theorem bi_max_t : biD .max [.tup ds] (T M) = ofO (T M) (((intsD ds).bind maxI).map D.int) := (rfl)
@[simp] theorem bi_max_l : biD .max [.lst ds] (T M) = ofO (T M) (((intsD ds).bind maxI).map D.int) := (rfl)
@[simp] theorem bi_min_t : biD .min [.tup ds] (T M) = ofO (T M) (((intsD ds).bind minI).map D.int) := (rfl)
@[simp] theorem bi_min_l : biD .min [.lst ds] (T M) = ofO (T M) (((intsD ds).bind minI).map D.int) := (rfl)
@[simp] theorem bi_sum : biD .sum [.lst ds] (T M) = ofO (T M) ((intsD ds).map fun l => D.int l.sum) := (rfl)
@[simp] theorem bi_all : biD .all [.lst ds] (T M) = ofO (T M) ((blsD ds).map fun l => D.bl (l.all id)) := (rfl)
@[simp] theorem bi_any : biD .any [.lst ds] (T M) = ofO (T M) ((blsD ds).map fun l => D.bl (l.any id)) := (rfl)
@[simp] theorem bi_tuple_t : biD .tuple [.tup ds] (T M) = .ok (.tup ds) (T M) := (rfl)
@[simp] theorem bi_tuple_l : biD .tuple [.lst ds] (T M) = .ok (.tup ds) (T M) := (rfl)
@[simp] theorem bi_tuple_r : biD .tuple [.ref n] (T M) = match seqOf (T M) (.ref n) with
    | some (_, xs) => .ok (.tup xs) (T M)
    | none => .bad := (rfl)
@[simp] theorem bi_list_s : biD .list [.str s] (T M) = .ok (.lst (signs s)) (T M) := (rfl)
@[simp] theorem bi_list_t : biD .list [.tup ds] (T M) = .ok (.lst ds) (T M) := (rfl)
@[simp] theorem bi_list_l : biD .list [.lst ds] (T M) = .ok (.lst ds) (T M) := (rfl)
@[simp] theorem bi_isi {q : String} : biD .isinst [d, .ty q] (T M) = match tyOf (T M) d with
    | some t => ofO (T M) ((isTy t q).map D.bl)
    | none => .bad := (rfl)
@[simp] theorem tyOf_bl : tyOf (T M) (.bl b) = some "bool" := (rfl)
@[simp] theorem tyOf_int : tyOf (T M) (.int i) = some "int" := (rfl)
@[simp] theorem tyOf_str : tyOf (T M) (.str s) = some "str" := (rfl)
@[simp] theorem tyOf_tup : tyOf (T M) (.tup ds) = some "tuple" := (rfl)
@[simp] theorem tyOf_lst : tyOf (T M) (.lst ds) = some "list" := (rfl)
@[simp] theorem tyOf_non : tyOf (T M) .non = some "NoneType" := (rfl)
@[simp] theorem mt_append_r : mtD .append (.ref n) [d] (T M) = match M[n]? with
    | some (.lst xs) => if xs.length < LINE then .ok .non (T (M.set n (.lst (xs ++ [d])))) else .bad
    | _ => .bad := (rfl)
@[simp] theorem mt_join_l : mtD .join (.str s) [.lst ds] (T M) = match strsD ds with
      | some ys => if (ys.map Str.length).sum + ys.length * s.length ≤ LINE then .ok (.str (Str.join s ys)) (T M) else .bad
      | none => .bad := (rfl)
@[simp] theorem mt_join_t : mtD .join (.str s) [.tup ds] (T M) = match strsD ds with
      | some ys => if (ys.map Str.length).sum + ys.length * s.length ≤ LINE then .ok (.str (Str.join s ys)) (T M) else .bad
      | none => .bad := (rfl)
@[simp] theorem newL_t : newL true ds (T M) = .ok (.ref M.length) (T (M ++ [.lst ds])) := (rfl)
@[simp] theorem newL_f : newL false ds (T M) = .ok (.lst ds) (T M) := (rfl)
@[simp] theorem un_lenset_t : unD .lenset (.tup ds) (T M) = match intsD ds with
      | some l => if l.length ≤ 4000 then .ok (.int ((ddI l).length : Nat)) (T M) else .bad
      | none => .bad := (rfl)
@[simp] theorem un_lenset_l : unD .lenset (.lst ds) (T M) = match intsD ds with
      | some l => if l.length ≤ 4000 then .ok (.int ((ddI l).length : Nat)) (T M) else .bad
      | none => .bad := (rfl)
@[simp] theorem un_listM_t : unD .listM (.tup ds) (T M) = .ok (.ref M.length) (T (M ++ [.lst ds])) := (rfl)
@[simp] theorem un_listM_l : unD .listM (.lst ds) (T M) = .ok (.ref M.length) (T (M ++ [.lst ds])) := (rfl)
@[simp] theorem un_tab {ks vs : List D} : unD (.tab ks vs) x (T M) = if keyOk x && ks.all keyOk && vs.all D.flat && nodupD ks && decide (ks.length = vs.length) && decide (ks.length ≤ 15) then ofO (T M) (tabD ks vs x) else .bad := (rfl)
@[simp] theorem mt_pop_0 : mtD .pop (.ref n) [] (T M) = match M[n]? with
    | some (.lst xs) => match xs[xs.length - 1]? with
      | some y => .ok y (T (M.set n (.lst xs.dropLast)))
      | none => .bad
    | _ => .bad := (rfl)
@[simp] theorem mt_pop_1 : mtD .pop (.ref n) [.int i] (T M) = match M[n]? with
    | some (.lst xs) => if rngOk i then (match L2.ixN xs.length i with
      | some k => match xs[k]? with
        | some y => .ok y (T (M.set n (.lst (xs.eraseIdx k))))
        | none => .bad
      | none => .bad) else .bad
    | _ => .bad := (rfl)
@[simp] theorem mt_reverse_0 : mtD .reverse (.ref n) [] (T M) = match M[n]? with
    | some (.lst xs) => .ok .non (T (M.set n (.lst xs.reverse)))
    | _ => .bad := (rfl)
@[simp] theorem mt_index_i : mtD .index (.lst ds) [.int i] (T M) = match intsD ds with
      | some l => if l.length ≤ LINE && decide (i ∈ l) then .ok (.int (l.idxOf i : Nat)) (T M) else .bad
      | none => .bad := (rfl)
@[simp] theorem mtOk_index : mtOk .index (.lst ds) (T M) = true := (rfl)
@[simp] theorem mtOk_pop : mtOk .pop (.ref n) (T M) = match M[n]? with
    | some (.lst _) => true
    | _ => false := (rfl)
@[simp] theorem mtOk_reverse : mtOk .reverse (.ref n) (T M) = match M[n]? with
    | some (.lst _) => true
    | _ => false := (rfl)
@[simp] theorem mtOk_append : mtOk .append (.ref n) (T M) = match M[n]? with
    | some (.lst _) => true
    | _ => false := (rfl)
@[simp] theorem mtOk_join : mtOk .join (.str s) (T M) = true := (rfl)
@[simp] theorem mtOk_find : mtOk .find (.str s) (T M) = true := (rfl)
@[simp] theorem mtOk_count : mtOk .count (.str s) (T M) = true := (rfl)
@[simp] theorem sub_s : subD (.str s) (.int k) (T M) = match L2.atI s.cps.toList k with
    | some c => .ok (.str ⟨#[c]⟩) (T M)
    | none => .bad := (rfl)
@[simp] theorem sub_t : subD (.tup ds) (.int k) (T M) = ofO (T M) (L2.atI ds k) := (rfl)
@[simp] theorem sub_l : subD (.lst ds) (.int k) (T M) = ofO (T M) (L2.atI ds k) := (rfl)
@[simp] theorem sub_r : subD (.ref n) (.int k) (T M) = match seqOf (T M) (.ref n) with
    | some (_, xs) => ofO (T M) (L2.atI xs k)
    | none => .bad := (rfl)
@[simp] theorem partD_n : partD .non = some none := (rfl)
@[simp] theorem partD_i : partD (.int i) = some (some i) := (rfl)
@[simp] theorem slc_s {lo hi : D} : slcD (.str s) lo hi (T M) = match partD lo, partD hi with
  | some l, some h => .ok (.str ⟨(cutL s.cps.toList l h).toArray⟩) (T M)
  | _, _ => .bad := (rfl)
@[simp] theorem slc_t {lo hi : D} : slcD (.tup ds) lo hi (T M) = match partD lo, partD hi with
  | some l, some h => .ok (.tup (cutL ds l h)) (T M)
  | _, _ => .bad := (rfl)
@[simp] theorem slc_l {lo hi : D} : slcD (.lst ds) lo hi (T M) = match partD lo, partD hi with
  | some l, some h => .ok (.lst (cutL ds l h)) (T M)
  | _, _ => .bad := (rfl)
@[simp] theorem slc_r {lo hi : D} : slcD (.ref n) lo hi (T M) = match partD lo, partD hi with
  | some l, some h => (match seqOf (T M) (.ref n) with
      | some (true, xs) => .ok (.tup (cutL xs l h)) (T M)
      | some (false, xs) => .ok (.lst (cutL xs l h)) (T M)
      | none => .bad)
  | _, _ => .bad := (rfl)
@[simp] theorem rev_s : revD (.str s) (T M) = .ok (.str ⟨s.cps.toList.reverse.toArray⟩) (T M) := (rfl)
@[simp] theorem rev_t : revD (.tup ds) (T M) = .ok (.tup ds.reverse) (T M) := (rfl)
@[simp] theorem rev_l : revD (.lst ds) (T M) = .ok (.lst ds.reverse) (T M) := (rfl)
@[simp] theorem put_r : putD (.ref n) (.int k) d (T M) = match M[n]? with
    | some (.lst xs) => match L2.ixN xs.length k with
      | some j => some (T (M.set n (.lst (xs.set j d))))
      | none => none
    | _ => none := (rfl)
@[simp] theorem frz_r : frzD (.ref n) (T M) = match M[n]? with
    | some (.lst ds) => .ok (.lst ds) (T (M.set n .dead))
    | _ => .bad := (rfl)
@[simp] theorem frz_l : frzD (.lst ds) (T M) = .ok (.lst ds) (T M) := (rfl)
@[simp] theorem frz_t : frzD (.tup ds) (T M) = .ok (.tup ds) (T M) := (rfl)
@[simp] theorem frz_s : frzD (.str s) (T M) = .ok (.str s) (T M) := (rfl)
@[simp] theorem frz_i : frzD (.int i) (T M) = .ok (.int i) (T M) := (rfl)
@[simp] theorem frz_b : frzD (.bl b) (T M) = .ok (.bl b) (T M) := (rfl)
@[simp] theorem frz_n : frzD .non (T M) = .ok .non (T M) := (rfl)
@[simp] theorem fzOf_t : fzOf (.tup ds) = some ds := (rfl)
@[simp] theorem fzOf_l : fzOf (.lst ds) = some ds := (rfl)
@[simp] theorem fzOf_s : fzOf (.str s) = some (signs s) := (rfl)
@[simp] theorem flowD_rt : flowD (.ok (.rt d) (T M)) = .ok d (T M) := (rfl)
@[simp] theorem flowD_nx {e : Env} : flowD (.ok (.nx e) (T M)) = .ok .non (T M) := (rfl)
@[simp] theorem flowD_bad : flowD .bad = .bad := (rfl)
@[simp] theorem atI_0 {α : Type} {a : α} {l : List α} : L2.atI (a :: l) 0 = some a := by unfold L2.atI L2.ixN; rw [if_pos (by decide), if_pos (by simp)]; rfl
@[simp] theorem ixN_0 {n : Nat} : L2.ixN (n + 1) 0 = some 0 := by unfold L2.ixN; rw [if_pos (by decide), if_pos (by omega)]; rfl
@[simp] theorem atI_1 {α : Type} {a b : α} {l : List α} : L2.atI (a :: b :: l) 1 = some b := by unfold L2.atI L2.ixN; rw [if_pos (by decide), if_pos (by simp only [List.length_cons]; omega)]; rfl
@[simp] theorem ixN_1 {n : Nat} : L2.ixN (n + 2) 1 = some 1 := by unfold L2.ixN; rw [if_pos (by decide), if_pos (by omega)]; rfl
@[simp] theorem finT {M : Mh} {d : D} (h : d.nr = true) : fin (T M) (.ok d (T M)) = .ok d (T M) := fin_self h
@[simp] theorem finA {M t : Mh} {d : D} (h : d.nr = true) : fin (T M) (.ok d (T (M ++ t))) = .ok d (T M) := fin_ok h
@[simp] theorem finS {M : Mh} {d : D} {i : Nat} {o : MO} (h : d.nr = true) (ho : ∀ n, o.low n = true) : fin (T M) (.ok d (T (M.set i o))) = .ok d (T (M.set i o)) := fin_set0 h ho
@[simp] theorem finN {M M' : Mh} : fin (T M) (.ok (.ref M.length) (T M')) = .ok (.ref M.length) (T M') := fin_new
end

@[simp] theorem mulOk_r {i j : Int} (h : -18446744073709551616 < j ∧ j < 18446744073709551616) : mulOk i j = true := by
  unfold mulOk; rw [Bool.or_eq_true, decide_eq_true_eq, decide_eq_true_eq]; omega
theorem fmod_pos {x c : Int} (h : 0 < c) : 0 ≤ x.fmod c ∧ x.fmod c < c := ⟨Int.fmod_nonneg_of_pos _ h, Int.fmod_lt_of_pos _ h⟩
theorem mulOk_fmod {x c y : Int} (h : 0 < c) (h2 : c < 18446744073709551616) : mulOk (x.fmod c) y = true := by
  have := fmod_pos (x := x) h
  unfold mulOk; rw [Bool.or_eq_true, decide_eq_true_eq, decide_eq_true_eq]; omega
@[simp] theorem divOk_p {j : Int} (h : 0 < j ∧ j < 1073741824) : divOk j = true := by
  unfold divOk; simp; omega
theorem atI_nat {α : Type} {l : List α} {i : Nat} : L2.atI l (i : Int) = l[i]? := by
  unfold L2.atI L2.ixN
  rw [if_pos (by omega)]
  split
  · simp
  · rename_i h
    rw [List.getElem?_eq_none (by omega)]; rfl
theorem atI_int {α : Type} {l : List α} {i : Int} (h0 : 0 ≤ i) (h1 : i < l.length) : ∃ x, L2.atI l i = some x ∧ x ∈ l := by
  obtain ⟨n, rfl⟩ := Int.eq_ofNat_of_zero_le h0
  have hn : n < l.length := by omega
  exact ⟨l[n], by rw [atI_nat, List.getElem?_eq_getElem hn], List.getElem_mem hn⟩
@[simp] theorem rngL_length {i j : Int} : (rngL i j).length = (j - i).toNat := by unfold rngL; simp
@[simp] theorem isEmpty_map {α β : Type} {f : α → β} {l : List α} : (l.map f).isEmpty = l.isEmpty := by cases l <;> rfl

/-! ### types -/
@[simp] theorem isTy_0 : isTy "NoneType" "int" = some false := by decide
@[simp] theorem isTy_1 : isTy "NoneType" "bool" = some false := by decide
@[simp] theorem isTy_2 : isTy "NoneType" "str" = some false := by decide
@[simp] theorem isTy_3 : isTy "NoneType" "tuple" = some false := by decide
@[simp] theorem isTy_4 : isTy "NoneType" "list" = some false := by decide
@[simp] theorem isTy_5 : isTy "NoneType" "dict" = some false := by decide
@[simp] theorem isTy_6 : isTy "bool" "int" = some true := by decide
@[simp] theorem isTy_7 : isTy "bool" "bool" = some true := by decide
@[simp] theorem isTy_8 : isTy "bool" "str" = some false := by decide
@[simp] theorem isTy_9 : isTy "bool" "tuple" = some false := by decide
@[simp] theorem isTy_10 : isTy "bool" "list" = some false := by decide
@[simp] theorem isTy_11 : isTy "bool" "dict" = some false := by decide
@[simp] theorem isTy_12 : isTy "int" "int" = some true := by decide
@[simp] theorem isTy_13 : isTy "int" "bool" = some false := by decide
@[simp] theorem isTy_14 : isTy "int" "str" = some false := by decide
@[simp] theorem isTy_15 : isTy "int" "tuple" = some false := by decide
@[simp] theorem isTy_16 : isTy "int" "list" = some false := by decide
@[simp] theorem isTy_17 : isTy "int" "dict" = some false := by decide
@[simp] theorem isTy_18 : isTy "str" "int" = some false := by decide
@[simp] theorem isTy_19 : isTy "str" "bool" = some false := by decide
@[simp] theorem isTy_20 : isTy "str" "str" = some true := by decide
@[simp] theorem isTy_21 : isTy "str" "tuple" = some false := by decide
@[simp] theorem isTy_22 : isTy "str" "list" = some false := by decide
@[simp] theorem isTy_23 : isTy "str" "dict" = some false := by decide
@[simp] theorem isTy_24 : isTy "tuple" "int" = some false := by decide
@[simp] theorem isTy_25 : isTy "tuple" "bool" = some false := by decide
@[simp] theorem isTy_26 : isTy "tuple" "str" = some false := by decide
@[simp] theorem isTy_27 : isTy "tuple" "tuple" = some true := by decide
@[simp] theorem isTy_28 : isTy "tuple" "list" = some false := by decide
@[simp] theorem isTy_29 : isTy "tuple" "dict" = some false := by decide
@[simp] theorem isTy_30 : isTy "list" "int" = some false := by decide
@[simp] theorem isTy_31 : isTy "list" "bool" = some false := by decide
@[simp] theorem isTy_32 : isTy "list" "str" = some false := by decide
@[simp] theorem isTy_33 : isTy "list" "tuple" = some false := by decide
@[simp] theorem isTy_34 : isTy "list" "list" = some true := by decide
@[simp] theorem isTy_35 : isTy "list" "dict" = some false := by decide

/-! ### runs in the middle -/
@[simp] theorem bind_bind' {α β γ : Type} {r : R α} {f : α → Mh → R β} {g : β → Mh → R γ} : (r.bind f).bind g = r.bind fun a M => (f a M).bind g := by cases r <;> rfl
@[simp] theorem bindS_bind {α β : Type} {env : Env} {r : R α} {f : α → Mh → R β} {g : β → Mh → R F} : (r.bind f).bindS env g = r.bindS env fun a M => (f a M).bindS env g := by cases r <;> rfl
@[simp] theorem only_bind {α β γ : Type} {r : R α} {f : α → Mh → R β} {g : β → Mh → R γ} : (r.only f).bind g = r.only fun a M => (f a M).bind g := by cases r <;> rfl
@[simp] theorem bindS_only {α β : Type} {env : Env} {r : R α} {f : α → Mh → R β} {g : β → Mh → R F} : (r.only f).bindS env g = r.only fun a M => (f a M).bindS env g := by cases r <;> rfl
theorem run_bind {α : Type} {r : R α} {f : α → Mh → R F} {M : Mh} {Q : D → Mh → Prop} (h : r.sat fun a M' => (fin M (flowD (f a M'))).sat Q) : (fin M (flowD (r.bind f))).sat Q := by
  cases r with
  | ok a M => exact h
  | exc c fs M => exact h.elim
  | bad => exact h.elim
theorem run_bindS {α : Type} {env : Env} {r : R α} {f : α → Mh → R F} {M : Mh} {Q : D → Mh → Prop} (h : r.sat fun a M' => (fin M (flowD (f a M'))).sat Q) : (fin M (flowD (r.bindS env f))).sat Q := by
  cases r with
  | ok a M => exact h
  | exc c fs M => exact h.elim
  | bad => exact h.elim
theorem run_bindS2 {α : Type} {env : Env} {r : R α} {f : α → Mh → R F} {g : F → Mh → R F} {M : Mh} {Q : D → Mh → Prop} (h : r.sat fun a M' => (fin M (flowD ((f a M').bind g))).sat Q) : (fin M (flowD ((r.bindS env f).bind g))).sat Q := by
  cases r with
  | ok a M => exact h
  | exc c fs M => exact h.elim
  | bad => exact h.elim
theorem run_only {α : Type} {r : R α} {f : α → Mh → R F} {M : Mh} {Q : D → Mh → Prop} (h : r.sat fun a M' => (fin M (flowD (f a M'))).sat Q) : (fin M (flowD (r.only f))).sat Q := by
  cases r with
  | ok a M => exact h
  | exc c fs M => exact h.elim
  | bad => exact h.elim
theorem go_bind {α : Type} {r : R α} {f : α → Mh → R F} {Q : D → Mh → Prop} (h : r.sat fun a M' => (flowD (f a M')).sat Q) : (flowD (r.bind f)).sat Q := by
  cases r with
  | ok a M => exact h
  | exc c fs M => exact h.elim
  | bad => exact h.elim
theorem go_bindS {α : Type} {env : Env} {r : R α} {f : α → Mh → R F} {Q : D → Mh → Prop} (h : r.sat fun a M' => (flowD (f a M')).sat Q) : (flowD (r.bindS env f)).sat Q := by
  cases r with
  | ok a M => exact h
  | exc c fs M => exact h.elim
  | bad => exact h.elim
theorem go_only {α : Type} {r : R α} {f : α → Mh → R F} {Q : D → Mh → Prop} (h : r.sat fun a M' => (flowD (f a M')).sat Q) : (flowD (r.only f)).sat Q := by
  cases r with
  | ok a M => exact h
  | exc c fs M => exact h.elim
  | bad => exact h.elim
theorem T_nil : ([] : Mh) = T [] := rfl
theorem sat_eq {α : Type} {r : R α} {x : α} {y : Mh} (h : r.sat fun a M => a = x ∧ M = y) : r = .ok x y := by
  cases r with
  | ok a M => obtain ⟨rfl, rfl⟩ := h; rfl
  | exc c fs M => exact h.elim
  | bad => exact h.elim
theorem blsD_const {α : Type} {l : List α} {b : Bool} : blsD (l.map fun _ => D.bl b) = some (l.map fun _ => b) := by
  induction l with
  | nil => rfl
  | cons a r ih => simp [blsD, ih]

@[simp] theorem atI_neg1 {α : Type} {l : List α} {x : α} : L2.atI (l ++ [x]) (-1) = some x := by
  unfold L2.atI L2.ixN
  rw [if_neg (by decide), if_pos (by simp; omega)]
  simp only [Option.bind_some]
  have e : (-1 + ((l ++ [x]).length : Int)).toNat = l.length := by simp; omega
  rw [e]
  simp
theorem fmod2 {j : Nat} : ((j : Int).fmod 2 == 0) = (j % 2 == 0) := by
  rw [Int.fmod_eq_emod_of_nonneg _ (by decide)]
  rw [Bool.eq_iff_iff, beq_iff_eq, beq_iff_eq]
  omega
theorem even_succ {j : Nat} : ((j + 1) % 2 == 0) = !(j % 2 == 0) := by
  rw [Bool.eq_iff_iff]
  simp
  omega
theorem enum_at {ds : List D} {j : Nat} {x : D} (h : (ds.zipIdx.map fun p => D.tup [.int p.2, p.1])[j]? = some x) : ∃ y, ds[j]? = some y ∧ x = .tup [.int j, y] := by
  rw [List.getElem?_map, List.getElem?_zipIdx] at h
  cases e : ds[j]? with
  | none => rw [e] at h; cases h
  | some y =>
    rw [e] at h
    simp at h
    exact ⟨y, rfl, h.symm⟩

theorem sIx_1 {n d : Nat} : HT.sIx n d (some 1) = min 1 n := HT.sIx_nat n d 1
theorem sIx_m1 {n d : Nat} : HT.sIx n d (some (-1)) = n - 1 := by
  unfold HT.sIx
  simp only
  rw [if_pos (by decide)]; omega
@[simp] theorem cutL_1 {α : Type} {xs : List α} : cutL xs (some 1) none = xs.tail := by
  unfold cutL
  rw [sIx_1, HT.sIx_none]
  cases xs with
  | nil => rfl
  | cons x r =>
    have : min 1 (x :: r).length = 1 := by simp
    rw [this]
    exact List.take_of_length_le (by simp)
@[simp] theorem cutL_m1 {α : Type} {xs : List α} : cutL xs none (some (-1)) = xs.dropLast := by
  unfold cutL
  rw [sIx_m1, HT.sIx_none, List.drop_zero, Nat.sub_zero, List.dropLast_eq_take]
@[simp] theorem cutL_1_m1 {α : Type} {xs : List α} : cutL xs (some 1) (some (-1)) = xs.tail.dropLast := by
  unfold cutL
  rw [sIx_m1, sIx_1]
  cases xs with
  | nil => rfl
  | cons x r =>
    have : min 1 (x :: r).length = 1 := by simp
    rw [this, List.dropLast_eq_take]
    simp
@[simp] theorem cutL_all {α : Type} {xs : List α} : cutL xs none none = xs := by
  unfold cutL
  rw [HT.sIx_none, HT.sIx_none]; simp
theorem cutL_map {α β : Type} {f : α → β} {xs : List α} {a b : Option Int} : cutL (xs.map f) a b = (cutL xs a b).map f := by
  unfold cutL; simp
theorem mem_zipWith {α β γ : Type} {f : α → β → γ} : ∀ {l : List α} {m : List β} {z : γ}, z ∈ List.zipWith f l m → ∃ x y, x ∈ l ∧ y ∈ m ∧ z = f x y
  | [], _, _, h => by simp at h
  | _ :: _, [], _, h => by simp at h
  | a :: l, b :: m, z, h => by
    rw [List.zipWith_cons_cons] at h
    rcases List.mem_cons.mp h with rfl | h
    · exact ⟨a, b, by simp, by simp, rfl⟩
    · obtain ⟨x, y, h1, h2, h3⟩ := mem_zipWith h
      exact ⟨x, y, by simp [h1], by simp [h2], h3⟩
theorem nrs_zipWith {α β : Type} {f : α → β → D} (h : ∀ x y, (f x y).nr = true) {l : List α} {m : List β} : D.nrs (List.zipWith f l m) = true := by
  rw [nrs_iff]; intro d hd
  obtain ⟨x, y, _, _, rfl⟩ := mem_zipWith hd
  exact h x y

@[simp] theorem nr_non : D.non.nr = true := by simp only [D.nr]
@[simp] theorem nr_bl {b : Bool} : (D.bl b).nr = true := by simp only [D.nr]
@[simp] theorem nr_int {i : Int} : (D.int i).nr = true := by simp only [D.nr]
@[simp] theorem nr_str {s : Str} : (D.str s).nr = true := by simp only [D.nr]
@[simp] theorem nr_tup {ds : List D} : (D.tup ds).nr = D.nrs ds := by rw [D.nr]
@[simp] theorem nr_lst {ds : List D} : (D.lst ds).nr = D.nrs ds := by rw [D.nr]
@[simp] theorem nrs_nil : D.nrs [] = true := by simp only [D.nrs]
@[simp] theorem nrs_cons {d : D} {ds : List D} : D.nrs (d :: ds) = (d.nr && D.nrs ds) := by rw [D.nrs]
@[simp] theorem nrs_ints {l : List Int} : D.nrs (l.map D.int) = true := nrs_map fun _ => rfl
@[simp] theorem nrs_strs {l : List Str} : D.nrs (l.map D.str) = true := nrs_map fun _ => rfl
@[simp] theorem nrs_rev {l : List D} : D.nrs l.reverse = D.nrs l := by
  rw [Bool.eq_iff_iff, nrs_iff, nrs_iff]; simp
theorem nrs_sub {l m : List D} (h : D.nrs m = true) (s : ∀ d ∈ l, d ∈ m) : D.nrs l = true := by
  rw [nrs_iff] at *; exact fun d hd => h d (s d hd)
theorem nrs_tail {l : List D} (h : D.nrs l = true) : D.nrs l.tail = true := nrs_sub h fun d hd => List.mem_of_mem_tail hd
theorem nrs_dropLast {l : List D} (h : D.nrs l = true) : D.nrs l.dropLast = true := nrs_sub h fun d hd => List.dropLast_subset _ hd
@[simp] theorem low_lst {n : Nat} {ds : List D} : (MO.lst ds).low n = D.lows n ds := by simp only [MO.low]
@[simp] theorem lows_nil {n : Nat} : D.lows n [] = true := by simp only [D.lows]
@[simp] theorem lows_cons {n : Nat} {d : D} {ds : List D} : D.lows n (d :: ds) = (d.low n && D.lows n ds) := by rw [D.lows]
@[simp] theorem low_int {n : Nat} {i : Int} : (D.int i).low n = true := by simp only [D.low]
@[simp] theorem low_bl {n : Nat} {i : Bool} : (D.bl i).low n = true := by simp only [D.low]
@[simp] theorem low_str {n : Nat} {i : Str} : (D.str i).low n = true := by simp only [D.low]
@[simp] theorem lows_ints {n : Nat} {l : List Int} : D.lows n (l.map D.int) = true := D.nrs_low nrs_ints

theorem rngOk_i {i : Int} (h0 : -4611686018427387904 < i) (h1 : i < 4611686018427387904) : rngOk i = true := by
  unfold rngOk; rw [decide_eq_true_eq]; omega
end RF

set_option Elab.async false
set_option linter.all false
set_option maxRecDepth 100000
set_option maxHeartbeats 4000000
namespace RF
open PySem (Str Operator CmpOp)
/-! ### more rows -/
section
variable {M : Mh} {ds es : List D} {x y d : D} {i j k : Int} {s t : Str} {b c : Bool} {n : Nat}
@[simp] theorem le_ss : cmpD .LtE (.str s) (.str t) (T M) = .ok (.bl (!strLt t s)) (T M) := (rfl)
@[simp] theorem gt_ss : cmpD .Gt (.str s) (.str t) (T M) = .ok (.bl (strLt t s)) (T M) := (rfl)
@[simp] theorem ge_ss : cmpD .GtE (.str s) (.str t) (T M) = .ok (.bl (!strLt s t)) (T M) := (rfl)
@[simp] theorem mt_find_s : mtD .find (.str s) [.str t] (T M) = .ok (.int (PySem.Txt.find s t)) (T M) := (rfl)
@[simp] theorem mt_count_s : mtD .count (.str s) [.str t] (T M) = .ok (.int (PySem.Txt.count s t)) (T M) := (rfl)
theorem inD_ref {ds : List D} (h : M[n]? = some (.lst ds)) : inD (T M) x (.ref n) = if (x.flat && ds.all D.flat) || (x.dep 60 && D.deps 59 ds) then some (ds.any fun z => D.eqv z x) else none := by
  unfold inD
  simp only [seqOf]
  have h' : (T M)[n]? = some (.lst ds) := h
  rw [h']
@[simp] theorem bi_tuple_s : biD .tuple [.str s] (T M) = .ok (.tup (signs s)) (T M) := (rfl)
@[simp] theorem sub_d {ks : List (Int ⊕ Str)} {vs : List D} {k : D} : subD (.dct ks vs) k (T M) = match keyD k with
    | some q => ofO (T M) (lookK ks vs q)
    | none => .bad := by cases k <;> rfl
theorem in_d {ks : List (Int ⊕ Str)} {vs : List D} {k : D} : inD (T M) k (.dct ks vs) = (keyD k).map fun k => ks.any fun q => decide (q = k) := (rfl)
@[simp] theorem bi_dict {ds : List D} : biD .dict [.lst ds] (T M) = match pairsD ds with
      | some (ks, vs) => if ks.Nodup ∧ ks.length ≤ LINE then .ok (.dct ks vs) (T M) else .bad
      | none => .bad := (rfl)
@[simp] theorem mtOk_count_l : mtOk .count (.lst ds) (T M) = true := (rfl)
@[simp] theorem mt_count_l : mtD .count (.lst ds) [.str t] (T M) = match strsD ds with
    | some l => .ok (.int ((l.filter fun s => decide (s = t)).length : Nat)) (T M)
    | none => .bad := (rfl)
@[simp] theorem bi_sorted_l : biD .sorted [.lst ds] (T M) = match sortD ds with
      | some ys => .ok (.lst ys) (T M)
      | none => .bad := (rfl)
@[simp] theorem bi_sorted_t : biD .sorted [.tup ds] (T M) = match intsD ds with
      | some l => .ok (.lst ((sortInt l).map D.int)) (T M)
      | none => match tupsD ds with
        | some l => .ok (.lst ((sortL l).map fun q => D.tup (q.map D.int))) (T M)
        | none => .bad := (rfl)
theorem bi_sorted_r {ds : List D} (h : M[n]? = some (.lst ds)) : biD .sorted [.ref n] (T M) = match sortD ds with
      | some ys => .ok (.lst ys) (T M)
      | none => .bad := by
  have h' : (T M)[n]? = some (.lst ds) := h
  simp only [biD, seqOf, h'] <;> rfl
@[simp] theorem mulOk_l {i j : Int} (h : -18446744073709551616 < i ∧ i < 18446744073709551616) : mulOk i j = true := by
  unfold mulOk; rw [Bool.or_eq_true, decide_eq_true_eq, decide_eq_true_eq]; omega
end
theorem strs_all {ds : List D} (h : ∀ d ∈ ds, ∃ s, d = .str s) : ∃ l : List Str, ds = l.map D.str := by
  induction ds with
  | nil => exact ⟨[], rfl⟩
  | cons a r ih =>
    obtain ⟨s, rfl⟩ := h _ List.mem_cons_self
    obtain ⟨l, rfl⟩ := ih fun d hd => h d (List.mem_cons_of_mem _ hd)
    exact ⟨s :: l, rfl⟩
theorem ints_all {ds : List D} (h : ∀ d ∈ ds, ∃ s, d = .int s) : ∃ l : List Int, ds = l.map D.int := by
  induction ds with
  | nil => exact ⟨[], rfl⟩
  | cons a r ih =>
    obtain ⟨s, rfl⟩ := h _ List.mem_cons_self
    obtain ⟨l, rfl⟩ := ih fun d hd => h d (List.mem_cons_of_mem _ hd)
    exact ⟨s :: l, rfl⟩
theorem bls_mapf {α : Type} {l : List α} {f : α → Bool} : blsD (l.map fun a => D.bl (f a)) = some (l.map f) := by
  induction l with
  | nil => rfl
  | cons a r ih => simp [blsD, ih]
theorem filter_empty {α : Type} {l : List α} {p : α → Bool} : (l.filter p).isEmpty = l.all fun a => !p a := by
  induction l with
  | nil => rfl
  | cons a r ih => by_cases h : p a = true <;> simp [h, ih]
/-! ### equality with what is empty -/
mutual
theorem D.dep_mono : ∀ {d : D} {n m : Nat}, n ≤ m → D.dep n d = true → D.dep m d = true
  | .non, n, m, _, _ => by cases m <;> simp [D.dep]
  | .bl _, n, m, _, _ => by cases m <;> simp [D.dep]
  | .int _, n, m, _, _ => by cases m <;> simp [D.dep]
  | .str _, n, m, _, _ => by cases m <;> simp [D.dep]
  | .tup ds, 0, m, _, h => by simp [D.dep] at h
  | .tup ds, n + 1, 0, l, h => by omega
  | .tup ds, n + 1, m + 1, l, h => by rw [D.dep] at h ⊢; exact D.deps_mono (by omega) h
  | .lst ds, 0, m, _, h => by simp [D.dep] at h
  | .lst ds, n + 1, 0, l, h => by omega
  | .lst ds, n + 1, m + 1, l, h => by rw [D.dep] at h ⊢; exact D.deps_mono (by omega) h
  | .ref _, n, m, _, h => by cases n <;> simp [D.dep] at h
  | .ty _, n, m, _, h => by cases n <;> simp [D.dep] at h
  | .fn _, n, m, _, h => by cases n <;> simp [D.dep] at h
  | .dct _ _, n, m, _, h => by cases n <;> simp [D.dep] at h
theorem D.deps_mono : ∀ {ds : List D} {n m : Nat}, n ≤ m → D.deps n ds = true → D.deps m ds = true
  | [], _, _, _, _ => by simp [D.deps]
  | d :: ds, n, m, l, h => by
    rw [D.deps, Bool.and_eq_true] at h ⊢
    exact ⟨D.dep_mono l h.1, D.deps_mono l h.2⟩
end
theorem deps_iff {n : Nat} {ds : List D} : D.deps n ds = true ↔ ∀ d ∈ ds, D.dep n d = true := by
  induction ds with
  | nil => simp [D.deps]
  | cons d ds ih => simp [D.deps, ih]
theorem eqvs_nil {ds : List D} : D.eqvs ds [] = ds.isEmpty := by cases ds <;> rfl
theorem eqD_lnil {M : Mh} {ds : List D} (h : ∀ x ∈ ds, x.dep 59 = true) : eqD (T M) (.lst ds) (.lst []) = some ds.isEmpty := by
  simp [eqD, rd, D.dep, D.deps, D.eqv, eqvs_nil, deps_iff.mpr h]
theorem eqD_tnil {M : Mh} {ds : List D} (h : ∀ x ∈ ds, x.dep 59 = true) : eqD (T M) (.tup ds) (.tup []) = some ds.isEmpty := by
  simp [eqD, rd, D.dep, D.deps, D.eqv, eqvs_nil, deps_iff.mpr h]
theorem cutL_from {α : Type} {xs : List α} {n : Nat} : cutL xs (some (n : Int)) none = xs.drop n := by
  unfold cutL
  rw [HT.sIx_nat, HT.sIx_none]
  by_cases h : n ≤ xs.length
  · rw [Nat.min_eq_left h]
    exact List.take_of_length_le (by simp)
  · rw [Nat.min_eq_right (by omega), List.drop_length, List.drop_of_length_le (by omega)]; simp
theorem cutL_to {α : Type} {xs : List α} {n : Nat} : cutL xs none (some (n : Int)) = xs.take n := by
  unfold cutL
  rw [HT.sIx_nat, HT.sIx_none]
  rw [List.drop_zero, Nat.sub_zero]
  rcases Nat.le_total n xs.length with h | h
  · rw [Nat.min_eq_left h]
  · rw [Nat.min_eq_right h, List.take_of_length_le h, List.take_of_length_le (Nat.le_refl _)]
theorem cutL_mem {α : Type} {xs : List α} {a b : Option Int} {x : α} (h : x ∈ cutL xs a b) : x ∈ xs := List.mem_of_mem_drop (List.mem_of_mem_take h)
theorem cutL_len {α : Type} {xs : List α} {a b : Option Int} : (cutL xs a b).length ≤ xs.length := by
  unfold cutL; simp; omega
/-! ### signs of texts -/
theorem len_mk {l : List Nat} : (⟨l.toArray⟩ : Str).length = l.length := by simp [Str.length]
theorem str_of (s : Str) : ∃ l : List Nat, s = ⟨l.toArray⟩ := ⟨s.cps.toList, by simp⟩
def inS (c : Nat) (t : Str) : Bool := decide (c ∈ t.cps.toList)
theorem inStr_one {c : Nat} {t : Str} : inStr ⟨#[c]⟩ t = inS c t := rfl
theorem len_app {s t : Str} : (s ++ t).length = s.length + t.length := by
  show (s.cps ++ t.cps).size = _
  simp [Str.length]
theorem toList_app {s t : Str} : (s ++ t).cps.toList = s.cps.toList ++ t.cps.toList := by
  show (s.cps ++ t.cps).toList = _
  simp
theorem inS_app {c : Nat} {s t : Str} : inS c (s ++ t) = (inS c s || inS c t) := by
  unfold inS; rw [toList_app, Bool.eq_iff_iff]; simp
theorem nr_signs {s : Str} : D.nrs (signs s) = true := nrs_map fun _ => rfl
theorem sum_map_one {l : List Nat} : True := trivial
/-! ### counted signs -/
open PySem.Txt in
theorem count3 {a b c : Nat} (hab : a ≠ b) (hac : a ≠ c) (hbc : b ≠ c) : ∀ l : List Nat, (PyProof.Rows.cnt a l + PyProof.Rows.cnt b l + PyProof.Rows.cnt c l ≤ l.length) ∧ (PyProof.Rows.cnt a l + PyProof.Rows.cnt b l + PyProof.Rows.cnt c l = l.length ↔ ∀ x ∈ l, x = a ∨ x = b ∨ x = c)
  | [] => by simp [PyProof.Rows.cnt_nil]
  | n :: r => by
    obtain ⟨h1, h2⟩ := count3 hab hac hbc r
    rw [PyProof.Rows.cnt_cons, PyProof.Rows.cnt_cons, PyProof.Rows.cnt_cons, List.length_cons]
    by_cases ha : n = a
    · subst ha
      rw [if_pos rfl, if_neg hab, if_neg hac]
      refine ⟨by omega, ?_⟩
      rw [List.forall_mem_cons, ← h2]
      constructor
      · intro h; exact ⟨.inl rfl, by omega⟩
      · intro ⟨_, h⟩; omega
    · rw [if_neg ha]
      by_cases hb : n = b
      · subst hb
        rw [if_pos rfl, if_neg hbc]
        refine ⟨by omega, ?_⟩
        rw [List.forall_mem_cons, ← h2]
        constructor
        · intro h; exact ⟨.inr (.inl rfl), by omega⟩
        · intro ⟨_, h⟩; omega
      · rw [if_neg hb]
        by_cases hc : n = c
        · subst hc
          rw [if_pos rfl]
          refine ⟨by omega, ?_⟩
          rw [List.forall_mem_cons, ← h2]
          constructor
          · intro h; exact ⟨.inr (.inr rfl), by omega⟩
          · intro ⟨_, h⟩; omega
        · rw [if_neg hc]
          refine ⟨by omega, ?_⟩
          rw [List.forall_mem_cons]
          constructor
          · intro h; omega
          · intro ⟨h, _⟩; rcases h with h | h | h <;> contradiction
theorem find1 {x : Str} {c : Nat} : (0 ≤ PySem.Txt.find x ⟨#[c]⟩) ↔ c ∈ x.cps.toList := by
  have key : ∀ i, PySem.StrLaws.At x ⟨#[c]⟩ x.length i ↔ x.cps.toList[i]? = some c := fun i => by
    unfold PySem.StrLaws.At
    rw [PySem.StrLaws.subAt_eq]
    show (i + 1 ≤ x.cps.size ∧ ((x.cps.toList.drop i).take 1 == [c]) = true) ↔ _
    rw [← Array.length_toList]
    generalize x.cps.toList = l
    rw [beq_iff_eq]
    constructor
    · intro ⟨h1, h2⟩
      rw [List.drop_eq_getElem_cons (show i < l.length by omega), List.take_succ_cons, List.take_zero] at h2
      rw [List.getElem?_eq_getElem (by omega)]
      rw [List.cons.injEq] at h2
      rw [h2.1]
    · intro h
      obtain ⟨hi, he⟩ := List.getElem?_eq_some_iff.mp h
      refine ⟨hi, ?_⟩
      rw [List.drop_eq_getElem_cons hi, he]; simp
  rcases PyProof.Rows.find_whole x ⟨#[c]⟩ with ⟨h, hn⟩ | ⟨i, h, hi, _⟩
  · rw [h]
    constructor
    · intro h; omega
    · intro h
      obtain ⟨i, hi, he⟩ := List.mem_iff_getElem.mp h
      exact absurd ((key i).mpr (by rw [List.getElem?_eq_getElem hi, he])) (hn i)
  · rw [h]
    constructor
    · intro _; exact List.mem_of_getElem? ((key i).mp hi)
    · intro _; omega
/-! ### few cannot hold many -/
theorem nodup_len {α : Type} [DecidableEq α] : ∀ {l m : List α}, l.Nodup → (∀ x ∈ l, x ∈ m) → l.length ≤ m.length
  | [], _, _, _ => Nat.zero_le _
  | x :: l, m, h, s => by
    rw [List.nodup_cons] at h
    have hx := s x List.mem_cons_self
    have := nodup_len (l := l) (m := m.erase x) h.2 fun y hy => (List.mem_erase_of_ne (fun e => by subst e; exact h.1 hy)).mpr (s y (List.mem_cons_of_mem _ hy))
    rw [List.length_erase_of_mem hx] at this
    have := List.length_pos_of_mem hx
    rw [List.length_cons]; omega
end RF
namespace RF
open PySem (Str Operator CmpOp)
theorem compL_mmap {α : Type} {f : D → Mh → R (Option D)} {all : List D} {M : Mh} {e g : α → D} : ∀ (l : List α) (acc : List D), (∀ x ∈ l, f (e x) M = .ok (some (g x)) M) → acc.length + l.length ≤ LINE → compL f all none (l.map e) M acc = .ok (acc ++ l.map g) M
  | [], acc, _, _ => by unfold compL; simp
  | x :: xs, acc, h, hl => by
    rw [List.length_cons] at hl
    rw [List.map_cons]
    unfold compL
    simp only [still_none, if_true]
    rw [h x List.mem_cons_self, R.bind_ok]
    simp only
    rw [if_pos (by omega), compL_mmap xs (acc ++ [g x]) (fun y hy => h y (List.mem_cons_of_mem _ hy)) (by simp; omega)]
    simp
theorem compL_fmap {α : Type} {f : D → Mh → R (Option D)} {all : List D} {M : Mh} {e g : α → D} {p : α → Bool} : ∀ (l : List α) (acc : List D), (∀ x ∈ l, f (e x) M = .ok (if p x then some (g x) else none) M) → acc.length + l.length ≤ LINE → compL f all none (l.map e) M acc = .ok (acc ++ (l.filter p).map g) M
  | [], acc, _, _ => by unfold compL; simp
  | x :: xs, acc, h, hl => by
    rw [List.length_cons] at hl
    rw [List.map_cons]
    unfold compL
    simp only [still_none, if_true]
    rw [h x List.mem_cons_self, R.bind_ok]
    by_cases hp : p x = true
    · simp only [hp, if_true]
      rw [if_pos (by omega), compL_fmap xs (acc ++ [g x]) (fun y hy => h y (List.mem_cons_of_mem _ hy)) (by simp; omega), List.filter_cons_of_pos hp]
      simp
    · simp only [hp]
      simp only [Bool.false_eq_true, if_false]
      rw [compL_fmap xs acc (fun y hy => h y (List.mem_cons_of_mem _ hy)) (by omega), List.filter_cons_of_neg hp]
/-- nothing is kept -/
theorem compL_none {f : D → Mh → R (Option D)} {all : List D} {M : Mh} : ∀ (xs acc : List D), (∀ x ∈ xs, f x M = .ok none M) → compL f all none xs M acc = .ok acc M
  | [], acc, _ => by unfold compL; simp
  | x :: xs, acc, h => by
    unfold compL
    simp only [still_none, if_true]
    rw [h x List.mem_cons_self, R.bind_ok]
    exact compL_none xs acc fun y hy => h y (List.mem_cons_of_mem _ hy)
theorem bls_zipWith {α β : Type} {f : α → β → Bool} : ∀ {l : List α} {m : List β}, blsD (List.zipWith (fun a b => D.bl (f a b)) l m) = some (List.zipWith f l m)
  | [], _ => by simp [blsD]
  | _ :: _, [] => by simp [blsD]
  | a :: l, b :: m => by simp [blsD, bls_zipWith (l := l) (m := m)]
theorem rng_nat {a : Int} {n : Nat} {b : Int} (h : (b - a).toNat = n) : rngL a b = (List.range n).map fun (i : Nat) => D.int (a + (i : Int)) := by
  unfold rngL; rw [h]
theorem all_map_id {α : Type} {l : List α} {f : α → Bool} : (l.map f).all id = l.all f := by
  induction l with
  | nil => rfl
  | cons a r ih => simp
theorem mk_beq {l m : List Nat} : ((⟨l.toArray⟩ : Str) == ⟨m.toArray⟩) = (l == m) := by
  rw [Bool.eq_iff_iff, beq_iff_eq, beq_iff_eq, Str.mk.injEq]; simp
theorem find_ge {x : Str} {c : Nat} : decide (0 ≤ PySem.Txt.find x ⟨#[c]⟩) = inS c x := by
  unfold inS
  rw [Bool.eq_iff_iff, decide_eq_true_eq, decide_eq_true_eq]; exact find1
theorem find_lt {x : Str} {c : Nat} : decide (PySem.Txt.find x ⟨#[c]⟩ < 0) = !inS c x := by
  unfold inS
  rw [Bool.eq_iff_iff, decide_eq_true_eq, Bool.not_eq_true', decide_eq_false_iff_not, ← find1]; omega
theorem zip_range {f : D → D → Bool} : ∀ l : List D, (List.zipWith f l l.tail).all id = (List.range (l.length - 1)).all fun i => f (l.getD i .non) (l.getD (i + 1) .non)
  | [] => rfl
  | [a] => rfl
  | a :: b :: r => by
    have ih := zip_range (f := f) (b :: r)
    simp only [List.tail_cons, List.zipWith_cons_cons, List.all_cons, List.length_cons, id] at ih ⊢
    rw [show r.length + 1 + 1 - 1 = (r.length + 1 - 1) + 1 by omega, List.range_succ_eq_map, List.all_cons, List.all_map]
    rw [ih]
    rfl
@[simp] theorem rngOk_n0 : rngOk 0 = true := by decide
@[simp] theorem rngOk_n1 : rngOk 1 = true := by decide
@[simp] theorem rngOk_n2 : rngOk 2 = true := by decide
@[simp] theorem rngOk_n3 : rngOk 3 = true := by decide
@[simp] theorem rngOk_n4 : rngOk 4 = true := by decide
@[simp] theorem rngOk_n5 : rngOk 5 = true := by decide
@[simp] theorem rngOk_n6 : rngOk 6 = true := by decide
@[simp] theorem rngOk_n7 : rngOk 7 = true := by decide
@[simp] theorem rngOk_n8 : rngOk 8 = true := by decide
@[simp] theorem rngOk_n9 : rngOk 9 = true := by decide
@[simp] theorem rngOk_n10 : rngOk 10 = true := by decide
@[simp] theorem rngOk_n11 : rngOk 11 = true := by decide
@[simp] theorem rngOk_n12 : rngOk 12 = true := by decide
@[simp] theorem rngOk_n13 : rngOk 13 = true := by decide
@[simp] theorem rngOk_n14 : rngOk 14 = true := by decide
@[simp] theorem rngOk_n15 : rngOk 15 = true := by decide
@[simp] theorem rngOk_n16 : rngOk 16 = true := by decide
@[simp] theorem rngOk_n17 : rngOk 17 = true := by decide
@[simp] theorem rngOk_n18 : rngOk 18 = true := by decide
@[simp] theorem rngOk_n19 : rngOk 19 = true := by decide
@[simp] theorem rngOk_n20 : rngOk 20 = true := by decide
@[simp] theorem rngOk_n21 : rngOk 21 = true := by decide
@[simp] theorem rngOk_n22 : rngOk 22 = true := by decide
@[simp] theorem rngOk_n23 : rngOk 23 = true := by decide
@[simp] theorem rngOk_n24 : rngOk 24 = true := by decide
@[simp] theorem rngOk_n25 : rngOk 25 = true := by decide
@[simp] theorem rngOk_n26 : rngOk 26 = true := by decide
@[simp] theorem rngOk_n27 : rngOk 27 = true := by decide
@[simp] theorem rngOk_n28 : rngOk 28 = true := by decide
@[simp] theorem rngOk_n29 : rngOk 29 = true := by decide
@[simp] theorem rngOk_n30 : rngOk 30 = true := by decide
@[simp] theorem rngOk_n31 : rngOk 31 = true := by decide
@[simp] theorem rngOk_n32 : rngOk 32 = true := by decide
@[simp] theorem rngOk_n33 : rngOk 33 = true := by decide
@[simp] theorem rngOk_n34 : rngOk 34 = true := by decide
@[simp] theorem rngOk_n35 : rngOk 35 = true := by decide
@[simp] theorem rngOk_n36 : rngOk 36 = true := by decide
@[simp] theorem rngOk_n37 : rngOk 37 = true := by decide
@[simp] theorem rngOk_n38 : rngOk 38 = true := by decide
@[simp] theorem rngOk_n39 : rngOk 39 = true := by decide
@[simp] theorem rngOk_n40 : rngOk 40 = true := by decide
@[simp] theorem rngOk_n50 : rngOk 50 = true := by decide
@[simp] theorem rngOk_n60 : rngOk 60 = true := by decide
@[simp] theorem rngOk_n63 : rngOk 63 = true := by decide
@[simp] theorem rngOk_n64 : rngOk 64 = true := by decide
@[simp] theorem rngOk_n70 : rngOk 70 = true := by decide
@[simp] theorem rngOk_n80 : rngOk 80 = true := by decide
@[simp] theorem rngOk_n90 : rngOk 90 = true := by decide
@[simp] theorem rngOk_n99 : rngOk 99 = true := by decide
@[simp] theorem rngOk_n100 : rngOk 100 = true := by decide
@[simp] theorem rngOk_n200 : rngOk 200 = true := by decide
@[simp] theorem rngOk_n300 : rngOk 300 = true := by decide
@[simp] theorem rngOk_n400 : rngOk 400 = true := by decide
@[simp] theorem rngOk_n500 : rngOk 500 = true := by decide
@[simp] theorem dep_str {n : Nat} {s : Str} : (D.str s).dep n = true := by cases n <;> simp [D.dep]
@[simp] theorem dep_int {n : Nat} {s : Int} : (D.int s).dep n = true := by cases n <;> simp [D.dep]
@[simp] theorem dep_non {n : Nat} : (D.non).dep n = true := by cases n <;> simp [D.dep]
@[simp] theorem dep_bl {n : Nat} {b : Bool} : (D.bl b).dep n = true := by cases n <;> simp [D.dep]
@[simp] theorem eqD_fmap {α : Type} {M : Mh} {l : List α} {p : α → Bool} {g : α → D} (h : ∀ x, (g x).dep 59 = true) : eqD (T M) (.lst ((l.filter p).map g)) (.lst []) = some (l.all fun x => !p x) := by
  rw [eqD_lnil fun x hx => by
    obtain ⟨y, _, rfl⟩ := List.mem_map.mp hx
    exact h y, isEmpty_map, filter_empty]
@[simp] theorem eqD_map0 {α : Type} {M : Mh} {l : List α} {g : α → D} (h : ∀ x, (g x).dep 59 = true) : eqD (T M) (.lst (l.map g)) (.lst []) = some l.isEmpty := by
  rw [eqD_lnil fun x hx => by
    obtain ⟨y, _, rfl⟩ := List.mem_map.mp hx
    exact h y, isEmpty_map]
@[simp] theorem eqD_nn {M : Mh} : eqD (T M) (.lst []) (.lst []) = some true := by simp [eqD, rd, D.dep, D.deps, D.eqv, D.eqvs]
end RF

set_option maxRecDepth 100000
open PySem (Str)
namespace Gk31
open RF
def fd_is_whole : RF.Fd := ⟨3, 3, (.cons (.ret (.and (.bi .isinst (.cons (.var 0) (.cons (.tyc "int") .nil))) (.and (.not (.bi .isinst (.cons (.var 0) (.cons (.tyc "bool") .nil)))) (.chn .LtE .LtE (.var 1) (.var 0) (.var 2))))) .nil)⟩
abbrev nm_is_whole : List Str := [Str.ofString "value", Str.ofString "low", Str.ofString "high"]
def fd_is_tuple_of : RF.Fd := ⟨3, 3, (.cons (.ret (.and (.bi .isinst (.cons (.var 0) (.cons (.tyc "tuple") .nil))) (.chn .LtE .LtE (.var 1) (.bi .len (.cons (.var 0) .nil)) (.var 2)))) .nil)⟩
abbrev nm_is_tuple_of : List Str := [Str.ofString "value", Str.ofString "low", Str.ofString "high"]
def fd_fits_map : RF.Fd := ⟨1, 2, (.cons (.ret (.and (.call 1 (.cons (.var 0) (.cons (.con (.int 2)) (.cons (.con (.int 2)) .nil)))) (.and (.bi .all (.cons (.comp false (.call 0 (.cons (.var 1) (.cons (.con (.int 1)) (.cons (.glob 0) .nil)))) (.nm 1) (.ex (.var 0)) .nil [1]) .nil)) (.cmp .LtE (.bin .Mult (.sub (.var 0) (.con (.int 0))) (.sub (.var 0) (.con (.int 1)))) (.glob 0))))) .nil)⟩
abbrev nm_fits_map : List Str := [Str.ofString "value", Str.ofString "one"]
def fd_need_map : RF.Fd := ⟨1, 1, (.cons (.ifs (.not (.call 2 (.cons (.var 0) .nil))) (.cons .nvr .nil) .nil) .nil)⟩
abbrev nm_need_map : List Str := [Str.ofString "value"]
def fd_is_odd_leaf : RF.Fd := ⟨2, 2, (.cons (.ret (.cmp .Eq (.bin .Mod (.bin .Add (.bin .FloorDiv (.var 1) (.sub (.var 0) (.con (.int 1)))) (.bin .Mod (.var 1) (.sub (.var 0) (.con (.int 1))))) (.con (.int 2))) (.con (.int 1)))) .nil)⟩
abbrev nm_is_odd_leaf : List Str := [Str.ofString "map_pair", Str.ofString "leaf"]
def fd_joints_in : RF.Fd := ⟨1, 7, (.cons (.set (.tp (.cons (.nm 1) (.cons (.nm 2) .nil))) (.var 0)) (.cons (.set (.nm 3) (.lst true .nil)) (.cons (.for (.nm 4) (.rng1 (.bin .Mult (.var 1) (.var 2))) (.cons (.set (.tp (.cons (.nm 5) (.cons (.nm 6) .nil))) (.tup (.cons (.bin .FloorDiv (.var 4) (.var 2)) (.cons (.bin .Mod (.var 4) (.var 2)) .nil)))) (.cons (.ifs (.cmp .Lt (.var 6) (.bin .Sub (.var 2) (.con (.int 1)))) (.cons (.expr (.mt .append (.var 3) (.cons (.tup (.cons (.var 4) (.cons (.bin .Add (.var 4) (.con (.int 1))) (.cons (.ite (.cmp .Eq (.bin .Mod (.var 6) (.con (.int 2))) (.con (.int 0))) (.con (.str (Str.ofString "right"))) (.con (.str (Str.ofString "left")))) .nil)))) .nil))) .nil) .nil) (.cons (.ifs (.cmp .Lt (.var 5) (.bin .Sub (.var 1) (.con (.int 1)))) (.cons (.expr (.mt .append (.var 3) (.cons (.tup (.cons (.var 4) (.cons (.bin .Add (.var 4) (.var 2)) (.cons (.ite (.cmp .Eq (.bin .Mod (.var 5) (.con (.int 2))) (.con (.int 0))) (.con (.str (Str.ofString "lower"))) (.con (.str (Str.ofString "upper")))) .nil)))) .nil))) .nil) .nil) .nil)))) (.cons (.ret (.bi .sorted (.cons (.var 3) .nil))) .nil))))⟩
abbrev nm_joints_in : List Str := [Str.ofString "map_pair", Str.ofString "rows", Str.ofString "columns", Str.ofString "found", Str.ofString "leaf", Str.ofString "row", Str.ofString "column"]
def fd_fits_map_stack : RF.Fd := ⟨2, 4, (.cons (.set (.nm 2) (.bin .Mult (.sub (.var 0) (.con (.int 0))) (.sub (.var 0) (.con (.int 1))))) (.cons (.ifs (.or (.not (.call 1 (.cons (.var 1) (.cons (.var 2) (.cons (.var 2) .nil))))) (.not (.bi .all (.cons (.comp false (.call 0 (.cons (.var 3) (.cons (.con (.int 0)) (.cons (.bin .Sub (.var 2) (.con (.int 1))) .nil)))) (.nm 3) (.ex (.var 1)) .nil [3]) .nil)))) (.cons (.ret (.con (.bl false))) .nil) .nil) (.cons (.ret (.cmp .Eq (.un .lenset (.var 1)) (.var 2))) .nil)))⟩
abbrev nm_fits_map_stack : List Str := [Str.ofString "map_pair", Str.ofString "value", Str.ofString "many", Str.ofString "leaf"]
def fd_spots_in : RF.Fd := ⟨1, 3, (.cons (.ret (.bi .dict (.cons (.comp false (.tup (.cons (.var 2) (.cons (.var 1) .nil))) (.tp (.cons (.nm 1) (.cons (.nm 2) .nil))) (.enm (.var 0)) .nil [1, 2]) .nil))) .nil)⟩
abbrev nm_spots_in : List Str := [Str.ofString "stack", Str.ofString "at", Str.ofString "leaf"]
def fd_do_take_turns : RF.Fd := ⟨3, 5, (.cons (.ifs (.or (.cmp .NotEq (.sub (.var 1) (.con (.int 2))) (.sub (.var 2) (.con (.int 2)))) (.cmp .Lt (.un .lenset (.bin .Add (.slc (.var 1) (.con .non) (.con (.int 2))) (.slc (.var 2) (.con .non) (.con (.int 2))))) (.con (.int 4)))) (.cons (.ret (.con (.bl false))) .nil) .nil) (.cons (.set (.tp (.cons (.nm 3) (.cons (.nm 4) .nil))) (.bi .sorted (.cons (.lst false (.cons (.sub (.var 0) (.sub (.var 1) (.con (.int 0)))) (.cons (.sub (.var 0) (.sub (.var 1) (.con (.int 1)))) .nil))) .nil))) (.cons (.ret (.cmp .NotEq (.chn .Lt .Lt (.var 3) (.sub (.var 0) (.sub (.var 2) (.con (.int 0)))) (.var 4)) (.chn .Lt .Lt (.var 3) (.sub (.var 0) (.sub (.var 2) (.con (.int 1)))) (.var 4)))) .nil)))⟩
abbrev nm_do_take_turns : List Str := [Str.ofString "spots", Str.ofString "joint", Str.ofString "other", Str.ofString "low", Str.ofString "high"]
def fd_joint_crossings : RF.Fd := ⟨2, 8, (.cons (.set (.tp (.cons (.nm 2) (.cons (.nm 3) (.cons (.nm 4) .nil)))) (.tup (.cons (.call 5 (.cons (.var 0) .nil)) (.cons (.call 7 (.cons (.var 1) .nil)) (.cons (.lst true .nil) .nil))))) (.cons (.for (.tp (.cons (.nm 5) (.cons (.nm 6) .nil))) (.enm (.var 2)) (.cons (.for (.nm 7) (.rng2 (.bin .Add (.var 5) (.con (.int 1))) (.bi .len (.cons (.var 2) .nil))) (.cons (.ifs (.call 8 (.cons (.var 3) (.cons (.var 6) (.cons (.sub (.var 2) (.var 7)) .nil)))) (.cons (.expr (.mt .append (.var 4) (.cons (.tup (.cons (.var 5) (.cons (.var 7) .nil))) .nil))) .nil) .nil) .nil)) .nil)) (.cons (.ret (.frz (.var 4))) .nil)))⟩
abbrev nm_joint_crossings : List Str := [Str.ofString "map_pair", Str.ofString "stack", Str.ofString "joints", Str.ofString "spots", Str.ofString "found", Str.ofString "at", Str.ofString "joint", Str.ofString "by"]
def fd_need_map_stack : RF.Fd := ⟨2, 2, (.cons (.expr (.call 3 (.cons (.var 0) .nil))) (.cons (.ifs (.not (.call 6 (.cons (.var 0) (.cons (.var 1) .nil)))) (.cons .nvr .nil) .nil) .nil))⟩
abbrev nm_need_map_stack : List Str := [Str.ofString "map_pair", Str.ofString "stack"]
def fd_joint_mark : RF.Fd := ⟨3, 5, (.cons (.set (.tp (.cons (.nm 3) (.cons (.nm 4) .nil))) (.ite (.call 4 (.cons (.var 0) (.cons (.sub (.var 2) (.con (.int 0))) .nil))) (.tup (.cons (.sub (.var 2) (.con (.int 1))) (.cons (.sub (.var 2) (.con (.int 0))) .nil))) (.tup (.cons (.sub (.var 2) (.con (.int 0))) (.cons (.sub (.var 2) (.con (.int 1))) .nil))))) (.cons (.ret (.ite (.cmp .Gt (.sub (.var 1) (.var 4)) (.sub (.var 1) (.var 3))) (.glob 2) (.glob 1))) .nil))⟩
abbrev nm_joint_mark : List Str := [Str.ofString "map_pair", Str.ofString "spots", Str.ofString "joint", Str.ofString "even", Str.ofString "odd"]
def fd_map_marks_in : RF.Fd := ⟨2, 4, (.cons (.set (.nm 2) (.call 7 (.cons (.var 1) .nil))) (.cons (.ret (.mt .join (.con (.str (Str.ofString ""))) (.cons (.comp false (.call 11 (.cons (.var 0) (.cons (.var 2) (.cons (.var 3) .nil)))) (.nm 3) (.ex (.call 5 (.cons (.var 0) .nil))) .nil [3]) .nil))) .nil))⟩
abbrev nm_map_marks_in : List Str := [Str.ofString "map_pair", Str.ofString "stack", Str.ofString "spots", Str.ofString "joint"]
def fd_fits_told : RF.Fd := ⟨2, 3, (.cons (.ifs (.or (.not (.bi .isinst (.cons (.var 1) (.cons (.tyc "str") .nil)))) (.cmp .NotEq (.bi .len (.cons (.var 1) .nil)) (.bi .len (.cons (.call 5 (.cons (.var 0) .nil)) .nil)))) (.cons (.ret (.con (.bl false))) .nil) .nil) (.cons (.ret (.bi .all (.cons (.comp false (.cmp .In (.var 2) (.tup (.cons (.glob 1) (.cons (.glob 2) (.cons (.glob 3) .nil))))) (.nm 2) (.ex (.var 1)) .nil [2]) .nil))) .nil))⟩
abbrev nm_fits_told : List Str := [Str.ofString "map_pair", Str.ofString "value", Str.ofString "sign"]
def fd_need_map_marks : RF.Fd := ⟨2, 2, (.cons (.expr (.call 3 (.cons (.var 0) .nil))) (.cons (.ifs (.not (.call 13 (.cons (.var 0) (.cons (.var 1) .nil)))) (.cons .nvr .nil) .nil) .nil))⟩
abbrev nm_need_map_marks : List Str := [Str.ofString "map_pair", Str.ofString "marks"]
def fd_corner_joints : RF.Fd := ⟨2, 7, (.cons (.set (.tp (.cons (.nm 2) (.cons (.nm 3) .nil))) (.var 0)) (.cons (.ifs (.or (.cmp .Eq (.bin .Mod (.var 1) (.var 3)) (.bin .Sub (.var 3) (.con (.int 1)))) (.cmp .Eq (.bin .FloorDiv (.var 1) (.var 3)) (.bin .Sub (.var 2) (.con (.int 1))))) (.cons (.ret (.lst false .nil)) .nil) .nil) (.cons (.set (.nm 4) (.tup (.cons (.var 1) (.cons (.bin .Add (.var 1) (.con (.int 1))) (.cons (.bin .Add (.var 1) (.var 3)) (.cons (.bin .Add (.bin .Add (.var 1) (.var 3)) (.con (.int 1))) .nil)))))) (.cons (.ret (.comp false (.var 5) (.tp (.cons (.nm 5) (.cons (.nm 6) .nil))) (.enm (.call 5 (.cons (.var 0) .nil))) (.cons (.and (.cmp .In (.sub (.var 6) (.con (.int 0))) (.var 4)) (.cmp .In (.sub (.var 6) (.con (.int 1))) (.var 4))) .nil) [5, 6])) .nil))))⟩
abbrev nm_corner_joints : List Str := [Str.ofString "map_pair", Str.ofString "leaf", Str.ofString "rows", Str.ofString "columns", Str.ofString "four", Str.ofString "at", Str.ofString "joint"]
def fd_is_map : RF.Fd := ⟨1, 1, (.cons (.ret (.call 2 (.cons (.var 0) .nil))) .nil)⟩
abbrev nm_is_map : List Str := [Str.ofString "value"]
def fd_map_joints : RF.Fd := ⟨1, 1, (.cons (.expr (.call 3 (.cons (.var 0) .nil))) (.cons (.ret (.bi .tuple (.cons (.call 5 (.cons (.var 0) .nil)) .nil))) .nil))⟩
abbrev nm_map_joints : List Str := [Str.ofString "map_pair"]
def fd_is_map_stack : RF.Fd := ⟨2, 2, (.cons (.expr (.call 3 (.cons (.var 0) .nil))) (.cons (.ret (.call 6 (.cons (.var 0) (.cons (.var 1) .nil)))) .nil))⟩
abbrev nm_is_map_stack : List Str := [Str.ofString "map_pair", Str.ofString "value"]
def fd_joints_crossing : RF.Fd := ⟨2, 3, (.cons (.expr (.call 10 (.cons (.var 0) (.cons (.var 1) .nil)))) (.cons (.set (.nm 2) (.call 9 (.cons (.var 0) (.cons (.var 1) .nil)))) (.cons (.ret (.ite (.cmp .NotEq (.var 2) (.lst false .nil)) (.sub (.var 2) (.con (.int 0))) (.con .non))) .nil)))⟩
abbrev nm_joints_crossing : List Str := [Str.ofString "map_pair", Str.ofString "stack", Str.ofString "found"]
def fd_do_joints_cross : RF.Fd := ⟨3, 4, (.cons (.expr (.call 10 (.cons (.var 0) (.cons (.var 1) .nil)))) (.cons (.ifs (.or (.not (.call 1 (.cons (.var 2) (.cons (.con (.int 2)) (.cons (.con (.int 2)) .nil))))) (.not (.bi .all (.cons (.comp false (.call 0 (.cons (.var 3) (.cons (.con (.int 0)) (.cons (.bin .Sub (.bi .len (.cons (.call 5 (.cons (.var 0) .nil)) .nil)) (.con (.int 1))) .nil)))) (.nm 3) (.ex (.var 2)) .nil [3]) .nil)))) (.cons (.ret (.con (.bl false))) .nil) .nil) (.cons (.ret (.cmp .In (.var 2) (.call 9 (.cons (.var 0) (.cons (.var 1) .nil))))) .nil)))⟩
abbrev nm_do_joints_cross : List Str := [Str.ofString "map_pair", Str.ofString "stack", Str.ofString "value", Str.ofString "at"]
def fd_is_flat_stack : RF.Fd := ⟨2, 2, (.cons (.expr (.call 10 (.cons (.var 0) (.cons (.var 1) .nil)))) (.cons (.ret (.cmp .Eq (.call 9 (.cons (.var 0) (.cons (.var 1) .nil))) (.lst false .nil))) .nil))⟩
abbrev nm_is_flat_stack : List Str := [Str.ofString "map_pair", Str.ofString "stack"]
def fd_stack_marks : RF.Fd := ⟨2, 2, (.cons (.expr (.call 10 (.cons (.var 0) (.cons (.var 1) .nil)))) (.cons (.ret (.call 12 (.cons (.var 0) (.cons (.var 1) .nil)))) .nil))⟩
abbrev nm_stack_marks : List Str := [Str.ofString "map_pair", Str.ofString "stack"]
def fd_map_bad_corners : RF.Fd := ⟨2, 6, (.cons (.expr (.call 14 (.cons (.var 0) (.cons (.var 1) .nil)))) (.cons (.set (.nm 2) (.lst true .nil)) (.cons (.for (.nm 3) (.rng1 (.bin .Mult (.sub (.var 0) (.con (.int 0))) (.sub (.var 0) (.con (.int 1))))) (.cons (.set (.nm 4) (.comp false (.sub (.var 1) (.var 5)) (.nm 5) (.ex (.call 15 (.cons (.var 0) (.cons (.var 3) .nil)))) .nil [5])) (.cons (.ifs (.and (.cmp .NotEq (.var 4) (.lst false .nil)) (.and (.cmp .NotIn (.glob 3) (.var 4)) (.cmp .NotIn (.mt .count (.var 4) (.cons (.glob 2) .nil)) (.tup (.cons (.con (.int 1)) (.cons (.con (.int 3)) .nil)))))) (.cons (.expr (.mt .append (.var 2) (.cons (.var 3) .nil))) .nil) .nil) .nil))) (.cons (.ret (.bi .tuple (.cons (.var 2) .nil))) .nil))))⟩
abbrev nm_map_bad_corners : List Str := [Str.ofString "map_pair", Str.ofString "marks", Str.ofString "found", Str.ofString "leaf", Str.ofString "signs", Str.ofString "at"]
def fd_fits_order : RF.Fd := ⟨1, 2, (.cons (.ifs (.or (.not (.call 1 (.cons (.var 0) (.cons (.con (.int 1)) (.cons (.glob 4) .nil))))) (.not (.bi .all (.cons (.comp false (.call 0 (.cons (.var 1) (.cons (.con (.int 0)) (.cons (.bin .Sub (.bi .len (.cons (.var 0) .nil)) (.con (.int 1))) .nil)))) (.nm 1) (.ex (.var 0)) .nil [1]) .nil)))) (.cons (.ret (.con (.bl false))) .nil) .nil) (.cons (.ret (.cmp .Eq (.un .lenset (.var 0)) (.bi .len (.cons (.var 0) .nil)))) .nil))⟩
abbrev nm_fits_order : List Str := [Str.ofString "value", Str.ofString "leaf"]
def fd_need_order : RF.Fd := ⟨1, 1, (.cons (.ifs (.not (.call 24 (.cons (.var 0) .nil))) (.cons .nvr .nil) .nil) .nil)⟩
abbrev nm_need_order : List Str := [Str.ofString "value"]
def fd_heights_of : RF.Fd := ⟨1, 4, (.cons (.set (.nm 1) (.comp true (.con (.int 0)) (.nm 2) (.ex (.var 0)) .nil [2])) (.cons (.for (.tp (.cons (.nm 3) (.cons (.nm 2) .nil))) (.enm (.var 0)) (.cons (.set (.sb (.var 1) (.var 2)) (.var 3)) .nil)) (.cons (.ret (.frz (.var 1))) .nil)))⟩
abbrev nm_heights_of : List Str := [Str.ofString "order", Str.ofString "found", Str.ofString "leaf", Str.ofString "height"]
def fd_do_cross : RF.Fd := ⟨2, 5, (.cons (.set (.tp (.cons (.nm 2) (.cons (.nm 3) .nil))) (.tup (.cons (.bi .min (.cons (.var 0) .nil)) (.cons (.bi .max (.cons (.var 0) .nil)) .nil)))) (.cons (.ret (.cmp .Eq (.bi .len (.cons (.comp false (.con (.int 1)) (.nm 4) (.ex (.var 1)) (.cons (.chn .Lt .Lt (.var 2) (.var 4) (.var 3)) .nil) [4]) .nil)) (.con (.int 1)))) .nil))⟩
abbrev nm_do_cross : List Str := [Str.ofString "one", Str.ofString "other", Str.ofString "low", Str.ofString "high", Str.ofString "height"]
def fd_creases_in : RF.Fd := ⟨1, 2, (.cons (.set (.nm 1) (.call 26 (.cons (.var 0) .nil))) (.cons (.ret (.lstI false (.zip (.var 1) (.slc (.var 1) (.con (.int 1)) (.con .non))))) .nil))⟩
abbrev nm_creases_in : List Str := [Str.ofString "order", Str.ofString "heights"]
def fd_crossings_in : RF.Fd := ⟨1, 6, (.cons (.set (.tp (.cons (.nm 1) (.cons (.nm 2) .nil))) (.tup (.cons (.call 28 (.cons (.var 0) .nil)) (.cons (.lst true .nil) .nil)))) (.cons (.for (.tp (.cons (.nm 3) (.cons (.nm 4) .nil))) (.enm (.var 1)) (.cons (.for (.nm 5) (.rng3 (.bin .Add (.var 3) (.con (.int 2))) (.bi .len (.cons (.var 1) .nil)) (.con (.int 2))) (.cons (.ifs (.call 27 (.cons (.var 4) (.cons (.sub (.var 1) (.var 5)) .nil))) (.cons (.expr (.mt .append (.var 2) (.cons (.tup (.cons (.var 3) (.cons (.var 5) .nil))) .nil))) .nil) .nil) .nil)) .nil)) (.cons (.ret (.frz (.var 2))) .nil)))⟩
abbrev nm_crossings_in : List Str := [Str.ofString "order", Str.ofString "creases", Str.ofString "found", Str.ofString "one", Str.ofString "crease", Str.ofString "other"]
def fd_is_flat : RF.Fd := ⟨1, 1, (.cons (.ret (.cmp .Eq (.call 29 (.cons (.var 0) .nil)) (.lst false .nil))) .nil)⟩
abbrev nm_is_flat : List Str := [Str.ofString "order"]
def fd_mark_of : RF.Fd := ⟨2, 2, (.cons (.ret (.ite (.cmp .Eq (.cmp .Gt (.sub (.var 1) (.con (.int 1))) (.sub (.var 1) (.con (.int 0)))) (.cmp .Eq (.bin .Mod (.var 0) (.con (.int 2))) (.con (.int 0)))) (.con (.str (Str.ofString "v"))) (.con (.str (Str.ofString "m"))))) .nil)⟩
abbrev nm_mark_of : List Str := [Str.ofString "crease", Str.ofString "pair"]
def fd_marks_in : RF.Fd := ⟨1, 3, (.cons (.ret (.mt .join (.con (.str (Str.ofString ""))) (.cons (.comp false (.call 31 (.cons (.var 1) (.cons (.var 2) .nil))) (.tp (.cons (.nm 1) (.cons (.nm 2) .nil))) (.enm (.call 28 (.cons (.var 0) .nil))) .nil [1, 2]) .nil))) .nil)⟩
abbrev nm_marks_in : List Str := [Str.ofString "order", Str.ofString "crease", Str.ofString "pair"]
def fd_is_folded : RF.Fd := ⟨1, 1, (.cons (.expr (.call 25 (.cons (.var 0) .nil))) (.cons (.ret (.call 30 (.cons (.var 0) .nil))) .nil))⟩
abbrev nm_is_folded : List Str := [Str.ofString "order"]
def fd_marks_of : RF.Fd := ⟨1, 1, (.cons (.expr (.call 25 (.cons (.var 0) .nil))) (.cons (.ret (.call 32 (.cons (.var 0) .nil))) .nil))⟩
abbrev nm_marks_of : List Str := [Str.ofString "order"]
def fd__law_cup : RF.Fd := ⟨1, 2, (.cons (.set (.nm 1) (.bi .abs (.cons (.sub (.bin .Add (.bi .list (.cons (.var 0) .nil)) (.lst false (.cons (.con (.int 0)) .nil))) (.con (.int 0))) .nil))) (.cons (.ret (.lst true (.cons (.ite (.cmp .GtE (.var 1) (.bin .Pow (.con (.int 10)) (.con (.int 18)))) (.bin .FloorDiv (.var 1) (.con (.int 73))) (.con (.int 0))) (.cons (.bin .Add (.bin .Mod (.bi .int (.cons (.bin .Add (.bin .Mult (.var 1) (.con (.int 283))) (.con (.int 3907))) .nil)) (.con (.int 2077503167))) (.con (.int 167))) .nil)))) .nil))⟩
abbrev nm__law_cup : List Str := [Str.ofString "script", Str.ofString "cell"]
def fd__law_roll : RF.Fd := ⟨2, 4, (.cons (.ifs (.cmp .Gt (.sub (.var 0) (.con (.int 0))) (.con (.int 0))) (.cons (.set (.nm 2) (.bin .Mod (.bi .int (.cons (.sub (.var 0) (.con (.int 0))) .nil)) (.var 1))) (.cons (.set (.sb (.var 0) (.con (.int 0))) (.bin .FloorDiv (.sub (.var 0) (.con (.int 0))) (.var 1))) (.cons (.ret (.var 2)) .nil))) .nil) (.cons (.set (.sb (.var 0) (.con (.int 1))) (.bin .Mod (.bi .int (.cons (.bin .Add (.bin .Mult (.sub (.var 0) (.con (.int 1))) (.con (.int 31051))) (.con (.int 7993))) .nil)) (.con (.int 2147483543)))) (.cons (.set (.nm 3) (.bin .Mod (.bi .int (.cons (.bin .Mult (.sub (.var 0) (.con (.int 1))) (.bin .Add (.sub (.var 0) (.con (.int 1))) (.con (.int 229)))) .nil)) (.con (.int 2147483587)))) (.cons (.ret (.bin .Mod (.bi .int (.cons (.bin .FloorDiv (.var 3) (.con (.int 821))) .nil)) (.var 1))) .nil))))⟩
abbrev nm__law_roll : List Str := [Str.ofString "cup", Str.ofString "many", Str.ofString "found", Str.ofString "deep"]
def fd__law_some : RF.Fd := ⟨2, 2, (.cons (.ret (.sub (.var 1) (.call 36 (.cons (.var 0) (.cons (.bi .len (.cons (.var 1) .nil)) .nil))))) .nil)⟩
abbrev nm__law_some : List Str := [Str.ofString "cup", Str.ofString "things"]
def fd__law_sort : RF.Fd := ⟨1, 1, (.cons (.ifs (.or (.cmp .Is (.var 0) (.con .non)) (.bi .isinst (.cons (.var 0) (.cons (.tyc "bool") .nil)))) (.cons (.ret (.ite (.cmp .Is (.var 0) (.con .non)) (.con (.int 0)) (.con (.int 1)))) .nil) .nil) (.cons (.ifs (.or (.bi .isinst (.cons (.var 0) (.cons (.tyc "int") .nil))) (.bi .isinst (.cons (.var 0) (.cons (.tyc "str") .nil)))) (.cons (.ret (.ite (.bi .isinst (.cons (.var 0) (.cons (.tyc "int") .nil))) (.con (.int 2)) (.con (.int 3)))) .nil) .nil) (.cons (.ret (.ite (.bi .isinst (.cons (.var 0) (.cons (.tyc "tuple") .nil))) (.con (.int 4)) (.ite (.bi .isinst (.cons (.var 0) (.cons (.tyc "list") .nil))) (.con (.int 5)) (.con (.int 6))))) .nil)))⟩
abbrev nm__law_sort : List Str := [Str.ofString "value"]
def fd__law_like : RF.Fd := ⟨2, 5, (.cons (.set (.nm 2) (.call 38 (.cons (.var 1) .nil))) (.cons (.ifs (.or (.cmp .NotEq (.call 38 (.cons (.var 0) .nil)) (.var 2)) (.cmp .Eq (.var 2) (.con (.int 6)))) (.cons (.ret (.con (.bl false))) .nil) .nil) (.cons (.ifs (.cmp .In (.var 2) (.tup (.cons (.con (.int 4)) (.cons (.con (.int 5)) .nil)))) (.cons (.ret (.and (.cmp .Eq (.bi .len (.cons (.var 0) .nil)) (.bi .len (.cons (.var 1) .nil))) (.cmp .Eq (.comp false (.con (.int 1)) (.tp (.cons (.nm 3) (.cons (.nm 4) .nil))) (.zip (.var 0) (.var 1)) (.cons (.not (.call 39 (.cons (.var 3) (.cons (.var 4) .nil)))) .nil) [3, 4]) (.lst false .nil)))) .nil) .nil) (.cons (.ret (.cmp .Eq (.var 0) (.var 1))) .nil))))⟩
abbrev nm__law_like : List Str := [Str.ofString "one", Str.ofString "other", Str.ofString "sort", Str.ofString "first", Str.ofString "second"]
def fd__law_bent : RF.Fd := ⟨2, 5, (.cons (.ifs (.or (.not (.bi .isinst (.cons (.var 1) (.cons (.tyc "tuple") .nil)))) (.or (.cmp .Eq (.var 1) (.tup .nil)) (.cmp .Eq (.call 36 (.cons (.var 0) (.cons (.con (.int 8)) .nil))) (.con (.int 0))))) (.cons (.set (.nm 2) (.lst false (.cons (.con .non) (.cons (.con (.bl true)) (.cons (.con (.bl false)) (.cons (.con (.int 0)) (.cons (.con (.int 1)) (.cons (.con (.int 2)) (.cons (.con (.int 5)) (.cons (.neg (.con (.int 1))) (.cons (.con (.str (Str.ofString ""))) (.cons (.con (.str (Str.ofString "m"))) (.cons (.con (.str (Str.ofString "v"))) (.cons (.con (.str (Str.ofString "right"))) (.cons (.tup .nil) (.cons (.lst false .nil) .nil)))))))))))))))) (.cons (.ifs (.cmp .Eq (.call 38 (.cons (.var 1) .nil)) (.con (.int 2))) (.cons (.set (.nm 2) (.bin .Add (.var 2) (.lst false (.cons (.bin .Add (.var 1) (.con (.int 1))) (.cons (.bin .Add (.var 1) (.con (.int 1))) (.cons (.bin .Sub (.var 1) (.con (.int 1))) .nil)))))) .nil) .nil) (.cons (.ret (.call 37 (.cons (.var 0) (.cons (.var 2) .nil)))) .nil))) .nil) (.cons (.set (.tp (.cons (.nm 3) (.cons (.nm 4) .nil))) (.tup (.cons (.call 36 (.cons (.var 0) (.cons (.bi .len (.cons (.var 1) .nil)) .nil))) (.cons (.call 36 (.cons (.var 0) (.cons (.con (.int 12)) .nil))) .nil)))) (.cons (.ifs (.cmp .Eq (.var 4) (.con (.int 0))) (.cons (.ret (.bin .Add (.slc (.var 1) (.con .non) (.var 3)) (.slc (.var 1) (.bin .Add (.var 3) (.con (.int 1))) (.con .non)))) .nil) .nil) (.cons (.ifs (.cmp .Eq (.var 4) (.con (.int 1))) (.cons (.ret (.bin .Add (.slc (.var 1) (.con .non) (.bin .Add (.var 3) (.con (.int 1)))) (.slc (.var 1) (.var 3) (.con .non)))) .nil) .nil) (.cons (.ifs (.cmp .Eq (.var 4) (.con (.int 2))) (.cons (.ret (.bi .list (.cons (.var 1) .nil))) .nil) .nil) (.cons (.ifs (.cmp .Eq (.var 4) (.con (.int 3))) (.cons (.ret (.rev (.var 1))) .nil) .nil) (.cons (.ret (.bin .Add (.bin .Add (.slc (.var 1) (.con .non) (.var 3)) (.tup (.cons (.call 40 (.cons (.var 0) (.cons (.sub (.var 1) (.var 3)) .nil))) .nil))) (.slc (.var 1) (.bin .Add (.var 3) (.con (.int 1))) (.con .non)))) .nil)))))))⟩
abbrev nm__law_bent : List Str := [Str.ofString "cup", Str.ofString "value", Str.ofString "some", Str.ofString "at", Str.ofString "way"]
def fd__law_map : RF.Fd := ⟨2, 5, (.cons (.set (.nm 2) (.lst false .nil)) (.cons (.for (.nm 3) (.rng2 (.con (.int 1)) (.bin .Add (.var 1) (.con (.int 1)))) (.cons (.set (.nm 2) (.bin .Add (.var 2) (.comp false (.tup (.cons (.var 3) (.cons (.var 4) .nil))) (.nm 4) (.rng2 (.con (.int 1)) (.bin .Add (.bin .FloorDiv (.var 1) (.var 3)) (.con (.int 1)))) (.cons (.or (.and (.cmp .Gt (.var 3) (.con (.int 1))) (.cmp .Gt (.var 4) (.con (.int 1)))) (.cmp .Eq (.call 36 (.cons (.var 0) (.cons (.con (.int 3)) .nil))) (.con (.int 0)))) .nil) [4]))) .nil)) (.cons (.ret (.call 37 (.cons (.var 0) (.cons (.bin .Add (.var 2) (.lst false (.cons (.tup (.cons (.con (.int 2)) (.cons (.con (.int 2)) .nil))) .nil))) .nil)))) .nil)))⟩
abbrev nm__law_map : List Str := [Str.ofString "cup", Str.ofString "most", Str.ofString "found", Str.ofString "rows", Str.ofString "columns"]
def fd__law_joints : RF.Fd := ⟨1, 10, (.cons (.set (.tp (.cons (.nm 1) (.cons (.nm 2) .nil))) (.var 0)) (.cons (.set (.nm 3) (.lst true .nil)) (.cons (.for (.nm 4) (.rng1 (.bin .Mult (.var 1) (.var 2))) (.cons (.for (.nm 5) (.rng2 (.bin .Add (.var 4) (.con (.int 1))) (.bin .Mult (.var 1) (.var 2))) (.cons (.set (.tp (.cons (.nm 6) (.cons (.nm 7) (.cons (.nm 8) (.cons (.nm 9) .nil))))) (.tup (.cons (.bin .FloorDiv (.var 4) (.var 2)) (.cons (.bin .Mod (.var 4) (.var 2)) (.cons (.bin .FloorDiv (.var 5) (.var 2)) (.cons (.bin .Mod (.var 5) (.var 2)) .nil)))))) (.cons (.ifs (.and (.cmp .Eq (.var 6) (.var 8)) (.cmp .Eq (.var 9) (.bin .Add (.var 7) (.con (.int 1))))) (.cons (.expr (.mt .append (.var 3) (.cons (.tup (.cons (.var 4) (.cons (.var 5) (.cons (.sub (.lst false (.cons (.con (.str (Str.ofString "right"))) (.cons (.con (.str (Str.ofString "left"))) .nil))) (.bin .Mod (.bi .int (.cons (.var 7) .nil)) (.con (.int 2)))) .nil)))) .nil))) .nil) .nil) (.cons (.ifs (.and (.cmp .Eq (.var 7) (.var 9)) (.cmp .Eq (.var 8) (.bin .Add (.var 6) (.con (.int 1))))) (.cons (.expr (.mt .append (.var 3) (.cons (.tup (.cons (.var 4) (.cons (.var 5) (.cons (.sub (.lst false (.cons (.con (.str (Str.ofString "lower"))) (.cons (.con (.str (Str.ofString "upper"))) .nil))) (.bin .Mod (.bi .int (.cons (.var 6) .nil)) (.con (.int 2)))) .nil)))) .nil))) .nil) .nil) .nil)))) .nil)) (.cons (.ret (.frz (.var 3))) .nil))))⟩
abbrev nm__law_joints : List Str := [Str.ofString "map_pair", Str.ofString "rows", Str.ofString "columns", Str.ofString "found", Str.ofString "one", Str.ofString "other", Str.ofString "row", Str.ofString "column", Str.ofString "low", Str.ofString "right"]
def fd__law_turns : RF.Fd := ⟨3, 5, (.cons (.ifs (.or (.cmp .NotEq (.sub (.var 1) (.con (.int 2))) (.sub (.var 2) (.con (.int 2)))) (.cmp .NotEq (.comp false (.var 3) (.nm 3) (.ex (.slc (.var 1) (.con .non) (.con (.int 2)))) (.cons (.cmp .In (.var 3) (.slc (.var 2) (.con .non) (.con (.int 2)))) .nil) [3]) (.lst false .nil))) (.cons (.ret (.con (.bl false))) .nil) .nil) (.cons (.set (.nm 4) (.comp false (.cmp .In (.var 3) (.slc (.var 1) (.con .non) (.con (.int 2)))) (.nm 3) (.ex (.var 0)) (.cons (.cmp .In (.var 3) (.bin .Add (.slc (.var 1) (.con .non) (.con (.int 2))) (.slc (.var 2) (.con .non) (.con (.int 2))))) .nil) [3])) (.cons (.ret (.cmp .Eq (.sub (.var 4) (.con (.int 0))) (.sub (.var 4) (.con (.int 2))))) .nil)))⟩
abbrev nm__law_turns : List Str := [Str.ofString "stack", Str.ofString "joint", Str.ofString "other", Str.ofString "leaf", Str.ofString "row"]
def fd__law_crossings : RF.Fd := ⟨2, 7, (.cons (.set (.tp (.cons (.nm 2) (.cons (.nm 3) .nil))) (.tup (.cons (.call 42 (.cons (.var 0) .nil)) (.cons (.lst false .nil) .nil)))) (.cons (.for (.tp (.cons (.nm 4) (.cons (.nm 5) .nil))) (.enm (.var 2)) (.cons (.set (.nm 3) (.bin .Add (.var 3) (.comp false (.tup (.cons (.var 4) (.cons (.var 6) .nil))) (.nm 6) (.rng2 (.bin .Add (.var 4) (.con (.int 1))) (.bi .len (.cons (.var 2) .nil))) (.cons (.call 43 (.cons (.var 1) (.cons (.var 5) (.cons (.sub (.var 2) (.var 6)) .nil)))) .nil) [6]))) .nil)) (.cons (.ret (.var 3)) .nil)))⟩
abbrev nm__law_crossings : List Str := [Str.ofString "map_pair", Str.ofString "stack", Str.ofString "joints", Str.ofString "found", Str.ofString "at", Str.ofString "joint", Str.ofString "by"]
def fd__law_drawn_flat : RF.Fd := ⟨2, 7, (.cons (.set (.nm 2) (.call 42 (.cons (.var 1) .nil))) (.cons (.for (.nm 3) (.rng1 (.con (.int 20))) (.cons (.set (.nm 4) (.tup (.cons (.con (.int 0)) .nil))) (.cons (.for (.nm 5) (.rng2 (.con (.int 1)) (.bin .Mult (.sub (.var 1) (.con (.int 0))) (.sub (.var 1) (.con (.int 1))))) (.cons (.set (.nm 6) (.ite (.cmp .NotEq (.var 4) (.tup .nil)) (.call 50 (.cons (.var 2) (.cons (.var 4) (.cons (.var 5) .nil)))) (.lst false .nil))) (.cons (.set (.nm 4) (.ite (.cmp .NotEq (.var 6) (.lst false .nil)) (.call 37 (.cons (.var 0) (.cons (.var 6) .nil))) (.tup .nil))) .nil))) (.cons (.ifs (.cmp .NotEq (.var 4) (.tup .nil)) (.cons (.ret (.var 4)) .nil) .nil) .nil)))) (.cons (.ret (.call 46 (.cons (.var 1) .nil))) .nil)))⟩
abbrev nm__law_drawn_flat : List Str := [Str.ofString "cup", Str.ofString "map_pair", Str.ofString "joints", Str.ofString "turn", Str.ofString "part", Str.ofString "leaf", Str.ofString "able"]
def fd__law_rolled_up : RF.Fd := ⟨1, 7, (.cons (.set (.tp (.cons (.nm 1) (.cons (.nm 2) .nil))) (.var 0)) (.cons (.set (.nm 3) (.lst false .nil)) (.cons (.for (.nm 4) (.rng1 (.var 1)) (.cons (.set (.nm 5) (.comp false (.bin .Add (.bin .Mult (.var 4) (.var 2)) (.var 6)) (.nm 6) (.rng1 (.var 2)) .nil [6])) (.cons (.set (.nm 3) (.bin .Add (.var 3) (.ite (.cmp .Eq (.bin .Mod (.bi .int (.cons (.var 4) .nil)) (.con (.int 2))) (.con (.int 0))) (.var 5) (.rev (.var 5))))) .nil))) (.cons (.ret (.bi .tuple (.cons (.var 3) .nil))) .nil))))⟩
abbrev nm__law_rolled_up : List Str := [Str.ofString "map_pair", Str.ofString "rows", Str.ofString "columns", Str.ofString "found", Str.ofString "row", Str.ofString "line", Str.ofString "column"]
def fd__law_told : RF.Fd := ⟨3, 4, (.cons (.ret (.mt .join (.con (.str (Str.ofString ""))) (.cons (.comp false (.ite (.cmp .Eq (.call 36 (.cons (.var 0) (.cons (.var 2) .nil))) (.con (.int 0))) (.call 37 (.cons (.var 0) (.cons (.lst false (.cons (.con (.str (Str.ofString "m"))) (.cons (.con (.str (Str.ofString "v"))) (.cons (.con (.str (Str.ofString "?"))) .nil)))) .nil))) (.call 37 (.cons (.var 0) (.cons (.lst false (.cons (.var 3) (.cons (.var 3) (.cons (.con (.str (Str.ofString "?"))) .nil)))) .nil)))) (.nm 3) (.ex (.var 1)) .nil [3]) .nil))) .nil)⟩
abbrev nm__law_told : List Str := [Str.ofString "cup", Str.ofString "own", Str.ofString "often", Str.ofString "sign"]
def fd__law_line : RF.Fd := ⟨2, 4, (.cons (.set (.tp (.cons (.nm 2) (.cons (.nm 3) .nil))) (.tup (.cons (.un .listM (.var 1)) (.cons (.lst true .nil) .nil)))) (.cons (.while (.cmp .NotEq (.var 2) (.lst false .nil)) (.cons (.expr (.mt .append (.var 3) (.cons (.mt .pop (.var 2) (.cons (.call 36 (.cons (.var 0) (.cons (.bi .len (.cons (.var 2) .nil)) .nil))) .nil)) .nil))) .nil)) (.cons (.ret (.frz (.var 3))) .nil)))⟩
abbrev nm__law_line : List Str := [Str.ofString "cup", Str.ofString "things", Str.ofString "left", Str.ofString "found"]
def fd__law_map_marks : RF.Fd := ⟨2, 7, (.cons (.set (.nm 2) (.con (.str (Str.ofString "")))) (.cons (.for (.tp (.cons (.nm 3) (.cons (.nm 4) (.cons (.nm 5) .nil)))) (.ex (.call 42 (.cons (.var 0) .nil))) (.cons (.set (.nm 6) (.cmp .Eq (.bin .Mod (.bi .int (.cons (.bin .Add (.bin .FloorDiv (.var 3) (.sub (.var 0) (.con (.int 1)))) (.bin .Mod (.var 3) (.sub (.var 0) (.con (.int 1))))) .nil)) (.con (.int 2))) (.con (.int 0)))) (.cons (.set (.nm 2) (.bin .Add (.var 2) (.ite (.cmp .Eq (.cmp .Gt (.mt .index (.var 1) (.cons (.var 4) .nil)) (.mt .index (.var 1) (.cons (.var 3) .nil))) (.var 6)) (.con (.str (Str.ofString "v"))) (.con (.str (Str.ofString "m")))))) .nil))) (.cons (.ret (.var 2)) .nil)))⟩
abbrev nm__law_map_marks : List Str := [Str.ofString "map_pair", Str.ofString "stack", Str.ofString "found", Str.ofString "one", Str.ofString "other", Str.ofString "side", Str.ofString "is_even"]
def fd__law_put : RF.Fd := ⟨3, 11, (.cons (.set (.tp (.cons (.nm 3) (.cons (.nm 4) .nil))) (.tup (.cons (.lst false .nil) (.cons (.comp false (.var 5) (.nm 5) (.ex (.var 0)) (.cons (.cmp .LtE (.sub (.var 5) (.con (.int 1))) (.var 2)) .nil) [5]) .nil)))) (.cons (.set (.nm 6) (.comp false (.var 5) (.nm 5) (.ex (.var 4)) (.cons (.cmp .Eq (.sub (.var 5) (.con (.int 1))) (.var 2)) .nil) [5])) (.cons (.for (.nm 7) (.rng1 (.bin .Add (.bi .len (.cons (.var 1) .nil)) (.con (.int 1)))) (.cons (.set (.tp (.cons (.nm 8) (.cons (.nm 9) .nil))) (.tup (.cons (.bin .Add (.bin .Add (.slc (.var 1) (.con .non) (.var 7)) (.tup (.cons (.var 2) .nil))) (.slc (.var 1) (.var 7) (.con .non))) (.cons (.con (.int 0)) .nil)))) (.cons (.for (.nm 5) (.ex (.var 6)) (.cons (.set (.nm 9) (.bin .Add (.var 9) (.bi .len (.cons (.comp false (.var 10) (.nm 10) (.ex (.var 4)) (.cons (.call 43 (.cons (.var 8) (.cons (.var 5) (.cons (.var 10) .nil)))) .nil) [10]) .nil)))) .nil)) (.cons (.set (.nm 3) (.bin .Add (.var 3) (.ite (.cmp .Eq (.var 9) (.con (.int 0))) (.lst false (.cons (.var 8) .nil)) (.lst false .nil)))) .nil)))) (.cons (.ret (.var 3)) .nil))))⟩
abbrev nm__law_put : List Str := [Str.ofString "joints", Str.ofString "part", Str.ofString "leaf", Str.ofString "found", Str.ofString "pairs", Str.ofString "joint", Str.ofString "own", Str.ofString "at", Str.ofString "some", Str.ofString "bad", Str.ofString "other"]
def fd__law_is_stack : RF.Fd := ⟨2, 3, (.cons (.ifs (.or (.not (.bi .isinst (.cons (.var 1) (.cons (.tyc "tuple") .nil)))) (.cmp .NotEq (.comp false (.var 2) (.nm 2) (.ex (.var 1)) (.cons (.cmp .NotEq (.call 38 (.cons (.var 2) .nil)) (.con (.int 2))) .nil) [2]) (.lst false .nil))) (.cons (.ret (.con (.bl false))) .nil) .nil) (.cons (.ret (.cmp .Eq (.bi .sorted (.cons (.var 1) .nil)) (.lstI false (.rng1 (.bin .Mult (.sub (.var 0) (.con (.int 0))) (.sub (.var 0) (.con (.int 1)))))))) .nil))⟩
abbrev nm__law_is_stack : List Str := [Str.ofString "map_pair", Str.ofString "value", Str.ofString "leaf"]
def fd__law_bad : RF.Fd := ⟨2, 10, (.cons (.set (.tp (.cons (.nm 2) (.cons (.nm 3) .nil))) (.tup (.cons (.lst true .nil) (.cons (.call 42 (.cons (.var 0) .nil)) .nil)))) (.cons (.for (.nm 4) (.rng1 (.bin .Mult (.sub (.var 0) (.con (.int 0))) (.sub (.var 0) (.con (.int 1))))) (.cons (.set (.nm 5) (.lst false (.cons (.var 4) (.cons (.bin .Add (.var 4) (.con (.int 1))) (.cons (.bin .Add (.var 4) (.sub (.var 0) (.con (.int 1)))) (.cons (.bin .Add (.bin .Add (.var 4) (.sub (.var 0) (.con (.int 1)))) (.con (.int 1))) .nil)))))) (.cons (.set (.nm 6) (.comp false (.var 7) (.tp (.cons (.nm 7) (.cons (.nm 8) .nil))) (.zip (.var 1) (.var 3)) (.cons (.and (.cmp .In (.sub (.var 8) (.con (.int 0))) (.var 5)) (.cmp .In (.sub (.var 8) (.con (.int 1))) (.var 5))) .nil) [7, 8])) (.cons (.set (.nm 9) (.and (.cmp .Lt (.bin .Mod (.var 4) (.sub (.var 0) (.con (.int 1)))) (.bin .Sub (.sub (.var 0) (.con (.int 1))) (.con (.int 1)))) (.cmp .Lt (.bin .FloorDiv (.var 4) (.sub (.var 0) (.con (.int 1)))) (.bin .Sub (.sub (.var 0) (.con (.int 0))) (.con (.int 1)))))) (.cons (.ifs (.and (.var 9) (.and (.cmp .NotIn (.con (.str (Str.ofString "?"))) (.var 6)) (.cmp .NotIn (.mt .count (.var 6) (.cons (.con (.str (Str.ofString "v"))) .nil)) (.tup (.cons (.con (.int 1)) (.cons (.con (.int 3)) .nil)))))) (.cons (.expr (.mt .append (.var 2) (.cons (.var 4) .nil))) .nil) .nil) .nil))))) (.cons (.ret (.frz (.var 2))) .nil)))⟩
abbrev nm__law_bad : List Str := [Str.ofString "map_pair", Str.ofString "told", Str.ofString "found", Str.ofString "joints", Str.ofString "leaf", Str.ofString "four", Str.ofString "signs", Str.ofString "sign", Str.ofString "joint", Str.ofString "is_corner"]
def fd__law_right : RF.Fd := ⟨3, 14, (.cons (.set (.tp (.cons (.nm 3) (.cons (.nm 4) .nil))) (.tup (.cons (.call 42 (.cons (.var 1) .nil)) (.cons (.call 44 (.cons (.var 1) (.cons (.var 2) .nil))) .nil)))) (.cons (.set (.nm 5) (.lst false (.cons (.call 16 (.cons (.var 1) .nil)) (.cons (.call 17 (.cons (.var 1) .nil)) (.cons (.call 18 (.cons (.var 1) (.cons (.var 2) .nil))) (.cons (.call 21 (.cons (.var 1) (.cons (.var 2) .nil))) (.cons (.call 22 (.cons (.var 1) (.cons (.var 2) .nil))) .nil))))))) (.cons (.ifs (.not (.call 39 (.cons (.var 5) (.cons (.lst false (.cons (.con (.bl true)) (.cons (.bi .tuple (.cons (.var 3) .nil)) (.cons (.con (.bl true)) (.cons (.cmp .Eq (.var 4) (.lst false .nil)) (.cons (.call 49 (.cons (.var 1) (.cons (.var 2) .nil))) .nil)))))) .nil)))) (.cons (.ret (.con (.bl false))) .nil) .nil) (.cons (.set (.nm 6) (.call 19 (.cons (.var 1) (.cons (.var 2) .nil)))) (.cons (.ifs (.or (.cmp .NotEq (.cmp .Is (.var 6) (.con .non)) (.cmp .Eq (.var 4) (.lst false .nil))) (.and (.cmp .IsNot (.var 6) (.con .non)) (.cmp .Eq (.comp false (.con (.int 1)) (.nm 7) (.ex (.var 4)) (.cons (.call 39 (.cons (.var 7) (.cons (.var 6) .nil))) .nil) [7]) (.lst false .nil)))) (.cons (.ret (.con (.bl false))) .nil) .nil) (.cons (.set (.nm 8) (.bin .Add (.slc (.var 4) (.con .non) (.con (.int 3))) (.comp false (.tup (.cons (.call 36 (.cons (.var 0) (.cons (.bin .Add (.bi .len (.cons (.var 3) .nil)) (.con (.int 1))) .nil))) (.cons (.call 36 (.cons (.var 0) (.cons (.bin .Add (.bi .len (.cons (.var 3) .nil)) (.con (.int 1))) .nil))) .nil))) (.nm 9) (.rng1 (.con (.int 4))) .nil [9]))) (.cons (.for (.nm 10) (.ex (.bin .Add (.bin .Add (.var 8) (.lst false (.cons (.tup (.cons (.con (.int 1)) (.cons (.con (.int 0)) .nil))) (.cons (.tup (.cons (.con (.bl true)) (.cons (.con (.int 2)) .nil))) (.cons (.con .non) (.cons (.tup (.cons (.con (.int 0)) .nil)) (.cons (.lst false (.cons (.con (.int 0)) (.cons (.con (.int 1)) .nil))) (.cons (.tup .nil) .nil)))))))) (.comp false (.rev (.var 11)) (.nm 11) (.ex (.slc (.var 4) (.con .non) (.con (.int 2)))) .nil [11]))) (.cons (.set (.nm 12) (.cmp .NotEq (.comp false (.con (.int 1)) (.nm 7) (.ex (.var 4)) (.cons (.call 39 (.cons (.var 7) (.cons (.var 10) .nil))) .nil) [7]) (.lst false .nil))) (.cons (.ifs (.not (.call 39 (.cons (.call 20 (.cons (.var 1) (.cons (.var 2) (.cons (.var 10) .nil)))) (.cons (.var 12) .nil)))) (.cons (.ret (.con (.bl false))) .nil) .nil) .nil))) (.cons (.for (.nm 10) (.ex (.tup (.cons (.call 40 (.cons (.var 0) (.cons (.var 2) .nil))) (.cons (.call 40 (.cons (.var 0) (.cons (.var 2) .nil))) (.cons (.slc (.var 2) (.con (.int 1)) (.con .non)) (.cons (.bin .Add (.var 2) (.tup (.cons (.bi .len (.cons (.var 2) .nil)) .nil))) (.cons (.bi .list (.cons (.var 2) .nil)) (.cons (.con .non) (.cons (.bin .Mult (.slc (.var 2) (.con .non) (.con (.int 1))) (.bi .len (.cons (.var 2) .nil))) .nil))))))))) (.cons (.ifs (.not (.call 39 (.cons (.call 18 (.cons (.var 1) (.cons (.var 10) .nil))) (.cons (.call 51 (.cons (.var 1) (.cons (.var 10) .nil))) .nil)))) (.cons (.ret (.con (.bl false))) .nil) .nil) .nil)) (.cons (.set (.nm 13) (.call 47 (.cons (.var 0) (.cons (.call 49 (.cons (.var 1) (.cons (.var 2) .nil))) (.cons (.con (.int 6)) .nil))))) (.cons (.ifs (.not (.call 39 (.cons (.call 23 (.cons (.var 1) (.cons (.var 13) .nil))) (.cons (.bi .tuple (.cons (.call 52 (.cons (.var 1) (.cons (.var 13) .nil))) .nil)) .nil)))) (.cons (.ret (.con (.bl false))) .nil) .nil) (.cons (.ifs (.and (.cmp .Eq (.sub (.var 1) (.con (.int 0))) (.con (.int 1))) (.cmp .LtE (.sub (.var 1) (.con (.int 1))) (.con (.int 10)))) (.cons (.ifs (.not (.call 39 (.cons (.lst false (.cons (.call 33 (.cons (.var 2) .nil)) (.cons (.call 34 (.cons (.var 2) .nil)) .nil))) (.cons (.lst false (.cons (.cmp .Eq (.var 4) (.lst false .nil)) (.cons (.call 49 (.cons (.var 1) (.cons (.var 2) .nil))) .nil))) .nil)))) (.cons (.ret (.con (.bl false))) .nil) .nil) .nil) .nil) (.cons (.ret (.or (.cmp .NotEq (.var 4) (.lst false .nil)) (.cmp .Eq (.call 23 (.cons (.var 1) (.cons (.call 49 (.cons (.var 1) (.cons (.var 2) .nil))) .nil))) (.tup .nil)))) .nil))))))))))))⟩
abbrev nm__law_right : List Str := [Str.ofString "cup", Str.ofString "map_pair", Str.ofString "stack", Str.ofString "joints", Str.ofString "crossings", Str.ofString "told", Str.ofString "pair", Str.ofString "own", Str.ofString "values", Str.ofString "turn", Str.ofString "value", Str.ofString "one", Str.ofString "good", Str.ofString "marks"]
def fd__law_written_right : RF.Fd := ⟨0, 8, (.cons (.set (.tp (.cons (.nm 0) (.cons (.nm 1) (.cons (.nm 2) .nil)))) (.tup (.cons (.tup (.cons (.con (.int 2)) (.cons (.con (.int 2)) .nil))) (.cons (.tup (.cons (.con (.int 0)) (.cons (.con (.int 1)) (.cons (.con (.int 3)) (.cons (.con (.int 2)) .nil))))) (.cons (.tup (.cons (.con (.int 0)) (.cons (.con (.int 1)) (.cons (.con (.int 2)) (.cons (.con (.int 3)) .nil))))) .nil))))) (.cons (.set (.nm 3) (.lst false (.cons (.call 17 (.cons (.var 0) .nil)) (.cons (.call 18 (.cons (.var 0) (.cons (.var 1) .nil))) (.cons (.call 18 (.cons (.var 0) (.cons (.tup (.cons (.con (.int 0)) (.cons (.con (.int 1)) (.cons (.con (.int 2)) .nil)))) .nil))) (.cons (.call 21 (.cons (.var 0) (.cons (.var 1) .nil))) (.cons (.call 21 (.cons (.var 0) (.cons (.var 2) .nil))) .nil))))))) (.cons (.set (.nm 3) (.bin .Add (.var 3) (.lst false (.cons (.call 19 (.cons (.var 0) (.cons (.var 2) .nil))) (.cons (.call 20 (.cons (.var 0) (.cons (.var 2) (.cons (.tup (.cons (.con (.int 0)) (.cons (.con (.int 3)) .nil))) .nil)))) (.cons (.call 19 (.cons (.var 0) (.cons (.var 1) .nil))) (.cons (.call 22 (.cons (.var 0) (.cons (.var 1) .nil))) .nil))))))) (.cons (.set (.nm 4) (.lst false (.cons (.tup (.cons (.tup (.cons (.con (.int 0)) (.cons (.con (.int 1)) (.cons (.con (.str (Str.ofString "right"))) .nil)))) (.cons (.tup (.cons (.con (.int 0)) (.cons (.con (.int 2)) (.cons (.con (.str (Str.ofString "lower"))) .nil)))) (.cons (.tup (.cons (.con (.int 1)) (.cons (.con (.int 3)) (.cons (.con (.str (Str.ofString "lower"))) .nil)))) (.cons (.tup (.cons (.con (.int 2)) (.cons (.con (.int 3)) (.cons (.con (.str (Str.ofString "right"))) .nil)))) .nil))))) (.cons (.con (.bl true)) (.cons (.con (.bl false)) (.cons (.con (.bl true)) (.cons (.con (.bl false)) (.cons (.tup (.cons (.con (.int 1)) (.cons (.con (.int 2)) .nil))) (.cons (.con (.bl false)) (.cons (.con .non) (.cons (.con (.str (Str.ofString "vvmv"))) .nil))))))))))) (.cons (.ifs (.not (.call 39 (.cons (.var 3) (.cons (.var 4) .nil)))) (.cons (.ret (.con (.bl false))) .nil) .nil) (.cons (.set (.nm 3) (.bin .Add (.comp false (.call 23 (.cons (.var 0) (.cons (.var 5) .nil))) (.nm 5) (.ex (.tup (.cons (.con (.str (Str.ofString "vvmv"))) (.cons (.con (.str (Str.ofString "vvvv"))) (.cons (.con (.str (Str.ofString "vm?v"))) (.cons (.con (.str (Str.ofString "vvmm"))) (.cons (.con (.str (Str.ofString "mmmm"))) (.cons (.con (.str (Str.ofString "mvmm"))) .nil)))))))) .nil [5]) (.lst false (.cons (.call 23 (.cons (.tup (.cons (.con (.int 1)) (.cons (.con (.int 4)) .nil))) (.cons (.con (.str (Str.ofString "vvv"))) .nil))) .nil)))) (.cons (.set (.nm 3) (.bin .Add (.var 3) (.lst false (.cons (.call 23 (.cons (.tup (.cons (.con (.int 3)) (.cons (.con (.int 3)) .nil))) (.cons (.bin .Mult (.con (.str (Str.ofString "v"))) (.con (.int 12))) .nil))) (.cons (.call 17 (.cons (.tup (.cons (.con (.int 1)) (.cons (.con (.int 1)) .nil))) .nil)) (.cons (.call 22 (.cons (.tup (.cons (.con (.int 1)) (.cons (.con (.int 1)) .nil))) (.cons (.tup (.cons (.con (.int 0)) .nil)) .nil))) (.cons (.slc (.call 17 (.cons (.tup (.cons (.con (.int 3)) (.cons (.con (.int 2)) .nil))) .nil)) (.con (.int 3)) (.con (.int 5))) .nil))))))) (.cons (.set (.nm 4) (.lst false (.cons (.tup .nil) (.cons (.tup (.cons (.con (.int 0)) .nil)) (.cons (.tup .nil) (.cons (.tup (.cons (.con (.int 0)) .nil)) (.cons (.tup (.cons (.con (.int 0)) .nil)) (.cons (.tup .nil) (.cons (.tup .nil) (.cons (.tup (.cons (.con (.int 0)) (.cons (.con (.int 1)) (.cons (.con (.int 3)) (.cons (.con (.int 4)) .nil))))) (.cons (.tup .nil) (.cons (.con (.str (Str.ofString ""))) (.cons (.tup (.cons (.tup (.cons (.con (.int 2)) (.cons (.con (.int 3)) (.cons (.con (.str (Str.ofString "right"))) .nil)))) (.cons (.tup (.cons (.con (.int 2)) (.cons (.con (.int 4)) (.cons (.con (.str (Str.ofString "upper"))) .nil)))) .nil))) .nil))))))))))))) (.cons (.ifs (.not (.call 39 (.cons (.var 3) (.cons (.var 4) .nil)))) (.cons (.ret (.con (.bl false))) .nil) .nil) (.cons (.set (.nm 6) (.lst false (.cons (.tup (.cons (.con (.int 1)) (.cons (.con (.int 1)) .nil))) (.cons (.tup (.cons (.con (.int 3)) (.cons (.con (.int 4)) .nil))) (.cons (.tup (.cons (.con (.int 12)) (.cons (.con (.int 1)) .nil))) (.cons (.tup (.cons (.con (.int 1)) (.cons (.con (.int 12)) .nil))) (.cons (.tup (.cons (.con (.int 2)) (.cons (.con (.int 6)) .nil))) (.cons (.tup (.cons (.con (.int 3)) (.cons (.con (.int 5)) .nil))) (.cons (.tup (.cons (.con (.int 1)) (.cons (.con (.int 13)) .nil))) (.cons (.tup (.cons (.con (.int 0)) (.cons (.con (.int 2)) .nil))) (.cons (.tup (.cons (.con (.int 2)) (.cons (.neg (.con (.int 1))) .nil))) (.cons (.tup (.cons (.con (.bl true)) (.cons (.con (.int 2)) .nil))) (.cons (.lst false (.cons (.con (.int 2)) (.cons (.con (.int 2)) .nil))) (.cons (.tup (.cons (.con (.int 2)) .nil)) (.cons (.tup (.cons (.con (.int 2)) (.cons (.con (.int 2)) (.cons (.con (.int 1)) .nil)))) (.cons (.con .non) (.cons (.con (.str (Str.ofString "22"))) (.cons (.tup .nil) .nil)))))))))))))))))) (.cons (.ret (.call 39 (.cons (.comp false (.call 16 (.cons (.var 7) .nil)) (.nm 7) (.ex (.var 6)) .nil [7]) (.cons (.bin .Add (.lmul false (.cons (.con (.bl true)) .nil) (.con (.int 5))) (.lmul false (.cons (.con (.bl false)) .nil) (.con (.int 11)))) .nil)))) .nil)))))))))))⟩
abbrev nm__law_written_right : List Str := [Str.ofString "square", Str.ofString "flat", Str.ofString "other", Str.ofString "told", Str.ofString "due", Str.ofString "marks", Str.ofString "values", Str.ofString "value"]
def fd_law : RF.Fd := ⟨1, 7, (.cons (.set (.nm 1) (.call 35 (.cons (.var 0) .nil))) (.cons (.for (.nm 2) (.ex (.tup (.cons (.con (.int 4)) (.cons (.con (.int 9)) (.cons (.con (.int 12)) .nil))))) (.cons (.set (.nm 3) (.call 41 (.cons (.var 1) (.cons (.var 2) .nil)))) (.cons (.set (.nm 4) (.bin .Mult (.sub (.var 3) (.con (.int 0))) (.sub (.var 3) (.con (.int 1))))) (.cons (.for (.nm 5) (.ex (.tup (.cons (.call 45 (.cons (.var 1) (.cons (.var 3) .nil))) (.cons (.bi .tuple (.cons (.call 48 (.cons (.var 1) (.cons (.lstI false (.rng1 (.var 4))) .nil))) .nil)) (.cons (.call 46 (.cons (.var 3) .nil)) .nil))))) (.cons (.ifs (.not (.call 53 (.cons (.var 1) (.cons (.var 3) (.cons (.var 5) .nil))))) (.cons (.ret (.con (.bl false))) .nil) .nil) .nil)) .nil)))) (.cons (.set (.nm 6) (.tup (.cons (.con (.int 1)) (.cons (.bin .Add (.con (.int 2)) (.call 36 (.cons (.var 1) (.cons (.con (.int 9)) .nil)))) .nil)))) (.cons (.ret (.and (.call 53 (.cons (.var 1) (.cons (.var 6) (.cons (.call 45 (.cons (.var 1) (.cons (.var 6) .nil))) .nil)))) (.call 54 .nil))) .nil))))⟩
abbrev nm_law : List Str := [Str.ofString "script", Str.ofString "cup", Str.ofString "most", Str.ofString "map_pair", Str.ofString "many", Str.ofString "stack", Str.ofString "strip"]
def cs : List RF.D := [.int 12, .str (Str.ofString "m"), .str (Str.ofString "v"), .str (Str.ofString "?"), .int 10]
def prog : List RF.Fd := [fd_is_whole, fd_is_tuple_of, fd_fits_map, fd_need_map, fd_is_odd_leaf, fd_joints_in, fd_fits_map_stack, fd_spots_in, fd_do_take_turns, fd_joint_crossings, fd_need_map_stack, fd_joint_mark, fd_map_marks_in, fd_fits_told, fd_need_map_marks, fd_corner_joints, fd_is_map, fd_map_joints, fd_is_map_stack, fd_joints_crossing, fd_do_joints_cross, fd_is_flat_stack, fd_stack_marks, fd_map_bad_corners, fd_fits_order, fd_need_order, fd_heights_of, fd_do_cross, fd_creases_in, fd_crossings_in, fd_is_flat, fd_mark_of, fd_marks_in, fd_is_folded, fd_marks_of, fd__law_cup, fd__law_roll, fd__law_some, fd__law_sort, fd__law_like, fd__law_bent, fd__law_map, fd__law_joints, fd__law_turns, fd__law_crossings, fd__law_drawn_flat, fd__law_rolled_up, fd__law_told, fd__law_line, fd__law_map_marks, fd__law_put, fd__law_is_stack, fd__law_bad, fd__law_right, fd__law_written_right, fd_law]
def cns : List Str := [Str.ofString "MOST", Str.ofString "MOUNTAIN", Str.ofString "VALLEY", Str.ofString "OPEN", Str.ofString "MOST_LEAVES"]
def fns : List (Str × List Str) := [(Str.ofString "is_whole", [Str.ofString "value", Str.ofString "low", Str.ofString "high"]), (Str.ofString "is_tuple_of", [Str.ofString "value", Str.ofString "low", Str.ofString "high"]), (Str.ofString "fits_map", [Str.ofString "value"]), (Str.ofString "need_map", [Str.ofString "value"]), (Str.ofString "is_odd_leaf", [Str.ofString "map_pair", Str.ofString "leaf"]), (Str.ofString "joints_in", [Str.ofString "map_pair"]), (Str.ofString "fits_map_stack", [Str.ofString "map_pair", Str.ofString "value"]), (Str.ofString "spots_in", [Str.ofString "stack"]), (Str.ofString "do_take_turns", [Str.ofString "spots", Str.ofString "joint", Str.ofString "other"]), (Str.ofString "joint_crossings", [Str.ofString "map_pair", Str.ofString "stack"]), (Str.ofString "need_map_stack", [Str.ofString "map_pair", Str.ofString "stack"]), (Str.ofString "joint_mark", [Str.ofString "map_pair", Str.ofString "spots", Str.ofString "joint"]), (Str.ofString "map_marks_in", [Str.ofString "map_pair", Str.ofString "stack"]), (Str.ofString "fits_told", [Str.ofString "map_pair", Str.ofString "value"]), (Str.ofString "need_map_marks", [Str.ofString "map_pair", Str.ofString "marks"]), (Str.ofString "corner_joints", [Str.ofString "map_pair", Str.ofString "leaf"]), (Str.ofString "is_map", [Str.ofString "value"]), (Str.ofString "map_joints", [Str.ofString "map_pair"]), (Str.ofString "is_map_stack", [Str.ofString "map_pair", Str.ofString "value"]), (Str.ofString "joints_crossing", [Str.ofString "map_pair", Str.ofString "stack"]), (Str.ofString "do_joints_cross", [Str.ofString "map_pair", Str.ofString "stack", Str.ofString "value"]), (Str.ofString "is_flat_stack", [Str.ofString "map_pair", Str.ofString "stack"]), (Str.ofString "stack_marks", [Str.ofString "map_pair", Str.ofString "stack"]), (Str.ofString "map_bad_corners", [Str.ofString "map_pair", Str.ofString "marks"]), (Str.ofString "fits_order", [Str.ofString "value"]), (Str.ofString "need_order", [Str.ofString "value"]), (Str.ofString "heights_of", [Str.ofString "order"]), (Str.ofString "do_cross", [Str.ofString "one", Str.ofString "other"]), (Str.ofString "creases_in", [Str.ofString "order"]), (Str.ofString "crossings_in", [Str.ofString "order"]), (Str.ofString "is_flat", [Str.ofString "order"]), (Str.ofString "mark_of", [Str.ofString "crease", Str.ofString "pair"]), (Str.ofString "marks_in", [Str.ofString "order"]), (Str.ofString "is_folded", [Str.ofString "order"]), (Str.ofString "marks_of", [Str.ofString "order"]), (Str.ofString "_law_cup", [Str.ofString "script"]), (Str.ofString "_law_roll", [Str.ofString "cup", Str.ofString "many"]), (Str.ofString "_law_some", [Str.ofString "cup", Str.ofString "things"]), (Str.ofString "_law_sort", [Str.ofString "value"]), (Str.ofString "_law_like", [Str.ofString "one", Str.ofString "other"]), (Str.ofString "_law_bent", [Str.ofString "cup", Str.ofString "value"]), (Str.ofString "_law_map", [Str.ofString "cup", Str.ofString "most"]), (Str.ofString "_law_joints", [Str.ofString "map_pair"]), (Str.ofString "_law_turns", [Str.ofString "stack", Str.ofString "joint", Str.ofString "other"]), (Str.ofString "_law_crossings", [Str.ofString "map_pair", Str.ofString "stack"]), (Str.ofString "_law_drawn_flat", [Str.ofString "cup", Str.ofString "map_pair"]), (Str.ofString "_law_rolled_up", [Str.ofString "map_pair"]), (Str.ofString "_law_told", [Str.ofString "cup", Str.ofString "own", Str.ofString "often"]), (Str.ofString "_law_line", [Str.ofString "cup", Str.ofString "things"]), (Str.ofString "_law_map_marks", [Str.ofString "map_pair", Str.ofString "stack"]), (Str.ofString "_law_put", [Str.ofString "joints", Str.ofString "part", Str.ofString "leaf"]), (Str.ofString "_law_is_stack", [Str.ofString "map_pair", Str.ofString "value"]), (Str.ofString "_law_bad", [Str.ofString "map_pair", Str.ofString "told"]), (Str.ofString "_law_right", [Str.ofString "cup", Str.ofString "map_pair", Str.ofString "stack"]), (Str.ofString "_law_written_right", []), (Str.ofString "law", [Str.ofString "script"])]
def blt : List Str := [Str.ofString "abs", Str.ofString "all", Str.ofString "bool", Str.ofString "dict", Str.ofString "enumerate", Str.ofString "int", Str.ofString "isinstance", Str.ofString "len", Str.ofString "list", Str.ofString "max", Str.ofString "min", Str.ofString "range", Str.ofString "set", Str.ofString "sorted", Str.ofString "str", Str.ofString "tuple", Str.ofString "zip"]
end Gk31

set_option Elab.async false
set_option linter.all false
set_option maxRecDepth 100000
set_option maxHeartbeats 4000000
namespace Gk31
open RF
open PySem (Str Operator CmpOp)
/-- a cup: two ints -/
abbrev cupM (a b : Int) : MO := .lst [.int a, .int b]
theorem low_cup {a b : Int} (n : Nat) : (cupM a b).low n = true := rfl
def Cup (M : Mh) (n : Nat) : Prop := ∃ a b, M[n]? = some (cupM a b)
theorem Cup.set {M : Mh} {n : Nat} (h : Cup M n) (a b : Int) : Cup (M.set n (cupM a b)) n := by
  obtain ⟨a', b', h⟩ := h
  exact ⟨a, b, List.getElem?_set_self (List.getElem?_eq_some_iff.mp h).1⟩
theorem roll_spec {k n : Nat} {M : Mh} {m : Int} (h : Cup M n) (hm : 0 < m) (hb : m < 1000000000) :
    (callP cs prog (k + 1) 36 [.ref n, .int m] (T M)).sat fun d M' => ∃ r a' b', d = .int r ∧ 0 ≤ r ∧ r < m ∧ M' = T (M.set n (cupM a' b')) := by
  obtain ⟨a, b, h⟩ := h
  rw [callP_mut (fd := fd__law_roll) rfl rfl rfl]
  have hs : ∀ o, (M.set n o)[n]? = some o := fun o => List.getElem?_set_self (List.getElem?_eq_some_iff.mp h).1
  have hm0 : m ≠ 0 := by omega
  have hd : divOk m = true := by unfold divOk; simp; omega
  unfold goF fd__law_roll
  by_cases ha : 0 < a
  · simp [h, ha, hs, hm0, hd, finS (d := .int _) rfl low_cup]
    exact ⟨Int.fmod_nonneg_of_pos _ hm, Int.fmod_lt_of_pos _ hm, _, _, rfl⟩
  · simp [h, ha, hs, hm0, finS (d := .int _) rfl low_cup, mulOk_fmod]
    exact ⟨Int.fmod_nonneg_of_pos _ hm, Int.fmod_lt_of_pos _ hm, _, _, rfl⟩
theorem some_spec {k n : Nat} {M : Mh} {ds : List D} (h : Cup M n) (hl : ds ≠ []) (hb : ds.length < 1000000000) (hr : D.nrs ds = true) :
    (callP cs prog (k + 2) 37 [.ref n, .lst ds] (T M)).sat fun d M' => ∃ a' b', d ∈ ds ∧ M' = T (M.set n (cupM a' b')) := by
  rw [callP_mut (fd := fd__law_some) rfl rfl rfl]
  unfold goF fd__law_some
  have h0 : 0 < ds.length := by cases ds with | nil => exact absurd rfl hl | cons a r => simp
  obtain ⟨d, M', e, r, a', b', rfl, r0, r1, rfl⟩ := (roll_spec (k := k) h (show (0 : Int) < (ds.length : Int) by omega) (by omega)).ex
  obtain ⟨x, hx, hm⟩ := atI_int r0 r1
  simp [e, hx, finS (d := x) (nrs_iff.mp hr x hm) low_cup, hm]
  exact ⟨_, _, rfl⟩
theorem cup_go {k : Nat} {M : Mh} {ns : List Int} (hn : ns.length ≤ 63) : ∃ a' b', goF cs (callP cs prog k) fd__law_cup [.lst (ns.map D.int)] (T M) = .ok (.ref M.length) (T (M ++ [cupM a' b'])) := by
  unfold goF fd__law_cup
  cases ns with
  | nil =>
    simp [powOk, LINE]
    exact ⟨_, _, rfl⟩
  | cons i r =>
    have hl : r.length + 1 + 1 ≤ 16777216 := by simp at hn; omega
    by_cases hc : (1000000000000000000 : Int) ≤ (if i < 0 then -i else i)
    · simp [powOk, hl, LINE, hc]
      exact ⟨_, _, rfl⟩
    · simp [powOk, hl, LINE, hc]
      exact ⟨_, _, rfl⟩
theorem cup_spec {k : Nat} {M : Mh} {ns : List Int} (hn : ns.length ≤ 63) :
    (callP cs prog (k + 1) 35 [.lst (ns.map D.int)] (T M)).sat fun d M' => ∃ a' b', d = .ref M.length ∧ M' = T (M ++ [cupM a' b']) := by
  rw [callP_new (fd := fd__law_cup) rfl rfl (by simp) (by obtain ⟨a, b, e⟩ := cup_go (k := k) (M := []) hn; rw [e]; rfl)]
  obtain ⟨a, b, e⟩ := cup_go (k := k) (M := M) hn
  rw [e]
  exact sat_of finN ⟨a, b, rfl, rfl⟩
/-! ### the law's own -/
def pl : Nat → D → Bool
  | _, .non => true
  | _, .bl _ => true
  | _, .int _ => true
  | _, .str s => decide (s.length ≤ 1000)
  | n + 1, .tup ds => decide (ds.length ≤ 1000) && ds.all (pl n)
  | n + 1, .lst ds => decide (ds.length ≤ 1000) && ds.all (pl n)
  | _, _ => false
def sortI : D → Int
  | .non => 0
  | .bl _ => 1
  | .int _ => 2
  | .str _ => 3
  | .tup _ => 4
  | .lst _ => 5
  | _ => 6
mutual
theorem pl_nr : ∀ {n : Nat} {d : D}, pl n d = true → d.nr = true
  | n, .non, _ => nr_non
  | n, .bl _, _ => nr_bl
  | n, .int _, _ => nr_int
  | n, .str _, _ => nr_str
  | 0, .tup ds, h => by cases h
  | 0, .lst ds, h => by cases h
  | n + 1, .tup ds, h => by
    rw [pl, Bool.and_eq_true] at h
    rw [nr_tup]; exact pl_nrs ds (List.all_eq_true.mp h.2)
  | n + 1, .lst ds, h => by
    rw [pl, Bool.and_eq_true] at h
    rw [nr_lst]; exact pl_nrs ds (List.all_eq_true.mp h.2)
  | n, .ref _, h => by cases n <;> cases h
  | n, .ty _, h => by cases n <;> cases h
  | n, .fn _, h => by cases n <;> cases h
  | n, .dct _ _, h => by cases n <;> cases h
theorem pl_nrs : ∀ {n : Nat} (ds : List D), (∀ d ∈ ds, pl n d = true) → D.nrs ds = true
  | _, [], _ => nrs_nil
  | _, d :: ds, h => by rw [nrs_cons, pl_nr (h d List.mem_cons_self), pl_nrs ds fun x hx => h x (List.mem_cons_of_mem _ hx)]; rfl
end
theorem sort_spec {k n : Nat} {M : Mh} {d : D} (h : pl n d = true) : callP cs prog (k + 1) 38 [d] (T M) = .ok (.int (sortI d)) (T M) := by
  refine callP_pure (fd := fd__law_sort) rfl rfl (by simp [pl_nr h]) rfl ?_
  unfold goF fd__law_sort
  cases d with
  | non => simp [sortI]
  | bl b => simp [sortI]
  | int i => simp [sortI]
  | str s => simp [sortI]
  | tup ds => simp [sortI]
  | lst ds => simp [sortI]
  | ref _ => cases n <;> cases h
  | ty _ => cases n <;> cases h
  | fn _ => cases n <;> cases h
  | dct _ _ => cases n <;> cases h
theorem like_spec : ∀ (n k : Nat) (M : Mh) (d : D), pl n d = true → callP cs prog (k + n + 2) 39 [d, d] (T M) = .ok (.bl true) (T M) := by
  intro n
  induction n with
  | zero =>
    intro k M d h
    refine callP_pure (fd := fd__law_like) rfl rfl (by simp [pl_nr h]) rfl ?_
    unfold goF fd__law_like
    cases d with
    | non => simp [sort_spec h, sortI, D.flat, D.eqv, LINE, eqD, rd, D.dep]
    | bl b => simp [sort_spec h, sortI, D.flat, D.eqv, LINE]
    | int i => simp [sort_spec h, sortI, D.flat, D.eqv, LINE]
    | str s => simp [sort_spec h, sortI, D.flat, D.eqv, LINE]
    | _ => cases h
  | succ n ih =>
    intro k M d h
    have go : ∀ ds : List D, decide (ds.length ≤ 1000) = true → ds.all (pl n) = true → ∀ f : D → Mh → R (Option D), (∀ x, x ∈ ds → f (.tup [x, x]) (T []) = .ok none (T [])) → compL f (ds.map fun a => D.tup [a, a]) none (ds.map fun a => D.tup [a, a]) (T []) [] = .ok [] (T []) := fun ds hl ha f hf => by
      rw [compL_filter (p := fun _ => false) (g := id) _ _ (fun x hx => by obtain ⟨y, hy, rfl⟩ := List.mem_map.mp hx; rw [hf y hy]; rfl) (by simp at hl; simp [LINE]; omega)]
      simp
    rw [show k + (n + 1) + 2 = (k + n + 2) + 1 by omega]
    refine callP_pure (fd := fd__law_like) rfl rfl (by simp [pl_nr h]) rfl ?_
    unfold goF fd__law_like
    cases d with
    | non => simp [sort_spec h, sortI, D.flat, D.eqv, LINE, eqD, rd, D.dep]
    | bl b => simp [sort_spec h, sortI, D.flat, D.eqv, LINE]
    | int i => simp [sort_spec h, sortI, D.flat, D.eqv, LINE]
    | str s => simp [sort_spec h, sortI, D.flat, D.eqv, LINE]
    | tup ds =>
      have h' := h
      rw [pl, Bool.and_eq_true] at h'
      simp [sort_spec h, sortI, D.flat, D.eqv, LINE]
      rw [go ds h'.1 h'.2 _ fun x hx => by simp [wipeE, ih k [] x (List.all_eq_true.mp h'.2 x hx)]]
      simp [LINE]
    | lst ds =>
      have h' := h
      rw [pl, Bool.and_eq_true] at h'
      simp [sort_spec h, sortI, D.flat, D.eqv, LINE]
      rw [go ds h'.1 h'.2 _ fun x hx => by simp [wipeE, ih k [] x (List.all_eq_true.mp h'.2 x hx)]]
      simp [LINE]
    | ref _ => cases h
    | ty _ => cases h
    | fn _ => cases h
    | dct _ _ => cases h

theorem str_bd {s t : Str} : (s == t) = decide (s = t) := by by_cases h : s = t <;> simp [h]
theorem beq_len : ∀ {xs ys : List D}, D.beqs xs ys = true → xs.length = ys.length
  | [], [], _ => rfl
  | [], _ :: _, h => by simp [D.beqs] at h
  | _ :: _, [], h => by simp [D.beqs] at h
  | x :: xs, y :: ys, h => by
    rw [D.beqs, Bool.and_eq_true] at h
    simp [beq_len h.2]
theorem beqs_zip : ∀ {xs ys : List D}, xs.length = ys.length → D.beqs xs ys = (List.zip xs ys).all fun p => D.beq p.1 p.2
  | [], [], _ => rfl
  | [], _ :: _, h => by simp at h
  | _ :: _, [], h => by simp at h
  | x :: xs, y :: ys, h => by
    rw [D.beqs, List.zip_cons_cons, List.all_cons, beqs_zip (by simpa using h)]
theorem beqs_ne {xs ys : List D} (h : xs.length ≠ ys.length) : D.beqs xs ys = false := by
  cases e : D.beqs xs ys with
  | false => rfl
  | true => exact absurd (beq_len e) h
theorem zipW_zip {xs ys : List D} : List.zipWith (fun p q => D.tup [p, q]) xs ys = (List.zip xs ys).map fun p => D.tup [p.1, p.2] := by
  rw [List.zip, List.map_zipWith]
theorem like_items {k n : Nat} {xs ys : List D} {f : D → Mh → R (Option D)} (hx : ∀ x ∈ xs, pl n x = true) (hy : ∀ y ∈ ys, pl n y = true) (hl : xs.length ≤ 1000)
    (hf : ∀ x y, pl n x = true → pl n y = true → f (.tup [x, y]) (T []) = .ok (if !D.beq x y then some (.int 1) else none) (T [])) (all : List D) :
    compL f all none (List.zipWith (fun p q => D.tup [p, q]) xs ys) (T []) [] = .ok (((List.zip xs ys).filter fun p => !D.beq p.1 p.2).map fun _ => D.int 1) (T []) := by
  rw [zipW_zip, compL_fmap (p := fun p => !D.beq p.1 p.2) (g := fun _ => D.int 1) _ _ (fun p hp => hf p.1 p.2 (hx _ (List.of_mem_zip hp).1) (hy _ (List.of_mem_zip hp).2)) (by simp [LINE, List.length_zip]; omega)]
  simp
theorem like_gen : ∀ (n k : Nat) (M : Mh) (d e : D), pl n d = true → pl n e = true → callP cs prog (k + n + 2) 39 [d, e] (T M) = .ok (.bl (D.beq d e)) (T M) := by
  intro n
  induction n with
  | zero =>
    intro k M d e h h'
    refine callP_pure (fd := fd__law_like) rfl rfl (by simp [pl_nr h, pl_nr h']) rfl ?_
    unfold goF fd__law_like
    cases d <;> cases e <;> first
      | (cases h; done)
      | (cases h'; done)
      | (simp [sort_spec h, sort_spec h', sortI, D.flat, D.eqv, LINE, eqD, rd, D.dep, D.beq]; done)
      | (simp [sort_spec h, sort_spec h', sortI, D.flat, D.eqv, LINE, eqD, rd, D.dep, D.beq, str_bd])
  | succ n ih =>
    intro k M d e h h'
    rw [show k + (n + 1) + 2 = (k + n + 2) + 1 by omega]
    refine callP_pure (fd := fd__law_like) rfl rfl (by simp [pl_nr h, pl_nr h']) rfl ?_
    unfold goF fd__law_like
    cases d with
    | tup xs =>
      cases e with
      | tup ys =>
        have h1 := h
        have h2 := h'
        rw [pl, Bool.and_eq_true, decide_eq_true_eq, List.all_eq_true] at h1 h2
        by_cases hl : xs.length = ys.length
        · have hl' : ((xs.length : Int) == (ys.length : Int)) = true := by rw [beq_iff_eq]; omega
          simp [sort_spec h, sort_spec h', sortI, D.flat, D.eqv, LINE, hl', hl]
          rw [like_items (k := k) h1.2 h2.2 h1.1 (fun x y hx hy => by cases q : D.beq x y <;> simp [wipeE, ih k [] x y hx hy, q])]
          rw [show D.beq (.tup xs) (.tup ys) = D.beqs xs ys by rw [D.beq], beqs_zip hl]
          simp [LINE, filter_empty]
        · have hl' : ((xs.length : Int) == (ys.length : Int)) = false := by rw [beq_eq_false_iff_ne]; omega
          simp [sort_spec h, sort_spec h', sortI, D.flat, D.eqv, LINE, hl', D.beq, beqs_ne hl]
      | ref _ => cases h'
      | ty _ => cases h'
      | fn _ => cases h'
      | dct _ _ => cases h'
      | _ => simp [sort_spec h, sort_spec h', sortI, D.flat, D.eqv, LINE, D.beq]
    | lst xs =>
      cases e with
      | lst ys =>
        have h1 := h
        have h2 := h'
        rw [pl, Bool.and_eq_true, decide_eq_true_eq, List.all_eq_true] at h1 h2
        by_cases hl : xs.length = ys.length
        · have hl' : ((xs.length : Int) == (ys.length : Int)) = true := by rw [beq_iff_eq]; omega
          simp [sort_spec h, sort_spec h', sortI, D.flat, D.eqv, LINE, hl', hl]
          rw [like_items (k := k) h1.2 h2.2 h1.1 (fun x y hx hy => by cases q : D.beq x y <;> simp [wipeE, ih k [] x y hx hy, q])]
          rw [show D.beq (.lst xs) (.lst ys) = D.beqs xs ys by rw [D.beq], beqs_zip hl]
          simp [LINE, filter_empty]
        · have hl' : ((xs.length : Int) == (ys.length : Int)) = false := by rw [beq_eq_false_iff_ne]; omega
          simp [sort_spec h, sort_spec h', sortI, D.flat, D.eqv, LINE, hl', D.beq, beqs_ne hl]
      | ref _ => cases h'
      | ty _ => cases h'
      | fn _ => cases h'
      | dct _ _ => cases h'
      | _ => simp [sort_spec h, sort_spec h', sortI, D.flat, D.eqv, LINE, D.beq]
    | ref _ => cases h
    | ty _ => cases h
    | fn _ => cases h
    | dct _ _ => cases h
    | _ => cases e <;> first
      | (cases h'; done)
      | (simp [sort_spec h, sort_spec h', sortI, D.flat, D.eqv, LINE, eqD, rd, D.dep, D.beq]; done)
      | (simp [sort_spec h, sort_spec h', sortI, D.flat, D.eqv, LINE, eqD, rd, D.dep, D.beq, str_bd])

end Gk31

set_option Elab.async false
set_option linter.all false
set_option maxRecDepth 100000
set_option maxHeartbeats 4000000
namespace Gk31
open RF
/-! ### orders, in plain lists -/
def IsP (p : List Nat) : Prop := p.Perm (List.range p.length)
theorem IsP.nodup {p : List Nat} (h : IsP p) : p.Nodup := h.nodup_iff.mpr List.nodup_range
theorem IsP.mem {p : List Nat} (h : IsP p) {l : Nat} : l ∈ p ↔ l < p.length := by rw [h.mem_iff, List.mem_range]
theorem IsP.lt {p : List Nat} (h : IsP p) {l : Nat} (hl : l < p.length) : p.idxOf l < p.length := List.idxOf_lt_length_iff.mpr (h.mem.mpr hl)
theorem idx_get {p : List Nat} {l : Nat} (h : l ∈ p) : p[p.idxOf l]? = some l := by
  have := List.getElem_idxOf (xs := p) (x := l) (List.idxOf_lt_length_iff.mpr h)
  rw [List.getElem?_eq_getElem (List.idxOf_lt_length_iff.mpr h), this]
theorem idx_at {p : List Nat} (h : p.Nodup) {l i : Nat} (e : p[i]? = some l) : p.idxOf l = i := by
  have hm : l ∈ p := List.mem_of_getElem? e
  have e2 := idx_get hm
  have h1 := List.idxOf_lt_length_iff.mpr hm
  obtain ⟨h2, _⟩ := List.getElem?_eq_some_iff.mp e
  exact (List.getElem?_inj h1 h).mp (e2.trans e.symm)
theorem IsP.inj {p : List Nat} (h : IsP p) {a b : Nat} (ha : a < p.length) (hb : b < p.length) (n : a ≠ b) : p.idxOf a ≠ p.idxOf b := fun e => by
  have h1 := idx_get (h.mem.mpr ha)
  have h2 := idx_get (h.mem.mpr hb)
  rw [e, h2] at h1
  exact n (Option.some.inj h1).symm
def crossB (a b c d : Nat) : Bool := (decide (min a b < c) && decide (c < max a b)) != (decide (min a b < d) && decide (d < max a b))
def kindsB (a b c d : Int) : Bool :=
  let k : List Int := (sortInt [a, b, c, d]).map fun x => if x == a || x == b then 1 else 0
  k == [0, 1, 0, 1] || k == [1, 0, 1, 0]
def cb (p : List Nat) (i j : Nat) : Bool := crossB (p.idxOf i) (p.idxOf (i + 1)) (p.idxOf j) (p.idxOf (j + 1))
def far (i j : Nat) : Bool := decide (i < j) && (j - i) % 2 == 0
def crsF (m : Nat) (c : Nat → Nat → Bool) : List (Nat × Nat) := (List.range m).flatMap fun i => ((List.range m).filter fun j => far i j && c i j).map fun j => (i, j)
def crs (p : List Nat) : List (Nat × Nat) := crsF (p.length - 1) (cb p)
theorem mem_crsF {m : Nat} {c : Nat → Nat → Bool} {x : Nat × Nat} : x ∈ crsF m c ↔ x.1 < m ∧ x.2 < m ∧ far x.1 x.2 = true ∧ c x.1 x.2 = true := by
  obtain ⟨i, j⟩ := x
  unfold crsF
  simp only [List.mem_flatMap, List.mem_range, List.mem_map, List.mem_filter, Bool.and_eq_true, Prod.mk.injEq]
  constructor
  · rintro ⟨a, h1, b, ⟨h2, h3, h4⟩, rfl, rfl⟩
    exact ⟨h1, h2, h3, h4⟩
  · rintro ⟨h1, h2, h3, h4⟩
    exact ⟨i, h1, j, ⟨h2, h3, h4⟩, rfl, rfl⟩
theorem crsF_congr {m : Nat} {c c' : Nat → Nat → Bool} (h : ∀ i j, i < m → j < m → far i j = true → c i j = c' i j) : crsF m c = crsF m c' := by
  have fm : ∀ (l : List Nat), (∀ i ∈ l, i < m) → l.flatMap (fun i => ((List.range m).filter fun j => far i j && c i j).map fun j => (i, j)) = l.flatMap (fun i => ((List.range m).filter fun j => far i j && c' i j).map fun j => (i, j)) := by
    intro l hl
    induction l with
    | nil => rfl
    | cons i r ih =>
      rw [List.flatMap_cons, List.flatMap_cons, ih fun x hx => hl x (List.mem_cons_of_mem _ hx)]
      congr 1
      congr 1
      apply List.filter_congr
      intro j hj
      cases q : far i j with
      | false => rfl
      | true => rw [h i j (hl i List.mem_cons_self) (List.mem_range.mp hj) q]
  exact fm _ fun i hi => List.mem_range.mp hi
theorem far_iff {i j : Nat} : far i j = true ↔ i < j ∧ (j - i) % 2 = 0 := by unfold far; simp
/-! the crossing of four different heights -/
theorem cross_mono {a b c d t : Nat} : crossB (if t ≤ a then a + 1 else a) (if t ≤ b then b + 1 else b) (if t ≤ c then c + 1 else c) (if t ≤ d then d + 1 else d) = crossB a b c d := by
  unfold crossB
  congr 1 <;> congr 1 <;> rw [decide_eq_decide] <;> split <;> split <;> split <;> omega
theorem cross_rev {a b c d n : Nat} (ha : a < n) (hb : b < n) (hc : c < n) (hd : d < n) : crossB (n - 1 - a) (n - 1 - b) (n - 1 - c) (n - 1 - d) = crossB a b c d := by
  unfold crossB
  congr 1 <;> rw [Bool.and_comm] <;> congr 1 <;> rw [decide_eq_decide] <;> omega
theorem cross_swap {a b c d : Nat} : crossB b a d c = crossB a b c d := by
  unfold crossB
  rw [Nat.min_comm b a, Nat.max_comm b a]
  exact Bool.xor_comm _ _
theorem cross_near {a b c d : Nat} (h : d = c + 1 ∨ c = d + 1) (h1 : a ≠ c) (h2 : a ≠ d) (h3 : b ≠ c) (h4 : b ≠ d) : crossB a b c d = false := by
  unfold crossB
  rw [bne_eq_false_iff_eq, ← Bool.decide_and, ← Bool.decide_and, decide_eq_decide]
  omega
def all4 (n : Nat) (f : Nat → Nat → Nat → Nat → Bool) : Bool := (List.range n).all fun a => (List.range n).all fun b => (List.range n).all fun c => (List.range n).all fun d => f a b c d
theorem all4_at {n : Nat} {f : Nat → Nat → Nat → Nat → Bool} (h : all4 n f = true) {a b c d : Nat} (ha : a < n) (hb : b < n) (hc : c < n) (hd : d < n) : f a b c d = true :=
  List.all_eq_true.mp (List.all_eq_true.mp (List.all_eq_true.mp (List.all_eq_true.mp h a (List.mem_range.mpr ha)) b (List.mem_range.mpr hb)) c (List.mem_range.mpr hc)) d (List.mem_range.mpr hd)
def dif4 (a b c d : Nat) : Bool := a != b && a != c && a != d && b != c && b != d && c != d
theorem dif4_of {a b c d : Nat} (h1 : a ≠ b) (h2 : a ≠ c) (h3 : a ≠ d) (h4 : b ≠ c) (h5 : b ≠ d) (h6 : c ≠ d) : dif4 a b c d = true := by
  unfold dif4
  simp [h1, h2, h3, h4, h5, h6]
def rot0 (n a : Nat) : Nat := if a = 0 then n - 1 else a - 1
theorem rot_dec : ((List.range 11).all fun n => all4 n fun a b c d => !dif4 a b c d || crossB (rot0 n a) (rot0 n b) (rot0 n c) (rot0 n d) == crossB a b c d) = true := by decide +kernel
theorem exch_dec : (all4 10 fun a b c d => !dif4 a b c d || crossB c d a b == crossB a b c d) = true := by decide +kernel
theorem kinds_dec : (all4 10 fun a b c d => !dif4 a b c d || kindsB (a : Nat) (b : Nat) (c : Nat) (d : Nat) == crossB a b c d) = true := by decide +kernel
section
variable {a b c d n : Nat}
theorem cross_rot (hn : n ≤ 10) (ha : a < n) (hb : b < n) (hc : c < n) (hd : d < n) (h : dif4 a b c d = true) : crossB (rot0 n a) (rot0 n b) (rot0 n c) (rot0 n d) = crossB a b c d := by
  have := all4_at (List.all_eq_true.mp rot_dec n (List.mem_range.mpr (by omega))) ha hb hc hd
  simpa [h] using this
theorem cross_exch (ha : a < 10) (hb : b < 10) (hc : c < 10) (hd : d < 10) (h : dif4 a b c d = true) : crossB c d a b = crossB a b c d := by
  have := all4_at exch_dec ha hb hc hd
  simpa [h] using this
theorem cross_kinds (ha : a < 10) (hb : b < 10) (hc : c < 10) (hd : d < 10) (h : dif4 a b c d = true) : kindsB (a : Nat) (b : Nat) (c : Nat) (d : Nat) = crossB a b c d := by
  have := all4_at kinds_dec ha hb hc hd
  simpa [h] using this
end
/-! orders made over -/
/-- four leaves of two creases that may cross have four heights -/
theorem IsP.dif {p : List Nat} (h : IsP p) {i j : Nat} (hj : j < p.length - 1) (f : far i j = true) : dif4 (p.idxOf i) (p.idxOf (i + 1)) (p.idxOf j) (p.idxOf (j + 1)) = true := by
  rw [far_iff] at f
  exact dif4_of (h.inj (by omega) (by omega) (by omega)) (h.inj (by omega) (by omega) (by omega)) (h.inj (by omega) (by omega) (by omega)) (h.inj (by omega) (by omega) (by omega)) (h.inj (by omega) (by omega) (by omega)) (h.inj (by omega) (by omega) (by omega))
/-- turned over -/
theorem IsP.rev {p : List Nat} (h : IsP p) : IsP p.reverse := by
  unfold IsP
  rw [List.length_reverse]
  exact (List.reverse_perm p).trans h
theorem idx_rev {p : List Nat} (h : IsP p) {l : Nat} (hl : l < p.length) : p.reverse.idxOf l = p.length - 1 - p.idxOf l := by
  have h1 := h.lt hl
  refine idx_at h.rev.nodup ?_
  rw [List.getElem?_reverse (by omega), ← idx_get (h.mem.mpr hl)]
  congr 1
  omega
theorem crs_rev {p : List Nat} (h : IsP p) : crs p.reverse = crs p := by
  unfold crs
  rw [List.length_reverse]
  refine crsF_congr fun i j hi hj f => ?_
  have f' := far_iff.mp f
  unfold cb
  rw [idx_rev h (by omega), idx_rev h (by omega), idx_rev h (by omega), idx_rev h (by omega)]
  exact cross_rev (h.lt (by omega)) (h.lt (by omega)) (h.lt (by omega)) (h.lt (by omega))
/-- rolled by one -/
def rot1 (p : List Nat) : List Nat := p.tail ++ p.take 1
theorem rot1_cons {a : Nat} {p : List Nat} : rot1 (a :: p) = p ++ [a] := rfl
theorem rot1_len {p : List Nat} : (rot1 p).length = p.length := by
  cases p with
  | nil => rfl
  | cons a p => rw [rot1_cons]; simp
theorem IsP.rot {p : List Nat} (h : IsP p) : IsP (rot1 p) := by
  unfold IsP
  rw [rot1_len]
  refine List.Perm.trans ?_ h
  cases p with
  | nil => exact .refl _
  | cons a p => exact List.perm_append_comm
theorem idx_rot {p : List Nat} (h : IsP p) {l : Nat} (hl : l < p.length) : (rot1 p).idxOf l = rot0 p.length (p.idxOf l) := by
  have h1 := h.lt hl
  have e := idx_get (h.mem.mpr hl)
  refine idx_at h.rot.nodup ?_
  cases p with
  | nil => simp at hl
  | cons a p =>
    rw [rot1_cons]
    unfold rot0
    split
    · rename_i z
      rw [z] at e
      rw [List.getElem?_append_right (by simp)]
      simpa using e
    · rename_i z
      obtain ⟨m, hm⟩ := Nat.exists_eq_succ_of_ne_zero z
      rw [hm] at e h1 ⊢
      simp at e h1
      rw [show m.succ - 1 = m by omega, List.getElem?_append_left h1]
      exact e
theorem crs_rot {p : List Nat} (h : IsP p) (hn : p.length ≤ 10) : crs (rot1 p) = crs p := by
  unfold crs
  rw [rot1_len]
  refine crsF_congr fun i j hi hj f => ?_
  have f' := far_iff.mp f
  unfold cb
  rw [idx_rot h (by omega), idx_rot h (by omega), idx_rot h (by omega), idx_rot h (by omega)]
  exact cross_rot hn (h.lt (by omega)) (h.lt (by omega)) (h.lt (by omega)) (h.lt (by omega)) (h.dif hj f)
def rotN : Nat → List Nat → List Nat
  | 0, p => p
  | k + 1, p => rot1 (rotN k p)
theorem rotN_len {p : List Nat} : ∀ k, (rotN k p).length = p.length
  | 0 => rfl
  | k + 1 => by rw [rotN, rot1_len, rotN_len k]
theorem IsP.rots {p : List Nat} (h : IsP p) : ∀ k, IsP (rotN k p)
  | 0 => h
  | k + 1 => (h.rots k).rot
theorem crs_rots {p : List Nat} (h : IsP p) (hn : p.length ≤ 10) : ∀ k, crs (rotN k p) = crs p
  | 0 => rfl
  | k + 1 => by rw [rotN, crs_rot (h.rots k) (by rw [rotN_len]; exact hn), crs_rots h hn k]
theorem rotN_eq {p : List Nat} (h0 : p ≠ []) : ∀ k, rotN k p = p.drop (k % p.length) ++ p.take (k % p.length)
  | 0 => by simp [rotN]
  | k + 1 => by
    have hl : 0 < p.length := List.length_pos_iff.mpr h0
    have hm : k % p.length < p.length := Nat.mod_lt _ hl
    rw [rotN, rotN_eq h0 k]
    have ed : p.drop (k % p.length) = p[k % p.length] :: p.drop (k % p.length + 1) := List.drop_eq_getElem_cons hm
    rw [ed, List.cons_append, rot1_cons, List.append_assoc]
    have et : p.take (k % p.length) ++ [p[k % p.length]] = p.take (k % p.length + 1) := by rw [List.take_append_getElem]
    rw [et]
    by_cases hc : k % p.length + 1 = p.length
    · rw [hc, List.drop_length, List.take_length]
      have : (k + 1) % p.length = 0 := by
        rw [Nat.add_mod]
        by_cases h1 : p.length = 1
        · rw [h1]; omega
        · rw [Nat.mod_eq_of_lt (show 1 < p.length by omega), hc, Nat.mod_self]
      rw [this]
      simp
    · have : (k + 1) % p.length = k % p.length + 1 := by
        rw [Nat.add_mod, Nat.mod_eq_of_lt (show 1 < p.length by omega), Nat.mod_eq_of_lt (by omega)]
      rw [this]
/-- read back -/
def flip (p : List Nat) : List Nat := p.map fun l => p.length - 1 - l
def back (p : List Nat) : List Nat := if p.length % 2 = 1 then flip p else (flip p).reverse
theorem flip_len {p : List Nat} : (flip p).length = p.length := by unfold flip; simp
theorem back_len {p : List Nat} : (back p).length = p.length := by unfold back; split <;> simp [flip_len]
theorem isP_of {p : List Nat} (h1 : p.Nodup) (h2 : ∀ l ∈ p, l < p.length) : IsP p := by
  have key : ∀ (n : Nat) (p : List Nat), p.Nodup → (∀ l ∈ p, l < n) → p.length ≤ n ∧ (p.length = n → p.Perm (List.range n)) := by
    intro n
    induction n with
    | zero =>
      intro p _ h
      cases p with
      | nil => exact ⟨Nat.le_refl _, fun _ => .refl _⟩
      | cons a p => exact absurd (h a List.mem_cons_self) (by omega)
    | succ n ih =>
      intro p h1 h2
      by_cases hm : n ∈ p
      · obtain ⟨g1, g2⟩ := ih (p.erase n) (h1.erase n) fun l hl => by
          have := h2 l (List.mem_of_mem_erase hl)
          have : l ≠ n := fun e => by
            rw [e] at hl
            exact (List.Nodup.mem_erase_iff h1).mp hl |>.1 rfl
          omega
        have e := List.length_erase_of_mem hm
        have hp := List.length_pos_of_mem hm
        refine ⟨by omega, fun q => ?_⟩
        rw [List.range_succ]
        exact (List.perm_cons_erase hm).trans (((g2 (by omega)).cons n).trans (List.perm_append_comm (l₁ := [n])))
      · obtain ⟨g1, g2⟩ := ih p h1 fun l hl => by
          have := h2 l hl
          have : l ≠ n := fun e => hm (e ▸ hl)
          omega
        exact ⟨by omega, fun q => by omega⟩
  exact (key _ p h1 h2).2 rfl
theorem IsP.flip {p : List Nat} (h : IsP p) : IsP (flip p) := by
  refine isP_of ?_ fun l hl => ?_
  · unfold Gk31.flip
    have nd := h.nodup
    have hm : ∀ l ∈ p, l < p.length := fun l hl => h.mem.mp hl
    rw [List.nodup_iff_pairwise_ne, List.pairwise_map]
    exact (List.nodup_iff_pairwise_ne.mp nd).imp_of_mem fun {a b} ha hb n e => n (by have := hm a ha; have := hm b hb; omega)
  · rw [flip_len]
    unfold Gk31.flip at hl
    obtain ⟨x, hx, rfl⟩ := List.mem_map.mp hl
    have := h.mem.mp hx
    omega
theorem IsP.back {p : List Nat} (h : IsP p) : IsP (back p) := by
  unfold Gk31.back
  split
  · exact h.flip
  · exact h.flip.rev
theorem idx_flip {p : List Nat} (h : IsP p) {l : Nat} (hl : l < p.length) : (flip p).idxOf l = p.idxOf (p.length - 1 - l) := by
  refine idx_at h.flip.nodup ?_
  unfold flip
  rw [List.getElem?_map, idx_get (h.mem.mpr (by omega))]
  simp
  omega
theorem idx_back {p : List Nat} (h : IsP p) {l : Nat} (hl : l < p.length) : (back p).idxOf l = if p.length % 2 = 1 then p.idxOf (p.length - 1 - l) else p.length - 1 - p.idxOf (p.length - 1 - l) := by
  unfold back
  split
  · exact idx_flip h hl
  · rw [idx_rev h.flip (by rw [flip_len]; exact hl), flip_len, idx_flip h hl]
theorem cb_back {p : List Nat} (h : IsP p) (hn : p.length ≤ 10) {i j : Nat} (hj : j < p.length - 1) (f : far i j = true) : cb (back p) i j = cb p (p.length - 2 - j) (p.length - 2 - i) := by
  have f' := far_iff.mp f
  unfold cb
  rw [idx_back h (by omega), idx_back h (by omega), idx_back h (by omega), idx_back h (by omega)]
  have e1 : p.length - 1 - i = p.length - 2 - i + 1 := by omega
  have e2 : p.length - 1 - (i + 1) = p.length - 2 - i := by omega
  have e3 : p.length - 1 - j = p.length - 2 - j + 1 := by omega
  have e4 : p.length - 1 - (j + 1) = p.length - 2 - j := by omega
  have fb : far (p.length - 2 - j) (p.length - 2 - i) = true := far_iff.mpr (by omega)
  have dd := h.dif (i := p.length - 2 - j) (j := p.length - 2 - i) (by omega) fb
  have ex := cross_exch (Nat.lt_of_lt_of_le (h.lt (by omega)) hn) (Nat.lt_of_lt_of_le (h.lt (by omega)) hn) (Nat.lt_of_lt_of_le (h.lt (by omega)) hn) (Nat.lt_of_lt_of_le (h.lt (by omega)) hn) dd
  rw [e1, e2, e3, e4]
  split
  · rw [cross_swap]
    exact ex
  · rw [cross_rev (h.lt (by omega)) (h.lt (by omega)) (h.lt (by omega)) (h.lt (by omega)), cross_swap]
    exact ex
theorem crs_nil {p : List Nat} : crs p = [] ↔ ∀ i j, i < p.length - 1 → j < p.length - 1 → far i j = true → cb p i j = false := by
  rw [List.eq_nil_iff_forall_not_mem]
  constructor
  · intro h i j h1 h2 h3
    cases q : cb p i j with
    | false => rfl
    | true => exact absurd (mem_crsF.mpr ⟨h1, h2, h3, q⟩) (h (i, j))
  · intro h x hx
    obtain ⟨h1, h2, h3, h4⟩ := mem_crsF.mp hx
    rw [h _ _ h1 h2 h3] at h4
    cases h4
theorem crs_back {p : List Nat} (h : IsP p) (hn : p.length ≤ 10) : crs (back p) = [] ↔ crs p = [] := by
  rw [crs_nil, crs_nil, back_len]
  constructor
  · intro g i j hi hj f
    have f' := far_iff.mp f
    have q := g (p.length - 2 - j) (p.length - 2 - i) (by omega) (by omega) (far_iff.mpr (by omega))
    rw [cb_back h hn (by omega) (far_iff.mpr (by omega))] at q
    rw [← q]
    congr 1 <;> omega
  · intro g i j hi hj f
    have f' := far_iff.mp f
    rw [cb_back h hn hj f]
    exact g _ _ (by omega) (by omega) (far_iff.mpr (by omega))
theorem back_back {p : List Nat} (h : IsP p) : back (back p) = p := by
  have ff : flip (flip p) = p := by
    unfold flip
    rw [List.length_map, List.map_map]
    refine (List.map_congr_left fun x hx => ?_).trans (List.map_id p)
    have := h.mem.mp hx
    simp only [Function.comp, id]
    omega
  have fr : ∀ q : List Nat, flip q.reverse = (flip q).reverse := fun q => by
    unfold flip
    rw [List.length_reverse, List.map_reverse]
  unfold back
  split
  · rename_i h1
    rw [flip_len, if_pos h1, ff]
  · rename_i h1
    rw [List.length_reverse, flip_len, if_neg h1, fr, ff, List.reverse_reverse]
/-- a leaf put in -/
def ins (p : List Nat) (t : Nat) : List Nat := p.take t ++ p.length :: p.drop t
theorem ins_len {p : List Nat} {t : Nat} : (ins p t).length = p.length + 1 := by
  unfold ins
  simp only [List.length_append, List.length_take, List.length_cons, List.length_drop]
  omega
theorem IsP.ins {p : List Nat} (h : IsP p) (t : Nat) : IsP (ins p t) := by
  unfold IsP
  rw [ins_len, List.range_succ]
  unfold Gk31.ins
  refine List.perm_middle.trans ?_
  rw [List.take_append_drop]
  exact (h.cons _).trans (List.perm_append_comm (l₁ := [_]))
theorem idx_ins {p : List Nat} (h : IsP p) {t l : Nat} (ht : t ≤ p.length) (hl : l < p.length) : (ins p t).idxOf l = if t ≤ p.idxOf l then p.idxOf l + 1 else p.idxOf l := by
  refine idx_at (h.ins t).nodup ?_
  have e := idx_get (h.mem.mpr hl)
  unfold ins
  split
  · rename_i q
    rw [List.getElem?_append_right (by rw [List.length_take]; omega), List.length_take, show p.idxOf l + 1 - min t p.length = (p.idxOf l - t) + 1 by omega, List.getElem?_cons_succ, List.getElem?_drop, show t + (p.idxOf l - t) = p.idxOf l by omega]
    exact e
  · rename_i q
    rw [List.getElem?_append_left (by rw [List.length_take]; have := h.lt hl; omega), List.getElem?_take_of_lt (by omega)]
    exact e
theorem idx_ins_n {p : List Nat} (h : IsP p) {t : Nat} (ht : t ≤ p.length) : (ins p t).idxOf p.length = t := by
  refine idx_at (h.ins t).nodup ?_
  unfold ins
  rw [List.getElem?_append_right (by rw [List.length_take]; omega), List.length_take, show t - min t p.length = 0 by omega]
  rfl
/-- over the last leaf there is always room -/
theorem room {p : List Nat} (h : IsP p) (h0 : 0 < p.length) (g : crs p = []) : ∃ t, t ≤ p.length ∧ crs (ins p t) = [] := by
  have hlt := h.lt (l := p.length - 1) (by omega)
  refine ⟨p.idxOf (p.length - 1) + 1, by omega, crs_nil.mpr fun i j hi hj f => ?_⟩
  rw [ins_len] at hi hj
  have f' := far_iff.mp f
  have ht : p.idxOf (p.length - 1) + 1 ≤ p.length := by omega
  unfold cb
  by_cases hc : j + 1 < p.length
  · rw [idx_ins h ht (by omega), idx_ins h ht (by omega), idx_ins h ht (by omega), idx_ins h ht (by omega), cross_mono]
    exact crs_nil.mp g i j (by omega) (by omega) f
  · have ej : j = p.length - 1 := by omega
    have ej1 : j + 1 = p.length := by omega
    have hT := h.ins (p.idxOf (p.length - 1) + 1)
    have il := ins_len (p := p) (t := p.idxOf (p.length - 1) + 1)
    have x1 : (ins p (p.idxOf (p.length - 1) + 1)).idxOf j = p.idxOf (p.length - 1) := by
      rw [idx_ins h ht (by omega), ej, if_neg (by omega)]
    have x2 : (ins p (p.idxOf (p.length - 1) + 1)).idxOf (j + 1) = p.idxOf (p.length - 1) + 1 := by
      rw [ej1, idx_ins_n h ht]
    refine cross_near (.inl (by rw [x1, x2])) (hT.inj (by omega) (by omega) (by omega)) (hT.inj (by omega) (by omega) (by omega)) (hT.inj (by omega) (by omega) (by omega)) (hT.inj (by omega) (by omega) (by omega))
end Gk31

set_option Elab.async false
set_option linter.all false
set_option maxRecDepth 100000
set_option maxHeartbeats 4000000
namespace Gk31
open RF
/-! ### maps, joints -/
abbrev Jt := Nat × Nat × Nat
def jts (r c : Nat) : List Jt := (List.range (r * c)).flatMap fun l =>
  (if l % c + 1 < c then [(l, l + 1, l % c % 2)] else []) ++ (if l / c + 1 < r then [(l, l + c, 2 + l / c % 2)] else [])
def mapB (r c : Nat) : Bool := decide (1 ≤ r) && decide (1 ≤ c) && decide (r * c ≤ 12)
/-- a map of at most twelve leaves -/
structure Mp (r c : Nat) : Prop where
  r1 : 1 ≤ r
  c1 : 1 ≤ c
  le : r * c ≤ 12
theorem Mp.r12 {r c : Nat} (h : Mp r c) : r ≤ 12 := Nat.le_trans (Nat.le_mul_of_pos_right r h.c1) h.le
theorem Mp.c12 {r c : Nat} (h : Mp r c) : c ≤ 12 := Nat.le_trans (Nat.le_mul_of_pos_left c h.r1) h.le
theorem Mp.n1 {r c : Nat} (h : Mp r c) : 1 ≤ r * c := Nat.mul_pos h.r1 h.c1
def allM (f : Nat → Nat → Bool) : Bool := (List.range 13).all fun r => (List.range 13).all fun c => !mapB r c || f r c
theorem allM_at {f : Nat → Nat → Bool} (h : allM f = true) {r c : Nat} (m : Mp r c) : f r c = true := by
  have h1 := List.all_eq_true.mp (List.all_eq_true.mp h r (List.mem_range.mpr (by have := m.r12; omega))) c (List.mem_range.mpr (by have := m.c12; omega))
  have h2 : mapB r c = true := by
    unfold mapB
    rw [decide_eq_true m.r1, decide_eq_true m.c1, decide_eq_true m.le]
    rfl
  rw [h2] at h1
  exact h1
theorem jts_dec : allM (fun r c => (jts r c).all (fun j => decide (j.1 < j.2.1) && decide (j.2.1 < r * c) && decide (j.2.2 < 4)) && decide ((jts r c).length ≤ 17)) = true := by decide +kernel
theorem jts_ok {r c : Nat} (m : Mp r c) {j : Jt} (h : j ∈ jts r c) : j.1 < j.2.1 ∧ j.2.1 < r * c ∧ j.2.2 < 4 := by
  have := allM_at jts_dec m
  rw [Bool.and_eq_true, List.all_eq_true] at this
  have := this.1 j h
  simp only [Bool.and_eq_true, decide_eq_true_eq] at this
  exact ⟨this.1.1, this.1.2, this.2⟩
theorem jts_len {r c : Nat} (m : Mp r c) : (jts r c).length ≤ 17 := by
  have := allM_at jts_dec m
  rw [Bool.and_eq_true, decide_eq_true_eq] at this
  exact this.2
/-! ### joints that take turns -/
def four (j o : Jt) : Bool := dif4 j.1 j.2.1 o.1 o.2.1
def turnsB (p : List Nat) (j o : Jt) : Bool := (j.2.2 == o.2.2) && four j o && crossB (p.idxOf j.1) (p.idxOf j.2.1) (p.idxOf o.1) (p.idxOf o.2.1)
def cro (p : List Nat) (js : List Jt) : List (Nat × Nat) := (List.range js.length).flatMap fun a => ((List.range js.length).filter fun b => decide (a < b) && (match js[a]?, js[b]? with
  | some j, some o => turnsB p j o
  | _, _ => false)).map fun b => (a, b)
/-- the row of four heights, in order: which are of the first two -/
def rowB (a b c d : Nat) : List Bool := (sortInt [(a : Int), b, c, d]).map fun x => x == (a : Int) || x == (b : Int)
theorem row_dec : (all4 12 fun a b c d => !dif4 a b c d || (((rowB a b c d)[0]? == (rowB a b c d)[2]?) == crossB a b c d)) = true := by decide +kernel
theorem row_cross {a b c d : Nat} (ha : a < 12) (hb : b < 12) (hc : c < 12) (hd : d < 12) (h : dif4 a b c d = true) : ((rowB a b c d)[0]? == (rowB a b c d)[2]?) = crossB a b c d := by
  have := all4_at row_dec ha hb hc hd
  rw [h] at this
  simpa using this
/-! ### marks -/
def evenB (c l : Nat) : Bool := (l / c + l % c) % 2 == 0
def mkJ (p : List Nat) (c : Nat) (j : Jt) : Nat := if decide (p.idxOf j.1 < p.idxOf j.2.1) == evenB c j.1 then 118 else 109
def mksL (p : List Nat) (r c : Nat) : List Nat := (jts r c).map (mkJ p c)
/-! ### corners -/
def fourB (c l x : Nat) : Bool := x == l || x == l + 1 || x == l + c || x == l + c + 1
def cornB (r c l : Nat) : Bool := decide (l % c + 1 < c) && decide (l / c + 1 < r)
def cjs (r c l : Nat) : List Nat := if cornB r c l then (List.range (jts r c).length).filter fun i => match (jts r c)[i]? with
  | some j => fourB c l j.1 && fourB c l j.2.1
  | none => false else []
def badB (r c l : Nat) (ms : List Nat) : Bool :=
  let s := (cjs r c l).map fun i => ms.getD i 0
  cornB r c l && !s.contains 63 && !((s.filter (· == 118)).length == 1 || (s.filter (· == 118)).length == 3)
def bads (r c : Nat) (ms : List Nat) : List Nat := (List.range (r * c)).filter fun l => badB r c l ms
theorem cjs_dec : allM (fun r c => (List.range (r * c)).all fun l => !cornB r c l || (match cjs r c l with
  | [i, j, k, m] => decide (i < j) && decide (j < k) && decide (k < m) && ((jts r c)[i]? == some (l, l + 1, l % c % 2)) && ((jts r c)[j]? == some (l, l + c, 2 + l / c % 2)) && ((jts r c)[k]? == some (l + 1, l + c + 1, 2 + l / c % 2)) && ((jts r c)[m]? == some (l + c, l + c + 1, l % c % 2)) &&
    (evenB c (l + 1) == !evenB c l) && (evenB c (l + c) == !evenB c l) && decide (l + c + 1 < r * c) && decide (1 < c)
  | _ => false)) = true := by decide +kernel
theorem corner_dec : (all4 12 fun x y z w => [true, false].all fun e => !dif4 x y z w || crossB x y z w || crossB x z y w ||
    (let s := [decide (x < y) == e, decide (x < z) == e, decide (y < w) == !e, decide (z < w) == !e]; (s.filter id).length == 1 || (s.filter id).length == 3)) = true := by decide +kernel
theorem cro_nil {p : List Nat} {js : List Jt} (h : cro p js = []) {a b : Nat} {j o : Jt} (hab : a < b) (ha : js[a]? = some j) (hb : js[b]? = some o) : turnsB p j o = false := by
  cases q : turnsB p j o with
  | false => rfl
  | true =>
    have la := (List.getElem?_eq_some_iff.mp ha).1
    have lb := (List.getElem?_eq_some_iff.mp hb).1
    have : (a, b) ∈ cro p js := by
      unfold cro
      rw [List.mem_flatMap]
      refine ⟨a, List.mem_range.mpr la, List.mem_map.mpr ⟨b, List.mem_filter.mpr ⟨List.mem_range.mpr lb, ?_⟩, rfl⟩⟩
      rw [ha, hb]
      simp [hab, q]
    rw [h] at this
    cases this
theorem flat_good {p : List Nat} {r c : Nat} (m : Mp r c) (hp : IsP p) (hl : p.length = r * c) (h : cro p (jts r c) = []) : bads r c (mksL p r c) = [] := by
  unfold bads
  rw [List.filter_eq_nil_iff]
  intro l hl2 hb
  have hl2 := List.mem_range.mp hl2
  unfold badB at hb
  simp only [Bool.and_eq_true, Bool.not_eq_true'] at hb
  obtain ⟨⟨hc, _⟩, hn⟩ := hb
  have t := List.all_eq_true.mp (allM_at cjs_dec m) l (List.mem_range.mpr hl2)
  rw [hc] at t
  simp only [Bool.not_true, Bool.false_or] at t
  cases hq : cjs r c l with
  | nil => rw [hq] at t; cases t
  | cons i q1 =>
    cases q1 with
    | nil => rw [hq] at t; cases t
    | cons j q2 =>
      cases q2 with
      | nil => rw [hq] at t; cases t
      | cons k q3 =>
        cases q3 with
        | nil => rw [hq] at t; cases t
        | cons n q4 =>
          cases q4 with
          | cons _ _ => rw [hq] at t; cases t
          | nil =>
            rw [hq] at t
            simp only [Bool.and_eq_true, decide_eq_true_eq, beq_iff_eq] at t
            obtain ⟨⟨⟨⟨⟨⟨⟨⟨⟨⟨t1, t2⟩, t3⟩, t4⟩, t5⟩, t6⟩, t7⟩, t8⟩, t9⟩, t10⟩, t11⟩ := t
            have f1 := cro_nil h (by omega) t4 t7
            have f2 := cro_nil h (by omega) t5 t6
            have lt : ∀ x, x < r * c → p.idxOf x < 12 := fun x hx => Nat.lt_of_lt_of_le (hp.lt (by omega)) (by rw [hl]; exact m.le)
            have d : dif4 (p.idxOf l) (p.idxOf (l + 1)) (p.idxOf (l + c)) (p.idxOf (l + c + 1)) = true :=
              dif4_of (hp.inj (by omega) (by omega) (by omega)) (hp.inj (by omega) (by omega) (by omega)) (hp.inj (by omega) (by omega) (by omega)) (hp.inj (by omega) (by omega) (by omega)) (hp.inj (by omega) (by omega) (by omega)) (hp.inj (by omega) (by omega) (by omega))
            have g1 : crossB (p.idxOf l) (p.idxOf (l + 1)) (p.idxOf (l + c)) (p.idxOf (l + c + 1)) = false := by
              have e : four (l, l + 1, l % c % 2) (l + c, l + c + 1, l % c % 2) = true := dif4_of (by simp) (by simp; omega) (by simp; omega) (by simp; omega) (by simp; omega) (by simp)
              unfold turnsB at f1
              rw [e] at f1
              simpa using f1
            have g2 : crossB (p.idxOf l) (p.idxOf (l + c)) (p.idxOf (l + 1)) (p.idxOf (l + c + 1)) = false := by
              have e : four (l, l + c, 2 + l / c % 2) (l + 1, l + c + 1, 2 + l / c % 2) = true := dif4_of (by simp; omega) (by simp) (by simp; omega) (by simp; omega) (by simp) (by simp; omega)
              unfold turnsB at f2
              rw [e] at f2
              simpa using f2
            have gt : ∀ (i : Nat) (x : Jt), (jts r c)[i]? = some x → (mksL p r c).getD i 0 = mkJ p c x := fun i x e => by
              unfold mksL
              rw [List.getD_eq_getElem?_getD, List.getElem?_map, e]
              rfl
            have tb := List.all_eq_true.mp (all4_at corner_dec (lt l (by omega)) (lt (l + 1) (by omega)) (lt (l + c) (by omega)) (lt (l + c + 1) (by omega))) (evenB c l) (by cases evenB c l <;> simp)
            rw [d, g1, g2] at tb
            rw [hq] at hn
            simp only [List.map_cons, List.map_nil, gt i _ t4, gt j _ t5, gt k _ t6, gt n _ t7] at hn
            simp only [mkJ, t8, t9] at hn
            generalize decide (p.idxOf l < p.idxOf (l + 1)) = x1 at hn tb
            generalize decide (p.idxOf l < p.idxOf (l + c)) = x2 at hn tb
            generalize decide (p.idxOf (l + 1) < p.idxOf (l + c + 1)) = x3 at hn tb
            generalize decide (p.idxOf (l + c) < p.idxOf (l + c + 1)) = x4 at hn tb
            generalize evenB c l = e at hn tb
            revert hn tb
            cases x1 <;> cases x2 <;> cases x3 <;> cases x4 <;> cases e <;> decide
end Gk31

set_option Elab.async false
set_option linter.all false
set_option maxRecDepth 100000
set_option maxHeartbeats 4000000
namespace Gk31
open RF
open PySem (Str Operator CmpOp)
abbrev nD (i : Nat) : D := .int (i : Int)
abbrev ordD (p : List Nat) : D := .tup (p.map nD)
abbrev prD (x : Nat × Nat) : D := .tup [nD x.1, nD x.2]
abbrev crsD (p : List Nat) : D := .lst ((crs p).map prD)
theorem nrN {p : List Nat} : D.nrs (p.map nD) = true := nrs_map fun _ => rfl
theorem ordN {p : List Nat} : (ordD p).nr = true := nrN
theorem crsN {p : List Nat} : (crsD p).nr = true := nrs_map fun _ => rfl
def isW (lo hi : Int) : D → Bool
  | .int i => decide (lo ≤ i) && decide (i ≤ hi)
  | _ => false
theorem whole_spec {k n : Nat} {M : Mh} {d : D} {lo hi : Int} (h : pl n d = true) : callP cs prog (k + 1) 0 [d, .int lo, .int hi] (T M) = .ok (.bl (isW lo hi d)) (T M) := by
  refine callP_pure (fd := fd_is_whole) rfl rfl (by simp [pl_nr h]) rfl ?_
  unfold goF fd_is_whole
  cases d with
  | non => simp [isW]
  | bl b => simp [isW]
  | int i =>
    by_cases h1 : lo ≤ i
    · by_cases h2 : i ≤ hi <;> simp [isW, h1, h2]
    · simp [isW, h1]
  | str s => simp [isW]
  | tup ds => simp [isW]
  | lst ds => simp [isW]
  | ref _ => cases n <;> cases h
  | ty _ => cases n <;> cases h
  | fn _ => cases n <;> cases h
  | dct _ _ => cases n <;> cases h
def isT (lo hi : Int) : D → Bool
  | .tup ds => decide (lo ≤ (ds.length : Int)) && decide ((ds.length : Int) ≤ hi)
  | _ => false
theorem tupof_spec {k n : Nat} {M : Mh} {d : D} {lo hi : Int} (h : pl n d = true) : callP cs prog (k + 1) 1 [d, .int lo, .int hi] (T M) = .ok (.bl (isT lo hi d)) (T M) := by
  refine callP_pure (fd := fd_is_tuple_of) rfl rfl (by simp [pl_nr h]) rfl ?_
  unfold goF fd_is_tuple_of
  cases d with
  | tup ds =>
    by_cases h1 : lo ≤ (ds.length : Int)
    · by_cases h2 : (ds.length : Int) ≤ hi <;> simp [isT, h1, h2]
    · simp [isT, h1]
  | non => simp [isT]
  | bl b => simp [isT]
  | int i => simp [isT]
  | str s => simp [isT]
  | lst ds => simp [isT]
  | ref _ => cases n <;> cases h
  | ty _ => cases n <;> cases h
  | fn _ => cases n <;> cases h
  | dct _ _ => cases n <;> cases h
/-! which values are orders -/
def natI (x : Int) : Nat := x.toNat
/-- a value is an order -/
def ordB : D → Bool
  | .tup ds => decide (1 ≤ ds.length) && decide (ds.length ≤ 10) && (match intsD ds with
    | some xs => xs.all (fun x => decide (0 ≤ x) && decide (x ≤ (xs.length : Int) - 1)) && decide xs.Nodup
    | none => false)
  | _ => false
theorem intsD_all : ∀ {ds : List D}, (∀ lo hi : Int, True) → (∃ xs, intsD ds = some xs ∧ ds = xs.map D.int) ∨ (intsD ds = none ∧ ∃ d ∈ ds, ∀ lo hi, isW lo hi d = false)
  | [], _ => .inl ⟨[], rfl, rfl⟩
  | d :: ds, t => by
    cases d with
    | int i =>
      rcases intsD_all (ds := ds) t with ⟨xs, h1, h2⟩ | ⟨h1, d, h2, h3⟩
      · exact .inl ⟨i :: xs, by simp [intsD, h1], by simp [h2]⟩
      · exact .inr ⟨by simp [intsD, h1], d, List.mem_cons_of_mem _ h2, h3⟩
    | _ => exact .inr ⟨rfl, _, List.mem_cons_self, fun _ _ => rfl⟩
theorem ddI_len {xs : List Int} : ((ddI xs).length = xs.length) ↔ xs.Nodup := by
  constructor
  · intro h
    have key : ∀ (l : List Int), (∀ m : List Int, m.Nodup → (∀ x ∈ l, x ∈ m) → m.length = l.length → (∀ x ∈ m, x ∈ l) → l.Nodup) := by
      intro l
      induction l with
      | nil => intro m _ _ _ _; exact List.nodup_nil
      | cons a l ih =>
        intro m hm h1 h2 h3
        by_cases ha : a ∈ l
        · have := nodup_len hm (m := l) fun x hx => by
            rcases List.mem_cons.mp (h3 x hx) with e | e
            · rw [e]; exact ha
            · exact e
          simp at h2
          omega
        · refine List.nodup_cons.mpr ⟨ha, ih (m.erase a) (hm.erase a) (fun x hx => ?_) ?_ fun x hx => ?_⟩
          · exact (List.Nodup.mem_erase_iff hm).mpr ⟨fun e => ha (e ▸ hx), h1 x (List.mem_cons_of_mem _ hx)⟩
          · rw [List.length_erase_of_mem (h1 a List.mem_cons_self), h2]; simp
          · obtain ⟨h4, h5⟩ := (List.Nodup.mem_erase_iff hm).mp hx
            rcases List.mem_cons.mp (h3 x h5) with e | e
            · exact absurd e h4
            · exact e
    exact key xs (ddI xs) (ddI_nodup xs) (fun x hx => ddI_mem.mpr hx) h fun x hx => ddI_mem.mp hx
  · intro h
    have h1 := nodup_len (ddI_nodup xs) (m := xs) fun x hx => ddI_mem.mp hx
    have h2 := nodup_len h (m := ddI xs) fun x hx => ddI_mem.mpr hx
    omega
theorem fits_spec {k n : Nat} {M : Mh} {d : D} (h : pl (n + 1) d = true) : callP cs prog (k + 2) 24 [d] (T M) = .ok (.bl (ordB d)) (T M) := by
  refine callP_pure (fd := fd_fits_order) rfl rfl (by simp [pl_nr h]) rfl ?_
  unfold goF fd_fits_order
  have g0 : cs[4]? = some (.int 10) := rfl
  cases d with
  | tup ds =>
    have h1 := h
    rw [pl, Bool.and_eq_true, decide_eq_true_eq, List.all_eq_true] at h1
    by_cases hl : isT 1 10 (.tup ds) = true
    · have hl' := hl
      simp only [isT, Bool.and_eq_true, decide_eq_true_eq] at hl'
      simp [tupof_spec h, g0, hl]
      rw [compL_map (g := fun x => .bl (isW 0 ((ds.length : Int) - 1) x)) _ _ (fun x hx => by simp [wipeE, whole_spec (h1.2 x hx)]) (by simp [LINE]; omega)]
      simp [bls_mapf]
      rcases intsD_all (ds := ds) (fun _ _ => trivial) with ⟨xs, e1, rfl⟩ | ⟨e1, d, hd, hw⟩
      · rw [List.length_map] at hl' ⊢
        have z1 : 1 ≤ xs.length := by omega
        have z2 : xs.length ≤ 10 := by omega
        have z3 : xs.length ≤ 4000 := by omega
        by_cases ha : (xs.all fun x => decide (0 ≤ x) && decide (x ≤ (xs.length : Int) - 1)) = true
        · have hA : (xs.map D.int).all (isW 0 ((xs.length : Int) - 1)) = true := by
            rw [List.all_map]
            exact ha
          rw [hA]
          have hd : (((ddI xs).length : Int) == (xs.length : Int)) = decide xs.Nodup := by
            rw [Bool.eq_iff_iff, beq_iff_eq, decide_eq_true_eq, ← ddI_len]
            omega
          simp only [ordB, e1, ha, List.length_map, z1, z2]
          simp [z3, hd]
        · have hA : (xs.map D.int).all (isW 0 ((xs.length : Int) - 1)) = false := by
            rw [List.all_map]
            exact Bool.eq_false_iff.mpr ha
          rw [hA]
          simp only [ordB, e1, Bool.eq_false_iff.mpr ha]
          simp
      · have hA : ds.all (isW 0 ((ds.length : Int) - 1)) = false := by
          rw [Bool.eq_false_iff]
          intro q
          have := List.all_eq_true.mp q d hd
          rw [hw] at this
          cases this
        rw [hA]
        simp only [ordB, e1]
        simp
    · simp [tupof_spec h, g0, hl]
      have : ¬ (1 ≤ ds.length ∧ ds.length ≤ 10) := fun q => hl (by simp only [isT, Bool.and_eq_true, decide_eq_true_eq]; omega)
      simp only [ordB]
      by_cases q1 : 1 ≤ ds.length
      · by_cases q2 : ds.length ≤ 10
        · exact absurd ⟨q1, q2⟩ this
        · simp [q2]
      · simp [q1]
  | ref _ => cases h
  | ty _ => cases h
  | fn _ => cases h
  | dct _ _ => cases h
  | _ => simp [tupof_spec h, g0, isT, ordB]
/-! values that are orders -/
theorem nD_int (p : List Nat) : p.map nD = (p.map fun (i : Nat) => (i : Int)).map D.int := by rw [List.map_map]; rfl
theorem ordB_iff {d : D} : ordB d = true ↔ ∃ p, d = ordD p ∧ IsP p ∧ 1 ≤ p.length ∧ p.length ≤ 10 := by
  constructor
  · intro h
    cases d with
    | tup ds =>
      simp only [ordB, Bool.and_eq_true, decide_eq_true_eq] at h
      obtain ⟨⟨h1, h2⟩, h3⟩ := h
      rcases intsD_all (ds := ds) (fun _ _ => trivial) with ⟨xs, e1, rfl⟩ | ⟨e1, _⟩
      · rw [e1] at h3
        simp only [Bool.and_eq_true, decide_eq_true_eq, List.all_eq_true] at h3
        obtain ⟨h3, h4⟩ := h3
        rw [List.length_map] at h1 h2
        have e : (xs.map Int.toNat).map (fun i => ((i : Nat) : Int)) = xs := by
          rw [List.map_map]
          refine (List.map_congr_left fun x hx => ?_).trans (List.map_id xs)
          have := h3 x hx
          simp only [Function.comp, id]
          omega
        refine ⟨xs.map Int.toNat, by rw [ordD, nD_int, e], isP_of ?_ fun l hl => ?_, by rw [List.length_map]; exact h1, by rw [List.length_map]; exact h2⟩
        · have q := h4
          rw [← e] at q
          rw [List.nodup_iff_pairwise_ne, List.pairwise_map] at q
          exact List.nodup_iff_pairwise_ne.mpr (q.imp fun {a b} n e => n (by rw [e]))
        · obtain ⟨x, hx, rfl⟩ := List.mem_map.mp hl
          have := h3 x hx
          rw [List.length_map]
          omega
      · rw [e1] at h3
        cases h3
    | _ => cases h
  · rintro ⟨p, rfl, hp, h1, h2⟩
    simp only [ordB, ordD, nD_int, ints_map, List.length_map]
    have a1 : ((p.map fun (i : Nat) => (i : Int)).all fun x => decide (0 ≤ x) && decide (x ≤ (p.length : Int) - 1)) = true := by
      rw [List.all_eq_true]
      intro x hx
      obtain ⟨l, hl, rfl⟩ := List.mem_map.mp hx
      have := hp.mem.mp hl
      simp only [Bool.and_eq_true, decide_eq_true_eq]
      omega
    have a2 : (p.map fun (i : Nat) => (i : Int)).Nodup := by
      rw [List.nodup_iff_pairwise_ne, List.pairwise_map]
      exact (List.nodup_iff_pairwise_ne.mp hp.nodup).imp fun {a b} n e => n (by omega)
    rw [a1, decide_eq_true h1, decide_eq_true h2, decide_eq_true a2]
    rfl
theorem ord_pl {p : List Nat} (h2 : p.length ≤ 10) : pl 3 (ordD p) = true := by
  rw [pl, Bool.and_eq_true, decide_eq_true_eq, List.all_eq_true, List.length_map]
  refine ⟨by omega, fun x hx => ?_⟩
  obtain ⟨i, _, rfl⟩ := List.mem_map.mp hx
  rfl
/-- an order of one to ten leaves -/
structure Ord (p : List Nat) : Prop where
  ip : IsP p
  lo : 1 ≤ p.length
  hi : p.length ≤ 10
theorem need_spec {k : Nat} {M : Mh} {p : List Nat} (h : Ord p) : callP cs prog (k + 3) 25 [ordD p] (T M) = .ok .non (T M) := by
  refine callP_pure (fd := fd_need_order) rfl rfl (by simp [ordN]) rfl ?_
  unfold goF fd_need_order
  simp [fits_spec (k := k) (ord_pl h.hi), ordB_iff.mpr ⟨p, rfl, h.ip, h.lo, h.hi⟩]
end Gk31

set_option Elab.async false
set_option linter.all false
set_option maxRecDepth 100000
set_option maxHeartbeats 4000000
namespace Gk31
open RF
open PySem (Str Operator CmpOp)
def hts (p : List Nat) : List Nat := (List.range p.length).map fun l => p.idxOf l
theorem hts_len {p : List Nat} : (hts p).length = p.length := by simp [hts]
abbrev htsD (p : List Nat) : D := .lst ((hts p).map nD)
theorem htsN {p : List Nat} : (htsD p).nr = true := nrN
/-- the heights of the lowest j leaves -/
def hj (p : List Nat) (j : Nat) : List Nat := (List.range p.length).map fun l => if p.idxOf l < j then p.idxOf l else 0
theorem hj_0 {p : List Nat} : hj p 0 = List.replicate p.length 0 := by
  unfold hj
  simp [List.eq_replicate_iff]
theorem hj_n {p : List Nat} (h : IsP p) : hj p p.length = hts p := by
  unfold hj hts
  refine List.map_congr_left fun l hl => ?_
  rw [if_pos (h.lt (List.mem_range.mp hl))]
theorem hj_s {p : List Nat} (h : IsP p) {j l : Nat} (e : p[j]? = some l) : (hj p j).set l j = hj p (j + 1) := by
  have hi := idx_at h.nodup e
  have hl : l < p.length := h.mem.mp (List.mem_of_getElem? e)
  apply List.ext_getElem?
  intro i
  unfold hj
  by_cases c : l = i
  · subst c
    rw [List.getElem?_set_self (by simpa using hl), List.getElem?_map, List.getElem?_range hl]
    simp [hi]
  · rw [List.getElem?_set_ne c, List.getElem?_map, List.getElem?_map]
    by_cases hi2 : i < p.length
    · rw [List.getElem?_range hi2]
      simp only [Option.map_some]
      congr 1
      have : p.idxOf i ≠ j := fun q => h.inj hl hi2 c (by rw [hi, q])
      by_cases q : p.idxOf i < j
      · rw [if_pos q, if_pos (by omega)]
      · rw [if_neg q, if_neg (by omega)]
    · rw [List.getElem?_eq_none (by simpa using hi2)]
      rfl
theorem hj_len {p : List Nat} {j : Nat} : (hj p j).length = p.length := by simp [hj]
theorem rep_nD {n : Nat} : (List.replicate n 0).map nD = List.replicate n (D.int 0) := by simp
theorem ixN_nat {n k : Nat} (h : k < n) : L2.ixN n (k : Int) = some k := by
  unfold L2.ixN
  rw [if_pos (by omega), if_pos (by omega)]
  simp
theorem heights_spec {k : Nat} {M : Mh} {p : List Nat} (h : Ord p) : callP cs prog (k + 1) 26 [ordD p] (T M) = .ok (htsD p) (T M) := by
  have hi := h.hi
  refine callP_pure (fd := fd_heights_of) rfl rfl (by simp [ordN]) htsN ?_
  unfold goF fd_heights_of
  simp
  rw [compL_mmap (g := fun _ => D.int 0) _ _ (fun x hx => by simp [wipeE]) (by simp [LINE]; omega)]
  simp
  refine go_bind (forL_sat (fun j env M' => ∃ a b, env = [some (ordD p), some (.ref 0), a, b] ∧ M' = T [.lst ((hj p j).map nD)]) _ 0 _ _ ⟨_, _, rfl, by rw [hj_0, rep_nD, ← List.map_const']⟩ ?_ ?_)
  · rintro j x env M' hx ⟨a, b, rfl, rfl⟩
    rw [Nat.zero_add] at *
    obtain ⟨y, hy, rfl⟩ := enum_at hx
    rw [List.getElem?_map] at hy
    cases hq : p[j]? with
    | none => rw [hq] at hy; cases hy
    | some l =>
      rw [hq] at hy
      cases hy
      have hl : l < p.length := h.ip.mem.mp (List.mem_of_getElem? hq)
      simp [hj_len, ixN_nat hl]
      rw [← hj_s h.ip hq, List.map_set]
  · rintro env M' ⟨a, b, rfl, rfl⟩
    simp [hj_n h.ip]
/-! creases -/
def cre (p : List Nat) : List (Nat × Nat) := (List.range (p.length - 1)).map fun i => (p.idxOf i, p.idxOf (i + 1))
theorem cre_zip {p : List Nat} : List.zipWith (fun a b => D.tup [a, b]) ((hts p).map nD) ((hts p).map nD).tail = (cre p).map prD := by
  apply List.ext_getElem?
  intro i
  rw [List.getElem?_zipWith, List.getElem?_tail, List.getElem?_map, List.getElem?_map, List.getElem?_map]
  unfold hts cre
  rw [List.getElem?_map, List.getElem?_map, List.getElem?_map]
  by_cases c : i + 1 < p.length
  · rw [List.getElem?_range (by omega), List.getElem?_range c, List.getElem?_range (by omega)]
    rfl
  · rw [List.getElem?_eq_none (l := List.range p.length) (i := i + 1) (by simp; omega), List.getElem?_eq_none (l := List.range (p.length - 1)) (by simp; omega)]
    cases ((List.range p.length)[i]?) <;> rfl
abbrev creD (p : List Nat) : D := .lst ((cre p).map prD)
theorem creN {p : List Nat} : (creD p).nr = true := nrs_map fun _ => rfl
theorem creases_spec {k : Nat} {M : Mh} {p : List Nat} (h : Ord p) : callP cs prog (k + 2) 28 [ordD p] (T M) = .ok (creD p) (T M) := by
  have hi := h.hi
  refine callP_pure (fd := fd_creases_in) rfl rfl (by simp [ordN]) creN ?_
  unfold goF fd_creases_in
  simp [heights_spec (k := k) h, cre_zip]
  have : (cre p).length ≤ 16777216 := by simp [cre]; omega
  simp [LINE, this]
end Gk31

set_option Elab.async false
set_option linter.all false
set_option maxRecDepth 100000
set_option maxHeartbeats 4000000
namespace Gk31
open RF
open PySem (Str Operator CmpOp)
/-- a loop that only appends, at most w things a turn -/
theorem forL_app {α : Type} {f : D → Env → Mh → R F} {all : List D} {C : List D → Mh} {e : α → D} {g : α → List D} {P : Env → Prop} {Q : F → Mh → Prop} (w n : Nat) : ∀ (l : List α) (env : Env) (acc : List D), (∀ x ∈ l, (g x).length ≤ w) → acc.length + l.length * w ≤ n → P env →
    (∀ x ∈ l, ∀ env acc, acc.length + w ≤ n → P env → (f (e x) env (T (C acc))).sat fun fl M' => ∃ env', fl = .nx env' ∧ P env' ∧ M' = T (C (acc ++ g x))) → (∀ env, P env → Q (.nx env) (T (C (acc ++ l.flatMap g)))) → (forL f all none (l.map e) env (T (C acc))).sat Q
  | [], env, acc, hw, hn, h0, hs, he => by
    unfold forL
    simp only [still_none, if_true, List.map_nil]
    have := he env h0
    rw [List.flatMap_nil, List.append_nil] at this
    exact this
  | x :: xs, env, acc, hw, hn, h0, hs, he => by
    rw [List.map_cons]
    unfold forL
    simp only [still_none, if_true]
    rw [sat_bind]
    have hx := hw x List.mem_cons_self
    rw [List.length_cons, Nat.succ_mul] at hn
    refine (hs x List.mem_cons_self env acc (by omega) h0).mono fun fl M' q => ?_
    obtain ⟨env', rfl, hp, rfl⟩ := q
    exact forL_app w n xs env' (acc ++ g x) (fun y hy => hw y (List.mem_cons_of_mem _ hy)) (by rw [List.length_append]; omega) hp (fun y hy => hs y (List.mem_cons_of_mem _ hy)) fun env hp => by
      have := he env hp
      rw [List.flatMap_cons, ← List.append_assoc] at this
      exact this
theorem flatMap_ite {α β : Type} {c : α → Bool} {h : α → β} : ∀ l : List α, l.flatMap (fun i => if c i then [h i] else []) = (l.filter c).map h
  | [] => rfl
  | a :: l => by
    rw [List.flatMap_cons, flatMap_ite l, List.filter_cons]
    cases c a <;> simp
theorem ite_len {α : Type} {c : Bool} {x : α} : (if c then [x] else []).length ≤ 1 := by cases c <;> simp
/-! statement by statement -/
def sAt : Nat → Ss → S
  | 0, .cons s _ => s
  | n + 1, .cons _ ss => sAt n ss
  | _, .nil => .nvr
def dropS : Nat → Ss → Ss
  | 0, ss => ss
  | n + 1, .cons _ ss => dropS n ss
  | _, .nil => .nil
theorem step_nx {Γ : List D} {Φ : Nat → List D → Mh → R D} {b : Ss} {env env' : Env} {M M' : Mh} (j : Nat) (h : dropS j b = .cons (sAt j b) (dropS (j + 1) b)) (e : exS Γ Φ (sAt j b) env (T M) = .ok (.nx env') (T M')) : exSs Γ Φ (dropS j b) env (T M) = exSs Γ Φ (dropS (j + 1) b) env' (T M') := by
  rw [h, exSs_cons, e, R.bind_ok, nextF_nx]
theorem step_run {Γ : List D} {Φ : Nat → List D → Mh → R D} {b : Ss} {env : Env} {M M0 : Mh} {Q : D → Mh → Prop} (j : Nat) (h : dropS j b = .cons (sAt j b) (dropS (j + 1) b)) (e : (exS Γ Φ (sAt j b) env (T M)).sat fun f M' => (fin M0 (flowD (nextF f M' (exSs Γ Φ (dropS (j + 1) b))))).sat Q) : (fin M0 (flowD (exSs Γ Φ (dropS j b) env (T M)))).sat Q := by
  rw [h, exSs_cons]
  exact run_bind e
theorem step_go {Γ : List D} {Φ : Nat → List D → Mh → R D} {b : Ss} {env : Env} {M : Mh} {Q : D → Mh → Prop} (j : Nat) (h : dropS j b = .cons (sAt j b) (dropS (j + 1) b)) (e : (exS Γ Φ (sAt j b) env (T M)).sat fun f M' => (flowD (nextF f M' (exSs Γ Φ (dropS (j + 1) b)))).sat Q) : (flowD (exSs Γ Φ (dropS j b) env (T M))).sat Q := by
  rw [h, exSs_cons]
  exact go_bind e

theorem cross_spec {k : Nat} {M : Mh} {a b c d : Nat} : callP cs prog (k + 1) 27 [prD (a, b), prD (c, d)] (T M) = .ok (.bl (crossB a b c d)) (T M) := by
  refine callP_pure (fd := fd_do_cross) rfl rfl (by simp) rfl ?_
  unfold goF fd_do_cross
  have e1 : (intsD [nD a, nD b]).bind minI = some ((min a b : Nat) : Int) := by
    simp [intsD, minI]
    split <;> omega
  have e2 : (intsD [nD a, nD b]).bind maxI = some ((max a b : Nat) : Int) := by
    simp [intsD, maxI]
    split <;> omega
  simp [e1, e2, LINE]
  rw [show ([nD c, nD d] : List D) = [c, d].map nD from rfl, compL_fmap (e := nD) (p := fun x => decide (min a b < x) && decide (x < max a b)) (g := fun _ => D.int 1) _ _ (fun x hx => ?_) (by simp [LINE])]
  · have hf : ∀ l : List Nat, [c, d].filter (fun x => decide (min a b < x) && decide (x < max a b)) = l → (((l.length : Nat) : Int) == 1) = crossB a b c d := fun l hl => by
      subst hl
      rw [List.filter_cons, List.filter_cons, List.filter_nil]
      unfold crossB
      generalize (decide (min a b < c) && decide (c < max a b)) = x
      generalize (decide (min a b < d) && decide (d < max a b)) = y
      cases x <;> cases y <;> rfl
    generalize hl : ([c, d].filter fun x => decide (min a b < x) && decide (x < max a b)) = l
    simp [hf l hl]
  · by_cases h1 : min a b < x
    · by_cases h2 : x < max a b
      · have h1' : ((min a b : Nat) : Int) < (x : Int) := by omega
        have h2' : (x : Int) < ((max a b : Nat) : Int) := by omega
        simp [wipeE, h1', h2', h1, h2]
      · have h1' : ((min a b : Nat) : Int) < (x : Int) := by omega
        have h2' : ¬ (x : Int) < ((max a b : Nat) : Int) := by omega
        simp [wipeE, h1', h2', h1, h2]
    · have h1' : ¬ ((min a b : Nat) : Int) < (x : Int) := by omega
      simp [wipeE, h1', h1]
theorem far_dec : ((List.range 10).all fun m => (List.range m).all fun i => (rngOk ((i : Int) + 2) && rngOk (m : Int) && decide ((2 : Int) ≠ 0) && decide ((2 : Int).natAbs < 1073741824) && PySem.Builtin.Range.small ((i : Int) + 2) m 2 && decide (0 ≤ PySem.Builtin.Range.rangeSize ((i : Int) + 2) m 2)) &&
    D.beqs (rng3L ((i : Int) + 2) 2 (PySem.Builtin.Range.rangeSize ((i : Int) + 2) m 2).toNat) (((List.range m).filter (far i)).map nD)) = true := by decide +kernel
theorem far_rng {m i : Nat} (hm : m < 10) (hi : i < m) : (rngOk ((i : Int) + 2) && rngOk (m : Int) && decide ((2 : Int) ≠ 0) && decide ((2 : Int).natAbs < 1073741824) && PySem.Builtin.Range.small ((i : Int) + 2) m 2 && decide (0 ≤ PySem.Builtin.Range.rangeSize ((i : Int) + 2) m 2)) = true ∧
    rng3L ((i : Int) + 2) 2 (PySem.Builtin.Range.rangeSize ((i : Int) + 2) m 2).toNat = ((List.range m).filter (far i)).map nD := by
  have := List.all_eq_true.mp (List.all_eq_true.mp far_dec m (List.mem_range.mpr hm)) i (List.mem_range.mpr hi)
  rw [Bool.and_eq_true] at this
  exact ⟨this.1, D.beqs_eq this.2⟩
theorem cre_at {p : List Nat} {j : Nat} (h : j < p.length - 1) : ((cre p).map prD)[j]? = some (prD (p.idxOf j, p.idxOf (j + 1))) := by
  unfold cre
  rw [List.getElem?_map, List.getElem?_map, List.getElem?_range h]
  rfl
theorem cre_enum {p : List Nat} : ((cre p).map prD).zipIdx.map (fun q => D.tup [.int q.2, q.1]) = (List.range (p.length - 1)).map fun i => D.tup [nD i, prD (p.idxOf i, p.idxOf (i + 1))] := by
  apply List.ext_getElem?
  intro i
  rw [List.getElem?_map, List.getElem?_zipIdx]
  by_cases c : i < p.length - 1
  · rw [cre_at c, List.getElem?_map, List.getElem?_range c]
    simp
  · rw [List.getElem?_eq_none (by simp [cre]; omega), List.getElem?_eq_none (by simp; omega)]
    rfl
theorem crs_flat {p : List Nat} : ((List.range (p.length - 1)).flatMap fun i => ((List.range (p.length - 1)).filter (far i)).flatMap fun j => if cb p i j then [prD (i, j)] else []) = (crs p).map prD := by
  unfold crs crsF
  rw [List.map_flatMap]
  congr 1
  funext i
  rw [flatMap_ite, List.filter_filter, List.map_map]
  congr 1
  congr 1
  funext j
  rw [Bool.and_comm]
theorem crossings_spec {k : Nat} {M : Mh} {p : List Nat} (h : Ord p) : callP cs prog (k + 3) 29 [ordD p] (T M) = .ok (crsD p) (T M) := by
  have hi := h.hi
  refine callP_pure (fd := fd_crossings_in) rfl rfl (by simp [ordN]) crsN ?_
  unfold goF fd_crossings_in
  simp [creases_spec (k := k) h, cre_enum, LINE]
  refine go_bind (forL_app (C := fun acc => [.lst acc]) (P := fun env => ∃ a b c, env = [some (ordD p), some (creD p), some (.ref 0), a, b, c]) (g := fun i => ((List.range (p.length - 1)).filter (far i)).flatMap fun j => if cb p i j then [prD (i, j)] else []) 10 100 (List.range (p.length - 1)) _ [] (fun i hi => ?_) (by simp; omega) ⟨_, _, _, rfl⟩ ?_ ?_)
  · rw [flatMap_ite, List.length_map]
    have h1 := List.length_filter_le (cb p i) ((List.range (p.length - 1)).filter (far i))
    have h2 := List.length_filter_le (far i) (List.range (p.length - 1))
    rw [List.length_range] at h2
    omega
  · rintro i hi env acc hac ⟨a, b, c, rfl⟩
    have hi' := List.mem_range.mp hi
    obtain ⟨g1, g2⟩ := far_rng (m := p.length - 1) (by omega) hi'
    have cl : (cre p).length = p.length - 1 := by simp [cre]
    simp only [Bool.and_eq_true] at g1
    obtain ⟨⟨⟨⟨⟨q1, q2⟩, q3⟩, q4⟩, q5⟩, q6⟩ := g1
    simp [cl, q1, q2, q4, q5, of_decide_eq_true q6, g2]
    refine sat_bind.mpr (forL_app (C := fun acc => [.lst acc]) (P := fun env => ∃ c, env = [some (ordD p), some (creD p), some (.ref 0), some (nD i), some (prD (p.idxOf i, p.idxOf (i + 1))), c]) (g := fun j => if cb p i j then [prD (i, j)] else []) 1 100 _ _ acc (fun _ _ => ite_len) (by have h2 := List.length_filter_le (far i) (List.range (p.length - 1)); rw [List.length_range] at h2; omega) ⟨_, rfl⟩ ?_ ?_)
    · rintro j hj env acc hac ⟨c, rfl⟩
      have ha : acc.length < 16777216 := by omega
      have hj' := List.mem_range.mp (List.mem_filter.mp hj).1
      have e := cross_spec (k := k + 1) (M := [.lst acc]) (a := p.idxOf i) (b := p.idxOf (i + 1)) (c := p.idxOf j) (d := p.idxOf (j + 1))
      have e' : crossB (p.idxOf i) (p.idxOf (i + 1)) (p.idxOf j) (p.idxOf (j + 1)) = cb p i j := rfl
      rw [e'] at e
      have ca : (Option.map prD (cre p)[j]?) = some (prD (p.idxOf j, p.idxOf (j + 1))) := by rw [← List.getElem?_map]; exact cre_at hj'
      cases hc : cb p i j with
      | true =>
        rw [hc] at e
        simp [atI_nat, ca, e, LINE, ha]
      | false =>
        rw [hc] at e
        simp [atI_nat, ca, e]
    · rintro env ⟨c, rfl⟩
      simp
  · rintro env ⟨a, b, c, rfl⟩
    simp [crs_flat]
end Gk31

set_option Elab.async false
set_option linter.all false
set_option maxRecDepth 100000
set_option maxHeartbeats 4000000
namespace Gk31
open RF
open PySem (Str Operator CmpOp)
theorem flat_spec {k : Nat} {M : Mh} {p : List Nat} (h : Ord p) : callP cs prog (k + 4) 30 [ordD p] (T M) = .ok (.bl (crs p).isEmpty) (T M) := by
  refine callP_pure (fd := fd_is_flat) rfl rfl (by simp [ordN]) rfl ?_
  unfold goF fd_is_flat
  simp [crossings_spec (k := k) h, LINE, D.dep, D.deps]
theorem folded_spec {k : Nat} {M : Mh} {p : List Nat} (h : Ord p) : callP cs prog (k + 5) 33 [ordD p] (T M) = .ok (.bl (crs p).isEmpty) (T M) := by
  refine callP_pure (fd := fd_is_folded) rfl rfl (by simp [ordN]) rfl ?_
  unfold goF fd_is_folded
  simp [need_spec (k := k + 1) h, flat_spec (k := k) h]
/-! marks -/
def mk (p : List Nat) (i : Nat) : Nat := if decide (p.idxOf i < p.idxOf (i + 1)) == (i % 2 == 0) then 118 else 109
def marksL (p : List Nat) : List Nat := (List.range (p.length - 1)).map (mk p)
abbrev mkS (p : List Nat) : Str := ⟨(marksL p).toArray⟩
theorem sv : Str.ofString "v" = ⟨#[118]⟩ := by decide +kernel
theorem sm : Str.ofString "m" = ⟨#[109]⟩ := by decide +kernel
theorem s0 : Str.ofString "" = ⟨#[]⟩ := by decide +kernel
theorem mark_spec {k : Nat} {M : Mh} {i a b : Nat} : callP cs prog (k + 1) 31 [nD i, prD (a, b)] (T M) = .ok (.str ⟨#[if decide (a < b) == (i % 2 == 0) then 118 else 109]⟩) (T M) := by
  refine callP_pure (fd := fd_mark_of) rfl rfl (by simp) rfl ?_
  unfold goF fd_mark_of
  have e : ((i : Int).fmod 2 == 0) = (i % 2 == 0) := fmod2
  cases hx : (decide (a < b) == (i % 2 == 0)) with
  | true => simp [sv, sm, e, hx]
  | false => simp [sv, sm, e, hx]
theorem join_single : ∀ l : List Nat, Str.join ⟨#[]⟩ (l.map fun c => (⟨#[c]⟩ : Str)) = ⟨l.toArray⟩
  | [] => rfl
  | [c] => rfl
  | c :: d :: r => by
    have ih := join_single (d :: r)
    show (⟨#[c]⟩ : Str) ++ (⟨#[]⟩ : Str) ++ Str.join ⟨#[]⟩ ((d :: r).map fun c => (⟨#[c]⟩ : Str)) = _
    rw [ih]
    show (⟨#[c] ++ #[] ++ (d :: r).toArray⟩ : Str) = _
    congr 1
    simp
theorem sum_single : ∀ l : List Nat, ((l.map fun c => (⟨#[c]⟩ : Str)).map Str.length).sum = l.length
  | [] => rfl
  | a :: r => by
    rw [List.map_cons, List.map_cons, List.sum_cons, sum_single r, List.length_cons]
    show 1 + r.length = _; omega
theorem marksL_len {p : List Nat} : (marksL p).length = p.length - 1 := by simp [marksL]
theorem marks_spec {k : Nat} {M : Mh} {p : List Nat} (h : Ord p) : callP cs prog (k + 3) 32 [ordD p] (T M) = .ok (.str (mkS p)) (T M) := by
  have hi := h.hi
  refine callP_pure (fd := fd_marks_in) rfl rfl (by simp [ordN]) rfl ?_
  unfold goF fd_marks_in
  simp [creases_spec (k := k) h, cre_enum]
  rw [compL_mmap (g := fun i => .str ⟨#[mk p i]⟩) _ _ (fun i hi => by simp [wipeE, mark_spec (k := k + 1), mk]) (by simp [LINE]; omega)]
  have e1 : (List.range (p.length - 1)).map (fun i => D.str ⟨#[mk p i]⟩) = ((marksL p).map fun c => (⟨#[c]⟩ : Str)).map D.str := by
    unfold marksL
    rw [List.map_map, List.map_map]
    rfl
  have e2 : (((marksL p).map fun c => (⟨#[c]⟩ : Str)).map Str.length).sum + ((marksL p).map fun c => (⟨#[c]⟩ : Str)).length * (Str.ofString "").length ≤ LINE := by
    rw [sum_single, marksL_len, show (Str.ofString "").length = 0 by decide +kernel]
    simp [LINE]
    omega
  rw [List.nil_append, e1]
  simp only [s0] at *
  have e3 := join_single (marksL p)
  generalize ((marksL p).map fun c => (⟨#[c]⟩ : Str)) = ys at e2 e3
  simp [e2, e3]
theorem marksof_spec {k : Nat} {M : Mh} {p : List Nat} (h : Ord p) : callP cs prog (k + 4) 34 [ordD p] (T M) = .ok (.str (mkS p)) (T M) := by
  refine callP_pure (fd := fd_marks_of) rfl rfl (by simp [ordN]) rfl ?_
  unfold goF fd_marks_of
  simp [need_spec (k := k) h, marks_spec (k := k) h]
theorem mk_snoc {l : List Nat} {c : Nat} : (⟨l.toArray⟩ : Str) ++ ⟨#[c]⟩ = ⟨(l ++ [c]).toArray⟩ := by
  show (⟨l.toArray ++ #[c]⟩ : Str) = _
  congr 1
  simp
end Gk31

set_option Elab.async false
set_option linter.all false
set_option maxRecDepth 100000
set_option maxHeartbeats 4000000
namespace Gk31
open RF
open PySem (Str Operator CmpOp)
/-! maps and joints as data -/
def sideS : Nat → Str
  | 0 => Str.ofString "right"
  | 1 => Str.ofString "left"
  | 2 => Str.ofString "lower"
  | _ => Str.ofString "upper"
abbrev mpD (r c : Nat) : D := .tup [nD r, nD c]
abbrev jD (j : Jt) : D := .tup [nD j.1, nD j.2.1, .str (sideS j.2.2)]
abbrev jtD (r c : Nat) : D := .lst ((jts r c).map jD)
theorem jtN {r c : Nat} : (jtD r c).nr = true := nrs_map fun _ => rfl
theorem mul_dec : allM (fun r c => mulOk (r : Int) (c : Int) && rngOk (((r * c : Nat)) : Int) && D.beqs (rngL 0 ((r * c : Nat) : Int)) ((List.range (r * c)).map nD)) = true := by decide +kernel
theorem mul_ok {r c : Nat} (m : Mp r c) : mulOk (r : Int) (c : Int) = true ∧ rngOk ((r * c : Nat) : Int) = true ∧ rngL 0 ((r * c : Nat) : Int) = (List.range (r * c)).map nD := by
  have := allM_at mul_dec m
  rw [Bool.and_eq_true, Bool.and_eq_true] at this
  exact ⟨this.1.1, this.1.2, D.beqs_eq this.2⟩
theorem fitsmap_spec {k : Nat} {M : Mh} {r c : Nat} (m : Mp r c) : callP cs prog (k + 2) 2 [mpD r c] (T M) = .ok (.bl true) (T M) := by
  have hr := m.r12
  have hc := m.c12
  have r1 := m.r1
  have c1 := m.c1
  refine callP_pure (fd := fd_fits_map) rfl rfl (by simp) rfl ?_
  unfold goF fd_fits_map
  have g0 : cs[0]? = some (.int 12) := rfl
  have t := tupof_spec (k := k) (n := 1) (M := []) (d := mpD r c) (lo := 2) (hi := 2) rfl
  have w1 := whole_spec (k := k) (n := 0) (M := []) (d := nD r) (lo := 1) (hi := 12) rfl
  have w2 := whole_spec (k := k) (n := 0) (M := []) (d := nD c) (lo := 1) (hi := 12) rfl
  have e1 : isW 1 12 (nD r) = true := by simp [isW]; omega
  have e2 : isW 1 12 (nD c) = true := by simp [isW]; omega
  have e3 : isT 2 2 (mpD r c) = true := rfl
  rw [e1] at w1
  rw [e2] at w2
  rw [e3] at t
  have le := m.le
  have le' : (r : Int) * (c : Int) ≤ 12 := by
    have : ((r * c : Nat) : Int) ≤ 12 := by omega
    push_cast at this
    exact this
  simp [t, g0]
  rw [show ([nD r, nD c] : List D) = [r, c].map nD from rfl, compL_mmap (e := nD) (g := fun _ => .bl true) _ _ (fun x hx => ?_) (by simp [LINE])]
  · simp [blsD, (mul_ok m).1, le', g0]
  · have hx' : x = r ∨ x = c := by simpa using hx
    rcases hx' with rfl | rfl
    · simp [wipeE, g0, w1]
    · simp [wipeE, g0, w2]
theorem needmap_spec {k : Nat} {M : Mh} {r c : Nat} (m : Mp r c) : callP cs prog (k + 3) 3 [mpD r c] (T M) = .ok .non (T M) := by
  refine callP_pure (fd := fd_need_map) rfl rfl (by simp) rfl ?_
  unfold goF fd_need_map
  simp [fitsmap_spec (k := k) m]
theorem ismap_spec {k : Nat} {M : Mh} {r c : Nat} (m : Mp r c) : callP cs prog (k + 3) 16 [mpD r c] (T M) = .ok (.bl true) (T M) := by
  refine callP_pure (fd := fd_is_map) rfl rfl (by simp) rfl ?_
  unfold goF fd_is_map
  simp [fitsmap_spec (k := k) m]
def jinB (Φ : Nat → List D → Mh → R D) : Bool := allM fun r c => okIs (jtD r c) (goF cs Φ fd_joints_in [mpD r c] [])
def ljB (Φ : Nat → List D → Mh → R D) : Bool := allM fun r c => okIs (jtD r c) (goF cs Φ fd__law_joints [mpD r c] [])
theorem jin_dec (Φ : Nat → List D → Mh → R D) : jinB Φ = true := by kernel_rfl
theorem lj_dec (Φ : Nat → List D → Mh → R D) : ljB Φ = true := by kernel_rfl
theorem joints_spec {k : Nat} {M : Mh} {r c : Nat} (m : Mp r c) : callP cs prog (k + 1) 5 [mpD r c] (T M) = .ok (jtD r c) (T M) := callP_dec (fd := fd_joints_in) rfl rfl rfl jtN (allM_at (jin_dec _) m)
theorem ljoints_spec {k : Nat} {M : Mh} {r c : Nat} (m : Mp r c) : callP cs prog (k + 1) 42 [mpD r c] (T M) = .ok (jtD r c) (T M) := callP_dec (fd := fd__law_joints) rfl rfl rfl jtN (allM_at (lj_dec _) m)
theorem mapjoints_spec {k : Nat} {M : Mh} {r c : Nat} (m : Mp r c) : callP cs prog (k + 4) 17 [mpD r c] (T M) = .ok (.tup ((jts r c).map jD)) (T M) := by
  refine callP_pure (fd := fd_map_joints) rfl rfl (by simp) (nrs_map fun _ => rfl) ?_
  unfold goF fd_map_joints
  simp [needmap_spec (k := k) m, joints_spec (k := k + 2) m]
end Gk31

set_option Elab.async false
set_option linter.all false
set_option maxRecDepth 100000
set_option maxHeartbeats 4000000
namespace Gk31
open RF
open PySem (Str Operator CmpOp)
/-! stacks -/
def stkB (n : Nat) : D → Bool
  | .tup ds => decide (ds.length = n) && (match intsD ds with
    | some xs => xs.all (fun x => decide (0 ≤ x) && decide (x ≤ (n : Int) - 1)) && decide xs.Nodup
    | none => false)
  | _ => false
theorem fitsstack_spec {k n : Nat} {M : Mh} {d : D} {r c : Nat} (m : Mp r c) (h : pl (n + 1) d = true) : callP cs prog (k + 2) 6 [mpD r c, d] (T M) = .ok (.bl (stkB (r * c) d)) (T M) := by
  refine callP_pure (fd := fd_fits_map_stack) rfl rfl (by simp [pl_nr h]) rfl ?_
  unfold goF fd_fits_map_stack
  have mo := (mul_ok m).1
  have n1 := m.n1
  have n12 := m.le
  have em : (r : Int) * (c : Int) = ((r * c : Nat) : Int) := by push_cast; rfl
  generalize r * c = N at em n1 n12
  have t := tupof_spec (k := k) (M := []) (lo := (N : Int)) (hi := (N : Int)) h
  cases d with
  | tup ds =>
    have h1 := h
    rw [pl, Bool.and_eq_true, decide_eq_true_eq, List.all_eq_true] at h1
    by_cases hl : ds.length = N
    · have hT : isT (N : Int) (N : Int) (.tup ds) = true := by simp [isT]; omega
      rw [hT] at t
      simp [mo, em, t]
      rw [compL_map (g := fun x => .bl (isW 0 ((N : Int) - 1) x)) _ _ (fun x hx => by simp [wipeE, whole_spec (h1.2 x hx)]) (by simp [LINE]; omega)]
      simp [bls_mapf]
      rcases intsD_all (ds := ds) (fun _ _ => trivial) with ⟨xs, e1, rfl⟩ | ⟨e1, d, hd, hw⟩
      · rw [List.length_map] at hl
        have z3 : xs.length ≤ 4000 := by omega
        by_cases ha : (xs.all fun x => decide (0 ≤ x) && decide (x ≤ (N : Int) - 1)) = true
        · have hA : (xs.map D.int).all (isW 0 ((N : Int) - 1)) = true := by
            rw [List.all_map]
            exact ha
          rw [hA]
          have hd : (((ddI xs).length : Int) == (N : Int)) = decide xs.Nodup := by
            rw [Bool.eq_iff_iff, beq_iff_eq, decide_eq_true_eq, ← ddI_len]
            omega
          simp only [stkB, e1, ha, List.length_map, hl]
          simp [z3, hd]
        · have hA : (xs.map D.int).all (isW 0 ((N : Int) - 1)) = false := by
            rw [List.all_map]
            exact Bool.eq_false_iff.mpr ha
          rw [hA]
          simp only [stkB, e1, Bool.eq_false_iff.mpr ha]
          simp
      · have hA : ds.all (isW 0 ((N : Int) - 1)) = false := by
          rw [Bool.eq_false_iff]
          intro q
          have := List.all_eq_true.mp q d hd
          rw [hw] at this
          cases this
        rw [hA]
        simp only [stkB, e1]
        simp
    · have hT : isT (N : Int) (N : Int) (.tup ds) = false := by
        rw [Bool.eq_false_iff]
        intro q
        simp only [isT, Bool.and_eq_true, decide_eq_true_eq] at q
        omega
      rw [hT] at t
      simp [mo, em, t, stkB, hl]
  | ref _ => cases h
  | ty _ => cases h
  | fn _ => cases h
  | dct _ _ => cases h
  | _ => simp [mo, em, t, isT, stkB]
theorem stkB_iff {n : Nat} {d : D} (h1 : 1 ≤ n) : stkB n d = true ↔ ∃ p, d = ordD p ∧ IsP p ∧ p.length = n := by
  constructor
  · intro h
    cases d with
    | tup ds =>
      simp only [stkB, Bool.and_eq_true, decide_eq_true_eq] at h
      obtain ⟨h1, h3⟩ := h
      rcases intsD_all (ds := ds) (fun _ _ => trivial) with ⟨xs, e1, rfl⟩ | ⟨e1, _⟩
      · rw [e1] at h3
        simp only [Bool.and_eq_true, decide_eq_true_eq, List.all_eq_true] at h3
        obtain ⟨h3, h4⟩ := h3
        rw [List.length_map] at h1
        have e : (xs.map Int.toNat).map (fun i => ((i : Nat) : Int)) = xs := by
          rw [List.map_map]
          refine (List.map_congr_left fun x hx => ?_).trans (List.map_id xs)
          have := h3 x hx
          simp only [Function.comp, id]
          omega
        refine ⟨xs.map Int.toNat, by rw [ordD, nD_int, e], isP_of ?_ fun l hl => ?_, by rw [List.length_map]; exact h1⟩
        · have q := h4
          rw [← e] at q
          rw [List.nodup_iff_pairwise_ne, List.pairwise_map] at q
          exact List.nodup_iff_pairwise_ne.mpr (q.imp fun {a b} n e => n (by rw [e]))
        · obtain ⟨x, hx, rfl⟩ := List.mem_map.mp hl
          have := h3 x hx
          rw [List.length_map]
          omega
      · rw [e1] at h3
        cases h3
    | _ => cases h
  · rintro ⟨p, rfl, hp, h2⟩
    simp only [stkB, ordD, nD_int, ints_map, List.length_map]
    have a1 : ((p.map fun (i : Nat) => (i : Int)).all fun x => decide (0 ≤ x) && decide (x ≤ (n : Int) - 1)) = true := by
      rw [List.all_eq_true]
      intro x hx
      obtain ⟨l, hl, rfl⟩ := List.mem_map.mp hx
      have := hp.mem.mp hl
      simp only [Bool.and_eq_true, decide_eq_true_eq]
      omega
    have a2 : (p.map fun (i : Nat) => (i : Int)).Nodup := by
      rw [List.nodup_iff_pairwise_ne, List.pairwise_map]
      exact (List.nodup_iff_pairwise_ne.mp hp.nodup).imp fun {a b} n e => n (by omega)
    rw [a1, decide_eq_true h2, decide_eq_true a2]
    rfl
/-- a stack of a map -/
structure St (p : List Nat) (r c : Nat) : Prop where
  m : Mp r c
  ip : IsP p
  len : p.length = r * c
theorem st_pl {p : List Nat} {r c : Nat} (h : St p r c) : pl 3 (ordD p) = true := by
  have := h.m.le
  have := h.len
  rw [pl, Bool.and_eq_true, decide_eq_true_eq, List.all_eq_true, List.length_map]
  refine ⟨by omega, fun x hx => ?_⟩
  obtain ⟨i, _, rfl⟩ := List.mem_map.mp hx
  rfl
theorem needstack_spec {k : Nat} {M : Mh} {p : List Nat} {r c : Nat} (h : St p r c) : callP cs prog (k + 4) 10 [mpD r c, ordD p] (T M) = .ok .non (T M) := by
  refine callP_pure (fd := fd_need_map_stack) rfl rfl (by simp [ordN]) rfl ?_
  unfold goF fd_need_map_stack
  have f := fitsstack_spec (k := k + 1) (M := []) h.m (st_pl h)
  rw [(stkB_iff h.m.n1).mpr ⟨p, rfl, h.ip, h.len⟩] at f
  simp [needmap_spec (k := k) h.m, f]
/-! where each leaf lies -/
abbrev kN (l : Nat) : Int ⊕ Str := .inl (l : Int)
abbrev spD (p : List Nat) : D := .dct (p.map kN) ((List.range p.length).map nD)
theorem look_at : ∀ (p : List Nat) (s l : Nat), l ∈ p → lookK (p.map kN) ((List.range' s p.length).map nD) (kN l) = some (nD (s + p.idxOf l))
  | [], _, _, h => nomatch h
  | a :: p, s, l, h => by
    rw [List.length_cons, List.range'_succ, List.map_cons, List.map_cons, List.idxOf_cons]
    unfold lookK
    by_cases e : a = l
    · subst e
      rw [if_pos rfl]
      simp
    · rw [if_neg (fun q => e (by have := Sum.inl.inj q; omega))]
      have hm : l ∈ p := by
        rcases List.mem_cons.mp h with q | q
        · exact absurd q.symm e
        · exact q
      rw [look_at p (s + 1) l hm]
      have : (a == l) = false := beq_eq_false_iff_ne.mpr e
      rw [this]
      show some (nD (s + 1 + p.idxOf l)) = some (nD (s + (p.idxOf l + 1)))
      rw [show s + 1 + p.idxOf l = s + (p.idxOf l + 1) by omega]
theorem look_p {p : List Nat} {l : Nat} (h : l ∈ p) : lookK (p.map kN) ((List.range p.length).map nD) (kN l) = some (nD (p.idxOf l)) := by
  have := look_at p 0 l h
  rw [← List.range_eq_range', Nat.zero_add] at this
  exact this
theorem prs_at : ∀ (p : List Nat) (s : Nat), pairsD ((p.zipIdx s).map fun q => D.tup [nD q.1, nD q.2]) = some (p.map kN, (List.range' s p.length).map nD)
  | [], _ => rfl
  | a :: p, s => by
    rw [List.zipIdx_cons, List.map_cons]
    unfold pairsD
    rw [prs_at p (s + 1)]
    rfl
theorem zip_nD {p : List Nat} : (p.map nD).zipIdx.map (fun q => D.tup [.int q.2, q.1]) = p.zipIdx.map fun q => D.tup [nD q.2, nD q.1] := by
  rw [List.zipIdx_map, List.map_map]
  rfl
theorem spots_spec {k : Nat} {M : Mh} {p : List Nat} (h : IsP p) (hl : p.length ≤ 100) : callP cs prog (k + 1) 7 [ordD p] (T M) = .ok (spD p) (T M) := by
  refine callP_pure (fd := fd_spots_in) rfl rfl (by simp [ordN]) nrN ?_
  unfold goF fd_spots_in
  simp only [exSs_cons, exS_ret, evE_bi, evEs_cons, evEs_nil, evE_comp, evI_enm]
  simp [zip_nD]
  rw [compL_mmap (e := fun q : Nat × Nat => D.tup [nD q.2, nD q.1]) (g := fun q => D.tup [nD q.1, nD q.2]) _ _ (fun q hq => by simp [wipeE, LINE]) (by simp [LINE]; omega)]
  have e := prs_at p 0
  rw [← List.range_eq_range'] at e
  have nd : (p.map kN).Nodup := by
    rw [List.nodup_iff_pairwise_ne, List.pairwise_map]
    exact (List.nodup_iff_pairwise_ne.mp h.nodup).imp fun {a b} n e => n (by have := Sum.inl.inj e; omega)
  have z : p.length ≤ LINE := by simp only [LINE]; omega
  simp [e, nd, z]
end Gk31

set_option Elab.async false
set_option linter.all false
set_option maxRecDepth 100000
set_option maxHeartbeats 4000000
namespace Gk31
open RF
open PySem (Str Operator CmpOp)
theorem side_dec : ((List.range 4).all fun a => (List.range 4).all fun b => (sideS a == sideS b) == (a == b)) = true := by decide +kernel
theorem side_eq {a b : Nat} (ha : a < 4) (hb : b < 4) : (sideS a == sideS b) = (a == b) := by
  have := List.all_eq_true.mp (List.all_eq_true.mp side_dec a (List.mem_range.mpr ha)) b (List.mem_range.mpr hb)
  rwa [beq_iff_eq] at this
@[simp] theorem atI_two {α : Type} {a b c : α} {l : List α} : L2.atI (a :: b :: c :: l) 2 = some c := by unfold L2.atI L2.ixN; rw [if_pos (by decide), if_pos (by simp only [List.length_cons]; omega)]; rfl
theorem sort2 {a b : Nat} : sortInt [(a : Int), (b : Int)] = [((min a b : Nat) : Int), ((max a b : Nat) : Int)] := by
  simp only [sortInt, insInt]
  by_cases c : (b : Int) < (a : Int)
  · rw [if_pos c, show min a b = b by omega, show max a b = a by omega]
  · rw [if_neg c, show min a b = a by omega, show max a b = b by omega]
theorem four_nd {a b c d : Nat} : decide ([(a : Int), b, c, d].Nodup) = dif4 a b c d := by
  unfold dif4
  rw [Bool.eq_iff_iff, decide_eq_true_eq]
  simp only [List.nodup_cons, List.mem_cons, List.not_mem_nil, or_false, not_or, not_false_eq_true, List.nodup_nil, and_true, Bool.and_eq_true, bne_iff_ne]
  constructor
  · rintro ⟨⟨h1, h2, h3⟩, ⟨h4, h5⟩, h6⟩
    exact ⟨⟨⟨⟨⟨by omega, by omega⟩, by omega⟩, by omega⟩, by omega⟩, by omega⟩
  · rintro ⟨⟨⟨⟨⟨h1, h2⟩, h3⟩, h4⟩, h5⟩, h6⟩
    exact ⟨⟨by omega, by omega, by omega⟩, ⟨by omega, by omega⟩, by omega⟩
theorem ddI_four {a b c d : Nat} : decide (((ddI [(a : Int), b, c, d]).length : Int) < 4) = !dif4 a b c d := by
  rw [← four_nd]
  have h1 := ddI_len (xs := [(a : Int), b, c, d])
  have h2 := nodup_len (ddI_nodup [(a : Int), b, c, d]) (m := [(a : Int), b, c, d]) fun x hx => ddI_mem.mp hx
  simp only [List.length_cons, List.length_nil] at h1 h2
  by_cases q : ([(a : Int), b, c, d]).Nodup
  · rw [decide_eq_true q]
    have := h1.mpr q
    rw [Bool.not_true]
    exact decide_eq_false (by omega)
  · rw [decide_eq_false q]
    have : (ddI [(a : Int), b, c, d]).length ≠ 4 := fun e => q (h1.mp e)
    rw [Bool.not_false]
    exact decide_eq_true (by omega)
/-- the leaves of a joint lie in a stack -/
structure JIn (p : List Nat) (j : Jt) : Prop where
  a : j.1 ∈ p
  b : j.2.1 ∈ p
  s : j.2.2 < 4
theorem spN {p : List Nat} : (spD p).nr = true := nrN
theorem btw {lo hi x : Nat} : (decide ((lo : Int) < (x : Int)) && decide ((x : Int) < (hi : Int))) = (decide (lo < x) && decide (x < hi)) := by
  congr 1
  · exact decide_eq_decide.mpr (by omega)
  · exact decide_eq_decide.mpr (by omega)
theorem turns_spec {k : Nat} {M : Mh} {p : List Nat} {j o : Jt} (hj : JIn p j) (ho : JIn p o) : callP cs prog (k + 1) 8 [spD p, jD j, jD o] (T M) = .ok (.bl (turnsB p j o)) (T M) := by
  obtain ⟨a, b, s⟩ := j
  obtain ⟨c, d, t⟩ := o
  refine callP_pure (fd := fd_do_take_turns) rfl rfl (by rw [nrs_cons, spN]; simp) rfl ?_
  unfold goF fd_do_take_turns turnsB four
  have es := side_eq hj.s ho.s
  have la := look_p hj.a
  have lb := look_p hj.b
  have lc := look_p ho.a
  have ld := look_p ho.b
  have d4 := ddI_four (a := a) (b := b) (c := c) (d := d)
  have ei : intsD [nD a, nD b, nD c, nD d] = some [(a : Int), b, c, d] := ints_map [(a : Int), b, c, d]
  simp only [] at es la lb lc ld
  have c2 : ∀ xs : List D, cutL xs none (some 2) = xs.take 2 := fun xs => cutL_to (n := 2)
  by_cases q1 : s = t
  · subst q1
    have q2 : (sideS s == sideS s) = true := by simp
    by_cases q3 : dif4 a b c d = true
    · rw [q3] at d4
      have d4' : ¬ ((ddI [(a : Int), b, c, d]).length : Int) < 4 := of_decide_eq_false d4
      generalize hA : p.idxOf a = A at la
      generalize hB : p.idxOf b = B at lb
      generalize hC : p.idxOf c = C at lc
      generalize hD : p.idxOf d = E at ld
      simp [c2, LINE, ei, d4', q3, keyD, la, lb, lc, ld, sortD, intsD, sort2]
      unfold crossB
      by_cases x1 : min A B < C <;> by_cases x2 : C < max A B <;> by_cases x3 : min A B < E <;> by_cases x4 : E < max A B <;> simp [keyD, la, lb, lc, ld, x1, x2, x3, x4]
    · have q3 : dif4 a b c d = false := by simpa using q3
      rw [q3] at d4
      have d4' : ((ddI [(a : Int), b, c, d]).length : Int) < 4 := of_decide_eq_true d4
      simp [c2, LINE, ei, d4', q3]
  · have q2 : (s == t) = false := beq_eq_false_iff_ne.mpr q1
    rw [q2] at es
    simp [es, q2, q1]
end Gk31

set_option Elab.async false
set_option linter.all false
set_option maxRecDepth 100000
set_option maxHeartbeats 4000000
namespace Gk31
open RF
open PySem (Str Operator CmpOp)
theorem St.jin {p : List Nat} {r c : Nat} (h : St p r c) {j : Jt} (hj : j ∈ jts r c) : JIn p j := by
  obtain ⟨h1, h2, h3⟩ := jts_ok h.m hj
  have := h.len
  exact ⟨h.ip.mem.mpr (by omega), h.ip.mem.mpr (by omega), h3⟩
/-- the joint with an index -/
def jg (js : List Jt) (i : Nat) : Jt := js.getD i (0, 0, 0)
theorem jg_at {js : List Jt} {i : Nat} (h : i < js.length) : js[i]? = some (jg js i) := by
  unfold jg
  rw [List.getD_eq_getElem?_getD, List.getElem?_eq_getElem h]
  rfl
theorem jg_mem {js : List Jt} {i : Nat} (h : i < js.length) : jg js i ∈ js := List.mem_of_getElem? (jg_at h)
theorem js_enum {js : List Jt} : (js.map jD).zipIdx.map (fun q => D.tup [.int q.2, q.1]) = (List.range js.length).map fun i => D.tup [nD i, jD (jg js i)] := by
  apply List.ext_getElem?
  intro i
  rw [List.getElem?_map, List.getElem?_zipIdx, List.getElem?_map]
  by_cases c : i < js.length
  · rw [jg_at c, List.getElem?_map, List.getElem?_range c]
    simp
  · rw [List.getElem?_eq_none (by omega), List.getElem?_eq_none (l := (List.range js.length).map _) (by simp; omega)]
    rfl
abbrev croD (p : List Nat) (js : List Jt) : D := .lst ((cro p js).map prD)
theorem croN {p : List Nat} {js : List Jt} : (croD p js).nr = true := nrs_map fun _ => rfl
theorem ahead_dec : ((List.range 19).all fun m => rngOk (m : Int) && (List.range m).all fun i => rngOk ((i : Int) + 1) && D.beqs (rngL ((i : Int) + 1) (m : Int)) (((List.range m).filter fun b => decide (i < b)).map nD)) = true := by decide +kernel
theorem ahead_ok {m i : Nat} (hm : m < 19) (hi : i < m) : rngOk (m : Int) = true ∧ rngOk ((i : Int) + 1) = true ∧ rngL ((i : Int) + 1) (m : Int) = ((List.range m).filter fun b => decide (i < b)).map nD := by
  have h1 := List.all_eq_true.mp ahead_dec m (List.mem_range.mpr hm)
  rw [Bool.and_eq_true] at h1
  have := List.all_eq_true.mp h1.2 i (List.mem_range.mpr hi)
  rw [Bool.and_eq_true] at this
  exact ⟨h1.1, this.1, D.beqs_eq this.2⟩
theorem flatMap_same {α β : Type} {f g : α → List β} : ∀ {l : List α}, (∀ x ∈ l, f x = g x) → l.flatMap f = l.flatMap g
  | [], _ => rfl
  | a :: l, h => by rw [List.flatMap_cons, List.flatMap_cons, h a List.mem_cons_self, flatMap_same fun x hx => h x (List.mem_cons_of_mem _ hx)]
theorem cro_flat {p : List Nat} {js : List Jt} : ((List.range js.length).flatMap fun i => ((List.range js.length).filter fun b => decide (i < b)).flatMap fun j => if turnsB p (jg js i) (jg js j) then [prD (i, j)] else []) = (cro p js).map prD := by
  unfold cro
  rw [List.map_flatMap]
  refine flatMap_same fun i hi => ?_
  have hi := List.mem_range.mp hi
  rw [flatMap_ite, List.filter_filter, List.map_map]
  congr 1
  refine List.filter_congr fun j hj => ?_
  have hj := List.mem_range.mp hj
  rw [jg_at hi, jg_at hj, Bool.and_comm]
theorem jcross_spec {k : Nat} {M : Mh} {p : List Nat} {r c : Nat} (h : St p r c) : callP cs prog (k + 3) 9 [mpD r c, ordD p] (T M) = .ok (croD p (jts r c)) (T M) := by
  have l17 := jts_len h.m
  have lp : p.length ≤ 100 := by have := h.m.le; have := h.len; omega
  have jok : ∀ i, i < (jts r c).length → JIn p (jg (jts r c) i) := fun i hi => h.jin (jg_mem hi)
  refine callP_pure (fd := fd_joint_crossings) rfl rfl (by simp [ordN]) croN ?_
  unfold goF fd_joint_crossings
  have e1 := joints_spec (k := k + 1) (M := []) h.m
  have e2 := spots_spec (k := k + 1) (M := []) h.ip lp
  unfold jtD at e1
  rw [show croD p (jts r c) = D.lst _ from congrArg D.lst cro_flat.symm]
  generalize jts r c = js at e1 l17 jok
  simp [e1, e2, js_enum, LINE]
  refine go_bind (forL_app (C := fun acc => [.lst acc]) (P := fun env => ∃ a b c2, env = [some (mpD r c), some (ordD p), some (.lst (js.map jD)), some (spD p), some (.ref 0), a, b, c2]) (g := fun i => ((List.range js.length).filter fun b => decide (i < b)).flatMap fun j => if turnsB p (jg js i) (jg js j) then [prD (i, j)] else []) 17 300 (List.range js.length) _ [] (fun i hi => ?_) (by simp; omega) ⟨_, _, _, rfl⟩ ?_ ?_)
  · rw [flatMap_ite, List.length_map]
    have h1 := List.length_filter_le (fun j => turnsB p (jg js i) (jg js j)) ((List.range js.length).filter fun b => decide (i < b))
    have h2 := List.length_filter_le (fun b => decide (i < b)) (List.range js.length)
    rw [List.length_range] at h2
    omega
  · rintro i hi env acc hac ⟨a, b, c2, rfl⟩
    have hi' := List.mem_range.mp hi
    obtain ⟨g1, g2, g3⟩ := ahead_ok (m := js.length) (by omega) hi'
    simp [g1, g2, g3]
    refine sat_bind.mpr (forL_app (C := fun acc => [.lst acc]) (P := fun env => ∃ c2, env = [some (mpD r c), some (ordD p), some (.lst (js.map jD)), some (spD p), some (.ref 0), some (nD i), some (jD (jg js i)), c2]) (g := fun j => if turnsB p (jg js i) (jg js j) then [prD (i, j)] else []) 1 300 _ _ acc (fun _ _ => ite_len) (by have h2 := List.length_filter_le (fun b => decide (i < b)) (List.range js.length); rw [List.length_range] at h2; omega) ⟨_, rfl⟩ ?_ ?_)
    · rintro j hj env acc hac ⟨c2, rfl⟩
      have ha : acc.length < 16777216 := by omega
      have hj' := List.mem_range.mp (List.mem_filter.mp hj).1
      have e := turns_spec (k := k + 1) (M := [.lst acc]) (jok i hi') (jok j hj')
      have ca : (Option.map jD js[j]?) = some (jD (jg js j)) := by rw [jg_at hj']; rfl
      generalize jg js i = A at *
      generalize jg js j = B at *
      cases hc : turnsB p A B with
      | true =>
        rw [hc] at e
        simp [atI_nat, ca, e, LINE, ha]
      | false =>
        rw [hc] at e
        simp [atI_nat, ca, e]
    · rintro env ⟨c2, rfl⟩
      simp
  · rintro env ⟨a, b, c2, rfl⟩
    simp
/-! the crossings that are asked -/
theorem isflat_spec {k : Nat} {M : Mh} {p : List Nat} {r c : Nat} (h : St p r c) : callP cs prog (k + 5) 21 [mpD r c, ordD p] (T M) = .ok (.bl (cro p (jts r c)).isEmpty) (T M) := by
  refine callP_pure (fd := fd_is_flat_stack) rfl rfl (by simp [ordN]) rfl ?_
  unfold goF fd_is_flat_stack
  simp [needstack_spec (k := k) h, jcross_spec (k := k + 1) h, LINE, eqD_map0 (fun x : Nat × Nat => show (prD x).dep 59 = true by simp [D.dep, D.deps])]
theorem ismapstack_spec {k n : Nat} {M : Mh} {d : D} {r c : Nat} (m : Mp r c) (h : pl (n + 1) d = true) : callP cs prog (k + 4) 18 [mpD r c, d] (T M) = .ok (.bl (stkB (r * c) d)) (T M) := by
  refine callP_pure (fd := fd_is_map_stack) rfl rfl (by simp [pl_nr h]) rfl ?_
  unfold goF fd_is_map_stack
  simp [needmap_spec (k := k) m, fitsstack_spec (k := k + 1) m h]
def headO (p : List Nat) (js : List Jt) : D := match cro p js with
  | [] => .non
  | x :: _ => prD x
theorem jcrossing_spec {k : Nat} {M : Mh} {p : List Nat} {r c : Nat} (h : St p r c) : callP cs prog (k + 5) 19 [mpD r c, ordD p] (T M) = .ok (headO p (jts r c)) (T M) := by
  refine callP_pure (fd := fd_joints_crossing) rfl rfl (by simp [ordN]) (by unfold headO; split <;> simp) ?_
  unfold goF fd_joints_crossing
  have e := eqD_map0 (M := []) (l := cro p (jts r c)) (fun x : Nat × Nat => show (prD x).dep 59 = true by simp [D.dep, D.deps])
  simp [needstack_spec (k := k) h, jcross_spec (k := k + 1) h, LINE, e, headO]
  cases cro p (jts r c) with
  | nil => simp
  | cons x xs => simp
end Gk31

set_option Elab.async false
set_option linter.all false
set_option maxRecDepth 100000
set_option maxHeartbeats 4000000
namespace Gk31
open RF
open PySem (Str Operator CmpOp)
def oddT (Φ : Nat → List D → Mh → R D) : Bool := allM fun r c => (List.range (r * c)).all fun l => okIs (.bl (!evenB c l)) (goF cs Φ fd_is_odd_leaf [mpD r c, nD l] [])
theorem odd_dec (Φ : Nat → List D → Mh → R D) : oddT Φ = true := by kernel_rfl
theorem odd_spec {k l : Nat} {M : Mh} {r c : Nat} (m : Mp r c) (hl : l < r * c) : callP cs prog (k + 1) 4 [mpD r c, nD l] (T M) = .ok (.bl (!evenB c l)) (T M) :=
  callP_dec (fd := fd_is_odd_leaf) rfl rfl (by simp) rfl (List.all_eq_true.mp (allM_at (odd_dec _) m) l (List.mem_range.mpr hl))
theorem gM : cs[1]? = some (.str (Str.ofString "m")) := rfl
theorem gV : cs[2]? = some (.str (Str.ofString "v")) := rfl
theorem gO : cs[3]? = some (.str (Str.ofString "?")) := rfl
theorem jmark_spec {k : Nat} {M : Mh} {p : List Nat} {r c : Nat} (h : St p r c) {j : Jt} (hj : j ∈ jts r c) : callP cs prog (k + 2) 11 [mpD r c, spD p, jD j] (T M) = .ok (.str ⟨#[mkJ p c j]⟩) (T M) := by
  obtain ⟨h1, h2, h3⟩ := jts_ok h.m hj
  have hi := h.jin hj
  have hlen := h.len
  obtain ⟨a, b, s⟩ := j
  simp only [] at h1 h2
  refine callP_pure (fd := fd_joint_mark) rfl rfl (by rw [nrs_cons, nrs_cons, spN]; simp) rfl ?_
  unfold goF fd_joint_mark mkJ
  have la := look_p hi.a
  have lb := look_p hi.b
  have ne : p.idxOf a ≠ p.idxOf b := h.ip.inj (by omega) (by omega) (by omega)
  have e := odd_spec (k := k) (M := []) (l := a) h.m (by omega)
  simp only [] at la lb
  simp only [gM, gV]
  generalize p.idxOf a = A at la ne
  generalize p.idxOf b = B at lb ne
  cases hq : evenB c a with
  | true =>
    rw [hq] at e
    by_cases q : A < B
    · simp [e, keyD, LINE, la, lb, sv, sm, q, gM, gV]
    · have q' : ¬ A < B := q
      simp [e, keyD, LINE, la, lb, sv, sm, q, gM, gV]
  | false =>
    rw [hq] at e
    by_cases q : A < B
    · have q' : ¬ B < A := by omega
      simp [e, keyD, LINE, la, lb, sv, sm, q, q', gM, gV]
    · have q' : B < A := by omega
      simp [e, keyD, LINE, la, lb, sv, sm, q, q', gM, gV]
abbrev mksS (p : List Nat) (r c : Nat) : Str := ⟨(mksL p r c).toArray⟩
theorem mksL_len {p : List Nat} {r c : Nat} : (mksL p r c).length = (jts r c).length := by simp [mksL]
theorem mmarks_spec {k : Nat} {M : Mh} {p : List Nat} {r c : Nat} (h : St p r c) : callP cs prog (k + 3) 12 [mpD r c, ordD p] (T M) = .ok (.str (mksS p r c)) (T M) := by
  have l17 := jts_len h.m
  have lp : p.length ≤ 100 := by have := h.m.le; have := h.len; omega
  refine callP_pure (fd := fd_map_marks_in) rfl rfl (by simp [ordN]) rfl ?_
  unfold goF fd_map_marks_in
  simp [joints_spec (k := k + 1) h.m, spots_spec (k := k + 1) h.ip lp]
  rw [compL_mmap (g := fun j => .str ⟨#[mkJ p c j]⟩) _ _ (fun j hj => by simp [wipeE, jmark_spec (k := k) h hj]) (by simp [LINE]; omega)]
  have e1 : (jts r c).map (fun j => D.str ⟨#[mkJ p c j]⟩) = ((mksL p r c).map fun c => (⟨#[c]⟩ : Str)).map D.str := by
    unfold mksL
    rw [List.map_map, List.map_map]
    rfl
  have e2 : (((mksL p r c).map fun c => (⟨#[c]⟩ : Str)).map Str.length).sum + ((mksL p r c).map fun c => (⟨#[c]⟩ : Str)).length * (Str.ofString "").length ≤ LINE := by
    rw [sum_single, mksL_len, show (Str.ofString "").length = 0 by decide +kernel]
    simp [LINE]
    omega
  rw [List.nil_append, e1]
  simp only [s0] at *
  have e3 := join_single (mksL p r c)
  generalize ((mksL p r c).map fun c => (⟨#[c]⟩ : Str)) = ys at e2 e3
  simp [e2, e3]
theorem stackmarks_spec {k : Nat} {M : Mh} {p : List Nat} {r c : Nat} (h : St p r c) : callP cs prog (k + 5) 22 [mpD r c, ordD p] (T M) = .ok (.str (mksS p r c)) (T M) := by
  refine callP_pure (fd := fd_stack_marks) rfl rfl (by simp [ordN]) rfl ?_
  unfold goF fd_stack_marks
  simp [needstack_spec (k := k) h, mmarks_spec (k := k + 1) h]
/-! a value is a pair that crosses -/
def inC (p : List Nat) (js : List Jt) (v : D) : Bool := (cro p js).any fun x => D.beq v (prD x)
theorem inC_f {p : List Nat} {js : List Jt} {v : D} (h : ∀ x ∈ cro p js, D.beq v (prD x) = false) : inC p js v = false := by
  unfold inC
  rw [Bool.eq_false_iff]
  intro q
  obtain ⟨x, hx, e⟩ := List.any_eq_true.mp q
  rw [h x hx] at e
  cases e
theorem cro_lt {p : List Nat} {js : List Jt} {x : Nat × Nat} (h : x ∈ cro p js) : x.1 < js.length ∧ x.2 < js.length := by
  unfold cro at h
  obtain ⟨a, ha, h⟩ := List.mem_flatMap.mp h
  obtain ⟨b, hb, rfl⟩ := List.mem_map.mp h
  exact ⟨List.mem_range.mp ha, List.mem_range.mp (List.mem_filter.mp hb).1⟩
theorem isW_int {lo hi : Int} {d : D} (h : isW lo hi d = true) : ∃ i, d = .int i := by
  cases d with
  | int i => exact ⟨i, rfl⟩
  | _ => cases h
theorem docross_spec {k n : Nat} {M : Mh} {p : List Nat} {r c : Nat} {v : D} (h : St p r c) (hv : pl (n + 1) v = true) : callP cs prog (k + 5) 20 [mpD r c, ordD p, v] (T M) = .ok (.bl (inC p (jts r c) v)) (T M) := by
  refine callP_pure (fd := fd_do_joints_cross) rfl rfl (by simp [ordN, pl_nr hv]) rfl ?_
  unfold goF fd_do_joints_cross
  have ht := tupof_spec (k := k + 3) (M := []) (lo := 2) (hi := 2) hv
  have ej := joints_spec (k := k + 3) (M := []) h.m
  unfold jtD at ej
  cases hq : isT 2 2 v with
  | false =>
    rw [hq] at ht
    have e : inC p (jts r c) v = false := inC_f fun x hx => by
      cases v with
      | tup ds =>
        cases hb : D.beq (.tup ds) (prD x) with
        | false => rfl
        | true =>
          have := D.beq_eq hb
          rw [this] at hq
          simp [isT] at hq
      | _ => rfl
    simp [needstack_spec (k := k) h, ht, e]
  | true =>
    rw [hq] at ht
    cases v with
    | tup ds =>
      have h1 := hv
      rw [pl, Bool.and_eq_true, decide_eq_true_eq, List.all_eq_true] at h1
      have hl : ds.length = 2 := by
        simp only [isT, Bool.and_eq_true, decide_eq_true_eq] at hq
        omega
      have ec := jcross_spec (k := k + 1) (M := []) h
      unfold croD at ec
      simp [needstack_spec (k := k) h, ht]
      rw [compL_map (g := fun x => .bl (isW 0 (((jts r c).length : Int) - 1) x)) _ _ (fun x hx => by simp [wipeE, ej, whole_spec (h1.2 x hx)]) (by simp [LINE]; omega)]
      simp [bls_mapf]
      cases ha : ds.all (isW 0 (((jts r c).length : Int) - 1)) with
      | false =>
        have e : inC p (jts r c) (.tup ds) = false := inC_f fun x hx => by
          cases hb : D.beq (.tup ds) (prD x) with
          | false => rfl
          | true =>
            have := D.beq_eq hb
            obtain ⟨l1, l2⟩ := cro_lt hx
            cases this
            simp [isW] at ha
            omega
        simp [e]
      | true =>
        obtain ⟨a, b, rfl⟩ : ∃ a b, ds = [.int a, .int b] := by
          match ds, hl, ha with
          | [c, d], _, ha =>
            simp only [List.all_cons, Bool.and_eq_true] at ha
            obtain ⟨i, rfl⟩ := isW_int ha.1
            obtain ⟨j, rfl⟩ := isW_int ha.2.1
            exact ⟨i, j, rfl⟩
        have ei : inD (T []) (.tup [.int a, .int b]) (.lst ((cro p (jts r c)).map prD)) = some (inC p (jts r c) (.tup [.int a, .int b])) := by
          have d1 : D.deps 59 ((cro p (jts r c)).map prD) = true := deps_iff.mpr fun d hd => by
            obtain ⟨x, _, rfl⟩ := List.mem_map.mp hd
            simp [D.dep, D.deps]
          unfold inD
          simp only [seqOf_lst, d1, Bool.and_true]
          rw [if_pos (by simp [D.dep, D.deps]), List.any_map]
          unfold inC
          congr 1
          congr 1
          funext x
          simp only [Function.comp, D.eqv, D.eqvs, D.beq, D.beqs, Bool.and_true]
          rw [Bool.beq_comm (a := (x.1 : Int)), Bool.beq_comm (a := (x.2 : Int))]
        simp [ec, ei]
    | _ => cases hq
end Gk31

set_option Elab.async false
set_option linter.all false
set_option maxRecDepth 100000
set_option maxHeartbeats 4000000
namespace Gk31
open RF
open PySem (Str Operator CmpOp)
abbrev sg (c : Nat) : D := .str ⟨#[c]⟩
/-- told marks -/
structure Told (ms : List Nat) (r c : Nat) : Prop where
  len : ms.length = (jts r c).length
  ok : ∀ c ∈ ms, c = 63 ∨ c = 118 ∨ c = 109
abbrev tS (ms : List Nat) : D := .str ⟨ms.toArray⟩
theorem signs_mk {ms : List Nat} : signs ⟨ms.toArray⟩ = ms.map sg := by
  unfold signs
  rfl
abbrev mvo : D := .tup [.str (Str.ofString "m"), .str (Str.ofString "v"), .str (Str.ofString "?")]
theorem in_marks {M : Mh} {c : Nat} (h : c = 63 ∨ c = 118 ∨ c = 109) : inD (T M) (sg c) mvo = some true := by
  have : inD [] (sg c) mvo = some true := by
    rcases h with rfl | rfl | rfl <;> decide +kernel
  exact this
theorem fitstold_spec {k : Nat} {M : Mh} {ms : List Nat} {r c : Nat} (m : Mp r c) (h : Told ms r c) : callP cs prog (k + 2) 13 [mpD r c, tS ms] (T M) = .ok (.bl true) (T M) := by
  have l17 := jts_len m
  have hl := h.len
  refine callP_pure (fd := fd_fits_told) rfl rfl (by simp) rfl ?_
  unfold goF fd_fits_told
  have el : (⟨ms.toArray⟩ : Str).length = (jts r c).length := by rw [len_mk, hl]
  have ej := joints_spec (k := k) (M := []) m
  unfold jtD at ej
  simp [el, ej, signs_mk]
  rw [compL_mmap (e := sg) (g := fun _ => .bl true) _ _ (fun c hc => by simp [wipeE, gM, gV, gO, LINE, in_marks (h.ok c hc)]) (by simp only [LINE, List.length_nil]; omega)]
  simp [bls_mapf]
theorem needmarks_spec {k : Nat} {M : Mh} {ms : List Nat} {r c : Nat} (m : Mp r c) (h : Told ms r c) : callP cs prog (k + 4) 14 [mpD r c, tS ms] (T M) = .ok .non (T M) := by
  refine callP_pure (fd := fd_need_map_marks) rfl rfl (by simp) rfl ?_
  unfold goF fd_need_map_marks
  simp [needmap_spec (k := k) m, fitstold_spec (k := k + 1) m h]
/-! corners -/
def cjT (k : Nat) : Bool := allM fun r c => (List.range (r * c)).all fun l => okIs (.lst ((cjs r c l).map nD)) (goF cs (callP cs prog (k + 1)) fd_corner_joints [mpD r c, nD l] [])
theorem cj_dec (k : Nat) : cjT k = true := by kernel_rfl
theorem cj_spec {k l : Nat} {M : Mh} {r c : Nat} (m : Mp r c) (hl : l < r * c) : callP cs prog (k + 2) 15 [mpD r c, nD l] (T M) = .ok (.lst ((cjs r c l).map nD)) (T M) :=
  callP_dec (fd := fd_corner_joints) rfl rfl (by simp) nrN (List.all_eq_true.mp (allM_at (cj_dec k) m) l (List.mem_range.mpr hl))
theorem cjs_lt {r c l i : Nat} (h : i ∈ cjs r c l) : i < (jts r c).length := by
  unfold cjs at h
  cases hc : cornB r c l with
  | true =>
    rw [hc] at h
    exact List.mem_range.mp (List.mem_filter.mp h).1
  | false =>
    rw [hc] at h
    cases h
theorem cjs_len {r c l : Nat} : (cjs r c l).length ≤ (jts r c).length := by
  unfold cjs
  cases cornB r c l with
  | true =>
    rw [if_pos rfl]
    refine Nat.le_trans (List.length_filter_le _ _) ?_
    rw [List.length_range]
    exact Nat.le_refl _
  | false => rw [if_neg (by decide)]; simp
theorem cjs_ne {r c l : Nat} (m : Mp r c) (hl : l < r * c) : (cjs r c l).isEmpty = !cornB r c l := by
  cases hc : cornB r c l with
  | true =>
    have t := List.all_eq_true.mp (allM_at cjs_dec m) l (List.mem_range.mpr hl)
    rw [hc] at t
    cases hq : cjs r c l with
    | nil => rw [hq] at t; cases t
    | cons a b => rfl
  | false =>
    unfold cjs
    rw [hc]
    rfl
theorem in63 {M : Mh} {s : List Nat} : inD (T M) (.str (Str.ofString "?")) (.lst (s.map sg)) = some (s.contains 63) := by
  have d1 : D.deps 59 (s.map sg) = true := deps_iff.mpr fun d hd => by
    obtain ⟨x, _, rfl⟩ := List.mem_map.mp hd
    simp [D.dep]
  unfold inD
  simp only [seqOf_lst, d1, Bool.and_true]
  rw [if_pos (by simp [D.dep]), List.any_map]
  congr 1
  rw [← List.any_beq]
  congr 1
  funext x
  have e : Str.ofString "?" = ⟨#[63]⟩ := by decide +kernel
  simp only [Function.comp, D.eqv, e]
  rw [Bool.eq_iff_iff]
  simp
  exact eq_comm
theorem cnt118 {s : List Nat} : (((s.map fun c => (⟨#[c]⟩ : Str)).filter fun z => decide (z = Str.ofString "v")).length) = (s.filter (· == 118)).length := by
  rw [sv, List.filter_map, List.length_map]
  congr 2
  funext x
  simp only [Function.comp]
  rw [Bool.eq_iff_iff]
  simp
theorem sg_strs {s : List Nat} : strsD (s.map sg) = some (s.map fun c => (⟨#[c]⟩ : Str)) := by
  rw [show s.map sg = (s.map fun c => (⟨#[c]⟩ : Str)).map D.str by rw [List.map_map]; rfl, strs_map]
theorem in13 {M : Mh} {n : Nat} : inD (T M) (.int (n : Int)) (.tup [.int 1, .int 3]) = some (n == 1 || n == 3) := by
  unfold inD
  simp only [seqOf_tup]
  rw [if_pos (by simp [D.dep, D.deps])]
  simp only [List.any_cons, List.any_nil, D.eqv, Bool.or_false]
  congr 1
  rw [Bool.eq_iff_iff]
  simp
  omega
theorem badcorners_spec {k : Nat} {M : Mh} {ms : List Nat} {r c : Nat} (m : Mp r c) (h : Told ms r c) : callP cs prog (k + 5) 23 [mpD r c, tS ms] (T M) = .ok (.tup ((bads r c ms).map nD)) (T M) := by
  have l17 := jts_len m
  have n12 := m.le
  have hl := h.len
  refine callP_pure (fd := fd_map_bad_corners) rfl rfl (by simp) nrN ?_
  unfold goF fd_map_bad_corners
  obtain ⟨q1, q2, q3⟩ := mul_ok m
  have em : (r : Int) * (c : Int) = ((r * c : Nat) : Int) := by push_cast; rfl
  unfold bads
  have cj : ∀ (l : Nat) (M : Mh), l < r * c → callP cs prog (k + 4) 15 [mpD r c, nD l] (T M) = .ok (.lst ((cjs r c l).map nD)) (T M) := fun l M hl => cj_spec (k := k + 2) m hl
  have cne : ∀ l, l < r * c → (cjs r c l).isEmpty = !cornB r c l := fun l hl => cjs_ne m hl
  have nm := needmarks_spec (k := k) (M := []) m h
  generalize r * c = N at *
  simp [nm, q1, em, q2, q3]
  refine go_bind (forL_app (C := fun acc => [.lst acc]) (P := fun env => ∃ a b d, env = [some (mpD r c), some (tS ms), some (.ref 0), a, b, d]) (g := fun l => if badB r c l ms then [nD l] else []) 1 100 (List.range N) _ [] (fun _ _ => ite_len) (by simp; omega) ⟨_, _, _, rfl⟩ ?_ ?_)
  · rintro l hl2 env acc hac ⟨a, b, d, rfl⟩
    have hl3 := List.mem_range.mp hl2
    have ha : acc.length < 16777216 := by omega
    simp [cj l _ hl3]
    rw [compL_mmap (e := nD) (g := fun i => sg (ms.getD i 0)) _ _ (fun i hi => ?_) ?_]
    · have e1 : (cjs r c l).map (fun i => sg (ms.getD i 0)) = ((cjs r c l).map fun i => ms.getD i 0).map sg := by rw [List.map_map]; rfl
      have e2 : ((cjs r c l).map fun i => ms.getD i 0).isEmpty = !cornB r c l := by rw [← cne l hl3, List.isEmpty_map]
      have e3 : badB r c l ms = (cornB r c l && !((cjs r c l).map fun i => ms.getD i 0).contains 63 && !((((cjs r c l).map fun i => ms.getD i 0).filter (· == 118)).length == 1 || (((cjs r c l).map fun i => ms.getD i 0).filter (· == 118)).length == 3)) := rfl
      rw [e1, List.nil_append, e3]
      generalize ((cjs r c l).map fun i => ms.getD i 0) = s at e2
      have en : eqD (T [.lst acc]) (.lst (s.map sg)) (.lst []) = some s.isEmpty := eqD_map0 fun x => by simp [D.dep]
      rw [e2] at en
      have i6 := in63 (M := [.lst acc]) (s := s)
      have i1 := in13 (M := [.lst acc]) (n := (s.filter (· == 118)).length)
      have ss := sg_strs (s := s)
      have c1 := cnt118 (s := s)
      generalize s.map sg = sl at *
      generalize (s.map fun c => (⟨#[c]⟩ : Str)) = st at *
      generalize (s.filter (· == 118)).length = n at *
      cases hc : cornB r c l with
      | false =>
        rw [hc] at en
        simp [en, LINE]
      | true =>
        rw [hc] at en
        cases h6 : s.contains 63 with
        | true =>
          rw [h6] at i6
          simp [en, i6, LINE, gO]
        | false =>
          rw [h6] at i6
          cases h1 : (n == 1 || n == 3) with
          | true =>
            rw [h1] at i1
            simp [en, i6, LINE, gO, gV, ss, c1, i1]
          | false =>
            rw [h1] at i1
            simp [en, i6, LINE, gO, gV, ss, c1, i1, ha]
    · have h1 := cjs_len (r := r) (c := c) (l := l)
      simp only [LINE, List.length_nil]
      omega
    · have hi2 := cjs_lt hi
      have hi3 : i < ms.length := by omega
      have ge : ms[i]? = some (ms.getD i 0) := by rw [List.getD_eq_getElem?_getD, List.getElem?_eq_getElem hi3]; rfl
      generalize ms.getD i 0 = x at ge
      simp [wipeE, atI_nat, ge]
  · rintro env ⟨a, b, d, rfl⟩
    rw [flatMap_ite]
    simp
end Gk31

set_option Elab.async false
set_option linter.all false
set_option maxRecDepth 100000
set_option maxHeartbeats 4000000
namespace Gk31
open RF
open PySem (Str Operator CmpOp)
/-! the row of four leaves in a stack -/
def in4 (a b c d x : Nat) : Bool := x == a || x == b || x == c || x == d
theorem pos_pw : ∀ {p : List Nat}, p.Nodup → p.Pairwise fun x y => p.idxOf x < p.idxOf y
  | [], _ => List.Pairwise.nil
  | a :: p, h => by
    obtain ⟨h1, h2⟩ := List.nodup_cons.mp h
    refine List.pairwise_cons.mpr ⟨fun y hy => ?_, (pos_pw h2).imp_of_mem fun {x y} hx hy q => ?_⟩
    · have : (a == y) = false := beq_eq_false_iff_ne.mpr fun e => h1 (e ▸ hy)
      rw [List.idxOf_cons, List.idxOf_cons, this]
      simp
    · have e1 : (a == x) = false := beq_eq_false_iff_ne.mpr fun e => h1 (e ▸ hx)
      have e2 : (a == y) = false := beq_eq_false_iff_ne.mpr fun e => h1 (e ▸ hy)
      rw [List.idxOf_cons, List.idxOf_cons, e1, e2]
      simpa using q
theorem row_is {p : List Nat} {a b c d : Nat} (hp : p.Nodup) (ha : a ∈ p) (hb : b ∈ p) (hc : c ∈ p) (hd : d ∈ p) (h4 : dif4 a b c d = true) :
    ((p.filter (in4 a b c d)).map fun x => x == a || x == b) = rowB (p.idxOf a) (p.idxOf b) (p.idxOf c) (p.idxOf d) := by
  have hn : ([a, b, c, d]).Nodup := by
    unfold dif4 at h4
    simp only [Bool.and_eq_true, bne_iff_ne] at h4
    simp only [List.nodup_cons, List.mem_cons, List.not_mem_nil, or_false, not_or, not_false_eq_true, List.nodup_nil, and_true]
    obtain ⟨⟨⟨⟨⟨h1, h2⟩, h3⟩, h4⟩, h5⟩, h6⟩ := h4
    exact ⟨⟨h1, h2, h3⟩, ⟨h4, h5⟩, h6⟩
  have pm : (p.filter (in4 a b c d)).Perm [a, b, c, d] := (List.perm_ext_iff_of_nodup (hp.filter _) hn).mpr fun x => by
    rw [List.mem_filter]
    unfold in4
    simp only [Bool.or_eq_true, beq_iff_eq, List.mem_cons, List.not_mem_nil, or_false]
    constructor
    · rintro ⟨_, ((h | h) | h) | h⟩ <;> simp [h]
    · rintro (rfl | rfl | rfl | rfl) <;> simp [*]
  have so := sortInt_is (ys := (p.filter (in4 a b c d)).map fun x => ((p.idxOf x : Nat) : Int)) (l := [((p.idxOf a : Nat) : Int), ((p.idxOf b : Nat) : Int), ((p.idxOf c : Nat) : Int), ((p.idxOf d : Nat) : Int)]) (pm.map fun x => ((p.idxOf x : Nat) : Int)) (List.pairwise_map.mpr (((pos_pw hp).filter _).imp fun {x y} q => by omega))
  unfold rowB
  rw [← so, List.map_map]
  refine List.map_congr_left fun x hx => ?_
  have hx' := (List.mem_filter.mp hx).1
  have inj : ∀ y, y ∈ p → (((p.idxOf x : Nat) : Int) == ((p.idxOf y : Nat) : Int)) = (x == y) := fun y hy => by
    rw [Bool.eq_iff_iff, beq_iff_eq, beq_iff_eq]
    constructor
    · intro e
      have h1 := idx_get hx'
      have h2 := idx_get hy
      have : p.idxOf x = p.idxOf y := by omega
      rw [this, h2] at h1
      exact (Option.some.inj h1).symm
    · rintro rfl; rfl
  simp only [Function.comp, inj a ha, inj b hb]
theorem row_len {p : List Nat} {a b c d : Nat} (hp : p.Nodup) (ha : a ∈ p) (hb : b ∈ p) (hc : c ∈ p) (hd : d ∈ p) (h4 : dif4 a b c d = true) : ((p.filter (in4 a b c d)).map fun x => x == a || x == b).length = 4 := by
  rw [row_is hp ha hb hc hd h4]
  unfold rowB
  rw [List.length_map, (sortInt_perm _).length_eq]
  rfl
theorem inN {M : Mh} {x : Nat} {l : List Nat} : inD (T M) (nD x) (.tup (l.map nD)) = some (l.contains x) := by
  have d1 : D.deps 59 (l.map nD) = true := deps_iff.mpr fun d hd => by
    obtain ⟨x, _, rfl⟩ := List.mem_map.mp hd
    simp [D.dep]
  unfold inD
  simp only [seqOf_tup, d1, Bool.and_true]
  rw [if_pos (by simp [D.dep]), List.any_map]
  congr 1
  rw [← List.any_beq]
  congr 1
  funext y
  simp only [Function.comp, D.eqv]
  rw [Bool.eq_iff_iff]
  simp only [beq_iff_eq, decide_eq_true_eq]
  omega
theorem lturns_spec {k : Nat} {M : Mh} {p : List Nat} {j o : Jt} (hp : p.Nodup) (h12 : p.length ≤ 12) (hj : JIn p j) (ho : JIn p o) (hab : j.1 ≠ j.2.1) (hcd : o.1 ≠ o.2.1) : callP cs prog (k + 1) 43 [ordD p, jD j, jD o] (T M) = .ok (.bl (turnsB p j o)) (T M) := by
  obtain ⟨a, b, s⟩ := j
  obtain ⟨c, d, t⟩ := o
  refine callP_pure (fd := fd__law_turns) rfl rfl (by simp [ordN]) rfl ?_
  unfold goF fd__law_turns turnsB four
  have es := side_eq hj.s ho.s
  have c2 : ∀ xs : List D, cutL xs none (some 2) = xs.take 2 := fun xs => cutL_to (n := 2)
  have ma := hj.a
  have mb := hj.b
  have mc := ho.a
  have md := ho.b
  simp only [] at es ma mb mc md hab hcd
  have ab : a ≠ b → True := fun _ => trivial
  have i2 : ∀ (M : Mh) (x u v : Nat), inD (T M) (nD x) (.tup [nD u, nD v]) = some (x == u || x == v) := fun M x u v =>
    (inN (M := M) (x := x) (l := [u, v])).trans (congrArg some (by rw [Bool.eq_iff_iff]; simp))
  have i4 : ∀ (M : Mh) (x : Nat), inD (T M) (nD x) (.tup [nD a, nD b, nD c, nD d]) = some (in4 a b c d x) := fun M x =>
    (inN (M := M) (x := x) (l := [a, b, c, d])).trans (congrArg some (by unfold in4; rw [Bool.eq_iff_iff]; simp [or_assoc]))
  by_cases q1 : s = t
  · subst q1
    have q2 : (sideS s == sideS s) = true := by simp
    simp [c2, LINE]
    rw [show ([nD a, nD b] : List D) = [a, b].map nD from rfl, compL_fmap (e := nD) (p := fun x => x == c || x == d) (g := nD) _ _ (fun x hx => ?_) (by simp [LINE])]
    · have en : eqD (T []) (.lst (([a, b].filter fun x => x == c || x == d).map nD)) (.lst []) = some ([a, b].filter fun x => x == c || x == d).isEmpty := eqD_map0 fun x => by simp [D.dep]
      have e4 : ([a, b].filter fun x => x == c || x == d).isEmpty = dif4 a b c d := by
        rw [filter_empty]
        unfold dif4
        rw [Bool.eq_iff_iff]
        simp [hab, hcd]
        constructor
        · rintro ⟨⟨h1, h2⟩, h3, h4⟩; exact ⟨⟨⟨h1, h2⟩, h3⟩, h4⟩
        · rintro ⟨⟨⟨h1, h2⟩, h3⟩, h4⟩; exact ⟨⟨h1, h2⟩, h3, h4⟩
      rw [e4] at en
      generalize ([a, b].filter fun x => x == c || x == d).map nD = Z at en
      cases h4 : dif4 a b c d with
      | false =>
        rw [h4] at en
        simp [en, LINE]
      | true =>
        rw [h4] at en
        have ri := row_is hp ma mb mc md h4
        have rl := row_len hp ma mb mc md h4
        have lt : ∀ x, x ∈ p → p.idxOf x < 12 := fun x hx => Nat.lt_of_lt_of_le (List.idxOf_lt_length_iff.mpr hx) h12
        have nd : dif4 (p.idxOf a) (p.idxOf b) (p.idxOf c) (p.idxOf d) = true := by
          have inj : ∀ x y, x ∈ p → y ∈ p → x ≠ y → p.idxOf x ≠ p.idxOf y := fun x y hx hy n e => by
            have h1 := idx_get hx
            have h2 := idx_get hy
            rw [e, h2] at h1
            exact n (Option.some.inj h1).symm
          unfold dif4 at h4
          simp only [Bool.and_eq_true, bne_iff_ne] at h4
          obtain ⟨⟨⟨⟨⟨h1, h2⟩, h3⟩, h4⟩, h5⟩, h6⟩ := h4
          exact dif4_of (inj a b ma mb h1) (inj a c ma mc h2) (inj a d ma md h3) (inj b c mb mc h4) (inj b d mb md h5) (inj c d mc md h6)
        have rc := row_cross (lt a ma) (lt b mb) (lt c mc) (lt d md) nd
        simp [en, LINE, c2]
        rw [compL_fmap (e := nD) (p := in4 a b c d) (g := fun x => .bl (x == a || x == b)) _ _ (fun x hx => ?_) (by simp only [LINE, List.length_nil]; omega)]
        · rw [List.nil_append, show (p.filter (in4 a b c d)).map (fun x => D.bl (x == a || x == b)) = ((p.filter (in4 a b c d)).map fun x => x == a || x == b).map D.bl by rw [List.map_map]; rfl]
          rw [← ri] at rc
          generalize ((p.filter (in4 a b c d)).map fun x => x == a || x == b) = row at rc rl
          match row, rl with
          | [x, y, z, w], _ =>
            rw [← rc]
            simp
        · have e := i4 [] x
          have e' := i2 [] x a b
          cases hq : in4 a b c d x with
          | true =>
            rw [hq] at e
            simp [wipeE, c2, LINE, e, e']
          | false =>
            rw [hq] at e
            simp [wipeE, c2, LINE, e]
    · cases hq : (x == c || x == d) with
      | true =>
        have e := i2 [] x c d
        rw [hq] at e
        simp [wipeE, c2, LINE, e]
      | false =>
        have e := i2 [] x c d
        rw [hq] at e
        simp [wipeE, c2, LINE, e]
  · have q2 : (s == t) = false := beq_eq_false_iff_ne.mpr q1
    rw [q2] at es
    simp [es, q2, q1]
end Gk31

set_option Elab.async false
set_option linter.all false
set_option maxRecDepth 100000
set_option maxHeartbeats 4000000
namespace Gk31
open RF
open PySem (Str Operator CmpOp)
def croI (p : List Nat) (js : List Jt) (i : Nat) : List (Nat × Nat) := (List.range i).flatMap fun a => (((List.range js.length).filter fun b => decide (a < b)).filter fun b => turnsB p (jg js a) (jg js b)).map fun b => (a, b)
theorem croI_all {p : List Nat} {js : List Jt} : croI p js js.length = cro p js := by
  unfold croI cro
  refine flatMap_same fun i hi => ?_
  have hi := List.mem_range.mp hi
  rw [List.filter_filter]
  congr 1
  refine List.filter_congr fun j hj => ?_
  have hj := List.mem_range.mp hj
  rw [jg_at hi, jg_at hj, Bool.and_comm]
theorem croI_s {p : List Nat} {js : List Jt} {i : Nat} : croI p js (i + 1) = croI p js i ++ (((List.range js.length).filter fun b => decide (i < b)).filter fun b => turnsB p (jg js i) (jg js b)).map fun b => (i, b) := by
  unfold croI
  rw [List.range_succ, List.flatMap_append]
  simp
theorem row_le {js : List Jt} {i : Nat} {f : Nat → Bool} : (((List.range js.length).filter fun b => decide (i < b)).filter f).length ≤ js.length := by
  refine Nat.le_trans (List.length_filter_le _ _) (Nat.le_trans (List.length_filter_le _ _) ?_)
  rw [List.length_range]
  exact Nat.le_refl _
theorem croI_len {p : List Nat} {js : List Jt} : ∀ i, (croI p js i).length ≤ i * js.length
  | 0 => by simp [croI]
  | i + 1 => by
    have := croI_len (p := p) (js := js) i
    have h2 := row_le (js := js) (i := i) (f := fun b => turnsB p (jg js i) (jg js b))
    rw [croI_s, List.length_append, List.length_map, Nat.succ_mul]
    omega
theorem cro_len {p : List Nat} {r c : Nat} (m : Mp r c) : (cro p (jts r c)).length ≤ 289 := by
  have l17 := jts_len m
  rw [← croI_all]
  have := croI_len (p := p) (js := jts r c) (jts r c).length
  have h2 : (jts r c).length * (jts r c).length ≤ 17 * 17 := Nat.mul_le_mul l17 l17
  omega
theorem St.ne {p : List Nat} {r c : Nat} (h : St p r c) {j : Jt} (hj : j ∈ jts r c) : j.1 ≠ j.2.1 := by
  have := (jts_ok h.m hj).1
  omega
theorem lcross_spec {k : Nat} {M : Mh} {p : List Nat} {r c : Nat} (h : St p r c) : callP cs prog (k + 2) 44 [mpD r c, ordD p] (T M) = .ok (croD p (jts r c)) (T M) := by
  have l17 := jts_len h.m
  have lp : p.length ≤ 12 := by have := h.m.le; have := h.len; omega
  have jok : ∀ i, i < (jts r c).length → JIn p (jg (jts r c) i) := fun i hi => h.jin (jg_mem hi)
  have jne : ∀ i, i < (jts r c).length → (jg (jts r c) i).1 ≠ (jg (jts r c) i).2.1 := fun i hi => h.ne (jg_mem hi)
  refine callP_pure (fd := fd__law_crossings) rfl rfl (by simp [ordN]) croN ?_
  unfold goF fd__law_crossings
  have e1 := ljoints_spec (k := k) (M := []) h.m
  unfold jtD at e1
  rw [show croD p (jts r c) = D.lst _ from congrArg D.lst (congrArg (List.map prD) croI_all.symm)]
  generalize jts r c = js at e1 l17 jok jne
  simp [e1, js_enum, LINE]
  refine go_bind (forL_sat (fun i env M' => ∃ a b d, env = [some (mpD r c), some (ordD p), some (.lst (js.map jD)), some (.lst ((croI p js i).map prD)), a, b, d] ∧ M' = T []) _ 0 _ _ ⟨_, _, _, rfl, rfl⟩ ?_ ?_)
  · rintro i x env M' hx ⟨a, b, d, rfl, rfl⟩
    rw [Nat.zero_add] at *
    rw [List.getElem?_map] at hx
    by_cases hi : i < js.length
    · rw [List.getElem?_range hi] at hx
      cases hx
      obtain ⟨g1, g2, g3⟩ := ahead_ok (m := js.length) (by omega) hi
      have il := croI_len (p := p) (js := js) i
      have il2 : i * js.length ≤ 17 * 17 := Nat.mul_le_mul (by omega) l17
      have rl := row_le (js := js) (i := i) (f := fun b => turnsB p (jg js i) (jg js b))
      have fl : ((List.range js.length).filter fun b => decide (i < b)).length ≤ js.length := by
        refine Nat.le_trans (List.length_filter_le _ _) ?_
        rw [List.length_range]
        exact Nat.le_refl _
      simp [g1, g2, g3]
      rw [compL_fmap (e := nD) (p := fun j => turnsB p (jg js i) (jg js j)) (g := fun j => prD (i, j)) _ _ (fun j hj => ?_) (by simp only [LINE, List.length_nil]; omega)]
      · have z : (croI p js i).length + (((List.range js.length).filter fun b => decide (i < b)).filter fun b => turnsB p (jg js i) (jg js b)).length ≤ 16777216 := by omega
        rw [croI_s, List.map_append, List.map_map, List.nil_append]
        generalize (((List.range js.length).filter fun b => decide (i < b)).filter fun b => turnsB p (jg js i) (jg js b)) = row at z
        simp [LINE, z]
      · have hj' := List.mem_range.mp (List.mem_filter.mp hj).1
        have e := lturns_spec (k := k) (M := []) h.ip.nodup lp (jok i hi) (jok j hj') (jne i hi) (jne j hj')
        have ca : (Option.map jD js[j]?) = some (jD (jg js j)) := by rw [jg_at hj']; rfl
        generalize jg js i = A at *
        generalize jg js j = B at *
        cases hc : turnsB p A B with
        | true =>
          rw [hc] at e
          simp [wipeE, atI_nat, ca, e, LINE]
        | false =>
          rw [hc] at e
          simp [wipeE, atI_nat, ca, e]
    · rw [List.getElem?_eq_none (by simp; omega)] at hx
      cases hx
  · rintro env M' ⟨a, b, d, rfl, rfl⟩
    simp
/-! marks, by the law -/
theorem lmarks_even {r c l : Nat} (m : Mp r c) : ((((l : Int).fdiv (c : Int)) + ((l : Int).fmod (c : Int))).fmod 2 == 0) = evenB c l := by
  have hc := m.c1
  rw [Int.fdiv_eq_ediv_of_nonneg _ (by omega), Int.fmod_eq_emod_of_nonneg _ (by omega), Int.fmod_eq_emod_of_nonneg _ (by omega)]
  unfold evenB
  have e1 : (l : Int) / (c : Int) = ((l / c : Nat) : Int) := by push_cast; rfl
  have e2 : (l : Int) % (c : Int) = ((l % c : Nat) : Int) := by push_cast; rfl
  rw [e1, e2, Bool.eq_iff_iff, beq_iff_eq, beq_iff_eq]
  omega
end Gk31

set_option Elab.async false
set_option linter.all false
set_option maxRecDepth 100000
set_option maxHeartbeats 4000000
namespace Gk31
open RF
open PySem (Str Operator CmpOp)
theorem idx_map {p : List Nat} {l : Nat} : (p.map fun (i : Nat) => (i : Int)).idxOf (l : Int) = p.idxOf l := by
  induction p with
  | nil => rfl
  | cons a p ih =>
    rw [List.map_cons, List.idxOf_cons, List.idxOf_cons, ih]
    have : ((a : Int) == (l : Int)) = (a == l) := by rw [Bool.eq_iff_iff, beq_iff_eq, beq_iff_eq]; omega
    rw [this]
theorem mt_idx {M : Mh} {p : List Nat} {l : Nat} (h : l ∈ p) (hl : p.length ≤ 100) : mtD .index (ordD p) [nD l] (T M) = .ok (nD (p.idxOf l)) (T M) := by
  unfold mtD
  simp only [seqOf, nD_int, ints_map]
  have h1 : (decide ((p.map fun (i : Nat) => (i : Int)).length ≤ LINE) && decide ((l : Int) ∈ p.map fun (i : Nat) => (i : Int))) = true := by
    rw [Bool.and_eq_true, decide_eq_true_eq, decide_eq_true_eq, List.length_map]
    exact ⟨by simp only [LINE]; omega, List.mem_map.mpr ⟨l, h, rfl⟩⟩
  rw [if_pos h1, idx_map]
@[simp] theorem mtOk_idx {M : Mh} {p : List Nat} : mtOk .index (ordD p) (T M) = true := rfl
theorem divc {c : Nat} (h : 1 ≤ c) (h2 : c ≤ 12) : divOk (c : Int) = true := divOk_p (by omega)
theorem lmarks_spec {k : Nat} {M : Mh} {p : List Nat} {r c : Nat} (h : St p r c) : callP cs prog (k + 2) 49 [mpD r c, ordD p] (T M) = .ok (.str (mksS p r c)) (T M) := by
  have l17 := jts_len h.m
  have lp : p.length ≤ 12 := by have := h.m.le; have := h.len; omega
  have c1 := h.m.c1
  have c12 := h.m.c12
  have ev : ∀ l : Nat, ((((l : Int).fdiv (c : Int)) + ((l : Int).fmod (c : Int))).fmod 2 == 0) = evenB c l := fun l => lmarks_even h.m
  have jok : ∀ j ∈ jts r c, JIn p j := fun j hj => h.jin hj
  refine callP_pure (fd := fd__law_map_marks) rfl rfl (by simp [ordN]) rfl ?_
  unfold goF fd__law_map_marks
  have e1 := ljoints_spec (k := k) (M := []) h.m
  unfold jtD at e1
  simp [e1]
  unfold mksS mksL
  generalize jts r c = js at e1 l17 jok
  refine go_bind (forL_sat (fun i env M' => ∃ a b d e, env = [some (mpD r c), some (ordD p), some (.str ⟨((js.take i).map (mkJ p c)).toArray⟩), a, b, d, e] ∧ M' = T []) _ 0 _ _ ⟨_, _, _, _, rfl, rfl⟩ ?_ ?_)
  · rintro i x env M' hx ⟨a, b, d, e, rfl, rfl⟩
    rw [Nat.zero_add] at *
    rw [List.getElem?_map] at hx
    cases hj : js[i]? with
    | none => rw [hj] at hx; cases hx
    | some j =>
      rw [hj] at hx
      cases hx
      have jm := jok j (List.mem_of_getElem? hj)
      have hi := (List.getElem?_eq_some_iff.mp hj).1
      have ma := mt_idx (M := []) jm.a (by omega)
      have mb := mt_idx (M := []) jm.b (by omega)
      have nc : ¬ c = 0 := by omega
      have evj := ev j.1
      have hl : (⟨((js.take i).map (mkJ p c)).toArray⟩ : Str).length ≤ 100 := by rw [len_mk, List.length_map, List.length_take]; omega
      rw [List.take_add_one, hj, List.map_append]
      show R.sat _ _
      rw [show (some j).toList.map (mkJ p c) = [mkJ p c j] from rfl, ← mk_snoc]
      generalize (⟨((js.take i).map (mkJ p c)).toArray⟩ : Str) = S at hl
      have hS : S.length + 1 ≤ 16777216 := by omega
      have l1 : ∀ x, (⟨#[x]⟩ : Str).length = 1 := fun _ => rfl
      obtain ⟨u, v, w⟩ := j
      simp only [] at ma mb evj
      unfold mkJ
      simp only []
      generalize p.idxOf u = A at ma
      generalize p.idxOf v = B at mb
      cases hq : (decide (A < B) == evenB c u) with
      | true =>
        simp [nc, divc c1 c12, evj, ma, mb, sv, sm, l1, LINE, hS, hq]
      | false =>
        simp [nc, divc c1 c12, evj, ma, mb, sv, sm, l1, LINE, hS, hq]
  · rintro env M' ⟨a, b, d, e, rfl, rfl⟩
    simp
end Gk31

set_option Elab.async false
set_option linter.all false
set_option maxRecDepth 100000
set_option maxHeartbeats 4000000
namespace Gk31
open RF
open PySem (Str Operator CmpOp)
theorem inL {M : Mh} {x : Nat} {l : List Nat} : inD (T M) (nD x) (.lst (l.map nD)) = some (l.contains x) := by
  have d1 : D.deps 59 (l.map nD) = true := deps_iff.mpr fun d hd => by
    obtain ⟨x, _, rfl⟩ := List.mem_map.mp hd
    simp [D.dep]
  unfold inD
  simp only [seqOf_lst, d1, Bool.and_true]
  rw [if_pos (by simp [D.dep]), List.any_map]
  congr 1
  rw [← List.any_beq]
  congr 1
  funext y
  simp only [Function.comp, D.eqv]
  rw [Bool.eq_iff_iff]
  simp only [beq_iff_eq, decide_eq_true_eq]
  omega
abbrev fourD (c l : Nat) : D := .lst [.int (l : Int), .int ((l : Int) + 1), .int ((l : Int) + (c : Int)), .int ((l : Int) + (c : Int) + 1)]
theorem in4L {M : Mh} {c l x : Nat} : inD (T M) (nD x) (fourD c l) = some (fourB c l x) := by
  have e : fourD c l = .lst ([l, l + 1, l + c, l + c + 1].map nD) := by simp [fourD]
  rw [e, inL]
  congr 1
  unfold fourB
  rw [Bool.eq_iff_iff]
  simp [or_assoc]
def mg (ms : List Nat) (i : Nat) : Nat := ms.getD i 0
theorem zip_js {ms : List Nat} {js : List Jt} (h : ms.length = js.length) : List.zipWith (fun a b => D.tup [a, b]) (ms.map sg) (js.map jD) = (List.range js.length).map fun i => D.tup [sg (mg ms i), jD (jg js i)] := by
  apply List.ext_getElem?
  intro i
  rw [List.getElem?_zipWith, List.getElem?_map, List.getElem?_map, List.getElem?_map]
  by_cases hi : i < js.length
  · rw [jg_at hi, List.getElem?_range hi, List.getElem?_eq_getElem (by omega)]
    show some (D.tup [sg ms[i], jD (jg js i)]) = some (D.tup [sg (mg ms i), jD (jg js i)])
    unfold mg
    rw [List.getD_eq_getElem?_getD, List.getElem?_eq_getElem (by omega)]
    rfl
  · rw [List.getElem?_eq_none (l := js) (by omega), List.getElem?_eq_none (l := ms) (by omega), List.getElem?_eq_none (l := List.range js.length) (by simp; omega)]
    rfl
theorem cjs_c {r c l : Nat} (h : cornB r c l = true) : cjs r c l = (List.range (jts r c).length).filter fun i => fourB c l (jg (jts r c) i).1 && fourB c l (jg (jts r c) i).2.1 := by
  unfold cjs
  rw [h, if_pos rfl]
  refine List.filter_congr fun i hi => ?_
  rw [jg_at (List.mem_range.mp hi)]
theorem lbad_spec {k : Nat} {M : Mh} {ms : List Nat} {r c : Nat} (m : Mp r c) (h : Told ms r c) : callP cs prog (k + 2) 52 [mpD r c, tS ms] (T M) = .ok (.lst ((bads r c ms).map nD)) (T M) := by
  have l17 := jts_len m
  have n12 := m.le
  have c1 := m.c1
  have c12 := m.c12
  have hl := h.len
  refine callP_pure (fd := fd__law_bad) rfl rfl (by simp) nrN ?_
  unfold goF fd__law_bad
  obtain ⟨q1, q2, q3⟩ := mul_ok m
  have em : (r : Int) * (c : Int) = ((r * c : Nat) : Int) := by push_cast; rfl
  have e1 := ljoints_spec (k := k) (M := [.lst []]) m
  unfold jtD at e1
  unfold bads
  have cjc : ∀ l, cornB r c l = true → cjs r c l = (List.range (jts r c).length).filter fun i => fourB c l (jg (jts r c) i).1 && fourB c l (jg (jts r c) i).2.1 := fun l h => cjs_c h
  generalize r * c = N at *
  generalize jts r c = js at e1 l17 hl cjc
  have zj := zip_js hl
  simp [e1, LINE, q1, em, q2, q3]
  refine go_bind (forL_app (C := fun acc => [.lst acc]) (P := fun env => ∃ a b d e f g, env = [some (mpD r c), some (tS ms), some (.ref 0), some (.lst (js.map jD)), a, b, d, e, f, g]) (g := fun l => if badB r c l ms then [nD l] else []) 1 100 (List.range N) _ [] (fun _ _ => ite_len) (by simp; omega) ⟨_, _, _, _, _, _, rfl⟩ ?_ ?_)
  · rintro l hl2 env acc hac ⟨a, b, d, e, f, g, rfl⟩
    have hl3 := List.mem_range.mp hl2
    have ha : acc.length < 16777216 := by omega
    simp [LINE, fzOf, signs_mk, zj]
    rw [compL_fmap (e := fun i => D.tup [sg (mg ms i), jD (jg js i)]) (p := fun i => fourB c l (jg js i).1 && fourB c l (jg js i).2.1) (g := fun i => sg (mg ms i)) _ _ (fun i hi => ?_) (by simp [LINE]; omega)]
    · have f1 : (l : Int).fmod (c : Int) = (l : Int) % (c : Int) := by rw [Int.fmod_eq_emod_of_nonneg _ (by omega)]
      have g1 : ((l % c : Nat) : Int) = (l : Int) % (c : Int) := by push_cast; rfl
      have g2 : ((l / c : Nat) : Int) = (l : Int) / (c : Int) := by push_cast; rfl
      have f2 : (l : Int).fdiv (c : Int) = (l : Int) / (c : Int) := by rw [Int.fdiv_eq_ediv_of_nonneg _ (by omega)]
      have nc : ¬ c = 0 := by omega
      have e3 : badB r c l ms = (cornB r c l && !((cjs r c l).map fun i => mg ms i).contains 63 && !((((cjs r c l).map fun i => mg ms i).filter (· == 118)).length == 1 || (((cjs r c l).map fun i => mg ms i).filter (· == 118)).length == 3)) := rfl
      rw [e3, List.nil_append]
      have d1 := cjc l
      have e1 : ((List.range js.length).filter fun i => fourB c l (jg js i).1 && fourB c l (jg js i).2.1).map (fun i => sg (mg ms i)) = (((List.range js.length).filter fun i => fourB c l (jg js i).1 && fourB c l (jg js i).2.1).map fun i => mg ms i).map sg := by rw [List.map_map]; rfl
      rw [e1]
      by_cases x1 : l % c + 1 < c
      · have x1' : (l : Int) % (c : Int) < (c : Int) - 1 := by rw [← g1]; omega
        by_cases x2 : l / c + 1 < r
        · have x2' : (l : Int) / (c : Int) < (r : Int) - 1 := by rw [← g2]; omega
          have hc : cornB r c l = true := by unfold cornB; simp [x1, x2]
          rw [d1 hc, hc]
          generalize (((List.range js.length).filter fun i => fourB c l (jg js i).1 && fourB c l (jg js i).2.1).map fun i => mg ms i) = s
          have i6 := in63 (M := [.lst acc]) (s := s)
          have i1 := in13 (M := [.lst acc]) (n := (s.filter (· == 118)).length)
          have ss := sg_strs (s := s)
          have c1 := cnt118 (s := s)
          generalize s.map sg = sl at *
          generalize (s.map fun c => (⟨#[c]⟩ : Str)) = st at *
          generalize (s.filter (· == 118)).length = n at *
          cases h6 : s.contains 63 with
          | true =>
            rw [h6] at i6
            simp [nc, divc ‹1 ≤ c› c12, f1, f2, x1', x2', i6]
          | false =>
            rw [h6] at i6
            cases h1 : (n == 1 || n == 3) with
            | true =>
              rw [h1] at i1
              simp [nc, divc ‹1 ≤ c› c12, f1, f2, x1', x2', i6, ss, c1, i1, LINE]
            | false =>
              rw [h1] at i1
              simp [nc, divc ‹1 ≤ c› c12, f1, f2, x1', x2', i6, ss, c1, i1, ha, LINE]
        · have x2' : ¬ (l : Int) / (c : Int) < (r : Int) - 1 := by rw [← g2]; omega
          have hc : cornB r c l = false := by unfold cornB; simp [x1, x2]
          rw [hc]
          simp [nc, divc c1 c12, f1, f2, x1', x2']
      · have x1' : ¬ (l : Int) % (c : Int) < (c : Int) - 1 := by rw [← g1]; omega
        have hc : cornB r c l = false := by unfold cornB; simp [x1]
        rw [hc]
        simp [nc, divc c1 c12, f1, f2, x1']
    · have i1 := in4L (M := [.lst acc]) (c := c) (l := l) (x := (jg js i).1)
      have i2 := in4L (M := [.lst acc]) (c := c) (l := l) (x := (jg js i).2.1)
      generalize jg js i = A at *
      generalize mg ms i = x
      obtain ⟨u, v, w⟩ := A
      simp only [] at i1 i2
      unfold fourD at i1 i2
      cases h1 : fourB c l u with
      | false =>
        rw [h1] at i1
        simp [wipeE, i1, h1]
      | true =>
        rw [h1] at i1
        cases h2 : fourB c l v with
        | false =>
          rw [h2] at i2
          simp [wipeE, i1, i2, h1, h2]
        | true =>
          rw [h2] at i2
          simp [wipeE, i1, i2, h1, h2]
  · rintro env ⟨a, b, d, e, f, g, rfl⟩
    rw [flatMap_ite]
    simp
end Gk31

set_option Elab.async false
set_option linter.all false
set_option maxRecDepth 100000
set_option maxHeartbeats 4000000
namespace Gk31
open RF
open PySem (Str Operator CmpOp)
def upTo (n : Nat) : List Int := (List.range n).map fun (i : Nat) => (i : Int)
theorem upTo_up (n : Nat) : (upTo n).Pairwise (· ≤ ·) := by
  unfold upTo
  rw [List.pairwise_map]
  exact (List.pairwise_lt_range).imp fun {a b} h => by omega
theorem sorted_is {xs : List Int} {n : Nat} : (sortInt xs == upTo n) = (decide (xs.length = n) && (xs.all (fun x => decide (0 ≤ x) && decide (x ≤ (n : Int) - 1)) && decide xs.Nodup)) := by
  rw [Bool.eq_iff_iff, beq_iff_eq, Bool.and_eq_true, Bool.and_eq_true, decide_eq_true_eq, decide_eq_true_eq, List.all_eq_true]
  have nd : (upTo n).Nodup := by
    unfold upTo
    rw [List.nodup_iff_pairwise_ne, List.pairwise_map]
    exact (List.pairwise_lt_range).imp fun {a b} h => by omega
  constructor
  · intro e
    have hp : xs.Perm (upTo n) := by rw [← e]; exact (sortInt_perm xs).symm
    refine ⟨by rw [hp.length_eq]; simp [upTo], fun x hx => ?_, hp.nodup_iff.mpr nd⟩
    obtain ⟨i, hi, rfl⟩ := List.mem_map.mp (hp.mem_iff.mp hx)
    have := List.mem_range.mp hi
    simp only [Bool.and_eq_true, decide_eq_true_eq]
    omega
  · rintro ⟨h0, h1, h2⟩
    have e : (xs.map Int.toNat).map (fun (i : Nat) => (i : Int)) = xs := by
      rw [List.map_map]
      refine (List.map_congr_left fun x hx => ?_).trans (List.map_id xs)
      have := h1 x hx
      simp only [Bool.and_eq_true, decide_eq_true_eq] at this
      simp only [Function.comp, id]
      omega
    have ip : IsP (xs.map Int.toNat) := by
      refine isP_of ?_ fun l hl => ?_
      · have q := h2
        rw [← e, List.nodup_iff_pairwise_ne, List.pairwise_map] at q
        exact List.nodup_iff_pairwise_ne.mpr (q.imp fun {a b} n e => n (by rw [e]))
      · obtain ⟨x, hx, rfl⟩ := List.mem_map.mp hl
        have := h1 x hx
        simp only [Bool.and_eq_true, decide_eq_true_eq] at this
        rw [List.length_map]
        omega
    refine (sortInt_is (l := xs) ?_ (upTo_up _)).symm
    have hp := List.Perm.map (fun (i : Nat) => (i : Int)) ip
    rw [e, List.length_map, h0] at hp
    exact hp.symm
theorem pl_dep : ∀ {n : Nat} {d : D}, pl n d = true → D.dep n d = true
  | _, .non, _ => dep_non
  | _, .bl _, _ => dep_bl
  | _, .int _, _ => dep_int
  | _, .str _, _ => dep_str
  | 0, .tup ds, h => by cases h
  | 0, .lst ds, h => by cases h
  | n + 1, .tup ds, h => by
    rw [pl, Bool.and_eq_true, List.all_eq_true] at h
    rw [D.dep, deps_iff]
    exact fun d hd => pl_dep (h.2 d hd)
  | n + 1, .lst ds, h => by
    rw [pl, Bool.and_eq_true, List.all_eq_true] at h
    rw [D.dep, deps_iff]
    exact fun d hd => pl_dep (h.2 d hd)
  | n, .ref _, h => by cases n <;> cases h
  | n, .ty _, h => by cases n <;> cases h
  | n, .fn _, h => by cases n <;> cases h
  | n, .dct _ _, h => by cases n <;> cases h
theorem eqvs_ints : ∀ {l m : List Int}, D.eqvs (l.map D.int) (m.map D.int) = (l == m)
  | [], [] => rfl
  | [], _ :: _ => rfl
  | _ :: _, [] => rfl
  | a :: l, b :: m => by
    rw [List.map_cons, List.map_cons, D.eqvs, eqvs_ints, D.eqv]
    rfl
theorem lisstack_spec {k n : Nat} {M : Mh} {d : D} {r c : Nat} (m : Mp r c) (hn : n ≤ 59) (h : pl (n + 1) d = true) : callP cs prog (k + 2) 51 [mpD r c, d] (T M) = .ok (.bl (stkB (r * c) d)) (T M) := by
  refine callP_pure (fd := fd__law_is_stack) rfl rfl (by simp [pl_nr h]) rfl ?_
  unfold goF fd__law_is_stack
  obtain ⟨q1, q2, q3⟩ := mul_ok m
  have em : (r : Int) * (c : Int) = ((r * c : Nat) : Int) := by push_cast; rfl
  have n12 := m.le
  generalize r * c = N at *
  cases d with
  | tup ds =>
    have h1 := h
    rw [pl, Bool.and_eq_true, decide_eq_true_eq, List.all_eq_true] at h1
    simp
    rw [compL_filter (p := fun x => sortI x != 2) (g := id) _ _ (fun x hx => by
          have hs := sort_spec (k := k) (M := []) (h1.2 x hx)
          by_cases c : sortI x = 2
          · simp [wipeE, hs, c]
          · have c' : (sortI x == 2) = false := beq_eq_false_iff_ne.mpr c
            have c'' : (sortI x != 2) = true := bne_iff_ne.mpr c
            simp [wipeE, hs, c', c'']) (by simp [LINE]; omega)]
    have en : eqD (T []) (.lst ((ds.filter fun x => sortI x != 2).map id)) (.lst []) = some ((ds.filter fun x => sortI x != 2).map id).isEmpty := by
          refine eqD_lnil fun x hx => ?_
          rw [List.map_id] at hx
          exact D.dep_mono hn (pl_dep (h1.2 x (List.mem_filter.mp hx).1))
    rcases intsD_all (ds := ds) (fun _ _ => trivial) with ⟨xs, e1, rfl⟩ | ⟨e1, d, hd, hw⟩
    · have ef : (((xs.map D.int).filter fun x => sortI x != 2).map id).isEmpty = true := by
            rw [List.map_id, filter_empty, List.all_eq_true]
            intro x hx
            obtain ⟨i, _, rfl⟩ := List.mem_map.mp hx
            rfl
      rw [ef, List.map_id] at en
      have z1 : N ≤ 16777216 := by omega
      have z2 : (List.range N).map nD = (upTo N).map D.int := by unfold upTo; rw [List.map_map]; rfl
      have z3 : eqD (T []) (.lst ((sortInt xs).map D.int)) (.lst ((upTo N).map D.int)) = some (sortInt xs == upTo N) := by
            have dp : ∀ l : List Int, (D.lst (l.map D.int)).dep 60 = true := fun l => by
              rw [D.dep, deps_iff]
              intro d hd
              obtain ⟨i, _, rfl⟩ := List.mem_map.mp hd
              simp
            unfold eqD
            rw [show rd (T []) (.lst ((sortInt xs).map D.int)) = .lst ((sortInt xs).map D.int) from rfl, show rd (T []) (.lst ((upTo N).map D.int)) = .lst ((upTo N).map D.int) from rfl, dp, dp, D.eqv, eqvs_ints]
            rfl
      have z4 : (upTo N).length ≤ 16777216 := by simp [upTo]; omega
      simp [en, q1, em, q2, q3, LINE, z1, z2, z3, z4]
      rw [sorted_is]
      simp only [stkB, e1, List.length_map]
    · have ef : ((ds.filter fun x => sortI x != 2).map id).isEmpty = false := by
            rw [List.map_id, filter_empty, Bool.eq_false_iff]
            intro q
            have := List.all_eq_true.mp q d hd
            have hs : sortI d = 2 := by simpa using this
            cases d with
            | int i => have := hw i i; simp [isW] at this
            | _ => cases hs
      rw [ef, List.map_id] at en
      simp only [stkB, e1]
      simp [en]
  | ref _ => cases h
  | ty _ => cases h
  | fn _ => cases h
  | dct _ _ => cases h
  | _ => simp [stkB]
/-! rolled up -/
def rup (r c : Nat) : List Nat := (List.range r).flatMap fun i => if i % 2 == 0 then (List.range c).map fun j => i * c + j else ((List.range c).map fun j => i * c + j).reverse
def rupT (Φ : Nat → List D → Mh → R D) : Bool := allM fun r c => okIs (ordD (rup r c)) (goF cs Φ fd__law_rolled_up [mpD r c] []) && decide ((rup r c).length = r * c) && decide (rup r c).Nodup && (rup r c).all fun l => decide (l < r * c)
theorem rup_dec (Φ : Nat → List D → Mh → R D) : rupT Φ = true := by kernel_rfl
theorem rup_st {r c : Nat} (m : Mp r c) : St (rup r c) r c := by
  have := allM_at (rup_dec fun _ _ _ => .bad) m
  simp only [Bool.and_eq_true, decide_eq_true_eq, List.all_eq_true] at this
  obtain ⟨⟨⟨_, h1⟩, h2⟩, h3⟩ := this
  exact ⟨m, isP_of h2 fun l hl => by have := h3 l hl; omega, h1⟩
theorem rup_spec {k : Nat} {M : Mh} {r c : Nat} (m : Mp r c) : callP cs prog (k + 1) 46 [mpD r c] (T M) = .ok (ordD (rup r c)) (T M) := by
  have := allM_at (rup_dec (callP cs prog k)) m
  simp only [Bool.and_eq_true] at this
  exact callP_dec (fd := fd__law_rolled_up) rfl rfl (by simp) ordN this.1.1.1
theorem set_app {M t : Mh} {n : Nat} {o : MO} (h : n < M.length) : (M ++ t).set n o = M.set n o ++ t := List.set_append_left n o h
theorem set_end {M : Mh} {o o' : MO} {n : Nat} (h : n = M.length) : (M ++ [o]).set n o' = M ++ [o'] := by
  subst h
  simp
theorem get_end {M : Mh} {o : MO} {n : Nat} (h : n = M.length) : (M ++ [o])[n]? = some o := by
  subst h
  simp
theorem nat_of {r : Int} {m : Nat} (h0 : 0 ≤ r) (h1 : r < (m : Int)) : ∃ i : Nat, r = (i : Int) ∧ i < m := ⟨r.toNat, by omega, by omega⟩
theorem erase_perm {α : Type} : ∀ (l : List α) (i : Nat) (h : i < l.length), (l[i] :: l.eraseIdx i).Perm l
  | [], i, h => absurd h (by simp)
  | a :: l, 0, h => .refl _
  | a :: l, i + 1, h => by
    have ih := erase_perm l i (by simpa using h)
    have hi : i < l.length := by simpa using h
    show (l[i] :: a :: l.eraseIdx i).Perm (a :: l)
    exact (List.Perm.swap _ _ _).trans (ih.cons a)
theorem erase_map {α β : Type} {f : α → β} : ∀ (l : List α) (i : Nat), (l.map f).eraseIdx i = (l.eraseIdx i).map f
  | [], i => rfl
  | a :: l, 0 => rfl
  | a :: l, i + 1 => by
    show f a :: (l.map f).eraseIdx i = f a :: (l.eraseIdx i).map f
    rw [erase_map l i]
theorem finSA {M t : Mh} {d : D} {i : Nat} {o : MO} (h : d.nr = true) (ho : ∀ n, o.low n = true) : fin (T M) (.ok d (T (M.set i o ++ t))) = .ok d (T (M.set i o)) := fin_set h ho
end Gk31

set_option Elab.async false
set_option linter.all false
set_option maxRecDepth 100000
set_option maxHeartbeats 4000000
namespace Gk31
open RF
open PySem (Str Operator CmpOp)
theorem whileL_sat {c : Env → Mh → R Bool} {f : Env → Mh → R F} {Q : F → Mh → Prop} (I : Nat → Env → Mh → Prop)
    (h0 : ∀ env M, I 0 env M → (c env M).sat fun b M' => b = false ∧ Q (.nx env) M')
    (hs : ∀ m env M, I (m + 1) env M → (c env M).sat fun b M1 => b = true ∧ (f env M1).sat fun fl M' => ∃ env', fl = .nx env' ∧ I m env' M') :
    ∀ (m n : Nat) (env : Env) (M : Mh), m < n → I m env M → (whileL c f n env M).sat Q
  | _, 0, _, _, h, _ => absurd h (by omega)
  | 0, n + 1, env, M, _, hI => by
    obtain ⟨b, M', e, rfl, q⟩ := (h0 env M hI).ex
    unfold whileL
    rw [e]
    exact q
  | m + 1, n + 1, env, M, h, hI => by
    obtain ⟨b, M', e, rfl, q⟩ := (hs m env M hI).ex
    unfold whileL
    obtain ⟨fl, M2, e2, env', rfl, q2⟩ := q.ex
    rw [e, R.bindS_ok, if_pos rfl, e2, R.bind_ok]
    exact whileL_sat I h0 hs m n env' M2 (by omega) q2
theorem exS_whl {Γ : List D} {Φ : Nat → List D → Mh → R D} {env : Env} {M : Mh} {c : E} {body : Ss} : exS Γ Φ (.while c body) env (T M) = whileL (fun env M => (evE Γ Φ c env M).bind fun x M1 => ofO M1 (truD M1 x)) (fun env M => exSs Γ Φ body env M) TURNS env (T M) := by first | rfl | (rw [exS]; rfl) | rw [exS]
section
variable {M : Mh} {n : Nat} {a b : Int} {x y z : MO}
theorem two_0 : (M.set n (cupM a b) ++ [x, y])[M.length]? = some x := by
  have := @get_at (M.set n (cupM a b)) x [y]
  rwa [List.length_set] at this
theorem two_1 : (M.set n (cupM a b) ++ [x, y])[M.length + 1]? = some y := by
  have := @get_at1 (M.set n (cupM a b)) x y []
  rwa [List.length_set] at this
theorem two_s0 : (M.set n (cupM a b) ++ [x, y]).set M.length z = M.set n (cupM a b) ++ [z, y] := by
  have := @set_at (M.set n (cupM a b)) x z [y]
  rwa [List.length_set] at this
theorem two_s1 : (M.set n (cupM a b) ++ [x, y]).set (M.length + 1) z = M.set n (cupM a b) ++ [x, z] := by
  have := @set_at1 (M.set n (cupM a b)) x y z []
  rwa [List.length_set] at this
end
theorem eqR {M : Mh} {n : Nat} {l : List Nat} (h : M[n]? = some (.lst (l.map nD))) : eqD (T M) (.ref n) (.lst []) = some l.isEmpty := by
  have e : rd (T M) (.ref n) = .lst (l.map nD) := by
    have h' : (T M)[n]? = some (.lst (l.map nD)) := h
    simp only [rd, h']
  have d1 : D.deps 59 (l.map nD) = true := deps_iff.mpr fun d hd => by
    obtain ⟨x, _, rfl⟩ := List.mem_map.mp hd
    simp [D.dep]
  unfold eqD
  rw [e]
  simp [rd, D.dep, D.deps, D.eqv, eqvs_nil, d1]
theorem frz_of {B : Mh} {n : Nat} {ds : List D} (h : B[n]? = some (.lst ds)) : frzD (.ref n) (T B) = .ok (.lst ds) (T (B.set n .dead)) := by
  have h' : (T B)[n]? = some (.lst ds) := h
  simp only [frzD, h']
  rfl
theorem line_spec {k n : Nat} {M : Mh} {m : Nat} (h : Cup M n) (h2 : m ≤ 12) :
    (callP cs prog (k + 2) 48 [.ref n, .lst ((List.range m).map nD)] (T M)).sat fun d M' => ∃ p a b, d = .lst (p.map nD) ∧ IsP p ∧ p.length = m ∧ M' = T (M.set n (cupM a b)) := by
  rw [callP_mut (fd := fd__law_line) rfl rfl rfl]
  unfold goF fd__law_line
  obtain ⟨a0, b0, h0⟩ := h
  have hn : n < M.length := (List.getElem?_eq_some_iff.mp h0).1
  have hset : M = M.set n (cupM a0 b0) := (List.set_getElem_self hn ▸ by
    have := (List.getElem?_eq_some_iff.mp h0).2
    rw [← this]
    simp)
  have z1 : m ≤ 16777216 := by omega
  simp [LINE, z1, exS_whl]
  refine run_bind (whileL_sat (fun j env M' => ∃ a b, ∃ rest found : List Nat, env = [some (.ref n), some (.lst ((List.range m).map nD)), some (.ref M.length), some (.ref (M.length + 1))] ∧ rest.length = j ∧ (found ++ rest).Perm (List.range m) ∧ M' = T (M.set n (cupM a b) ++ [.lst (rest.map nD), .lst (found.map nD)])) ?_ ?_ m TURNS _ _ (by unfold TURNS; omega) ⟨a0, b0, List.range m, [], rfl, by simp, by simp, by rw [← hset]; rfl⟩)
  · rintro env M' ⟨a, b, rest, found, rfl, hl, hp, hM⟩
    rw [hM]
    have hr : rest = [] := List.eq_nil_of_length_eq_zero hl
    subst hr
    rw [List.append_nil] at hp
    have hlen : found.length = m := by have := hp.length_eq; simpa using this
    have en := eqR (M := M.set n (cupM a b) ++ [MO.lst (([] : List Nat).map nD), .lst (found.map nD)]) (n := M.length) (l := []) two_0
    have g3 : (M.set n (cupM a b) ++ [MO.lst [], .lst (found.map nD)])[M.length + 1]? = some (.lst (found.map nD)) := two_1
    have fz := frz_of g3
    rw [two_s1] at fz
    simp at en
    simp [en, fz]
    rw [finSA (by simp [nrN]) low_cup]
    exact ⟨found, rfl, by unfold IsP; rw [hlen]; exact hp, hlen, a, b, rfl⟩
  · rintro j env M' ⟨a, b, rest, found, rfl, hl, hp, hM⟩
    rw [hM]
    have hrl : 0 < rest.length := by omega
    have hc : Cup (M.set n (cupM a b) ++ [MO.lst (rest.map nD), .lst (found.map nD)]) n := ⟨a, b, by rw [List.getElem?_append_left (by simpa using hn), List.getElem?_set_self hn]⟩
    have hlf : found.length + rest.length = m := by have := hp.length_eq; simpa using this
    obtain ⟨d, M2, e, r, a', b', rfl, r0, r1, rfl⟩ := (roll_spec (k := k) (m := (rest.length : Int)) hc (by omega) (by omega)).ex
    rw [set_app (by simpa using hn), List.set_set] at e
    obtain ⟨i, rfl, hi⟩ := nat_of r0 r1
    have en := eqR (M := M.set n (cupM a b) ++ [MO.lst (rest.map nD), .lst (found.map nD)]) (n := M.length) (l := rest) two_0
    have ne : rest.isEmpty = false := by cases rest with | nil => simp at hrl | cons x y => rfl
    rw [ne] at en
    have g0 : ∀ a b, (M.set n (cupM a b) ++ [MO.lst (rest.map nD), .lst (found.map nD)])[M.length]? = some (.lst (rest.map nD)) := fun a b => two_0
    have g1 : ∀ a b x, (M.set n (cupM a b) ++ [x, MO.lst (found.map nD)])[M.length + 1]? = some (.lst (found.map nD)) := fun a b x => two_1
    have hsq : seqOf (T (M.set n (cupM a b) ++ [MO.lst (rest.map nD), .lst (found.map nD)])) (.ref M.length) = some (false, rest.map nD) := seqOf_ref two_0
    have r2 : rngOk (i : Int) = true := rngOk_i (by omega) (by omega)
    have gi : rest[i]? = some rest[i] := List.getElem?_eq_getElem hi
    have s0 : ∀ z, (M.set n (cupM a' b') ++ [MO.lst (rest.map nD), .lst (found.map nD)]).set M.length z = M.set n (cupM a' b') ++ [z, .lst (found.map nD)] := fun z => two_s0
    have s1 : ∀ x z, (M.set n (cupM a' b') ++ [x, MO.lst (found.map nD)]).set (M.length + 1) z = M.set n (cupM a' b') ++ [x, z] := fun x z => two_s1
    have z2 : found.length < 16777216 := by omega
    simp [en, hsq, e, g0, g1, r2, ixN_nat hi, gi, LINE, z2, s0, s1]
    refine ⟨a', b', rest.eraseIdx i, ?_, found ++ [rest[i]], ?_, ?_⟩
    · rw [List.length_eraseIdx_of_lt hi]
      omega
    · refine List.Perm.trans ?_ hp
      rw [List.append_assoc]
      refine List.Perm.append_left found ?_
      exact (erase_perm rest i hi)
    · rw [erase_map, List.map_append]
      rfl
end Gk31

set_option Elab.async false
set_option linter.all false
set_option maxRecDepth 100000
set_option maxHeartbeats 4000000
namespace Gk31
open RF
open PySem (Str Operator CmpOp)
def goodM (d : D) : Prop := ∃ r c, d = mpD r c ∧ Mp r c
theorem goodM_nr {d : D} (h : goodM d) : d.nr = true := by
  obtain ⟨r, c, rfl, _⟩ := h
  simp
theorem sub_dec : ((List.range 13).all fun m => rngOk ((m : Int) + 1) && D.beqs (rngL 1 ((m : Int) + 1)) ((List.range m).map fun i => nD (i + 1)) && (List.range m).all fun i =>
    divOk ((i + 1 : Nat) : Int) && decide ((m : Int).fdiv ((i + 1 : Nat) : Int) = ((m / (i + 1) : Nat) : Int))) = true := by decide +kernel
theorem sub_ok {m : Nat} (h : m < 13) : rngOk ((m : Int) + 1) = true ∧ rngL 1 ((m : Int) + 1) = (List.range m).map (fun i => nD (i + 1)) ∧ ∀ i, i < m → divOk ((i + 1 : Nat) : Int) = true ∧ (m : Int).fdiv ((i + 1 : Nat) : Int) = ((m / (i + 1) : Nat) : Int) := by
  have := List.all_eq_true.mp sub_dec m (List.mem_range.mpr h)
  rw [Bool.and_eq_true, Bool.and_eq_true, List.all_eq_true] at this
  refine ⟨this.1.1, D.beqs_eq this.1.2, fun i hi => ?_⟩
  have := this.2 i (List.mem_range.mpr hi)
  rw [Bool.and_eq_true, decide_eq_true_eq] at this
  exact this
theorem lmap_spec {k n : Nat} {M : Mh} {m : Nat} (h : Cup M n) (h1 : 1 ≤ m) (h12 : m ≤ 12) :
    (callP cs prog (k + 3) 41 [.ref n, .int (m : Int)] (T M)).sat fun d M' => ∃ r c a b, d = mpD r c ∧ Mp r c ∧ M' = T (M.set n (cupM a b)) := by
  rw [callP_mut (fd := fd__law_map) rfl rfl rfl]
  unfold goF fd__law_map
  obtain ⟨a0, b0, h0⟩ := h
  have hn : n < M.length := (List.getElem?_eq_some_iff.mp h0).1
  have hset : M = M.set n (cupM a0 b0) := (List.set_getElem_self hn ▸ by
    have := (List.getElem?_eq_some_iff.mp h0).2
    rw [← this]
    simp)
  obtain ⟨g1, g2, g3⟩ := sub_ok (m := m) (by omega)
  simp [g1, g2, LINE]
  refine run_bind (forL_sat (fun j env M' => ∃ v3 v4 a b ds, env = [some (.ref n), some (.int (m : Int)), some (.lst ds), v3, v4] ∧ ds.length ≤ j * 12 ∧ (∀ d ∈ ds, goodM d) ∧ M' = T (M.set n (cupM a b))) _ 0 _ _ ⟨none, none, a0, b0, [], rfl, by simp, by simp, by rw [← hset]⟩ ?_ ?_)
  · rintro j x env M' hx ⟨v3, v4, a, b, ds, rfl, hl, hg, hM⟩
    rw [hM]
    rw [Nat.zero_add] at *
    have hj : j < m := by
      have := (List.getElem?_eq_some_iff.mp hx).1
      simpa using this
    rw [List.getElem?_map, List.getElem?_range hj] at hx
    cases hx
    obtain ⟨d1, d2⟩ := g3 j hj
    have q12 : m / (j + 1) < 13 := Nat.lt_of_le_of_lt (Nat.div_le_self _ _) (by omega)
    obtain ⟨e1, e2, _⟩ := sub_ok q12
    push_cast at d1 d2 e1 e2
    simp [d1, d2, e1, e2]
    refine sat_only.mpr (compL_sat (fun i acc M' => acc.length ≤ i ∧ (∀ d ∈ acc, goodM d) ∧ ∃ a b, M' = T (M.set n (cupM a b))) _ 0 _ _ ⟨by simp, by simp, a, b, rfl⟩ ?_ ?_)
    · rintro i y M' acc hy ⟨hl2, hg2, a', b', hM'⟩
      rw [hM']
      rw [Nat.zero_add] at *
      have hi : i < m / (j + 1) := by
        have := (List.getElem?_eq_some_iff.mp hy).1
        simpa using this
      rw [List.getElem?_map, List.getElem?_range hi] at hy
      cases hy
      have hmul : (i + 1) * (j + 1) ≤ m := (Nat.le_div_iff_mul_le (by omega)).mp hi
      have gd : goodM (.tup [nD (j + 1), nD (i + 1)]) := ⟨j + 1, i + 1, rfl, ⟨by omega, by omega, by rw [Nat.mul_comm]; omega⟩⟩
      have gs : ∀ d : D, d ∈ acc ∨ d = D.tup [nD (j + 1), nD (i + 1)] → goodM d := fun d hd => by
        rcases hd with hd | hd
        · exact hg2 d hd
        · rw [hd]; exact gd
      have z : acc.length < 16777216 := by omega
      have hc : Cup (M.set n (cupM a' b')) n := ⟨a', b', List.getElem?_set_self hn⟩
      obtain ⟨d, M2, e, r, a2, b2, rfl, r0, r1, rfl⟩ := (roll_spec (k := k + 1) (m := 3) hc (by omega) (by omega)).ex
      rw [List.set_set] at e
      by_cases c1 : 1 < j + 1
      · have c1' : (1 : Int) < (j : Int) + 1 := by omega
        by_cases c2 : 1 < i + 1
        · have c2' : (1 : Int) < (i : Int) + 1 := by omega
          simp [wipeE, c1', c2', LINE]
          exact ⟨z, by omega, gs, a', b', rfl⟩
        · have c2' : ¬ (1 : Int) < (i : Int) + 1 := by omega
          by_cases c3 : r = 0
          · subst c3
            simp [wipeE, c1', c2', LINE, e]
            exact ⟨z, by omega, gs, a2, b2, rfl⟩
          · have c3' : (r == 0) = false := beq_eq_false_iff_ne.mpr c3
            simp [wipeE, c1', c2', LINE, e, c3']
            exact ⟨by omega, hg2, a2, b2, rfl⟩
      · have c1' : ¬ (1 : Int) < (j : Int) + 1 := by omega
        by_cases c3 : r = 0
        · subst c3
          simp [wipeE, c1', LINE, e]
          exact ⟨z, by omega, gs, a2, b2, rfl⟩
        · have c3' : (r == 0) = false := beq_eq_false_iff_ne.mpr c3
          simp [wipeE, c1', LINE, e, c3']
          exact ⟨by omega, hg2, a2, b2, rfl⟩
    · rintro acc M' ⟨hl2, hg2, a', b', hM'⟩
      rw [hM']
      rw [List.length_map, List.length_range, Nat.zero_add] at hl2
      have z : ds.length + acc.length ≤ 16777216 := by omega
      simp [LINE, z]
      refine ⟨_, _, a', b', ds ++ acc, ⟨rfl, rfl, rfl⟩, by rw [List.length_append]; omega, fun d hd => ?_, rfl⟩
      rcases List.mem_append.mp hd with hd | hd
      · exact hg d hd
      · exact hg2 d hd
  · rintro env M' ⟨v3, v4, a, b, ds, rfl, hl, hg, hM⟩
    rw [hM]
    rw [List.length_map, List.length_range, Nat.zero_add] at hl
    have z : ds.length ≤ 16777215 := by omega
    have hc : Cup (M.set n (cupM a b)) n := ⟨a, b, List.getElem?_set_self hn⟩
    have gs : ∀ d ∈ ds ++ [D.tup [.int 2, .int 2]], goodM d := fun d hd => by
      rcases List.mem_append.mp hd with hd | hd
      · exact hg d hd
      · rcases List.mem_cons.mp hd with hd | hd
        · rw [hd]; exact ⟨2, 2, rfl, ⟨by omega, by omega, by omega⟩⟩
        · cases hd
    obtain ⟨d, M2, e, a', b', hd, rfl⟩ := (some_spec (k := k) (ds := ds ++ [D.tup [.int 2, .int 2]]) hc (by simp) (by simp; omega) (nrs_iff.mpr fun d hd => goodM_nr (gs d hd))).ex
    rw [List.set_set] at e
    have gd := gs d hd
    have nr := goodM_nr gd
    obtain ⟨r, c, rfl, mp⟩ := gd
    simp [LINE, z, e]
    exact ⟨r, c, ⟨rfl, rfl⟩, mp, a', b', rfl⟩
end Gk31

set_option Elab.async false
set_option linter.all false
set_option maxRecDepth 100000
set_option maxHeartbeats 4000000
namespace Gk31
open RF
open PySem (Str Operator CmpOp)
theorem so : Str.ofString "?" = ⟨#[63]⟩ := by decide +kernel
def okS (c : Nat) : Prop := c = 63 ∨ c = 118 ∨ c = 109
theorem sg_of {d : D} {x y z : Nat} (hx : okS x) (hy : okS y) (hz : okS z) (h : d ∈ [sg x, sg y, sg z]) : ∃ c, d = sg c ∧ okS c := by
  simp only [List.mem_cons, List.not_mem_nil, or_false] at h
  rcases h with rfl | rfl | rfl
  · exact ⟨x, rfl, hx⟩
  · exact ⟨y, rfl, hy⟩
  · exact ⟨z, rfl, hz⟩
theorem told_spec {k n : Nat} {M : Mh} {l : List Nat} (h : Cup M n) (hl : l.length ≤ 100) (ho : ∀ c ∈ l, okS c) :
    (callP cs prog (k + 3) 47 [.ref n, tS l, .int 6] (T M)).sat fun d M' => ∃ ms a b, d = tS ms ∧ ms.length = l.length ∧ (∀ c ∈ ms, okS c) ∧ M' = T (M.set n (cupM a b)) := by
  rw [callP_mut (fd := fd__law_told) rfl rfl rfl]
  unfold goF fd__law_told
  obtain ⟨a0, b0, h0⟩ := h
  have hn : n < M.length := (List.getElem?_eq_some_iff.mp h0).1
  have hset : M = M.set n (cupM a0 b0) := (List.set_getElem_self hn ▸ by
    have := (List.getElem?_eq_some_iff.mp h0).2
    rw [← this]
    simp)
  simp [signs_mk, fzOf]
  refine run_only (compL_sat (fun i acc M' => ∃ ms a b, acc = ms.map sg ∧ ms.length = i ∧ (∀ c ∈ ms, okS c) ∧ M' = T (M.set n (cupM a b))) _ 0 _ _ ⟨[], a0, b0, rfl, rfl, by simp, by rw [← hset]⟩ ?_ ?_)
  · rintro i y M' acc hy ⟨ms, a, b, rfl, hm, hk, hM⟩
    rw [hM]
    rw [Nat.zero_add] at *
    rw [List.getElem?_map] at hy
    cases hc : l[i]? with
    | none => rw [hc] at hy; cases hy
    | some c =>
      rw [hc] at hy
      cases hy
      have hi := (List.getElem?_eq_some_iff.mp hc).1
      have oc := ho c (List.mem_of_getElem? hc)
      have cu : Cup (M.set n (cupM a b)) n := ⟨a, b, List.getElem?_set_self hn⟩
      obtain ⟨d, M2, e, r, a2, b2, rfl, r0, r1, rfl⟩ := (roll_spec (k := k + 1) (m := 6) cu (by omega) (by omega)).ex
      rw [List.set_set] at e
      have cu2 : Cup (M.set n (cupM a2 b2)) n := ⟨a2, b2, List.getElem?_set_self hn⟩
      have z : ms.length < 16777216 := by omega
      have fin : ∀ (d : D) (x : Nat) (a3 b3 : Int), d = sg x → okS x → ms.length < LINE ∧ ∃ (ms' : List Nat) (a b : Int), ms.map sg ++ [d] = ms'.map sg ∧ ms'.length = i + 1 ∧ (∀ c ∈ ms', okS c) ∧ T (M.set n (cupM a3 b3)) = T (M.set n (cupM a b)) := fun d x a3 b3 e hx => by
        refine ⟨z, ms ++ [x], a3, b3, by rw [e, List.map_append]; rfl, by rw [List.length_append]; simp; omega, fun c hc => ?_, rfl⟩
        rcases List.mem_append.mp hc with hc | hc
        · exact hk c hc
        · rw [List.mem_singleton.mp hc]; exact hx
      by_cases c3 : r = 0
      · subst c3
        obtain ⟨d, M2, e2, a3, b3, hd, rfl⟩ := (some_spec (k := k) (ds := [sg 109, sg 118, sg 63]) cu2 (by simp) (by simp) (by simp)).ex
        rw [List.set_set] at e2
        obtain ⟨x, rfl, hx⟩ := sg_of (.inr (.inr rfl)) (.inr (.inl rfl)) (.inl rfl) hd
        have ff := fin (sg x) x a3 b3 rfl hx
        simp [wipeE, e, sv, sm, so, LINE, e2]
        simpa [LINE] using ff
      · have c3' : (r == 0) = false := beq_eq_false_iff_ne.mpr c3
        obtain ⟨d, M2, e2, a3, b3, hd, rfl⟩ := (some_spec (k := k) (ds := [sg c, sg c, sg 63]) cu2 (by simp) (by simp) (by simp)).ex
        rw [List.set_set] at e2
        obtain ⟨x, rfl, hx⟩ := sg_of oc oc (.inl rfl) hd
        have ff := fin (sg x) x a3 b3 rfl hx
        simp [wipeE, e, sv, sm, so, LINE, e2, c3']
        simpa [LINE] using ff
  · rintro acc M' ⟨ms, a, b, rfl, hm, hk, hM⟩
    rw [hM]
    rw [List.length_map, Nat.zero_add] at hm
    have e1 : ms.map sg = (ms.map fun c => (⟨#[c]⟩ : Str)).map D.str := by rw [List.map_map]; rfl
    have e2 : ((ms.map fun c => (⟨#[c]⟩ : Str)).map Str.length).sum + (ms.map fun c => (⟨#[c]⟩ : Str)).length * (Str.ofString "").length ≤ LINE := by
      rw [sum_single, show (Str.ofString "").length = 0 by decide +kernel]
      simp [LINE]
      omega
    rw [e1]
    simp only [s0] at *
    have e3 := join_single ms
    generalize (ms.map fun c => (⟨#[c]⟩ : Str)) = ys at e2 e3
    simp [e2, e3]
    exact ⟨hm, hk, a, b, rfl⟩
end Gk31

set_option Elab.async false
set_option linter.all false
set_option maxRecDepth 100000
set_option maxHeartbeats 4000000
namespace Gk31
open RF
open PySem (Str Operator CmpOp)
theorem rng_to {m : Nat} (h : m < 10000) : rngOk (m : Int) = true ∧ rngL 0 (m : Int) = (List.range m).map nD := by
  refine ⟨rngOk_i (by omega) (by omega), ?_⟩
  rw [rng_nat (n := m) (by omega)]
  exact List.map_congr_left fun i _ => by simp
theorem put_spec {k : Nat} {M : Mh} {js : List Jt} {p : List Nat} (hj : ∀ j ∈ js, j.1 < j.2.1 ∧ j.2.2 < 4) (h17 : js.length ≤ 17) (hp : IsP p) (h12 : p.length + 1 ≤ 12) :
    (callP cs prog (k + 2) 50 [.lst (js.map jD), ordD p, nD p.length] (T M)).sat fun d M' => (∃ L : List (List Nat), d = .lst (L.map ordD) ∧ L.length ≤ 12 ∧ ∀ q ∈ L, IsP q ∧ q.length = p.length + 1) ∧ M' = T M := by
  refine callP_pureS (fd := fd__law_put) rfl rfl (by simp [ordN, nrs_map (f := jD) (l := js) (fun _ => rfl)]) ?_
  unfold goF fd__law_put
  simp
  rw [compL_fmap (e := jD) (p := fun j => decide (j.2.1 ≤ p.length)) (g := jD) _ _ (fun j hm => ?_) (by simp [LINE]; omega)]
  · have hps : ∀ j ∈ js.filter (fun j => decide (j.2.1 ≤ p.length)), j.1 < j.2.1 ∧ j.2.2 < 4 ∧ j.2.1 ≤ p.length := fun j hm => by
      obtain ⟨h1, h2⟩ := List.mem_filter.mp hm
      exact ⟨(hj j h1).1, (hj j h1).2, of_decide_eq_true h2⟩
    have hpl : (js.filter (fun j => decide (j.2.1 ≤ p.length))).length ≤ 17 := Nat.le_trans (List.length_filter_le _ _) h17
    rw [List.nil_append]
    generalize js.filter (fun j => decide (j.2.1 ≤ p.length)) = ps at hps hpl
    simp [LINE]
    rw [compL_fmap (e := jD) (p := fun j => j.2.1 == p.length) (g := jD) _ _ (fun j hm => ?_) (by simp [LINE]; omega)]
    · have hos : ∀ j ∈ ps.filter (fun j => j.2.1 == p.length), j ∈ ps := fun j hm => (List.mem_filter.mp hm).1
      have hol : (ps.filter (fun j => j.2.1 == p.length)).length ≤ 17 := Nat.le_trans (List.length_filter_le _ _) hpl
      rw [List.nil_append]
      generalize ps.filter (fun j => j.2.1 == p.length) = os at hos hol
      obtain ⟨q1, q2⟩ := rng_to (m := p.length + 1) (by omega)
      have q1' : rngOk ((p.length : Int) + 1) = true := by simpa using q1
      have q2' : rngL 0 ((p.length : Int) + 1) = (List.range (p.length + 1)).map nD := by simpa using q2
      simp [q1', q2']
      refine go_bind (forL_sat (fun i env M' => ∃ v5 v7 v8 v9 v10, ∃ L : List (List Nat), env = [some (.lst (js.map jD)), some (ordD p), some (nD p.length), some (.lst (L.map ordD)), some (.lst (ps.map jD)), v5, some (.lst (os.map jD)), v7, v8, v9, v10] ∧ L.length ≤ i ∧ (∀ q ∈ L, IsP q ∧ q.length = p.length + 1) ∧ M' = T []) _ 0 _ _ ⟨_, _, _, _, _, [], rfl, by simp, by simp, rfl⟩ ?_ ?_)
      · rintro t x env M' hx ⟨v5, v7, v8, v9, v10, L, rfl, hl, hg, rfl⟩
        rw [Nat.zero_add] at *
        have ht : t < p.length + 1 := by
          have := (List.getElem?_eq_some_iff.mp hx).1
          simpa using this
        rw [List.getElem?_map, List.getElem?_range ht] at hx
        cases hx
        have w1 : min t p.length + 1 ≤ 16777216 := by omega
        have w2 : min t p.length + 1 + (p.length - t) ≤ 16777216 := by omega
        have ei : D.tup (List.take t (List.map nD p) ++ nD p.length :: List.drop t (List.map nD p)) = ordD (ins p t) := by
          show D.tup _ = D.tup ((ins p t).map nD)
          rw [Gk31.ins, List.map_append, List.map_cons, List.map_take, List.map_drop]
        have ni : IsP (ins p t) := hp.ins t
        have nl : (ins p t).length = p.length + 1 := ins_len
        simp [cutL_from, cutL_to, LINE, w1, w2]
        rw [ei]
        generalize hQ : ins p t = Q at ni nl
        refine sat_bind.mpr (forL_sat (fun i env M' => ∃ v5 v10, ∃ b : Nat, env = [some (.lst (js.map jD)), some (ordD p), some (nD p.length), some (.lst (L.map ordD)), some (.lst (ps.map jD)), v5, some (.lst (os.map jD)), some (nD t), some (ordD Q), some (nD b), v10] ∧ b ≤ i * 17 ∧ M' = T []) _ 0 _ _ ⟨_, _, 0, rfl, by simp, rfl⟩ ?_ ?_)
        · rintro i y env M' hy ⟨v5, v10, b, rfl, hb, rfl⟩
          rw [Nat.zero_add] at *
          rw [List.getElem?_map] at hy
          cases ho : os[i]? with
          | none => rw [ho] at hy; cases hy
          | some j =>
            rw [ho] at hy
            cases hy
            have jn : ∀ o ∈ ps, JIn Q o := fun o h => by
              obtain ⟨h1, h2, h3⟩ := hps o h
              exact ⟨ni.mem.mpr (by omega), ni.mem.mpr (by omega), h2⟩
            have jm := hos j (List.mem_of_getElem? ho)
            have hj2 := hps j jm
            simp
            rw [compL_fmap (e := jD) (p := fun o => turnsB Q j o) (g := jD) _ _ (fun o hm => ?_) (by simp [LINE]; omega)]
            · have fl : (ps.filter fun o => turnsB Q j o).length ≤ 17 := Nat.le_trans (List.length_filter_le _ _) hpl
              rw [List.nil_append]
              generalize (ps.filter fun o => turnsB Q j o) = W at fl
              simp
              exact ⟨_, _, b + W.length, ⟨rfl, by push_cast; rfl, rfl⟩, by omega⟩
            · have ho2 := hps o hm
              have e := lturns_spec (k := k) (M := []) ni.nodup (by omega) (jn j jm) (jn o hm) (by omega) (by omega)
              cases hc : turnsB Q j o with
              | true =>
                rw [hc] at e
                simp [wipeE, e]
              | false =>
                rw [hc] at e
                simp [wipeE, e]
        · rintro env M' ⟨v5, v10, b, rfl, hb, rfl⟩
          by_cases hb0 : b = 0
          · subst hb0
            have z : L.length + 1 ≤ 16777216 := by omega
            simp [LINE, z]
            refine ⟨_, _, _, _, _, L ++ [Q], ⟨by rw [List.map_append]; rfl, rfl, rfl, rfl, rfl, rfl⟩, by rw [List.length_append]; simp; omega, fun q hq => ?_⟩
            rcases List.mem_append.mp hq with hq | hq
            · exact hg q hq
            · rw [List.mem_singleton.mp hq]; exact ⟨ni, nl⟩
          · have hb1 : ((b : Int) == 0) = false := beq_eq_false_iff_ne.mpr (by omega)
            have z : L.length ≤ 16777216 := by omega
            simp [LINE, z, hb1, hb0]
            exact ⟨_, _, _, _, _, L, ⟨rfl, rfl, rfl, rfl, rfl, rfl⟩, by omega, hg⟩
      · rintro env M' ⟨v5, v7, v8, v9, v10, L, rfl, hl, hg, rfl⟩
        rw [List.length_map, List.length_range, Nat.zero_add] at hl
        have nr : D.nrs (L.map ordD) = true := nrs_map fun _ => ordN
        simp [nr]
        exact ⟨L, rfl, by omega, hg⟩
    · by_cases c : j.2.1 = p.length
      · have c' : (j.2.1 == p.length) = true := beq_iff_eq.mpr c
        simp [wipeE, c, c']
      · have c' : (j.2.1 == p.length) = false := beq_eq_false_iff_ne.mpr c
        have c2 : ((j.2.1 : Int) == (p.length : Int)) = false := beq_eq_false_iff_ne.mpr (by omega)
        simp [wipeE, c', c2]
  · by_cases c : j.2.1 ≤ p.length
    · simp [wipeE, c]
    · simp [wipeE, c]
theorem eqT {M : Mh} {p : List Nat} : eqD (T M) (ordD p) (.tup []) = some p.isEmpty := by
  rw [eqD_tnil (fun x hx => by obtain ⟨i, _, rfl⟩ := List.mem_map.mp hx; simp), List.isEmpty_map]
theorem eqO {M : Mh} {L : List (List Nat)} (h : ∀ q ∈ L, q.length ≤ 100) : eqD (T M) (.lst (L.map ordD)) (.lst []) = some L.isEmpty := by
  rw [eqD_lnil (fun x hx => by
    obtain ⟨q, _, rfl⟩ := List.mem_map.mp hx
    rw [D.dep, deps_iff]
    intro d hd
    obtain ⟨i, _, rfl⟩ := List.mem_map.mp hd
    simp [D.dep]), List.isEmpty_map]
theorem drawn_spec {k n : Nat} {M : Mh} {r c : Nat} (h : Cup M n) (m : Mp r c) :
    (callP cs prog (k + 4) 45 [.ref n, mpD r c] (T M)).sat fun d M' => ∃ p a b, d = ordD p ∧ St p r c ∧ M' = T (M.set n (cupM a b)) := by
  rw [callP_mut (fd := fd__law_drawn_flat) rfl rfl rfl]
  unfold goF fd__law_drawn_flat
  obtain ⟨a0, b0, h0⟩ := h
  have hn : n < M.length := (List.getElem?_eq_some_iff.mp h0).1
  have hset : M = M.set n (cupM a0 b0) := (List.set_getElem_self hn ▸ by
    have := (List.getElem?_eq_some_iff.mp h0).2
    rw [← this]
    simp)
  have e1 := ljoints_spec (k := k + 2) (M := M) m
  unfold jtD at e1
  have l17 := jts_len m
  have n12 := m.le
  have n1 := m.n1
  have hj : ∀ j ∈ jts r c, j.1 < j.2.1 ∧ j.2.2 < 4 := fun j h => ⟨(jts_ok m h).1, (jts_ok m h).2.2⟩
  obtain ⟨q1, q2, q3⟩ := mul_ok m
  have em : (r : Int) * (c : Int) = ((r * c : Nat) : Int) := by push_cast; rfl
  have g3 : rngL 1 ((r * c : Nat) : Int) = (List.range (r * c - 1)).map fun (i : Nat) => D.int (1 + (i : Int)) := rng_nat (by omega)
  have stl : ∀ p : List Nat, IsP p → p.length = r * c → St p r c := fun p h1 h2 => ⟨m, h1, h2⟩
  have ru : ∀ M, callP cs prog (k + 3) 46 [mpD r c] (T M) = .ok (ordD (rup r c)) (T M) := fun M => rup_spec (k := k + 2) m
  have rs := rup_st m
  generalize jts r c = js at e1 l17 hj
  generalize r * c = N at *
  simp [e1, LINE]
  refine run_bind (forL_sat (fun i env M' => ∃ v3 v4 v5 v6 a b, env = [some (.ref n), some (mpD r c), some (.lst (js.map jD)), v3, v4, v5, v6] ∧ M' = T (M.set n (cupM a b))) _ 0 _ _ ⟨_, _, _, _, a0, b0, rfl, by rw [← hset]⟩ ?_ ?_)
  · rintro i x env M' hx ⟨v3, v4, v5, v6, a, b, rfl, hM⟩
    rw [hM]
    simp [LINE, q1, em, q2, g3]
    refine sat_bind.mpr (forL_sat (fun i env M' => ∃ v5 v6 a b, ∃ p : List Nat, env = [some (.ref n), some (mpD r c), some (.lst (js.map jD)), some x, some (ordD p), v5, v6] ∧ (p = [] ∨ IsP p ∧ p.length = i + 1) ∧ M' = T (M.set n (cupM a b))) _ 0 _ _ ⟨_, _, a, b, [0], rfl, .inr ⟨by unfold IsP; decide, rfl⟩, rfl⟩ ?_ ?_)
    · rintro l y env M' hy ⟨v5, v6, a, b, p, rfl, hp, hM⟩
      rw [hM]
      rw [Nat.zero_add] at *
      have hl : l < N - 1 := by
        have := (List.getElem?_eq_some_iff.mp hy).1
        simpa using this
      rw [List.getElem?_map, List.getElem?_range hl] at hy
      cases hy
      have et := eqT (M := M.set n (cupM a b)) (p := p)
      rcases hp with rfl | ⟨hp, hpl⟩
      · simp [et]
        exact ⟨_, _, a, b, [], ⟨rfl, rfl, rfl⟩, .inl rfl, rfl⟩
      · have ex : D.int (1 + (l : Int)) = nD p.length := by rw [hpl]; congr 1; omega
        have pe : p.isEmpty = false := by cases p with | nil => simp at hpl | cons a b => rfl
        rw [pe] at et
        obtain ⟨d, M2, e2, ⟨L, rfl, hL, hg⟩, rfl⟩ := (put_spec (k := k + 1) (M := M.set n (cupM a b)) hj l17 hp (by omega)).ex
        rw [show (fun (i : Nat) => D.int (1 + (i : Int))) l = nD p.length from ex]
        have eo := eqO (M := M.set n (cupM a b)) (L := L) fun q hq => by have := (hg q hq).2; omega
        have cu : Cup (M.set n (cupM a b)) n := ⟨a, b, List.getElem?_set_self hn⟩
        by_cases hLe : L = []
        · subst hLe
          simp [et, e2, LINE]
          exact ⟨_, _, a, b, [], ⟨rfl, rfl, rfl⟩, .inl rfl, rfl⟩
        · have le : L.isEmpty = false := by cases L with | nil => exact absurd rfl hLe | cons a b => rfl
          rw [le] at eo
          obtain ⟨d, M2, e3, a3, b3, hd, rfl⟩ := (some_spec (k := k + 1) (ds := L.map ordD) cu (by simpa using hLe) (by rw [List.length_map]; omega) (nrs_map fun _ => ordN)).ex
          rw [List.set_set] at e3
          obtain ⟨q, hq, rfl⟩ := List.mem_map.mp hd
          simp [et, e2, eo, e3]
          exact ⟨_, _, a3, b3, q, ⟨rfl, rfl, rfl⟩, .inr ⟨(hg q hq).1, by rw [(hg q hq).2, hpl]⟩, rfl⟩
    · rintro env M' ⟨v5, v6, a, b, p, rfl, hp, hM⟩
      rw [hM]
      rw [List.length_map, List.length_range, Nat.zero_add] at hp
      have et := eqT (M := M.set n (cupM a b)) (p := p)
      rcases hp with rfl | ⟨hp, hpl⟩
      · simp [et]
        exact ⟨_, _, rfl⟩
      · have pe : p.isEmpty = false := by cases p with | nil => simp at hpl | cons a b => rfl
        rw [pe] at et
        simp [et]
        exact ⟨p, rfl, stl p hp (by omega), a, b, rfl⟩
  · rintro env M' ⟨v3, v4, v5, v6, a, b, rfl, hM⟩
    rw [hM]
    simp [ru]
    exact ⟨_, rfl, rs, a, b, rfl⟩
end Gk31

set_option Elab.async false
set_option linter.all false
set_option maxRecDepth 100000
set_option maxHeartbeats 4000000
namespace Gk31
open RF
open PySem (Str Operator CmpOp)
theorem pl_of {n : Nat} {ds : List D} (hl : ds.length ≤ 1000) (h : ∀ x ∈ ds, pl n x = true) : pl (n + 1) (.tup ds) = true := by
  rw [pl, Bool.and_eq_true, decide_eq_true_eq, List.all_eq_true]; exact ⟨hl, h⟩
theorem pl_ofl {n : Nat} {ds : List D} (hl : ds.length ≤ 1000) (h : ∀ x ∈ ds, pl n x = true) : pl (n + 1) (.lst ds) = true := by
  rw [pl, Bool.and_eq_true, decide_eq_true_eq, List.all_eq_true]; exact ⟨hl, h⟩
theorem pl_up : ∀ {n : Nat} {d : D}, pl n d = true → pl (n + 1) d = true
  | _, .non, _ => rfl
  | _, .bl _, _ => rfl
  | _, .int _, _ => rfl
  | n, .str s, h => by
    rw [pl] at h ⊢
    exact h
  | 0, .tup ds, h => by cases h
  | 0, .lst ds, h => by cases h
  | n + 1, .tup ds, h => by
    rw [pl, Bool.and_eq_true, List.all_eq_true] at h ⊢
    exact ⟨h.1, fun x hx => pl_up (h.2 x hx)⟩
  | n + 1, .lst ds, h => by
    rw [pl, Bool.and_eq_true, List.all_eq_true] at h ⊢
    exact ⟨h.1, fun x hx => pl_up (h.2 x hx)⟩
  | n, .ref _, h => by cases n <;> cases h
  | n, .ty _, h => by cases n <;> cases h
  | n, .fn _, h => by cases n <;> cases h
  | n, .dct _ _, h => by cases n <;> cases h
theorem some_pl {X : List D} (h : X.all (pl 2) = true) : ∀ x ∈ X, pl 2 x = true := List.all_eq_true.mp h
/-- one number bent -/
theorem bentI_spec {k n : Nat} {M : Mh} {i : Nat} (h : Cup M n) (hi : i ≤ 1000) :
    (callP cs prog (k + 4) 40 [.ref n, nD i] (T M)).sat fun d M' => pl 2 d = true ∧ ∃ a b, M' = T (M.set n (cupM a b)) := by
  rw [callP_mut (fd := fd__law_bent) rfl rfl rfl]
  unfold goF fd__law_bent
  have hp : pl 0 (nD i) = true := rfl
  have hs := sort_spec (k := k + 2) (M := M) hp
  simp [hs, sortI, LINE]
  generalize hX : ([_, _, _, _, _, _, _, _, _, _, _, _, _, _, _, _, _] : List D) = X
  obtain ⟨d, M2, e3, a3, b3, hd, rfl⟩ := (some_spec (k := k + 1) (ds := X) h (by subst hX; simp) (by subst hX; simp) (by subst hX; simp)).ex
  have hX1 : ∀ x ∈ X, pl 2 x = true := by
    subst hX
    simp only [List.forall_mem_cons]
    refine ⟨rfl, rfl, rfl, rfl, rfl, rfl, rfl, rfl, by decide +kernel, by decide +kernel, by decide +kernel, by decide +kernel, rfl, rfl, rfl, rfl, rfl, by simp⟩
  have hp3 := hX1 d hd
  simp [e3, finS (d := d) (pl_nr hp3) low_cup, hp3]
  exact ⟨a3, b3, rfl⟩
theorem bent_spec {k n : Nat} {M : Mh} {p : List Nat} {r c : Nat} (h : Cup M n) (ho : St p r c) :
    (callP cs prog (k + 5) 40 [.ref n, ordD p] (T M)).sat fun d M' => pl 4 d = true ∧ ∃ a b, M' = T (M.set n (cupM a b)) := by
  have hi : p.length ≤ 12 := by have := ho.len; have := ho.m.le; omega
  have lo : 1 ≤ p.length := by have := ho.len; have := ho.m.n1; omega
  rw [callP_mut (fd := fd__law_bent) rfl rfl rfl]
  unfold goF fd__law_bent
  have hp : pl 3 (ordD p) = true := st_pl ho
  have hne : eqD (T M) (ordD p) (.tup []) = some false := by
    rw [eqD_tnil (fun x hx => by obtain ⟨i, _, rfl⟩ := List.mem_map.mp hx; simp)]
    cases p with
    | nil => simp at lo
    | cons a p => rfl
  have hs := sort_spec (k := k + 3) (M := M) hp
  obtain ⟨d, M2, e, r, a, b, rfl, r0, r1, rfl⟩ := (roll_spec (k := k + 3) (m := 8) h (by omega) (by omega)).ex
  have hs2 := sort_spec (k := k + 3) (M := M.set n (cupM a b)) hp
  by_cases hr : r = 0
  · subst hr
    simp [hne, e, hs2, sortI, LINE]
    generalize hX : ([_, _, _, _, _, _, _, _, _, _, _, _, _, _] : List D) = X
    obtain ⟨d, M2, e3, a3, b3, hd, rfl⟩ := (some_spec (k := k + 2) (ds := X) (h.set a b) (by subst hX; simp) (by subst hX; simp) (by subst hX; simp)).ex
    rw [List.set_set] at e3
    have hX1 : ∀ x ∈ X, pl 4 x = true := by
      subst hX
      simp only [List.forall_mem_cons]
      refine ⟨rfl, rfl, rfl, rfl, rfl, rfl, rfl, rfl, by decide +kernel, by decide +kernel, by decide +kernel, by decide +kernel, rfl, rfl, by simp⟩
    have hp3 := hX1 d hd
    simp [e3, finS (d := d) (pl_nr hp3) low_cup, hp3]
    exact ⟨a3, b3, rfl⟩
  · have hr' : (r == 0) = false := beq_eq_false_iff_ne.mpr hr
    obtain ⟨d, M2, e2, r2, a2, b2, rfl, r20, r21, rfl⟩ := (roll_spec (k := k + 3) (m := (p.length : Int)) (h.set a b) (by omega) (by omega)).ex
    rw [List.set_set] at e2
    obtain ⟨d, M2, e3, r3, a3, b3, rfl, r30, r31, rfl⟩ := (roll_spec (k := k + 3) (m := 12) (h.set a2 b2) (by omega) (by omega)).ex
    rw [List.set_set] at e3
    obtain ⟨t, rfl, ht⟩ := nat_of r20 r21
    have c1 : ∀ a b, (cutL (p.map nD) a b).length ≤ 12 := fun a b => Nat.le_trans cutL_len (by rw [List.length_map]; exact hi)
    have cm : ∀ a b, ∀ x ∈ cutL (p.map nD) a b, pl 3 x = true := fun a b x hx => by
      obtain ⟨i, _, rfl⟩ := List.mem_map.mp (cutL_mem hx)
      rfl
    have two : ∀ a b c d, pl 4 (.tup (cutL (p.map nD) a b ++ cutL (p.map nD) c d)) = true := fun a b c d => by
      refine pl_of ?_ fun x hx => ?_
      · rw [List.length_append]
        have := c1 a b
        have := c1 c d
        omega
      · rcases List.mem_append.mp hx with hx | hx
        · exact cm _ _ x hx
        · exact cm _ _ x hx
    have z1 : (cutL (p.map nD) none (some (t : Int))).length + (cutL (p.map nD) (some ((t : Int) + 1)) none).length ≤ 16777216 := by
      have := c1 none (some (t : Int))
      have := c1 (some ((t : Int) + 1)) none
      omega
    have z2 : (cutL (p.map nD) none (some ((t : Int) + 1))).length + (cutL (p.map nD) (some (t : Int)) none).length ≤ 16777216 := by
      have := c1 none (some ((t : Int) + 1))
      have := c1 (some (t : Int)) none
      omega
    have nz : ∀ a b c d, D.nrs (cutL (p.map nD) a b ++ cutL (p.map nD) c d) = true := fun a b c d => by
      have := pl_nr (two a b c d)
      rwa [nr_tup] at this
    by_cases w0 : r3 = 0
    · subst w0
      simp [hne, e, hr', e2, e3, z1, LINE]
      rw [finS (by rw [nr_tup]; exact nz _ _ _ _) low_cup]
      exact ⟨two _ _ _ _, a3, b3, rfl⟩
    have w0' : (r3 == 0) = false := beq_eq_false_iff_ne.mpr w0
    by_cases w1 : r3 = 1
    · subst w1
      simp [hne, e, hr', e2, e3, z2, LINE]
      rw [finS (by rw [nr_tup]; exact nz _ _ _ _) low_cup]
      exact ⟨two _ _ _ _, a3, b3, rfl⟩
    have w1' : (r3 == 1) = false := beq_eq_false_iff_ne.mpr w1
    by_cases w2 : r3 = 2
    · subst w2
      simp [hne, e, hr', e2, e3, LINE]
      exact ⟨pl_ofl (by rw [List.length_map]; omega) (fun x hx => by obtain ⟨i, _, rfl⟩ := List.mem_map.mp hx; rfl), a3, b3, rfl⟩
    have w2' : (r3 == 2) = false := beq_eq_false_iff_ne.mpr w2
    by_cases w3 : r3 = 3
    · subst w3
      simp [hne, e, hr', e2, e3, LINE]
      exact ⟨pl_of (by rw [List.length_reverse, List.length_map]; omega) (fun x hx => by obtain ⟨i, _, rfl⟩ := List.mem_map.mp (List.mem_reverse.mp hx); rfl), a3, b3, rfl⟩
    have w3' : (r3 == 3) = false := beq_eq_false_iff_ne.mpr w3
    obtain ⟨d, M2, e4, hd, a4, b4, rfl⟩ := (bentI_spec (k := k) (i := p[t]) (h.set a3 b3) (by have := ho.ip.mem.mp (List.getElem_mem ht); omega)).ex
    rw [List.set_set] at e4
    have gt : p[t]? = some p[t] := List.getElem?_eq_getElem ht
    have z3 : (cutL (p.map nD) none (some (t : Int))).length ≤ 16777215 := by
      have := c1 none (some (t : Int))
      omega
    have z4 : (cutL (p.map nD) none (some (t : Int))).length + (1 + (cutL (p.map nD) (some ((t : Int) + 1)) none).length) ≤ 16777216 := by
      have := c1 none (some (t : Int))
      have := c1 (some ((t : Int) + 1)) none
      omega
    have z4' : (cutL (p.map nD) none (some (t : Int))).length + 1 + (cutL (p.map nD) (some ((t : Int) + 1)) none).length ≤ 16777216 := by omega
    have z4'' : (cutL (p.map nD) none (some (t : Int))).length + ((cutL (p.map nD) (some ((t : Int) + 1)) none).length + 1) ≤ 16777216 := by omega
    have pr : pl 4 (.tup (cutL (p.map nD) none (some (t : Int)) ++ d :: cutL (p.map nD) (some ((t : Int) + 1)) none)) = true := by
      refine pl_of ?_ fun x hx => ?_
      · rw [List.length_append, List.length_cons]
        have := c1 none (some (t : Int))
        have := c1 (some ((t : Int) + 1)) none
        omega
      · rcases List.mem_append.mp hx with hx | hx
        · exact cm _ _ x hx
        · rcases List.mem_cons.mp hx with hx | hx
          · rw [hx]
            exact pl_up hd
          · exact cm _ _ x hx
    simp [hne, e, hr', e2, e3, w0', w1', w2', w3', atI_nat, gt, e4, LINE, z3, z4, z4', z4'']
    rw [finS (pl_nr pr) low_cup]
    exact ⟨pr, a4, b4, rfl⟩
end Gk31

set_option Elab.async false
set_option linter.all false
set_option maxRecDepth 100000
set_option maxHeartbeats 4000000
namespace Gk31
open RF
open PySem (Str Operator CmpOp)
/-! a map of one row is a strip -/
theorem row_jts_dec : ((List.range 13).all fun c => c == 0 || (jts 1 c == (List.range (c - 1)).map fun l => (l, l + 1, l % 2))) = true := by decide +kernel
theorem row_jts {c : Nat} (h1 : 1 ≤ c) (h : c ≤ 12) : jts 1 c = (List.range (c - 1)).map fun l => (l, l + 1, l % 2) := by
  have := List.all_eq_true.mp row_jts_dec c (List.mem_range.mpr (by omega))
  rw [Bool.or_eq_true, beq_iff_eq, beq_iff_eq] at this
  rcases this with e | e
  · omega
  · exact e
theorem row_cro {p : List Nat} {c : Nat} (h : St p 1 c) : cro p (jts 1 c) = crs p := by
  have hl := h.len
  rw [row_jts h.m.c1 h.m.c12]
  unfold cro crs crsF
  rw [Nat.one_mul] at hl
  rw [List.length_map, List.length_range, hl]
  refine flatMap_same fun i hi => ?_
  have hi := List.mem_range.mp hi
  congr 1
  refine List.filter_congr fun j hj => ?_
  have hj := List.mem_range.mp hj
  rw [List.getElem?_map, List.getElem?_map, List.getElem?_range hi, List.getElem?_range hj]
  show (decide (i < j) && turnsB p (i, i + 1, i % 2) (j, j + 1, j % 2)) = (far i j && cb p i j)
  unfold turnsB four cb far
  by_cases c1 : i < j
  · by_cases c2 : (j - i) % 2 = 0
    · have e1 : (i % 2 == j % 2) = true := by rw [beq_iff_eq]; omega
      have e2 : dif4 i (i + 1) j (j + 1) = true := dif4_of (by omega) (by omega) (by omega) (by omega) (by omega) (by omega)
      have e3 : ((j - i) % 2 == 0) = true := by rw [beq_iff_eq]; exact c2
      rw [e3]
      simp only [e1, e2, c1, decide_true, Bool.true_and, Bool.and_true]
    · have e1 : (i % 2 == j % 2) = false := by rw [beq_eq_false_iff_ne]; omega
      have e3 : ((j - i) % 2 == 0) = false := by rw [beq_eq_false_iff_ne]; exact c2
      rw [e3]
      simp [e1]
  · simp [c1]
theorem row_marks {p : List Nat} {c : Nat} (h : St p 1 c) : mksL p 1 c = marksL p := by
  have hl := h.len
  unfold mksL marksL
  rw [row_jts h.m.c1 h.m.c12, List.map_map]
  rw [Nat.one_mul] at hl
  rw [hl]
  refine List.map_congr_left fun l hl => ?_
  have hl := List.mem_range.mp hl
  show mkJ p c (l, l + 1, l % 2) = mk p l
  unfold mkJ mk
  have e : evenB c l = (l % 2 == 0) := by
    unfold evenB
    rw [Nat.div_eq_of_lt (show l < c by omega), Nat.mod_eq_of_lt (show l < c by omega), Nat.zero_add]
  rw [e]
theorem row_ord {p : List Nat} {c : Nat} (h : St p 1 c) (h10 : c ≤ 10) : Ord p := by
  have := h.len
  have := h.m.c1
  exact ⟨h.ip, by omega, by omega⟩
theorem beq_symm {a b : D} : D.beq a b = D.beq b a := by
  cases h1 : D.beq a b with
  | true =>
    have := D.beq_eq h1
    subst this
    exact h1.symm
  | false =>
    cases h2 : D.beq b a with
    | false => rfl
    | true =>
      have := D.beq_eq h2
      subst this
      rw [h1] at h2
      exact h2
theorem mks_ok {p : List Nat} {r c : Nat} : ∀ x ∈ mksL p r c, x = 63 ∨ x = 118 ∨ x = 109 := fun x hx => by
  unfold mksL at hx
  obtain ⟨j, _, rfl⟩ := List.mem_map.mp hx
  unfold mkJ
  split
  · exact .inr (.inl rfl)
  · exact .inr (.inr rfl)
theorem mks_told {p : List Nat} {r c : Nat} : Told (mksL p r c) r c := ⟨mksL_len, mks_ok⟩
/-! statement by statement -/
abbrev rB : Ss := fd__law_right.body
theorem side_pl {s : Nat} : pl 0 (.str (sideS s)) = true := by
  rw [pl]
  unfold sideS
  split <;> decide +kernel
theorem jD_pl {j : Jt} : pl 1 (jD j) = true := by
  refine pl_of (by simp) fun x hx => ?_
  simp only [List.mem_cons, List.not_mem_nil, or_false] at hx
  rcases hx with rfl | rfl | rfl
  · rfl
  · rfl
  · exact side_pl
theorem marks_pl {p : List Nat} {r c n : Nat} (h : Mp r c) : pl n (.str (mksS p r c)) = true := by
  rw [pl.eq_def]
  simp only [decide_eq_true_eq]
  rw [len_mk, mksL_len]
  have := jts_len h
  omega
section
variable {k n : Nat} {M : Mh} {p : List Nat} {r c : Nat} {v3 v4 v5 v6 v7 v8 v9 v10 v11 v12 v13 : Option D}
abbrev toldD (p : List Nat) (r c : Nat) : D := .lst [.bl true, .tup ((jts r c).map jD), .bl true, .bl (cro p (jts r c)).isEmpty, .str (mksS p r c)]
theorem eqC {js : List Jt} : eqD (T M) (croD p js) (.lst []) = some (cro p js).isEmpty := eqD_map0 fun x => by simp [D.dep, D.deps]
theorem stk_t (h : St p r c) : stkB (r * c) (ordD p) = true := (stkB_iff h.m.n1).mpr ⟨p, rfl, h.ip, h.len⟩
theorem right_0 (h : St p r c) : exS cs (callP cs prog (k + 9)) (sAt 0 rB) [some (.ref n), some (mpD r c), some (ordD p), v3, v4, v5, v6, v7, v8, v9, v10, v11, v12, v13] (T M) = .ok (.nx [some (.ref n), some (mpD r c), some (ordD p), some (jtD r c), some (croD p (jts r c)), v5, v6, v7, v8, v9, v10, v11, v12, v13]) (T M) := by
  have e1 := ljoints_spec (k := k + 8) (M := M) h.m
  have e2 := lcross_spec (k := k + 7) (M := M) h
  unfold rB fd__law_right
  simp [sAt, e1, e2, LINE]
theorem right_1 (h : St p r c) : exS cs (callP cs prog (k + 9)) (sAt 1 rB) [some (.ref n), some (mpD r c), some (ordD p), v3, v4, v5, v6, v7, v8, v9, v10, v11, v12, v13] (T M) = .ok (.nx [some (.ref n), some (mpD r c), some (ordD p), v3, v4, some (toldD p r c), v6, v7, v8, v9, v10, v11, v12, v13]) (T M) := by
  have e1 := ismap_spec (k := k + 6) (M := M) h.m
  have e2 := mapjoints_spec (k := k + 5) (M := M) h.m
  have e3 := ismapstack_spec (k := k + 5) (M := M) h.m (st_pl h)
  rw [stk_t h] at e3
  have e4 := isflat_spec (k := k + 4) (M := M) h
  have e5 := stackmarks_spec (k := k + 4) (M := M) h
  unfold rB fd__law_right
  simp [sAt, e1, e2, e3, e4, e5, LINE]
theorem right_2 (h : St p r c) : exS cs (callP cs prog (k + 9)) (sAt 2 rB) [some (.ref n), some (mpD r c), some (ordD p), some (jtD r c), some (croD p (jts r c)), some (toldD p r c), v6, v7, v8, v9, v10, v11, v12, v13] (T M) = .ok (.nx [some (.ref n), some (mpD r c), some (ordD p), some (jtD r c), some (croD p (jts r c)), some (toldD p r c), v6, v7, v8, v9, v10, v11, v12, v13]) (T M) := by
  have l17 := jts_len h.m
  have e8 := lmarks_spec (k := k + 7) (M := M) h
  have hL : pl 3 (toldD p r c) = true := by
    refine pl_ofl (by simp) ?_
    simp only [List.forall_mem_cons]
    refine ⟨rfl, pl_of (by rw [List.length_map]; omega) fun x hx => ?_, rfl, rfl, marks_pl h.m, by simp⟩
    obtain ⟨j, _, rfl⟩ := List.mem_map.mp hx
    exact jD_pl
  have e10 := like_spec 3 (k + 4) M _ hL
  have z : (jts r c).length ≤ 16777216 := by omega
  unfold rB fd__law_right
  simp [sAt, e8, e10, LINE, eqC, z]
theorem right_3 (h : St p r c) : exS cs (callP cs prog (k + 9)) (sAt 3 rB) [some (.ref n), some (mpD r c), some (ordD p), v3, v4, v5, v6, v7, v8, v9, v10, v11, v12, v13] (T M) = .ok (.nx [some (.ref n), some (mpD r c), some (ordD p), v3, v4, v5, some (headO p (jts r c)), v7, v8, v9, v10, v11, v12, v13]) (T M) := by
  have e9 := jcrossing_spec (k := k + 4) (M := M) h
  unfold rB fd__law_right
  simp [sAt, e9]
theorem headO_pl {js : List Jt} : pl 1 (headO p js) = true := by
  unfold headO
  split <;> rfl
theorem likes (h : St p r c) {v : D} {n : Nat} (hv : pl (n + 1) v = true) {f : D → Mh → R (Option D)} {all : List D} (hf : ∀ x, f (prD x) (T M) = .ok (if D.beq v (prD x) then some (.int 1) else none) (T M)) : compL f all none ((cro p (jts r c)).map prD) (T M) [] = .ok (((cro p (jts r c)).filter fun x => D.beq v (prD x)).map fun _ => D.int 1) (T M) := by
  have := cro_len (p := p) h.m
  rw [compL_fmap (p := fun x => D.beq v (prD x)) (g := fun _ => D.int 1) _ _ (fun x _ => hf x) (by simp [LINE]; omega)]
  simp
theorem right_4 (h : St p r c) : exS cs (callP cs prog (k + 9)) (sAt 4 rB) [some (.ref n), some (mpD r c), some (ordD p), v3, some (croD p (jts r c)), v5, some (headO p (jts r c)), v7, v8, v9, v10, v11, v12, v13] (T M) = .ok (.nx [some (.ref n), some (mpD r c), some (ordD p), v3, some (croD p (jts r c)), v5, some (headO p (jts r c)), v7, v8, v9, v10, v11, v12, v13]) (T M) := by
  have is1 : cmpD .Is (headO p (jts r c)) .non (T M) = .ok (.bl (cro p (jts r c)).isEmpty) (T M) := by
    unfold headO
    cases cro p (jts r c) with
    | nil => simp
    | cons x r => simp
  have is2 : cmpD .IsNot (headO p (jts r c)) .non (T M) = .ok (.bl (!(cro p (jts r c)).isEmpty)) (T M) := by
    unfold headO
    cases cro p (jts r c) with
    | nil => simp
    | cons x r => simp
  have lk := fun (f : D → Mh → R (Option D)) (all : List D) (hf) => likes (M := M) h (v := headO p (jts r c)) (n := 0) headO_pl (f := f) (all := all) hf
  have e := fun y : Nat × Nat => like_gen 1 (k + 6) M (prD y) (headO p (jts r c)) rfl headO_pl
  have hh : (cro p (jts r c)).isEmpty = false → ((cro p (jts r c)).filter fun x => D.beq (headO p (jts r c)) (prD x)).isEmpty = false := fun he => by
    cases hc : cro p (jts r c) with
    | nil => rw [hc] at he; cases he
    | cons x xs =>
      have : headO p (jts r c) = prD x := by unfold headO; rw [hc]
      rw [this]
      simp [List.filter_cons]
  have en := eqD_map0 (M := M) (l := (cro p (jts r c)).filter fun x => D.beq (headO p (jts r c)) (prD x)) (g := fun _ => D.int 1) (fun x => dep_int)
  have ec := eqC (M := M) (p := p) (js := jts r c)
  unfold rB fd__law_right
  cases he : (cro p (jts r c)).isEmpty with
  | true =>
    rw [he] at is1 is2
    simp [sAt, is1, is2, eqC, he, LINE]
  | false =>
    rw [he] at is1 is2
    simp [sAt, is1, is2, eqC, he, LINE]
    rw [lk _ _ (fun x => by
      have e := e x
      rw [beq_symm] at e
      cases hb : D.beq (headO p (jts r c)) (prD x) with
      | true =>
        rw [hb] at e
        simp [wipeE, e]
      | false =>
        rw [hb] at e
        simp [wipeE, e])]
    rw [hh he] at en
    simp [en]
end
end Gk31

set_option Elab.async false
set_option linter.all false
set_option maxRecDepth 100000
set_option maxHeartbeats 4000000
namespace Gk31
open RF
open PySem (Str Operator CmpOp)
section
variable {k n : Nat} {M : Mh} {p : List Nat} {r c : Nat} {v3 v4 v5 v6 v7 v8 v9 v10 v11 v12 v13 : Option D}
theorem cup_of {n : Nat} {M : Mh} (h : Cup M n) : ∃ a b, M = M.set n (cupM a b) ∧ n < M.length := by
  obtain ⟨a, b, h0⟩ := h
  refine ⟨a, b, ?_, (List.getElem?_eq_some_iff.mp h0).1⟩
  have := (List.getElem?_eq_some_iff.mp h0).2
  rw [← this]
  simp
theorem right_5 (hc : Cup M n) (h : St p r c) : (exS cs (callP cs prog (k + 9)) (sAt 5 rB) [some (.ref n), some (mpD r c), some (ordD p), some (jtD r c), some (croD p (jts r c)), v5, v6, v7, v8, v9, v10, v11, v12, v13] (T M)).sat fun f M' => ∃ vs x, f = .nx [some (.ref n), some (mpD r c), some (ordD p), some (jtD r c), some (croD p (jts r c)), v5, v6, v7, some (.lst vs), x, v10, v11, v12, v13] ∧ vs.length ≤ 300 ∧ (∀ v ∈ vs, pl 2 v = true) ∧ ∃ a b, M' = T (M.set n (cupM a b)) := by
  obtain ⟨a0, b0, hset, hn⟩ := cup_of hc
  have l17 := jts_len h.m
  have l289 := cro_len (p := p) h.m
  unfold rB fd__law_right
  simp [sAt]
  refine sat_only.mpr (compL_sat (fun i acc M' => acc.length ≤ i ∧ (∀ d ∈ acc, pl 2 d = true) ∧ ∃ a b, M' = T (M.set n (cupM a b))) _ 0 _ _ ⟨by simp, by simp, a0, b0, by rw [← hset]⟩ ?_ ?_)
  · rintro i y M' acc hy ⟨hl2, hg2, a', b', hM'⟩
    rw [hM']
    have hi4 : i < 4 := by
      have := (List.getElem?_eq_some_iff.mp hy).1
      exact this
    rw [Nat.zero_add] at *
    have hc : Cup (M.set n (cupM a' b')) n := ⟨a', b', List.getElem?_set_self hn⟩
    obtain ⟨d, M2, e, r1, a2, b2, rfl, r10, r11, rfl⟩ := (roll_spec (k := k + 8) (m := ((jts r c).length : Int) + 1) hc (by omega) (by omega)).ex
    rw [List.set_set] at e
    have hc2 : Cup (M.set n (cupM a2 b2)) n := ⟨a2, b2, List.getElem?_set_self hn⟩
    obtain ⟨d, M2, e2, r2, a3, b3, rfl, r20, r21, rfl⟩ := (roll_spec (k := k + 8) (m := ((jts r c).length : Int) + 1) hc2 (by omega) (by omega)).ex
    rw [List.set_set] at e2
    have z : acc.length < 16777216 := by omega
    simp [wipeE, e, e2, LINE]
    refine ⟨z, by omega, fun d hd => ?_, a3, b3, rfl⟩
    rcases hd with hd | hd
    · exact hg2 d hd
    · rw [hd]; rfl
  · rintro acc M' ⟨hl2, hg2, a', b', hM'⟩
    rw [hM']
    have hl3 : acc.length ≤ 4 := hl2
    have cl := cutL_len (xs := (cro p (jts r c)).map prD) (a := none) (b := some 3)
    rw [List.length_map] at cl
    have cm : ∀ d ∈ cutL ((cro p (jts r c)).map prD) none (some 3), pl 2 d = true := fun d hd => by
      obtain ⟨x, _, rfl⟩ := List.mem_map.mp (cutL_mem hd)
      rfl
    generalize cutL ((cro p (jts r c)).map prD) none (some 3) = X at cl cm
    have z : X.length + acc.length ≤ 16777216 := by omega
    simp [LINE, z]
    refine ⟨by omega, fun d hd => ?_, a', b', rfl⟩
    rcases hd with hd | hd
    · exact cm d hd
    · exact hg2 d hd
theorem right_6 (h : St p r c) {vs : List D} (hv : vs.length ≤ 300) (hp : ∀ v ∈ vs, pl 2 v = true) : (exS cs (callP cs prog (k + 9)) (sAt 6 rB) [some (.ref n), some (mpD r c), some (ordD p), v3, some (croD p (jts r c)), v5, v6, v7, some (.lst vs), v9, v10, v11, v12, v13] (T M)).sat fun f M' => ∃ x y z w, f = .nx [some (.ref n), some (mpD r c), some (ordD p), v3, some (croD p (jts r c)), v5, v6, x, some (.lst vs), v9, y, z, w, v13] ∧ M' = T M := by
  have l289 := cro_len (p := p) h.m
  unfold rB fd__law_right
  have z1 : vs.length + 6 ≤ 16777216 := by omega
  simp [sAt, LINE, z1]
  rw [cutL_map, compL_mmap (g := fun x => prD (x.2, x.1)) _ _ (fun x hx => by simp [wipeE]) (by have := cutL_len (xs := cro p (jts r c)) (a := none) (b := some 2); simp [LINE]; omega)]
  have cl := cutL_len (xs := cro p (jts r c)) (a := none) (b := some 2)
  generalize cutL (cro p (jts r c)) none (some 2) = Y at cl
  have z2 : vs.length + 6 + Y.length ≤ 16777216 := by omega
  have z2' : vs.length + (Y.length + 6) ≤ 16777216 := by omega
  have z3 : vs.length + (6 + Y.length) ≤ 16777216 := by omega
  have z4 : vs.length + (Y.length + 1 + 1 + 1 + 1 + 1 + 1) ≤ 16777216 := by omega
  simp [LINE, z2, z2', z3, z4]
  have hW : ∀ v ∈ vs ++ D.tup [D.int 1, D.int 0] :: D.tup [D.bl true, D.int 2] :: D.non :: D.tup [D.int 0] :: D.lst [D.int 0, D.int 1] :: D.tup [] :: List.map (fun x : Nat × Nat => prD (x.2, x.1)) Y, pl 2 v = true := fun v hv => by
    rcases List.mem_append.mp hv with hv | hv
    · exact hp v hv
    · simp only [List.mem_cons] at hv
      rcases hv with rfl | rfl | rfl | rfl | rfl | rfl | hv
      · rfl
      · rfl
      · rfl
      · rfl
      · rfl
      · rfl
      · obtain ⟨x, _, rfl⟩ := List.mem_map.mp hv
        rfl
  generalize (vs ++ D.tup [D.int 1, D.int 0] :: D.tup [D.bl true, D.int 2] :: D.non :: D.tup [D.int 0] :: D.lst [D.int 0, D.int 1] :: D.tup [] :: List.map (fun x : Nat × Nat => prD (x.2, x.1)) Y) = W at hW
  refine forL_sat (fun j env M' => ∃ x y z w, env = [some (.ref n), some (mpD r c), some (ordD p), v3, some (croD p (jts r c)), v5, v6, x, some (.lst vs), v9, y, z, w, v13] ∧ M' = T M) _ 0 _ _ ⟨_, _, _, _, rfl, rfl⟩ ?_ ?_
  · rintro j v env M' hx ⟨x, y, z, w, rfl, hM⟩
    rw [hM]
    have hp := hW v (List.mem_of_getElem? hx)
    have e1 := docross_spec (k := k + 4) (M := M) (n := 1) h hp
    have e2 := like_spec 0 (k + 7) M (.bl (inC p (jts r c) v)) rfl
    have el := fun y : Nat × Nat => like_gen 2 (k + 5) M (prD y) v rfl hp
    have ei : ((cro p (jts r c)).filter fun y => D.beq v (prD y)).isEmpty = !inC p (jts r c) v := by
      rw [filter_empty]
      unfold inC
      rw [List.all_eq_not_any_not]
      simp
    have en := eqD_map0 (M := M) (l := (cro p (jts r c)).filter fun y => D.beq v (prD y)) (g := fun _ => D.int 1) (fun x => dep_int)
    rw [ei] at en
    simp
    rw [likes h (v := v) (n := 1) hp (fun y => by
      have e := el y
      rw [beq_symm] at e
      cases hb : D.beq v (prD y) with
      | true =>
        rw [hb] at e
        simp [wipeE, e]
      | false =>
        rw [hb] at e
        simp [wipeE, e])]
    simp [LINE, en, e1, e2]
  · rintro env M' ⟨x, y, z, w, rfl, hM⟩
    exact ⟨⟨_, _, _, _, rfl⟩, hM⟩
theorem right_7 (hc : Cup M n) (h : St p r c) : (exS cs (callP cs prog (k + 9)) (sAt 7 rB) [some (.ref n), some (mpD r c), some (ordD p), v3, v4, v5, v6, v7, v8, v9, v10, v11, v12, v13] (T M)).sat fun f M' => ∃ x, f = .nx [some (.ref n), some (mpD r c), some (ordD p), v3, v4, v5, v6, v7, v8, v9, x, v11, v12, v13] ∧ ∃ a b, M' = T (M.set n (cupM a b)) := by
  obtain ⟨a0, b0, hset, hn⟩ := cup_of hc
  have l12 : p.length ≤ 12 := by have := h.len; have := h.m.le; omega
  obtain ⟨d1, M2, e1, hd1, a1, b1, rfl⟩ := (bent_spec (k := k + 4) hc h).ex
  obtain ⟨d2, M2, e2, hd2, a2, b2, rfl⟩ := (bent_spec (k := k + 4) (hc.set a1 b1) h).ex
  rw [List.set_set] at e2
  have z1 : p.length + 1 ≤ 16777216 := by omega
  have c1 : ∀ xs : List D, cutL xs none (some 1) = xs.take 1 := fun xs => cutL_to (n := 1)
  have z2 : ((p.map nD).take 1).length ≤ 1000 := by rw [List.length_take]; omega
  have z3 : min 1 p.length ≤ 1000 := by omega
  have z4 : (p.length : Int) ≤ 1000 := by omega
  have z5 : (-1000 : Int) ≤ (p.length : Int) := by omega
  unfold rB fd__law_right
  simp [sAt, e1, e2, LINE, z1, c1, z3, z4, z5]
  have mem : ∀ l : List Nat, ∀ d ∈ l.map nD, pl 3 d = true := fun l d hd => by
    obtain ⟨i, _, rfl⟩ := List.mem_map.mp hd
    rfl
  have hW : ∀ v ∈ [d1, d2, D.tup (List.map nD p).tail, D.tup (List.map nD p ++ [D.int (p.length : Int)]), D.lst (List.map nD p), D.non, D.tup (List.replicate p.length (List.take 1 (List.map nD p))).flatten], pl 4 v = true := fun v hv => by
    simp only [List.mem_cons, List.not_mem_nil, or_false] at hv
    rcases hv with rfl | rfl | rfl | rfl | rfl | rfl | rfl
    · exact hd1
    · exact hd2
    · exact pl_of (by simp; omega) fun d hd => mem p d (List.mem_of_mem_tail hd)
    · refine pl_of (by simp; omega) fun d hd => ?_
      rcases List.mem_append.mp hd with hd | hd
      · exact mem p d hd
      · rw [List.mem_singleton.mp hd]; rfl
    · exact pl_ofl (by simp; omega) (mem p)
    · rfl
    · refine pl_of ?_ fun d hd => ?_
      · rw [List.length_flatten, List.map_replicate, List.sum_replicate_nat, List.length_take, List.length_map]
        have : min 1 p.length ≤ 1 := by omega
        have : p.length * min 1 p.length ≤ 12 * 1 := Nat.mul_le_mul l12 this
        omega
      · obtain ⟨l, hl, hd⟩ := List.mem_flatten.mp hd
        rw [(List.mem_replicate.mp hl).2] at hd
        exact mem p d (List.mem_of_mem_take hd)
  generalize [d1, d2, D.tup (List.map nD p).tail, D.tup (List.map nD p ++ [D.int (p.length : Int)]), D.lst (List.map nD p), D.non, D.tup (List.replicate p.length (List.take 1 (List.map nD p))).flatten] = W at hW
  refine forL_sat (fun j env M' => ∃ x, env = [some (.ref n), some (mpD r c), some (ordD p), v3, v4, v5, v6, v7, v8, v9, x, v11, v12, v13] ∧ M' = T (M.set n (cupM a2 b2))) _ 0 _ _ ⟨_, rfl, rfl⟩ ?_ ?_
  · rintro j v env M' hx ⟨x, rfl, hM⟩
    rw [hM]
    have hp := hW v (List.mem_of_getElem? hx)
    have e1 := ismapstack_spec (k := k + 5) (n := 3) (M := M.set n (cupM a2 b2)) h.m hp
    have e2 := lisstack_spec (k := k + 7) (n := 3) (M := M.set n (cupM a2 b2)) h.m (by omega) hp
    have e3 := like_spec 0 (k + 7) (M.set n (cupM a2 b2)) (.bl (stkB (r * c) v)) rfl
    generalize stkB (r * c) v = B at e1 e2 e3
    simp [e1, e2, e3]
  · rintro env M' ⟨x, rfl, hM⟩
    exact ⟨⟨_, rfl⟩, a2, b2, hM⟩
theorem right_8 (hc : Cup M n) (h : St p r c) : (exS cs (callP cs prog (k + 9)) (sAt 8 rB) [some (.ref n), some (mpD r c), some (ordD p), v3, v4, v5, v6, v7, v8, v9, v10, v11, v12, v13] (T M)).sat fun f M' => ∃ ms, f = .nx [some (.ref n), some (mpD r c), some (ordD p), v3, v4, v5, v6, v7, v8, v9, v10, v11, v12, some (tS ms)] ∧ Told ms r c ∧ ∃ a b, M' = T (M.set n (cupM a b)) := by
  have l17 := jts_len h.m
  have e1 := lmarks_spec (k := k + 7) (M := M) h
  have ml := mksL_len (p := p) (r := r) (c := c)
  obtain ⟨d, M2, e2, ms, a, b, rfl, hl, hk, rfl⟩ := (told_spec (k := k + 6) (l := mksL p r c) hc (by omega) (fun x hx => mks_ok x hx)).ex
  unfold rB fd__law_right
  simp [sAt, e1, e2]
  exact ⟨⟨by omega, hk⟩, a, b, rfl⟩
theorem nats_pl {l : List Nat} {n : Nat} (h : l.length ≤ 1000) : pl (n + 1) (.tup (l.map nD)) = true := by
  refine pl_of (by rw [List.length_map]; exact h) fun x hx => ?_
  obtain ⟨i, _, rfl⟩ := List.mem_map.mp hx
  cases n <;> rfl
theorem bads_len {ms : List Nat} (m : Mp r c) : (bads r c ms).length ≤ 12 := by
  unfold bads
  refine Nat.le_trans (List.length_filter_le _ _) ?_
  rw [List.length_range]
  exact m.le
theorem right_9 (m : Mp r c) {ms : List Nat} (h : Told ms r c) : exS cs (callP cs prog (k + 9)) (sAt 9 rB) [some (.ref n), some (mpD r c), some (ordD p), v3, v4, v5, v6, v7, v8, v9, v10, v11, v12, some (tS ms)] (T M) = .ok (.nx [some (.ref n), some (mpD r c), some (ordD p), v3, v4, v5, v6, v7, v8, v9, v10, v11, v12, some (tS ms)]) (T M) := by
  have e1 := badcorners_spec (k := k + 4) (M := M) m h
  have e2 := lbad_spec (k := k + 7) (M := M) m h
  have bl := bads_len (ms := ms) m
  have e3 := like_spec 1 (k + 6) M (.tup ((bads r c ms).map nD)) (nats_pl (by omega))
  have z : (bads r c ms).length ≤ 16777216 := by omega
  unfold rB fd__law_right
  simp [sAt, e1, e2, e3, LINE, z]
theorem right_10 (h : St p r c) : exS cs (callP cs prog (k + 9)) (sAt 10 rB) [some (.ref n), some (mpD r c), some (ordD p), v3, some (croD p (jts r c)), v5, v6, v7, v8, v9, v10, v11, v12, v13] (T M) = .ok (.nx [some (.ref n), some (mpD r c), some (ordD p), v3, some (croD p (jts r c)), v5, v6, v7, v8, v9, v10, v11, v12, v13]) (T M) := by
  have lm := lmarks_spec (k := k + 7) (M := M) h
  have ec := eqC (M := M) (p := p) (js := jts r c)
  unfold rB fd__law_right
  by_cases hr : r = 1
  · subst hr
    by_cases hc : c ≤ 10
    · have hc' : (c : Int) ≤ 10 := by omega
      have o := row_ord h hc
      have e1 := folded_spec (k := k + 4) (M := M) o
      have e2 := marksof_spec (k := k + 5) (M := M) o
      have em : mkS p = mksS p 1 c := by unfold mkS mksS; rw [row_marks h]
      rw [← row_cro h] at e1
      rw [em] at e2
      have hL : pl 1 (.lst [.bl (cro p (jts 1 c)).isEmpty, .str (mksS p 1 c)]) = true := by
        refine pl_ofl (by simp) ?_
        simp only [List.forall_mem_cons]
        exact ⟨rfl, marks_pl h.m, by simp⟩
      have e3 := like_spec 1 (k + 6) M _ hL
      simp [sAt, hc', e1, e2, e3, lm, ec, LINE]
    · have hc' : ¬ (c : Int) ≤ 10 := by omega
      simp [sAt, hc']
  · have hr' : ((r : Int) == 1) = false := beq_eq_false_iff_ne.mpr (by omega)
    simp [sAt, hr', hr]
theorem right_11 (h : St p r c) : exS cs (callP cs prog (k + 9)) (sAt 11 rB) [some (.ref n), some (mpD r c), some (ordD p), v3, some (croD p (jts r c)), v5, v6, v7, v8, v9, v10, v11, v12, v13] (T M) = .ok (.rt (.bl true)) (T M) := by
  have lm := lmarks_spec (k := k + 7) (M := M) h
  have ec := eqC (M := M) (p := p) (js := jts r c)
  have e1 := badcorners_spec (k := k + 4) (M := M) h.m (mks_told (p := p))
  unfold rB fd__law_right
  cases he : (cro p (jts r c)).isEmpty with
  | true =>
    rw [he] at ec
    rw [flat_good h.m h.ip h.len (List.isEmpty_iff.mp he)] at e1
    have et : eqD (T M) (.tup []) (.tup []) = some true := eqD_tnil fun x hx => by cases hx
    simp at e1
    simp [sAt, ec, lm, e1, et, LINE]
  | false =>
    rw [he] at ec
    simp [sAt, ec, LINE]
theorem right_spec (hc : Cup M n) (h : St p r c) : (callP cs prog (k + 10) 53 [.ref n, mpD r c, ordD p] (T M)).sat fun d M' => d = .bl true ∧ ∃ a b, M' = T (M.set n (cupM a b)) := by
  rw [callP_mut (fd := fd__law_right) rfl rfl rfl]
  unfold goF
  show (fin (T M) (flowD (exSs cs (callP cs prog (k + 9)) (dropS 0 rB) [some (.ref n), some (mpD r c), some (ordD p), none, none, none, none, none, none, none, none, none, none, none] (T M)))).sat _
  rw [step_nx 0 rfl (right_0 h), step_nx 1 rfl (right_1 h), step_nx 2 rfl (right_2 h), step_nx 3 rfl (right_3 h), step_nx 4 rfl (right_4 h)]
  refine step_run 5 rfl ((right_5 hc h).mono fun f M' q => ?_)
  obtain ⟨vs, x, rfl, hv, hp, a, b, rfl⟩ := q
  rw [nextF_nx]
  refine step_run 6 rfl ((right_6 h hv hp).mono fun f M' q => ?_)
  obtain ⟨x, y, z, w, rfl, hM⟩ := q
  rw [hM, nextF_nx]
  refine step_run 7 rfl ((right_7 (hc.set a b) h).mono fun f M' q => ?_)
  obtain ⟨x, rfl, a2, b2, rfl⟩ := q
  rw [nextF_nx, List.set_set]
  refine step_run 8 rfl ((right_8 (hc.set a2 b2) h).mono fun f M' q => ?_)
  obtain ⟨ms, rfl, ht, a3, b3, rfl⟩ := q
  rw [nextF_nx, List.set_set, step_nx 9 rfl (right_9 h.m ht), step_nx 10 rfl (right_10 h)]
  rw [show dropS (10 + 1) rB = .cons (sAt 11 rB) .nil from rfl, exSs_cons, right_11 h, R.bind_ok, nextF_rt, flowD_rt, finS (d := .bl true) rfl low_cup]
  exact ⟨rfl, a3, b3, rfl⟩
end
end Gk31

set_option Elab.async false
set_option linter.all false
set_option maxRecDepth 100000
set_option maxHeartbeats 4000000
namespace Gk31
open RF
open PySem (Str Operator CmpOp)
theorem wr {M : Mh} : callP cs prog 59 54 [] (T M) = .ok (.bl true) (T M) := callP_dec (fd := fd__law_written_right) rfl rfl rfl rfl (by decide +kernel)
theorem line_of {c : Nat} (h1 : 2 ≤ c) (h2 : c ≤ 10) : Mp 1 c := ⟨by omega, by omega, by omega⟩
theorem law_plain : ∀ ns : List Int, ns.length ≤ 63 → ∃ M, callP cs prog 60 55 [.lst (ns.map D.int)] [] = .ok (.bl true) M := by
  intro ns hn
  refine ⟨[], ?_⟩
  show callP cs prog 60 55 [.lst (ns.map D.int)] (T []) = .ok (.bl true) (T [])
  refine callP_pure (fd := fd_law) rfl rfl (by simp) rfl ?_
  unfold goF fd_law
  obtain ⟨d, M2, e, a, b, rfl, rfl⟩ := (cup_spec (k := 58) (M := []) hn).ex
  have hc : Cup ([] ++ [cupM a b]) 0 := ⟨a, b, rfl⟩
  simp at e
  simp [e, LINE]
  refine go_bind (forL_sat (fun j env M' => ∃ x y z w v a b, env = [some (.lst (ns.map D.int)), some (.ref 0), x, y, z, w, v] ∧ M' = T [cupM a b]) _ 0 _ _ ⟨_, _, _, _, _, a, b, rfl, rfl⟩ ?_ ?_)
  · rintro j x env M' hx ⟨x1, x2, x3, x4, x5, a, b, rfl, rfl⟩
    have hm : ∃ m : Nat, x = .int (m : Int) ∧ 1 ≤ m ∧ m ≤ 12 := by
      have := List.mem_of_getElem? hx
      simp only [List.mem_cons, List.not_mem_nil, or_false] at this
      rcases this with rfl | rfl | rfl
      · exact ⟨4, rfl, by omega, by omega⟩
      · exact ⟨9, rfl, by omega, by omega⟩
      · exact ⟨12, rfl, by omega, by omega⟩
    obtain ⟨m, rfl, m1, m12⟩ := hm
    have hc : Cup [cupM a b] 0 := ⟨a, b, rfl⟩
    obtain ⟨d, M2, e1, r, c, a1, b1, rfl, mp, rfl⟩ := (lmap_spec (k := 56) hc m1 m12).ex
    obtain ⟨d, M2, e2, p1, a2, b2, rfl, s1, rfl⟩ := (drawn_spec (k := 55) (hc.set a1 b1) mp).ex
    obtain ⟨d, M2, e3, p2, a3, b3, rfl, ip, il, rfl⟩ := (line_spec (k := 57) (m := r * c) (hc.set a2 b2) mp.le).ex
    have s2 : St p2 r c := ⟨mp, ip, il⟩
    have e4 := fun M => rup_spec (k := 58) (M := M) mp
    have s3 := rup_st mp
    obtain ⟨q1, q2, q3⟩ := mul_ok mp
    have em : (r : Int) * (c : Int) = ((r * c : Nat) : Int) := by push_cast; rfl
    have n12 := mp.le
    have n1 := mp.n1
    have st : ∀ p, p ∈ [p1, p2, rup r c] → St p r c := fun p hp => by
      simp only [List.mem_cons, List.not_mem_nil, or_false] at hp
      rcases hp with rfl | rfl | rfl
      · exact s1
      · exact s2
      · exact s3
    have z1 : p2.length ≤ 16777216 := by omega
    generalize r * c = N at *
    have z2 : N ≤ 16777216 := by omega
    simp at e2 e3
    simp [e1, q1, em, e2, q2, q3, z2, LINE, e3, z1, e4]
    rw [show ([ordD p1, D.tup (List.map nD p2), ordD (rup r c)] : List D) = [p1, p2, rup r c].map ordD from rfl]
    generalize [p1, p2, rup r c] = W at st
    refine sat_bind.mpr (forL_sat (fun j env M' => ∃ w v a b, env = [some (.lst (ns.map D.int)), some (.ref 0), some (.int (m : Int)), some (mpD r c), some (.int (N : Int)), w, v] ∧ M' = T [cupM a b]) _ 0 _ _ ⟨_, _, a3, b3, rfl, rfl⟩ ?_ ?_)
    · rintro j y env M' hy ⟨w, v, a, b, rfl, rfl⟩
      obtain ⟨p, hp, rfl⟩ := List.mem_map.mp (List.mem_of_getElem? hy)
      have hc : Cup [cupM a b] 0 := ⟨a, b, rfl⟩
      obtain ⟨d, M2, e5, rfl, a5, b5, rfl⟩ := (right_spec (k := 49) hc (st p hp)).ex
      simp at e5
      simp [e5]
      exact ⟨a5, b5, rfl⟩
    · rintro env M' ⟨w, v, a, b, rfl, rfl⟩
      simp
      exact ⟨a, b, rfl⟩
  · rintro env M' ⟨x1, x2, x3, x4, x5, a, b, rfl, rfl⟩
    have hc : Cup [cupM a b] 0 := ⟨a, b, rfl⟩
    obtain ⟨d, M2, e1, i, a1, b1, rfl, i0, i1, rfl⟩ := (roll_spec (k := 58) (m := 9) hc (by omega) (by omega)).ex
    obtain ⟨i, rfl, hi⟩ := nat_of (m := 9) i0 i1
    have mp : Mp 1 (i + 2) := ⟨by omega, by omega, by omega⟩
    obtain ⟨d, M2, e2, p, a2, b2, rfl, s1, rfl⟩ := (drawn_spec (k := 55) (hc.set a1 b1) mp).ex
    obtain ⟨d, M2, e3, rfl, a3, b3, rfl⟩ := (right_spec (k := 49) ((hc.set a1 b1).set a2 b2) s1).ex
    have em : mpD 1 (i + 2) = .tup [.int 1, .int (2 + (i : Int))] := by simp; omega
    rw [em] at e2 e3
    simp at e1 e2 e3
    simp [e1, LINE, e2, e3, wr]
end Gk31

set_option Elab.async false
set_option linter.all false
set_option maxRecDepth 100000
set_option maxHeartbeats 4000000
open PySem (Str)
namespace Gk31
open RF
def topS (i : Nat) : PySem.Stmt := PySem.Challenge.pw_allfolded_k31_whole_maps_and_stacks.main.body.getD i (.Pass ⟨0, 0, 0, 0⟩)
def tab : RF.Tab := ⟨cs, cns, fns, [], blt⟩
theorem sc_is_whole : L2.FnScope nm_is_whole [Str.ofString "value", Str.ofString "low", Str.ofString "high"] (L2.defScope (topS 6)) := ⟨rfl, rfl, rfl, by decide +kernel, rfl, by decide +kernel, by decide +kernel⟩
theorem ck_is_whole : RF.chkSs tab nm_is_whole (L2.defScope (topS 6)) fd_is_whole.body (L2.defBody (topS 6)) = true := by decide +kernel
theorem sc_is_tuple_of : L2.FnScope nm_is_tuple_of [Str.ofString "value", Str.ofString "low", Str.ofString "high"] (L2.defScope (topS 7)) := ⟨rfl, rfl, rfl, by decide +kernel, rfl, by decide +kernel, by decide +kernel⟩
theorem ck_is_tuple_of : RF.chkSs tab nm_is_tuple_of (L2.defScope (topS 7)) fd_is_tuple_of.body (L2.defBody (topS 7)) = true := by decide +kernel
theorem sc_fits_map : L2.FnScope nm_fits_map [Str.ofString "value"] (L2.defScope (topS 13)) := ⟨rfl, rfl, rfl, by decide +kernel, rfl, by decide +kernel, by decide +kernel⟩
theorem ck_fits_map : RF.chkSs tab nm_fits_map (L2.defScope (topS 13)) fd_fits_map.body (L2.defBody (topS 13)) = true := by decide +kernel
theorem sc_need_map : L2.FnScope nm_need_map [Str.ofString "value"] (L2.defScope (topS 14)) := ⟨rfl, rfl, rfl, by decide +kernel, rfl, by decide +kernel, by decide +kernel⟩
theorem ck_need_map : RF.chkSs tab nm_need_map (L2.defScope (topS 14)) fd_need_map.body (L2.defBody (topS 14)) = true := by decide +kernel
theorem sc_is_odd_leaf : L2.FnScope nm_is_odd_leaf [Str.ofString "map_pair", Str.ofString "leaf"] (L2.defScope (topS 15)) := ⟨rfl, rfl, rfl, by decide +kernel, rfl, by decide +kernel, by decide +kernel⟩
theorem ck_is_odd_leaf : RF.chkSs tab nm_is_odd_leaf (L2.defScope (topS 15)) fd_is_odd_leaf.body (L2.defBody (topS 15)) = true := by decide +kernel
theorem sc_joints_in : L2.FnScope nm_joints_in [Str.ofString "map_pair"] (L2.defScope (topS 16)) := ⟨rfl, rfl, rfl, by decide +kernel, rfl, by decide +kernel, by decide +kernel⟩
theorem ck_joints_in : RF.chkSs tab nm_joints_in (L2.defScope (topS 16)) fd_joints_in.body (L2.defBody (topS 16)) = true := by decide +kernel
theorem sc_fits_map_stack : L2.FnScope nm_fits_map_stack [Str.ofString "map_pair", Str.ofString "value"] (L2.defScope (topS 17)) := ⟨rfl, rfl, rfl, by decide +kernel, rfl, by decide +kernel, by decide +kernel⟩
theorem ck_fits_map_stack : RF.chkSs tab nm_fits_map_stack (L2.defScope (topS 17)) fd_fits_map_stack.body (L2.defBody (topS 17)) = true := by decide +kernel
theorem sc_spots_in : L2.FnScope nm_spots_in [Str.ofString "stack"] (L2.defScope (topS 18)) := ⟨rfl, rfl, rfl, by decide +kernel, rfl, by decide +kernel, by decide +kernel⟩
theorem ck_spots_in : RF.chkSs tab nm_spots_in (L2.defScope (topS 18)) fd_spots_in.body (L2.defBody (topS 18)) = true := by decide +kernel
theorem sc_do_take_turns : L2.FnScope nm_do_take_turns [Str.ofString "spots", Str.ofString "joint", Str.ofString "other"] (L2.defScope (topS 19)) := ⟨rfl, rfl, rfl, by decide +kernel, rfl, by decide +kernel, by decide +kernel⟩
theorem ck_do_take_turns : RF.chkSs tab nm_do_take_turns (L2.defScope (topS 19)) fd_do_take_turns.body (L2.defBody (topS 19)) = true := by decide +kernel
theorem sc_joint_crossings : L2.FnScope nm_joint_crossings [Str.ofString "map_pair", Str.ofString "stack"] (L2.defScope (topS 20)) := ⟨rfl, rfl, rfl, by decide +kernel, rfl, by decide +kernel, by decide +kernel⟩
theorem ck_joint_crossings : RF.chkSs tab nm_joint_crossings (L2.defScope (topS 20)) fd_joint_crossings.body (L2.defBody (topS 20)) = true := by decide +kernel
theorem sc_need_map_stack : L2.FnScope nm_need_map_stack [Str.ofString "map_pair", Str.ofString "stack"] (L2.defScope (topS 21)) := ⟨rfl, rfl, rfl, by decide +kernel, rfl, by decide +kernel, by decide +kernel⟩
theorem ck_need_map_stack : RF.chkSs tab nm_need_map_stack (L2.defScope (topS 21)) fd_need_map_stack.body (L2.defBody (topS 21)) = true := by decide +kernel
theorem sc_joint_mark : L2.FnScope nm_joint_mark [Str.ofString "map_pair", Str.ofString "spots", Str.ofString "joint"] (L2.defScope (topS 22)) := ⟨rfl, rfl, rfl, by decide +kernel, rfl, by decide +kernel, by decide +kernel⟩
theorem ck_joint_mark : RF.chkSs tab nm_joint_mark (L2.defScope (topS 22)) fd_joint_mark.body (L2.defBody (topS 22)) = true := by decide +kernel
theorem sc_map_marks_in : L2.FnScope nm_map_marks_in [Str.ofString "map_pair", Str.ofString "stack"] (L2.defScope (topS 23)) := ⟨rfl, rfl, rfl, by decide +kernel, rfl, by decide +kernel, by decide +kernel⟩
theorem ck_map_marks_in : RF.chkSs tab nm_map_marks_in (L2.defScope (topS 23)) fd_map_marks_in.body (L2.defBody (topS 23)) = true := by decide +kernel
theorem sc_fits_told : L2.FnScope nm_fits_told [Str.ofString "map_pair", Str.ofString "value"] (L2.defScope (topS 24)) := ⟨rfl, rfl, rfl, by decide +kernel, rfl, by decide +kernel, by decide +kernel⟩
theorem ck_fits_told : RF.chkSs tab nm_fits_told (L2.defScope (topS 24)) fd_fits_told.body (L2.defBody (topS 24)) = true := by decide +kernel
theorem sc_need_map_marks : L2.FnScope nm_need_map_marks [Str.ofString "map_pair", Str.ofString "marks"] (L2.defScope (topS 25)) := ⟨rfl, rfl, rfl, by decide +kernel, rfl, by decide +kernel, by decide +kernel⟩
theorem ck_need_map_marks : RF.chkSs tab nm_need_map_marks (L2.defScope (topS 25)) fd_need_map_marks.body (L2.defBody (topS 25)) = true := by decide +kernel
theorem sc_corner_joints : L2.FnScope nm_corner_joints [Str.ofString "map_pair", Str.ofString "leaf"] (L2.defScope (topS 26)) := ⟨rfl, rfl, rfl, by decide +kernel, rfl, by decide +kernel, by decide +kernel⟩
theorem ck_corner_joints : RF.chkSs tab nm_corner_joints (L2.defScope (topS 26)) fd_corner_joints.body (L2.defBody (topS 26)) = true := by decide +kernel
theorem sc_is_map : L2.FnScope nm_is_map [Str.ofString "value"] (L2.defScope (topS 27)) := ⟨rfl, rfl, rfl, by decide +kernel, rfl, by decide +kernel, by decide +kernel⟩
theorem ck_is_map : RF.chkSs tab nm_is_map (L2.defScope (topS 27)) fd_is_map.body (L2.defBody (topS 27)) = true := by decide +kernel
theorem sc_map_joints : L2.FnScope nm_map_joints [Str.ofString "map_pair"] (L2.defScope (topS 28)) := ⟨rfl, rfl, rfl, by decide +kernel, rfl, by decide +kernel, by decide +kernel⟩
theorem ck_map_joints : RF.chkSs tab nm_map_joints (L2.defScope (topS 28)) fd_map_joints.body (L2.defBody (topS 28)) = true := by decide +kernel
theorem sc_is_map_stack : L2.FnScope nm_is_map_stack [Str.ofString "map_pair", Str.ofString "value"] (L2.defScope (topS 29)) := ⟨rfl, rfl, rfl, by decide +kernel, rfl, by decide +kernel, by decide +kernel⟩
theorem ck_is_map_stack : RF.chkSs tab nm_is_map_stack (L2.defScope (topS 29)) fd_is_map_stack.body (L2.defBody (topS 29)) = true := by decide +kernel
theorem sc_joints_crossing : L2.FnScope nm_joints_crossing [Str.ofString "map_pair", Str.ofString "stack"] (L2.defScope (topS 30)) := ⟨rfl, rfl, rfl, by decide +kernel, rfl, by decide +kernel, by decide +kernel⟩
theorem ck_joints_crossing : RF.chkSs tab nm_joints_crossing (L2.defScope (topS 30)) fd_joints_crossing.body (L2.defBody (topS 30)) = true := by decide +kernel
theorem sc_do_joints_cross : L2.FnScope nm_do_joints_cross [Str.ofString "map_pair", Str.ofString "stack", Str.ofString "value"] (L2.defScope (topS 31)) := ⟨rfl, rfl, rfl, by decide +kernel, rfl, by decide +kernel, by decide +kernel⟩
theorem ck_do_joints_cross : RF.chkSs tab nm_do_joints_cross (L2.defScope (topS 31)) fd_do_joints_cross.body (L2.defBody (topS 31)) = true := by decide +kernel
theorem sc_is_flat_stack : L2.FnScope nm_is_flat_stack [Str.ofString "map_pair", Str.ofString "stack"] (L2.defScope (topS 32)) := ⟨rfl, rfl, rfl, by decide +kernel, rfl, by decide +kernel, by decide +kernel⟩
theorem ck_is_flat_stack : RF.chkSs tab nm_is_flat_stack (L2.defScope (topS 32)) fd_is_flat_stack.body (L2.defBody (topS 32)) = true := by decide +kernel
theorem sc_stack_marks : L2.FnScope nm_stack_marks [Str.ofString "map_pair", Str.ofString "stack"] (L2.defScope (topS 33)) := ⟨rfl, rfl, rfl, by decide +kernel, rfl, by decide +kernel, by decide +kernel⟩
theorem ck_stack_marks : RF.chkSs tab nm_stack_marks (L2.defScope (topS 33)) fd_stack_marks.body (L2.defBody (topS 33)) = true := by decide +kernel
theorem sc_map_bad_corners : L2.FnScope nm_map_bad_corners [Str.ofString "map_pair", Str.ofString "marks"] (L2.defScope (topS 34)) := ⟨rfl, rfl, rfl, by decide +kernel, rfl, by decide +kernel, by decide +kernel⟩
theorem ck_map_bad_corners : RF.chkSs tab nm_map_bad_corners (L2.defScope (topS 34)) fd_map_bad_corners.body (L2.defBody (topS 34)) = true := by decide +kernel
theorem sc_fits_order : L2.FnScope nm_fits_order [Str.ofString "value"] (L2.defScope (topS 37)) := ⟨rfl, rfl, rfl, by decide +kernel, rfl, by decide +kernel, by decide +kernel⟩
theorem ck_fits_order : RF.chkSs tab nm_fits_order (L2.defScope (topS 37)) fd_fits_order.body (L2.defBody (topS 37)) = true := by decide +kernel
theorem sc_need_order : L2.FnScope nm_need_order [Str.ofString "value"] (L2.defScope (topS 38)) := ⟨rfl, rfl, rfl, by decide +kernel, rfl, by decide +kernel, by decide +kernel⟩
theorem ck_need_order : RF.chkSs tab nm_need_order (L2.defScope (topS 38)) fd_need_order.body (L2.defBody (topS 38)) = true := by decide +kernel
theorem sc_heights_of : L2.FnScope nm_heights_of [Str.ofString "order"] (L2.defScope (topS 39)) := ⟨rfl, rfl, rfl, by decide +kernel, rfl, by decide +kernel, by decide +kernel⟩
theorem ck_heights_of : RF.chkSs tab nm_heights_of (L2.defScope (topS 39)) fd_heights_of.body (L2.defBody (topS 39)) = true := by decide +kernel
theorem sc_do_cross : L2.FnScope nm_do_cross [Str.ofString "one", Str.ofString "other"] (L2.defScope (topS 40)) := ⟨rfl, rfl, rfl, by decide +kernel, rfl, by decide +kernel, by decide +kernel⟩
theorem ck_do_cross : RF.chkSs tab nm_do_cross (L2.defScope (topS 40)) fd_do_cross.body (L2.defBody (topS 40)) = true := by decide +kernel
theorem sc_creases_in : L2.FnScope nm_creases_in [Str.ofString "order"] (L2.defScope (topS 41)) := ⟨rfl, rfl, rfl, by decide +kernel, rfl, by decide +kernel, by decide +kernel⟩
theorem ck_creases_in : RF.chkSs tab nm_creases_in (L2.defScope (topS 41)) fd_creases_in.body (L2.defBody (topS 41)) = true := by decide +kernel
theorem sc_crossings_in : L2.FnScope nm_crossings_in [Str.ofString "order"] (L2.defScope (topS 42)) := ⟨rfl, rfl, rfl, by decide +kernel, rfl, by decide +kernel, by decide +kernel⟩
theorem ck_crossings_in : RF.chkSs tab nm_crossings_in (L2.defScope (topS 42)) fd_crossings_in.body (L2.defBody (topS 42)) = true := by decide +kernel
theorem sc_is_flat : L2.FnScope nm_is_flat [Str.ofString "order"] (L2.defScope (topS 43)) := ⟨rfl, rfl, rfl, by decide +kernel, rfl, by decide +kernel, by decide +kernel⟩
theorem ck_is_flat : RF.chkSs tab nm_is_flat (L2.defScope (topS 43)) fd_is_flat.body (L2.defBody (topS 43)) = true := by decide +kernel
theorem sc_mark_of : L2.FnScope nm_mark_of [Str.ofString "crease", Str.ofString "pair"] (L2.defScope (topS 44)) := ⟨rfl, rfl, rfl, by decide +kernel, rfl, by decide +kernel, by decide +kernel⟩
theorem ck_mark_of : RF.chkSs tab nm_mark_of (L2.defScope (topS 44)) fd_mark_of.body (L2.defBody (topS 44)) = true := by decide +kernel
theorem sc_marks_in : L2.FnScope nm_marks_in [Str.ofString "order"] (L2.defScope (topS 45)) := ⟨rfl, rfl, rfl, by decide +kernel, rfl, by decide +kernel, by decide +kernel⟩
theorem ck_marks_in : RF.chkSs tab nm_marks_in (L2.defScope (topS 45)) fd_marks_in.body (L2.defBody (topS 45)) = true := by decide +kernel
theorem sc_is_folded : L2.FnScope nm_is_folded [Str.ofString "order"] (L2.defScope (topS 46)) := ⟨rfl, rfl, rfl, by decide +kernel, rfl, by decide +kernel, by decide +kernel⟩
theorem ck_is_folded : RF.chkSs tab nm_is_folded (L2.defScope (topS 46)) fd_is_folded.body (L2.defBody (topS 46)) = true := by decide +kernel
theorem sc_marks_of : L2.FnScope nm_marks_of [Str.ofString "order"] (L2.defScope (topS 47)) := ⟨rfl, rfl, rfl, by decide +kernel, rfl, by decide +kernel, by decide +kernel⟩
theorem ck_marks_of : RF.chkSs tab nm_marks_of (L2.defScope (topS 47)) fd_marks_of.body (L2.defBody (topS 47)) = true := by decide +kernel
theorem sc__law_cup : L2.FnScope nm__law_cup [Str.ofString "script"] (L2.defScope (topS 49)) := ⟨rfl, rfl, rfl, by decide +kernel, rfl, by decide +kernel, by decide +kernel⟩
theorem ck__law_cup : RF.chkSs tab nm__law_cup (L2.defScope (topS 49)) fd__law_cup.body (L2.defBody (topS 49)) = true := by decide +kernel
theorem sc__law_roll : L2.FnScope nm__law_roll [Str.ofString "cup", Str.ofString "many"] (L2.defScope (topS 50)) := ⟨rfl, rfl, rfl, by decide +kernel, rfl, by decide +kernel, by decide +kernel⟩
theorem ck__law_roll : RF.chkSs tab nm__law_roll (L2.defScope (topS 50)) fd__law_roll.body (L2.defBody (topS 50)) = true := by decide +kernel
theorem sc__law_some : L2.FnScope nm__law_some [Str.ofString "cup", Str.ofString "things"] (L2.defScope (topS 51)) := ⟨rfl, rfl, rfl, by decide +kernel, rfl, by decide +kernel, by decide +kernel⟩
theorem ck__law_some : RF.chkSs tab nm__law_some (L2.defScope (topS 51)) fd__law_some.body (L2.defBody (topS 51)) = true := by decide +kernel
theorem sc__law_sort : L2.FnScope nm__law_sort [Str.ofString "value"] (L2.defScope (topS 52)) := ⟨rfl, rfl, rfl, by decide +kernel, rfl, by decide +kernel, by decide +kernel⟩
theorem ck__law_sort : RF.chkSs tab nm__law_sort (L2.defScope (topS 52)) fd__law_sort.body (L2.defBody (topS 52)) = true := by decide +kernel
theorem sc__law_like : L2.FnScope nm__law_like [Str.ofString "one", Str.ofString "other"] (L2.defScope (topS 53)) := ⟨rfl, rfl, rfl, by decide +kernel, rfl, by decide +kernel, by decide +kernel⟩
theorem ck__law_like : RF.chkSs tab nm__law_like (L2.defScope (topS 53)) fd__law_like.body (L2.defBody (topS 53)) = true := by decide +kernel
theorem sc__law_bent : L2.FnScope nm__law_bent [Str.ofString "cup", Str.ofString "value"] (L2.defScope (topS 54)) := ⟨rfl, rfl, rfl, by decide +kernel, rfl, by decide +kernel, by decide +kernel⟩
theorem ck__law_bent : RF.chkSs tab nm__law_bent (L2.defScope (topS 54)) fd__law_bent.body (L2.defBody (topS 54)) = true := by decide +kernel
theorem sc__law_map : L2.FnScope nm__law_map [Str.ofString "cup", Str.ofString "most"] (L2.defScope (topS 55)) := ⟨rfl, rfl, rfl, by decide +kernel, rfl, by decide +kernel, by decide +kernel⟩
theorem ck__law_map : RF.chkSs tab nm__law_map (L2.defScope (topS 55)) fd__law_map.body (L2.defBody (topS 55)) = true := by decide +kernel
theorem sc__law_joints : L2.FnScope nm__law_joints [Str.ofString "map_pair"] (L2.defScope (topS 56)) := ⟨rfl, rfl, rfl, by decide +kernel, rfl, by decide +kernel, by decide +kernel⟩
theorem ck__law_joints : RF.chkSs tab nm__law_joints (L2.defScope (topS 56)) fd__law_joints.body (L2.defBody (topS 56)) = true := by decide +kernel
theorem sc__law_turns : L2.FnScope nm__law_turns [Str.ofString "stack", Str.ofString "joint", Str.ofString "other"] (L2.defScope (topS 57)) := ⟨rfl, rfl, rfl, by decide +kernel, rfl, by decide +kernel, by decide +kernel⟩
theorem ck__law_turns : RF.chkSs tab nm__law_turns (L2.defScope (topS 57)) fd__law_turns.body (L2.defBody (topS 57)) = true := by decide +kernel
theorem sc__law_crossings : L2.FnScope nm__law_crossings [Str.ofString "map_pair", Str.ofString "stack"] (L2.defScope (topS 58)) := ⟨rfl, rfl, rfl, by decide +kernel, rfl, by decide +kernel, by decide +kernel⟩
theorem ck__law_crossings : RF.chkSs tab nm__law_crossings (L2.defScope (topS 58)) fd__law_crossings.body (L2.defBody (topS 58)) = true := by decide +kernel
theorem sc__law_drawn_flat : L2.FnScope nm__law_drawn_flat [Str.ofString "cup", Str.ofString "map_pair"] (L2.defScope (topS 59)) := ⟨rfl, rfl, rfl, by decide +kernel, rfl, by decide +kernel, by decide +kernel⟩
theorem ck__law_drawn_flat : RF.chkSs tab nm__law_drawn_flat (L2.defScope (topS 59)) fd__law_drawn_flat.body (L2.defBody (topS 59)) = true := by decide +kernel
theorem sc__law_rolled_up : L2.FnScope nm__law_rolled_up [Str.ofString "map_pair"] (L2.defScope (topS 60)) := ⟨rfl, rfl, rfl, by decide +kernel, rfl, by decide +kernel, by decide +kernel⟩
theorem ck__law_rolled_up : RF.chkSs tab nm__law_rolled_up (L2.defScope (topS 60)) fd__law_rolled_up.body (L2.defBody (topS 60)) = true := by decide +kernel
theorem sc__law_told : L2.FnScope nm__law_told [Str.ofString "cup", Str.ofString "own", Str.ofString "often"] (L2.defScope (topS 61)) := ⟨rfl, rfl, rfl, by decide +kernel, rfl, by decide +kernel, by decide +kernel⟩
theorem ck__law_told : RF.chkSs tab nm__law_told (L2.defScope (topS 61)) fd__law_told.body (L2.defBody (topS 61)) = true := by decide +kernel
theorem sc__law_line : L2.FnScope nm__law_line [Str.ofString "cup", Str.ofString "things"] (L2.defScope (topS 62)) := ⟨rfl, rfl, rfl, by decide +kernel, rfl, by decide +kernel, by decide +kernel⟩
theorem ck__law_line : RF.chkSs tab nm__law_line (L2.defScope (topS 62)) fd__law_line.body (L2.defBody (topS 62)) = true := by decide +kernel
theorem sc__law_map_marks : L2.FnScope nm__law_map_marks [Str.ofString "map_pair", Str.ofString "stack"] (L2.defScope (topS 63)) := ⟨rfl, rfl, rfl, by decide +kernel, rfl, by decide +kernel, by decide +kernel⟩
theorem ck__law_map_marks : RF.chkSs tab nm__law_map_marks (L2.defScope (topS 63)) fd__law_map_marks.body (L2.defBody (topS 63)) = true := by decide +kernel
theorem sc__law_put : L2.FnScope nm__law_put [Str.ofString "joints", Str.ofString "part", Str.ofString "leaf"] (L2.defScope (topS 64)) := ⟨rfl, rfl, rfl, by decide +kernel, rfl, by decide +kernel, by decide +kernel⟩
theorem ck__law_put : RF.chkSs tab nm__law_put (L2.defScope (topS 64)) fd__law_put.body (L2.defBody (topS 64)) = true := by decide +kernel
theorem sc__law_is_stack : L2.FnScope nm__law_is_stack [Str.ofString "map_pair", Str.ofString "value"] (L2.defScope (topS 65)) := ⟨rfl, rfl, rfl, by decide +kernel, rfl, by decide +kernel, by decide +kernel⟩
theorem ck__law_is_stack : RF.chkSs tab nm__law_is_stack (L2.defScope (topS 65)) fd__law_is_stack.body (L2.defBody (topS 65)) = true := by decide +kernel
theorem sc__law_bad : L2.FnScope nm__law_bad [Str.ofString "map_pair", Str.ofString "told"] (L2.defScope (topS 66)) := ⟨rfl, rfl, rfl, by decide +kernel, rfl, by decide +kernel, by decide +kernel⟩
theorem ck__law_bad : RF.chkSs tab nm__law_bad (L2.defScope (topS 66)) fd__law_bad.body (L2.defBody (topS 66)) = true := by decide +kernel
theorem sc__law_right : L2.FnScope nm__law_right [Str.ofString "cup", Str.ofString "map_pair", Str.ofString "stack"] (L2.defScope (topS 67)) := ⟨rfl, rfl, rfl, by decide +kernel, rfl, by decide +kernel, by decide +kernel⟩
theorem ck__law_right : RF.chkSs tab nm__law_right (L2.defScope (topS 67)) fd__law_right.body (L2.defBody (topS 67)) = true := by decide +kernel
theorem sc__law_written_right : L2.FnScope nm__law_written_right [] (L2.defScope (topS 68)) := ⟨rfl, rfl, rfl, by decide +kernel, rfl, by decide +kernel, by decide +kernel⟩
theorem ck__law_written_right : RF.chkSs tab nm__law_written_right (L2.defScope (topS 68)) fd__law_written_right.body (L2.defBody (topS 68)) = true := by decide +kernel
theorem sc_law : L2.FnScope nm_law [Str.ofString "script"] (L2.defScope (topS 69)) := ⟨rfl, rfl, rfl, by decide +kernel, rfl, by decide +kernel, by decide +kernel⟩
theorem ck_law : RF.chkSs tab nm_law (L2.defScope (topS 69)) fd_law.body (L2.defBody (topS 69)) = true := by decide +kernel
section
open PySem PySem.Spec PyProof.Rows L2
theorem all_mk {P : Program} {w : World} {K : PySem.W.Frag} {h : Heap} {mg : Str → Option Value} {fa : Addr} {od0 an0 : Option Addr} {sl0 : Array (Option Value)} {oc0 kV0 dc0 pm0 cd0 ct0 : Value} {f0 : Addr} {od1 an1 : Option Addr} {sl1 : Array (Option Value)} {oc1 kV1 dc1 pm1 cd1 ct1 : Value} {f1 : Addr} {od2 an2 : Option Addr} {sl2 : Array (Option Value)} {oc2 kV2 dc2 pm2 cd2 ct2 : Value} {f2 : Addr} {od3 an3 : Option Addr} {sl3 : Array (Option Value)} {oc3 kV3 dc3 pm3 cd3 ct3 : Value} {f3 : Addr} {od4 an4 : Option Addr} {sl4 : Array (Option Value)} {oc4 kV4 dc4 pm4 cd4 ct4 : Value} {f4 : Addr} {od5 an5 : Option Addr} {sl5 : Array (Option Value)} {oc5 kV5 dc5 pm5 cd5 ct5 : Value} {f5 : Addr} {od6 an6 : Option Addr} {sl6 : Array (Option Value)} {oc6 kV6 dc6 pm6 cd6 ct6 : Value} {f6 : Addr} {od7 an7 : Option Addr} {sl7 : Array (Option Value)} {oc7 kV7 dc7 pm7 cd7 ct7 : Value} {f7 : Addr} {od8 an8 : Option Addr} {sl8 : Array (Option Value)} {oc8 kV8 dc8 pm8 cd8 ct8 : Value} {f8 : Addr} {od9 an9 : Option Addr} {sl9 : Array (Option Value)} {oc9 kV9 dc9 pm9 cd9 ct9 : Value} {f9 : Addr} {od10 an10 : Option Addr} {sl10 : Array (Option Value)} {oc10 kV10 dc10 pm10 cd10 ct10 : Value} {f10 : Addr} {od11 an11 : Option Addr} {sl11 : Array (Option Value)} {oc11 kV11 dc11 pm11 cd11 ct11 : Value} {f11 : Addr} {od12 an12 : Option Addr} {sl12 : Array (Option Value)} {oc12 kV12 dc12 pm12 cd12 ct12 : Value} {f12 : Addr} {od13 an13 : Option Addr} {sl13 : Array (Option Value)} {oc13 kV13 dc13 pm13 cd13 ct13 : Value} {f13 : Addr} {od14 an14 : Option Addr} {sl14 : Array (Option Value)} {oc14 kV14 dc14 pm14 cd14 ct14 : Value} {f14 : Addr} {od15 an15 : Option Addr} {sl15 : Array (Option Value)} {oc15 kV15 dc15 pm15 cd15 ct15 : Value} {f15 : Addr} {od16 an16 : Option Addr} {sl16 : Array (Option Value)} {oc16 kV16 dc16 pm16 cd16 ct16 : Value} {f16 : Addr} {od17 an17 : Option Addr} {sl17 : Array (Option Value)} {oc17 kV17 dc17 pm17 cd17 ct17 : Value} {f17 : Addr} {od18 an18 : Option Addr} {sl18 : Array (Option Value)} {oc18 kV18 dc18 pm18 cd18 ct18 : Value} {f18 : Addr} {od19 an19 : Option Addr} {sl19 : Array (Option Value)} {oc19 kV19 dc19 pm19 cd19 ct19 : Value} {f19 : Addr} {od20 an20 : Option Addr} {sl20 : Array (Option Value)} {oc20 kV20 dc20 pm20 cd20 ct20 : Value} {f20 : Addr} {od21 an21 : Option Addr} {sl21 : Array (Option Value)} {oc21 kV21 dc21 pm21 cd21 ct21 : Value} {f21 : Addr} {od22 an22 : Option Addr} {sl22 : Array (Option Value)} {oc22 kV22 dc22 pm22 cd22 ct22 : Value} {f22 : Addr} {od23 an23 : Option Addr} {sl23 : Array (Option Value)} {oc23 kV23 dc23 pm23 cd23 ct23 : Value} {f23 : Addr} {od24 an24 : Option Addr} {sl24 : Array (Option Value)} {oc24 kV24 dc24 pm24 cd24 ct24 : Value} {f24 : Addr} {od25 an25 : Option Addr} {sl25 : Array (Option Value)} {oc25 kV25 dc25 pm25 cd25 ct25 : Value} {f25 : Addr} {od26 an26 : Option Addr} {sl26 : Array (Option Value)} {oc26 kV26 dc26 pm26 cd26 ct26 : Value} {f26 : Addr} {od27 an27 : Option Addr} {sl27 : Array (Option Value)} {oc27 kV27 dc27 pm27 cd27 ct27 : Value} {f27 : Addr} {od28 an28 : Option Addr} {sl28 : Array (Option Value)} {oc28 kV28 dc28 pm28 cd28 ct28 : Value} {f28 : Addr} {od29 an29 : Option Addr} {sl29 : Array (Option Value)} {oc29 kV29 dc29 pm29 cd29 ct29 : Value} {f29 : Addr} {od30 an30 : Option Addr} {sl30 : Array (Option Value)} {oc30 kV30 dc30 pm30 cd30 ct30 : Value} {f30 : Addr} {od31 an31 : Option Addr} {sl31 : Array (Option Value)} {oc31 kV31 dc31 pm31 cd31 ct31 : Value} {f31 : Addr} {od32 an32 : Option Addr} {sl32 : Array (Option Value)} {oc32 kV32 dc32 pm32 cd32 ct32 : Value} {f32 : Addr} {od33 an33 : Option Addr} {sl33 : Array (Option Value)} {oc33 kV33 dc33 pm33 cd33 ct33 : Value} {f33 : Addr} {od34 an34 : Option Addr} {sl34 : Array (Option Value)} {oc34 kV34 dc34 pm34 cd34 ct34 : Value} {f34 : Addr} {od35 an35 : Option Addr} {sl35 : Array (Option Value)} {oc35 kV35 dc35 pm35 cd35 ct35 : Value} {f35 : Addr} {od36 an36 : Option Addr} {sl36 : Array (Option Value)} {oc36 kV36 dc36 pm36 cd36 ct36 : Value} {f36 : Addr} {od37 an37 : Option Addr} {sl37 : Array (Option Value)} {oc37 kV37 dc37 pm37 cd37 ct37 : Value} {f37 : Addr} {od38 an38 : Option Addr} {sl38 : Array (Option Value)} {oc38 kV38 dc38 pm38 cd38 ct38 : Value} {f38 : Addr} {od39 an39 : Option Addr} {sl39 : Array (Option Value)} {oc39 kV39 dc39 pm39 cd39 ct39 : Value} {f39 : Addr} {od40 an40 : Option Addr} {sl40 : Array (Option Value)} {oc40 kV40 dc40 pm40 cd40 ct40 : Value} {f40 : Addr} {od41 an41 : Option Addr} {sl41 : Array (Option Value)} {oc41 kV41 dc41 pm41 cd41 ct41 : Value} {f41 : Addr} {od42 an42 : Option Addr} {sl42 : Array (Option Value)} {oc42 kV42 dc42 pm42 cd42 ct42 : Value} {f42 : Addr} {od43 an43 : Option Addr} {sl43 : Array (Option Value)} {oc43 kV43 dc43 pm43 cd43 ct43 : Value} {f43 : Addr} {od44 an44 : Option Addr} {sl44 : Array (Option Value)} {oc44 kV44 dc44 pm44 cd44 ct44 : Value} {f44 : Addr} {od45 an45 : Option Addr} {sl45 : Array (Option Value)} {oc45 kV45 dc45 pm45 cd45 ct45 : Value} {f45 : Addr} {od46 an46 : Option Addr} {sl46 : Array (Option Value)} {oc46 kV46 dc46 pm46 cd46 ct46 : Value} {f46 : Addr} {od47 an47 : Option Addr} {sl47 : Array (Option Value)} {oc47 kV47 dc47 pm47 cd47 ct47 : Value} {f47 : Addr} {od48 an48 : Option Addr} {sl48 : Array (Option Value)} {oc48 kV48 dc48 pm48 cd48 ct48 : Value} {f48 : Addr} {od49 an49 : Option Addr} {sl49 : Array (Option Value)} {oc49 kV49 dc49 pm49 cd49 ct49 : Value} {f49 : Addr} {od50 an50 : Option Addr} {sl50 : Array (Option Value)} {oc50 kV50 dc50 pm50 cd50 ct50 : Value} {f50 : Addr} {od51 an51 : Option Addr} {sl51 : Array (Option Value)} {oc51 kV51 dc51 pm51 cd51 ct51 : Value} {f51 : Addr} {od52 an52 : Option Addr} {sl52 : Array (Option Value)} {oc52 kV52 dc52 pm52 cd52 ct52 : Value} {f52 : Addr} {od53 an53 : Option Addr} {sl53 : Array (Option Value)} {oc53 kV53 dc53 pm53 cd53 ct53 : Value} {f53 : Addr} {od54 an54 : Option Addr} {sl54 : Array (Option Value)} {oc54 kV54 dc54 pm54 cd54 ct54 : Value} {f54 : Addr} {od55 an55 : Option Addr} {sl55 : Array (Option Value)} {oc55 kV55 dc55 pm55 cd55 ct55 : Value} {f55 : Addr} {gt0 : Tok} {gt1 : Tok} {gt2 : Tok} {gt3 : Tok} {gt4 : Tok}
    (X : K.In h) (G : h.Ns mainGlobals mg) (hfa : mg (Str.ofString "law") = some (.ref fa))
    (a0 : PySem.W.nsIn K mainGlobals "is_whole" = some (some (.ref f0))) (l0 : K.lookup f0 = some ⟨oc0, od0, .func (PySem.W.fnOf "is_whole" "is_whole" (defArgs (topS 6)) (defBody (topS 6)) (defScope (topS 6)) .none kV0 dc0 pm0 an0 cd0 ct0), sl0⟩) (c0 : PySem.W.codeIn K cd0 "is_whole" = true) (k0 : PySem.W.keepIn K (.ref f0) = true)
    (a1 : PySem.W.nsIn K mainGlobals "is_tuple_of" = some (some (.ref f1))) (l1 : K.lookup f1 = some ⟨oc1, od1, .func (PySem.W.fnOf "is_tuple_of" "is_tuple_of" (defArgs (topS 7)) (defBody (topS 7)) (defScope (topS 7)) .none kV1 dc1 pm1 an1 cd1 ct1), sl1⟩) (c1 : PySem.W.codeIn K cd1 "is_tuple_of" = true) (k1 : PySem.W.keepIn K (.ref f1) = true)
    (a2 : PySem.W.nsIn K mainGlobals "fits_map" = some (some (.ref f2))) (l2 : K.lookup f2 = some ⟨oc2, od2, .func (PySem.W.fnOf "fits_map" "fits_map" (defArgs (topS 13)) (defBody (topS 13)) (defScope (topS 13)) .none kV2 dc2 pm2 an2 cd2 ct2), sl2⟩) (c2 : PySem.W.codeIn K cd2 "fits_map" = true) (k2 : PySem.W.keepIn K (.ref f2) = true)
    (a3 : PySem.W.nsIn K mainGlobals "need_map" = some (some (.ref f3))) (l3 : K.lookup f3 = some ⟨oc3, od3, .func (PySem.W.fnOf "need_map" "need_map" (defArgs (topS 14)) (defBody (topS 14)) (defScope (topS 14)) .none kV3 dc3 pm3 an3 cd3 ct3), sl3⟩) (c3 : PySem.W.codeIn K cd3 "need_map" = true) (k3 : PySem.W.keepIn K (.ref f3) = true)
    (a4 : PySem.W.nsIn K mainGlobals "is_odd_leaf" = some (some (.ref f4))) (l4 : K.lookup f4 = some ⟨oc4, od4, .func (PySem.W.fnOf "is_odd_leaf" "is_odd_leaf" (defArgs (topS 15)) (defBody (topS 15)) (defScope (topS 15)) .none kV4 dc4 pm4 an4 cd4 ct4), sl4⟩) (c4 : PySem.W.codeIn K cd4 "is_odd_leaf" = true) (k4 : PySem.W.keepIn K (.ref f4) = true)
    (a5 : PySem.W.nsIn K mainGlobals "joints_in" = some (some (.ref f5))) (l5 : K.lookup f5 = some ⟨oc5, od5, .func (PySem.W.fnOf "joints_in" "joints_in" (defArgs (topS 16)) (defBody (topS 16)) (defScope (topS 16)) .none kV5 dc5 pm5 an5 cd5 ct5), sl5⟩) (c5 : PySem.W.codeIn K cd5 "joints_in" = true) (k5 : PySem.W.keepIn K (.ref f5) = true)
    (a6 : PySem.W.nsIn K mainGlobals "fits_map_stack" = some (some (.ref f6))) (l6 : K.lookup f6 = some ⟨oc6, od6, .func (PySem.W.fnOf "fits_map_stack" "fits_map_stack" (defArgs (topS 17)) (defBody (topS 17)) (defScope (topS 17)) .none kV6 dc6 pm6 an6 cd6 ct6), sl6⟩) (c6 : PySem.W.codeIn K cd6 "fits_map_stack" = true) (k6 : PySem.W.keepIn K (.ref f6) = true)
    (a7 : PySem.W.nsIn K mainGlobals "spots_in" = some (some (.ref f7))) (l7 : K.lookup f7 = some ⟨oc7, od7, .func (PySem.W.fnOf "spots_in" "spots_in" (defArgs (topS 18)) (defBody (topS 18)) (defScope (topS 18)) .none kV7 dc7 pm7 an7 cd7 ct7), sl7⟩) (c7 : PySem.W.codeIn K cd7 "spots_in" = true) (k7 : PySem.W.keepIn K (.ref f7) = true)
    (a8 : PySem.W.nsIn K mainGlobals "do_take_turns" = some (some (.ref f8))) (l8 : K.lookup f8 = some ⟨oc8, od8, .func (PySem.W.fnOf "do_take_turns" "do_take_turns" (defArgs (topS 19)) (defBody (topS 19)) (defScope (topS 19)) .none kV8 dc8 pm8 an8 cd8 ct8), sl8⟩) (c8 : PySem.W.codeIn K cd8 "do_take_turns" = true) (k8 : PySem.W.keepIn K (.ref f8) = true)
    (a9 : PySem.W.nsIn K mainGlobals "joint_crossings" = some (some (.ref f9))) (l9 : K.lookup f9 = some ⟨oc9, od9, .func (PySem.W.fnOf "joint_crossings" "joint_crossings" (defArgs (topS 20)) (defBody (topS 20)) (defScope (topS 20)) .none kV9 dc9 pm9 an9 cd9 ct9), sl9⟩) (c9 : PySem.W.codeIn K cd9 "joint_crossings" = true) (k9 : PySem.W.keepIn K (.ref f9) = true)
    (a10 : PySem.W.nsIn K mainGlobals "need_map_stack" = some (some (.ref f10))) (l10 : K.lookup f10 = some ⟨oc10, od10, .func (PySem.W.fnOf "need_map_stack" "need_map_stack" (defArgs (topS 21)) (defBody (topS 21)) (defScope (topS 21)) .none kV10 dc10 pm10 an10 cd10 ct10), sl10⟩) (c10 : PySem.W.codeIn K cd10 "need_map_stack" = true) (k10 : PySem.W.keepIn K (.ref f10) = true)
    (a11 : PySem.W.nsIn K mainGlobals "joint_mark" = some (some (.ref f11))) (l11 : K.lookup f11 = some ⟨oc11, od11, .func (PySem.W.fnOf "joint_mark" "joint_mark" (defArgs (topS 22)) (defBody (topS 22)) (defScope (topS 22)) .none kV11 dc11 pm11 an11 cd11 ct11), sl11⟩) (c11 : PySem.W.codeIn K cd11 "joint_mark" = true) (k11 : PySem.W.keepIn K (.ref f11) = true)
    (a12 : PySem.W.nsIn K mainGlobals "map_marks_in" = some (some (.ref f12))) (l12 : K.lookup f12 = some ⟨oc12, od12, .func (PySem.W.fnOf "map_marks_in" "map_marks_in" (defArgs (topS 23)) (defBody (topS 23)) (defScope (topS 23)) .none kV12 dc12 pm12 an12 cd12 ct12), sl12⟩) (c12 : PySem.W.codeIn K cd12 "map_marks_in" = true) (k12 : PySem.W.keepIn K (.ref f12) = true)
    (a13 : PySem.W.nsIn K mainGlobals "fits_told" = some (some (.ref f13))) (l13 : K.lookup f13 = some ⟨oc13, od13, .func (PySem.W.fnOf "fits_told" "fits_told" (defArgs (topS 24)) (defBody (topS 24)) (defScope (topS 24)) .none kV13 dc13 pm13 an13 cd13 ct13), sl13⟩) (c13 : PySem.W.codeIn K cd13 "fits_told" = true) (k13 : PySem.W.keepIn K (.ref f13) = true)
    (a14 : PySem.W.nsIn K mainGlobals "need_map_marks" = some (some (.ref f14))) (l14 : K.lookup f14 = some ⟨oc14, od14, .func (PySem.W.fnOf "need_map_marks" "need_map_marks" (defArgs (topS 25)) (defBody (topS 25)) (defScope (topS 25)) .none kV14 dc14 pm14 an14 cd14 ct14), sl14⟩) (c14 : PySem.W.codeIn K cd14 "need_map_marks" = true) (k14 : PySem.W.keepIn K (.ref f14) = true)
    (a15 : PySem.W.nsIn K mainGlobals "corner_joints" = some (some (.ref f15))) (l15 : K.lookup f15 = some ⟨oc15, od15, .func (PySem.W.fnOf "corner_joints" "corner_joints" (defArgs (topS 26)) (defBody (topS 26)) (defScope (topS 26)) .none kV15 dc15 pm15 an15 cd15 ct15), sl15⟩) (c15 : PySem.W.codeIn K cd15 "corner_joints" = true) (k15 : PySem.W.keepIn K (.ref f15) = true)
    (a16 : PySem.W.nsIn K mainGlobals "is_map" = some (some (.ref f16))) (l16 : K.lookup f16 = some ⟨oc16, od16, .func (PySem.W.fnOf "is_map" "is_map" (defArgs (topS 27)) (defBody (topS 27)) (defScope (topS 27)) .none kV16 dc16 pm16 an16 cd16 ct16), sl16⟩) (c16 : PySem.W.codeIn K cd16 "is_map" = true) (k16 : PySem.W.keepIn K (.ref f16) = true)
    (a17 : PySem.W.nsIn K mainGlobals "map_joints" = some (some (.ref f17))) (l17 : K.lookup f17 = some ⟨oc17, od17, .func (PySem.W.fnOf "map_joints" "map_joints" (defArgs (topS 28)) (defBody (topS 28)) (defScope (topS 28)) .none kV17 dc17 pm17 an17 cd17 ct17), sl17⟩) (c17 : PySem.W.codeIn K cd17 "map_joints" = true) (k17 : PySem.W.keepIn K (.ref f17) = true)
    (a18 : PySem.W.nsIn K mainGlobals "is_map_stack" = some (some (.ref f18))) (l18 : K.lookup f18 = some ⟨oc18, od18, .func (PySem.W.fnOf "is_map_stack" "is_map_stack" (defArgs (topS 29)) (defBody (topS 29)) (defScope (topS 29)) .none kV18 dc18 pm18 an18 cd18 ct18), sl18⟩) (c18 : PySem.W.codeIn K cd18 "is_map_stack" = true) (k18 : PySem.W.keepIn K (.ref f18) = true)
    (a19 : PySem.W.nsIn K mainGlobals "joints_crossing" = some (some (.ref f19))) (l19 : K.lookup f19 = some ⟨oc19, od19, .func (PySem.W.fnOf "joints_crossing" "joints_crossing" (defArgs (topS 30)) (defBody (topS 30)) (defScope (topS 30)) .none kV19 dc19 pm19 an19 cd19 ct19), sl19⟩) (c19 : PySem.W.codeIn K cd19 "joints_crossing" = true) (k19 : PySem.W.keepIn K (.ref f19) = true)
    (a20 : PySem.W.nsIn K mainGlobals "do_joints_cross" = some (some (.ref f20))) (l20 : K.lookup f20 = some ⟨oc20, od20, .func (PySem.W.fnOf "do_joints_cross" "do_joints_cross" (defArgs (topS 31)) (defBody (topS 31)) (defScope (topS 31)) .none kV20 dc20 pm20 an20 cd20 ct20), sl20⟩) (c20 : PySem.W.codeIn K cd20 "do_joints_cross" = true) (k20 : PySem.W.keepIn K (.ref f20) = true)
    (a21 : PySem.W.nsIn K mainGlobals "is_flat_stack" = some (some (.ref f21))) (l21 : K.lookup f21 = some ⟨oc21, od21, .func (PySem.W.fnOf "is_flat_stack" "is_flat_stack" (defArgs (topS 32)) (defBody (topS 32)) (defScope (topS 32)) .none kV21 dc21 pm21 an21 cd21 ct21), sl21⟩) (c21 : PySem.W.codeIn K cd21 "is_flat_stack" = true) (k21 : PySem.W.keepIn K (.ref f21) = true)
    (a22 : PySem.W.nsIn K mainGlobals "stack_marks" = some (some (.ref f22))) (l22 : K.lookup f22 = some ⟨oc22, od22, .func (PySem.W.fnOf "stack_marks" "stack_marks" (defArgs (topS 33)) (defBody (topS 33)) (defScope (topS 33)) .none kV22 dc22 pm22 an22 cd22 ct22), sl22⟩) (c22 : PySem.W.codeIn K cd22 "stack_marks" = true) (k22 : PySem.W.keepIn K (.ref f22) = true)
    (a23 : PySem.W.nsIn K mainGlobals "map_bad_corners" = some (some (.ref f23))) (l23 : K.lookup f23 = some ⟨oc23, od23, .func (PySem.W.fnOf "map_bad_corners" "map_bad_corners" (defArgs (topS 34)) (defBody (topS 34)) (defScope (topS 34)) .none kV23 dc23 pm23 an23 cd23 ct23), sl23⟩) (c23 : PySem.W.codeIn K cd23 "map_bad_corners" = true) (k23 : PySem.W.keepIn K (.ref f23) = true)
    (a24 : PySem.W.nsIn K mainGlobals "fits_order" = some (some (.ref f24))) (l24 : K.lookup f24 = some ⟨oc24, od24, .func (PySem.W.fnOf "fits_order" "fits_order" (defArgs (topS 37)) (defBody (topS 37)) (defScope (topS 37)) .none kV24 dc24 pm24 an24 cd24 ct24), sl24⟩) (c24 : PySem.W.codeIn K cd24 "fits_order" = true) (k24 : PySem.W.keepIn K (.ref f24) = true)
    (a25 : PySem.W.nsIn K mainGlobals "need_order" = some (some (.ref f25))) (l25 : K.lookup f25 = some ⟨oc25, od25, .func (PySem.W.fnOf "need_order" "need_order" (defArgs (topS 38)) (defBody (topS 38)) (defScope (topS 38)) .none kV25 dc25 pm25 an25 cd25 ct25), sl25⟩) (c25 : PySem.W.codeIn K cd25 "need_order" = true) (k25 : PySem.W.keepIn K (.ref f25) = true)
    (a26 : PySem.W.nsIn K mainGlobals "heights_of" = some (some (.ref f26))) (l26 : K.lookup f26 = some ⟨oc26, od26, .func (PySem.W.fnOf "heights_of" "heights_of" (defArgs (topS 39)) (defBody (topS 39)) (defScope (topS 39)) .none kV26 dc26 pm26 an26 cd26 ct26), sl26⟩) (c26 : PySem.W.codeIn K cd26 "heights_of" = true) (k26 : PySem.W.keepIn K (.ref f26) = true)
    (a27 : PySem.W.nsIn K mainGlobals "do_cross" = some (some (.ref f27))) (l27 : K.lookup f27 = some ⟨oc27, od27, .func (PySem.W.fnOf "do_cross" "do_cross" (defArgs (topS 40)) (defBody (topS 40)) (defScope (topS 40)) .none kV27 dc27 pm27 an27 cd27 ct27), sl27⟩) (c27 : PySem.W.codeIn K cd27 "do_cross" = true) (k27 : PySem.W.keepIn K (.ref f27) = true)
    (a28 : PySem.W.nsIn K mainGlobals "creases_in" = some (some (.ref f28))) (l28 : K.lookup f28 = some ⟨oc28, od28, .func (PySem.W.fnOf "creases_in" "creases_in" (defArgs (topS 41)) (defBody (topS 41)) (defScope (topS 41)) .none kV28 dc28 pm28 an28 cd28 ct28), sl28⟩) (c28 : PySem.W.codeIn K cd28 "creases_in" = true) (k28 : PySem.W.keepIn K (.ref f28) = true)
    (a29 : PySem.W.nsIn K mainGlobals "crossings_in" = some (some (.ref f29))) (l29 : K.lookup f29 = some ⟨oc29, od29, .func (PySem.W.fnOf "crossings_in" "crossings_in" (defArgs (topS 42)) (defBody (topS 42)) (defScope (topS 42)) .none kV29 dc29 pm29 an29 cd29 ct29), sl29⟩) (c29 : PySem.W.codeIn K cd29 "crossings_in" = true) (k29 : PySem.W.keepIn K (.ref f29) = true)
    (a30 : PySem.W.nsIn K mainGlobals "is_flat" = some (some (.ref f30))) (l30 : K.lookup f30 = some ⟨oc30, od30, .func (PySem.W.fnOf "is_flat" "is_flat" (defArgs (topS 43)) (defBody (topS 43)) (defScope (topS 43)) .none kV30 dc30 pm30 an30 cd30 ct30), sl30⟩) (c30 : PySem.W.codeIn K cd30 "is_flat" = true) (k30 : PySem.W.keepIn K (.ref f30) = true)
    (a31 : PySem.W.nsIn K mainGlobals "mark_of" = some (some (.ref f31))) (l31 : K.lookup f31 = some ⟨oc31, od31, .func (PySem.W.fnOf "mark_of" "mark_of" (defArgs (topS 44)) (defBody (topS 44)) (defScope (topS 44)) .none kV31 dc31 pm31 an31 cd31 ct31), sl31⟩) (c31 : PySem.W.codeIn K cd31 "mark_of" = true) (k31 : PySem.W.keepIn K (.ref f31) = true)
    (a32 : PySem.W.nsIn K mainGlobals "marks_in" = some (some (.ref f32))) (l32 : K.lookup f32 = some ⟨oc32, od32, .func (PySem.W.fnOf "marks_in" "marks_in" (defArgs (topS 45)) (defBody (topS 45)) (defScope (topS 45)) .none kV32 dc32 pm32 an32 cd32 ct32), sl32⟩) (c32 : PySem.W.codeIn K cd32 "marks_in" = true) (k32 : PySem.W.keepIn K (.ref f32) = true)
    (a33 : PySem.W.nsIn K mainGlobals "is_folded" = some (some (.ref f33))) (l33 : K.lookup f33 = some ⟨oc33, od33, .func (PySem.W.fnOf "is_folded" "is_folded" (defArgs (topS 46)) (defBody (topS 46)) (defScope (topS 46)) .none kV33 dc33 pm33 an33 cd33 ct33), sl33⟩) (c33 : PySem.W.codeIn K cd33 "is_folded" = true) (k33 : PySem.W.keepIn K (.ref f33) = true)
    (a34 : PySem.W.nsIn K mainGlobals "marks_of" = some (some (.ref f34))) (l34 : K.lookup f34 = some ⟨oc34, od34, .func (PySem.W.fnOf "marks_of" "marks_of" (defArgs (topS 47)) (defBody (topS 47)) (defScope (topS 47)) .none kV34 dc34 pm34 an34 cd34 ct34), sl34⟩) (c34 : PySem.W.codeIn K cd34 "marks_of" = true) (k34 : PySem.W.keepIn K (.ref f34) = true)
    (a35 : PySem.W.nsIn K mainGlobals "_law_cup" = some (some (.ref f35))) (l35 : K.lookup f35 = some ⟨oc35, od35, .func (PySem.W.fnOf "_law_cup" "_law_cup" (defArgs (topS 49)) (defBody (topS 49)) (defScope (topS 49)) .none kV35 dc35 pm35 an35 cd35 ct35), sl35⟩) (c35 : PySem.W.codeIn K cd35 "_law_cup" = true) (k35 : PySem.W.keepIn K (.ref f35) = true)
    (a36 : PySem.W.nsIn K mainGlobals "_law_roll" = some (some (.ref f36))) (l36 : K.lookup f36 = some ⟨oc36, od36, .func (PySem.W.fnOf "_law_roll" "_law_roll" (defArgs (topS 50)) (defBody (topS 50)) (defScope (topS 50)) .none kV36 dc36 pm36 an36 cd36 ct36), sl36⟩) (c36 : PySem.W.codeIn K cd36 "_law_roll" = true) (k36 : PySem.W.keepIn K (.ref f36) = true)
    (a37 : PySem.W.nsIn K mainGlobals "_law_some" = some (some (.ref f37))) (l37 : K.lookup f37 = some ⟨oc37, od37, .func (PySem.W.fnOf "_law_some" "_law_some" (defArgs (topS 51)) (defBody (topS 51)) (defScope (topS 51)) .none kV37 dc37 pm37 an37 cd37 ct37), sl37⟩) (c37 : PySem.W.codeIn K cd37 "_law_some" = true) (k37 : PySem.W.keepIn K (.ref f37) = true)
    (a38 : PySem.W.nsIn K mainGlobals "_law_sort" = some (some (.ref f38))) (l38 : K.lookup f38 = some ⟨oc38, od38, .func (PySem.W.fnOf "_law_sort" "_law_sort" (defArgs (topS 52)) (defBody (topS 52)) (defScope (topS 52)) .none kV38 dc38 pm38 an38 cd38 ct38), sl38⟩) (c38 : PySem.W.codeIn K cd38 "_law_sort" = true) (k38 : PySem.W.keepIn K (.ref f38) = true)
    (a39 : PySem.W.nsIn K mainGlobals "_law_like" = some (some (.ref f39))) (l39 : K.lookup f39 = some ⟨oc39, od39, .func (PySem.W.fnOf "_law_like" "_law_like" (defArgs (topS 53)) (defBody (topS 53)) (defScope (topS 53)) .none kV39 dc39 pm39 an39 cd39 ct39), sl39⟩) (c39 : PySem.W.codeIn K cd39 "_law_like" = true) (k39 : PySem.W.keepIn K (.ref f39) = true)
    (a40 : PySem.W.nsIn K mainGlobals "_law_bent" = some (some (.ref f40))) (l40 : K.lookup f40 = some ⟨oc40, od40, .func (PySem.W.fnOf "_law_bent" "_law_bent" (defArgs (topS 54)) (defBody (topS 54)) (defScope (topS 54)) .none kV40 dc40 pm40 an40 cd40 ct40), sl40⟩) (c40 : PySem.W.codeIn K cd40 "_law_bent" = true) (k40 : PySem.W.keepIn K (.ref f40) = true)
    (a41 : PySem.W.nsIn K mainGlobals "_law_map" = some (some (.ref f41))) (l41 : K.lookup f41 = some ⟨oc41, od41, .func (PySem.W.fnOf "_law_map" "_law_map" (defArgs (topS 55)) (defBody (topS 55)) (defScope (topS 55)) .none kV41 dc41 pm41 an41 cd41 ct41), sl41⟩) (c41 : PySem.W.codeIn K cd41 "_law_map" = true) (k41 : PySem.W.keepIn K (.ref f41) = true)
    (a42 : PySem.W.nsIn K mainGlobals "_law_joints" = some (some (.ref f42))) (l42 : K.lookup f42 = some ⟨oc42, od42, .func (PySem.W.fnOf "_law_joints" "_law_joints" (defArgs (topS 56)) (defBody (topS 56)) (defScope (topS 56)) .none kV42 dc42 pm42 an42 cd42 ct42), sl42⟩) (c42 : PySem.W.codeIn K cd42 "_law_joints" = true) (k42 : PySem.W.keepIn K (.ref f42) = true)
    (a43 : PySem.W.nsIn K mainGlobals "_law_turns" = some (some (.ref f43))) (l43 : K.lookup f43 = some ⟨oc43, od43, .func (PySem.W.fnOf "_law_turns" "_law_turns" (defArgs (topS 57)) (defBody (topS 57)) (defScope (topS 57)) .none kV43 dc43 pm43 an43 cd43 ct43), sl43⟩) (c43 : PySem.W.codeIn K cd43 "_law_turns" = true) (k43 : PySem.W.keepIn K (.ref f43) = true)
    (a44 : PySem.W.nsIn K mainGlobals "_law_crossings" = some (some (.ref f44))) (l44 : K.lookup f44 = some ⟨oc44, od44, .func (PySem.W.fnOf "_law_crossings" "_law_crossings" (defArgs (topS 58)) (defBody (topS 58)) (defScope (topS 58)) .none kV44 dc44 pm44 an44 cd44 ct44), sl44⟩) (c44 : PySem.W.codeIn K cd44 "_law_crossings" = true) (k44 : PySem.W.keepIn K (.ref f44) = true)
    (a45 : PySem.W.nsIn K mainGlobals "_law_drawn_flat" = some (some (.ref f45))) (l45 : K.lookup f45 = some ⟨oc45, od45, .func (PySem.W.fnOf "_law_drawn_flat" "_law_drawn_flat" (defArgs (topS 59)) (defBody (topS 59)) (defScope (topS 59)) .none kV45 dc45 pm45 an45 cd45 ct45), sl45⟩) (c45 : PySem.W.codeIn K cd45 "_law_drawn_flat" = true) (k45 : PySem.W.keepIn K (.ref f45) = true)
    (a46 : PySem.W.nsIn K mainGlobals "_law_rolled_up" = some (some (.ref f46))) (l46 : K.lookup f46 = some ⟨oc46, od46, .func (PySem.W.fnOf "_law_rolled_up" "_law_rolled_up" (defArgs (topS 60)) (defBody (topS 60)) (defScope (topS 60)) .none kV46 dc46 pm46 an46 cd46 ct46), sl46⟩) (c46 : PySem.W.codeIn K cd46 "_law_rolled_up" = true) (k46 : PySem.W.keepIn K (.ref f46) = true)
    (a47 : PySem.W.nsIn K mainGlobals "_law_told" = some (some (.ref f47))) (l47 : K.lookup f47 = some ⟨oc47, od47, .func (PySem.W.fnOf "_law_told" "_law_told" (defArgs (topS 61)) (defBody (topS 61)) (defScope (topS 61)) .none kV47 dc47 pm47 an47 cd47 ct47), sl47⟩) (c47 : PySem.W.codeIn K cd47 "_law_told" = true) (k47 : PySem.W.keepIn K (.ref f47) = true)
    (a48 : PySem.W.nsIn K mainGlobals "_law_line" = some (some (.ref f48))) (l48 : K.lookup f48 = some ⟨oc48, od48, .func (PySem.W.fnOf "_law_line" "_law_line" (defArgs (topS 62)) (defBody (topS 62)) (defScope (topS 62)) .none kV48 dc48 pm48 an48 cd48 ct48), sl48⟩) (c48 : PySem.W.codeIn K cd48 "_law_line" = true) (k48 : PySem.W.keepIn K (.ref f48) = true)
    (a49 : PySem.W.nsIn K mainGlobals "_law_map_marks" = some (some (.ref f49))) (l49 : K.lookup f49 = some ⟨oc49, od49, .func (PySem.W.fnOf "_law_map_marks" "_law_map_marks" (defArgs (topS 63)) (defBody (topS 63)) (defScope (topS 63)) .none kV49 dc49 pm49 an49 cd49 ct49), sl49⟩) (c49 : PySem.W.codeIn K cd49 "_law_map_marks" = true) (k49 : PySem.W.keepIn K (.ref f49) = true)
    (a50 : PySem.W.nsIn K mainGlobals "_law_put" = some (some (.ref f50))) (l50 : K.lookup f50 = some ⟨oc50, od50, .func (PySem.W.fnOf "_law_put" "_law_put" (defArgs (topS 64)) (defBody (topS 64)) (defScope (topS 64)) .none kV50 dc50 pm50 an50 cd50 ct50), sl50⟩) (c50 : PySem.W.codeIn K cd50 "_law_put" = true) (k50 : PySem.W.keepIn K (.ref f50) = true)
    (a51 : PySem.W.nsIn K mainGlobals "_law_is_stack" = some (some (.ref f51))) (l51 : K.lookup f51 = some ⟨oc51, od51, .func (PySem.W.fnOf "_law_is_stack" "_law_is_stack" (defArgs (topS 65)) (defBody (topS 65)) (defScope (topS 65)) .none kV51 dc51 pm51 an51 cd51 ct51), sl51⟩) (c51 : PySem.W.codeIn K cd51 "_law_is_stack" = true) (k51 : PySem.W.keepIn K (.ref f51) = true)
    (a52 : PySem.W.nsIn K mainGlobals "_law_bad" = some (some (.ref f52))) (l52 : K.lookup f52 = some ⟨oc52, od52, .func (PySem.W.fnOf "_law_bad" "_law_bad" (defArgs (topS 66)) (defBody (topS 66)) (defScope (topS 66)) .none kV52 dc52 pm52 an52 cd52 ct52), sl52⟩) (c52 : PySem.W.codeIn K cd52 "_law_bad" = true) (k52 : PySem.W.keepIn K (.ref f52) = true)
    (a53 : PySem.W.nsIn K mainGlobals "_law_right" = some (some (.ref f53))) (l53 : K.lookup f53 = some ⟨oc53, od53, .func (PySem.W.fnOf "_law_right" "_law_right" (defArgs (topS 67)) (defBody (topS 67)) (defScope (topS 67)) .none kV53 dc53 pm53 an53 cd53 ct53), sl53⟩) (c53 : PySem.W.codeIn K cd53 "_law_right" = true) (k53 : PySem.W.keepIn K (.ref f53) = true)
    (a54 : PySem.W.nsIn K mainGlobals "_law_written_right" = some (some (.ref f54))) (l54 : K.lookup f54 = some ⟨oc54, od54, .func (PySem.W.fnOf "_law_written_right" "_law_written_right" (defArgs (topS 68)) (defBody (topS 68)) (defScope (topS 68)) .none kV54 dc54 pm54 an54 cd54 ct54), sl54⟩) (c54 : PySem.W.codeIn K cd54 "_law_written_right" = true) (k54 : PySem.W.keepIn K (.ref f54) = true)
    (a55 : PySem.W.nsIn K mainGlobals "law" = some (some (.ref f55))) (l55 : K.lookup f55 = some ⟨oc55, od55, .func (PySem.W.fnOf "law" "law" (defArgs (topS 69)) (defBody (topS 69)) (defScope (topS 69)) .none kV55 dc55 pm55 an55 cd55 ct55), sl55⟩) (c55 : PySem.W.codeIn K cd55 "law" = true) (k55 : PySem.W.keepIn K (.ref f55) = true)
    (qc0 : PySem.W.nsIn K mainGlobals "MOST" = some (some (.int 12 gt0)))
    (qc1 : PySem.W.nsIn K mainGlobals "MOUNTAIN" = some (some (.str "m" gt1)))
    (qc2 : PySem.W.nsIn K mainGlobals "VALLEY" = some (some (.str "v" gt2)))
    (qc3 : PySem.W.nsIn K mainGlobals "OPEN" = some (some (.str "?" gt3)))
    (qc4 : PySem.W.nsIn K mainGlobals "MOST_LEAVES" = some (some (.int 10 gt4)))
    (z0 : PySem.W.nsIn K mainGlobals "abs" = some none)
    (z1 : PySem.W.nsIn K mainGlobals "all" = some none)
    (z2 : PySem.W.nsIn K mainGlobals "bool" = some none)
    (z3 : PySem.W.nsIn K mainGlobals "dict" = some none)
    (z4 : PySem.W.nsIn K mainGlobals "enumerate" = some none)
    (z5 : PySem.W.nsIn K mainGlobals "int" = some none)
    (z6 : PySem.W.nsIn K mainGlobals "isinstance" = some none)
    (z7 : PySem.W.nsIn K mainGlobals "len" = some none)
    (z8 : PySem.W.nsIn K mainGlobals "list" = some none)
    (z9 : PySem.W.nsIn K mainGlobals "max" = some none)
    (z10 : PySem.W.nsIn K mainGlobals "min" = some none)
    (z11 : PySem.W.nsIn K mainGlobals "range" = some none)
    (z12 : PySem.W.nsIn K mainGlobals "set" = some none)
    (z13 : PySem.W.nsIn K mainGlobals "sorted" = some none)
    (z14 : PySem.W.nsIn K mainGlobals "str" = some none)
    (z15 : PySem.W.nsIn K mainGlobals "tuple" = some none)
    (z16 : PySem.W.nsIn K mainGlobals "zip" = some none) :
    ∃ fd : FuncData, (∀ (s : Shared) (v : Value), BindsTo s fd ⟨[v], []⟩ [("script", v)]) ∧ ∀ base : Heap, K.In base → base.Ns mainGlobals mg → FnOk P w K mg base (L2.CX P w) 60 fa fd ["script"] (spLaw K 63) := by
  have e := hfa.symm.trans (PySem.W.mg_of X G a55)
  cases e
  have d0 : DefP tab prog (faOf tab mg) K mg 0 "is_whole" [Str.ofString "value", Str.ofString "low", Str.ofString "high"] := def_mk X G a0 l0 c0 k0 rfl rfl sc_is_whole rfl rfl (fun _ _ _ _ _ _ us hl => match us, hl with | [_, _, _], _ => rfl) ck_is_whole
  have d1 : DefP tab prog (faOf tab mg) K mg 1 "is_tuple_of" [Str.ofString "value", Str.ofString "low", Str.ofString "high"] := def_mk X G a1 l1 c1 k1 rfl rfl sc_is_tuple_of rfl rfl (fun _ _ _ _ _ _ us hl => match us, hl with | [_, _, _], _ => rfl) ck_is_tuple_of
  have d2 : DefP tab prog (faOf tab mg) K mg 2 "fits_map" [Str.ofString "value"] := def_mk X G a2 l2 c2 k2 rfl rfl sc_fits_map rfl rfl (fun _ _ _ _ _ _ us hl => match us, hl with | [_], _ => rfl) ck_fits_map
  have d3 : DefP tab prog (faOf tab mg) K mg 3 "need_map" [Str.ofString "value"] := def_mk X G a3 l3 c3 k3 rfl rfl sc_need_map rfl rfl (fun _ _ _ _ _ _ us hl => match us, hl with | [_], _ => rfl) ck_need_map
  have d4 : DefP tab prog (faOf tab mg) K mg 4 "is_odd_leaf" [Str.ofString "map_pair", Str.ofString "leaf"] := def_mk X G a4 l4 c4 k4 rfl rfl sc_is_odd_leaf rfl rfl (fun _ _ _ _ _ _ us hl => match us, hl with | [_, _], _ => rfl) ck_is_odd_leaf
  have d5 : DefP tab prog (faOf tab mg) K mg 5 "joints_in" [Str.ofString "map_pair"] := def_mk X G a5 l5 c5 k5 rfl rfl sc_joints_in rfl rfl (fun _ _ _ _ _ _ us hl => match us, hl with | [_], _ => rfl) ck_joints_in
  have d6 : DefP tab prog (faOf tab mg) K mg 6 "fits_map_stack" [Str.ofString "map_pair", Str.ofString "value"] := def_mk X G a6 l6 c6 k6 rfl rfl sc_fits_map_stack rfl rfl (fun _ _ _ _ _ _ us hl => match us, hl with | [_, _], _ => rfl) ck_fits_map_stack
  have d7 : DefP tab prog (faOf tab mg) K mg 7 "spots_in" [Str.ofString "stack"] := def_mk X G a7 l7 c7 k7 rfl rfl sc_spots_in rfl rfl (fun _ _ _ _ _ _ us hl => match us, hl with | [_], _ => rfl) ck_spots_in
  have d8 : DefP tab prog (faOf tab mg) K mg 8 "do_take_turns" [Str.ofString "spots", Str.ofString "joint", Str.ofString "other"] := def_mk X G a8 l8 c8 k8 rfl rfl sc_do_take_turns rfl rfl (fun _ _ _ _ _ _ us hl => match us, hl with | [_, _, _], _ => rfl) ck_do_take_turns
  have d9 : DefP tab prog (faOf tab mg) K mg 9 "joint_crossings" [Str.ofString "map_pair", Str.ofString "stack"] := def_mk X G a9 l9 c9 k9 rfl rfl sc_joint_crossings rfl rfl (fun _ _ _ _ _ _ us hl => match us, hl with | [_, _], _ => rfl) ck_joint_crossings
  have d10 : DefP tab prog (faOf tab mg) K mg 10 "need_map_stack" [Str.ofString "map_pair", Str.ofString "stack"] := def_mk X G a10 l10 c10 k10 rfl rfl sc_need_map_stack rfl rfl (fun _ _ _ _ _ _ us hl => match us, hl with | [_, _], _ => rfl) ck_need_map_stack
  have d11 : DefP tab prog (faOf tab mg) K mg 11 "joint_mark" [Str.ofString "map_pair", Str.ofString "spots", Str.ofString "joint"] := def_mk X G a11 l11 c11 k11 rfl rfl sc_joint_mark rfl rfl (fun _ _ _ _ _ _ us hl => match us, hl with | [_, _, _], _ => rfl) ck_joint_mark
  have d12 : DefP tab prog (faOf tab mg) K mg 12 "map_marks_in" [Str.ofString "map_pair", Str.ofString "stack"] := def_mk X G a12 l12 c12 k12 rfl rfl sc_map_marks_in rfl rfl (fun _ _ _ _ _ _ us hl => match us, hl with | [_, _], _ => rfl) ck_map_marks_in
  have d13 : DefP tab prog (faOf tab mg) K mg 13 "fits_told" [Str.ofString "map_pair", Str.ofString "value"] := def_mk X G a13 l13 c13 k13 rfl rfl sc_fits_told rfl rfl (fun _ _ _ _ _ _ us hl => match us, hl with | [_, _], _ => rfl) ck_fits_told
  have d14 : DefP tab prog (faOf tab mg) K mg 14 "need_map_marks" [Str.ofString "map_pair", Str.ofString "marks"] := def_mk X G a14 l14 c14 k14 rfl rfl sc_need_map_marks rfl rfl (fun _ _ _ _ _ _ us hl => match us, hl with | [_, _], _ => rfl) ck_need_map_marks
  have d15 : DefP tab prog (faOf tab mg) K mg 15 "corner_joints" [Str.ofString "map_pair", Str.ofString "leaf"] := def_mk X G a15 l15 c15 k15 rfl rfl sc_corner_joints rfl rfl (fun _ _ _ _ _ _ us hl => match us, hl with | [_, _], _ => rfl) ck_corner_joints
  have d16 : DefP tab prog (faOf tab mg) K mg 16 "is_map" [Str.ofString "value"] := def_mk X G a16 l16 c16 k16 rfl rfl sc_is_map rfl rfl (fun _ _ _ _ _ _ us hl => match us, hl with | [_], _ => rfl) ck_is_map
  have d17 : DefP tab prog (faOf tab mg) K mg 17 "map_joints" [Str.ofString "map_pair"] := def_mk X G a17 l17 c17 k17 rfl rfl sc_map_joints rfl rfl (fun _ _ _ _ _ _ us hl => match us, hl with | [_], _ => rfl) ck_map_joints
  have d18 : DefP tab prog (faOf tab mg) K mg 18 "is_map_stack" [Str.ofString "map_pair", Str.ofString "value"] := def_mk X G a18 l18 c18 k18 rfl rfl sc_is_map_stack rfl rfl (fun _ _ _ _ _ _ us hl => match us, hl with | [_, _], _ => rfl) ck_is_map_stack
  have d19 : DefP tab prog (faOf tab mg) K mg 19 "joints_crossing" [Str.ofString "map_pair", Str.ofString "stack"] := def_mk X G a19 l19 c19 k19 rfl rfl sc_joints_crossing rfl rfl (fun _ _ _ _ _ _ us hl => match us, hl with | [_, _], _ => rfl) ck_joints_crossing
  have d20 : DefP tab prog (faOf tab mg) K mg 20 "do_joints_cross" [Str.ofString "map_pair", Str.ofString "stack", Str.ofString "value"] := def_mk X G a20 l20 c20 k20 rfl rfl sc_do_joints_cross rfl rfl (fun _ _ _ _ _ _ us hl => match us, hl with | [_, _, _], _ => rfl) ck_do_joints_cross
  have d21 : DefP tab prog (faOf tab mg) K mg 21 "is_flat_stack" [Str.ofString "map_pair", Str.ofString "stack"] := def_mk X G a21 l21 c21 k21 rfl rfl sc_is_flat_stack rfl rfl (fun _ _ _ _ _ _ us hl => match us, hl with | [_, _], _ => rfl) ck_is_flat_stack
  have d22 : DefP tab prog (faOf tab mg) K mg 22 "stack_marks" [Str.ofString "map_pair", Str.ofString "stack"] := def_mk X G a22 l22 c22 k22 rfl rfl sc_stack_marks rfl rfl (fun _ _ _ _ _ _ us hl => match us, hl with | [_, _], _ => rfl) ck_stack_marks
  have d23 : DefP tab prog (faOf tab mg) K mg 23 "map_bad_corners" [Str.ofString "map_pair", Str.ofString "marks"] := def_mk X G a23 l23 c23 k23 rfl rfl sc_map_bad_corners rfl rfl (fun _ _ _ _ _ _ us hl => match us, hl with | [_, _], _ => rfl) ck_map_bad_corners
  have d24 : DefP tab prog (faOf tab mg) K mg 24 "fits_order" [Str.ofString "value"] := def_mk X G a24 l24 c24 k24 rfl rfl sc_fits_order rfl rfl (fun _ _ _ _ _ _ us hl => match us, hl with | [_], _ => rfl) ck_fits_order
  have d25 : DefP tab prog (faOf tab mg) K mg 25 "need_order" [Str.ofString "value"] := def_mk X G a25 l25 c25 k25 rfl rfl sc_need_order rfl rfl (fun _ _ _ _ _ _ us hl => match us, hl with | [_], _ => rfl) ck_need_order
  have d26 : DefP tab prog (faOf tab mg) K mg 26 "heights_of" [Str.ofString "order"] := def_mk X G a26 l26 c26 k26 rfl rfl sc_heights_of rfl rfl (fun _ _ _ _ _ _ us hl => match us, hl with | [_], _ => rfl) ck_heights_of
  have d27 : DefP tab prog (faOf tab mg) K mg 27 "do_cross" [Str.ofString "one", Str.ofString "other"] := def_mk X G a27 l27 c27 k27 rfl rfl sc_do_cross rfl rfl (fun _ _ _ _ _ _ us hl => match us, hl with | [_, _], _ => rfl) ck_do_cross
  have d28 : DefP tab prog (faOf tab mg) K mg 28 "creases_in" [Str.ofString "order"] := def_mk X G a28 l28 c28 k28 rfl rfl sc_creases_in rfl rfl (fun _ _ _ _ _ _ us hl => match us, hl with | [_], _ => rfl) ck_creases_in
  have d29 : DefP tab prog (faOf tab mg) K mg 29 "crossings_in" [Str.ofString "order"] := def_mk X G a29 l29 c29 k29 rfl rfl sc_crossings_in rfl rfl (fun _ _ _ _ _ _ us hl => match us, hl with | [_], _ => rfl) ck_crossings_in
  have d30 : DefP tab prog (faOf tab mg) K mg 30 "is_flat" [Str.ofString "order"] := def_mk X G a30 l30 c30 k30 rfl rfl sc_is_flat rfl rfl (fun _ _ _ _ _ _ us hl => match us, hl with | [_], _ => rfl) ck_is_flat
  have d31 : DefP tab prog (faOf tab mg) K mg 31 "mark_of" [Str.ofString "crease", Str.ofString "pair"] := def_mk X G a31 l31 c31 k31 rfl rfl sc_mark_of rfl rfl (fun _ _ _ _ _ _ us hl => match us, hl with | [_, _], _ => rfl) ck_mark_of
  have d32 : DefP tab prog (faOf tab mg) K mg 32 "marks_in" [Str.ofString "order"] := def_mk X G a32 l32 c32 k32 rfl rfl sc_marks_in rfl rfl (fun _ _ _ _ _ _ us hl => match us, hl with | [_], _ => rfl) ck_marks_in
  have d33 : DefP tab prog (faOf tab mg) K mg 33 "is_folded" [Str.ofString "order"] := def_mk X G a33 l33 c33 k33 rfl rfl sc_is_folded rfl rfl (fun _ _ _ _ _ _ us hl => match us, hl with | [_], _ => rfl) ck_is_folded
  have d34 : DefP tab prog (faOf tab mg) K mg 34 "marks_of" [Str.ofString "order"] := def_mk X G a34 l34 c34 k34 rfl rfl sc_marks_of rfl rfl (fun _ _ _ _ _ _ us hl => match us, hl with | [_], _ => rfl) ck_marks_of
  have d35 : DefP tab prog (faOf tab mg) K mg 35 "_law_cup" [Str.ofString "script"] := def_mk X G a35 l35 c35 k35 rfl rfl sc__law_cup rfl rfl (fun _ _ _ _ _ _ us hl => match us, hl with | [_], _ => rfl) ck__law_cup
  have d36 : DefP tab prog (faOf tab mg) K mg 36 "_law_roll" [Str.ofString "cup", Str.ofString "many"] := def_mk X G a36 l36 c36 k36 rfl rfl sc__law_roll rfl rfl (fun _ _ _ _ _ _ us hl => match us, hl with | [_, _], _ => rfl) ck__law_roll
  have d37 : DefP tab prog (faOf tab mg) K mg 37 "_law_some" [Str.ofString "cup", Str.ofString "things"] := def_mk X G a37 l37 c37 k37 rfl rfl sc__law_some rfl rfl (fun _ _ _ _ _ _ us hl => match us, hl with | [_, _], _ => rfl) ck__law_some
  have d38 : DefP tab prog (faOf tab mg) K mg 38 "_law_sort" [Str.ofString "value"] := def_mk X G a38 l38 c38 k38 rfl rfl sc__law_sort rfl rfl (fun _ _ _ _ _ _ us hl => match us, hl with | [_], _ => rfl) ck__law_sort
  have d39 : DefP tab prog (faOf tab mg) K mg 39 "_law_like" [Str.ofString "one", Str.ofString "other"] := def_mk X G a39 l39 c39 k39 rfl rfl sc__law_like rfl rfl (fun _ _ _ _ _ _ us hl => match us, hl with | [_, _], _ => rfl) ck__law_like
  have d40 : DefP tab prog (faOf tab mg) K mg 40 "_law_bent" [Str.ofString "cup", Str.ofString "value"] := def_mk X G a40 l40 c40 k40 rfl rfl sc__law_bent rfl rfl (fun _ _ _ _ _ _ us hl => match us, hl with | [_, _], _ => rfl) ck__law_bent
  have d41 : DefP tab prog (faOf tab mg) K mg 41 "_law_map" [Str.ofString "cup", Str.ofString "most"] := def_mk X G a41 l41 c41 k41 rfl rfl sc__law_map rfl rfl (fun _ _ _ _ _ _ us hl => match us, hl with | [_, _], _ => rfl) ck__law_map
  have d42 : DefP tab prog (faOf tab mg) K mg 42 "_law_joints" [Str.ofString "map_pair"] := def_mk X G a42 l42 c42 k42 rfl rfl sc__law_joints rfl rfl (fun _ _ _ _ _ _ us hl => match us, hl with | [_], _ => rfl) ck__law_joints
  have d43 : DefP tab prog (faOf tab mg) K mg 43 "_law_turns" [Str.ofString "stack", Str.ofString "joint", Str.ofString "other"] := def_mk X G a43 l43 c43 k43 rfl rfl sc__law_turns rfl rfl (fun _ _ _ _ _ _ us hl => match us, hl with | [_, _, _], _ => rfl) ck__law_turns
  have d44 : DefP tab prog (faOf tab mg) K mg 44 "_law_crossings" [Str.ofString "map_pair", Str.ofString "stack"] := def_mk X G a44 l44 c44 k44 rfl rfl sc__law_crossings rfl rfl (fun _ _ _ _ _ _ us hl => match us, hl with | [_, _], _ => rfl) ck__law_crossings
  have d45 : DefP tab prog (faOf tab mg) K mg 45 "_law_drawn_flat" [Str.ofString "cup", Str.ofString "map_pair"] := def_mk X G a45 l45 c45 k45 rfl rfl sc__law_drawn_flat rfl rfl (fun _ _ _ _ _ _ us hl => match us, hl with | [_, _], _ => rfl) ck__law_drawn_flat
  have d46 : DefP tab prog (faOf tab mg) K mg 46 "_law_rolled_up" [Str.ofString "map_pair"] := def_mk X G a46 l46 c46 k46 rfl rfl sc__law_rolled_up rfl rfl (fun _ _ _ _ _ _ us hl => match us, hl with | [_], _ => rfl) ck__law_rolled_up
  have d47 : DefP tab prog (faOf tab mg) K mg 47 "_law_told" [Str.ofString "cup", Str.ofString "own", Str.ofString "often"] := def_mk X G a47 l47 c47 k47 rfl rfl sc__law_told rfl rfl (fun _ _ _ _ _ _ us hl => match us, hl with | [_, _, _], _ => rfl) ck__law_told
  have d48 : DefP tab prog (faOf tab mg) K mg 48 "_law_line" [Str.ofString "cup", Str.ofString "things"] := def_mk X G a48 l48 c48 k48 rfl rfl sc__law_line rfl rfl (fun _ _ _ _ _ _ us hl => match us, hl with | [_, _], _ => rfl) ck__law_line
  have d49 : DefP tab prog (faOf tab mg) K mg 49 "_law_map_marks" [Str.ofString "map_pair", Str.ofString "stack"] := def_mk X G a49 l49 c49 k49 rfl rfl sc__law_map_marks rfl rfl (fun _ _ _ _ _ _ us hl => match us, hl with | [_, _], _ => rfl) ck__law_map_marks
  have d50 : DefP tab prog (faOf tab mg) K mg 50 "_law_put" [Str.ofString "joints", Str.ofString "part", Str.ofString "leaf"] := def_mk X G a50 l50 c50 k50 rfl rfl sc__law_put rfl rfl (fun _ _ _ _ _ _ us hl => match us, hl with | [_, _, _], _ => rfl) ck__law_put
  have d51 : DefP tab prog (faOf tab mg) K mg 51 "_law_is_stack" [Str.ofString "map_pair", Str.ofString "value"] := def_mk X G a51 l51 c51 k51 rfl rfl sc__law_is_stack rfl rfl (fun _ _ _ _ _ _ us hl => match us, hl with | [_, _], _ => rfl) ck__law_is_stack
  have d52 : DefP tab prog (faOf tab mg) K mg 52 "_law_bad" [Str.ofString "map_pair", Str.ofString "told"] := def_mk X G a52 l52 c52 k52 rfl rfl sc__law_bad rfl rfl (fun _ _ _ _ _ _ us hl => match us, hl with | [_, _], _ => rfl) ck__law_bad
  have d53 : DefP tab prog (faOf tab mg) K mg 53 "_law_right" [Str.ofString "cup", Str.ofString "map_pair", Str.ofString "stack"] := def_mk X G a53 l53 c53 k53 rfl rfl sc__law_right rfl rfl (fun _ _ _ _ _ _ us hl => match us, hl with | [_, _, _], _ => rfl) ck__law_right
  have d54 : DefP tab prog (faOf tab mg) K mg 54 "_law_written_right" [] := def_mk X G a54 l54 c54 k54 rfl rfl sc__law_written_right rfl rfl (fun _ _ _ _ _ _ us hl => match us, hl with | [], _ => rfl) ck__law_written_right
  have d55 : DefP tab prog (faOf tab mg) K mg 55 "law" [Str.ofString "script"] := def_mk X G a55 l55 c55 k55 rfl rfl sc_law rfl rfl (fun _ _ _ _ _ _ us hl => match us, hl with | [_], _ => rfl) ck_law
  have hT : Tops tab prog (faOf tab mg) K mg := tops_mk (h := h) ⟨PySem.W.mg_none_of X G z0, PySem.W.mg_none_of X G z1, PySem.W.mg_none_of X G z2, PySem.W.mg_none_of X G z3, PySem.W.mg_none_of X G z4, PySem.W.mg_none_of X G z5, PySem.W.mg_none_of X G z6, PySem.W.mg_none_of X G z7, PySem.W.mg_none_of X G z8, PySem.W.mg_none_of X G z9, PySem.W.mg_none_of X G z10, PySem.W.mg_none_of X G z11, PySem.W.mg_none_of X G z12, PySem.W.mg_none_of X G z13, PySem.W.mg_none_of X G z14, PySem.W.mg_none_of X G z15, PySem.W.mg_none_of X G z16, trivial⟩ ⟨glob_int X G qc0 rfl, glob_str X G qc1 rfl (by decide +kernel), glob_str X G qc2 rfl (by decide +kernel), glob_str X G qc3 rfl (by decide +kernel), glob_int X G qc4 rfl, trivial⟩ ⟨d0, d1, d2, d3, d4, d5, d6, d7, d8, d9, d10, d11, d12, d13, d14, d15, d16, d17, d18, d19, d20, d21, d22, d23, d24, d25, d26, d27, d28, d29, d30, d31, d32, d33, d34, d35, d36, d37, d38, d39, d40, d41, d42, d43, d44, d45, d46, d47, d48, d49, d50, d51, d52, d53, d54, d55, trivial⟩
  exact ⟨_, fun s v => .of_eq rfl, fun base _ _ => law_ok hT (il := 55) rfl hfa l55 law_plain base⟩
end
end Gk31
open PySem PySem.W PyProof.Rows
set_option maxHeartbeats 0 in
theorem PySem.Challenge.cw_allfolded_k31_whole_maps_and_stacks_holds : PySem.Challenge.rw_allfolded_k31_whole_maps_and_stacks.Holds := by
  w_on; o_law; k_head; (case hw => w_witness2)
  k_fill
  refine L2.walk_of (l := PySem.Challenge.rw_allfolded_k31_whole_maps_and_stacks) (n := 63) (k := 60) (x := "script") (CX := fun w => L2.CX PySem.Challenge.rw_allfolded_k31_whole_maps_and_stacks.prog w) (sp := fun w => RF.spLaw _ 63) rfl (by decide) rfl ⟨rfl, by decide, by decide⟩ (fun w h Y => PySem.W.kIn_of Y) ?F (fun _ _ a ns hl hO hS => ⟨a, ns, rfl, hS, hl, hO, fun _ => rfl⟩) (fun _ _ _ _ _ h => RF.only_cx h)
  case F =>
    intro w mg fa h KX G hmg
    refine' Gk31.all_mk KX G hmg ?a0 ?l0 ?c0 ?k0 ?a1 ?l1 ?c1 ?k1 ?a2 ?l2 ?c2 ?k2 ?a3 ?l3 ?c3 ?k3 ?a4 ?l4 ?c4 ?k4 ?a5 ?l5 ?c5 ?k5 ?a6 ?l6 ?c6 ?k6 ?a7 ?l7 ?c7 ?k7 ?a8 ?l8 ?c8 ?k8 ?a9 ?l9 ?c9 ?k9 ?a10 ?l10 ?c10 ?k10 ?a11 ?l11 ?c11 ?k11 ?a12 ?l12 ?c12 ?k12 ?a13 ?l13 ?c13 ?k13 ?a14 ?l14 ?c14 ?k14 ?a15 ?l15 ?c15 ?k15 ?a16 ?l16 ?c16 ?k16 ?a17 ?l17 ?c17 ?k17 ?a18 ?l18 ?c18 ?k18 ?a19 ?l19 ?c19 ?k19 ?a20 ?l20 ?c20 ?k20 ?a21 ?l21 ?c21 ?k21 ?a22 ?l22 ?c22 ?k22 ?a23 ?l23 ?c23 ?k23 ?a24 ?l24 ?c24 ?k24 ?a25 ?l25 ?c25 ?k25 ?a26 ?l26 ?c26 ?k26 ?a27 ?l27 ?c27 ?k27 ?a28 ?l28 ?c28 ?k28 ?a29 ?l29 ?c29 ?k29 ?a30 ?l30 ?c30 ?k30 ?a31 ?l31 ?c31 ?k31 ?a32 ?l32 ?c32 ?k32 ?a33 ?l33 ?c33 ?k33 ?a34 ?l34 ?c34 ?k34 ?a35 ?l35 ?c35 ?k35 ?a36 ?l36 ?c36 ?k36 ?a37 ?l37 ?c37 ?k37 ?a38 ?l38 ?c38 ?k38 ?a39 ?l39 ?c39 ?k39 ?a40 ?l40 ?c40 ?k40 ?a41 ?l41 ?c41 ?k41 ?a42 ?l42 ?c42 ?k42 ?a43 ?l43 ?c43 ?k43 ?a44 ?l44 ?c44 ?k44 ?a45 ?l45 ?c45 ?k45 ?a46 ?l46 ?c46 ?k46 ?a47 ?l47 ?c47 ?k47 ?a48 ?l48 ?c48 ?k48 ?a49 ?l49 ?c49 ?k49 ?a50 ?l50 ?c50 ?k50 ?a51 ?l51 ?c51 ?k51 ?a52 ?l52 ?c52 ?k52 ?a53 ?l53 ?c53 ?k53 ?a54 ?l54 ?c54 ?k54 ?a55 ?l55 ?c55 ?k55 ?qc0 ?qc1 ?qc2 ?qc3 ?qc4 ?z0 ?z1 ?z2 ?z3 ?z4 ?z5 ?z6 ?z7 ?z8 ?z9 ?z10 ?z11 ?z12 ?z13 ?z14 ?z15 ?z16
    (case a0 => k_is); (case l0 => k_is); (case c0 => k_is); (case k0 => k_is); (case a1 => k_is); (case l1 => k_is); (case c1 => k_is); (case k1 => k_is); (case a2 => k_is); (case l2 => k_is); (case c2 => k_is); (case k2 => k_is); (case a3 => k_is); (case l3 => k_is); (case c3 => k_is); (case k3 => k_is); (case a4 => k_is); (case l4 => k_is); (case c4 => k_is); (case k4 => k_is); (case a5 => k_is); (case l5 => k_is); (case c5 => k_is); (case k5 => k_is); (case a6 => k_is); (case l6 => k_is); (case c6 => k_is); (case k6 => k_is); (case a7 => k_is); (case l7 => k_is); (case c7 => k_is); (case k7 => k_is); (case a8 => k_is); (case l8 => k_is); (case c8 => k_is); (case k8 => k_is); (case a9 => k_is); (case l9 => k_is); (case c9 => k_is); (case k9 => k_is); (case a10 => k_is); (case l10 => k_is); (case c10 => k_is); (case k10 => k_is); (case a11 => k_is); (case l11 => k_is); (case c11 => k_is); (case k11 => k_is); (case a12 => k_is); (case l12 => k_is); (case c12 => k_is); (case k12 => k_is); (case a13 => k_is); (case l13 => k_is); (case c13 => k_is); (case k13 => k_is); (case a14 => k_is); (case l14 => k_is); (case c14 => k_is); (case k14 => k_is); (case a15 => k_is); (case l15 => k_is); (case c15 => k_is); (case k15 => k_is); (case a16 => k_is); (case l16 => k_is); (case c16 => k_is); (case k16 => k_is); (case a17 => k_is); (case l17 => k_is); (case c17 => k_is); (case k17 => k_is); (case a18 => k_is); (case l18 => k_is); (case c18 => k_is); (case k18 => k_is); (case a19 => k_is); (case l19 => k_is); (case c19 => k_is); (case k19 => k_is); (case a20 => k_is); (case l20 => k_is); (case c20 => k_is); (case k20 => k_is); (case a21 => k_is); (case l21 => k_is); (case c21 => k_is); (case k21 => k_is); (case a22 => k_is); (case l22 => k_is); (case c22 => k_is); (case k22 => k_is); (case a23 => k_is); (case l23 => k_is); (case c23 => k_is); (case k23 => k_is); (case a24 => k_is); (case l24 => k_is); (case c24 => k_is); (case k24 => k_is); (case a25 => k_is); (case l25 => k_is); (case c25 => k_is); (case k25 => k_is); (case a26 => k_is); (case l26 => k_is); (case c26 => k_is); (case k26 => k_is); (case a27 => k_is); (case l27 => k_is); (case c27 => k_is); (case k27 => k_is); (case a28 => k_is); (case l28 => k_is); (case c28 => k_is); (case k28 => k_is); (case a29 => k_is); (case l29 => k_is); (case c29 => k_is); (case k29 => k_is); (case a30 => k_is); (case l30 => k_is); (case c30 => k_is); (case k30 => k_is); (case a31 => k_is); (case l31 => k_is); (case c31 => k_is); (case k31 => k_is); (case a32 => k_is); (case l32 => k_is); (case c32 => k_is); (case k32 => k_is); (case a33 => k_is); (case l33 => k_is); (case c33 => k_is); (case k33 => k_is); (case a34 => k_is); (case l34 => k_is); (case c34 => k_is); (case k34 => k_is); (case a35 => k_is); (case l35 => k_is); (case c35 => k_is); (case k35 => k_is); (case a36 => k_is); (case l36 => k_is); (case c36 => k_is); (case k36 => k_is); (case a37 => k_is); (case l37 => k_is); (case c37 => k_is); (case k37 => k_is); (case a38 => k_is); (case l38 => k_is); (case c38 => k_is); (case k38 => k_is); (case a39 => k_is); (case l39 => k_is); (case c39 => k_is); (case k39 => k_is); (case a40 => k_is); (case l40 => k_is); (case c40 => k_is); (case k40 => k_is); (case a41 => k_is); (case l41 => k_is); (case c41 => k_is); (case k41 => k_is); (case a42 => k_is); (case l42 => k_is); (case c42 => k_is); (case k42 => k_is); (case a43 => k_is); (case l43 => k_is); (case c43 => k_is); (case k43 => k_is); (case a44 => k_is); (case l44 => k_is); (case c44 => k_is); (case k44 => k_is); (case a45 => k_is); (case l45 => k_is); (case c45 => k_is); (case k45 => k_is); (case a46 => k_is); (case l46 => k_is); (case c46 => k_is); (case k46 => k_is); (case a47 => k_is); (case l47 => k_is); (case c47 => k_is); (case k47 => k_is); (case a48 => k_is); (case l48 => k_is); (case c48 => k_is); (case k48 => k_is); (case a49 => k_is); (case l49 => k_is); (case c49 => k_is); (case k49 => k_is); (case a50 => k_is); (case l50 => k_is); (case c50 => k_is); (case k50 => k_is); (case a51 => k_is); (case l51 => k_is); (case c51 => k_is); (case k51 => k_is); (case a52 => k_is); (case l52 => k_is); (case c52 => k_is); (case k52 => k_is); (case a53 => k_is); (case l53 => k_is); (case c53 => k_is); (case k53 => k_is); (case a54 => k_is); (case l54 => k_is); (case c54 => k_is); (case k54 => k_is); (case a55 => k_is); (case l55 => k_is); (case c55 => k_is); (case k55 => k_is); (case qc0 => k_is); (case qc1 => k_is); (case qc2 => k_is); (case qc3 => k_is); (case qc4 => k_is); (case z0 => k_is); (case z1 => k_is); (case z2 => k_is); (case z3 => k_is); (case z4 => k_is); (case z5 => k_is); (case z6 => k_is); (case z7 => k_is); (case z8 => k_is); (case z9 => k_is); (case z10 => k_is); (case z11 => k_is); (case z12 => k_is); (case z13 => k_is); (case z14 => k_is); (case z15 => k_is); (case z16 => k_is)

