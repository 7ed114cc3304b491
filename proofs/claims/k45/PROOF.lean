import PyProof.Rows.All
import Wide.All
import OpenK.AllK
import Wide.FinOn
import HandS.ForExc
import HandS.Comp
import HandS.Dict
import HandS.Iter
import HandS.Walk
import HandS.IsInst
import HandS.Wide
import HandS.Flow
import HandS.TupAny
import HandS.Text
import HandS.RevTup
import PySem.Challenge.RW_lentshelf_k45_trees_of_tables
set_option Elab.async false
set_option linter.all false
set_option maxRecDepth 100000
set_option maxHeartbeats 8000000
/-! The plain reading of the small Python that the laws use: values, a store of lists, an evaluator. -/
namespace Pm
/-- a value: new is a list that was just made and stands nowhere else; ref n is the list at place n of the store -/
inductive PV where
  | non | bl (b : Bool) | int (i : Int) | str (s : List Nat) | tup (l : List PV) | lst (l : List PV) | ref (n : Nat) | new (l : List PV) | scr (l : List Int)
inductive Ob where
  | lst (l : List PV)
  | ins (c : Nat) (fs : List (Nat × PV))
abbrev Sto := List Ob
inductive R (α : Type) where
  | ok (a : α) (S : Sto)
  | err (c : Nat) (l : List PV) (S : Sto)
  | bad
def R.bind {α β : Type} : R α → (α → Sto → R β) → R β
  | .ok a S, k => k a S
  | .err c l S, _ => .err c l S
  | .bad, _ => .bad
abbrev sizeLine : Nat := 16777216
abbrev ERes := R PV
abbrev Sl := List (Option PV)

mutual
/-- no reference at n or behind, no new list -/
def PV.blw (n : Nat) : PV → Bool
  | .ref k => decide (k < n)
  | .tup l => blwAll n l
  | .lst l => blwAll n l
  | .new _ => false
  | _ => true
def blwAll (n : Nat) : List PV → Bool
  | [] => true
  | p :: r => p.blw n && blwAll n r
end
def Ob.blw (n : Nat) : Ob → Bool
  | .lst l => blwAll n l
  | .ins _ fs => blwAll n (fs.map (·.2))
def settle : PV → PV
  | .new l => .lst l
  | p => p

/-! equality of data -/
mutual
def eqv : PV → PV → Bool
  | .non, .non => true
  | .bl a, .bl b => a == b
  | .bl a, .int j => (if a then 1 else 0) == j
  | .int i, .bl b => i == (if b then 1 else 0)
  | .int i, .int j => i == j
  | .str x, .str y => x == y
  | .tup xs, .tup ys => eqvAll xs ys
  | .lst xs, .lst ys => eqvAll xs ys
  | _, _ => false
def eqvAll : List PV → List PV → Bool
  | [], [] => true
  | x :: xs, y :: ys => eqv x y && eqvAll xs ys
  | _, _ => false
end
mutual
/-- data that == may be asked of: no references, signs that are signs, so deep at most -/
def PV.okD : Nat → PV → Bool
  | _, .non => true
  | _, .bl _ => true
  | _, .int _ => true
  | _, .str x => x.all (· < 0x110000)
  | 0, .tup _ => false
  | 0, .lst _ => false
  | d + 1, .tup l => okAll d l
  | d + 1, .lst l => okAll d l
  | _, _ => false
def okAll : Nat → List PV → Bool
  | _, [] => true
  | d, p :: r => p.okD d && okAll d r
end
/-- None, truths, whole numbers, texts -/
def kind : PV → Nat
  | .non => 1
  | .bl _ => 2
  | .int _ => 3
  | .str _ => 4
  | _ => 0
/-- both are plain, and not a truth beside a number -/
def scal (a b : PV) : Bool := kind a != 0 && kind b != 0 && kind a * kind b != 6
/-- a list of the store as data -/
def look (S : Sto) : PV → PV
  | .ref n => match S[n]? with
    | some (.lst l) => .lst l
    | _ => .ref n
  | p => p
def eqOk (a b : PV) : Bool := scal a b || (a.okD 60 && b.okD 60)
def flat : PV → Bool
  | .non => true | .bl _ => true | .int _ => true | .str _ => true | _ => false

/-! sequences -/
/-- the place that an index names among n -/
def place (n : Nat) (i : Int) : Option Nat :=
  let j := if i < 0 then (n : Int) + i else i
  if 0 ≤ j ∧ j < (n : Int) then some j.toNat else none
def pick {α : Type} (xs : List α) (i : Int) : Option α := match place xs.length i with
  | some j => xs[j]?
  | none => none
/-- a slice's bound among n; d where it is left out -/
def bound (n d : Nat) (o : Option Int) : Nat := match o with
  | none => d
  | some v => (max 0 (min (n : Int) (if v < 0 then (n : Int) + v else v))).toNat
def cut {α : Type} (xs : List α) (lo hi : Option Int) : List α := (xs.take (bound xs.length xs.length hi)).drop (bound xs.length 0 lo)
/-- the items of a tuple or a list -/
def items (S : Sto) : PV → Option (List PV)
  | .scr l => some (l.map .int)
  | .tup l => some l
  | .lst l => some l
  | .new l => some l
  | .ref n => match S[n]? with
    | some (.lst l) => some l
    | _ => none
  | _ => none
def isLst (S : Sto) : PV → Option (List PV)
  | .lst l => some l
  | .new l => some l
  | .ref n => match S[n]? with
    | some (.lst l) => some l
    | _ => none
  | _ => none

inductive Op where
  | add | sub | mul | fdiv | mod | pow
  deriving DecidableEq
inductive Cm where
  | eq | ne | lt | le | gt | ge | isN | notN | mem | nmem
  deriving DecidableEq
def mulOk (i j : Int) : Bool := decide (i.natAbs < 2 ^ 64) || decide (j.natAbs < 2 ^ 64) || decide (i.natAbs.log2 + j.natAbs.log2 < 1000000)
def divOk (j : Int) : Bool := decide (0 < j) && decide (j.natAbs.log2 < 9000)
def powOk (i j : Int) : Bool := decide (0 ≤ j) && decide (j ≤ 1000000) && decide (i.natAbs < 2 ^ 64)
def bin (op : Op) (a b : PV) (S : Sto) : ERes := match op, a, b with
  | .add, .int i, .int j => .ok (.int (i + j)) S
  | .sub, .int i, .int j => .ok (.int (i - j)) S
  | .mul, .int i, .int j => if mulOk i j = true then .ok (.int (i * j)) S else .bad
  | .fdiv, .int i, .int j => if divOk j = true then .ok (.int (i / j)) S else .bad
  | .mod, .int i, .int j => if 0 < j then .ok (.int (i % j)) S else .bad
  | .pow, .int i, .int j => if powOk i j = true then .ok (.int (i ^ j.toNat)) S else .bad
  | .add, .str x, .str y => if x.length + y.length ≤ sizeLine then .ok (.str (x ++ y)) S else .bad
  | .add, .tup x, .tup y => if x.length + y.length ≤ sizeLine then .ok (.tup (x ++ y)) S else .bad
  | .add, a, b => match isLst S a, isLst S b with
    | some x, some y => if x.length + y.length ≤ sizeLine then .ok (.new (x ++ y)) S else .bad
    | _, _ => .bad
  | .mul, a, .int k => match isLst S a with
    | some x => if -(2 ^ 63) ≤ k ∧ k < 2 ^ 63 ∧ x.length * k.toNat ≤ sizeLine then .ok (.new (List.replicate k.toNat x).flatten) S else .bad
    | _ => .bad
  | _, _, _ => .bad
def memOf (a b : PV) (S : Sto) : Option Bool := match items S b with
  | some l => if (flat a && l.all flat) = true then some (l.any fun y => eqv y a) else none
  | none => match a, b with
    | .str [c], .str z => some (decide (c ∈ z))
    | _, _ => none
def cmp (op : Cm) (a b : PV) (S : Sto) : ERes := match op with
  | .eq => let x := look S a; let y := look S b; if eqOk x y = true then .ok (.bl (eqv x y)) S else .bad
  | .ne => let x := look S a; let y := look S b; if eqOk x y = true then .ok (.bl (!eqv x y)) S else .bad
  | .lt => match a, b with
    | .int i, .int j => .ok (.bl (decide (i < j))) S
    | _, _ => .bad
  | .le => match a, b with
    | .int i, .int j => .ok (.bl (decide (i ≤ j))) S
    | _, _ => .bad
  | .gt => match a, b with
    | .int i, .int j => .ok (.bl (decide (j < i))) S
    | _, _ => .bad
  | .ge => match a, b with
    | .int i, .int j => .ok (.bl (decide (j ≤ i))) S
    | _, _ => .bad
  | .isN => match b with
    | .non => match a with
      | .non => .ok (.bl true) S
      | _ => .ok (.bl false) S
    | _ => .bad
  | .notN => match b with
    | .non => match a with
      | .non => .ok (.bl false) S
      | _ => .ok (.bl true) S
    | _ => .bad
  | .mem => match memOf a b S with
    | some c => .ok (.bl c) S
    | none => .bad
  | .nmem => match memOf a b S with
    | some c => .ok (.bl (!c)) S
    | none => .bad
def getIx (a b : PV) (S : Sto) : ERes := match b with
  | .int i => match items S a with
    | some l => match pick l i with
      | some v => .ok v S
      | none => .bad
    | none => match a with
      | .str z => if z.length ≤ sizeLine then match pick z i with
        | some c => .ok (.str [c]) S
        | none => .bad
        else .bad
      | _ => .bad
  | _ => .bad
def getSl (a : PV) (lo hi : Option Int) (S : Sto) : ERes := match a with
  | .str z => if z.length ≤ sizeLine then .ok (.str (cut z lo hi)) S else .bad
  | .tup l => .ok (.tup (cut l lo hi)) S
  | a => match isLst S a with
    | some l => .ok (.new (cut l lo hi)) S
    | none => .bad
inductive Ty where
  | int | bool | str | tuple | list
  deriving DecidableEq
def isTy (t : Ty) : PV → Bool := fun p => match t, p with
  | .int, .int _ => true
  | .int, .bl _ => true
  | .bool, .bl _ => true
  | .str, .str _ => true
  | .tuple, .tup _ => true
  | .list, .lst _ => true
  | .list, .ref _ => true
  | _, _ => false
def typed (S : Sto) : PV → Bool
  | .new _ => false
  | .scr _ => false
  | .ref n => match S[n]? with
    | some (.lst _) => true
    | _ => false
  | _ => true
inductive Bi where
  | len | int | abs | max | min | list | tuple | sum | all | any | isi (t : Ty)
  deriving DecidableEq
def intsOf : List PV → Option (List Int)
  | [] => some []
  | .int i :: r => (intsOf r).map (i :: ·)
  | _ :: _ => none
def bools : List PV → Option (List Bool)
  | [] => some []
  | .bl i :: r => (bools r).map (i :: ·)
  | _ :: _ => none
def lenOf (S : Sto) : PV → Option Nat
  | .str x => if x.length ≤ sizeLine then some x.length else none
  | p => (items S p).map List.length
def maxI : List Int → Int
  | [] => 0
  | [x] => x
  | x :: y :: r => max x (maxI (y :: r))
def minI : List Int → Int
  | [] => 0
  | [x] => x
  | x :: y :: r => min x (minI (y :: r))
def intOf : PV → Option Int
  | .int i => some i
  | _ => none
def one (as : List PV) (k : PV → ERes) : ERes := match as with
  | [a] => k a
  | _ => .bad
def opt {α : Type} (o : Option α) (k : α → ERes) : ERes := match o with
  | some a => k a
  | none => .bad
def bfn (f : Bi) (as : List PV) (S : Sto) : ERes := match f with
  | .len => one as fun a => opt (lenOf S a) fun n => .ok (.int n) S
  | .int => one as fun a => match a with
    | .int i => .ok (.int i) S
    | .bl b => .ok (.int (if b then 1 else 0)) S
    | _ => .bad
  | .abs => one as fun a => opt (intOf a) fun i => .ok (.int (if i < 0 then -i else i)) S
  | .max => match as with
    | [a] => opt ((isLst S a).bind intsOf) fun l => if 0 < l.length then .ok (.int (maxI l)) S else .bad
    | [a, b] => opt (intOf a) fun i => opt (intOf b) fun j => .ok (.int (if j > i then j else i)) S
    | _ => .bad
  | .min => match as with
    | [a] => opt ((isLst S a).bind intsOf) fun l => if 0 < l.length then .ok (.int (minI l)) S else .bad
    | [a, b] => opt (intOf a) fun i => opt (intOf b) fun j => .ok (.int (if j < i then j else i)) S
    | _ => .bad
  | .list => one as fun a => opt (items S a) fun l => .ok (.new l) S
  | .tuple => one as fun a => opt (items S a) fun l => .ok (.tup l) S
  | .sum => one as fun a => opt ((isLst S a).bind intsOf) fun l => .ok (.int l.sum) S
  | .all => one as fun a => opt ((isLst S a).bind bools) fun l => .ok (.bl (l.all id)) S
  | .any => one as fun a => opt ((isLst S a).bind bools) fun l => .ok (.bl (l.any id)) S
  | .isi t => one as fun a => if typed S a = true then .ok (.bl (isTy t a)) S else .bad
/-- the methods of a list of the store -/
inductive Mt where
  | append | extend | pop
  deriving DecidableEq
def mtf (f : Mt) (o : PV) (as : List PV) (S : Sto) : ERes := match o with
  | .ref n => match S[n]? with
    | some (.lst l) => match f, as with
      | .append, [a] => if l.length < sizeLine then .ok .non (S.set n (.lst (l ++ [a]))) else .bad
      | .extend, [a] => match a with
        | .ref k => if k = n then .bad else match S[k]? with
          | some (.lst z) => if l.length + z.length ≤ sizeLine then .ok .non (S.set n (.lst (l ++ z))) else .bad
          | _ => .bad
        | .lst z => if l.length + z.length ≤ sizeLine then .ok .non (S.set n (.lst (l ++ z))) else .bad
        | _ => .bad
      | .pop, [] => match l[l.length - 1]? with
        | some v => .ok v (S.set n (.lst l.dropLast))
        | none => .bad
      | _, _ => .bad
    | _ => .bad
  | _ => .bad
/-- a list of the store -/
def isRef (S : Sto) : PV → Bool
  | .ref n => match S[n]? with
    | some (.lst _) => true
    | _ => false
  | _ => false
def truth (S : Sto) : PV → Option Bool
  | .non => some false
  | .bl b => some b
  | .int i => some (i != 0)
  | .str x => if x.length ≤ sizeLine then some (x.length != 0) else none
  | p => (items S p).map fun l => !l.isEmpty

/-! the terms -/
/-- targets; w: names of comprehensions within, wiped too -/
inductive T where
  | nm (i : Nat)
  | tu (l : List Nat)
  | nmw (i : Nat) (w : List Nat)
  | tuw (l : List Nat) (w : List Nat)
mutual
inductive E where
  | var (i : Nat)
  | cst (c : PV)
  | glo (n : List Nat) (c : PV)
  | bin (op : Op) (a b : E)
  | neg (a : E)
  | cmp (op : Cm) (a b : E)
  | chain (op op' : Cm) (a b c : E)
  | and (a b : E)
  | or (a b : E)
  | not (a : E)
  | ife (c : B) (a b : E)
  | ix (a b : E)
  | sl (a : E) (lo hi : Option E)
  | tup (l : List E)
  | lst (l : List E)
  | call (f : Nat) (l : List E) (d : List PV)
  | bi (f : Bi) (l : List E)
  | mt (f : Mt) (o : E) (l : List E)
  | comp (el : E) (t : T) (it : I) (cs : Option B)
  | box (a : E)
/-- tests -/
inductive B where
  | val (e : E)
  | and (a b : B)
  | or (a b : B)
  | not (a : B)
/-- what is walked -/
inductive I where
  | rng1 (a : E)
  | rng2 (a b : E)
  | vals (a : E)
  | rev (a : E)
  | enum (a : E)
  | zip (a b : E)
end
/-- the items that are walked, and the lists of the store that must stay as they are meanwhile -/
structure Src where
  xs : List PV
  gd : List (Nat × List PV)
def srcOf (a : PV) (S : Sto) : Option Src := match a with
  | .tup l => some ⟨l, []⟩
  | .lst l => some ⟨l, []⟩
  | .scr l => some ⟨l.map .int, []⟩
  | .ref n => match S[n]? with
    | some (.lst l) => some ⟨l, [(n, l)]⟩
    | _ => none
  | _ => none
def rng (lo hi : Int) : List PV := (List.range (hi - lo).toNat).map fun i => .int (lo + (i : Nat))
def enumFrom (n : Nat) : List PV → List PV
  | [] => []
  | x :: r => .tup [.int n, x] :: enumFrom (n + 1) r
def zipP : List PV → List PV → List PV
  | x :: xs, y :: ys => .tup [x, y] :: zipP xs ys
  | _, _ => []
def bnd (i : Int) : Bool := decide (-(2 ^ 62) ≤ i) && decide (i < 2 ^ 62)
def setAll : Sl → List Nat → List PV → Sl
  | ρ, i :: l, v :: vs => setAll (ρ.set i (some v)) l vs
  | ρ, _, _ => ρ
def store (t : T) (v : PV) (ρ : Sl) : Option Sl := match t with
  | .nm i => some (ρ.set i (some v))
  | .tu l => match v with
    | .tup vs => if vs.length = l.length then some (setAll ρ l vs) else none
    | _ => none
  | .nmw i _ => some (ρ.set i (some v))
  | .tuw l _ => match v with
    | .tup vs => if vs.length = l.length then some (setAll ρ l vs) else none
    | _ => none


mutual
/-- the same value, written alike -/
def PV.same : PV → PV → Bool
  | .non, .non => true
  | .bl a, .bl b => a == b
  | .int i, .int j => i == j
  | .str x, .str y => x == y
  | .ref x, .ref y => x == y
  | .scr x, .scr y => x == y
  | .tup xs, .tup ys => sameAll xs ys
  | .lst xs, .lst ys => sameAll xs ys
  | .new xs, .new ys => sameAll xs ys
  | _, _ => false
def sameAll : List PV → List PV → Bool
  | [], [] => true
  | x :: xs, y :: ys => x.same y && sameAll xs ys
  | _, _ => false
end
mutual
theorem PV.same_eq : ∀ {a b : PV}, a.same b = true → a = b
  | .non, b, h => by cases b <;> simp_all [PV.same]
  | .bl a, b, h => by cases b <;> simp_all [PV.same]
  | .int a, b, h => by cases b <;> simp_all [PV.same]
  | .str a, b, h => by cases b <;> simp_all [PV.same]
  | .ref a, b, h => by cases b <;> simp_all [PV.same]
  | .scr a, b, h => by cases b <;> simp_all [PV.same]
  | .tup a, b, h => by cases b <;> simp_all [PV.same]; exact sameAll_eq h
  | .lst a, b, h => by cases b <;> simp_all [PV.same]; exact sameAll_eq h
  | .new a, b, h => by cases b <;> simp_all [PV.same]; exact sameAll_eq h
theorem sameAll_eq : ∀ {a b : List PV}, sameAll a b = true → a = b
  | [], [], _ => rfl
  | [], _ :: _, h => by simp [sameAll] at h
  | _ :: _, [], h => by simp [sameAll] at h
  | x :: xs, y :: ys, h => by
    simp only [sameAll, Bool.and_eq_true] at h
    rw [PV.same_eq h.1, sameAll_eq h.2]
end
mutual
theorem PV.same_rfl : ∀ a : PV, a.same a = true
  | .non | .bl _ | .int _ | .str _ | .ref _ | .scr _ => by simp [PV.same]
  | .tup l | .lst l | .new l => by simp only [PV.same]; exact sameAll_rfl l
theorem sameAll_rfl : ∀ a : List PV, sameAll a a = true
  | [] => rfl
  | x :: xs => by simp only [sameAll, Bool.and_eq_true]; exact ⟨PV.same_rfl x, sameAll_rfl xs⟩
end
/-- the walked lists of the store stand as they stood -/
def gdOk (S : Sto) : List (Nat × List PV) → Bool
  | [] => true
  | (n, l) :: r => (match S[n]? with
    | some (.lst z) => sameAll z l
    | _ => false) && gdOk S r

/-- the names that a target stores -/
def T.own : T → List Nat
  | .nm i => [i]
  | .tu l => l
  | .nmw i w => i :: w
  | .tuw l w => l ++ w
def wipeS (ρ : Sl) (l : List Nat) : Sl := l.foldr (fun i r => r.set i none) ρ
def tstOf (v : PV) (S : Sto) : R Bool := match truth S (settle v) with
  | some b => .ok b S
  | none => .bad
/-- an error does not leave a comprehension here -/
def R.calm {α : Type} : R α → R α
  | .err _ _ _ => .bad
  | r => r
/-- a comprehension's turns -/
def compGo (f : Sl → Sto → ERes) (c : Sl → Sto → R Bool) (t : T) (ρ : Sl) (gd : List (Nat × List PV)) : List PV → List PV → Sto → ERes
  | [], acc, S => if gdOk S gd = true then .ok (.new acc) S else .bad
  | x :: xs, acc, S => if gdOk S gd = true then match store t x ρ with
    | none => .bad
    | some ρ' => (c ρ' S).calm.bind fun b S1 => if b = true then (f ρ' S1).calm.bind fun v S2 => if acc.length < sizeLine then compGo f c t ρ gd xs (acc ++ [settle v]) S2 else .bad
        else compGo f c t ρ gd xs acc S1
    else .bad
/-- a new list becomes a list of the store -/
def boxOf (v : PV) (S : Sto) : ERes := match v with
  | .new l => .ok (.ref S.length) (S ++ [.lst l])
  | .ref n => .ok (.ref n) S
  | _ => .bad
mutual
def ev (C : Nat → List PV → Sto → ERes) : E → Sl → Sto → ERes
  | .var i, ρ, S => match ρ[i]? with
    | some (some v) => .ok v S
    | _ => .bad
  | .cst c, _, S => .ok c S
  | .glo _ c, _, S => .ok c S
  | .bin op a b, ρ, S => (ev C a ρ S).bind fun x S1 => (ev C b ρ S1).bind fun y S2 => bin op (settle x) (settle y) S2
  | .neg a, ρ, S => (ev C a ρ S).bind fun x S1 => match x with
    | .int i => .ok (.int (-i)) S1
    | _ => .bad
  | .cmp op a b, ρ, S => (ev C a ρ S).bind fun x S1 => (ev C b ρ S1).bind fun y S2 => cmp op (settle x) (settle y) S2
  | .chain op op' a b c, ρ, S => (ev C a ρ S).bind fun x S1 => (ev C b ρ S1).bind fun y S2 => (cmp op (settle x) (settle y) S2).bind fun k S3 => match k with
    | .bl true => (ev C c ρ S3).bind fun z S4 => cmp op' (settle y) (settle z) S4
    | .bl false => .ok (.bl false) S3
    | _ => .bad
  | .and a b, ρ, S => (ev C a ρ S).bind fun x S1 => match x with
    | .bl true => ev C b ρ S1
    | .bl false => .ok (.bl false) S1
    | _ => .bad
  | .or a b, ρ, S => (ev C a ρ S).bind fun x S1 => match x with
    | .bl true => .ok (.bl true) S1
    | .bl false => ev C b ρ S1
    | _ => .bad
  | .not a, ρ, S => (ev C a ρ S).bind fun x S1 => match x with
    | .bl b => .ok (.bl (!b)) S1
    | _ => .bad
  | .ife c a b, ρ, S => (evT C c ρ S).bind fun k S1 => if k = true then ev C a ρ S1 else ev C b ρ S1
  | .ix a b, ρ, S => (ev C a ρ S).bind fun x S1 => (ev C b ρ S1).bind fun y S2 => getIx (settle x) (settle y) S2
  | .sl a lo hi, ρ, S => (ev C a ρ S).bind fun x S1 => (evO C lo ρ S1).bind fun i S2 => (evO C hi ρ S2).bind fun j S3 => getSl (settle x) i j S3
  | .tup l, ρ, S => (evs C l ρ S).bind fun xs S1 => if xs.length ≤ sizeLine then .ok (.tup xs) S1 else .bad
  | .lst l, ρ, S => (evs C l ρ S).bind fun xs S1 => if xs.length ≤ sizeLine then .ok (.new xs) S1 else .bad
  | .call f l d, ρ, S => (evs C l ρ S).bind fun xs S1 => C f (xs ++ d) S1
  | .bi f l, ρ, S => (evs C l ρ S).bind fun xs S1 => bfn f xs S1
  | .mt f o l, ρ, S => (ev C o ρ S).bind fun x S1 => if isRef S1 x = true then (evs C l ρ S1).bind fun xs S2 => mtf f x xs S2 else .bad
  | .comp el t it cs, ρ, S => (evI C it ρ S).bind fun s S1 => compGo (fun ρ S => ev C el ρ S) (fun ρ S => evTO C cs ρ S) t (wipeS ρ t.own) s.gd s.xs [] S1
  | .box a, ρ, S => (ev C a ρ S).bind boxOf
def evs (C : Nat → List PV → Sto → ERes) : List E → Sl → Sto → R (List PV)
  | [], _, S => .ok [] S
  | e :: r, ρ, S => (ev C e ρ S).bind fun x S1 => (evs C r ρ S1).bind fun xs S2 => .ok (settle x :: xs) S2
def evO (C : Nat → List PV → Sto → ERes) : Option E → Sl → Sto → R (Option Int)
  | none, _, S => .ok none S
  | some e, ρ, S => (ev C e ρ S).bind fun x S1 => match x with
    | .int i => .ok (some i) S1
    | _ => .bad
def evTO (C : Nat → List PV → Sto → ERes) : Option B → Sl → Sto → R Bool
  | none, _, S => .ok true S
  | some b, ρ, S => evT C b ρ S
def evT (C : Nat → List PV → Sto → ERes) : B → Sl → Sto → R Bool
  | .val e, ρ, S => (ev C e ρ S).bind tstOf
  | .and a b, ρ, S => (evT C a ρ S).bind fun k S1 => if k = true then evT C b ρ S1 else .ok false S1
  | .or a b, ρ, S => (evT C a ρ S).bind fun k S1 => if k = true then .ok true S1 else evT C b ρ S1
  | .not a, ρ, S => (evT C a ρ S).bind fun k S1 => .ok (!k) S1
def evI (C : Nat → List PV → Sto → ERes) : I → Sl → Sto → R Src
  | .rng1 a, ρ, S => (ev C a ρ S).bind fun x S1 => match x with
    | .int j => if bnd j = true then .ok ⟨rng 0 j, []⟩ S1 else .bad
    | _ => .bad
  | .rng2 a b, ρ, S => (ev C a ρ S).bind fun x S1 => (ev C b ρ S1).bind fun y S2 => match x, y with
    | .int i, .int j => if (bnd i && bnd j) = true then .ok ⟨rng i j, []⟩ S2 else .bad
    | _, _ => .bad
  | .vals a, ρ, S => (ev C a ρ S).bind fun x S1 => match srcOf (settle x) S1 with
    | some s => .ok s S1
    | none => .bad
  | .rev a, ρ, S => (ev C a ρ S).bind fun x S1 => match srcOf (settle x) S1 with
    | some s => .ok ⟨s.xs.reverse, s.gd⟩ S1
    | none => .bad
  | .enum a, ρ, S => (ev C a ρ S).bind fun x S1 => match srcOf (settle x) S1 with
    | some s => .ok ⟨enumFrom 0 s.xs, s.gd⟩ S1
    | none => .bad
  | .zip a b, ρ, S => (ev C a ρ S).bind fun x S1 => (ev C b ρ S1).bind fun y S2 => match srcOf (settle x) S2, srcOf (settle y) S2 with
    | some s, some s' => .ok ⟨zipP s.xs s'.xs, s.gd ++ s'.gd⟩ S2
    | _, _ => .bad
end

/-! statements -/
inductive G where
  | nm (i : Nat)
  | tu (l : List Nat)
  | sub (o i : E)
mutual
inductive St where
  | asg (g : G) (e : E)
  | ret (e : E)
  | retN
  | ifs (c : B) (a b : Ss)
  | whl (c : B) (b : Ss)
  | for (t : T) (it : I) (b : Ss)
  | ex (e : E)
  | brk
  | cnt
  | pss
inductive Ss where
  | nil
  | cons (s : St) (r : Ss)
end
inductive F where
  | nx (ρ : Sl) (S : Sto)
  | rt (v : PV) (S : Sto)
  | bk (ρ : Sl) (S : Sto)
  | ct (ρ : Sl) (S : Sto)
  | er (c : Nat) (l : List PV) (ρ : Sl) (S : Sto)
  | bad
def R.fl {α : Type} (ρ : Sl) : R α → (α → Sto → F) → F
  | .ok a S, k => k a S
  | .err c l S, _ => .er c l ρ S
  | .bad, _ => .bad
def F.then : F → (Sl → Sto → F) → F
  | .nx ρ S, k => k ρ S
  | f, _ => f
/-- a loop's end: its flow seen from outside -/
def F.turn (f : F) (k : Sl → Sto → F) : F := match f with
  | .nx ρ S => k ρ S
  | .ct ρ S => k ρ S
  | .bk ρ S => .nx ρ S
  | f => f
def wloop (c : Sl → Sto → R Bool) (b : Sl → Sto → F) : Nat → Sl → Sto → F
  | 0, _, _ => .bad
  | n + 1, ρ, S => (c ρ S).fl ρ fun k S1 => if k = true then (b ρ S1).turn (wloop c b n) else .nx ρ S1
def F.isBad : F → Bool
  | .bad => true
  | _ => false
def forGo (b : Sl → Sto → F) (t : T) (gd : List (Nat × List PV)) : List PV → Sl → Sto → F
  | [], ρ, S => if gdOk S gd = true then .nx ρ S else .bad
  | x :: xs, ρ, S => if gdOk S gd = true then match store t x ρ with
    | none => .bad
    | some ρ' => (b ρ' S).turn (forGo b t gd xs)
    else .bad
def setIx (o i v : PV) (S : Sto) : Option Sto := match o, i with
  | .ref n, .int k => match S[n]? with
    | some (.lst l) => (place l.length k).map fun j => S.set n (.lst (l.set j v))
    | _ => none
  | _, _ => none
def asgTo (C : Nat → List PV → Sto → ERes) (g : G) (v : PV) (ρ : Sl) (S : Sto) : F := match g with
  | .nm i => .nx (ρ.set i (some v)) S
  | .tu l => match store (.tu l) v ρ with
    | some ρ' => .nx ρ' S
    | none => .bad
  | .sub o i => (ev C o ρ S).fl ρ fun x S1 => (ev C i ρ S1).fl ρ fun y S2 => match setIx x (settle y) v S2 with
    | some S3 => .nx ρ S3
    | none => .bad
/-- W: how a while ends, by a number of turns that is enough -/
noncomputable def whileM (c : Sl → Sto → R Bool) (b : Sl → Sto → F) (ρ : Sl) (S : Sto) : F :=
  open Classical in if h : ∃ n, (wloop c b n ρ S).isBad = false then wloop c b h.choose ρ S else .bad
mutual
def ex (W : (Sl → Sto → R Bool) → (Sl → Sto → F) → Sl → Sto → F) (C : Nat → List PV → Sto → ERes) : St → Sl → Sto → F
  | .asg g e, ρ, S => (ev C e ρ S).fl ρ fun x S1 => asgTo C g (settle x) ρ S1
  | .ret e, ρ, S => (ev C e ρ S).fl ρ fun x S1 => .rt x S1
  | .retN, _, S => .rt .non S
  | .ifs c a b, ρ, S => (evT C c ρ S).fl ρ fun k S1 => if k = true then exs W C a ρ S1 else exs W C b ρ S1
  | .whl c b, ρ, S => W (fun ρ S => evT C c ρ S) (fun ρ S => exs W C b ρ S) ρ S
  | .for t it b, ρ, S => (evI C it ρ S).fl ρ fun s S1 => forGo (fun ρ S => exs W C b ρ S) t s.gd s.xs ρ S1
  | .ex e, ρ, S => (ev C e ρ S).fl ρ fun _ S1 => .nx ρ S1
  | .brk, ρ, S => .bk ρ S
  | .cnt, ρ, S => .ct ρ S
  | .pss, ρ, S => .nx ρ S
def exs (W : (Sl → Sto → R Bool) → (Sl → Sto → F) → Sl → Sto → F) (C : Nat → List PV → Sto → ERes) : Ss → Sl → Sto → F
  | .nil, ρ, S => .nx ρ S
  | .cons s r, ρ, S => (ex W C s ρ S).then fun ρ S => exs W C r ρ S
end
/-- a def: its parameters, its names, its body -/
structure Fn where
  np : Nat
  ns : Nat
  body : Ss
def start (ns : Nat) (vs : List PV) : Sl := vs.map some ++ List.replicate (ns - vs.length) none
/-- at a def's end what it alone has made is dropped: a list that it has made and hands back is new -/
def fin (n : Nat) : F → ERes
  | .rt v S => finV n v S
  | .nx _ S => finV n .non S
  | .er c l _ S => .err c l S
  | _ => .bad
where finV (n : Nat) (v : PV) (S : Sto) : ERes := match v with
  | .ref k => if n ≤ k then match S[k]? with
      | some (.lst l) => if (blwAll n l && (S.take n).all (Ob.blw n)) = true then .ok (.new l) (S.take n) else .ok v S
      | _ => .ok v S
    else if (S.take n).all (Ob.blw n) = true then .ok v (S.take n) else .ok v S
  | .new l => if (blwAll n l && (S.take n).all (Ob.blw n)) = true then .ok (.new l) (S.take n) else .ok v S
  | v => if (v.blw n && (S.take n).all (Ob.blw n)) = true then .ok v (S.take n) else .ok v S
/-- a program, its defs by number; n calls within one another at most -/
def runW (W : (Sl → Sto → R Bool) → (Sl → Sto → F) → Sl → Sto → F) (P : Nat → Option Fn) : Nat → Nat → List PV → Sto → ERes
  | 0, _, _, _ => .bad
  | n + 1, f, as, S => match P f with
    | none => .bad
    | some d => if as.length = d.np then fin S.length (exs W (runW W P n) d.body (start d.ns as) S) else .bad
noncomputable abbrev run := runW whileM
end Pm

namespace Ps
open PySem L2
open Pm (PV Ob Sto R Sl settle)
abbrev Frag := PySem.W.Frag
def toS (l : List Nat) : Str := ⟨l.toArray⟩

/-- the places: m of the lists of the store; z of lists that are just being made -/
structure Mp where
  m : List Addr
  z : List Addr
def Mp.add (m : Mp) (p : Addr) : Mp := ⟨m.m ++ [p], m.z⟩
/-! ### how values lie in the heap -/
/-- a tuple that nobody writes: tracked and not of the store, or of the written part -/
def TupA (K : Frag) (m : Mp) (H : Hp) (a : Addr) (vs : List V) : Prop :=
  (Rd H a (.tup vs) ∧ a ∉ m.m) ∨
    ∃ (o : Obj) (its : Array Value) (n : Nat), K.lookup a = some o ∧ o.cls = .type "tuple" ∧ o.data = .seq its n ∧ its.size ≤ sizeLine ∧ Vals vs its.toList
theorem TupA.sq {K : Frag} {m : Mp} {H : Hp} {a : Addr} {vs : List V} (h : TupA K m H a vs) : SqT K H a vs := by
  rcases h with ⟨h, _⟩ | h
  · exact .inl h
  · exact .inr h
def LstA (m : Mp) (H : Hp) (a : Addr) (vs : List V) : Prop := H a = some (.lst vs) ∧ a ∉ m.m ∧ a ∉ m.z
theorem LstA.sq {K : Frag} {m : Mp} {H : Hp} {a : Addr} {vs : List V} (h : LstA m H a vs) : SqL K H a vs := .inl (.inl h.1)
/-- the script -/
def ScrA (K : Frag) (m : Mp) (H : Hp) (a : Addr) (vs : List V) : Prop :=
  (Rd H a (.lst vs) ∧ a ∉ m.m ∧ a ∉ m.z) ∨
    ∃ (o : Obj) (its : Array Value) (n : Nat), K.lookup a = some o ∧ o.cls = .type "list" ∧ o.dict = none ∧ o.data = .seq its n ∧ its.size ≤ sizeLine ∧ Vals vs its.toList
theorem ScrA.sq {K : Frag} {m : Mp} {H : Hp} {a : Addr} {vs : List V} (h : ScrA K m H a vs) : SqL K H a vs := by
  rcases h with ⟨h, _⟩ | h
  · exact .inl h
  · exact .inr h
mutual
def Da (K : Frag) (m : Mp) (H : Hp) : V → PV → Prop
  | x, .non => x = .non
  | x, .bl b => x = .bl b
  | x, .int i => x = .int i
  | x, .str s => x = .str (toS s)
  | x, .tup l => ∃ a vs, x = .ref a ∧ TupA K m H a vs ∧ Das K m H vs l
  | x, .lst l => ∃ a vs, x = .ref a ∧ LstA m H a vs ∧ Das K m H vs l
  | x, .ref n => ∃ a, x = .ref a ∧ m.m[n]? = some a
  | _, .new _ => False
  | x, .scr l => ∃ a, x = .ref a ∧ ScrA K m H a (l.map V.int)
def Das (K : Frag) (m : Mp) (H : Hp) : List V → List PV → Prop
  | [], [] => True
  | v :: vs, p :: ps => Da K m H v p ∧ Das K m H vs ps
  | [], _ :: _ => False
  | _ :: _, [] => False
end
section
variable {K : Frag} {m m' m1 : Mp} {H H' H1 : Hp}
theorem Das.nil_iff {vs : List V} : Das K m H vs [] ↔ vs = [] := by cases vs <;> simp [Das]
theorem Das.cons_iff {vs : List V} {p : PV} {ps : List PV} : Das K m H vs (p :: ps) ↔ ∃ v r, vs = v :: r ∧ Da K m H v p ∧ Das K m H r ps := by
  cases vs with
  | nil => simp [Das]
  | cons v r =>
    refine ⟨fun h => ⟨v, r, rfl, h⟩, ?_⟩
    rintro ⟨_, _, e, h⟩
    cases e
    exact h
theorem Das.length : ∀ {ps : List PV} {vs : List V}, Das K m H vs ps → vs.length = ps.length
  | [], _, h => by rw [Das.nil_iff.mp h]; rfl
  | p :: ps, _, h => by
    obtain ⟨v, r, rfl, _, h2⟩ := Das.cons_iff.mp h
    simp [Das.length h2]
theorem Das.append : ∀ {ps qs : List PV} {vs ws : List V}, Das K m H vs ps → Das K m H ws qs → Das K m H (vs ++ ws) (ps ++ qs)
  | [], _, _, _, h, h' => by rw [Das.nil_iff.mp h]; exact h'
  | p :: ps, _, _, _, h, h' => by
    obtain ⟨v, r, rfl, h1, h2⟩ := Das.cons_iff.mp h
    exact Das.cons_iff.mpr ⟨v, _, rfl, h1, Das.append h2 h'⟩
theorem Das.take : ∀ {ps : List PV} {vs : List V} (n : Nat), Das K m H vs ps → Das K m H (vs.take n) (ps.take n)
  | _, _, 0, _ => by simp [Das]
  | [], _, n + 1, h => by rw [Das.nil_iff.mp h]; simp [Das]
  | p :: ps, _, n + 1, h => by
    obtain ⟨v, r, rfl, h1, h2⟩ := Das.cons_iff.mp h
    exact Das.cons_iff.mpr ⟨v, _, rfl, h1, Das.take n h2⟩
theorem Das.drop : ∀ {ps : List PV} {vs : List V} (n : Nat), Das K m H vs ps → Das K m H (vs.drop n) (ps.drop n)
  | _, _, 0, h => h
  | [], _, n + 1, h => by rw [Das.nil_iff.mp h]; simp [Das]
  | p :: ps, _, n + 1, h => by
    obtain ⟨v, r, rfl, h1, h2⟩ := Das.cons_iff.mp h
    exact Das.drop n h2
theorem Das.get : ∀ {ps : List PV} {vs : List V} {i : Nat} {p : PV}, Das K m H vs ps → ps[i]? = some p → ∃ v, vs[i]? = some v ∧ Da K m H v p
  | [], _, _, _, _, e => by simp at e
  | q :: ps, _, 0, p, h, e => by
    obtain ⟨v, r, rfl, h1, h2⟩ := Das.cons_iff.mp h
    simp at e; subst e
    exact ⟨v, rfl, h1⟩
  | q :: ps, _, i + 1, p, h, e => by
    obtain ⟨v, r, rfl, h1, h2⟩ := Das.cons_iff.mp h
    obtain ⟨w, e1, e2⟩ := Das.get (i := i) h2 (by simpa using e)
    exact ⟨w, by simpa using e1, e2⟩
theorem Das.get' : ∀ {ps : List PV} {vs : List V} {i : Nat} {v : V}, Das K m H vs ps → vs[i]? = some v → ∃ p, ps[i]? = some p ∧ Da K m H v p
  | [], _, _, _, h, e => by rw [Das.nil_iff.mp h] at e; simp at e
  | q :: ps, _, 0, v, h, e => by
    obtain ⟨w, r, rfl, h1, h2⟩ := Das.cons_iff.mp h
    simp at e; subst e
    exact ⟨q, rfl, h1⟩
  | q :: ps, _, i + 1, v, h, e => by
    obtain ⟨w, r, rfl, h1, h2⟩ := Das.cons_iff.mp h
    obtain ⟨p, e1, e2⟩ := Das.get' (i := i) h2 (by simpa using e)
    exact ⟨p, by simpa using e1, e2⟩
theorem Das.set : ∀ {ps : List PV} {vs : List V} {v : V} {p : PV} (i : Nat), Das K m H vs ps → Da K m H v p → Das K m H (vs.set i v) (ps.set i p)
  | [], _, _, _, _, h, _ => by rw [Das.nil_iff.mp h]; simp [Das]
  | q :: ps, _, v, p, 0, h, d => by
    obtain ⟨w, r, rfl, h1, h2⟩ := Das.cons_iff.mp h
    exact Das.cons_iff.mpr ⟨v, r, rfl, d, h2⟩
  | q :: ps, _, v, p, i + 1, h, d => by
    obtain ⟨w, r, rfl, h1, h2⟩ := Das.cons_iff.mp h
    exact Das.cons_iff.mpr ⟨w, _, rfl, h1, Das.set i h2 d⟩
theorem Das.reverse : ∀ {ps : List PV} {vs : List V}, Das K m H vs ps → Das K m H vs.reverse ps.reverse
  | [], _, h => by rw [Das.nil_iff.mp h]; simp [Das]
  | q :: ps, _, h => by
    obtain ⟨w, r, rfl, h1, h2⟩ := Das.cons_iff.mp h
    rw [List.reverse_cons, List.reverse_cons]
    exact Das.append (Das.reverse h2) (Das.cons_iff.mpr ⟨w, [], rfl, h1, Das.nil_iff.mpr rfl⟩)
theorem Das.dropLast {ps : List PV} {vs : List V} (h : Das K m H vs ps) : Das K m H vs.dropLast ps.dropLast := by
  rw [List.dropLast_eq_take, List.dropLast_eq_take, h.length]
  exact h.take _
theorem Das.rep {ps : List PV} {vs : List V} (h : Das K m H vs ps) : ∀ k : Nat, Das K m H (List.replicate k vs).flatten (List.replicate k ps).flatten
  | 0 => by simp [Das]
  | k + 1 => by
    rw [List.replicate_succ, List.replicate_succ, List.flatten_cons, List.flatten_cons]
    exact h.append (h.rep k)

/-! ### what may come behind -/
/-- behind: what is tracked and not of the store stands as it stood; the store's places stay, new ones are new -/
structure Fut (m : Mp) (H : Hp) (m' : Mp) (H' : Hp) : Prop where
  pre : ∃ r, m'.m = m.m ++ r
  z : m'.z = m.z
  keep : ∀ b o, H b = some o → b ∉ m.m → H' b = some o
  out : ∀ b o, H b = some o → b ∉ m.m → b ∉ m'.m
theorem Fut.refl : Fut m H m H := ⟨⟨[], by simp⟩, rfl, fun _ _ e _ => e, fun _ _ _ n => n⟩
theorem Fut.trans (f : Fut m H m1 H1) (g : Fut m1 H1 m' H') : Fut m H m' H' := by
  obtain ⟨r, e1⟩ := f.pre
  obtain ⟨r', e2⟩ := g.pre
  exact ⟨⟨r ++ r', by rw [e2, e1, List.append_assoc]⟩, g.z.trans f.z, fun b o e n => g.keep b o (f.keep b o e n) (f.out b o e n), fun b o e n => g.out b o (f.keep b o e n) (f.out b o e n)⟩
theorem Fut.place (f : Fut m H m' H') {n : Nat} {a : Addr} (e : m.m[n]? = some a) : m'.m[n]? = some a := by
  obtain ⟨r, e1⟩ := f.pre
  have h : n < m.m.length := (List.getElem?_eq_some_iff.mp e).1
  rw [e1, List.getElem?_append_left h]
  exact e
/-- a new object -/
theorem Fut.new {p : Addr} {o : HO} (h : H p = none) : Fut m H m (upd H p o) :=
  ⟨⟨[], by simp⟩, rfl, fun b u e _ => by rw [upd_ne (ne_of_none e h)]; exact e, fun _ _ _ n => n⟩
/-- a new list of the store -/
theorem Fut.more {p : Addr} {o : HO} (h : H p = none) : Fut m H (m.add p) (upd H p o) :=
  ⟨⟨[p], rfl⟩, rfl, fun b u e _ => by rw [upd_ne (ne_of_none e h)]; exact e, fun b u e n => by
    simp only [Mp.add, List.mem_append, List.mem_singleton, not_or]
    exact ⟨n, ne_of_none e h⟩⟩
/-- a list of the store is written -/
theorem Fut.write {n : Nat} {a : Addr} {o : HO} (e : m.m[n]? = some a) : Fut m H m (upd H a o) :=
  ⟨⟨[], by simp⟩, rfl, fun b u eb nb => by
    have hb : b ≠ a := fun z => nb (by rw [z]; exact List.mem_of_getElem? e)
    rw [upd_ne hb]
    exact eb, fun _ _ _ n => n⟩
/-- .. where more may be hidden than ahead -/
structure FutH (m : Mp) (H : Hp) (m' : Mp) (H' : Hp) : Prop where
  pre : ∃ r, m'.m = m.m ++ r
  zz : ∃ r, m'.z = r ++ m.z ∧ ∀ d ∈ r, H d = none
  keep : ∀ b o, H b = some o → b ∉ m.m → H' b = some o
  out : ∀ b o, H b = some o → b ∉ m.m → b ∉ m'.m
theorem Fut.h (f : Fut m H m' H') : FutH m H m' H' := ⟨f.pre, ⟨[], by simp [f.z]⟩, f.keep, f.out⟩
theorem FutH.then (f : FutH m H m1 H1) (g : Fut m1 H1 m' H') : FutH m H m' H' := by
  obtain ⟨r, e1⟩ := f.pre
  obtain ⟨r', e2⟩ := g.pre
  obtain ⟨q, e3, e4⟩ := f.zz
  exact ⟨⟨r ++ r', by rw [e2, e1, List.append_assoc]⟩, ⟨q, by rw [g.z, e3], e4⟩, fun b o e n => g.keep b o (f.keep b o e n) (f.out b o e n), fun b o e n => g.out b o (f.keep b o e n) (f.out b o e n)⟩
theorem FutH.place (f : FutH m H m' H') {n : Nat} {a : Addr} (e : m.m[n]? = some a) : m'.m[n]? = some a := by
  obtain ⟨r, e1⟩ := f.pre
  have h : n < m.m.length := (List.getElem?_eq_some_iff.mp e).1
  rw [e1, List.getElem?_append_left h]
  exact e
theorem FutH.rd (f : FutH m H m' H') {a : Addr} {u : HO} (r : Rd H a u) (n : a ∉ m.m) : Rd H' a u ∧ a ∉ m'.m := by
  rcases r with r | ⟨o, r⟩
  · exact ⟨.inl (f.keep _ _ r n), f.out _ _ r n⟩
  · exact ⟨.inr ⟨o, f.keep _ _ r n⟩, f.out _ _ r n⟩
theorem FutH.notz (f : FutH m H m' H') {a : Addr} {o : HO} (e : H a = some o) (n : a ∉ m.z) : a ∉ m'.z := by
  obtain ⟨r, e1, e2⟩ := f.zz
  rw [e1]
  simp only [List.mem_append, not_or]
  refine ⟨fun hr => ?_, n⟩
  rw [e2 a hr] at e
  cases e
theorem TupA.futH {a : Addr} {vs : List V} (h : TupA K m H a vs) (f : FutH m H m' H') : TupA K m' H' a vs := by
  rcases h with ⟨h, n⟩ | h
  · exact .inl (f.rd h n)
  · exact .inr h
theorem LstA.futH {a : Addr} {vs : List V} (h : LstA m H a vs) (f : FutH m H m' H') : LstA m' H' a vs := ⟨f.keep _ _ h.1 h.2.1, f.out _ _ h.1 h.2.1, f.notz h.1 h.2.2⟩
theorem ScrA.futH {a : Addr} {vs : List V} (h : ScrA K m H a vs) (f : FutH m H m' H') : ScrA K m' H' a vs := by
  rcases h with ⟨h, n1, n2⟩ | h
  · refine .inl ⟨(f.rd h n1).1, (f.rd h n1).2, ?_⟩
    rcases h with h | ⟨o, h⟩
    · exact f.notz h n2
    · exact f.notz h n2
  · exact .inr h
mutual
theorem Da.futH (f : FutH m H m' H') : ∀ {p : PV} {x : V}, Da K m H x p → Da K m' H' x p
  | .non, _, h => by simpa [Da] using h
  | .bl _, _, h => by simpa [Da] using h
  | .int _, _, h => by simpa [Da] using h
  | .str _, _, h => by simpa [Da] using h
  | .tup l, _, h => by
    simp only [Da] at h ⊢
    obtain ⟨a, vs, e, h1, h2⟩ := h
    exact ⟨a, vs, e, h1.futH f, Das.futH f h2⟩
  | .lst l, _, h => by
    simp only [Da] at h ⊢
    obtain ⟨a, vs, e, h1, h2⟩ := h
    exact ⟨a, vs, e, h1.futH f, Das.futH f h2⟩
  | .ref n, _, h => by
    simp only [Da] at h ⊢
    obtain ⟨a, e, h1⟩ := h
    exact ⟨a, e, f.place h1⟩
  | .new _, _, h => by simp [Da] at h
  | .scr l, _, h => by
    simp only [Da] at h ⊢
    obtain ⟨a, e, h1⟩ := h
    exact ⟨a, e, h1.futH f⟩
theorem Das.futH (f : FutH m H m' H') : ∀ {ps : List PV} {vs : List V}, Das K m H vs ps → Das K m' H' vs ps
  | [], _, h => by rw [Das.nil_iff] at h ⊢; exact h
  | p :: ps, _, h => by
    obtain ⟨v, r, rfl, h1, h2⟩ := Das.cons_iff.mp h
    exact Das.cons_iff.mpr ⟨v, r, rfl, Da.futH f h1, Das.futH f h2⟩
end
theorem Fut.rd (f : Fut m H m' H') {a : Addr} {u : HO} (r : Rd H a u) (n : a ∉ m.m) : Rd H' a u ∧ a ∉ m'.m := f.h.rd r n
theorem TupA.fut {a : Addr} {vs : List V} (h : TupA K m H a vs) (f : Fut m H m' H') : TupA K m' H' a vs := h.futH f.h
theorem LstA.fut {a : Addr} {vs : List V} (h : LstA m H a vs) (f : Fut m H m' H') : LstA m' H' a vs := h.futH f.h
theorem ScrA.fut {a : Addr} {vs : List V} (h : ScrA K m H a vs) (f : Fut m H m' H') : ScrA K m' H' a vs := h.futH f.h
theorem Da.fut (f : Fut m H m' H') {p : PV} {x : V} (d : Da K m H x p) : Da K m' H' x p := d.futH f.h
theorem Das.fut (f : Fut m H m' H') {ps : List PV} {vs : List V} (d : Das K m H vs ps) : Das K m' H' vs ps := d.futH f.h

/-! ### the store, the slots -/
def ObA (K : Frag) (m : Mp) (H : Hp) (a : Addr) : Ob → Prop
  | .lst l => ∃ vs, H a = some (.lst vs) ∧ Das K m H vs l
  | .ins _ _ => False
structure RepS (K : Frag) (m : Mp) (H : Hp) (S : Sto) : Prop where
  len : m.m.length = S.length
  nd : m.m.Nodup
  at_ : ∀ (n : Nat) (a : Addr) (o : Ob), m.m[n]? = some a → S[n]? = some o → ObA K m H a o
  hid : ∀ a ∈ m.z, a ∉ m.m ∧ ∃ vs, H a = some (.lst vs)
theorem ObA.some {a : Addr} {o : Ob} (h : ObA K m H a o) : ∃ u, H a = some u := by
  cases o with
  | lst l => obtain ⟨vs, e, _⟩ := h; exact ⟨_, e⟩
  | ins c fs => exact h.elim
theorem RepS.there {S : Sto} (r : RepS K m H S) {a : Addr} (h : a ∈ m.m) : ∃ u, H a = some u := by
  obtain ⟨n, e⟩ := List.getElem?_of_mem h
  have hn : n < S.length := by rw [← r.len]; exact (List.getElem?_eq_some_iff.mp e).1
  exact (r.at_ n a S[n] e (List.getElem?_eq_getElem hn)).some
theorem RepS.fresh {S : Sto} (r : RepS K m H S) {p : Addr} (h : H p = none) : p ∉ m.m := fun z => by
  obtain ⟨u, e⟩ := r.there z
  rw [h] at e; cases e
theorem RepS.fresh2 {S : Sto} (r : RepS K m H S) {p : Addr} (h : H p = none) : p ∉ m.z := fun z => by
  obtain ⟨_, u, e⟩ := r.hid p z
  rw [h] at e; cases e
theorem RepS.lst {S : Sto} (r : RepS K m H S) {n : Nat} {l : List PV} {a : Addr} (ha : m.m[n]? = some a) (e : S[n]? = some (.lst l)) : ∃ vs, H a = some (.lst vs) ∧ Das K m H vs l := r.at_ n a _ ha e
/-- a new object beside the store -/
theorem RepS.new {S : Sto} (r : RepS K m H S) {p : Addr} {o : HO} (h : H p = none) : RepS K m (upd H p o) S := by
  refine ⟨r.len, r.nd, fun n a ob e1 e2 => ?_, fun a ha => ?_⟩
  case refine_2 =>
    obtain ⟨h1, vs, e⟩ := r.hid a ha
    exact ⟨h1, vs, by rw [upd_ne (ne_of_none e h)]; exact e⟩
  have x := r.at_ n a ob e1 e2
  cases ob with
  | lst l =>
    obtain ⟨vs, e, d⟩ := x
    exact ⟨vs, by rw [upd_ne (ne_of_none e h)]; exact e, d.fut (Fut.new h)⟩
  | ins c fs => exact x.elim
/-- a new list of the store -/
theorem RepS.more {S : Sto} (r : RepS K m H S) {p : Addr} {vs : List V} {l : List PV} (h : H p = none) (d : Das K m H vs l) : RepS K (m.add p) (upd H p (.lst vs)) (S ++ [.lst l]) := by
  have f : Fut m H (m.add p) (upd H p (.lst vs)) := Fut.more h
  refine ⟨by simp [Mp.add, r.len], ?_, fun n a ob e1 e2 => ?_, fun a ha => ?_⟩
  rotate_left 2
  · obtain ⟨h1, vs, e⟩ := r.hid a ha
    refine ⟨?_, vs, by rw [upd_ne (ne_of_none e h)]; exact e⟩
    simp only [Mp.add, List.mem_append, List.mem_singleton, not_or]
    exact ⟨h1, ne_of_none e h⟩
  · show (m.m ++ [p]).Nodup
    rw [List.nodup_append]
    refine ⟨r.nd, by simp, fun a ha b hb => ?_⟩
    simp only [List.mem_singleton] at hb
    subst hb
    exact fun z => r.fresh h (z ▸ ha)
  · have e1 : (m.m ++ [p])[n]? = some a := e1
    by_cases hn : n < m.m.length
    · rw [List.getElem?_append_left hn] at e1
      rw [List.getElem?_append_left (by rw [← r.len]; exact hn)] at e2
      have x := r.at_ n a ob e1 e2
      cases ob with
      | lst l' =>
        obtain ⟨ws, e, d'⟩ := x
        exact ⟨ws, by rw [upd_ne (ne_of_none e h)]; exact e, d'.fut f⟩
      | ins c fs => exact x.elim
    · have hn2 : n = m.m.length := by
        have := (List.getElem?_eq_some_iff.mp e1).1
        simp at this
        omega
      subst hn2
      rw [List.getElem?_append_right (Nat.le_refl _)] at e1
      rw [r.len, List.getElem?_append_right (Nat.le_refl _)] at e2
      simp at e1 e2
      subst e1; subst e2
      exact ⟨vs, upd_same, d.fut f⟩
/-- a list of the store is written -/
theorem RepS.write {S : Sto} (r : RepS K m H S) {n : Nat} {a : Addr} {vs : List V} {l : List PV} (ha : m.m[n]? = some a) (d : Das K m H vs l) : RepS K m (upd H a (.lst vs)) (S.set n (.lst l)) := by
  have f : Fut m H m (upd H a (.lst vs)) := Fut.write ha
  refine ⟨by simp [r.len], r.nd, fun k b ob e1 e2 => ?_, fun b hb => ?_⟩
  case refine_2 =>
    obtain ⟨h1, ws, e⟩ := r.hid b hb
    have hn : b ≠ a := fun z => h1 (by rw [z]; exact List.mem_of_getElem? ha)
    exact ⟨h1, ws, by rw [upd_ne hn]; exact e⟩
  by_cases hk : k = n
  · subst hk
    rw [ha] at e1; cases e1
    have hl : k < S.length := by rw [← r.len]; exact (List.getElem?_eq_some_iff.mp ha).1
    rw [List.getElem?_set_self hl] at e2
    cases e2
    exact ⟨vs, upd_same, d.fut f⟩
  · rw [List.getElem?_set_ne (Ne.symm hk)] at e2
    have hb : b ≠ a := fun z => by
      subst z
      have h1 := (List.getElem?_eq_some_iff.mp e1)
      have h2 := (List.getElem?_eq_some_iff.mp ha)
      exact hk ((List.getElem_inj r.nd).mp (h1.2.trans h2.2.symm))
    have x := r.at_ k b ob e1 e2
    cases ob with
    | lst l' =>
      obtain ⟨ws, e, d'⟩ := x
      exact ⟨ws, by rw [upd_ne hb]; exact e, d'.fut f⟩
    | ins c fs => exact x.elim
/-! ### a list that is just being made, hidden -/
/-- the heap without what stands at D -/
def erase (H : Hp) (D : Addr) : Hp := fun b => if b = D then none else H b
def Mp.hide (m : Mp) (D : Addr) : Mp := ⟨m.m, D :: m.z⟩
theorem erase_ne {D b : Addr} (h : b ≠ D) : erase H D b = H b := by unfold erase; rw [if_neg h]
theorem erase_same {D : Addr} : erase H D D = none := by unfold erase; rw [if_pos rfl]
theorem upd_erase {D : Addr} {o : HO} : upd (erase H D) D o = upd H D o := by
  funext b
  by_cases h : b = D
  · subst h; rw [upd_same, upd_same]
  · rw [upd_ne h, upd_ne h, erase_ne h]
theorem erase_upd {D : Addr} {o : HO} (h : H D = none) : erase (upd H D o) D = H := by
  funext b
  by_cases hb : b = D
  · subst hb; rw [erase_same, h]
  · rw [erase_ne hb, upd_ne hb]
theorem erase_upd' {D : Addr} {o : HO} : erase (upd H D o) D = erase H D := by
  funext b
  by_cases hb : b = D
  · subst hb; rw [erase_same, erase_same]
  · rw [erase_ne hb, erase_ne hb, upd_ne hb]
theorem upd_self' {D : Addr} {o : HO} (h : H D = some o) : upd (erase H D) D o = H := by
  funext b
  by_cases hb : b = D
  · subst hb; rw [upd_same, h]
  · rw [upd_ne hb, erase_ne hb]
theorem rd_erase {D a : Addr} {ws : List V} {u : HO} (hD : H D = some (.lst ws)) (hu : ∀ ws, u ≠ .lst ws) (r : Rd H a u) : Rd (erase H D) a u := by
  have ne : a ≠ D := fun z => by
    subst z
    rcases r with r | ⟨o, r⟩
    · rw [hD] at r
      cases r
      exact hu _ rfl
    · rw [hD] at r
      cases r
  unfold Rd
  rw [erase_ne ne]
  exact r
mutual
/-- what is told where D is hidden is told without D -/
theorem Da.erase {D : Addr} {ws : List V} (hD : H D = some (.lst ws)) (hm : D ∉ m.m) : ∀ {p : PV} {x : V}, Da K (m.hide D) H x p → Da K m (erase H D) x p
  | .non, _, h => by simpa [Da] using h
  | .bl _, _, h => by simpa [Da] using h
  | .int _, _, h => by simpa [Da] using h
  | .str _, _, h => by simpa [Da] using h
  | .tup l, _, h => by
    simp only [Da] at h ⊢
    obtain ⟨a, vs, e, h1, h2⟩ := h
    refine ⟨a, vs, e, ?_, Das.erase hD hm h2⟩
    rcases h1 with ⟨h1, n1⟩ | h1
    · exact .inl ⟨rd_erase hD (fun _ z => by cases z) h1, n1⟩
    · exact .inr h1
  | .lst l, _, h => by
    simp only [Da] at h ⊢
    obtain ⟨a, vs, e, ⟨h1, n1, n2⟩, h2⟩ := h
    have n2' : a ∉ D :: m.z := n2
    simp only [List.mem_cons, not_or] at n2'
    exact ⟨a, vs, e, ⟨by rw [erase_ne n2'.1]; exact h1, n1, n2'.2⟩, Das.erase hD hm h2⟩
  | .ref n, _, h => by
    simp only [Da] at h ⊢
    exact h
  | .new _, _, h => by simp [Da] at h
  | .scr l, _, h => by
    simp only [Da] at h ⊢
    obtain ⟨a, e, h1⟩ := h
    refine ⟨a, e, ?_⟩
    rcases h1 with ⟨h1, n1, n2⟩ | h1
    · have n2' : a ∉ D :: m.z := n2
      simp only [List.mem_cons, not_or] at n2'
      refine .inl ⟨?_, n1, n2'.2⟩
      unfold Rd
      rw [erase_ne n2'.1]
      exact h1
    · exact .inr h1
theorem Das.erase {D : Addr} {ws : List V} (hD : H D = some (.lst ws)) (hm : D ∉ m.m) : ∀ {ps : List PV} {vs : List V}, Das K (m.hide D) H vs ps → Das K m (erase H D) vs ps
  | [], _, h => by rw [Das.nil_iff] at h ⊢; exact h
  | p :: ps, _, h => by
    obtain ⟨v, r, rfl, h1, h2⟩ := Das.cons_iff.mp h
    exact Das.cons_iff.mpr ⟨v, r, rfl, Da.erase hD hm h1, Das.erase hD hm h2⟩
end
mutual
/-- and the other way about: a new D may be hidden -/
theorem Da.hide {D : Addr} {o : HO} (hD : H D = none) : ∀ {p : PV} {x : V}, Da K m H x p → Da K (m.hide D) (upd H D o) x p
  | .non, _, h => by simpa [Da] using h
  | .bl _, _, h => by simpa [Da] using h
  | .int _, _, h => by simpa [Da] using h
  | .str _, _, h => by simpa [Da] using h
  | .tup l, _, h => by
    simp only [Da] at h ⊢
    obtain ⟨a, vs, e, h1, h2⟩ := h
    refine ⟨a, vs, e, ?_, Das.hide hD h2⟩
    rcases h1 with ⟨h1, n1⟩ | h1
    · exact .inl ⟨((Fut.new (m := m) hD).rd h1 n1).1, n1⟩
    · exact .inr h1
  | .lst l, _, h => by
    simp only [Da] at h ⊢
    obtain ⟨a, vs, e, ⟨h1, n1, n2⟩, h2⟩ := h
    refine ⟨a, vs, e, ⟨by rw [upd_ne (ne_of_none h1 hD)]; exact h1, n1, ?_⟩, Das.hide hD h2⟩
    show a ∉ D :: m.z
    simp only [List.mem_cons, not_or]
    exact ⟨ne_of_none h1 hD, n2⟩
  | .ref n, _, h => by
    simp only [Da] at h ⊢
    exact h
  | .new _, _, h => by simp [Da] at h
  | .scr l, _, h => by
    simp only [Da] at h ⊢
    obtain ⟨a, e, h1⟩ := h
    refine ⟨a, e, ?_⟩
    rcases h1 with ⟨h1, n1, n2⟩ | h1
    · refine .inl ⟨((Fut.new (m := m) hD).rd h1 n1).1, n1, ?_⟩
      show a ∉ D :: m.z
      simp only [List.mem_cons, not_or]
      refine ⟨?_, n2⟩
      rcases h1 with h1 | ⟨o, h1⟩
      · exact ne_of_none h1 hD
      · exact ne_of_none h1 hD
    · exact .inr h1
theorem Das.hide {D : Addr} {o : HO} (hD : H D = none) : ∀ {ps : List PV} {vs : List V}, Das K m H vs ps → Das K (m.hide D) (upd H D o) vs ps
  | [], _, h => by rw [Das.nil_iff] at h ⊢; exact h
  | p :: ps, _, h => by
    obtain ⟨v, r, rfl, h1, h2⟩ := Das.cons_iff.mp h
    exact Das.cons_iff.mpr ⟨v, r, rfl, Da.hide hD h1, Das.hide hD h2⟩
end
theorem RepS.erase {S : Sto} {D : Addr} {ws : List V} (r : RepS K (m.hide D) H S) (hD : H D = some (.lst ws)) (hz : D ∉ m.z) : RepS K m (erase H D) S := by
  have hm : D ∉ m.m := (r.hid D List.mem_cons_self).1
  refine ⟨r.len, r.nd, fun n a ob e1 e2 => ?_, fun a ha => ?_⟩
  · have x := r.at_ n a ob e1 e2
    cases ob with
    | lst l =>
      obtain ⟨vs, e, d⟩ := x
      have ne : a ≠ D := fun z => hm (z ▸ List.mem_of_getElem? e1)
      exact ⟨vs, by rw [erase_ne ne]; exact e, d.erase hD hm⟩
    | ins c fs => exact x.elim
  · obtain ⟨h1, vs, e⟩ := r.hid a (List.mem_cons_of_mem _ ha)
    have ne : a ≠ D := fun z => hz (z ▸ ha)
    exact ⟨h1, vs, by rw [erase_ne ne]; exact e⟩
theorem RepS.hide {S : Sto} {D : Addr} {ws : List V} (r : RepS K m H S) (hD : H D = none) : RepS K (m.hide D) (upd H D (.lst ws)) S := by
  refine ⟨r.len, r.nd, fun n a ob e1 e2 => ?_, fun a ha => ?_⟩
  · have x := r.at_ n a ob e1 e2
    cases ob with
    | lst l =>
      obtain ⟨vs, e, d⟩ := x
      exact ⟨vs, by rw [upd_ne (ne_of_none e hD)]; exact e, d.hide hD⟩
    | ins c fs => exact x.elim
  · rcases List.mem_cons.mp ha with rfl | ha
    · exact ⟨r.fresh hD, ws, upd_same⟩
    · obtain ⟨h1, vs, e⟩ := r.hid a ha
      exact ⟨h1, vs, by rw [upd_ne (ne_of_none e hD)]; exact e⟩
/-- what came while D was hidden, seen without D -/
theorem Fut.erase {D : Addr} {ws : List V} {H2 : Hp} {m2 : Mp} (f : Fut (m.hide D) (upd H D (.lst ws)) m2 H2) (hD : H D = none) (hm : D ∉ m.m) : ∃ m3 : Mp, m2 = m3.hide D ∧ Fut m H m3 (Ps.erase H2 D) ∧ H2 D = some (.lst ws) ∧ D ∉ m3.m := by
  have h1 := f.keep D _ upd_same hm
  have h2 := f.out D _ upd_same hm
  refine ⟨⟨m2.m, m.z⟩, ?_, ⟨f.pre, rfl, fun b o e n => ?_, fun b o e n => ?_⟩, h1, h2⟩
  · obtain ⟨a, b⟩ := m2
    have := f.z
    simp only [Mp.hide] at this ⊢
    rw [this]
  · have ne := ne_of_none e hD
    rw [erase_ne ne]
    exact f.keep b o (by rw [upd_ne ne]; exact e) n
  · have ne := ne_of_none e hD
    exact f.out b o (by rw [upd_ne ne]; exact e) n
structure RepE (K : Frag) (m : Mp) (H : Hp) (σ : L2.St) (ρ : Sl) : Prop where
  len : σ.length = ρ.length
  at_ : ∀ (i : Nat) (p : PV), ρ[i]? = some (some p) → ∃ x, σ[i]? = some (some x) ∧ Da K m H x p
theorem RepE.fut {σ : L2.St} {ρ : Sl} (r : RepE K m H σ ρ) (f : Fut m H m' H') : RepE K m' H' σ ρ :=
  ⟨r.len, fun i p e => by
    obtain ⟨x, e1, d⟩ := r.at_ i p e
    exact ⟨x, e1, d.fut f⟩⟩
theorem RepE.set {σ : L2.St} {ρ : Sl} (r : RepE K m H σ ρ) {x : V} {p : PV} (d : Da K m H x p) (i : Nat) : RepE K m H (σ.set i (some x)) (ρ.set i (some p)) := by
  refine ⟨by simp [r.len], fun j q e => ?_⟩
  by_cases hj : j = i
  · subst hj
    have hl : j < ρ.length := by
      have := (List.getElem?_eq_some_iff.mp e).1
      simpa using this
    rw [List.getElem?_set_self hl] at e
    cases e
    exact ⟨x, by rw [List.getElem?_set_self (by rw [r.len]; exact hl)], d⟩
  · rw [List.getElem?_set_ne (Ne.symm hj)] at e
    obtain ⟨y, e1, d1⟩ := r.at_ j q e
    exact ⟨y, by rw [List.getElem?_set_ne (Ne.symm hj)]; exact e1, d1⟩
theorem RepE.hide {σ : L2.St} {ρ : Sl} {D : Addr} {o : HO} (r : RepE K m H σ ρ) (hD : H D = none) : RepE K (m.hide D) (upd H D o) σ ρ :=
  ⟨r.len, fun i p e => by
    obtain ⟨x, e1, d⟩ := r.at_ i p e
    exact ⟨x, e1, d.hide hD⟩⟩
end
end Ps

namespace Ps
open PySem L2
open Pm (PV Ob Sto R Sl settle)

/-- what is fixed: the written part, the classes of refusals and their fields -/
structure Gam where
  K : Frag
  cls : Nat → Addr
  fld : Nat → Str
section
variable (G : Gam) (E : XK)
def ErrA (m : Mp) (c : Nat) (l : List PV) (C : Value) (d : Option Addr) (H : Hp) : Prop :=
  C = .ref (G.cls c) ∧ match l with
    | [] => d = none
    | [v] => ∃ a x, d = some a ∧ H a = some (.xd [(G.fld c, x)]) ∧ a ∉ m.m ∧ Da G.K m H x v
    | _ => False
def PErr (m : Mp) (H : Hp) (c : Nat) (l : List PV) (S : Sto) : Prop :=
  ∀ m' H' C d, Fut m H m' H' → RepS G.K m' H' S → ErrA G m' c l C d H' → E C d H'
def Okv (m : Mp) (H : Hp) (Q : VK) (S : Sto) : PV → Prop
  | .new l => ∀ m' H' a vs, Fut m H m' H' → H' a = none → RepS G.K m' H' S → Das G.K m' H' vs l → Q (.ref a) (upd H' a (.lst vs))
  | v => ∀ x m' H', Fut m H m' H' → RepS G.K m' H' S → Da G.K m' H' x v → Q x H'
def Post (m : Mp) (H : Hp) (Q : VK) : R PV → Prop
  | .ok v S => Okv G m H Q S v
  | .err c l S => PErr G E m H c l S
  | .bad => False
def PostB (m : Mp) (H : Hp) (Q : Bool → Hp → Prop) : R Bool → Prop
  | .ok b S => ∀ m' H', Fut m H m' H' → RepS G.K m' H' S → Q b H'
  | .err c l S => PErr G E m H c l S
  | .bad => False
def PostO (m : Mp) (H : Hp) (Q : Option Int → Hp → Prop) : R (Option Int) → Prop
  | .ok b S => ∀ m' H', Fut m H m' H' → RepS G.K m' H' S → Q b H'
  | .err c l S => PErr G E m H c l S
  | .bad => False
def PostA (m : Mp) (H : Hp) (Q : List V → Hp → Prop) : R (List PV) → Prop
  | .ok l S => ∀ xs m' H', Fut m H m' H' → RepS G.K m' H' S → Das G.K m' H' xs l → Q xs H'
  | .err c l S => PErr G E m H c l S
  | .bad => False
end
section
variable (G : Gam) (E : L2.St → XK)
def tE (k : Sl → Sto → R PV) : TE := fun σ H Q => ∃ m ρ S, RepE G.K m H σ ρ ∧ RepS G.K m H S ∧ Post G (E σ) m H Q (k ρ S)
def tB' (k : Sl → Sto → R Bool) : TT := fun σ H Q => ∃ m ρ S, RepE G.K m H σ ρ ∧ RepS G.K m H S ∧ PostB G (E σ) m H Q (k ρ S)
def tO' (k : Sl → Sto → R (Option Int)) : TO := fun σ H Q => ∃ m ρ S, RepE G.K m H σ ρ ∧ RepS G.K m H S ∧ PostO G (E σ) m H Q (k ρ S)
def tA' (k : Sl → Sto → R (List PV)) : TA := fun σ H Q => ∃ m ρ S, RepE G.K m H σ ρ ∧ RepS G.K m H S ∧ PostA G (E σ) m H Q (k ρ S)
end
section
variable {G : Gam} {E : XK} {m m' m1 : Mp} {H H' H1 : Hp} {Q : VK}
theorem PErr.fut {c : Nat} {l : List PV} {S : Sto} (h : PErr G E m H c l S) (f : Fut m H m' H') : PErr G E m' H' c l S :=
  fun m2 H2 C d g r e => h m2 H2 C d (f.trans g) r e
theorem Okv.fut {S : Sto} {v : PV} (h : Okv G m H Q S v) (f : Fut m H m' H') : Okv G m' H' Q S v := by
  cases v <;> first
    | exact fun m2 H2 a vs g n r d => h m2 H2 a vs (f.trans g) n r d
    | exact fun x m2 H2 g r d => h x m2 H2 (f.trans g) r d
theorem Post.fut {r : R PV} (h : Post G E m H Q r) (f : Fut m H m' H') : Post G E m' H' Q r := by
  cases r with
  | ok v S => exact Okv.fut h f
  | err c l S => exact PErr.fut h f
  | bad => exact h
theorem PostB.fut {Q : Bool → Hp → Prop} {r : R Bool} (h : PostB G E m H Q r) (f : Fut m H m' H') : PostB G E m' H' Q r := by
  cases r with
  | ok v S => exact fun m2 H2 g r => h m2 H2 (f.trans g) r
  | err c l S => exact PErr.fut h f
  | bad => exact h
theorem PostO.fut {Q : Option Int → Hp → Prop} {r : R (Option Int)} (h : PostO G E m H Q r) (f : Fut m H m' H') : PostO G E m' H' Q r := by
  cases r with
  | ok v S => exact fun m2 H2 g r => h m2 H2 (f.trans g) r
  | err c l S => exact PErr.fut h f
  | bad => exact h
theorem PostA.fut {Q : List V → Hp → Prop} {r : R (List PV)} (h : PostA G E m H Q r) (f : Fut m H m' H') : PostA G E m' H' Q r := by
  cases r with
  | ok v S => exact fun xs m2 H2 g r d => h xs m2 H2 (f.trans g) r d
  | err c l S => exact PErr.fut h f
  | bad => exact h
/-- a new list, seen as a list that nobody writes -/
theorem settled {a : Addr} {vs : List V} {l : List PV} {S : Sto} (n : H a = none) (r : RepS G.K m H S) (d : Das G.K m H vs l) :
    Fut m H m (upd H a (.lst vs)) ∧ RepS G.K m (upd H a (.lst vs)) S ∧ Da G.K m (upd H a (.lst vs)) (.ref a) (.lst l) :=
  ⟨Fut.new n, r.new n, by simp only [Da]; exact ⟨a, vs, rfl, ⟨upd_same, r.fresh n, r.fresh2 n⟩, d.fut (Fut.new n)⟩⟩
/-- a value that is used -/
theorem Okv.of {S : Sto} {v : PV} {Rest : VK} (h : ∀ x m' H', Fut m H m' H' → RepS G.K m' H' S → Da G.K m' H' x (settle v) → Rest x H') : Okv G m H Rest S v := by
  cases v with
  | new l =>
    intro m' H' a vs f n r d
    obtain ⟨f1, r1, d1⟩ := settled n r d
    exact h _ _ _ (f.trans f1) r1 d1
  | _ => exact fun x m' H' f r d => h x m' H' f r d
theorem Okv.plain {S : Sto} {v : PV} (h : Okv G m H Q S v) (hv : ∀ l, v ≠ .new l) {x : V} (f : Fut m H m' H') (r : RepS G.K m' H' S) (d : Da G.K m' H' x v) : Q x H' := by
  cases v with
  | new l => exact absurd rfl (hv l)
  | _ => exact h x m' H' f r d
theorem Da.notNew {x : V} {v : PV} (d : Da G.K m H x v) : ∀ l, v ≠ .new l := fun l e => by subst e; simp [Da] at d
theorem Okv.use {S : Sto} {v : PV} (h : Okv G m H Q S v) {x : V} (r : RepS G.K m H S) (d : Da G.K m H x v) : Q x H := h.plain d.notNew Fut.refl r d
/-- the bind: what comes first is used -/
theorem Post.bind {α : Type} {r : R PV} {k : PV → Sto → R α} {P : R α → Prop} {Rest : VK} (h : P (r.bind k)) (hb : ¬ P .bad) (he : ∀ c l S, P (.err c l S) → PErr G E m H c l S)
    (hk : ∀ v S1 x m' H', P (k v S1) → Fut m H m' H' → RepS G.K m' H' S1 → Da G.K m' H' x (settle v) → Rest x H') : Post G E m H Rest r := by
  cases r with
  | ok v S => exact Okv.of fun x m' H' f r d => hk v S x m' H' h f r d
  | err c l S => exact he c l S h
  | bad => exact absurd h hb
theorem PostB.bind {α : Type} {r : R Bool} {k : Bool → Sto → R α} {P : R α → Prop} {Rest : Bool → Hp → Prop} (h : P (r.bind k)) (hb : ¬ P .bad) (he : ∀ c l S, P (.err c l S) → PErr G E m H c l S)
    (hk : ∀ v S1 m' H', P (k v S1) → Fut m H m' H' → RepS G.K m' H' S1 → Rest v H') : PostB G E m H Rest r := by
  cases r with
  | ok v S => exact fun m' H' f r => hk v S m' H' h f r
  | err c l S => exact he c l S h
  | bad => exact absurd h hb
theorem PostO.bind {α : Type} {r : R (Option Int)} {k : Option Int → Sto → R α} {P : R α → Prop} {Rest : Option Int → Hp → Prop} (h : P (r.bind k)) (hb : ¬ P .bad) (he : ∀ c l S, P (.err c l S) → PErr G E m H c l S)
    (hk : ∀ v S1 m' H', P (k v S1) → Fut m H m' H' → RepS G.K m' H' S1 → Rest v H') : PostO G E m H Rest r := by
  cases r with
  | ok v S => exact fun m' H' f r => hk v S m' H' h f r
  | err c l S => exact he c l S h
  | bad => exact absurd h hb
theorem PostA.bind {α : Type} {r : R (List PV)} {k : List PV → Sto → R α} {P : R α → Prop} {Rest : List V → Hp → Prop} (h : P (r.bind k)) (hb : ¬ P .bad) (he : ∀ c l S, P (.err c l S) → PErr G E m H c l S)
    (hk : ∀ v S1 xs m' H', P (k v S1) → Fut m H m' H' → RepS G.K m' H' S1 → Das G.K m' H' xs v → Rest xs H') : PostA G E m H Rest r := by
  cases r with
  | ok v S => exact fun xs m' H' f r d => hk v S xs m' H' h f r d
  | err c l S => exact he c l S h
  | bad => exact absurd h hb

/-! ### weaker readings -/
theorem PE.imp {X : Cx} {e : Expr} {t t' : TE} (h : PE X e t) (i : ∀ σ H Q, t' σ H Q → t σ H Q) : PE X e t' := ⟨fun pins s σ H Q I q => h.run pins s σ H Q I (i σ H Q q)⟩
theorem PT.imp {X : Cx} {e : Expr} {t t' : TT} (h : PT X e t) (i : ∀ σ H Q, t' σ H Q → t σ H Q) : PT X e t' := ⟨fun pins s σ H Q I q => h.run pins s σ H Q I (i σ H Q q)⟩
theorem PW.imp {X : Cx} {e : Expr} {t t' : TT} (h : PW X e t) (i : ∀ σ H Q, t' σ H Q → t σ H Q) : PW X e t' := ⟨fun w pins s σ H Q I q => h.run w pins s σ H Q I (i σ H Q q)⟩
theorem PA.imp {X : Cx} {e : List Expr} {t t' : TA} (h : PA X e t) (i : ∀ σ H Q, t' σ H Q → t σ H Q) : PA X e t' := ⟨fun p pins s σ H Q I q => h.run p pins s σ H Q I (i σ H Q q)⟩
theorem PS.imp {X : Cx} {e : Stmt} {t t' : TS} (h : PS X e t) (i : ∀ D σ H, t' D σ H → t D σ H) : PS X e t' := ⟨fun pins s σ H D I q => h.run pins s σ H D I (i D σ H q)⟩
theorem PSs.imp {X : Cx} {e : List Stmt} {t t' : TS} (h : PSs X e t) (i : ∀ D σ H, t' D σ H → t D σ H) : PSs X e t' := ⟨fun pins s σ H D I q => h.run pins s σ H D I (i D σ H q)⟩
theorem PO.imp {X : Cx} {e : Option Expr} {t t' : TO} (h : PO X e t) (i : ∀ σ H Q, t' σ H Q → t σ H Q) : PO X e t' := by
  refine ⟨fun pins s σ H Q I q => h.run pins s σ H Q I (i σ H Q q)⟩
theorem PI.imp {X : Cx} {tg e : Expr} {t t' : TI} (h : PI X tg e t) (i : ∀ σ H Q, t' σ H Q → t σ H Q) : PI X tg e t' := ⟨fun pins s σ H Q I q => h.run pins s σ H Q I (i σ H Q q)⟩
end
end Ps

namespace Ps
open PySem L2
open Pm (PV Ob Sto R Sl settle)
section
variable {G : Gam} {E : XK} {m m' m1 : Mp} {H H' H1 : Hp} {Q : VK} {S : Sto} {X : Cx}
/-! ### what values are -/
theorem Da.non_iff {x : V} : Da G.K m H x .non ↔ x = .non := by simp [Da]
theorem Da.bl_iff {x : V} {b : Bool} : Da G.K m H x (.bl b) ↔ x = .bl b := by simp [Da]
theorem Da.int_iff {x : V} {b : Int} : Da G.K m H x (.int b) ↔ x = .int b := by simp [Da]
theorem Da.str_iff {x : V} {b : List Nat} : Da G.K m H x (.str b) ↔ x = .str (toS b) := by simp [Da]
theorem Da.tup_iff {x : V} {l : List PV} : Da G.K m H x (.tup l) ↔ ∃ a vs, x = .ref a ∧ TupA G.K m H a vs ∧ Das G.K m H vs l := by simp [Da]
theorem Da.lst_iff {x : V} {l : List PV} : Da G.K m H x (.lst l) ↔ ∃ a vs, x = .ref a ∧ LstA m H a vs ∧ Das G.K m H vs l := by simp [Da]
theorem Da.ref_iff {x : V} {n : Nat} : Da G.K m H x (.ref n) ↔ ∃ a, x = .ref a ∧ m.m[n]? = some a := by simp [Da]
theorem Da.scr_iff {x : V} {l : List Int} : Da G.K m H x (.scr l) ↔ ∃ a, x = .ref a ∧ ScrA G.K m H a (l.map V.int) := by simp [Da]
theorem toS_len (l : List Nat) : (toS l).length = l.length := by simp [toS, Str.length]
theorem toS_app (a b : List Nat) : toS a ++ toS b = toS (a ++ b) := by
  show Str.mk _ = _
  simp [toS]
theorem das_ints : ∀ l : List Int, Das G.K m H (l.map V.int) (l.map PV.int)
  | [] => by simp [Das]
  | i :: l => by simp only [List.map_cons, Das]; exact ⟨by simp [Da], das_ints l⟩
theorem das_ints_iff : ∀ {l : List Int} {vs : List V}, Das G.K m H vs (l.map PV.int) → vs = l.map V.int
  | [], _, h => by simpa using Das.nil_iff.mp h
  | i :: l, _, h => by
    obtain ⟨v, r, rfl, h1, h2⟩ := Das.cons_iff.mp h
    rw [Da.int_iff.mp h1, das_ints_iff h2]
    rfl
theorem das_bools_iff : ∀ {l : List Bool} {vs : List V}, Das G.K m H vs (l.map PV.bl) → vs = l.map V.bl
  | [], _, h => by simpa using Das.nil_iff.mp h
  | i :: l, _, h => by
    obtain ⟨v, r, rfl, h1, h2⟩ := Das.cons_iff.mp h
    rw [Da.bl_iff.mp h1, das_bools_iff h2]
    rfl
theorem ints_eq : ∀ {l : List PV} {ns : List Int}, Pm.intsOf l = some ns → l = ns.map PV.int
  | [], ns, h => by simp [Pm.intsOf] at h; subst h; rfl
  | p :: l, ns, h => by
    cases p with
    | int i =>
      simp only [Pm.intsOf, Option.map_eq_some_iff] at h
      obtain ⟨r, e, rfl⟩ := h
      rw [ints_eq e]
      rfl
    | _ => simp [Pm.intsOf] at h
theorem bools_eq : ∀ {l : List PV} {ns : List Bool}, Pm.bools l = some ns → l = ns.map PV.bl
  | [], ns, h => by simp [Pm.bools] at h; subst h; rfl
  | p :: l, ns, h => by
    cases p with
    | bl i =>
      simp only [Pm.bools, Option.map_eq_some_iff] at h
      obtain ⟨r, e, rfl⟩ := h
      rw [bools_eq e]
      rfl
    | _ => simp [Pm.bools] at h
/-- a list, whether it is written or not -/
theorem isLst_of {p : PV} {x : V} {l : List PV} (r : RepS G.K m H S) (d : Da G.K m H x p) (h : Pm.isLst S p = some l) : ∃ a vs, x = .ref a ∧ H a = some (.lst vs) ∧ Das G.K m H vs l := by
  cases p with
  | lst z =>
    simp only [Pm.isLst, Option.some.injEq] at h
    subst h
    obtain ⟨a, vs, e, h1, h2⟩ := Da.lst_iff.mp d
    exact ⟨a, vs, e, h1.1, h2⟩
  | ref n =>
    obtain ⟨a, e, h1⟩ := Da.ref_iff.mp d
    simp only [Pm.isLst] at h
    split at h
    · rename_i z ez
      cases h
      obtain ⟨vs, e1, e2⟩ := r.lst h1 ez
      exact ⟨a, vs, e, e1, e2⟩
    · cases h
  | new z => simp [Da] at d
  | _ => simp [Pm.isLst] at h
theorem items_of {p : PV} {x : V} {l : List PV} (r : RepS G.K m H S) (d : Da G.K m H x p) (h : Pm.items S p = some l) : ∃ a vs, x = .ref a ∧ (SqL G.K H a vs ∨ SqT G.K H a vs) ∧ Das G.K m H vs l := by
  cases p with
  | tup z =>
    simp only [Pm.items, Option.some.injEq] at h
    subst h
    obtain ⟨a, vs, e, h1, h2⟩ := Da.tup_iff.mp d
    exact ⟨a, vs, e, .inr h1.sq, h2⟩
  | lst z =>
    simp only [Pm.items, Option.some.injEq] at h
    subst h
    obtain ⟨a, vs, e, h1, h2⟩ := Da.lst_iff.mp d
    exact ⟨a, vs, e, .inl h1.sq, h2⟩
  | scr z =>
    simp only [Pm.items, Option.some.injEq] at h
    subst h
    obtain ⟨a, e, h1⟩ := Da.scr_iff.mp d
    exact ⟨a, _, e, .inl h1.sq, das_ints z⟩
  | ref n =>
    obtain ⟨a, e, h1⟩ := Da.ref_iff.mp d
    simp only [Pm.items] at h
    split at h
    · rename_i z ez
      cases h
      obtain ⟨vs, e1, e2⟩ := r.lst h1 ez
      exact ⟨a, vs, e, .inl (SqL.of e1), e2⟩
    · cases h
  | new z => simp [Da] at d
  | _ => simp [Pm.items] at h
/-! ### ways out -/
theorem out_bl {b : Bool} (h : Okv G m H Q S (.bl b)) (r : RepS G.K m H S) : Q (.bl b) H := h.use r (by simp [Da])
theorem out_int {b : Int} (h : Okv G m H Q S (.int b)) (r : RepS G.K m H S) : Q (.int b) H := h.use r (by simp [Da])
theorem out_non (h : Okv G m H Q S .non) (r : RepS G.K m H S) : Q .non H := h.use r (by simp [Da])
theorem out_str {b : List Nat} (h : Okv G m H Q S (.str b)) (r : RepS G.K m H S) : Q (.str (toS b)) H := h.use r (by simp [Da])
theorem out_new {l : List PV} {vs : List V} {a : Addr} (h : Okv G m H Q S (.new l)) (r : RepS G.K m H S) (d : Das G.K m H vs l) (n : H a = none) : Q (.ref a) (upd H a (.lst vs)) := h m H a vs Fut.refl n r d
theorem out_tup {l : List PV} {vs : List V} {a : Addr} (h : Okv G m H Q S (.tup l)) (r : RepS G.K m H S) (d : Das G.K m H vs l) (n : H a = none) : Q (.ref a) (upd H a (.tup vs)) :=
  h _ m _ (Fut.new n) (r.new n) (Da.tup_iff.mpr ⟨a, vs, rfl, .inl ⟨.inl upd_same, r.fresh n⟩, d.fut (Fut.new n)⟩)
theorem out_tupA {l : List PV} {vs : List V} {a : Addr} (h : Okv G m H Q S (.tup l)) (r : RepS G.K m H S) (t : TupA G.K m H a vs) (d : Das G.K m H vs l) : Q (.ref a) H :=
  h _ m _ Fut.refl r (Da.tup_iff.mpr ⟨a, vs, rfl, t, d⟩)

/-! ### operators -/
def rM (G : Gam) (f : PV → PV → Sto → R PV) : R2 := fun x y H Q => ∃ E m S a b, RepS G.K m H S ∧ Da G.K m H x a ∧ Da G.K m H y b ∧ Post G E m H Q (f a b S)
def opOf : Pm.Op → Operator
  | .add => .Add | .sub => .Sub | .mul => .Mult | .fdiv => .FloorDiv | .mod => .Mod | .pow => .Pow
theorem mulOk_of {i j : Int} (h : Pm.mulOk i j = true) : CMul i j ∨ CMulW i j := by
  simp only [Pm.mulOk, Bool.or_eq_true, decide_eq_true_eq] at h
  rcases h with (h | h) | h
  · exact .inl (.inl ⟨by omega, by omega⟩)
  · exact .inl (.inr ⟨by omega, by omega⟩)
  · exact .inr h
theorem op_bin (o : Pm.Op) : OpR X (binaryOp (opOf o)) (rM ⟨X.K, G.cls, G.fld⟩ (Pm.bin o)) := by
  intro pins s σ H x y v u Q I rx ry h
  obtain ⟨E, m, S, a, b, r, da, db, h⟩ := h
  have two : ∀ {i j : Int}, a = .int i → b = .int j → x = .int i ∧ y = .int j := fun {i j} ea eb => by
    subst ea; subst eb
    exact ⟨Da.int_iff (G := ⟨X.K, G.cls, G.fld⟩).mp da, Da.int_iff (G := ⟨X.K, G.cls, G.fld⟩).mp db⟩
  have lists : ∀ {z w : List PV}, o = .add → Pm.isLst S a = some z → Pm.isLst S b = some w → z.length + w.length ≤ Pm.sizeLine → Okv ⟨X.K, G.cls, G.fld⟩ m H Q S (.new (z ++ w)) → wpAny (model X.prog X.w) X.A (binaryOp (opOf o) v u) (EP X pins σ Q) X.xe s := fun {z w} eo ez ew hz q => by
    subst eo
    obtain ⟨p, vs, rfl, e1, d1⟩ := isLst_of (G := ⟨X.K, G.cls, G.fld⟩) r da ez
    obtain ⟨p', ws, rfl, e2, d2⟩ := isLst_of (G := ⟨X.K, G.cls, G.fld⟩) r db ew
    refine op_cat pins s σ H _ _ v u Q I rx ry ⟨p, p', vs, ws, rfl, rfl, e1, e2, ?_, fun c hc => out_new q r (d1.append d2) hc⟩
    rw [d1.length, d2.length, sizeLine_eq]
    exact hz
  cases o with
  | add =>
    cases a with
    | int i =>
      cases b with
      | int j =>
        obtain ⟨rfl, rfl⟩ := two rfl rfl
        exact op_add pins s σ H _ _ v u Q I rx ry ⟨i, j, rfl, rfl, out_int h r⟩
      | _ => exact (show False from h).elim
    | str i =>
      cases b with
      | str j =>
        obtain rfl := Da.str_iff (G := ⟨X.K, G.cls, G.fld⟩).mp da
        obtain rfl := Da.str_iff (G := ⟨X.K, G.cls, G.fld⟩).mp db
        simp only [Pm.bin] at h
        split at h
        · rename_i hz
          refine op_add_str pins s σ H _ _ v u Q I rx ry ⟨toS i, toS j, rfl, rfl, by rw [toS_len, toS_len, sizeLine_eq]; exact hz, ?_⟩
          rw [toS_app]
          exact out_str h r
        · exact (show False from h).elim
      | _ => exact (show False from h).elim
    | tup i =>
      cases b with
      | tup j =>
        obtain ⟨p, vs, rfl, t1, d1⟩ := Da.tup_iff (G := ⟨X.K, G.cls, G.fld⟩).mp da
        obtain ⟨p', ws, rfl, t2, d2⟩ := Da.tup_iff (G := ⟨X.K, G.cls, G.fld⟩).mp db
        simp only [Pm.bin] at h
        split at h
        · rename_i hz
          refine op_catA pins s σ H _ _ v u Q I rx ry ⟨p, p', vs, ws, rfl, rfl, t1.sq, t2.sq, by rw [d1.length, d2.length, sizeLine_eq]; exact hz, fun e => ?_, fun e e' => ?_, fun e e' c hc => out_tup h r (d1.append d2) hc⟩
          · subst e
            have e1 : i = [] := by have := d1.length; simpa using this.symm
            subst e1
            exact out_tupA h r t2 d2
          · subst e'
            have e1 : j = [] := by have := d2.length; simpa using this.symm
            subst e1
            rw [List.append_nil] at h
            exact out_tupA h r t1 d1
        · exact (show False from h).elim
      | _ => exact (show False from h).elim
    | lst i =>
      simp only [Pm.bin] at h
      split at h
      · rename_i z w ez ew
        split at h
        · rename_i hz
          exact lists rfl ez ew hz h
        · exact (show False from h).elim
      · exact (show False from h).elim
    | ref i =>
      simp only [Pm.bin] at h
      split at h
      · rename_i z w ez ew
        split at h
        · rename_i hz
          exact lists rfl ez ew hz h
        · exact (show False from h).elim
      · exact (show False from h).elim
    | new i => exact (show False by simp [Da] at da).elim
    | _ => exact (show False from h).elim
  | sub =>
    cases a with
    | int i =>
      cases b with
      | int j =>
        obtain ⟨rfl, rfl⟩ := two rfl rfl
        exact op_sub pins s σ H _ _ v u Q I rx ry ⟨i, j, rfl, rfl, out_int h r⟩
      | _ => exact (show False from h).elim
    | _ => exact (show False from h).elim
  | mul =>
    have many : ∀ {z : List PV} {k : Int}, Pm.isLst S a = some z → b = .int k → -(2 ^ 63) ≤ k ∧ k < 2 ^ 63 ∧ z.length * k.toNat ≤ Pm.sizeLine → Okv ⟨X.K, G.cls, G.fld⟩ m H Q S (.new (List.replicate k.toNat z).flatten) → wpAny (model X.prog X.w) X.A (binaryOp .Mult v u) (EP X pins σ Q) X.xe s := fun {z k} ez eb hz q => by
      subst eb
      obtain rfl := Da.int_iff (G := ⟨X.K, G.cls, G.fld⟩).mp db
      obtain ⟨p, vs, rfl, e1, d1⟩ := isLst_of (G := ⟨X.K, G.cls, G.fld⟩) r da ez
      exact op_rep pins s σ H _ _ v u Q I rx ry ⟨p, k, vs, rfl, rfl, e1, hz.1, hz.2.1, by rw [d1.length, sizeLine_eq]; exact hz.2.2, fun c hc => out_new q r (d1.rep k.toNat) hc⟩
    cases a with
    | int i =>
      cases b with
      | int j =>
        obtain ⟨rfl, rfl⟩ := two rfl rfl
        simp only [Pm.bin] at h
        split at h
        · rename_i hz
          rcases mulOk_of hz with c | c
          · exact op_mul pins s σ H _ _ v u Q I rx ry ⟨i, j, rfl, rfl, c, out_int h r⟩
          · exact op_mulW pins s σ H _ _ v u Q I rx ry ⟨i, j, rfl, rfl, c, out_int h r⟩
        · exact (show False from h).elim
      | _ => exact (show False from h).elim
    | tup i => cases b <;> exact (show False from h).elim
    | lst i =>
      cases b with
      | int k =>
        simp only [Pm.bin, Pm.isLst] at h
        split at h
        · rename_i hz
          exact many rfl rfl hz h
        · exact (show False from h).elim
      | _ => exact (show False from h).elim
    | ref i =>
      cases b with
      | int k =>
        simp only [Pm.bin] at h
        split at h
        · rename_i z ez
          split at h
          · rename_i hz
            exact many ez rfl hz h
          · exact (show False from h).elim
        · exact (show False from h).elim
      | _ => exact (show False from h).elim
    | new i => exact (show False by simp [Da] at da).elim
    | _ => cases b <;> exact (show False from h).elim
  | fdiv =>
    cases a with
    | int i =>
      cases b with
      | int j =>
        obtain ⟨rfl, rfl⟩ := two rfl rfl
        simp only [Pm.bin] at h
        split at h
        · rename_i hz
          simp only [Pm.divOk, Bool.and_eq_true, decide_eq_true_eq] at hz
          exact op_fdivW pins s σ H _ _ v u Q I rx ry ⟨i, j, rfl, rfl, hz, out_int h r⟩
        · exact (show False from h).elim
      | _ => exact (show False from h).elim
    | _ => exact (show False from h).elim
  | mod =>
    cases a with
    | int i =>
      cases b with
      | int j =>
        obtain ⟨rfl, rfl⟩ := two rfl rfl
        simp only [Pm.bin] at h
        split at h
        · rename_i hz
          exact op_mod pins s σ H _ _ v u Q I rx ry ⟨i, j, rfl, rfl, hz, out_int h r⟩
        · exact (show False from h).elim
      | _ => exact (show False from h).elim
    | _ => exact (show False from h).elim
  | pow =>
    cases a with
    | int i =>
      cases b with
      | int j =>
        obtain ⟨rfl, rfl⟩ := two rfl rfl
        simp only [Pm.bin] at h
        split at h
        · rename_i hz
          simp only [Pm.powOk, Bool.and_eq_true, decide_eq_true_eq] at hz
          exact op_pow pins s σ H _ _ v u Q I rx ry ⟨i, j, rfl, rfl, ⟨hz.1.1, hz.1.2, hz.2⟩, out_int h r⟩
        · exact (show False from h).elim
      | _ => exact (show False from h).elim
    | _ => exact (show False from h).elim
end
end Ps

namespace Ps
open PySem L2
open Pm (PV Ob Sto R Sl settle)
/-! ### data -/
mutual
def toD : PV → PyData
  | .non => .none
  | .bl b => .bool b
  | .int i => .int i
  | .str s => .str (toS s)
  | .tup l => .tuple (toDs l)
  | .lst l => .list (toDs l)
  | _ => .none
def toDs : List PV → List PyData
  | [] => []
  | p :: r => toD p :: toDs r
end
theorem toS_inj {a b : List Nat} : (toS a == toS b) = (a == b) := by
  rw [Bool.eq_iff_iff]
  simp [toS]
theorem okD_ref {e n : Nat} : (PV.ref n).okD e = false := by cases e <;> rfl
theorem okD_new {e : Nat} {l : List PV} : (PV.new l).okD e = false := by cases e <;> rfl
theorem okD_scr {e : Nat} {l : List Int} : (PV.scr l).okD e = false := by cases e <;> rfl
mutual
theorem eqv_toD : ∀ {d e : Nat} {a b : PV}, a.okD d = true → b.okD e = true → Pm.eqv a b = PyData.eqv (toD a) (toD b)
  | d, e, .non, b, h, h' => by cases b <;> first | (simp [okD_ref, okD_new, okD_scr] at h'; done) | simp [Pm.eqv, toD, PyData.eqv]
  | d, e, .bl i, b, h, h' => by cases b <;> first | (simp [okD_ref, okD_new, okD_scr] at h'; done) | simp [Pm.eqv, toD, PyData.eqv]
  | d, e, .int i, b, h, h' => by cases b <;> first | (simp [okD_ref, okD_new, okD_scr] at h'; done) | simp [Pm.eqv, toD, PyData.eqv]
  | d, e, .str i, b, h, h' => by
    cases b <;> first | (simp [okD_ref, okD_new, okD_scr] at h'; done) | (simp only [Pm.eqv, toD, PyData.eqv]; exact toS_inj.symm) | simp [Pm.eqv, toD, PyData.eqv]
  | 0, e, .tup i, b, h, h' => by simp [PV.okD] at h
  | 0, e, .lst i, b, h, h' => by simp [PV.okD] at h
  | d + 1, e, .tup i, b, h, h' => by
    cases b with
    | tup j =>
      cases e with
      | zero => simp [PV.okD] at h'
      | succ e =>
        simp only [PV.okD] at h h'
        simp only [Pm.eqv, toD, PyData.eqv]
        exact eqv_toDs h h'
    | _ => first | (simp [okD_ref, okD_new, okD_scr] at h'; done) | simp [Pm.eqv, toD, PyData.eqv]
  | d + 1, e, .lst i, b, h, h' => by
    cases b with
    | lst j =>
      cases e with
      | zero => simp [PV.okD] at h'
      | succ e =>
        simp only [PV.okD] at h h'
        simp only [Pm.eqv, toD, PyData.eqv]
        exact eqv_toDs h h'
    | _ => first | (simp [okD_ref, okD_new, okD_scr] at h'; done) | simp [Pm.eqv, toD, PyData.eqv]
  | d, _, .ref _, _, h, _ => by cases d <;> simp [PV.okD] at h
  | d, _, .new _, _, h, _ => by cases d <;> simp [PV.okD] at h
  | d, _, .scr _, _, h, _ => by cases d <;> simp [PV.okD] at h
theorem eqv_toDs : ∀ {d e : Nat} {a b : List PV}, Pm.okAll d a = true → Pm.okAll e b = true → Pm.eqvAll a b = PyData.eqvAll (toDs a) (toDs b)
  | _, _, [], [], _, _ => by simp [Pm.eqvAll, toDs, PyData.eqvAll]
  | _, _, [], _ :: _, _, _ => by simp [Pm.eqvAll, toDs, PyData.eqvAll]
  | _, _, _ :: _, [], _, _ => by simp [Pm.eqvAll, toDs, PyData.eqvAll]
  | d, e, x :: xs, y :: ys, h, h' => by
    simp only [Pm.okAll, Bool.and_eq_true] at h h'
    simp only [Pm.eqvAll, toDs, PyData.eqvAll]
    rw [eqv_toD h.1 h'.1, eqv_toDs h.2 h'.2]
end
mutual
theorem okD_shape : ∀ {d : Nat} {a : PV}, a.okD d = true → (toD a).canLay0 = true ∧ (toD a).depth ≤ d
  | d, .non, _ => by simp [toD, PyData.canLay0, PyData.depth]
  | d, .bl _, _ => by simp [toD, PyData.canLay0, PyData.depth]
  | d, .int _, _ => by simp [toD, PyData.canLay0, PyData.depth]
  | d, .str s, h => by
    have h' : s.all (· < 0x110000) = true := by cases d <;> simpa [PV.okD] using h
    refine ⟨?_, by simp [toD, PyData.depth]⟩
    simp only [toD, PyData.canLay0, PyData.strOk, toS]
    simpa using h'
  | 0, .tup _, h => by simp [PV.okD] at h
  | 0, .lst _, h => by simp [PV.okD] at h
  | d + 1, .tup l, h => by
    simp only [PV.okD] at h
    obtain ⟨h1, h2⟩ := okAll_shape h
    simp only [toD, PyData.canLay0, PyData.depth]
    exact ⟨h1, by omega⟩
  | d + 1, .lst l, h => by
    simp only [PV.okD] at h
    obtain ⟨h1, h2⟩ := okAll_shape h
    simp only [toD, PyData.canLay0, PyData.depth]
    exact ⟨h1, by omega⟩
  | d, .ref _, h => by cases d <;> simp [PV.okD] at h
  | d, .new _, h => by cases d <;> simp [PV.okD] at h
  | d, .scr _, h => by cases d <;> simp [PV.okD] at h
theorem okAll_shape : ∀ {d : Nat} {a : List PV}, Pm.okAll d a = true → PyData.canLayAll0 (toDs a) = true ∧ PyData.depthAll (toDs a) ≤ d
  | d, [], _ => by simp [toDs, PyData.canLayAll0, PyData.depthAll]
  | d, x :: xs, h => by
    simp only [Pm.okAll, Bool.and_eq_true] at h
    obtain ⟨h1, h2⟩ := okD_shape h.1
    obtain ⟨h3, h4⟩ := okAll_shape h.2
    simp only [toDs, PyData.canLayAll0, PyData.depthAll, Bool.and_eq_true]
    exact ⟨⟨h1, h3⟩, by omega⟩
end
theorem okD_shaped {a : PV} (h : a.okD 60 = true) : SeqAt.shaped (toD a) = true := by
  obtain ⟨h1, h2⟩ := okD_shape h
  unfold SeqAt.shaped
  rw [h1, Bool.true_and, decide_eq_true_eq]
  omega
section
variable {G : Gam} {E : XK} {m m' m1 : Mp} {H H' H1 : Hp} {Q : VK} {S : Sto} {X : Cx}
mutual
theorem Da.dp : ∀ {d : Nat} {p : PV} {x : V}, Da G.K m H x p → p.okD d = true → Dp G.K H x (toD p)
  | _, .non, _, h, _ => by rw [Da.non_iff.mp h]; exact .non
  | _, .bl b, _, h, _ => by rw [Da.bl_iff.mp h]; exact .bl b
  | _, .int b, _, h, _ => by rw [Da.int_iff.mp h]; exact .int b
  | _, .str b, _, h, _ => by rw [Da.str_iff.mp h]; exact .str _
  | 0, .tup _, _, _, h => by simp [PV.okD] at h
  | 0, .lst _, _, _, h => by simp [PV.okD] at h
  | d + 1, .tup l, _, h, h' => by
    simp only [PV.okD] at h'
    obtain ⟨a, vs, rfl, t, ds⟩ := Da.tup_iff.mp h
    exact .tup t.sq (Das.dp ds h')
  | d + 1, .lst l, _, h, h' => by
    simp only [PV.okD] at h'
    obtain ⟨a, vs, rfl, t, ds⟩ := Da.lst_iff.mp h
    exact .lst t.sq (Das.dp ds h')
  | d, .ref _, _, _, h => by cases d <;> simp [PV.okD] at h
  | d, .new _, _, _, h => by cases d <;> simp [PV.okD] at h
  | d, .scr _, _, _, h => by cases d <;> simp [PV.okD] at h
theorem Das.dp : ∀ {d : Nat} {ps : List PV} {vs : List V}, Das G.K m H vs ps → Pm.okAll d ps = true → DpAll G.K H vs (toDs ps)
  | _, [], _, h, _ => by rw [Das.nil_iff.mp h]; exact .nil
  | d, p :: ps, _, h, h' => by
    simp only [Pm.okAll, Bool.and_eq_true] at h'
    obtain ⟨v, r, rfl, h1, h2⟩ := Das.cons_iff.mp h
    exact .cons (Da.dp h1 h'.1) (Das.dp h2 h'.2)
end
/-- as data, a list of the store too -/
theorem look_dp {p : PV} {x : V} (r : RepS G.K m H S) (d : Da G.K m H x p) (h : (Pm.look S p).okD 60 = true) : Dp G.K H x (toD (Pm.look S p)) := by
  cases p with
  | ref n =>
    obtain ⟨a, rfl, h1⟩ := Da.ref_iff.mp d
    simp only [Pm.look] at h ⊢
    split at h
    · rename_i l el
      obtain ⟨vs, e1, e2⟩ := r.lst h1 el
      simp only [PV.okD] at h
      exact .lst (SqL.of e1) (Das.dp e2 h)
    · simp [PV.okD] at h
  | _ => exact Da.dp d h
theorem scal_da {a b : PV} {x y : V} (h : Pm.scal a b = true) (da : Da G.K m H x a) (db : Da G.K m H y b) : L2.scal x y = true ∧ decide (x = y) = Pm.eqv a b := by
  cases a <;> cases b <;> first
    | exact absurd (show false = true from h) Bool.false_ne_true
    | (simp only [Da] at da db; subst da; subst db; refine ⟨rfl, ?_⟩; simp only [Pm.eqv]; first | exact dec_int | exact dec_bl | exact dec_str.trans toS_inj | simp)
theorem look_or (p : PV) : Pm.look S p = p ∨ ∃ l, Pm.look S p = .lst l := by
  cases p with
  | ref n =>
    simp only [Pm.look]
    split
    · exact .inr ⟨_, rfl⟩
    · exact .inl rfl
  | _ => exact .inl rfl
theorem look_scal {a b : PV} (h : Pm.scal (Pm.look S a) (Pm.look S b) = true) : Pm.look S a = a ∧ Pm.look S b = b := by
  rcases look_or (S := S) a with ea | ⟨l, ea⟩
  · rcases look_or (S := S) b with eb | ⟨l, eb⟩
    · exact ⟨ea, eb⟩
    · rw [eb] at h
      generalize Pm.look S a = z at h
      cases z <;> exact absurd (show false = true from h) Bool.false_ne_true
  · rw [ea] at h
    generalize Pm.look S b = z at h
    cases z <;> exact absurd (show false = true from h) Bool.false_ne_true
theorem op_eqM (hu : X.A.units + 64 < cLine) : OpR X (compareOp .Eq) (rM ⟨X.K, G.cls, G.fld⟩ (Pm.cmp .eq)) := by
  intro pins s σ H x y v u Q I rx ry h
  obtain ⟨E, m, S, a, b, r, da, db, h⟩ := h
  simp only [Pm.cmp] at h
  split at h
  · rename_i ok
    simp only [Pm.eqOk, Bool.or_eq_true, Bool.and_eq_true] at ok
    rcases ok with ok | ⟨oa, ob⟩
    · obtain ⟨ea, eb⟩ := look_scal ok
      rw [ea, eb] at ok h
      obtain ⟨h1, h2⟩ := scal_da (G := ⟨X.K, G.cls, G.fld⟩) ok da db
      refine op_eq pins s σ H x y v u Q I rx ry ⟨h1, ?_⟩
      rw [h2]
      exact out_bl h r
    · refine op_eqD hu pins s σ H x y v u Q I rx ry ⟨_, _, look_dp (G := ⟨X.K, G.cls, G.fld⟩) r da oa, look_dp (G := ⟨X.K, G.cls, G.fld⟩) r db ob, okD_shaped oa, okD_shaped ob, ?_⟩
      rw [← eqv_toD oa ob]
      exact out_bl h r
  · exact (show False from h).elim
theorem op_neM (hu : X.A.units + 64 < cLine) : OpR X (compareOp .NotEq) (rM ⟨X.K, G.cls, G.fld⟩ (Pm.cmp .ne)) := by
  intro pins s σ H x y v u Q I rx ry h
  obtain ⟨E, m, S, a, b, r, da, db, h⟩ := h
  simp only [Pm.cmp] at h
  split at h
  · rename_i ok
    simp only [Pm.eqOk, Bool.or_eq_true, Bool.and_eq_true] at ok
    rcases ok with ok | ⟨oa, ob⟩
    · obtain ⟨ea, eb⟩ := look_scal ok
      rw [ea, eb] at ok h
      obtain ⟨h1, h2⟩ := scal_da (G := ⟨X.K, G.cls, G.fld⟩) ok da db
      refine op_ne pins s σ H x y v u Q I rx ry ⟨h1, ?_⟩
      rw [h2]
      exact out_bl h r
    · refine op_neD hu pins s σ H x y v u Q I rx ry ⟨_, _, look_dp (G := ⟨X.K, G.cls, G.fld⟩) r da oa, look_dp (G := ⟨X.K, G.cls, G.fld⟩) r db ob, okD_shaped oa, okD_shaped ob, ?_⟩
      rw [← eqv_toD oa ob]
      exact out_bl h r
  · exact (show False from h).elim
theorem flat_V : ∀ {p : PV} {x : V}, Da G.K m H x p → Pm.flat p = true → flatV x = true
  | .non, _, h, _ => by rw [Da.non_iff.mp h]; rfl
  | .bl b, _, h, _ => by rw [Da.bl_iff.mp h]; rfl
  | .int b, _, h, _ => by rw [Da.int_iff.mp h]; rfl
  | .str b, _, h, _ => by rw [Da.str_iff.mp h]; rfl
  | .tup _, _, _, h => by simp [Pm.flat] at h
  | .lst _, _, _, h => by simp [Pm.flat] at h
  | .ref _, _, _, h => by simp [Pm.flat] at h
  | .new _, _, _, h => by simp [Pm.flat] at h
  | .scr _, _, _, h => by simp [Pm.flat] at h
theorem eqV_flat {p q : PV} {x y : V} (da : Da G.K m H x p) (db : Da G.K m H y q) (hp : Pm.flat p = true) (hq : Pm.flat q = true) : eqV x y = Pm.eqv p q := by
  cases p <;> cases q <;> first
    | exact absurd (show false = true from hp) Bool.false_ne_true
    | exact absurd (show false = true from hq) Bool.false_ne_true
    | (simp only [Da] at da db; subst da; subst db; simp only [eqV, Pm.eqv, toS_inj])
theorem in_flat {p : PV} {x : V} (d : Da G.K m H x p) (hp : Pm.flat p = true) : ∀ {l : List PV} {vs : List V}, Das G.K m H vs l → l.all Pm.flat = true → vs.all flatV = true ∧ inV x vs = l.any fun y => Pm.eqv y p
  | [], _, h, _ => by rw [Das.nil_iff.mp h]; exact ⟨rfl, rfl⟩
  | q :: l, _, h, hl => by
    obtain ⟨v, r, rfl, h1, h2⟩ := Das.cons_iff.mp h
    simp only [List.all_cons, Bool.and_eq_true] at hl
    obtain ⟨i1, i2⟩ := in_flat d hp h2 hl.2
    refine ⟨by simp [flat_V h1 hl.1, i1], ?_⟩
    show (eqV v x || inV x r) = _
    rw [eqV_flat h1 d hl.1 hp, i2]
    rfl
theorem op_inM : OpR X (compareOp .In) (rM ⟨X.K, G.cls, G.fld⟩ (Pm.cmp .mem)) := by
  intro pins s σ H x y v u Q I rx ry h
  obtain ⟨E, m, S, a, b, r, da, db, h⟩ := h
  simp only [Pm.cmp] at h
  split at h
  · rename_i k ek
    unfold Pm.memOf at ek
    split at ek
    · rename_i l el
      split at ek
      · rename_i hf
        cases ek
        simp only [Bool.and_eq_true] at hf
        obtain ⟨p, vs, rfl, sq, ds⟩ := items_of (G := ⟨X.K, G.cls, G.fld⟩) r db el
        obtain ⟨f1, f2⟩ := in_flat (G := ⟨X.K, G.cls, G.fld⟩) da hf.1 ds hf.2
        refine op_in_seq pins s σ H x _ v u Q I rx ry ⟨p, vs, rfl, sq, flat_V (G := ⟨X.K, G.cls, G.fld⟩) da hf.1, f1, ?_⟩
        rw [if_neg Bool.false_ne_true, f2]
        exact out_bl h r
      · cases ek
    · split at ek
      · rename_i c z _
        cases ek
        obtain rfl := Da.str_iff (G := ⟨X.K, G.cls, G.fld⟩).mp da
        obtain rfl := Da.str_iff (G := ⟨X.K, G.cls, G.fld⟩).mp db
        exact op_in_sign pins s σ H _ _ v u Q I rx ry ⟨c, toS z, rfl, rfl, out_bl h r⟩
      · cases ek
  · exact (show False from h).elim
theorem op_ninM : OpR X (compareOp .NotIn) (rM ⟨X.K, G.cls, G.fld⟩ (Pm.cmp .nmem)) := by
  intro pins s σ H x y v u Q I rx ry h
  obtain ⟨E, m, S, a, b, r, da, db, h⟩ := h
  simp only [Pm.cmp] at h
  split at h
  · rename_i k ek
    unfold Pm.memOf at ek
    split at ek
    · rename_i l el
      split at ek
      · rename_i hf
        cases ek
        simp only [Bool.and_eq_true] at hf
        obtain ⟨p, vs, rfl, sq, ds⟩ := items_of (G := ⟨X.K, G.cls, G.fld⟩) r db el
        obtain ⟨f1, f2⟩ := in_flat (G := ⟨X.K, G.cls, G.fld⟩) da hf.1 ds hf.2
        refine op_notIn_seq pins s σ H x _ v u Q I rx ry ⟨p, vs, rfl, sq, flat_V (G := ⟨X.K, G.cls, G.fld⟩) da hf.1, f1, ?_⟩
        rw [if_pos rfl, f2]
        exact out_bl h r
      · cases ek
    · split at ek
      · rename_i c z _
        cases ek
        obtain rfl := Da.str_iff (G := ⟨X.K, G.cls, G.fld⟩).mp da
        obtain rfl := Da.str_iff (G := ⟨X.K, G.cls, G.fld⟩).mp db
        exact op_notIn_sign pins s σ H _ _ v u Q I rx ry ⟨c, toS z, rfl, rfl, out_bl h r⟩
      · cases ek
  · exact (show False from h).elim
theorem op_isNM : OpR X (compareOp .Is) (rM ⟨X.K, G.cls, G.fld⟩ (Pm.cmp .isN)) := by
  intro pins s σ H x y v u Q I rx ry h
  obtain ⟨E, m, S, a, b, r, da, db, h⟩ := h
  cases b with
  | non =>
    obtain rfl := Da.non_iff (G := ⟨X.K, G.cls, G.fld⟩).mp db
    refine op_isN pins s σ H x _ v u Q I rx ry ⟨rfl, ?_⟩
    cases a <;> first
      | (simp only [Da] at da; subst da; exact out_bl h r)
      | (simp only [Da] at da; obtain ⟨_, _, rfl, _⟩ := da; exact out_bl h r)
      | (simp only [Da] at da; obtain ⟨_, rfl, _⟩ := da; exact out_bl h r)
      | exact (show False by simp [Da] at da).elim
  | _ => exact (show False from h).elim
theorem op_notNM : OpR X (compareOp .IsNot) (rM ⟨X.K, G.cls, G.fld⟩ (Pm.cmp .notN)) := by
  intro pins s σ H x y v u Q I rx ry h
  obtain ⟨E, m, S, a, b, r, da, db, h⟩ := h
  cases b with
  | non =>
    obtain rfl := Da.non_iff (G := ⟨X.K, G.cls, G.fld⟩).mp db
    refine op_notN pins s σ H x _ v u Q I rx ry ⟨rfl, ?_⟩
    cases a <;> first
      | (simp only [Da] at da; subst da; exact out_bl h r)
      | (simp only [Da] at da; obtain ⟨_, _, rfl, _⟩ := da; exact out_bl h r)
      | (simp only [Da] at da; obtain ⟨_, rfl, _⟩ := da; exact out_bl h r)
      | exact (show False by simp [Da] at da).elim
  | _ => exact (show False from h).elim
def cmOf : Pm.Cm → CmpOp
  | .eq => .Eq | .ne => .NotEq | .lt => .Lt | .le => .LtE | .gt => .Gt | .ge => .GtE | .isN => .Is | .notN => .IsNot | .mem => .In | .nmem => .NotIn
theorem cmp_ints {o : Pm.Cm} {f : Int → Int → Bool} (ho : OpR X (compareOp (cmOf o)) (rI0 fun i j => .bl (f i j)))
    (hf : ∀ a b S, Pm.cmp o a b S = match a, b with | .int i, .int j => .ok (.bl (f i j)) S | _, _ => .bad) : OpR X (compareOp (cmOf o)) (rM ⟨X.K, G.cls, G.fld⟩ (Pm.cmp o)) := by
  intro pins s σ H x y v u Q I rx ry h
  obtain ⟨E, m, S, a, b, r, da, db, h⟩ := h
  rw [hf] at h
  split at h
  · rename_i i j
    obtain rfl := Da.int_iff (G := ⟨X.K, G.cls, G.fld⟩).mp da
    obtain rfl := Da.int_iff (G := ⟨X.K, G.cls, G.fld⟩).mp db
    exact ho pins s σ H _ _ v u Q I rx ry ⟨i, j, rfl, rfl, out_bl h r⟩
  · exact (show False from h).elim
theorem op_cmp (hu : X.A.units + 64 < cLine) (o : Pm.Cm) : OpR X (compareOp (cmOf o)) (rM ⟨X.K, G.cls, G.fld⟩ (Pm.cmp o)) := by
  cases o with
  | eq => exact op_eqM hu
  | ne => exact op_neM hu
  | lt => exact cmp_ints op_lt fun a b S => by cases a <;> first | rfl | (cases b <;> rfl)
  | le => exact cmp_ints op_le fun a b S => by cases a <;> first | rfl | (cases b <;> rfl)
  | gt => exact cmp_ints op_gt fun a b S => by cases a <;> first | rfl | (cases b <;> rfl)
  | ge => exact cmp_ints op_ge fun a b S => by cases a <;> first | rfl | (cases b <;> rfl)
  | isN => exact op_isNM
  | notN => exact op_notNM
  | mem => exact op_inM
  | nmem => exact op_ninM
end
end Ps

namespace Ps
open PySem L2
open Pm (PV Ob Sto R Sl settle)
theorem place_eq (n : Nat) (i : Int) : Pm.place n i = L2.ixN n i := by
  unfold Pm.place L2.ixN
  by_cases h : i < 0
  · simp only [if_pos h]
    rw [if_neg (show ¬ 0 ≤ i by omega)]
    by_cases h2 : -(n : Int) ≤ i
    · rw [if_pos (by omega), if_pos h2, Int.add_comm]
    · rw [if_neg (by omega), if_neg h2]
  · simp only [if_neg h]
    rw [if_pos (show 0 ≤ i by omega)]
    by_cases h2 : i < (n : Int)
    · rw [if_pos (by omega), if_pos h2]
    · rw [if_neg (by omega), if_neg h2]
theorem pick_eq {α : Type} (xs : List α) (i : Int) : Pm.pick xs i = L2.atI xs i := by
  unfold Pm.pick L2.atI
  rw [place_eq]
  cases L2.ixN xs.length i <;> rfl
theorem bound_ix {n d : Nat} (o : Option Int) : Pm.bound n d o = HT.sIx n d o := by
  cases o with
  | none => rfl
  | some v =>
    simp only [Pm.bound, HT.sIx]
    by_cases h : v < 0
    · simp only [if_pos h]
      omega
    · simp only [if_neg h]
      omega
theorem cut_eq {α : Type} (xs : List α) (lo hi : Option Int) : Pm.cut xs lo hi = (xs.drop (HT.sIx xs.length 0 lo)).take (HT.sIx xs.length xs.length hi - HT.sIx xs.length 0 lo) := by
  unfold Pm.cut
  rw [bound_ix, bound_ix, List.drop_take]
section
variable {G : Gam} {E : XK} {m m' m1 : Mp} {H H' H1 : Hp} {Q : VK} {S : Sto} {X : Cx}
theorem das_pick {l : List PV} {vs : List V} {i : Int} {p : PV} (d : Das G.K m H vs l) (h : Pm.pick l i = some p) : ∃ v, atI vs i = some v ∧ Da G.K m H v p := by
  unfold Pm.pick at h
  rw [place_eq] at h
  unfold L2.atI
  rw [d.length]
  cases e : L2.ixN l.length i with
  | none => rw [e] at h; cases h
  | some j =>
    rw [e] at h
    exact d.get h
theorem das_cut {l : List PV} {vs : List V} (d : Das G.K m H vs l) (lo hi : Option Int) : Das G.K m H (cutV vs lo hi) (Pm.cut l lo hi) := by
  rw [cut_eq]
  unfold cutV
  rw [d.length]
  exact (d.drop _).take _
theorem ix_M : IxR X (rM ⟨X.K, G.cls, G.fld⟩ Pm.getIx) := by
  intro value slice pins s σ H x y v u Q I rx ry h hs
  obtain ⟨E, m, S, a, b, r, da, db, h⟩ := h
  refine ix_seq value slice pins s σ H x y v u Q I rx ry ?_ hs
  cases b with
  | int i =>
    obtain rfl := Da.int_iff (G := ⟨X.K, G.cls, G.fld⟩).mp db
    simp only [Pm.getIx] at h
    split at h
    · rename_i l el
      split at h
      · rename_i p ep
        obtain ⟨a', vs, rfl, sq, ds⟩ := items_of (G := ⟨X.K, G.cls, G.fld⟩) r da el
        obtain ⟨w, e1, dw⟩ := das_pick (G := ⟨X.K, G.cls, G.fld⟩) ds ep
        have q : Q w H := h.use r dw
        rcases sq with sq | sq
        · exact .inl ⟨a', vs, i, w, rfl, rfl, sq, e1, q⟩
        · exact .inr (.inl ⟨a', vs, i, w, rfl, rfl, sq, e1, q⟩)
      · exact (show False from h).elim
    · split at h
      · rename_i z _
        split at h
        · rename_i hz
          split at h
          · rename_i c ec
            obtain rfl := Da.str_iff (G := ⟨X.K, G.cls, G.fld⟩).mp da
            refine .inr (.inr ⟨toS z, i, c, rfl, rfl, by rw [toS_len, sizeLine_eq]; exact hz, ?_, out_str h r⟩)
            rw [← pick_eq]
            simpa [toS] using ec
          · exact (show False from h).elim
        · exact (show False from h).elim
      · exact (show False from h).elim
  | _ => exact (show False from h).elim
def rSM (G : Gam) : V → Option Int → Option Int → Hp → VK → Prop := fun x lo hi H Q => ∃ E m S a, RepS G.K m H S ∧ Da G.K m H x a ∧ Post G E m H Q (Pm.getSl a lo hi S)
theorem sl_M : SlR X (rSM ⟨X.K, G.cls, G.fld⟩) := by
  intro pins s σ H x v vl vu lo hi sl Q I rx hs pl pu h
  obtain ⟨E, m, S, a, r, da, h⟩ := h
  have lists : ∀ {z : List PV}, Pm.isLst S a = some z → Okv ⟨X.K, G.cls, G.fld⟩ m H Q S (.new (Pm.cut z lo hi)) → ∃ T id, typeLookup (.type T) "__getitem__" = pure (some (.builtin id)) ∧ s.TypeIs v T ∧ wpAny (model X.prog X.w) X.A (getItem v (.ref sl)) (EP X pins σ Q) X.xe s := fun {z} ez q => by
    obtain ⟨a', vs, rfl, e1, d1⟩ := isLst_of (G := ⟨X.K, G.cls, G.fld⟩) r da ez
    exact sl_list pins s σ H _ v vl vu lo hi sl Q I rx hs pl pu ⟨a', vs, rfl, SqL.of e1, fun c hc => out_new q r (das_cut d1 lo hi) hc⟩
  cases a with
  | str z =>
    obtain rfl := Da.str_iff (G := ⟨X.K, G.cls, G.fld⟩).mp da
    simp only [Pm.getSl] at h
    split at h
    · rename_i hz
      refine sl_str pins s σ H _ v vl vu lo hi sl Q I rx hs pl pu ⟨toS z, rfl, by rw [toS_len, sizeLine_eq]; exact hz, ?_⟩
      have e : cutS (toS z) lo hi = toS (Pm.cut z lo hi) := by
        rw [cut_eq]
        simp [cutS, toS, Str.length]
      rw [e]
      exact out_str h r
    · exact (show False from h).elim
  | tup l =>
    obtain ⟨a', vs, rfl, t, ds⟩ := Da.tup_iff (G := ⟨X.K, G.cls, G.fld⟩).mp da
    have d2 := das_cut ds lo hi
    refine sl_tupA pins s σ H _ v vl vu lo hi sl Q I rx hs pl pu ⟨a', vs, rfl, t.sq, fun hw => ?_, fun _ c hc => out_tup h r d2 hc⟩
    have e : Pm.cut l lo hi = l := by
      rw [cut_eq, ← ds.length, hw.1, hw.2, ds.length]
      simp
    have h' : Okv ⟨X.K, G.cls, G.fld⟩ m H Q S (.tup (Pm.cut l lo hi)) := h
    rw [e] at h'
    exact out_tupA h' r t ds
  | lst l => exact lists rfl h
  | ref n =>
    simp only [Pm.getSl] at h
    split at h
    · rename_i z ez
      exact lists ez h
    · exact (show False from h).elim
  | new z => exact (show False by simp [Da] at da).elim
  | _ => exact (show False from h).elim

/-! ### built-ins -/
def rF (G : Gam) (f : List PV → Sto → R PV) : List V → Hp → VK → Prop := fun xs H Q => ∃ E m S l, RepS G.K m H S ∧ Das G.K m H xs l ∧ Post G E m H Q (f l S)
theorem Das.one {xs : List V} {p : PV} (d : Das G.K m H xs [p]) : ∃ x, xs = [x] ∧ Da G.K m H x p := by
  obtain ⟨x, r, rfl, h1, h2⟩ := Das.cons_iff.mp d
  rw [Das.nil_iff.mp h2]
  exact ⟨x, rfl, h1⟩
theorem Das.two {xs : List V} {p q : PV} (d : Das G.K m H xs [p, q]) : ∃ x y, xs = [x, y] ∧ Da G.K m H x p ∧ Da G.K m H y q := by
  obtain ⟨x, r, rfl, h1, h2⟩ := Das.cons_iff.mp d
  obtain ⟨y, rfl, h3⟩ := h2.one
  exact ⟨x, y, rfl, h1, h3⟩
theorem call_M {f : Value} {r : List V → Hp → VK → Prop} {k : List PV → Sto → R PV} (hc : CallR X f r)
    (h : ∀ E m S l xs H Q, RepS X.K m H S → Das X.K m H xs l → Post ⟨X.K, G.cls, G.fld⟩ E m H Q (k l S) → r xs H Q) : CallR X f (rF ⟨X.K, G.cls, G.fld⟩ k) := by
  intro pins s σ H xs us Q I rr q
  obtain ⟨E, m, S, l, r, d, q⟩ := q
  exact hc pins s σ H xs us Q I rr (h E m S l xs H Q r d q)
theorem post_one {l : List PV} {k : PV → R PV} (h : Post G E m H Q (Pm.one l k)) : ∃ a, l = [a] ∧ Post G E m H Q (k a) := by
  match l, h with
  | [a], h => exact ⟨a, rfl, h⟩
  | [], h => exact (show False from h).elim
  | _ :: _ :: _, h => exact (show False from h).elim
theorem post_opt {α : Type} {o : Option α} {k : α → R PV} (h : Post G E m H Q (Pm.opt o k)) : ∃ a, o = some a ∧ Post G E m H Q (k a) := by
  cases o with
  | some a => exact ⟨a, rfl, h⟩
  | none => exact (show False from h).elim
theorem intOf_eq {a : PV} {i : Int} (h : Pm.intOf a = some i) : a = .int i := by
  cases a <;> simp [Pm.intOf] at h
  rw [h]
theorem call_lenM : CallR X (.builtin "len") (rF ⟨X.K, G.cls, G.fld⟩ (Pm.bfn .len)) := by
  refine call_M call_len fun E m S l xs H Q r d h => ?_
  obtain ⟨a, rfl, h⟩ := post_one h
  obtain ⟨n, en, h⟩ := post_opt h
  obtain ⟨x, rfl, da⟩ := d.one (G := ⟨X.K, G.cls, G.fld⟩)
  refine ⟨x, n, rfl, ?_, out_int h r⟩
  have seq : ∀ {z : List PV}, Pm.items S a = some z → LenV X.K x H z.length := fun {z} ez => by
    obtain ⟨a', vs, rfl, sq, ds⟩ := items_of (G := ⟨X.K, G.cls, G.fld⟩) r da ez
    rcases sq with sq | sq
    · exact .inl ⟨vs, sq, ds.length.symm⟩
    · exact .inr ⟨vs, sq, ds.length.symm⟩
  cases a with
  | str z =>
    obtain rfl := Da.str_iff (G := ⟨X.K, G.cls, G.fld⟩).mp da
    simp only [Pm.lenOf] at en
    split at en
    · rename_i hz
      cases en
      exact ⟨by rw [toS_len, sizeLine_eq]; exact hz, (toS_len z).symm⟩
    · cases en
  | _ =>
    simp only [Pm.lenOf, Option.map_eq_some_iff] at en
    obtain ⟨z, ez, rfl⟩ := en
    exact seq ez
theorem call_intM : CallR X (.type "int") (rF ⟨X.K, G.cls, G.fld⟩ (Pm.bfn .int)) := by
  refine call_M call_int1 fun E m S l xs H Q r d h => ?_
  obtain ⟨a, rfl, h⟩ := post_one h
  obtain ⟨x, rfl, da⟩ := d.one (G := ⟨X.K, G.cls, G.fld⟩)
  cases a with
  | int i =>
    obtain rfl := Da.int_iff (G := ⟨X.K, G.cls, G.fld⟩).mp da
    exact .inl ⟨i, rfl, out_int h r⟩
  | bl i =>
    obtain rfl := Da.bl_iff (G := ⟨X.K, G.cls, G.fld⟩).mp da
    exact .inr ⟨i, rfl, out_int h r⟩
  | _ => exact (show False from h).elim
theorem call_absM : CallR X (.builtin "abs") (rF ⟨X.K, G.cls, G.fld⟩ (Pm.bfn .abs)) := by
  refine call_M call_abs fun E m S l xs H Q r d h => ?_
  obtain ⟨a, rfl, h⟩ := post_one h
  obtain ⟨i, ei, h⟩ := post_opt h
  obtain ⟨x, rfl, da⟩ := d.one (G := ⟨X.K, G.cls, G.fld⟩)
  obtain rfl := intOf_eq ei
  obtain rfl := Da.int_iff (G := ⟨X.K, G.cls, G.fld⟩).mp da
  exact ⟨i, rfl, out_int h r⟩
theorem maxI_of : ∀ {l : List Int}, 0 < l.length → Pm.maxI l ∈ l ∧ ∀ y ∈ l, y ≤ Pm.maxI l
  | [x], _ => ⟨by simp [Pm.maxI], by simp [Pm.maxI]⟩
  | x :: y :: r, _ => by
    obtain ⟨h1, h2⟩ := maxI_of (l := y :: r) (by simp)
    simp only [Pm.maxI]
    refine ⟨?_, fun z hz => ?_⟩
    · by_cases q : x ≤ Pm.maxI (y :: r)
      · rw [Int.max_eq_right q]
        exact List.mem_cons_of_mem _ h1
      · rw [Int.max_eq_left (by omega)]
        exact List.mem_cons_self
    · rcases List.mem_cons.mp hz with rfl | hz
      · omega
      · have := h2 z hz
        omega
theorem minI_of : ∀ {l : List Int}, 0 < l.length → Pm.minI l ∈ l ∧ ∀ y ∈ l, Pm.minI l ≤ y
  | [x], _ => ⟨by simp [Pm.minI], by simp [Pm.minI]⟩
  | x :: y :: r, _ => by
    obtain ⟨h1, h2⟩ := minI_of (l := y :: r) (by simp)
    simp only [Pm.minI]
    refine ⟨?_, fun z hz => ?_⟩
    · by_cases q : x ≤ Pm.minI (y :: r)
      · rw [Int.min_eq_left q]
        exact List.mem_cons_self
      · rw [Int.min_eq_right (by omega)]
        exact List.mem_cons_of_mem _ h1
    · rcases List.mem_cons.mp hz with rfl | hz
      · omega
      · have := h2 z hz
        omega
theorem lstInts {a : PV} {x : V} {l : List Int} (r : RepS G.K m H S) (d : Da G.K m H x a) (h : (Pm.isLst S a).bind Pm.intsOf = some l) : ∃ p, x = .ref p ∧ SqL G.K H p (l.map V.int) := by
  cases e : Pm.isLst S a with
  | none => rw [e] at h; cases h
  | some z =>
    rw [e] at h
    obtain ⟨p, vs, rfl, e1, d1⟩ := isLst_of r d e
    have ez : z = l.map PV.int := ints_eq h
    subst ez
    rw [das_ints_iff d1] at e1
    exact ⟨p, rfl, SqL.of e1⟩
theorem lstBools {a : PV} {x : V} {l : List Bool} (r : RepS G.K m H S) (d : Da G.K m H x a) (h : (Pm.isLst S a).bind Pm.bools = some l) : ∃ p, x = .ref p ∧ SqL G.K H p (l.map V.bl) := by
  cases e : Pm.isLst S a with
  | none => rw [e] at h; cases h
  | some z =>
    rw [e] at h
    obtain ⟨p, vs, rfl, e1, d1⟩ := isLst_of r d e
    have ez : z = l.map PV.bl := bools_eq h
    subst ez
    rw [das_bools_iff d1] at e1
    exact ⟨p, rfl, SqL.of e1⟩
theorem call_maxM (hc : X.calm = true) : CallR X (.builtin "max") (rF ⟨X.K, G.cls, G.fld⟩ (Pm.bfn .max)) := by
  refine call_M ((cr_max hc).or (call_max2 hc)) fun E m S l xs H Q r d h => ?_
  match l, d, h with
  | [], _, h => exact (show False from h).elim
  | [a], d, h =>
    obtain ⟨x, rfl, da⟩ := d.one (G := ⟨X.K, G.cls, G.fld⟩)
    obtain ⟨l, el, h⟩ := post_opt h
    split at h
    · rename_i hl
      obtain ⟨p, rfl, e⟩ := lstInts (G := ⟨X.K, G.cls, G.fld⟩) r da el
      refine .inl ⟨p, l, rfl, e, hl, fun k hk hall => ?_⟩
      obtain ⟨h1, h2⟩ := maxI_of hl
      have ek : k = Pm.maxI l := Int.le_antisymm (h2 k hk) (hall _ h1)
      rw [ek]
      exact out_int h r
    · exact (show False from h).elim
  | [a, b], d, h =>
    obtain ⟨x, y, rfl, da, db⟩ := d.two (G := ⟨X.K, G.cls, G.fld⟩)
    obtain ⟨i, ei, h⟩ := post_opt h
    obtain ⟨j, ej, h⟩ := post_opt h
    obtain rfl := intOf_eq ei
    obtain rfl := intOf_eq ej
    obtain rfl := Da.int_iff (G := ⟨X.K, G.cls, G.fld⟩).mp da
    obtain rfl := Da.int_iff (G := ⟨X.K, G.cls, G.fld⟩).mp db
    exact .inr ⟨i, j, rfl, out_int h r⟩
  | _ :: _ :: _ :: _, _, h => exact (show False from h).elim
theorem call_minM (hc : X.calm = true) : CallR X (.builtin "min") (rF ⟨X.K, G.cls, G.fld⟩ (Pm.bfn .min)) := by
  refine call_M ((cr_min hc).or (call_min2 hc)) fun E m S l xs H Q r d h => ?_
  match l, d, h with
  | [], _, h => exact (show False from h).elim
  | [a], d, h =>
    obtain ⟨x, rfl, da⟩ := d.one (G := ⟨X.K, G.cls, G.fld⟩)
    obtain ⟨l, el, h⟩ := post_opt h
    split at h
    · rename_i hl
      obtain ⟨p, rfl, e⟩ := lstInts (G := ⟨X.K, G.cls, G.fld⟩) r da el
      refine .inl ⟨p, l, rfl, e, hl, fun k hk hall => ?_⟩
      obtain ⟨h1, h2⟩ := minI_of hl
      have ek : k = Pm.minI l := Int.le_antisymm (hall _ h1) (h2 k hk)
      rw [ek]
      exact out_int h r
    · exact (show False from h).elim
  | [a, b], d, h =>
    obtain ⟨x, y, rfl, da, db⟩ := d.two (G := ⟨X.K, G.cls, G.fld⟩)
    obtain ⟨i, ei, h⟩ := post_opt h
    obtain ⟨j, ej, h⟩ := post_opt h
    obtain rfl := intOf_eq ei
    obtain rfl := intOf_eq ej
    obtain rfl := Da.int_iff (G := ⟨X.K, G.cls, G.fld⟩).mp da
    obtain rfl := Da.int_iff (G := ⟨X.K, G.cls, G.fld⟩).mp db
    exact .inr ⟨i, j, rfl, out_int h r⟩
  | _ :: _ :: _ :: _, _, h => exact (show False from h).elim
theorem call_listM : CallR X (.type "list") (rF ⟨X.K, G.cls, G.fld⟩ (Pm.bfn .list)) := by
  refine call_M call_list_of fun E m S l xs H Q r d h => ?_
  obtain ⟨a, rfl, h⟩ := post_one h
  obtain ⟨z, ez, h⟩ := post_opt h
  obtain ⟨x, rfl, da⟩ := d.one (G := ⟨X.K, G.cls, G.fld⟩)
  obtain ⟨p, vs, rfl, sq, ds⟩ := items_of (G := ⟨X.K, G.cls, G.fld⟩) r da ez
  exact ⟨p, vs, rfl, sq, fun c hc => out_new h r ds hc⟩
theorem call_tupleM : CallR X (.type "tuple") (rF ⟨X.K, G.cls, G.fld⟩ (Pm.bfn .tuple)) := by
  refine call_M call_tuple_of fun E m S l xs H Q r d h => ?_
  obtain ⟨a, rfl, h1⟩ := post_one h
  clear h
  obtain ⟨z, ez, h⟩ := post_opt h1
  clear h1
  obtain ⟨x, rfl, da⟩ := d.one (G := ⟨X.K, G.cls, G.fld⟩)
  cases a with
  | tup l =>
    obtain ⟨p, vs, rfl, t, ds⟩ := Da.tup_iff (G := ⟨X.K, G.cls, G.fld⟩).mp da
    cases ez
    exact ⟨p, vs, rfl, .inr ⟨t.sq, out_tupA h r t ds⟩⟩
  | lst l =>
    obtain ⟨p, vs, rfl, t, ds⟩ := Da.lst_iff (G := ⟨X.K, G.cls, G.fld⟩).mp da
    cases ez
    exact ⟨p, vs, rfl, .inl ⟨t.sq, fun c hc => out_tup h r ds hc⟩⟩
  | scr l =>
    obtain ⟨p, rfl, t⟩ := Da.scr_iff (G := ⟨X.K, G.cls, G.fld⟩).mp da
    cases ez
    exact ⟨p, _, rfl, .inl ⟨t.sq, fun c hc => out_tup h r (das_ints l) hc⟩⟩
  | ref n =>
    obtain ⟨p, rfl, t⟩ := Da.ref_iff (G := ⟨X.K, G.cls, G.fld⟩).mp da
    simp only [Pm.items] at ez
    split at ez
    · rename_i z' e'
      cases ez
      obtain ⟨vs, e1, ds⟩ := r.lst t e'
      exact ⟨p, vs, rfl, .inl ⟨SqL.of e1, fun c hc => out_tup h r ds hc⟩⟩
    · cases ez
  | new l => exact (show False by simp [Da] at da).elim
  | _ => cases ez
theorem call_sumM (hc : X.calm = true) : CallR X (.builtin "sum") (rF ⟨X.K, G.cls, G.fld⟩ (Pm.bfn .sum)) := by
  refine call_M (cr_sum hc) fun E m S l xs H Q r d h => ?_
  obtain ⟨a, rfl, h⟩ := post_one h
  obtain ⟨z, ez, h⟩ := post_opt h
  obtain ⟨x, rfl, da⟩ := d.one (G := ⟨X.K, G.cls, G.fld⟩)
  obtain ⟨p, rfl, e⟩ := lstInts (G := ⟨X.K, G.cls, G.fld⟩) r da ez
  exact ⟨p, z, rfl, e, out_int h r⟩
theorem call_allM (hc : X.calm = true) : CallR X (.builtin "all") (rF ⟨X.K, G.cls, G.fld⟩ (Pm.bfn .all)) := by
  refine call_M (cr_all hc) fun E m S l xs H Q r d h => ?_
  obtain ⟨a, rfl, h⟩ := post_one h
  obtain ⟨z, ez, h⟩ := post_opt h
  obtain ⟨x, rfl, da⟩ := d.one (G := ⟨X.K, G.cls, G.fld⟩)
  obtain ⟨p, rfl, e⟩ := lstBools (G := ⟨X.K, G.cls, G.fld⟩) r da ez
  exact ⟨p, z, rfl, e, out_bl h r⟩
theorem call_anyM (hc : X.calm = true) : CallR X (.builtin "any") (rF ⟨X.K, G.cls, G.fld⟩ (Pm.bfn .any)) := by
  refine call_M (cr_any hc) fun E m S l xs H Q r d h => ?_
  obtain ⟨a, rfl, h⟩ := post_one h
  obtain ⟨z, ez, h⟩ := post_opt h
  obtain ⟨x, rfl, da⟩ := d.one (G := ⟨X.K, G.cls, G.fld⟩)
  obtain ⟨p, rfl, e⟩ := lstBools (G := ⟨X.K, G.cls, G.fld⟩) r da ez
  exact ⟨p, z, rfl, e, out_bl h r⟩
/-! isinstance -/
def tyName : Pm.Ty → String
  | .int => "int" | .bool => "bool" | .str => "str" | .tuple => "tuple" | .list => "list"
theorem da_ty {p : PV} {x : V} (r : RepS G.K m H S) (d : Da G.K m H x p) (h : Pm.typed S p = true) : ∃ n, TyX G.K H x (.type n) ∧ ∀ t, kitB n (tyName t) = some (Pm.isTy t p) := by
  cases p with
  | non => rw [Da.non_iff.mp d]; exact ⟨_, .base .non, fun t => by cases t <;> decide +kernel⟩
  | bl b => rw [Da.bl_iff.mp d]; exact ⟨_, .base (.bl b), fun t => by cases t <;> (simp only [Pm.isTy]; decide +kernel)⟩
  | int b => rw [Da.int_iff.mp d]; exact ⟨_, .base (.int b), fun t => by cases t <;> (simp only [Pm.isTy]; decide +kernel)⟩
  | str b => rw [Da.str_iff.mp d]; exact ⟨_, .base (.str _), fun t => by cases t <;> (simp only [Pm.isTy]; decide +kernel)⟩
  | tup l =>
    obtain ⟨a, vs, rfl, t, ds⟩ := Da.tup_iff.mp d
    refine ⟨"tuple", ?_, fun t => by cases t <;> (simp only [Pm.isTy]; decide +kernel)⟩
    rcases t with ⟨e | ⟨o, e⟩, _⟩ | ⟨o, its, n, e1, e2, _⟩
    · exact .base (.tup e)
    · exact .fTuple e
    · exact .kTuple e1 e2
  | lst l =>
    obtain ⟨a, vs, rfl, t, ds⟩ := Da.lst_iff.mp d
    exact ⟨"list", .base (.lst t.1), fun t => by cases t <;> (simp only [Pm.isTy]; decide +kernel)⟩
  | ref n =>
    obtain ⟨a, rfl, t⟩ := Da.ref_iff.mp d
    simp only [Pm.typed] at h
    split at h
    case h_2 => cases h
    rename_i l el
    obtain ⟨vs, e1, ds⟩ := r.lst t el
    exact ⟨"list", .base (.lst e1), fun t => by cases t <;> (simp only [Pm.isTy]; decide +kernel)⟩
  | new l => exact absurd h (by simp [Pm.typed])
  | scr l => exact absurd h (by simp [Pm.typed])
theorem call_isiM (t : Pm.Ty) : CallR X (.builtin "isinstance") (fun xs H Q => ∃ E m S x a, xs = [x, .ty (tyName t)] ∧ RepS X.K m H S ∧ Da X.K m H x a ∧ Post ⟨X.K, G.cls, G.fld⟩ E m H Q (Pm.bfn (.isi t) [a] S)) := by
  intro pins s σ H xs us Q I rr q
  obtain ⟨E, m, S, x, a, rfl, r, da, h⟩ := q
  simp only [Pm.bfn, Pm.one] at h
  split at h
  · rename_i ht
    obtain ⟨n, h1, h2⟩ := da_ty (G := ⟨X.K, G.cls, G.fld⟩) r da ht
    exact call_isi pins s σ H _ us Q I rr ⟨x, _, _, _, _, rfl, .ty _, h1, kit_ty (h2 t), out_bl h r⟩
  · exact (show False from h).elim

/-! ### methods of lists, truth -/
def rMt (G : Gam) (f : Pm.Mt) : V → List V → Hp → VK → Prop := fun x xs H Q => ∃ E m S a l, RepS G.K m H S ∧ Da G.K m H x a ∧ Das G.K m H xs l ∧ Post G E m H Q (Pm.mtf f a l S)
theorem post_ref {f : Pm.Mt} {a : PV} {l : List PV} (h : Post G E m H Q (Pm.mtf f a l S)) : ∃ n z, a = .ref n ∧ S[n]? = some (.lst z) := by
  cases a with
  | ref n =>
    simp only [Pm.mtf] at h
    split at h
    · rename_i z ez
      exact ⟨n, z, rfl, ez⟩
    · exact (show False from h).elim
  | _ => exact (show False from h).elim
/-- the end of a method that has written the list -/
theorem out_wr {n : Nat} {a : Addr} {vs : List V} {z : List PV} {v : PV} {x : V} (ha : m.m[n]? = some a) (r : RepS G.K m H S) (d : Das G.K m H vs z) (dv : Da G.K m H x v) (h : Okv G m H Q (S.set n (.lst z)) v) : Q x (upd H a (.lst vs)) :=
  h.plain dv.notNew (Fut.write ha) (r.write ha d) (dv.fut (Fut.write ha))
theorem mt_appendM : MtR X "list.append" (rMt ⟨X.K, G.cls, G.fld⟩ .append) := by
  intro pins s σ H x xs v us Q I rx rs h
  obtain ⟨E, m, S, a, l, r, da, dl, h⟩ := h
  obtain ⟨n, z, rfl, ez⟩ := post_ref h
  obtain ⟨p, rfl, ha⟩ := Da.ref_iff (G := ⟨X.K, G.cls, G.fld⟩).mp da
  obtain ⟨vs, e1, ds⟩ := r.lst ha ez
  simp only [Pm.mtf, ez] at h
  match l, dl, h with
  | [q], dl, h =>
    obtain ⟨y, rfl, dy⟩ := dl.one (G := ⟨X.K, G.cls, G.fld⟩)
    simp only at h
    split at h
    · rename_i hl
      refine mt_append pins s σ H _ _ v us Q I rx rs ⟨p, vs, y, rfl, rfl, e1, by rw [ds.length, sizeLine_eq]; exact hl, ?_⟩
      exact out_wr (G := ⟨X.K, G.cls, G.fld⟩) (v := .non) ha r (ds.append (Das.cons_iff.mpr ⟨y, [], rfl, dy, Das.nil_iff.mpr rfl⟩)) (by simp [Da]) h
    · exact (show False from h).elim
  | [], _, h => exact (show False from h).elim
  | _ :: _ :: _, _, h => exact (show False from h).elim
theorem mt_extendM : MtR X "list.extend" (rMt ⟨X.K, G.cls, G.fld⟩ .extend) := by
  intro pins s σ H x xs v us Q I rx rs h
  obtain ⟨E, m, S, a, l, r, da, dl, h⟩ := h
  obtain ⟨n, z, rfl, ez⟩ := post_ref h
  obtain ⟨p, rfl, ha⟩ := Da.ref_iff (G := ⟨X.K, G.cls, G.fld⟩).mp da
  obtain ⟨vs, e1, ds⟩ := r.lst ha ez
  simp only [Pm.mtf, ez] at h
  match l, dl, h with
  | [q], dl, h =>
    obtain ⟨y, rfl, dy⟩ := dl.one (G := ⟨X.K, G.cls, G.fld⟩)
    simp only at h
    have fin : ∀ {w : List PV} {b : Addr} {ws : List V}, y = .ref b → H b = some (.lst ws) → Das X.K m H ws w → z.length + w.length ≤ Pm.sizeLine → Okv ⟨X.K, G.cls, G.fld⟩ m H Q (S.set n (.lst (z ++ w))) .non → wpAny (model X.prog X.w) X.A (call (.builtin "list.extend") (v :: us)) (EP X pins σ Q) X.xe s := fun {w b ws} ey eb dw hz q => by
      subst ey
      refine mt_extend pins s σ H _ _ v us Q I rx rs ⟨p, b, vs, ws, rfl, rfl, e1, eb, by rw [ds.length, dw.length, sizeLine_eq]; exact hz, ?_⟩
      exact out_wr (G := ⟨X.K, G.cls, G.fld⟩) ha r (ds.append dw) (by simp [Da]) q
    cases q with
    | ref k =>
      simp only at h
      split at h
      · exact (show False from h).elim
      · split at h
        · rename_i w ew
          split at h
          · rename_i hz
            obtain ⟨b, eb, hb⟩ := Da.ref_iff (G := ⟨X.K, G.cls, G.fld⟩).mp dy
            obtain ⟨ws, e2, dw⟩ := r.lst hb ew
            exact fin eb e2 dw hz h
          · exact (show False from h).elim
        · exact (show False from h).elim
    | lst w =>
      simp only at h
      split at h
      · rename_i hz
        obtain ⟨b, ws, eb, t, dw⟩ := Da.lst_iff (G := ⟨X.K, G.cls, G.fld⟩).mp dy
        exact fin eb t.1 dw hz h
      · exact (show False from h).elim
    | _ => exact (show False from h).elim
  | [], _, h => exact (show False from h).elim
  | _ :: _ :: _, _, h => exact (show False from h).elim
theorem mt_popM : MtR X "list.pop" (rMt ⟨X.K, G.cls, G.fld⟩ .pop) := by
  intro pins s σ H x xs v us Q I rx rs h
  obtain ⟨E, m, S, a, l, r, da, dl, h⟩ := h
  obtain ⟨n, z, rfl, ez⟩ := post_ref h
  obtain ⟨p, rfl, ha⟩ := Da.ref_iff (G := ⟨X.K, G.cls, G.fld⟩).mp da
  obtain ⟨vs, e1, ds⟩ := r.lst ha ez
  simp only [Pm.mtf, ez] at h
  match l, dl, h with
  | [], dl, h =>
    have ex : xs = [] := Das.nil_iff.mp dl
    subst ex
    simp only at h
    split at h
    · rename_i q eq
      obtain ⟨y, ey, dy⟩ := ds.get eq
      refine mt_pop pins s σ H _ _ v us Q I rx rs ⟨p, vs, y, rfl, rfl, e1, by rw [ds.length]; exact ey, ?_⟩
      exact out_wr (G := ⟨X.K, G.cls, G.fld⟩) (v := q) ha r ds.dropLast dy h
    · exact (show False from h).elim
  | _ :: _, _, h => exact (show False from h).elim
theorem tru_M {p : PV} {x : V} {k : Bool} (r : RepS G.K m H S) (d : Da G.K m H x p) (h : Pm.truth S p = some k) : TruV G.K x H k := by
  have seq : ∀ {z : List PV}, Pm.items S p = some z → k = !z.isEmpty → TruV G.K x H k := fun {z} ez ek => by
    obtain ⟨a', vs, rfl, sq, ds⟩ := items_of r d ez
    have hl := ds.length
    have e : vs.isEmpty = z.isEmpty := by cases vs <;> cases z <;> simp_all
    rcases sq with sq | sq
    · exact .inl ⟨vs, sq, by rw [ek, e]⟩
    · exact .inr (.inl ⟨vs, sq, by rw [ek, e]⟩)
  have gen : (Pm.items S p).map (fun l => !l.isEmpty) = some k → TruV G.K x H k := fun h => by
    obtain ⟨z, ez, rfl⟩ := Option.map_eq_some_iff.mp h
    exact seq ez rfl
  cases p with
  | non => rw [Da.non_iff.mp d]; cases h; rfl
  | bl b => rw [Da.bl_iff.mp d]; cases h; rfl
  | int b => rw [Da.int_iff.mp d]; cases h; rfl
  | str b =>
    rw [Da.str_iff.mp d]
    simp only [Pm.truth] at h
    split at h
    · rename_i hz
      cases h
      refine ⟨by rw [toS_len, sizeLine_eq]; exact hz, ?_⟩
      rw [toS_len]
      cases b <;> simp
      omega
    · cases h
  | tup l => exact gen h
  | lst l => exact gen h
  | ref l => exact gen h
  | scr l => exact gen h
  | new l => exact gen h
end
end Ps

namespace Ps
open PySem L2
open Pm (PV Ob Sto R Sl settle)
/-! ### does a term of ours tell this text? -/
/-- what the module's names are: defs by number (with the defaults that a call leaves out), built-ins, constants -/
structure Tab where
  fns : List (Str × Nat × List PV)
  bns : List Str
  cts : List (Str × PV)
structure Ct where
  N : List Str
  sc : Scope
  /-- of a comprehension: its own scope as it is written -/
  org : Option Scope := none
/-- may a name be stored here? -/
def orgB (c : Ct) (x : Str) : Bool := match c.org with
  | none => true
  | some o => match o.names.lookup x with
    | some .local => true
    | some .cell => true
    | _ => false
def nameIs (x : Str) (s : Str) : Bool := decide (x = s)
def varB (c : Ct) (i : Nat) (x : Str) : Bool :=
  decide (c.N[i]? = some x) && (match c.sc.names.lookup x with | some .local => true | some .cell => true | some .free => true | _ => false) && !(x == ("__debug__" : Str)) && !(x == ("__classdict__" : Str))
def locB (c : Ct) (i : Nat) (x : Str) : Bool :=
  decide (c.N[i]? = some x) && (match c.sc.names.lookup x with | some .local => true | some .cell => true | _ => false) && orgB c x
def gloB (c : Ct) (x : Str) : Bool := decide (c.sc.names.lookup x = some .globalImplicit) && !(x == ("__debug__" : Str))
def plainB : Expr → Bool
  | .Slice .. => false
  | .Starred .. => false
  | _ => true
def nostar : Expr → Bool
  | .Starred .. => false
  | _ => true
def baseB : Expr → Bool
  | .Call _ [] [] _ => false
  | _ => true
def bnB (T : Tab) (c : Ct) (x s : Str) : Bool := decide (x = s) && gloB c x && decide (x ∈ T.bns)
mutual
def same2 : PV → PV → Bool
  | .non, .non => true
  | .bl a, .bl b => a == b
  | .int i, .int j => i == j
  | .str x, .str y => x == y
  | .tup xs, .tup ys => same2s xs ys
  | _, _ => false
def same2s : List PV → List PV → Bool
  | [], [] => true
  | x :: xs, y :: ys => same2 x y && same2s xs ys
  | _, _ => false
end
def biName : Pm.Bi → Str
  | .len => "len" | .int => "int" | .abs => "abs" | .max => "max" | .min => "min" | .list => "list" | .tuple => "tuple" | .sum => "sum" | .all => "all" | .any => "any" | .isi _ => "isinstance"
def mtName : Pm.Mt → Str
  | .append => "append" | .extend => "extend" | .pop => "pop"
def tgtB (c : Ct) : Pm.T → Expr → Bool
  | .nm i, .Name x _ => locB c i x
  | .tu l, .Tuple es _ _ => tgts c l es
  | .nmw i _, .Name x _ => locB c i x
  | .tuw l _, .Tuple es _ _ => tgts c l es
  | _, _ => false
where tgts (c : Ct) : List Nat → List Expr → Bool
  | [], [] => true
  | i :: l, .Name x _ :: es => locB c i x && tgts c l es
  | _, _ => false
/-- a comprehension's own names -/
def ownOf (N : List Str) : Pm.T → Expr → List (Str × Nat)
  | .nm i, .Name x _ => [(x, i)]
  | .tu l, .Tuple es _ _ => owns l es
  | .nmw i w, .Name x _ => (x, i) :: w.filterMap fun j => (N[j]?).map fun y => (y, j)
  | .tuw l w, .Tuple es _ _ => owns l es ++ w.filterMap fun j => (N[j]?).map fun y => (y, j)
  | _, _ => []
where owns : List Nat → List Expr → List (Str × Nat)
  | i :: l, .Name x _ :: es => (x, i) :: owns l es
  | _, _ => []
mutual
def chkE (T : Tab) (c : Ct) : Pm.E → Expr → Bool
  | .var i, .Name x _ => varB c i x
  | .cst .non, .Constant .none _ _ => true
  | .cst (.bl b), .Constant (.bool b') _ _ => b == b'
  | .cst (.int i), .Constant (.int j) _ _ => i == j
  | .cst (.str s), .Constant (.str x) _ _ => decide (x = toS s)
  | .glo n v, .Name x _ => decide (x = toS n) && gloB c x && T.cts.any (fun p => decide (p.1 = x) && same2 p.2 v)
  | .bin op a b, .BinOp l o r _ => decide (opOf op = o) && chkE T c a l && chkE T c b r
  | .neg a, .UnaryOp .USub e _ => chkE T c a e
  | .cmp op a b, .Compare l [o] [r] _ => decide (cmOf op = o) && chkE T c a l && chkE T c b r && !behindInMarks o r
  | .chain op op' a b d, .Compare l [o, o'] [r, z] _ => decide (cmOf op = o) && decide (cmOf op' = o') && chkE T c a l && chkE T c b r && chkE T c d z && !lastMarks [o, o'] [r, z]
  | .and a b, .BoolOp .And (x :: y :: rest) p => chkE T c a x && (match rest with | [] => chkE T c b y | _ => chkE T c b (.BoolOp .And (y :: rest) p))
  | .or a b, .BoolOp .Or (x :: y :: rest) p => chkE T c a x && (match rest with | [] => chkE T c b y | _ => chkE T c b (.BoolOp .Or (y :: rest) p))
  | .not a, .UnaryOp .Not e _ => chkE T c a e
  | .ife t a b, .IfExp q x y _ => chkB T c t q && chkE T c a x && chkE T c b y
  | .ix a b, .Subscript l r _ => chkE T c a l && chkE T c b r && plainB r
  | .sl a lo hi, .Subscript l (.Slice x y none _) _ => chkE T c a l && chkO T c lo x && chkO T c hi y
  | .tup l, .Tuple es _ _ => chkEs T c l es
  | .lst l, .List es _ => chkEs T c l es
  | .call f l d, .Call (.Name x _) es [] _ => T.fns.any (fun p => decide (p.1 = x) && decide (p.2.1 = f) && same2s p.2.2 d) && gloB c x && chkEs T c l es
  | .bi (.isi t) [a], .Call (.Name x _) [e, .Name y _] [] _ => bnB T c x "isinstance" && chkE T c a e && nostar e && bnB T c y (Str.ofString (tyName t))
  | .bi f (a :: l), .Call (.Name x _) (e :: es) [] _ => (match f with | .isi _ => false | _ => true) && bnB T c x (biName f) && nostar e && chkE T c a e && chkEs T c l es
  | .mt f o l, .Call (.Attribute oe m apos) es [] cpos => decide (m = mtName f) && chkE T c o oe && chkEs T c l es && baseB oe && (apos.endLine == cpos.line) && decide (es.length < 20)
  | .comp el t it cs, .ListComp e [⟨tg, ie, ifs, k⟩] scope _ => decide (k = 0) && chkI T c it tg ie && blkC c.N c.sc scope (ownOf c.N t tg) && decide ((ownOf c.N t tg).map (·.2) = t.own) &&
      tgtB ⟨c.N, relS scope c.sc, some scope⟩ t tg && chkTO T ⟨c.N, relS scope c.sc, some scope⟩ cs ifs && chkE T ⟨c.N, relS scope c.sc, some scope⟩ el e
  | .box a, e => chkE T c a e && (match e with | .Compare .. => false | .Tuple .. => false | _ => true)
  | _, _ => false
def chkEs (T : Tab) (c : Ct) : List Pm.E → List Expr → Bool
  | [], [] => true
  | a :: l, e :: es => chkE T c a e && nostar e && chkEs T c l es
  | _, _ => false
def chkO (T : Tab) (c : Ct) : Option Pm.E → Option Expr → Bool
  | none, none => true
  | some a, some e => chkE T c a e
  | _, _ => false
def chkTO (T : Tab) (c : Ct) : Option Pm.B → List Expr → Bool
  | none, [] => true
  | some b, [e] => chkB T c b e
  | _, _ => false
def chkB (T : Tab) (c : Ct) : Pm.B → Expr → Bool
  | .val a, e => chkE T c a e && (match e with | .BoolOp .. => false | .UnaryOp .Not _ _ => false | .IfExp .. => false | _ => true)
  | .and a b, .BoolOp .And (x :: y :: rest) p => chkB T c a x && (match rest with | [] => chkB T c b y | _ => chkB T c b (.BoolOp .And (y :: rest) p))
  | .or a b, .BoolOp .Or (x :: y :: rest) p => chkB T c a x && (match rest with | [] => chkB T c b y | _ => chkB T c b (.BoolOp .Or (y :: rest) p))
  | .not a, .UnaryOp .Not e _ => chkB T c a e
  | _, _ => false
def chkI (T : Tab) (c : Ct) : Pm.I → Expr → Expr → Bool
  | .rng1 a, _, .Call (.Name x _) [e] [] _ => bnB T c x "range" && chkE T c a e && nostar e
  | .rng2 a b, _, .Call (.Name x _) [e, e'] [] _ => bnB T c x "range" && chkE T c a e && nostar e && chkE T c b e' && nostar e'
  | .vals a, _, e => chkE T c a e && (match e with | .Set .. => false | _ => true)
  | .rev a, _, .Call (.Name x _) [e] [] _ => bnB T c x "reversed" && chkE T c a e && nostar e
  | _, _, _ => false
end
def isComp : Expr → Bool
  | .ListComp .. => true
  | .SetComp .. => true
  | .DictComp .. => true
  | _ => false
/-- the stores of a, b = x, y are not exchanged -/
def keptStores (c : Ct) (ts vs : List Expr) : Bool :=
  !(ts.length == 2 || ts.length == 3) || vs.all (foldedForSure 8) ||
    (ts.filterMap fun | .Name id pos => if c.sc.names.lookup id == some .local && pos.line == ((ts.head?.map (·.pos.line)).getD 0) then some id else none | _ => none).length != ts.length
def parB (c : Ct) : Pm.G → List Expr → List Expr → Bool
  | .tu [i, j], [.Name x px, .Name y py], [a, b] => decide (i ≠ j) && decide (x ≠ y) && decide (c.sc.names.lookup x = some .local) && decide (c.sc.names.lookup y = some .local) && (px.line == py.line) && !([a, b].all (foldedForSure 8)) && !([a, b].all (constantsAlone 8))
  | _, _, _ => false
def setB (T : Tab) (c : Ct) : Pm.G → Expr → Bool
  | .nm i, .Name x _ => locB c i x
  | .tu l, .Tuple es _ _ => tgtB.tgts c l es
  | .sub o i, .Subscript oe ie _ => chkE T c o oe && chkE T c i ie && plainB ie
  | _, _ => false
mutual
def chkS (T : Tab) (c : Ct) : Pm.St → Stmt → Bool
  | .asg g e, .Assign [tg] se pos => setB T c g tg && chkE T c e se && (match tg, se with
    | .Name x py, .ListComp el gs scope cp => (decide (c.sc.names.lookup x = some .local) && (py.line == cp.line) && !(scope.names.any fun (n, k) => n == x && (k == .local || k == .cell))) || decide (c.sc.names.lookup x = some .cell)
    | .Tuple ts _ pt, .Tuple vs _ _ => (parB c g ts vs || keptStores c ts vs) && vs.all nostar
    | _, se => !isComp se)
  | .ret e, .Return (some se) _ => chkE T c e se
  | .retN, .Return none _ => true
  | .ifs t a b, .If q x y _ => chkB T c t q && chkSs T c a x && chkSs T c b y
  | .whl t b, .While q x [] _ => chkB T c t q && chkSs T c b x
  | .for t it b, .For tg ie x [] _ => chkI T c it tg ie && tgtB c t tg && chkSs T c b x
  | .ex e, .Expr se _ => chkE T c e se && !isComp se
  | .brk, .Break _ => true
  | .cnt, .Continue _ => true
  | .pss, .Pass _ => true
  | _, _ => false
def chkSs (T : Tab) (c : Ct) : Pm.Ss → List Stmt → Bool
  | .nil, [] => true
  | .cons s r, st :: rest => chkS T c s st && chkSs T c r rest
  | _, _ => false
end
end Ps

namespace Ps
open PySem L2
open Pm (PV Ob Sto R Sl settle)
theorem gx {X : Cx} {G : Gam} (h : X.K = G.K) : (⟨X.K, G.cls, G.fld⟩ : Gam) = G := by
  obtain ⟨K, c, f⟩ := G
  cases h
  rfl
/-- what a def by number promises -/
def spM (G : Gam) (F : List PV → Sto → R PV) : Sp := fun vs H Q E => ∃ m S l, RepS G.K m H S ∧ Das G.K m H vs l ∧ Post G E m H Q (F l S)
/-- where a term is read -/
structure XOk (G : Gam) (T : Tab) (C : Nat → List PV → Sto → R PV) (n : Nat) (X : Cx) (c : Ct) (E : L2.St → XK) : Prop where
  K : X.K = G.K
  calm : X.calm = true
  nd : X.N.Nodup
  N : X.N = c.N
  sc : X.env.scope = c.sc
  hr : Room n X.A
  fn : ∀ x, orgB c x = true → (c.sc.names.lookup x = some .local ∨ c.sc.names.lookup x = some .cell) → X.fn x = true ∨ X.env.scope.names.lookup x = some .local
  bns : ∀ x ∈ T.bns, X.mg x = none
  cts : ∀ p ∈ T.cts, ∃ u v, X.mg p.1 = some u ∧ RelV v u ∧ ∀ m H, Da G.K m H v p.2
  fns : ∀ p ∈ T.fns, ∃ f fd ps dv ds CX, FnOk X.prog X.w X.K X.mg X.base CX n f fd ps (spM G (C p.2.1)) ∧ X.mg p.1 = some (.ref f) ∧ PySem.W.keepIn X.K (.ref f) = true ∧ Binds X.K fd ps ds ∧ Vals dv ds ∧
    (∀ m H, Das G.K m H dv p.2.2) ∧ (∀ σ, PassesAt CX X σ (E σ)) ∧ ∀ o H s e s', CX o H s E0 e s' → False
  own : PassesOwn (model X.prog X.w) X.A X.env X.xe
section
variable {G : Gam} {T : Tab} {C : Nat → List PV → Sto → R PV} {n : Nat} {X : Cx} {c : Ct} {E : L2.St → XK} {m m' m1 : Mp} {H H' H1 : Hp} {Q : VK} {S : Sto}
/-! ### names -/
theorem vis_of (O : XOk G T C n X c E) {i : Nat} {x : Str} (h : varB c i x = true) : X.N[i]? = some x ∧ Vis X.env.scope x ∧ (x == ("__debug__" : Str)) = false ∧ (x == ("__classdict__" : Str)) = false := by
  unfold varB at h
  simp only [Bool.and_eq_true, decide_eq_true_eq, Bool.not_eq_true'] at h
  obtain ⟨⟨⟨h1, h2⟩, h3⟩, h4⟩ := h
  refine ⟨by rw [O.N]; exact h1, ?_, h3, h4⟩
  unfold Vis
  rw [O.sc]
  split at h2 <;> simp_all
theorem loc_of (O : XOk G T C n X c E) {i : Nat} {x : Str} (h : locB c i x = true) : X.N[i]? = some x ∧ L2.Loc X.env.scope x ∧ (X.fn x = true ∨ X.env.scope.names.lookup x = some .local) := by
  unfold locB at h
  simp only [Bool.and_eq_true, decide_eq_true_eq] at h
  obtain ⟨⟨h1, h2⟩, h3⟩ := h
  have h4 : c.sc.names.lookup x = some .local ∨ c.sc.names.lookup x = some .cell := by
    split at h2 <;> simp_all
  refine ⟨by rw [O.N]; exact h1, ?_, O.fn x h3 h4⟩
  unfold L2.Loc
  rw [O.sc]
  exact h4
theorem glo_of (O : XOk G T C n X c E) {x : Str} (h : gloB c x = true) : Gl X x ∧ (x == ("__debug__" : Str)) = false := by
  unfold gloB at h
  simp only [Bool.and_eq_true, decide_eq_true_eq, Bool.not_eq_true'] at h
  refine ⟨?_, h.2⟩
  show X.env.scope.names.lookup x = _
  rw [O.sc]
  exact h.1
theorem bn_of (O : XOk G T C n X c E) {x s : Str} (h : bnB T c x s = true) : x = s ∧ Gl X x ∧ X.mg x = none := by
  unfold bnB at h
  simp only [Bool.and_eq_true, decide_eq_true_eq] at h
  exact ⟨h.1.1, (glo_of O h.1.2).1, O.bns x h.2⟩
theorem q_var (O : XOk G T C n X c E) {i : Nat} {x : Str} {pos : Pos} (h : varB c i x = true) : PE X (.Name x pos) (tE G E fun ρ S => Pm.ev C (.var i) ρ S) := by
  obtain ⟨h1, h2, h3, h4⟩ := vis_of O h
  refine PE.imp (pe_var (i := i) h1 h2 h3 h4) ?_
  rintro σ H Q ⟨m, ρ, S, re, rs, q⟩
  simp only [Pm.ev] at q
  split at q
  · rename_i v ev
    obtain ⟨x, e, d⟩ := re.at_ i v ev
    exact ⟨x, e, Okv.use q rs d⟩
  · exact q.elim
theorem q_con {e : Expr} {v : V} {p : PV} (hp : PE X e (tC v)) (hd : ∀ m H, Da G.K m H v p) : PE X e (tE G E fun _ S => .ok p S) := by
  refine PE.imp hp ?_
  rintro σ H Q ⟨m, ρ, S, re, rs, q⟩
  exact Okv.use q rs (hd m H)
/-! ### operators -/
theorem rd_op2 {k : PV → PV → Sto → R PV} {ka kb : Sl → Sto → R PV} {σ : L2.St} (h : tE G E (fun ρ S => (ka ρ S).bind fun x S1 => (kb ρ S1).bind fun y S2 => k (settle x) (settle y) S2) σ H Q) : tOp (rM G k) (tE G E ka) (tE G E kb) σ H Q := by
  obtain ⟨m, ρ, S, re, rs, h⟩ := h
  refine ⟨m, ρ, S, re, rs, Post.bind (P := Post G (E σ) m H Q) h id (fun c l S h => h) fun v S1 x m1 H1 h1 f1 r1 d1 => ?_⟩
  refine ⟨m1, ρ, S1, re.fut f1, r1, Post.bind (P := Post G (E σ) m1 H1 Q) (h1.fut f1) id (fun c l S h => h) fun w S2 y m2 H2 h2 f2 r2 d2 => ?_⟩
  exact ⟨E σ, m2, S2, settle v, settle w, r2, d1.fut f2, d2, h2.fut f2⟩
theorem q_bin (O : XOk G T C n X c E) {o : Pm.Op} {a b : Expr} {ea eb : Pm.E} {pos : Pos} (ha : PE X a (tE G E fun ρ S => Pm.ev C ea ρ S)) (hb : PE X b (tE G E fun ρ S => Pm.ev C eb ρ S)) :
    PE X (.BinOp a (opOf o) b pos) (tE G E fun ρ S => Pm.ev C (.bin o ea eb) ρ S) := by
  have ho : OpR X (binaryOp (opOf o)) (rM G (Pm.bin o)) := by have z := op_bin (G := G) (X := X) o; rw [gx O.K] at z; exact z
  refine PE.imp (pe_op ho ha hb) fun σ H Q h => rd_op2 ?_
  simpa only [Pm.ev] using h
theorem cmp_ok (O : XOk G T C n X c E) (o : Pm.Cm) : OpR X (compareOp (cmOf o)) (rM G (Pm.cmp o)) := by
  have z := op_cmp (G := G) (X := X) O.hr.units o
  rw [gx O.K] at z
  exact z
theorem q_cmp (O : XOk G T C n X c E) {o : Pm.Cm} {a b : Expr} {ea eb : Pm.E} {pos : Pos} (ha : PE X a (tE G E fun ρ S => Pm.ev C ea ρ S)) (hb : PE X b (tE G E fun ρ S => Pm.ev C eb ρ S)) (hm : behindInMarks (cmOf o) b = false) :
    PE X (.Compare a [cmOf o] [b] pos) (tE G E fun ρ S => Pm.ev C (.cmp o ea eb) ρ S) := by
  refine PE.imp (pe_cmpR (cmp_ok O o) ha hb hm) fun σ H Q h => rd_op2 ?_
  simpa only [Pm.ev] using h
theorem q_ix (O : XOk G T C n X c E) {a b : Expr} {ea eb : Pm.E} {pos : Pos} (ha : PE X a (tE G E fun ρ S => Pm.ev C ea ρ S)) (hb : PE X b (tE G E fun ρ S => Pm.ev C eb ρ S)) (hm : plainB b = true) :
    PE X (.Subscript a b pos) (tE G E fun ρ S => Pm.ev C (.ix ea eb) ρ S) := by
  have ho : IxR X (rM G Pm.getIx) := by have z := ix_M (G := G) (X := X); rw [gx O.K] at z; exact z
  have hp : PlainIx b := fun o i => by cases b <;> first | rfl | exact absurd hm (by simp [plainB])
  refine PE.imp (pe_ix ho ha hb hp) fun σ H Q h => rd_op2 ?_
  simpa only [Pm.ev] using h
theorem q_neg {a : Expr} {ea : Pm.E} {pos : Pos} (ha : PE X a (tE G E fun ρ S => Pm.ev C ea ρ S)) : PE X (.UnaryOp .USub a pos) (tE G E fun ρ S => Pm.ev C (.neg ea) ρ S) := by
  refine PE.imp (pe_un un_neg ha) ?_
  rintro σ H Q ⟨m, ρ, S, re, rs, h⟩
  simp only [Pm.ev] at h
  refine ⟨m, ρ, S, re, rs, Post.bind (P := Post G (E σ) m H Q) h id (fun c l S h => h) fun v S1 x m1 H1 h1 f1 r1 d1 => ?_⟩
  cases v with
  | int i =>
    obtain rfl := Da.int_iff.mp d1
    exact ⟨i, rfl, out_int (Okv.fut h1 f1) r1⟩
  | _ => exact h1.elim
theorem q_chain (O : XOk G T C n X c E) {o o' : Pm.Cm} {a b d : Expr} {ea eb ed : Pm.E} {pos : Pos} (ha : PE X a (tE G E fun ρ S => Pm.ev C ea ρ S)) (hb : PE X b (tE G E fun ρ S => Pm.ev C eb ρ S)) (hd : PE X d (tE G E fun ρ S => Pm.ev C ed ρ S))
    (hm : lastMarks [cmOf o, cmOf o'] [b, d] = false) : PE X (.Compare a [cmOf o, cmOf o'] [b, d] pos) (tE G E fun ρ S => Pm.ev C (.chain o o' ea eb ed) ρ S) := by
  refine PE.imp (pe_chain (cmp_ok O o) (cmp_ok O o') ha hb hd hm) ?_
  rintro σ H Q ⟨m, ρ, S, re, rs, h⟩
  simp only [Pm.ev] at h
  refine ⟨m, ρ, S, re, rs, Post.bind (P := Post G (E σ) m H Q) h id (fun c l S h => h) fun v S1 x m1 H1 h1 f1 r1 d1 => ?_⟩
  refine ⟨m1, ρ, S1, re.fut f1, r1, Post.bind (P := Post G (E σ) m1 H1 Q) (h1.fut f1) id (fun c l S h => h) fun w S2 y m2 H2 h2 f2 r2 d2 => ?_⟩
  refine ⟨E σ, m2, S2, settle v, settle w, r2, d1.fut f2, d2, Post.bind (P := Post G (E σ) m2 H2 Q) (h2.fut f2) id (fun c l S h => h) fun k S3 z m3 H3 h3 f3 r3 d3 => ?_⟩
  cases k with
  | bl k =>
    obtain rfl := Da.bl_iff.mp d3
    refine ⟨k, rfl, ?_⟩
    cases k with
    | false => exact out_bl (Okv.fut h3 f3) r3
    | true =>
      rw [if_pos rfl]
      refine ⟨m3, ρ, S3, ((re.fut f1).fut f2).fut f3, r3, Post.bind (P := Post G (E σ) m3 H3 Q) (Post.fut h3 f3) id (fun c l S h => h) fun u S4 t m4 H4 h4 f4 r4 d4 => ?_⟩
      exact ⟨E σ, m4, S4, settle w, settle u, r4, (d2.fut f3).fut f4, d4, h4.fut f4⟩
  | _ => exact h3.elim
theorem q_one {op : BoolOp} {a : Expr} {t : TE} {pos : Pos} (h : PE X a t) : PE X (.BoolOp op [a] pos) t := pe_one h
theorem q_and {a b : Expr} {rest : List Expr} {ea eb : Pm.E} {pos : Pos} (ha : PE X a (tE G E fun ρ S => Pm.ev C ea ρ S)) (hb : PE X (.BoolOp .And (b :: rest) pos) (tE G E fun ρ S => Pm.ev C eb ρ S)) :
    PE X (.BoolOp .And (a :: b :: rest) pos) (tE G E fun ρ S => Pm.ev C (.and ea eb) ρ S) := by
  refine PE.imp (pe_and ha hb) ?_
  rintro σ H Q ⟨m, ρ, S, re, rs, h⟩
  simp only [Pm.ev] at h
  refine ⟨m, ρ, S, re, rs, Post.bind (P := Post G (E σ) m H Q) h id (fun c l S h => h) fun v S1 x m1 H1 h1 f1 r1 d1 => ?_⟩
  cases v with
  | bl k =>
    obtain rfl := Da.bl_iff.mp d1
    refine ⟨k, rfl, ?_⟩
    cases k with
    | false => exact out_bl (Okv.fut h1 f1) r1
    | true =>
      rw [if_pos rfl]
      exact ⟨m1, ρ, S1, re.fut f1, r1, Post.fut h1 f1⟩
  | _ => exact h1.elim
theorem q_or {a b : Expr} {rest : List Expr} {ea eb : Pm.E} {pos : Pos} (ha : PE X a (tE G E fun ρ S => Pm.ev C ea ρ S)) (hb : PE X (.BoolOp .Or (b :: rest) pos) (tE G E fun ρ S => Pm.ev C eb ρ S)) :
    PE X (.BoolOp .Or (a :: b :: rest) pos) (tE G E fun ρ S => Pm.ev C (.or ea eb) ρ S) := by
  refine PE.imp (pe_or ha hb) ?_
  rintro σ H Q ⟨m, ρ, S, re, rs, h⟩
  simp only [Pm.ev] at h
  refine ⟨m, ρ, S, re, rs, Post.bind (P := Post G (E σ) m H Q) h id (fun c l S h => h) fun v S1 x m1 H1 h1 f1 r1 d1 => ?_⟩
  cases v with
  | bl k =>
    obtain rfl := Da.bl_iff.mp d1
    refine ⟨k, rfl, ?_⟩
    cases k with
    | true => exact out_bl (Okv.fut h1 f1) r1
    | false =>
      rw [if_neg Bool.false_ne_true]
      exact ⟨m1, ρ, S1, re.fut f1, r1, Post.fut h1 f1⟩
  | _ => exact h1.elim
theorem q_not {a : Expr} {ea : Pm.E} {pos : Pos} (ha : PE X a (tE G E fun ρ S => Pm.ev C ea ρ S)) : PE X (.UnaryOp .Not a pos) (tE G E fun ρ S => Pm.ev C (.not ea) ρ S) := by
  refine PE.imp (pe_not ha) ?_
  rintro σ H Q ⟨m, ρ, S, re, rs, h⟩
  simp only [Pm.ev] at h
  refine ⟨m, ρ, S, re, rs, Post.bind (P := Post G (E σ) m H Q) h id (fun c l S h => h) fun v S1 x m1 H1 h1 f1 r1 d1 => ?_⟩
  cases v with
  | bl k =>
    obtain rfl := Da.bl_iff.mp d1
    exact ⟨k, rfl, out_bl (Okv.fut h1 f1) r1⟩
  | _ => exact h1.elim
theorem q_ife {t a b : Expr} {et : Pm.B} {ea eb : Pm.E} {pos : Pos} (ht : PT X t (tB' G E fun ρ S => Pm.evT C et ρ S)) (ha : PE X a (tE G E fun ρ S => Pm.ev C ea ρ S)) (hb : PE X b (tE G E fun ρ S => Pm.ev C eb ρ S)) :
    PE X (.IfExp t a b pos) (tE G E fun ρ S => Pm.ev C (.ife et ea eb) ρ S) := by
  refine PE.imp (pe_ifExp ht ha hb) ?_
  rintro σ H Q ⟨m, ρ, S, re, rs, h⟩
  simp only [Pm.ev] at h
  refine ⟨m, ρ, S, re, rs, PostB.bind (P := Post G (E σ) m H Q) h id (fun c l S h => h) fun k S1 m1 H1 h1 f1 r1 => ?_⟩
  cases k with
  | true =>
    rw [if_pos rfl] at h1 ⊢
    exact ⟨m1, ρ, S1, re.fut f1, r1, h1.fut f1⟩
  | false =>
    rw [if_neg Bool.false_ne_true] at h1 ⊢
    exact ⟨m1, ρ, S1, re.fut f1, r1, h1.fut f1⟩
/-! ### arguments, displays -/
theorem star_cons {e : Expr} {es : List Expr} {env : PySem.Env} (h : nostar e = true) : starEach (e :: es) env = (false, eval e env) :: starEach es env := by
  cases e <;> first | rfl | exact absurd h (by simp [nostar])
theorem q_nil : PA X [] (tA' G E fun ρ S => Pm.evs C [] ρ S) := by
  refine PA.imp pa_nil ?_
  rintro σ H Q ⟨m, ρ, S, re, rs, h⟩
  simp only [Pm.evs] at h
  exact h [] m H Fut.refl rs (by simp [Das])
theorem q_cons {a : Expr} {es : List Expr} {ea : Pm.E} {l : List Pm.E} (ha : PE X a (tE G E fun ρ S => Pm.ev C ea ρ S)) (hl : PA X es (tA' G E fun ρ S => Pm.evs C l ρ S)) (hs : nostar a = true) :
    PA X (a :: es) (tA' G E fun ρ S => Pm.evs C (ea :: l) ρ S) := by
  refine PA.imp (pa_cons ha hl (star_cons hs)) ?_
  rintro σ H Q ⟨m, ρ, S, re, rs, h⟩
  simp only [Pm.evs] at h
  refine ⟨m, ρ, S, re, rs, Post.bind (P := PostA G (E σ) m H Q) h id (fun c l S h => h) fun v S1 x m1 H1 h1 f1 r1 d1 => ?_⟩
  refine ⟨m1, ρ, S1, re.fut f1, r1, PostA.bind (P := PostA G (E σ) m1 H1 Q) (h1.fut f1) id (fun c l S h => h) fun w S2 xs m2 H2 h2 f2 r2 d2 => ?_⟩
  exact h2 (x :: xs) m2 H2 f2 r2 (Das.cons_iff.mpr ⟨x, xs, rfl, d1.fut f2, d2⟩)
theorem q_tup {es : List Expr} {l : List Pm.E} {k : Nat} {pos : Pos} (h : PA X es (tA' G E fun ρ S => Pm.evs C l ρ S)) : PE X (.Tuple es k pos) (tE G E fun ρ S => Pm.ev C (.tup l) ρ S) := by
  refine PE.imp (pe_tup h) ?_
  rintro σ H Q ⟨m, ρ, S, re, rs, h⟩
  simp only [Pm.ev] at h
  refine ⟨m, ρ, S, re, rs, PostA.bind (P := Post G (E σ) m H Q) h id (fun c l S h => h) fun w S1 xs m1 H1 h1 f1 r1 d1 => ?_⟩
  split at h1
  · rename_i hz
    exact ⟨by rw [d1.length, sizeLine_eq]; exact hz, fun p hp => out_tup (Okv.fut h1 f1) r1 d1 hp⟩
  · exact h1.elim
theorem q_lst {es : List Expr} {l : List Pm.E} {pos : Pos} (h : PA X es (tA' G E fun ρ S => Pm.evs C l ρ S)) : PE X (.List es pos) (tE G E fun ρ S => Pm.ev C (.lst l) ρ S) := by
  refine PE.imp (pe_lst h) ?_
  rintro σ H Q ⟨m, ρ, S, re, rs, h⟩
  simp only [Pm.ev] at h
  refine ⟨m, ρ, S, re, rs, PostA.bind (P := Post G (E σ) m H Q) h id (fun c l S h => h) fun w S1 xs m1 H1 h1 f1 r1 d1 => ?_⟩
  split at h1
  · rename_i hz
    exact ⟨by rw [d1.length, sizeLine_eq]; exact hz, fun p hp => out_new (Okv.fut h1 f1) r1 d1 hp⟩
  · exact h1.elim
/-! ### calls -/
theorem run_at {CX : CXT} {k : Nat} {f : Addr} {fd : FuncData} {ps : List Str} {sp : Sp} {ds : List Value} {dvs : List V} {E : XK} {pins : List (Addr × Obj)} {σ : L2.St} {H : Hp} {s : Shared} {Q : VK} {us : List Value} {vs : List V}
    (F : FnOk X.prog X.w X.K X.mg X.base CX k f fd ps sp) (hr : Room k X.A) (hb : Binds X.K fd ps ds) (hd : Vals dvs ds) (hx : PassesAt CX X σ E)
    (I : L2.Inv X pins σ H s) (r : Vals vs us) (h : sp (vs ++ dvs) H Q E) : wpAny (model X.prog X.w) X.A (call (.ref f) us) (EP X pins σ Q) X.xe s := by
  have r2 : Vals (vs ++ dvs) (us ++ ds) := r.append hd
  have hl : (us ++ ds).length = ps.length := r2.length.symm.trans (F.len _ _ _ _ h)
  refine wpAny_call (codeAny_mono (F.run X.A X.stack s H ⟨us, []⟩ _ _ Q E hr I.env0 (hb s us I.kIn hl) r2 h) ?_)
  intro r s' hq
  match r, hq with
  | .error e, hq => exact hx pins H s e s' I hq
  | .ok (.ret u), hq => exact I.after hq
  | .ok .next, hq => exact hq.elim
  | .ok .brk, hq => exact hq.elim
  | .ok .cont, hq => exact hq.elim
theorem any_plain {pos : Pos} {env : PySem.Env} : ∀ {es : List Expr}, es.all nostar = true → (backTo pos (starEach es env)).any (·.1) = false
  | [], _ => rfl
  | e :: es, h => by
    simp only [List.all_cons, Bool.and_eq_true] at h
    rw [star_cons h.1]
    have ih := any_plain (pos := pos) (env := env) h.2
    show (false || (backTo pos (starEach es env)).any (·.1)) = false
    rw [ih]
    rfl
theorem q_call (O : XOk G T C n X c E) {x : Str} {f : Nat} {d : List PV} {es : List Expr} {l : List Pm.E} {p pos : Pos} (hf : ∃ q ∈ T.fns, q.1 = x ∧ q.2.1 = f ∧ q.2.2 = d) (hg : gloB c x = true) (hs : es.all nostar = true)
    (hl : es = [] → l = []) (h : PA X es (tA' G E fun ρ S => Pm.evs C l ρ S)) : PE X (.Call (.Name x p) es [] pos) (tE G E fun ρ S => Pm.ev C (.call f l d) ρ S) := by
  obtain ⟨q, hq, rfl, rfl, rfl⟩ := hf
  obtain ⟨a, fd, ps, dv, ds, CX, F, hm, hk, hb, hd, hda, hx, _⟩ := O.fns q hq
  obtain ⟨hg1, hg2⟩ := glo_of O hg
  refine ⟨fun pins s σ H Q I ht => ?_⟩
  obtain ⟨m, ρ, S, re, rs, ht⟩ := ht
  simp only [Pm.ev] at ht
  have hp : PostA G (E σ) m H (fun vs H1 => spM G (C q.2.1) (vs ++ dv) H1 Q (E σ)) (Pm.evs C l ρ S) := PostA.bind (P := Post G (E σ) m H Q) ht id (fun c l S h => h) fun w S1 xs m1 H1 h1 f1 r1 d1 =>
    ⟨m1, S1, w ++ q.2.2, r1, d1.append (hda m1 H1), h1.fut f1⟩
  have hA := h.run pos pins s σ H _ I ⟨m, ρ, S, re, rs, hp⟩
  refine wpAny_Call_Name_kw (ld_glob I hg1 hm ?_ hg2)
  cases es with
  | nil =>
    refine PySem.W.callWith_K0 I.kIn hk ?_
    refine run_at F O.hr hb hd (hx σ) I .nil ?_
    cases l with
    | nil =>
      simp only [Pm.evs] at hp
      exact hp [] m H Fut.refl rs (by simp [Das])
    | cons a l => exact absurd (hl rfl) (by simp)
  | cons e es =>
    simp only [List.all_cons, Bool.and_eq_true] at hs
    refine PySem.W.callWith_K (h₀ := X.base) I.ok.mod.kin hk (thn hA fun us s1 ⟨vs, H1, I1, r, q1⟩ => ⟨I1.kIn, ?_⟩) (star_cons hs.1) (any_plain hs.2)
    exact run_at F O.hr hb hd (hx σ) I1 r q1
/-! ### built-ins -/
theorem rd_fn {k : List PV → Sto → R PV} {ka : Sl → Sto → R (List PV)} {σ : L2.St} (h : tE G E (fun ρ S => (ka ρ S).bind fun xs S1 => k xs S1) σ H Q) : tCB (rF G k) (tA' G E ka) σ H Q := by
  obtain ⟨m, ρ, S, re, rs, h⟩ := h
  refine ⟨m, ρ, S, re, rs, PostA.bind (P := Post G (E σ) m H Q) h id (fun c l S h => h) fun w S1 xs m1 H1 h1 f1 r1 d1 => ?_⟩
  exact ⟨E σ, m1, S1, w, r1, d1, h1.fut f1⟩
theorem q_bi (O : XOk G T C n X c E) {f : Pm.Bi} {x : Str} {e : Expr} {es : List Expr} {l : List Pm.E} {p pos : Pos} (hx : x = biName f) (hg : Gl X x) (hm : X.mg x = none) (hf : ∀ t, f ≠ .isi t) (hs : nostar e = true) (hs2 : es.all nostar = true)
    (h : PA X (e :: es) (tA' G E fun ρ S => Pm.evs C l ρ S)) : PE X (.Call (.Name x p) (e :: es) [] pos) (tE G E fun ρ S => Pm.ev C (.bi f l) ρ S) := by
  subst hx
  have fin : ∀ {t : TE}, PE X (.Call (.Name (biName f) p) (e :: es) [] pos) t → (t = tCB (rF G (Pm.bfn f)) (tA' G E fun ρ S => Pm.evs C l ρ S)) → PE X (.Call (.Name (biName f) p) (e :: es) [] pos) (tE G E fun ρ S => Pm.ev C (.bi f l) ρ S) := fun hp et => by
    subst et
    refine PE.imp hp fun σ H Q h => rd_fn ?_
    simpa only [Pm.ev] using h
  cases f with
  | len => exact fin (pe_callB (by have z := call_lenM (G := G) (X := X); rw [gx O.K] at z; exact z) hg hm PySem.boot_len h (by decide) (by decide) (star_cons hs) (any_plain hs2)) rfl
  | int => exact fin (pe_callTy (by have z := call_intM (G := G) (X := X); rw [gx O.K] at z; exact z) hg hm PyProof.Rows.boot_int h (by decide) (by decide) (star_cons hs) (any_plain hs2)) rfl
  | abs => exact fin (pe_callB (by have z := call_absM (G := G) (X := X); rw [gx O.K] at z; exact z) hg hm PyProof.Rows.boot_abs h (by decide) (by decide) (star_cons hs) (any_plain hs2)) rfl
  | max => exact fin (pe_callB (by have z := call_maxM (G := G) (X := X) O.calm; rw [gx O.K] at z; exact z) hg hm PyProof.Rows.boot_max h (by decide) (by decide) (star_cons hs) (any_plain hs2)) rfl
  | min => exact fin (pe_callB (by have z := call_minM (G := G) (X := X) O.calm; rw [gx O.K] at z; exact z) hg hm PyProof.Rows.boot_min h (by decide) (by decide) (star_cons hs) (any_plain hs2)) rfl
  | list => exact fin (pe_callTy (by have z := call_listM (G := G) (X := X); rw [gx O.K] at z; exact z) hg hm PyProof.Rows.boot_list h (by decide) (by decide) (star_cons hs) (any_plain hs2)) rfl
  | tuple => exact fin (pe_callTy (by have z := call_tupleM (G := G) (X := X); rw [gx O.K] at z; exact z) hg hm PyProof.Rows.boot_tuple h (by decide) (by decide) (star_cons hs) (any_plain hs2)) rfl
  | sum => exact fin (pe_callB (by have z := call_sumM (G := G) (X := X) O.calm; rw [gx O.K] at z; exact z) hg hm PyProof.Rows.boot_sum h (by decide) (by decide) (star_cons hs) (any_plain hs2)) rfl
  | all => exact fin (pe_callB (by have z := call_allM (G := G) (X := X) O.calm; rw [gx O.K] at z; exact z) hg hm PyProof.Rows.boot_all h (by decide) (by decide) (star_cons hs) (any_plain hs2)) rfl
  | any => exact fin (pe_callB (by have z := call_anyM (G := G) (X := X) O.calm; rw [gx O.K] at z; exact z) hg hm PyProof.Rows.boot_any h (by decide) (by decide) (star_cons hs) (any_plain hs2)) rfl
  | isi t => exact absurd rfl (hf t)
theorem boot_ty (t : Pm.Ty) : bootBuiltins (Str.ofString (tyName t)) = some (.type (tyName t)) := by cases t <;> decide +kernel
theorem q_isi (O : XOk G T C n X c E) {t : Pm.Ty} {x y : Str} {e : Expr} {ea : Pm.E} {p p2 pos : Pos} (hx : x = "isinstance") (hg : Gl X x) (hm : X.mg x = none) (hy : y = Str.ofString (tyName t)) (hg2 : Gl X y) (hm2 : X.mg y = none) (hs : nostar e = true)
    (h : PE X e (tE G E fun ρ S => Pm.ev C ea ρ S)) : PE X (.Call (.Name x p) [e, .Name y p2] [] pos) (tE G E fun ρ S => Pm.ev C (.bi (.isi t) [ea]) ρ S) := by
  subst hx
  subst hy
  have hc := call_isiM (G := G) (X := X) t
  rw [gx O.K] at hc
  have hp : PE X (.Name (Str.ofString (tyName t)) p2) (tC (.ty (tyName t))) := pe_bltn hg2 hm2 (boot_ty t) rfl (by cases t <;> decide +kernel) (by cases t <;> decide +kernel)
  refine PE.imp (pe_callB hc hg hm PyProof.Rows.boot_isinstance (pa_cons h (pa_cons hp pa_nil) (star_cons hs)) (by decide) (by decide) (star_cons hs) (by rfl)) ?_
  rintro σ H Q ⟨m, ρ, S, re, rs, h⟩
  simp only [Pm.ev, Pm.evs] at h
  have e1 : ∀ (r : R PV), ((r.bind fun x S1 => (R.ok [] S1 : R (List PV)).bind fun xs S2 => R.ok (settle x :: xs) S2).bind fun xs S1 => Pm.bfn (.isi t) xs S1) = r.bind fun x S1 => Pm.bfn (.isi t) [settle x] S1 := fun r => by
    cases r <;> rfl
  rw [e1] at h
  refine ⟨m, ρ, S, re, rs, Post.bind (P := Post G (E σ) m H Q) h id (fun c l S h => h) fun v S1 x m1 H1 h1 f1 r1 d1 => ?_⟩
  refine ⟨E σ, m1, S1, x, settle v, rfl, ?_, ?_, h1.fut f1⟩
  · rw [O.K]; exact r1
  · rw [O.K]; exact d1
/-! ### methods of lists -/
theorem base_of {o : Expr} {name : Str} {env : PySem.Env} (h : baseB o = true) : attributeBase o name env (eval o env) = eval o env := by
  unfold attributeBase
  split
  · rename_i id q pos
    exact absurd h (by simp [baseB])
  · rfl
theorem few_ok {cpos : Pos} {env : PySem.Env} : ∀ {es : List Expr}, es.all nostar = true → (backTo cpos (starEach es env)).all (fun x => !x.1) = true
  | [], _ => rfl
  | e :: es, h => by
    simp only [List.all_cons, Bool.and_eq_true] at h
    rw [star_cons h.1]
    show (true && (backTo cpos (starEach es env)).all (fun x => !x.1)) = true
    rw [few_ok h.2]
    rfl
theorem q_mt (O : XOk G T C n X c E) {f : Pm.Mt} {o : Expr} {eo : Pm.E} {es : List Expr} {l : List Pm.E} {apos cpos : Pos} (hb : baseB o = true) (hline : (apos.endLine == cpos.line) = true) (hs : es.all nostar = true) (hn : es.length < 20) (hl : es = [] → l = [])
    (ho : PE X o (tE G E fun ρ S => Pm.ev C eo ρ S)) (h : PA X es (tA' G E fun ρ S => Pm.evs C l ρ S)) : PE X (.Call (.Attribute o (mtName f) apos) es [] cpos) (tE G E fun ρ S => Pm.ev C (.mt f eo l) ρ S) := by
  have ha : MtR X "list.append" (rMt G .append) := by have z := mt_appendM (G := G) (X := X); rw [gx O.K] at z; exact z
  have he : MtR X "list.extend" (rMt G .extend) := by have z := mt_extendM (G := G) (X := X); rw [gx O.K] at z; exact z
  have hp : MtR X "list.pop" (rMt G .pop) := by have z := mt_popM (G := G) (X := X); rw [gx O.K] at z; exact z
  have key : ∀ (σ : L2.St) (H : Hp) (Q : VK), tE G E (fun ρ S => Pm.ev C (.mt f eo l) ρ S) σ H Q → (tE G E fun ρ S => Pm.ev C eo ρ S) σ H fun x H1 => tyV X.K "list" x H1 ∧ (tA' G E fun ρ S => Pm.evs C l ρ S) σ H1 fun xs H2 => rMt G f x xs H2 Q := by
    rintro σ H Q ⟨m, ρ, S, re, rs, h⟩
    simp only [Pm.ev] at h
    refine ⟨m, ρ, S, re, rs, Post.bind (P := Post G (E σ) m H Q) h id (fun c l S h => h) fun v S1 x m1 H1 h1 f1 r1 d1 => ?_⟩
    split at h1
    · rename_i hr
      have ev : settle v = v := by cases v <;> first | rfl | exact absurd hr (by simp [Pm.isRef])
      rw [ev] at d1
      refine ⟨?_, m1, ρ, S1, re.fut f1, r1, PostA.bind (P := Post G (E σ) m1 H1 Q) (h1.fut f1) id (fun c l S h => h) fun w S2 xs m2 H2 h2 f2 r2 d2 => ?_⟩
      · cases v with
        | ref k =>
          obtain ⟨a, rfl, ha⟩ := Da.ref_iff.mp d1
          simp only [Pm.isRef] at hr
          split at hr
          · rename_i z ez
            obtain ⟨vs, e1, _⟩ := r1.lst ha ez
            exact .inl ⟨rfl, vs, SqL.of e1⟩
          · cases hr
        | _ => exact absurd hr (by simp [Pm.isRef])
      · exact ⟨E σ, m2, S2, v, w, r2, d1.fut f2, d2, h2.fut f2⟩
    · exact h1.elim
  cases es with
  | nil =>
    obtain rfl := hl rfl
    have nil : ∀ (σ : L2.St) (H : Hp) (Q : VK), tE G E (fun ρ S => Pm.ev C (.mt f eo []) ρ S) σ H Q → (tE G E fun ρ S => Pm.ev C eo ρ S) σ H fun x H1 => tyV X.K "list" x H1 ∧ rMt G f x [] H1 Q := by
      rintro σ H Q ⟨m, ρ, S, re, rs, h⟩
      simp only [Pm.ev] at h
      refine ⟨m, ρ, S, re, rs, Post.bind (P := Post G (E σ) m H Q) h id (fun c l S h => h) fun v S1 x m1 H1 h1 f1 r1 d1 => ?_⟩
      split at h1
      · rename_i hr
        have ev : settle v = v := by cases v <;> first | rfl | exact absurd hr (by simp [Pm.isRef])
        rw [ev] at d1
        simp only [Pm.evs] at h1
        refine ⟨?_, E σ, m1, S1, v, [], r1, d1, by simp [Das], Post.fut h1 f1⟩
        cases v with
        | ref k =>
          obtain ⟨a, rfl, ha⟩ := Da.ref_iff.mp d1
          simp only [Pm.isRef] at hr
          split at hr
          · rename_i z ez
            obtain ⟨vs, e1, _⟩ := r1.lst ha ez
            exact .inl ⟨rfl, vs, SqL.of e1⟩
          · cases hr
        | _ => exact absurd hr (by simp [Pm.isRef])
      · exact h1.elim
    cases f with
    | append => exact PE.imp (pe_bm0 PySem.F.plainAttrs_list PySem.F.slot_list_append PySem.F.type_list_append ha ho (base_of hb) hline) fun σ H Q h => nil σ H Q h
    | extend => exact PE.imp (pe_bm0 PySem.F.plainAttrs_list PySem.F.slot_list_extend PySem.F.type_list_extend he ho (base_of hb) hline) fun σ H Q h => nil σ H Q h
    | pop => exact PE.imp (pe_bm0 PySem.F.plainAttrs_list PySem.F.slot_list_pop PySem.F.type_list_pop hp ho (base_of hb) hline) fun σ H Q h => nil σ H Q h
  | cons e es =>
    have hs' := hs
    simp only [List.all_cons, Bool.and_eq_true] at hs'
    have hfew : ((backTo cpos (starEach (e :: es) X.env)).all (fun x => !x.1) && (backToKw cpos (keywordEach [] X.env)).all (fun x => x.1.isSome)
      && decide ((e :: es).length + ([] : List Keyword).length + (if ([] : List Keyword).isEmpty then 0 else 1) < 30)) = true := by
      rw [few_ok hs]
      have : decide ((e :: es).length + ([] : List Keyword).length + (if ([] : List Keyword).isEmpty then 0 else 1) < 30) = true := by
        rw [decide_eq_true_eq]
        simp at hn ⊢
        omega
      rw [this]
      rfl
    cases f with
    | append => exact PE.imp (pe_bm PySem.F.plainAttrs_list PySem.F.slot_list_append PySem.F.type_list_append ha ho h (base_of hb) hfew hline (star_cons hs'.1) (any_plain hs'.2)) fun σ H Q h => key σ H Q h
    | extend => exact PE.imp (pe_bm PySem.F.plainAttrs_list PySem.F.slot_list_extend PySem.F.type_list_extend he ho h (base_of hb) hfew hline (star_cons hs'.1) (any_plain hs'.2)) fun σ H Q h => key σ H Q h
    | pop => exact PE.imp (pe_bm PySem.F.plainAttrs_list PySem.F.slot_list_pop PySem.F.type_list_pop hp ho h (base_of hb) hfew hline (star_cons hs'.1) (any_plain hs'.2)) fun σ H Q h => key σ H Q h
/-! ### slices -/
theorem q_none : PO X none (tO' G E fun ρ S => Pm.evO C none ρ S) := by
  refine PO.imp po_none ?_
  rintro σ H Q ⟨m, ρ, S, re, rs, h⟩
  simp only [Pm.evO] at h
  exact h m H Fut.refl rs
theorem q_some {e : Expr} {a : Pm.E} (ha : PE X e (tE G E fun ρ S => Pm.ev C a ρ S)) : PO X (some e) (tO' G E fun ρ S => Pm.evO C (some a) ρ S) := by
  refine PO.imp (po_some ha) ?_
  rintro σ H Q ⟨m, ρ, S, re, rs, h⟩
  simp only [Pm.evO] at h
  refine ⟨m, ρ, S, re, rs, Post.bind (P := PostO G (E σ) m H Q) h id (fun c l S h => h) fun v S1 x m1 H1 h1 f1 r1 d1 => ?_⟩
  cases v with
  | int i =>
    obtain rfl := Da.int_iff.mp d1
    exact ⟨i, rfl, h1 m1 H1 f1 r1⟩
  | _ => exact h1.elim
theorem q_sl (O : XOk G T C n X c E) {e : Expr} {lo hi : Option Expr} {a : Pm.E} {i j : Option Pm.E} {p2 pos : Pos} (ha : PE X e (tE G E fun ρ S => Pm.ev C a ρ S)) (h1 : PO X lo (tO' G E fun ρ S => Pm.evO C i ρ S)) (h2 : PO X hi (tO' G E fun ρ S => Pm.evO C j ρ S)) :
    PE X (.Subscript e (.Slice lo hi none p2) pos) (tE G E fun ρ S => Pm.ev C (.sl a i j) ρ S) := by
  have ho : SlR X (rSM G) := by have z := sl_M (G := G) (X := X); rw [gx O.K] at z; exact z
  refine PE.imp (pe_slice ho ha h1 h2) ?_
  rintro σ H Q ⟨m, ρ, S, re, rs, h⟩
  simp only [Pm.ev] at h
  refine ⟨m, ρ, S, re, rs, Post.bind (P := Post G (E σ) m H Q) h id (fun c l S h => h) fun v S1 x m1 H1 h1 f1 r1 d1 => ?_⟩
  refine ⟨m1, ρ, S1, re.fut f1, r1, PostO.bind (P := Post G (E σ) m1 H1 Q) (h1.fut f1) id (fun c l S h => h) fun w S2 m2 H2 h2 f2 r2 => ?_⟩
  refine ⟨m2, ρ, S2, (re.fut f1).fut f2, r2, PostO.bind (P := Post G (E σ) m2 H2 Q) (h2.fut f2) id (fun c l S h => h) fun w' S3 m3 H3 h3 f3 r3 => ?_⟩
  exact ⟨E σ, m3, S3, settle v, r3, (d1.fut f2).fut f3, h3.fut f3⟩
/-! ### a new list of the store -/
theorem rd_box {ka : Sl → Sto → R PV} {σ : L2.St} (h : tE G E (fun ρ S => (ka ρ S).bind Pm.boxOf) σ H Q) : tE G E ka σ H Q := by
  obtain ⟨m, ρ, S, re, rs, h⟩ := h
  refine ⟨m, ρ, S, re, rs, ?_⟩
  dsimp only at h
  cases e : ka ρ S with
  | bad => rw [e] at h; exact h.elim
  | err cc l S1 => rw [e] at h; exact h
  | ok v S1 =>
    rw [e] at h
    cases v with
    | new l =>
      intro m1 H1 a vs f1 n1 r1 d1
      have h' : Okv G m H Q (S1 ++ [.lst l]) (.ref S1.length) := h
      refine h' _ (m1.add a) _ (f1.trans (Fut.more n1)) (r1.more n1 d1) ?_
      rw [Da.ref_iff]
      refine ⟨a, rfl, ?_⟩
      show (m1.m ++ [a])[S1.length]? = some a
      rw [← r1.len, List.getElem?_append_right (Nat.le_refl _), Nat.sub_self]
      rfl
    | ref k => exact h
    | _ => exact h.elim
theorem q_box {e : Expr} {a : Pm.E} (ha : PE X e (tE G E fun ρ S => Pm.ev C a ρ S)) : PE X e (tE G E fun ρ S => Pm.ev C (.box a) ρ S) :=
  PE.imp ha fun σ H Q h => rd_box (by simpa only [Pm.ev] using h)
/-! ### tests -/
theorem is_plain {e : Expr} {env : PySem.Env} (h : (match e with | .BoolOp .. => false | .UnaryOp .Not _ _ => false | .IfExp .. => false | _ => true) = true) (hc : ∀ l ops cs p, e ≠ .Compare l ops cs p) :
    ∀ whole, isTrue e env whole = (do let v ← whole; standAt e.pos; holding [v] (truthy v)) := by
  intro whole
  cases e with
  | BoolOp => cases h
  | IfExp => cases h
  | Compare l ops cs p => exact absurd rfl (hc l ops cs p)
  | UnaryOp op => cases op <;> first | rfl | cases h
  | _ => rfl
theorem q_val {e : Expr} {a : Pm.E} (O : XOk G T C n X c E) (hp : (match e with | .BoolOp .. => false | .UnaryOp .Not _ _ => false | .IfExp .. => false | _ => true) = true) (hc : ∀ l ops cs p, e ≠ .Compare l ops cs p) (ha : PE X e (tE G E fun ρ S => Pm.ev C a ρ S)) :
    PT X e (tB' G E fun ρ S => Pm.evT C (.val a) ρ S) := by
  refine PT.imp (pt_truth ha (is_plain hp hc)) ?_
  rintro σ H Q ⟨m, ρ, S, re, rs, h⟩
  simp only [Pm.evT] at h
  refine ⟨m, ρ, S, re, rs, Post.bind (P := PostB G (E σ) m H Q) h id (fun c l S h => h) fun v S1 x m1 H1 h1 f1 r1 d1 => ?_⟩
  unfold Pm.tstOf at h1
  split at h1
  · rename_i k ek
    refine ⟨k, ?_, h1 m1 H1 f1 r1⟩
    rw [O.K]
    exact tru_M r1 d1 ek
  · exact h1.elim
theorem q_tand {a b : Expr} {rest : List Expr} {ea eb : Pm.B} {pos : Pos} (ha : PT X a (tB' G E fun ρ S => Pm.evT C ea ρ S)) (hb : PW X (.BoolOp .And (b :: rest) pos) (tB' G E fun ρ S => Pm.evT C eb ρ S)) :
    PW X (.BoolOp .And (a :: b :: rest) pos) (tB' G E fun ρ S => Pm.evT C (.and ea eb) ρ S) := by
  refine PW.imp (pw_and ha hb) ?_
  rintro σ H Q ⟨m, ρ, S, re, rs, h⟩
  simp only [Pm.evT] at h
  refine ⟨m, ρ, S, re, rs, PostB.bind (P := PostB G (E σ) m H Q) h id (fun c l S h => h) fun k S1 m1 H1 h1 f1 r1 => ?_⟩
  cases k with
  | true =>
    rw [if_pos rfl] at h1 ⊢
    exact ⟨m1, ρ, S1, re.fut f1, r1, h1.fut f1⟩
  | false =>
    rw [if_neg Bool.false_ne_true] at h1 ⊢
    exact h1 m1 H1 f1 r1
theorem q_tor {a b : Expr} {rest : List Expr} {ea eb : Pm.B} {pos : Pos} (ha : PT X a (tB' G E fun ρ S => Pm.evT C ea ρ S)) (hb : PW X (.BoolOp .Or (b :: rest) pos) (tB' G E fun ρ S => Pm.evT C eb ρ S)) :
    PW X (.BoolOp .Or (a :: b :: rest) pos) (tB' G E fun ρ S => Pm.evT C (.or ea eb) ρ S) := by
  refine PW.imp (pw_or ha hb) ?_
  rintro σ H Q ⟨m, ρ, S, re, rs, h⟩
  simp only [Pm.evT] at h
  refine ⟨m, ρ, S, re, rs, PostB.bind (P := PostB G (E σ) m H Q) h id (fun c l S h => h) fun k S1 m1 H1 h1 f1 r1 => ?_⟩
  cases k with
  | true =>
    rw [if_pos rfl] at h1 ⊢
    exact h1 m1 H1 f1 r1
  | false =>
    rw [if_neg Bool.false_ne_true] at h1 ⊢
    exact ⟨m1, ρ, S1, re.fut f1, r1, h1.fut f1⟩
theorem q_tnot {a : Expr} {ea : Pm.B} {pos : Pos} (ha : PT X a (tB' G E fun ρ S => Pm.evT C ea ρ S)) : PT X (.UnaryOp .Not a pos) (tB' G E fun ρ S => Pm.evT C (.not ea) ρ S) := by
  refine PT.imp (pt_not ha) ?_
  rintro σ H Q ⟨m, ρ, S, re, rs, h⟩
  simp only [Pm.evT] at h
  refine ⟨m, ρ, S, re, rs, PostB.bind (P := PostB G (E σ) m H Q) h id (fun c l S h => h) fun k S1 m1 H1 h1 f1 r1 => ?_⟩
  exact h1 m1 H1 f1 r1
theorem bool_of {k : Bool} {Q : Bool → Hp → Prop} {E' : XK} {v : PV} {x : V} (r : RepS G.K m H S) (d : Da G.K m H x (settle v)) (hv : ∃ b, v = .bl b) (h : PostB G E' m1 H1 Q (Pm.tstOf v S)) (f : Fut m1 H1 m H) : ∃ k, x = .bl k ∧ Q k H := by
  obtain ⟨b, rfl⟩ := hv
  exact ⟨b, Da.bl_iff.mp d, h m H f r⟩
theorem cmp_bl {o : Pm.Cm} {a b v : PV} {S S' : Sto} (h : Pm.cmp o a b S = .ok v S') : ∃ k, v = .bl k := by
  cases o <;> simp only [Pm.cmp] at h
  all_goals (repeat' split at h) <;> first | cases h | skip
  all_goals exact ⟨_, rfl⟩
theorem q_tcmp (O : XOk G T C n X c E) {o : Pm.Cm} {a b : Expr} {ea eb : Pm.E} {pos : Pos} (ha : PE X a (tE G E fun ρ S => Pm.ev C ea ρ S)) (hb : PE X b (tE G E fun ρ S => Pm.ev C eb ρ S)) (hm : behindInMarks (cmOf o) b = false) :
    PT X (.Compare a [cmOf o] [b] pos) (tB' G E fun ρ S => Pm.evT C (.val (.cmp o ea eb)) ρ S) := by
  refine PT.imp (pt_cmpR (cmp_ok O o) ha hb hm) ?_
  rintro σ H Q ⟨m, ρ, S, re, rs, h⟩
  simp only [Pm.evT, Pm.ev] at h
  have e1 : ∀ (r : R PV) (k : PV → Sto → R PV), ((r.bind k).bind Pm.tstOf) = r.bind fun x S1 => (k x S1).bind Pm.tstOf := fun r k => by cases r <;> rfl
  rw [e1] at h
  refine ⟨m, ρ, S, re, rs, Post.bind (P := PostB G (E σ) m H Q) h id (fun c l S h => h) fun v S1 x m1 H1 h1 f1 r1 d1 => ?_⟩
  rw [e1] at h1
  refine ⟨m1, ρ, S1, re.fut f1, r1, Post.bind (P := PostB G (E σ) m1 H1 Q) (h1.fut f1) id (fun c l S h => h) fun w S2 y m2 H2 h2 f2 r2 d2 => ?_⟩
  refine ⟨E σ, m2, S2, settle v, settle w, r2, d1.fut f2, d2, ?_⟩
  cases e : Pm.cmp o (settle v) (settle w) S2 with
  | bad => rw [e] at h2; exact h2.elim
  | err cc l S3 => rw [e] at h2; exact PErr.fut h2 f2
  | ok u S3 =>
    rw [e] at h2
    obtain ⟨k, rfl⟩ := cmp_bl e
    intro x m3 H3 f3 r3 d3
    exact ⟨k, Da.bl_iff.mp d3, h2 m3 H3 (f2.trans f3) r3⟩
theorem q_tchain (O : XOk G T C n X c E) {o o' : Pm.Cm} {a b d : Expr} {ea eb ed : Pm.E} {pos : Pos} (ha : PE X a (tE G E fun ρ S => Pm.ev C ea ρ S)) (hb : PE X b (tE G E fun ρ S => Pm.ev C eb ρ S)) (hd : PE X d (tE G E fun ρ S => Pm.ev C ed ρ S))
    (hm : lastMarks [cmOf o, cmOf o'] [b, d] = false) : PT X (.Compare a [cmOf o, cmOf o'] [b, d] pos) (tB' G E fun ρ S => Pm.evT C (.val (.chain o o' ea eb ed)) ρ S) := by
  refine PT.imp (pt_chain (cmp_ok O o) (cmp_ok O o') ha hb hd hm) ?_
  rintro σ H Q ⟨m, ρ, S, re, rs, h⟩
  simp only [Pm.evT, Pm.ev] at h
  have e1 : ∀ (r : R PV) (k : PV → Sto → R PV), ((r.bind k).bind Pm.tstOf) = r.bind fun x S1 => (k x S1).bind Pm.tstOf := fun r k => by cases r <;> rfl
  rw [e1] at h
  refine ⟨m, ρ, S, re, rs, Post.bind (P := PostB G (E σ) m H Q) h id (fun c l S h => h) fun v S1 x m1 H1 h1 f1 r1 d1 => ?_⟩
  rw [e1] at h1
  refine ⟨m1, ρ, S1, re.fut f1, r1, Post.bind (P := PostB G (E σ) m1 H1 Q) (h1.fut f1) id (fun c l S h => h) fun w S2 y m2 H2 h2 f2 r2 d2 => ?_⟩
  rw [e1] at h2
  refine ⟨E σ, m2, S2, settle v, settle w, r2, d1.fut f2, d2, Post.bind (P := PostB G (E σ) m2 H2 Q) (h2.fut f2) id (fun c l S h => h) fun k S3 z m3 H3 h3 f3 r3 d3 => ?_⟩
  cases k with
  | bl k =>
    obtain rfl := Da.bl_iff.mp d3
    refine ⟨k, rfl, ?_⟩
    cases k with
    | false => exact ⟨false, rfl, h3 m3 H3 f3 r3⟩
    | true =>
      rw [if_pos rfl]
      have h3' : PostB G (E σ) m2 H2 Q (((Pm.ev C ed ρ S3).bind fun z S4 => Pm.cmp o' (settle w) (settle z) S4).bind Pm.tstOf) := h3
      rw [e1] at h3'
      refine ⟨m3, ρ, S3, ((re.fut f1).fut f2).fut f3, r3, Post.bind (P := PostB G (E σ) m3 H3 Q) (h3'.fut f3) id (fun c l S h => h) fun u S4 t m4 H4 h4 f4 r4 d4 => ?_⟩
      refine ⟨E σ, m4, S4, settle w, settle u, r4, (d2.fut f3).fut f4, d4, ?_⟩
      cases e : Pm.cmp o' (settle w) (settle u) S4 with
      | bad => rw [e] at h4; exact h4.elim
      | err cc l S5 => rw [e] at h4; exact PErr.fut h4 f4
      | ok u' S5 =>
        rw [e] at h4
        obtain ⟨k, rfl⟩ := cmp_bl e
        intro x m5 H5 f5 r5 d5
        exact ⟨k, Da.bl_iff.mp d5, h4 m5 H5 (f4.trans f5) r5⟩
  | _ => exact h3.elim
end
end Ps

namespace Ps
open PySem L2
open Pm (PV Ob Sto R Sl settle)
/-! ### what is walked -/
structure WalkM (G : Gam) (J : It) (m0 : Mp) (H0 : Hp) (xs : List PV) (gd : List (Nat × List PV)) : Prop where
  goes : ∀ i m H S, i < xs.length → FutH m0 H0 m H → RepS G.K m H S → Pm.gdOk S gd = true → J.go i H
  stops : ∀ m H S, FutH m0 H0 m H → RepS G.K m H S → Pm.gdOk S gd = true → J.stop xs.length H
  yields : ∀ i m H S x H' p, xs[i]? = some p → FutH m0 H0 m H → RepS G.K m H S → Pm.gdOk S gd = true → J.yld i H x H' → Fut m H m H' ∧ (∀ S, RepS G.K m H S → RepS G.K m H' S) ∧ Da G.K m H' x p
section
variable {G : Gam} {T : Tab} {C : Nat → List PV → Sto → R PV} {n : Nat} {X : Cx} {c : Ct} {E : L2.St → XK} {m m' m1 : Mp} {H H' H1 : Hp} {Q : VK} {S : Sto}
def PostI (G : Gam) (E : XK) (m : Mp) (H : Hp) (Rr : It → Hp → Prop) : R Pm.Src → Prop
  | .ok s S => ∀ m' H' J, Fut m H m' H' → RepS G.K m' H' S → WalkM G J m' H' s.xs s.gd → Rr J H'
  | .err c l S => PErr G E m H c l S
  | .bad => False
def tI' (G : Gam) (E : L2.St → XK) (k : Sl → Sto → R Pm.Src) : TI := fun σ H Rr => ∃ m ρ S, RepE G.K m H σ ρ ∧ RepS G.K m H S ∧ PostI G (E σ) m H Rr (k ρ S)
theorem PostI.fut {E : XK} {Rr : It → Hp → Prop} {r : R Pm.Src} (h : PostI G E m H Rr r) (f : Fut m H m' H') : PostI G E m' H' Rr r := by
  cases r with
  | ok v S => exact fun m2 H2 J g r d => h m2 H2 J (f.trans g) r d
  | err c l S => exact PErr.fut h f
  | bad => exact h
theorem PostI.bind {E : XK} {α : Type} {r : R Pm.Src} {k : Pm.Src → Sto → R α} {P : R α → Prop} {Rest : It → Hp → Prop} (h : P (r.bind k)) (hb : ¬ P .bad) (he : ∀ c l S, P (.err c l S) → PErr G E m H c l S)
    (hk : ∀ s S1 m' H' J, P (k s S1) → Fut m H m' H' → RepS G.K m' H' S1 → WalkM G J m' H' s.xs s.gd → Rest J H') : PostI G E m H Rest r := by
  cases r with
  | ok v S => exact fun m' H' J f r d => hk v S m' H' J h f r d
  | err c l S => exact he c l S h
  | bad => exact absurd h hb
/-! the walks -/
theorem wm_range {lo hi : Int} : WalkM G (Itr lo (hi - lo).toNat) m H (Pm.rng lo hi) [] := by
  have hl : (Pm.rng lo hi).length = (hi - lo).toNat := by simp [Pm.rng]
  refine ⟨fun i m1 H1 S hi f r g => ?_, fun m1 H1 S f r g => ?_, fun i m1 H1 S x H2 p hp f r g y => ?_⟩
  · rw [hl] at hi; exact hi
  · rw [hl]; exact Nat.le_refl _
  · obtain ⟨rfl, rfl⟩ := y
    refine ⟨Fut.refl, fun S r => r, ?_⟩
    have hi := (List.getElem?_eq_some_iff.mp hp).1
    rw [hl] at hi
    simp only [Pm.rng, List.getElem?_map, List.getElem?_range hi, Option.map_some, Option.some.injEq] at hp
    subst hp
    simp [Da]
theorem wm_tuple {a : Addr} {vs : List V} {l : List PV} (t : TupA G.K m H a vs) (d : Das G.K m H vs l) : WalkM G (Itt G.K a) m H l [] := by
  refine ⟨fun i m1 H1 S hi f r g => ?_, fun m1 H1 S f r g => ?_, fun i m1 H1 S x H2 p hp f r g y => ?_⟩
  · have hv : i < vs.length := by rw [d.length]; exact hi
    exact ⟨vs, vs[i], (t.futH f).sq, List.getElem?_eq_getElem hv⟩
  · exact ⟨vs, (t.futH f).sq, by rw [d.length]; exact Nat.le_refl _⟩
  · obtain ⟨rfl, y⟩ := y
    obtain ⟨v, ev, dv⟩ := d.get hp
    have := y vs (t.futH f).sq
    rw [ev] at this
    cases this
    exact ⟨Fut.refl, fun S r => r, dv.futH f⟩
theorem wm_list {a : Addr} {vs : List V} {l : List PV} (t : LstA m H a vs) (d : Das G.K m H vs l) : WalkM G (Itl G.K a) m H l [] := by
  refine ⟨fun i m1 H1 S hi f r g => ?_, fun m1 H1 S f r g => ?_, fun i m1 H1 S x H2 p hp f r g y => ?_⟩
  · have hv : i < vs.length := by rw [d.length]; exact hi
    exact ⟨vs, vs[i], (t.futH f).sq, List.getElem?_eq_getElem hv⟩
  · exact ⟨vs, (t.futH f).sq, by rw [d.length]; exact Nat.le_refl _⟩
  · obtain ⟨rfl, y⟩ := y
    obtain ⟨v, ev, dv⟩ := d.get hp
    have := y vs (t.futH f).sq
    rw [ev] at this
    cases this
    exact ⟨Fut.refl, fun S r => r, dv.futH f⟩
theorem wm_scr {a : Addr} {l : List Int} (t : ScrA G.K m H a (l.map V.int)) : WalkM G (Itl G.K a) m H (l.map PV.int) [] := by
  refine ⟨fun i m1 H1 S hi f r g => ?_, fun m1 H1 S f r g => ?_, fun i m1 H1 S x H2 p hp f r g y => ?_⟩
  · have hv : i < (l.map V.int).length := by simpa using hi
    exact ⟨_, (l.map V.int)[i], (t.futH f).sq, List.getElem?_eq_getElem hv⟩
  · exact ⟨_, (t.futH f).sq, by simp⟩
  · obtain ⟨rfl, y⟩ := y
    obtain ⟨v, ev, dv⟩ := (das_ints (G := G) (m := m) (H := H) l).get hp
    have := y _ (t.futH f).sq
    rw [ev] at this
    cases this
    exact ⟨Fut.refl, fun S r => r, dv.futH f⟩
theorem gd_at {S : Sto} {k : Nat} {l : List PV} (h : Pm.gdOk S [(k, l)] = true) : S[k]? = some (.lst l) := by
  simp only [Pm.gdOk, Bool.and_true] at h
  split at h
  · rename_i z ez
    rw [ez, Pm.sameAll_eq h]
  · cases h
theorem wm_ref {a : Addr} {k : Nat} {l : List PV} (ha : m.m[k]? = some a) : WalkM G (Itl G.K a) m H l [(k, l)] := by
  refine ⟨fun i m1 H1 S hi f r g => ?_, fun m1 H1 S f r g => ?_, fun i m1 H1 S x H2 p hp f r g y => ?_⟩
  · obtain ⟨vs, e, d⟩ := r.lst (f.place ha) (gd_at g)
    have hv : i < vs.length := by rw [d.length]; exact hi
    exact ⟨vs, vs[i], SqL.of e, List.getElem?_eq_getElem hv⟩
  · obtain ⟨vs, e, d⟩ := r.lst (f.place ha) (gd_at g)
    exact ⟨vs, SqL.of e, by rw [d.length]; exact Nat.le_refl _⟩
  · obtain ⟨vs, e, d⟩ := r.lst (f.place ha) (gd_at g)
    obtain ⟨rfl, y⟩ := y
    obtain ⟨v, ev, dv⟩ := d.get hp
    have := y vs (SqL.of e)
    rw [ev] at this
    cases this
    exact ⟨Fut.refl, fun S r => r, dv⟩
theorem rev_at {α : Type} {l : List α} {i : Nat} {p : α} (h : l.reverse[i]? = some p) : l[l.length - 1 - i]? = some p := by
  have hi : i < l.length := by simpa using (List.getElem?_eq_some_iff.mp h).1
  rw [List.getElem?_reverse hi] at h
  exact h
/-- a list from its end -/
theorem wm_rev {a : Addr} {l : List PV} {gd : List (Nat × List PV)} (h : ∀ m1 H1 S, FutH m H m1 H1 → RepS G.K m1 H1 S → Pm.gdOk S gd = true → ∃ vs, SqL G.K H1 a vs ∧ Das G.K m1 H1 vs l) : WalkM G (Itv G.K a l.length) m H l.reverse gd := by
  refine ⟨fun i m1 H1 S hi f r g => ?_, fun m1 H1 S f r g => ?_, fun i m1 H1 S x H2 p hp f r g y => ?_⟩
  · obtain ⟨vs, e, d⟩ := h m1 H1 S f r g
    have hi' : i < l.length := by simpa using hi
    have hv : l.length - 1 - i < vs.length := by rw [d.length]; omega
    exact ⟨hi', vs, vs[l.length - 1 - i], e, List.getElem?_eq_getElem hv⟩
  · show l.length ≤ l.reverse.length
    simp
  · obtain ⟨vs, e, d⟩ := h m1 H1 S f r g
    obtain ⟨rfl, y⟩ := y
    obtain ⟨v, ev, dv⟩ := d.get (rev_at hp)
    have := y vs e
    rw [ev] at this
    cases this
    exact ⟨Fut.refl, fun S r => r, dv⟩
/-! a tuple from its end -/
def Itw (K : Frag) (a : Addr) (n : Nat) : It :=
  ⟨fun i H => i < n ∧ ∃ (xs : List V) (x : V), SqT K H a xs ∧ xs[n - 1 - i]? = some x, fun i H x H' => H' = H ∧ ∀ xs, SqT K H a xs → xs[n - 1 - i]? = some x, fun i _ => n ≤ i⟩
theorem turn_rt {P : Program} {w : World} {K : Frag} {tg : Expr} (a it : Addr) (n : Nat) : Turn P w K tg (Itw K a n) [it] it (fun i h => i ≤ n ∧ RT.IsRt h it a ((n : Int) - 1 - (i : Nat))) where
  mem := List.mem_singleton_self it
  obj := fun i h st b hb => by
    rw [List.mem_singleton.mp hb]
    obtain ⟨_, o, e1, _, e3⟩ := st
    refine ⟨o, e1, fun v z => ?_⟩
    rw [e3] at z
    cases z
  keep := fun i h h' st k => ⟨st.1, st.2.at fun o e => k it (List.mem_singleton_self it) o e⟩
  item := by
    intro X hP hw hK hc i pins s σ H E I hf st hg
    subst hP hw hK
    obtain ⟨hin, xs, x, hq, hx⟩ := hg
    obtain ⟨its, rv, p, hz⟩ := I.tuple hq
    obtain ⟨u, hu, ru⟩ := rv.get hx
    obtain ⟨f0, f1, f2, f3, f4, f5⟩ := hf it (List.mem_singleton_self it)
    have hit := st.2
    have e1 : (n : Int) - 1 - ((i : Nat) : Int) = ((n - 1 - i : Nat) : Int) := by omega
    rw [e1] at hit
    refine RT.next_rt_item hit p (x := u) (by simpa using hu) (by rw [List.size_toArray, ← rv.length]; exact hz) fun h' st' sb => ?_
    have e2 : ((n - 1 - i : Nat) : Int) - 1 = (n : Int) - 1 - ((i + 1 : Nat) : Int) := by omega
    rw [e2] at st'
    have I1 : L2.Inv X pins σ H { s with heap := h', toks := s.toks + 1 } := I.turned (t' := s.toks + 1) (fun b o hb e => (sb.2 b hb).trans e) f0 f1 f3 f4 f5
    obtain ⟨o, e3, e4, e5⟩ := id st'
    refine ⟨u, rfl, go_of (s := { s with heap := h', toks := s.toks + 1 }) e3 e4 e5 (by decide) ⟨x, H, I1, ru, ⟨rfl, fun ys hy => ?_⟩, ⟨hin, st'⟩, fun b hb => (hf b hb).1⟩⟩
    rw [I.tuple_inj hy hq]
    exact hx
  done := by
    intro X hP hw hK hc i pins s σ H E I hf st hg
    subst hP hw hK
    obtain ⟨f0, f1, f2, f3, f4, f5⟩ := hf it (List.mem_singleton_self it)
    have hge : n ≤ i := hg
    have hit := st.2
    have e1 : (n : Int) - 1 - ((i : Nat) : Int) = -1 := by have := st.1; omega
    rw [e1] at hit
    exact RT.next_rt_end (I.ok.hd hc) hit fun h' eb => ⟨rfl, I.turned (t' := s.toks) (fun b o hb e => eb b o hb e) f0 f1 f3 f4 f5⟩
  self := fun A i s Q E st h => RT.iter_rt st.2 h
theorem wm_revt {a : Addr} {vs : List V} {l : List PV} (t : TupA G.K m H a vs) (d : Das G.K m H vs l) : WalkM G (Itw G.K a l.length) m H l.reverse [] := by
  refine ⟨fun i m1 H1 S hi f r g => ?_, fun m1 H1 S f r g => ?_, fun i m1 H1 S x H2 p hp f r g y => ?_⟩
  · have hi' : i < l.length := by simpa using hi
    have hv : l.length - 1 - i < vs.length := by rw [d.length]; omega
    exact ⟨hi', vs, vs[l.length - 1 - i], (t.futH f).sq, List.getElem?_eq_getElem hv⟩
  · show l.length ≤ l.reverse.length
    simp
  · obtain ⟨rfl, y⟩ := y
    obtain ⟨v, ev, dv⟩ := d.get (rev_at hp)
    have := y vs (t.futH f).sq
    rw [ev] at this
    cases this
    exact ⟨Fut.refl, fun S r => r, dv.futH f⟩
/-! ### how they are written -/
theorem q_rng1 (O : XOk G T C n X c E) {tg e : Expr} {a : Pm.E} {x : Str} {p pos : Pos} (hx : x = "range") (hg : Gl X x) (hm : X.mg x = none) (hs : nostar e = true) (h : PE X e (tE G E fun ρ S => Pm.ev C a ρ S)) :
    PI X tg (.Call (.Name x p) [e] [] pos) (tI' G E fun ρ S => Pm.evI C (.rng1 a) ρ S) := by
  subst hx
  refine PI.imp (pi_range1 hg hm (pa_cons h pa_nil (star_cons hs)) (star_cons hs)) ?_
  rintro σ H Rr ⟨m, ρ, S, re, rs, h⟩
  simp only [Pm.evI] at h
  refine ⟨m, ρ, S, re, rs, Post.bind (P := PostI G (E σ) m H Rr) h id (fun c l S h => h) fun w S1 x m1 H1 h1 f1 r1 d1 => ?_⟩
  cases w with
  | int j =>
    dsimp only at h1
    split at h1
    · rename_i hb
      simp only [Pm.bnd, Bool.and_eq_true, decide_eq_true_eq] at hb
      obtain rfl := Da.int_iff.mp d1
      refine ⟨j, rfl, hb.1, hb.2, ?_⟩
      have wm := wm_range (G := G) (m := m1) (H := H1) (lo := 0) (hi := j)
      rw [Int.sub_zero] at wm
      exact h1 m1 H1 _ f1 r1 wm
    · exact h1.elim
  | _ => exact h1.elim
theorem q_rng2 (O : XOk G T C n X c E) {tg e e' : Expr} {a b : Pm.E} {x : Str} {p pos : Pos} (hx : x = "range") (hg : Gl X x) (hm : X.mg x = none) (hs : nostar e = true) (hs' : nostar e' = true) (h : PE X e (tE G E fun ρ S => Pm.ev C a ρ S)) (h' : PE X e' (tE G E fun ρ S => Pm.ev C b ρ S)) :
    PI X tg (.Call (.Name x p) [e, e'] [] pos) (tI' G E fun ρ S => Pm.evI C (.rng2 a b) ρ S) := by
  subst hx
  refine PI.imp (pi_range2 hg hm (pa_cons h (pa_cons h' pa_nil (star_cons hs')) (star_cons hs)) (by rw [star_cons hs, star_cons hs']; rfl) (star_cons hs')) ?_
  rintro σ H Rr ⟨m, ρ, S, re, rs, h⟩
  simp only [Pm.evI] at h
  refine ⟨m, ρ, S, re, rs, Post.bind (P := PostI G (E σ) m H Rr) h id (fun c l S h => h) fun w S1 x m1 H1 h1 f1 r1 d1 => ?_⟩
  refine ⟨m1, ρ, S1, re.fut f1, r1, Post.bind (P := PostI G (E σ) m1 H1 Rr) (h1.fut f1) id (fun c l S h => h) fun w' S2 y m2 H2 h2 f2 r2 d2 => ?_⟩
  cases w with
  | int i =>
    cases w' with
    | int j =>
      dsimp only at h2
      split at h2
      · rename_i hb
        simp only [Pm.bnd, Bool.and_eq_true, decide_eq_true_eq] at hb
        obtain rfl := Da.int_iff.mp d1
        obtain rfl := Da.int_iff.mp d2
        exact ⟨i, j, rfl, ⟨hb.1.1, hb.1.2, hb.2.1, hb.2.2⟩, h2 m2 H2 _ f2 r2 (wm_range (lo := i) (hi := j))⟩
      · exact h2.elim
    | _ => exact h2.elim
  | _ => exact h2.elim
/-- a value is walked -/
def IterR (X : Cx) (tg : Expr) (r : V → Hp → (It → Hp → Prop) → Prop) : Prop :=
  ∀ (pins : List (Addr × Obj)) (s : Shared) (σ : L2.St) (H : Hp) (x : V) (v : Value) (Rr : It → Hp → Prop), L2.Inv X pins σ H s → RelV x v → r x H Rr → wpAny (model X.prog X.w) X.A (pyIter v) (PIE X pins σ tg Rr) X.xe s
theorem it_list {tg : Expr} : IterR X tg fun x H Rr => ∃ a, x = .ref a ∧ (∃ xs, SqL X.K H a xs) ∧ Rr (Itl X.K a) H := by
  intro pins s σ H x v Rr I rx h
  obtain ⟨a, rfl, ⟨xs, hq⟩, q⟩ := h
  cases rx
  obtain ⟨its, rv, p, hz⟩ := I.list hq
  refine wpAny_pyIter_list p.isList ?_
  exact pi_one (tk := s.toks) I _ (turn_list a _) ⟨_, Heap.get?_push_size _ rfl, rfl, rfl⟩ q
theorem it_tuple {tg : Expr} : IterR X tg fun x H Rr => ∃ a, x = .ref a ∧ (∃ xs, SqT X.K H a xs) ∧ Rr (Itt X.K a) H := by
  intro pins s σ H x v Rr I rx h
  obtain ⟨a, rfl, ⟨xs, hq⟩, q⟩ := h
  cases rx
  obtain ⟨its, rv, p, hz⟩ := I.tuple hq
  refine wpAny_pyIter_tuple (show s.heap.IsTuple a its.toArray from p) ?_
  exact pi_one (tk := s.toks) I _ (turn_tuple a _) ⟨_, Heap.get?_push_size _ rfl, rfl, rfl⟩ q
theorem pi_it {tg e : Expr} {te : TE} {r : V → Hp → (It → Hp → Prop) → Prop} (hr : IterR X tg r) (he : PE X e te) : PI X tg e fun σ H Rr => te σ H fun x H1 => r x H1 Rr :=
  ⟨fun pins s σ H Rr I h => thn (he.run pins s σ H _ I h) fun v s1 ⟨x, H1, I1, r1, q1⟩ => hr pins s1 σ H1 x v Rr I1 r1 q1⟩
theorem q_vals (O : XOk G T C n X c E) {tg e : Expr} {a : Pm.E} (h : PE X e (tE G E fun ρ S => Pm.ev C a ρ S)) : PI X tg e (tI' G E fun ρ S => Pm.evI C (.vals a) ρ S) := by
  have it : IterR X tg fun x H Rr => ∃ a, x = .ref a ∧ ((∃ xs, SqL G.K H a xs) ∧ Rr (Itl G.K a) H ∨ (∃ xs, SqT G.K H a xs) ∧ Rr (Itt G.K a) H) := by
    intro pins s σ H x v Rr I rx h
    obtain ⟨a, rfl, h⟩ := h
    rw [← O.K] at h
    rcases h with ⟨h1, h2⟩ | ⟨h1, h2⟩
    · exact it_list pins s σ H _ v Rr I rx ⟨a, rfl, h1, h2⟩
    · exact it_tuple pins s σ H _ v Rr I rx ⟨a, rfl, h1, h2⟩
  refine PI.imp (pi_it it h) ?_
  rintro σ H Rr ⟨m, ρ, S, re, rs, h⟩
  simp only [Pm.evI] at h
  refine ⟨m, ρ, S, re, rs, Post.bind (P := PostI G (E σ) m H Rr) h id (fun c l S h => h) fun w S1 x m1 H1 h1 f1 r1 d1 => ?_⟩
  generalize settle w = w' at h1 d1
  cases w' with
  | tup l =>
    obtain ⟨b, vs, rfl, t, d⟩ := Da.tup_iff.mp d1
    exact ⟨b, rfl, .inr ⟨⟨vs, t.sq⟩, h1 m1 H1 _ f1 r1 (wm_tuple t d)⟩⟩
  | lst l =>
    obtain ⟨b, vs, rfl, t, d⟩ := Da.lst_iff.mp d1
    exact ⟨b, rfl, .inl ⟨⟨vs, t.sq⟩, h1 m1 H1 _ f1 r1 (wm_list t d)⟩⟩
  | scr l =>
    obtain ⟨b, rfl, t⟩ := Da.scr_iff.mp d1
    exact ⟨b, rfl, .inl ⟨⟨_, t.sq⟩, h1 m1 H1 _ f1 r1 (wm_scr t)⟩⟩
  | ref k =>
    obtain ⟨b, rfl, t⟩ := Da.ref_iff.mp d1
    simp only [Pm.srcOf] at h1
    split at h1
    · rename_i s es
      split at es
      · rename_i l el
        cases es
        obtain ⟨vs, e, d⟩ := r1.lst t el
        exact ⟨b, rfl, .inl ⟨⟨vs, SqL.of e⟩, h1 m1 H1 _ f1 r1 (wm_ref t)⟩⟩
      · cases es
    · exact h1.elim
  | new l => exact (show False by simp [Da] at d1).elim
  | _ => exact h1.elim
/-! reversed(..) -/
theorem call_rev_tup {tg e : Expr} {te : TE} {p pos : Pos} (hg : Gl X "reversed") (hm : X.mg "reversed" = none) (he : PE X e te) (hs : nostar e = true) (hu : X.calm = true) :
    PI X tg (.Call (.Name "reversed" p) [e] [] pos) fun σ H Rr => te σ H fun x H1 => ∃ a, x = .ref a ∧ ((∃ xs, SqL X.K H1 a xs ∧ Rr (Itv X.K a xs.length) H1) ∨ ∃ xs, SqT X.K H1 a xs ∧ Rr (Itw X.K a xs.length) H1) := by
  refine ⟨fun pins s σ H Rr I h => ?_⟩
  have ha : PA X [e] (tCons te tNil) := pa_cons he pa_nil (star_cons hs)
  refine PyProof.Rows.Call_ (ld_blt I hg hm PyProof.Rows.boot_reversed (PyProof.Rows.callWith_type1 (thn (ha.run pos pins s σ H (fun vs H1 => ∃ a, vs = [V.ref a] ∧ ((∃ xs, SqL X.K H1 a xs ∧ Rr (Itv X.K a xs.length) H1) ∨ ∃ xs, SqT X.K H1 a xs ∧ Rr (Itw X.K a xs.length) H1)) I ?_) fun us s1 hh => ?_) (star_cons hs) rfl))
  · show te σ H fun x H1 => ∃ a, [x] = [V.ref a] ∧ _
    have e1 : (fun x H1 => ∃ a, x = V.ref a ∧ ((∃ xs, SqL X.K H1 a xs ∧ Rr (Itv X.K a xs.length) H1) ∨ ∃ xs, SqT X.K H1 a xs ∧ Rr (Itw X.K a xs.length) H1)) = fun x H1 => ∃ a, [x] = [V.ref a] ∧ ((∃ xs, SqL X.K H1 a xs ∧ Rr (Itv X.K a xs.length) H1) ∨ ∃ xs, SqT X.K H1 a xs ∧ Rr (Itw X.K a xs.length) H1) := by
      funext x H1
      simp
    rw [← e1]
    exact h
  · obtain ⟨vs, H1, I1, r1, a, rfl, q⟩ := hh
    have r1' := Vals.ref1 r1
    subst r1'
    rcases q with ⟨xs, hq, q⟩ | ⟨xs, hq, q⟩
    · obtain ⟨its, rv, p', hz⟩ := I1.list hq
      have hl := rv.length
      have e1 : ((its.toArray.size : Nat) : Int) - 1 = (xs.length : Int) - 1 - ((0 : Nat) : Int) := by simp only [List.size_toArray]; omega
      refine call_reversed_list p'.isList (wpAny_pyIter_revIter (l := a) (i := ((its.toArray.size : Nat) : Int) - 1) ⟨_, Heap.get?_push_size _ rfl, rfl, rfl⟩ ?_)
      refine pi_one (tk := s1.toks) I1 _ (turn_rev a _ xs.length) ⟨Nat.zero_le _, ?_⟩ q
      rw [← e1]
      exact ⟨_, Heap.get?_push_size _ rfl, rfl, rfl⟩
    · obtain ⟨its, rv, p', hz⟩ := I1.tuple hq
      have hl := rv.length
      have e1 : ((its.toArray.size : Nat) : Int) - 1 = (xs.length : Int) - 1 - ((0 : Nat) : Int) := by simp only [List.size_toArray]; omega
      have hz' : sizeLine = 16777216 := sizeLine_eq
      refine RT.call_reversed_tup p' (fun A E Q q => PyProof.Rows.len_tuple p' (by simp only [List.size_toArray]; omega) q) (RT.iter_rt (t := a) (i := ((its.toArray.size : Nat) : Int) - 1) ⟨_, Heap.get?_push_size _ rfl, rfl, rfl⟩ ?_)
      refine pi_one (tk := s1.toks + 1 + 1) I1 _ (turn_rt a _ xs.length) ⟨Nat.zero_le _, ?_⟩ q
      rw [← e1]
      exact ⟨_, Heap.get?_push_size _ rfl, rfl, rfl⟩
theorem q_rev (O : XOk G T C n X c E) {tg e : Expr} {a : Pm.E} {x : Str} {p pos : Pos} (hx : x = "reversed") (hg : Gl X x) (hm : X.mg x = none) (hs : nostar e = true) (h : PE X e (tE G E fun ρ S => Pm.ev C a ρ S)) :
    PI X tg (.Call (.Name x p) [e] [] pos) (tI' G E fun ρ S => Pm.evI C (.rev a) ρ S) := by
  subst hx
  refine PI.imp (call_rev_tup hg hm h hs O.calm) ?_
  rintro σ H Rr ⟨m, ρ, S, re, rs, h⟩
  simp only [Pm.evI] at h
  rw [O.K]
  refine ⟨m, ρ, S, re, rs, Post.bind (P := PostI G (E σ) m H Rr) h id (fun c l S h => h) fun w S1 x m1 H1 h1 f1 r1 d1 => ?_⟩
  generalize settle w = w' at h1 d1
  cases w' with
  | tup l =>
    obtain ⟨b, vs, rfl, t, d⟩ := Da.tup_iff.mp d1
    refine ⟨b, rfl, .inr ⟨vs, t.sq, ?_⟩⟩
    rw [d.length]
    exact h1 m1 H1 _ f1 r1 (wm_revt t d)
  | lst l =>
    obtain ⟨b, vs, rfl, t, d⟩ := Da.lst_iff.mp d1
    refine ⟨b, rfl, .inl ⟨vs, t.sq, ?_⟩⟩
    rw [d.length]
    exact h1 m1 H1 _ f1 r1 (wm_rev fun m2 H2 S f r g => ⟨vs, (t.futH f).sq, d.futH f⟩)
  | scr l =>
    obtain ⟨b, rfl, t⟩ := Da.scr_iff.mp d1
    refine ⟨b, rfl, .inl ⟨_, t.sq, ?_⟩⟩
    have el : (l.map V.int).length = (l.map PV.int).length := by simp
    rw [el]
    exact h1 m1 H1 _ f1 r1 (wm_rev fun m2 H2 S f r g => ⟨_, (t.futH f).sq, das_ints l⟩)
  | ref k =>
    obtain ⟨b, rfl, t⟩ := Da.ref_iff.mp d1
    simp only [Pm.srcOf] at h1
    split at h1
    · rename_i s es
      split at es
      · rename_i l el
        cases es
        obtain ⟨vs, e, d⟩ := r1.lst t el
        refine ⟨b, rfl, .inl ⟨vs, SqL.of e, ?_⟩⟩
        rw [d.length]
        refine h1 m1 H1 _ f1 r1 (wm_rev fun m2 H2 S f r g => ?_)
        obtain ⟨ws, e2, d2⟩ := r.lst (f.place t) (gd_at g)
        exact ⟨ws, SqL.of e2, d2⟩
      · cases es
    · exact h1.elim
  | new l => exact (show False by simp [Da] at d1).elim
  | _ => exact h1.elim
end
end Ps

namespace Ps
open PySem L2
open Pm (PV Ob Sto R Sl settle)
section
variable {G : Gam} {T : Tab} {C : Nat → List PV → Sto → R PV} {n : Nat} {X : Cx} {c : Ct} {E : L2.St → XK} {m m' m1 : Mp} {H H' H1 : Hp} {Q : VK} {S : Sto}
theorem post_ok {E : XK} {v : PV} (h : Okv G m H Q S v) : Post G E m H Q (.ok v S) := h
/-! ### targets -/
def gNames : List Nat → TGs
  | [] => gNil
  | i :: l => gCons (gName i) (gNames l)
def gT (K : Frag) : Pm.T → TG
  | .nm i => gName i
  | .tu l => gTup K l.length (gNames l)
  | .nmw i _ => gName i
  | .tuw l _ => gTup K l.length (gNames l)
theorem each_len : ∀ {l : List Nat} {es : List Expr} {env : PySem.Env}, tgtB.tgts c l es = true → (assignEach es env).length = l.length ∧ (assignEach es env).findIdx? (·.1) = none
  | [], [], _, _ => ⟨rfl, rfl⟩
  | [], _ :: _, _, h => by simp [tgtB.tgts] at h
  | _ :: _, [], _, h => by simp [tgtB.tgts] at h
  | i :: l, e :: es, env, h => by
    cases e with
    | Name x p =>
      simp only [tgtB.tgts, Bool.and_eq_true] at h
      obtain ⟨h1, h2⟩ := each_len (env := env) h.2
      show ((false, assign (.Name x p) env) :: assignEach es env).length = l.length + 1 ∧ ((false, assign (.Name x p) env) :: assignEach es env).findIdx? (·.1) = none
      refine ⟨by rw [List.length_cons, h1], ?_⟩
      rw [List.findIdx?_cons, h2]
      rfl
    | _ => simp [tgtB.tgts] at h
theorem pgs_of (O : XOk G T C n X c E) : ∀ {l : List Nat} {es : List Expr}, tgtB.tgts c l es = true → PGs X es (gNames l)
  | [], [], _ => pgs_nil
  | [], _ :: _, h => by simp [tgtB.tgts] at h
  | _ :: _, [], h => by simp [tgtB.tgts] at h
  | i :: l, e :: es, h => by
    cases e with
    | Name x p =>
      simp only [tgtB.tgts, Bool.and_eq_true] at h
      obtain ⟨h1, h2, h3⟩ := loc_of O h.1
      exact pgs_cons (pg_name O.nd h1 h2 h3) (pgs_of O h.2)
    | _ => simp [tgtB.tgts] at h
theorem pg_of (O : XOk G T C n X c E) {t : Pm.T} {tg : Expr} (h : tgtB c t tg = true) : PG X tg (gT G.K t) := by
  cases t with
  | nm i =>
    cases tg with
    | Name x p =>
      obtain ⟨h1, h2, h3⟩ := loc_of O (show locB c i x = true from h)
      exact pg_name O.nd h1 h2 h3
    | _ => simp [tgtB] at h
  | tu l =>
    cases tg with
    | Tuple es k p =>
      have h' : tgtB.tgts c l es = true := h
      obtain ⟨h1, h2⟩ := each_len (env := X.env) h'
      rw [← O.K]
      exact pg_tup O.calm (pgs_of O h') h1 h2
    | _ => simp [tgtB] at h
  | nmw i w =>
    cases tg with
    | Name x p =>
      obtain ⟨h1, h2, h3⟩ := loc_of O (show locB c i x = true from h)
      exact pg_name O.nd h1 h2 h3
    | _ => simp [tgtB] at h
  | tuw l w =>
    cases tg with
    | Tuple es k p =>
      have h' : tgtB.tgts c l es = true := h
      obtain ⟨h1, h2⟩ := each_len (env := X.env) h'
      rw [← O.K]
      exact pg_tup O.calm (pgs_of O h') h1 h2
    | _ => simp [tgtB] at h
def setV : L2.St → List Nat → List V → L2.St
  | σ, i :: l, v :: vs => setV (σ.set i (some v)) l vs
  | σ, _, _ => σ
theorem gNames_of : ∀ {l : List Nat} {xs : List V} {σ : L2.St} {H : Hp} {Q : L2.St → Hp → Prop}, xs.length = l.length → Q (setV σ l xs) H → gNames l xs σ H Q
  | [], [], _, _, _, _, q => ⟨rfl, q⟩
  | [], _ :: _, _, _, _, h, _ => by simp at h
  | _ :: _, [], _, _, _, h, _ => by simp at h
  | i :: l, v :: vs, σ, H, Q, h, q => ⟨v, vs, rfl, gNames_of (by simpa using h) q⟩
theorem RepE.all : ∀ {l : List Nat} {xs : List V} {ps : List PV} {σ : L2.St} {ρ : Sl}, RepE G.K m H σ ρ → Das G.K m H xs ps → RepE G.K m H (setV σ l xs) (Pm.setAll ρ l ps)
  | [], _, _, _, _, r, _ => by simpa [setV, Pm.setAll] using r
  | i :: l, xs, [], _, _, r, d => by
    rw [Das.nil_iff.mp d]
    simpa [setV, Pm.setAll] using r
  | i :: l, xs, p :: ps, σ, ρ, r, d => by
    obtain ⟨v, vs, rfl, h1, h2⟩ := Das.cons_iff.mp d
    show RepE G.K m H (setV (σ.set i (some v)) l vs) (Pm.setAll (ρ.set i (some p)) l ps)
    exact RepE.all (r.set h1 i) h2
/-- a target is given a value -/
theorem rd_tgt {t : Pm.T} {p : PV} {x : V} {σ : L2.St} {ρ ρ' : Sl} {Q : L2.St → Hp → Prop} (re : RepE G.K m H σ ρ) (d : Da G.K m H x p) (h : Pm.store t p ρ = some ρ')
    (q : ∀ σ', RepE G.K m H σ' ρ' → (∀ vs, (∀ i ∈ t.own, i ∈ vs) → wipe σ' vs = wipe σ vs) → Q σ' H) : gT G.K t x σ H Q := by
  have wset : ∀ (vs : List Nat) (σ : L2.St) (i : Nat) (o : Option V), (wipe (σ.set i o) vs = wipe σ vs ∧ i ∈ vs) ∨ (wipe (σ.set i o) vs = (wipe σ vs).set i o ∧ i ∉ vs) := by
    intro vs
    induction vs with
    | nil => intro σ i o; exact .inr ⟨rfl, by simp⟩
    | cons v vs ih =>
      intro σ i o
      show (((wipe (σ.set i o) vs).set v none = (wipe σ vs).set v none) ∧ _) ∨ (((wipe (σ.set i o) vs).set v none = ((wipe σ vs).set v none).set i o) ∧ _)
      rcases ih σ i o with ⟨e, hi⟩ | ⟨e, hi⟩
      · exact .inl ⟨by rw [e], List.mem_cons_of_mem _ hi⟩
      · by_cases hv : i = v
        · subst hv
          exact .inl ⟨by rw [e, List.set_set], List.mem_cons_self⟩
        · refine .inr ⟨by rw [e, List.set_comm _ _ hv], ?_⟩
          simp only [List.mem_cons, not_or]
          exact ⟨hv, hi⟩
  have wall : ∀ (l : List Nat) (xs : List V) (σ : L2.St) (vs : List Nat), (∀ i ∈ l, i ∈ vs) → wipe (setV σ l xs) vs = wipe σ vs := by
    intro l
    induction l with
    | nil => intro xs σ vs _; cases xs <;> rfl
    | cons i l ih =>
      intro xs σ vs hl
      cases xs with
      | nil => rfl
      | cons x xs =>
        show wipe (setV (σ.set i (some x)) l xs) vs = _
        rw [ih xs _ vs fun j hj => hl j (List.mem_cons_of_mem _ hj)]
        rcases wset vs σ i (some x) with ⟨e, _⟩ | ⟨_, hi⟩
        · exact e
        · exact absurd (hl i List.mem_cons_self) hi
  cases t with
  | nm i =>
    simp only [Pm.store, Option.some.injEq] at h
    subst h
    exact q _ (re.set d i) fun vs hv => wall [i] [x] σ vs hv
  | tu l =>
    simp only [Pm.store] at h
    split at h
    · rename_i ps
      split at h
      · rename_i hl
        cases h
        obtain ⟨a, xs, rfl, ta, ds⟩ := Da.tup_iff.mp d
        have hx : xs.length = l.length := by rw [ds.length]; exact hl
        exact ⟨a, xs, rfl, ta.sq, hx, gNames_of hx (q _ (re.all ds) fun vs hv => wall l xs σ vs hv)⟩
      · cases h
    · cases h
  | nmw i w =>
    simp only [Pm.store, Option.some.injEq] at h
    subst h
    exact q _ (re.set d i) fun vs hv => wall [i] [x] σ vs fun j hj => hv j (List.mem_cons.mpr (.inl (List.mem_singleton.mp hj)))
  | tuw l w =>
    simp only [Pm.store] at h
    split at h
    · rename_i ps
      split at h
      · rename_i hl
        cases h
        obtain ⟨a, xs, rfl, ta, ds⟩ := Da.tup_iff.mp d
        have hx : xs.length = l.length := by rw [ds.length]; exact hl
        exact ⟨a, xs, rfl, ta.sq, hx, gNames_of hx (q _ (re.all ds) fun vs hv => wall l xs σ vs fun j hj => hv j (List.mem_append_left _ hj))⟩
      · cases h
    · cases h
/-! ### within a comprehension -/
theorem XOk.blk (O : XOk G T C n X c E) {scope : Scope} {s : Shared} {H : Hp} {Ca : Addr} {cl : List (Str × Addr)} {fp : List Addr} :
    XOk G T C n (X.blk s H scope (compEnvC scope cl Ca X.env) fp) ⟨c.N, relS scope c.sc, some scope⟩ (fun _ => E0) where
  K := O.K
  calm := O.calm
  nd := O.nd
  N := O.N
  sc := by
    show relS scope X.env.scope = relS scope c.sc
    rw [O.sc]
  hr := O.hr
  fn := fun x h1 h2 => by
    simp only [orgB] at h1
    split at h1
    · rename_i e
      right
      show (relS scope X.env.scope).names.lookup x = some .local
      exact lookup_relS_keep (by decide) e
    · rename_i e
      left
      show (scope.names.lookup x == some .cell) = true
      rw [e]
      rfl
    · cases h1
  bns := O.bns
  cts := O.cts
  fns := fun p hp => by
    obtain ⟨f, fd, ps, dv, ds, CX, F, h1, h2, h3, h4, h5, h6, h7⟩ := O.fns p hp
    exact ⟨f, fd, ps, dv, ds, CX, F, h1, h2, h3, h4, h5, fun σ pins H s e s' _ z => h7 _ _ _ _ _ z, h7⟩
  own := PassesOwn.never
theorem wipe_rep {σ : L2.St} {ρ : Sl} (r : RepE G.K m H σ ρ) : ∀ l : List Nat, RepE G.K m H (wipe σ l) (Pm.wipeS ρ l)
  | [] => r
  | v :: l => by
    have ih := wipe_rep r l
    show RepE G.K m H ((wipe σ l).set v none) ((Pm.wipeS ρ l).set v none)
    refine ⟨by simp [ih.len], fun i p e => ?_⟩
    by_cases hi : v = i
    · subst hi
      have hl : v < (Pm.wipeS ρ l).length := by
        have := (List.getElem?_eq_some_iff.mp e).1
        simpa using this
      rw [List.getElem?_set_self hl] at e
      cases e
    · rw [List.getElem?_set_ne hi] at e ⊢
      exact ih.at_ i p e
theorem wipe_idem (σ : L2.St) : ∀ vs : List Nat, wipe (wipe σ vs) vs = wipe σ vs := by
  have all : ∀ (vs : List Nat) (τ : L2.St), (∀ i ∈ vs, i < τ.length → τ[i]? = some none) → wipe τ vs = τ := by
    intro vs
    induction vs with
    | nil => intro τ _; rfl
    | cons v vs ih =>
      intro τ h
      show (wipe τ vs).set v none = τ
      rw [ih τ fun i hi => h i (List.mem_cons_of_mem _ hi)]
      by_cases hv : v < τ.length
      · have := h v List.mem_cons_self hv
        apply List.ext_getElem?
        intro j
        by_cases hj : v = j
        · subst hj; rw [List.getElem?_set_self hv, this]
        · rw [List.getElem?_set_ne hj]
      · exact List.set_eq_of_length_le (by omega)
  have none_at : ∀ (vs : List Nat) (i : Nat), i ∈ vs → i < (wipe σ vs).length → (wipe σ vs)[i]? = some none := by
    intro vs
    induction vs with
    | nil => intro i hi; cases hi
    | cons v vs ih =>
      intro i hi hl
      show ((wipe σ vs).set v none)[i]? = some none
      have hl' : i < (wipe σ vs).length := by
        have : i < ((wipe σ vs).set v none).length := hl
        simpa using this
      by_cases hv : v = i
      · subst hv; rw [List.getElem?_set_self hl']
      · rw [List.getElem?_set_ne hv]
        rcases List.mem_cons.mp hi with rfl | hi
        · exact absurd rfl hv
        · exact ih i hi hl'
  intro vs
  exact all vs _ (none_at vs)
/-- what a comprehension's reading asks -/
theorem rd_comp {ki : Sl → Sto → R Pm.Src} {ke : Sl → Sto → R PV} {kc : Sl → Sto → R Bool} {t : Pm.T} {σ : L2.St} {Q : VK}
    (h : tE G E (fun ρ S => (ki ρ S).bind fun s S1 => Pm.compGo ke kc t (Pm.wipeS ρ t.own) s.gd s.xs [] S1) σ H Q) :
    tLc (tI' G E ki) (gT G.K t) (tB' G (fun _ => E0) kc) (tE G (fun _ => E0) ke) t.own σ H Q := by
  obtain ⟨m, ρ, S, re, rs, h⟩ := h
  refine ⟨m, ρ, S, re, rs, PostI.bind (P := Post G (E σ) m H Q) h id (fun c l S h => h) fun s S1 m1 H1 J h1 f1 r1 wm => ?_⟩
  intro D hD
  have re1 := re.fut f1
  have h1 := h1.fut f1
  -- the words: at turn i the list at D holds acc, hidden
  refine ⟨fun i k Hx => k = s.xs.length - i ∧ i ≤ s.xs.length ∧ ∃ (m2 : Mp) (S2 : Sto) (acc : List PV) (ws : List V), Hx D = some (.lst ws) ∧ D ∉ m2.m ∧ D ∉ m2.z ∧ Fut m1 H1 m2 (erase Hx D) ∧ RepS G.K m2 (erase Hx D) S2 ∧ Das G.K m2 (erase Hx D) ws acc ∧
    Post G (E σ) m2 (erase Hx D) Q (Pm.compGo ke kc t (Pm.wipeS ρ t.own) s.gd (s.xs.drop i) acc S2), ⟨s.xs.length, by simp, Nat.zero_le _, m1, S1, [], [], upd_same, r1.fresh hD, r1.fresh2 hD, ?_, ?_, by simp [Das], ?_⟩, ?_⟩
  · rw [erase_upd hD]; exact Fut.refl
  · rw [erase_upd hD]; exact r1
  · rw [erase_upd hD]; exact h1
  rintro i k Hx ⟨rfl, hi, m2, S2, acc, ws, eD, nm, nz, f2, r2, d2, h2⟩
  have n2 : erase Hx D D = none := erase_same
  have back : upd (erase Hx D) D (.lst ws) = Hx := upd_self' eD
  by_cases hlt : i < s.xs.length
  · -- a turn
    right
    have ed : s.xs.drop i = s.xs[i] :: s.xs.drop (i + 1) := List.drop_eq_getElem_cons hlt
    rw [ed] at h2
    simp only [Pm.compGo] at h2
    split at h2
    · rename_i hg
      split at h2
      · exact h2.elim
      · rename_i ρ' eρ
        have r3 : RepS G.K (m2.hide D) Hx S2 := by have z := r2.hide (ws := ws) n2; rwa [back] at z
        have e3 : RepE G.K (m2.hide D) Hx σ ρ := by have z := (re1.fut f2).hide (o := .lst ws) n2; rwa [back] at z
        -- the walk, where D is hidden
        have f3 : FutH m1 H1 (m2.hide D) Hx := ⟨f2.pre, ⟨[D], by simp [Mp.hide, f2.z], by simp [hD]⟩, fun b o e nb => by
          have := f2.keep b o e nb
          rwa [erase_ne (ne_of_none e hD)] at this, fun b o e nb => f2.out b o e nb⟩
        refine ⟨wm.goes i _ _ _ hlt f3 r3 hg, fun H' => (s.xs.length - (i + 1) < s.xs.length - i) ∧ i + 1 ≤ s.xs.length ∧ ∃ (m2 : Mp) (S2 : Sto) (acc : List PV) (ws : List V), H' D = some (.lst ws) ∧ D ∉ m2.m ∧ D ∉ m2.z ∧ Fut m1 H1 m2 (erase H' D) ∧ RepS G.K m2 (erase H' D) S2 ∧ Das G.K m2 (erase H' D) ws acc ∧
          Post G (E σ) m2 (erase H' D) Q (Pm.compGo ke kc t (Pm.wipeS ρ t.own) s.gd (s.xs.drop (i + 1)) acc S2), fun H' ⟨h1, h2, h3⟩ => ⟨_, h1, rfl, h2, h3⟩, fun x H' y => ?_⟩
        obtain ⟨g1, g2, dx⟩ := wm.yields i _ _ _ x H' _ (List.getElem?_eq_getElem hlt) f3 r3 hg y
        refine rd_tgt (wipe_rep (e3.fut g1) t.own) dx eρ fun σ' e4 hw => ⟨(hw t.own fun i hi => hi).trans (wipe_idem _ _), ?_⟩
        -- from a heap where D is hidden back to the words
        have again : ∀ {m5 : Mp} {H5 : Hp} {S5 : Sto} {acc5 : List PV} {ws5 : List V}, Fut (m2.hide D) Hx m5 H5 → RepS G.K m5 H5 S5 → Das G.K m5 H5 ws5 acc5 → ∃ m6 : Mp, m5 = m6.hide D ∧ H5 D = some (.lst ws) ∧ D ∉ m6.m ∧ D ∉ m6.z ∧ Fut m1 H1 m6 (erase H5 D) ∧ RepS G.K m6 (erase H5 D) S5 ∧ Das G.K m6 (erase H5 D) ws5 acc5 ∧ Fut m2 (erase Hx D) m6 (erase H5 D) := by
          intro m5 H5 S5 acc5 ws5 f5 r5 d5
          have f5' : Fut (m2.hide D) (upd (erase Hx D) D (.lst ws)) m5 H5 := by rw [back]; exact f5
          obtain ⟨m6, rfl, f6, e6, n6⟩ := f5'.erase n2 nm
          have z6 : D ∉ m6.z := by rw [f6.z]; exact nz
          exact ⟨m6, rfl, e6, n6, z6, f2.trans f6, r5.erase e6 z6, d5.erase e6 n6, f6⟩
        have hS2 : RepS G.K (m2.hide D) H' S2 := g2 _ r3
        refine ⟨m2.hide D, ρ', S2, e4, hS2, ?_⟩
        have hws : Das G.K (m2.hide D) Hx ws acc := by have z := d2.hide (o := .lst ws) n2; rwa [back] at z
        -- the test
        cases ec : kc ρ' S2 with
        | bad => rw [ec] at h2; exact h2.elim
        | err cc l S3 => rw [ec] at h2; exact h2.elim
        | ok b S3 =>
          rw [ec] at h2
          intro m4 H4 f4 r4
          have g4 := g1.trans f4
          have h2 : Post G (E σ) m2 (erase Hx D) Q (if b = true then (ke ρ' S3).calm.bind fun v S2 => if acc.length < Pm.sizeLine then Pm.compGo ke kc t (Pm.wipeS ρ t.own) s.gd (s.xs.drop (i + 1)) (acc ++ [settle v]) S2 else .bad
            else Pm.compGo ke kc t (Pm.wipeS ρ t.own) s.gd (s.xs.drop (i + 1)) acc S3) := h2
          cases b with
          | false =>
            rw [if_neg Bool.false_ne_true] at h2 ⊢
            obtain ⟨m6, rfl, e6, n6, z6, b6, r6, d6, f6⟩ := again g4 r4 (hws.fut g4)
            exact ⟨by omega, hlt, m6, S3, acc, ws, e6, n6, z6, b6, r6, d6, h2.fut f6⟩
          | true =>
            rw [if_pos rfl] at h2 ⊢
            refine ⟨m4, ρ', S3, e4.fut f4, r4, ?_⟩
            cases ek : ke ρ' S3 with
            | bad => rw [ek] at h2; exact h2.elim
            | err cc l S4 => rw [ek] at h2; exact h2.elim
            | ok v S4 =>
              rw [ek] at h2
              have h2 : Post G (E σ) m2 (erase Hx D) Q (if acc.length < Pm.sizeLine then Pm.compGo ke kc t (Pm.wipeS ρ t.own) s.gd (s.xs.drop (i + 1)) (acc ++ [settle v]) S4 else .bad) := h2
              split at h2
              · rename_i hz
                refine post_ok (Okv.of fun y m5 H5 f5 r5 d5 => ?_)
                have g5 := g4.trans f5
                have dall : Das G.K m5 H5 (ws ++ [y]) (acc ++ [settle v]) := (hws.fut g5).append (Das.cons_iff.mpr ⟨y, [], rfl, d5, Das.nil_iff.mpr rfl⟩)
                obtain ⟨m6, rfl, e6, n6, z6, b6, r6, d6, f6⟩ := again g5 r5 dall
                refine ⟨ws, e6, by rw [d2.length, sizeLine_eq]; exact hz, by omega, hlt, m6, S4, acc ++ [settle v], ws ++ [y], upd_same, n6, z6, ?_, ?_, ?_, ?_⟩
                · rw [erase_upd']; exact b6
                · rw [erase_upd']; exact r6
                · rw [erase_upd']; exact d6
                · rw [erase_upd']; exact h2.fut f6
              · exact h2.elim
    · exact h2.elim
  · -- the end
    left
    have ei : i = s.xs.length := by omega
    subst ei
    rw [List.drop_eq_nil_of_le (Nat.le_refl _)] at h2
    simp only [Pm.compGo] at h2
    split at h2
    · rename_i hg
      have r3 : RepS G.K (m2.hide D) Hx S2 := by have z := r2.hide (ws := ws) n2; rwa [back] at z
      have f3 : FutH m1 H1 (m2.hide D) Hx := ⟨f2.pre, ⟨[D], by simp [Mp.hide, f2.z], by simp [hD]⟩, fun b o e nb => by
        have := f2.keep b o e nb
        rwa [erase_ne (ne_of_none e hD)] at this, fun b o e nb => f2.out b o e nb⟩
      refine ⟨wm.stops _ _ _ f3 r3 hg, ?_⟩
      have z := out_new (a := D) (G := G) (Q := Q) (m := m2) (H := erase Hx D) (S := S2) (l := acc) (vs := ws) h2 r2 d2 n2
      rwa [back] at z
    · exact h2.elim
end
end Ps

namespace Ps
open PySem L2
open Pm (PV Ob Sto R Sl settle)
section
variable {G : Gam} {T : Tab} {C : Nat → List PV → Sto → R PV} {n : Nat}
mutual
theorem same2_eq : ∀ {a b : PV}, same2 a b = true → a = b
  | .non, b, h => by cases b <;> simp_all [same2]
  | .bl a, b, h => by cases b <;> simp_all [same2]
  | .int a, b, h => by cases b <;> simp_all [same2]
  | .str a, b, h => by cases b <;> simp_all [same2]
  | .tup a, b, h => by cases b <;> simp_all [same2]; exact same2s_eq h
  | .lst a, b, h => by cases b <;> simp_all [same2]
  | .ref a, b, h => by cases b <;> simp_all [same2]
  | .new a, b, h => by cases b <;> simp_all [same2]
  | .scr a, b, h => by cases b <;> simp_all [same2]
theorem same2s_eq : ∀ {a b : List PV}, same2s a b = true → a = b
  | [], [], _ => rfl
  | [], _ :: _, h => by simp [same2s] at h
  | _ :: _, [], h => by simp [same2s] at h
  | x :: xs, y :: ys, h => by
    simp only [same2s, Bool.and_eq_true] at h
    rw [same2_eq h.1, same2s_eq h.2]
end
theorem es_nostar : ∀ {l : List Pm.E} {es : List Expr} {c : Ct}, chkEs T c l es = true → es.all nostar = true ∧ l.length = es.length
  | [], [], _, _ => ⟨rfl, rfl⟩
  | [], _ :: _, _, h => by simp [chkEs] at h
  | _ :: _, [], _, h => by simp [chkEs] at h
  | a :: l, e :: es, c, h => by
    simp only [chkEs, Bool.and_eq_true] at h
    obtain ⟨h1, h2⟩ := es_nostar h.2
    exact ⟨by simp [h.1.2, h1], by simp [h2]⟩
theorem es_nil {l : List Pm.E} {es : List Expr} {c : Ct} (h : chkEs T c l es = true) : es = [] → l = [] := fun e => by
  have := (es_nostar h).2
  rw [e] at this
  exact List.length_eq_zero_iff.mp this
theorem own_tgt {c : Ct} {t : Pm.T} {tg : Expr} (h : tgtB c t tg = true) : True := trivial
/-- a comprehension, as it is read -/
structure CompOk (G : Gam) (T : Tab) (C : Nat → List PV → Sto → R PV) (n : Nat) (X : Cx) (c : Ct) (E : L2.St → XK) (el : Pm.E) (t : Pm.T) (it : Pm.I) (cs : Option Pm.B) (e tg ie : Expr) (ifs : List Expr) (scope : Scope) : Prop where
  pi : PI X tg ie (tI' G E fun ρ S => Pm.evI C it ρ S)
  ok : BlkOk X.N X.env.scope scope (ownOf c.N t tg)
  ow : (ownOf c.N t tg).map (·.2) = t.own
  pg : ∀ (s : Shared) (H : Hp) (Ca : Addr) (cl : List (Str × Addr)) (fp : List Addr), PG (X.blk s H scope (compEnvC scope cl Ca X.env) fp) tg (gT G.K t)
  pt : ∀ (s : Shared) (H : Hp) (Ca : Addr) (cl : List (Str × Addr)) (fp : List Addr), PTs (X.blk s H scope (compEnvC scope cl Ca X.env) fp) ifs (tB' G (fun _ => E0) fun ρ S => Pm.evTO C cs ρ S)
  pe : ∀ (s : Shared) (H : Hp) (Ca : Addr) (cl : List (Str × Addr)) (fp : List Addr), PE (X.blk s H scope (compEnvC scope cl Ca X.env) fp) e (tE G (fun _ => E0) fun ρ S => Pm.ev C el ρ S)
  set : ∀ x, foldedSetIterable ie X.env x = pure x
theorem CompOk.rd {X : Cx} {c : Ct} {E : L2.St → XK} {el : Pm.E} {t : Pm.T} {it : Pm.I} {cs : Option Pm.B} {e tg ie : Expr} {ifs : List Expr} {scope : Scope} (P : CompOk G T C n X c E el t it cs e tg ie ifs scope) {σ : L2.St} {H : Hp} {Q : VK}
    (h : tE G E (fun ρ S => Pm.ev C (.comp el t it cs) ρ S) σ H Q) : tLc (tI' G E fun ρ S => Pm.evI C it ρ S) (gT G.K t) (tB' G (fun _ => E0) fun ρ S => Pm.evTO C cs ρ S) (tE G (fun _ => E0) fun ρ S => Pm.ev C el ρ S) ((ownOf c.N t tg).map (·.2)) σ H Q := by
  rw [P.ow]
  exact rd_comp (by simpa only [Pm.ev] using h)
theorem q_comp {X : Cx} {c : Ct} {E : L2.St → XK} (O : XOk G T C n X c E) {el : Pm.E} {t : Pm.T} {it : Pm.I} {cs : Option Pm.B} {e tg ie : Expr} {ifs : List Expr} {scope : Scope} {pos : Pos} (P : CompOk G T C n X c E el t it cs e tg ie ifs scope) :
    PE X (.ListComp e [⟨tg, ie, ifs, 0⟩] scope pos) (tE G E fun ρ S => Pm.ev C (.comp el t it cs) ρ S) :=
  PE.imp (pe_lc O.calm O.nd P.pi P.ok P.pg P.pt P.pe P.set) fun σ H Q h => P.rd h
mutual
theorem sndE : ∀ (e : Pm.E) {X : Cx} {c : Ct} {E : L2.St → XK} (O : XOk G T C n X c E) {se : Expr}, chkE T c e se = true → PE X se (tE G E fun ρ S => Pm.ev C e ρ S)
  | .var i, X, c, E, O, se, h => by
    cases se <;> first | (simp only [chkE, Bool.false_eq_true] at h; done) | skip
    exact q_var O h
  | .cst p, X, c, E, O, se, h => by
    cases se <;> first | (cases p <;> simp only [chkE, Bool.false_eq_true] at h; done) | skip
    rename_i v k pos
    have e1 : (fun ρ S => Pm.ev C (.cst p) ρ S) = fun _ S => .ok p S := by funext ρ S; simp only [Pm.ev]
    rw [e1]
    cases p with
    | non => cases v <;> first | (simp only [chkE, Bool.false_eq_true] at h; done) | exact q_con pe_non fun m H => by simp [Da]
    | bl b =>
      cases v <;> first | (simp only [chkE, Bool.false_eq_true] at h; done) | skip
      simp only [chkE, beq_iff_eq] at h
      subst h
      exact q_con pe_bl fun m H => by simp [Da]
    | int b =>
      cases v <;> first | (simp only [chkE, Bool.false_eq_true] at h; done) | skip
      simp only [chkE, beq_iff_eq] at h
      subst h
      exact q_con pe_int fun m H => by simp [Da]
    | str b =>
      cases v <;> first | (simp only [chkE, Bool.false_eq_true] at h; done) | skip
      simp only [chkE, decide_eq_true_eq] at h
      subst h
      exact q_con pe_str fun m H => by simp [Da]
    | _ => simp only [chkE, Bool.false_eq_true] at h
  | .glo s p, X, c, E, O, se, h => by
    cases se <;> first | (simp only [chkE, Bool.false_eq_true] at h; done) | skip
    rename_i x pos
    simp only [chkE, Bool.and_eq_true, decide_eq_true_eq, List.any_eq_true] at h
    obtain ⟨⟨rfl, hg⟩, q, hq, e1, e2⟩ := h
    obtain ⟨u, v, hm, r, hd⟩ := O.cts q hq
    obtain rfl := same2_eq e2
    obtain ⟨g1, g2⟩ := glo_of O hg
    have e3 : (fun ρ S => Pm.ev C (.glo s q.2) ρ S) = fun _ S => .ok q.2 S := by funext ρ S; simp only [Pm.ev]
    rw [e3]
    exact q_con (pe_glob g1 (e1 ▸ hm) r g2) hd
  | .bin op a b, X, c, E, O, se, h => by
    cases se <;> first | (simp only [chkE, Bool.false_eq_true] at h; done) | skip
    simp only [chkE, Bool.and_eq_true, decide_eq_true_eq] at h
    obtain ⟨⟨rfl, h1⟩, h2⟩ := h
    exact q_bin O (sndE a O h1) (sndE b O h2)
  | .neg a, X, c, E, O, se, h => by
    cases se <;> first | (simp only [chkE, Bool.false_eq_true] at h; done) | skip
    rename_i op e pos
    cases op <;> first | (simp only [chkE, Bool.false_eq_true] at h; done) | skip
    exact q_neg (sndE a O (by simpa only [chkE] using h))
  | .cmp op a b, X, c, E, O, se, h => by
    cases se <;> first | (simp only [chkE, Bool.false_eq_true] at h; done) | skip
    rename_i l ops cs pos
    match ops, cs, h with
    | [o], [r], h =>
      simp only [chkE, Bool.and_eq_true, decide_eq_true_eq, Bool.not_eq_true'] at h
      obtain ⟨⟨⟨rfl, h1⟩, h2⟩, h3⟩ := h
      exact q_cmp O (sndE a O h1) (sndE b O h2) h3
    | [], cs, h => simp only [chkE, Bool.false_eq_true] at h
    | [_], [], h => simp only [chkE, Bool.false_eq_true] at h
    | [_], _ :: _ :: _, h => simp only [chkE, Bool.false_eq_true] at h
    | _ :: _ :: _, cs, h => simp only [chkE, Bool.false_eq_true] at h
  | .chain op op' a b d, X, c, E, O, se, h => by
    cases se <;> first | (simp only [chkE, Bool.false_eq_true] at h; done) | skip
    rename_i l ops cs pos
    match ops, cs, h with
    | [o, o'], [r, z], h =>
      simp only [chkE, Bool.and_eq_true, decide_eq_true_eq, Bool.not_eq_true'] at h
      obtain ⟨⟨⟨⟨⟨rfl, rfl⟩, h1⟩, h2⟩, h3⟩, h4⟩ := h
      exact q_chain O (sndE a O h1) (sndE b O h2) (sndE d O h3) h4
    | [], cs, h => simp only [chkE, Bool.false_eq_true] at h
    | [_], _, h => simp only [chkE, Bool.false_eq_true] at h
    | _ :: _ :: _ :: _, _, h => simp only [chkE, Bool.false_eq_true] at h
    | [_, _], [], h => simp only [chkE, Bool.false_eq_true] at h
    | [_, _], [_], h => simp only [chkE, Bool.false_eq_true] at h
    | [_, _], _ :: _ :: _ :: _, h => simp only [chkE, Bool.false_eq_true] at h
  | .and a b, X, c, E, O, se, h => by
    cases se <;> first | (simp only [chkE, Bool.false_eq_true] at h; done) | skip
    rename_i op vs pos
    match op, vs, h with
    | .And, [x, y], h =>
      simp only [chkE, Bool.and_eq_true] at h
      exact q_and (sndE a O h.1) (q_one (sndE b O h.2))
    | .And, x :: y :: z :: r, h =>
      simp only [chkE, Bool.and_eq_true] at h
      exact q_and (sndE a O h.1) (sndE b O h.2)
    | .And, [], h => simp only [chkE, Bool.false_eq_true] at h
    | .And, [_], h => simp only [chkE, Bool.false_eq_true] at h
    | .Or, _, h => simp only [chkE, Bool.false_eq_true] at h
  | .or a b, X, c, E, O, se, h => by
    cases se <;> first | (simp only [chkE, Bool.false_eq_true] at h; done) | skip
    rename_i op vs pos
    match op, vs, h with
    | .Or, [x, y], h =>
      simp only [chkE, Bool.and_eq_true] at h
      exact q_or (sndE a O h.1) (q_one (sndE b O h.2))
    | .Or, x :: y :: z :: r, h =>
      simp only [chkE, Bool.and_eq_true] at h
      exact q_or (sndE a O h.1) (sndE b O h.2)
    | .Or, [], h => simp only [chkE, Bool.false_eq_true] at h
    | .Or, [_], h => simp only [chkE, Bool.false_eq_true] at h
    | .And, _, h => simp only [chkE, Bool.false_eq_true] at h
  | .not a, X, c, E, O, se, h => by
    cases se <;> first | (simp only [chkE, Bool.false_eq_true] at h; done) | skip
    rename_i op e pos
    cases op <;> first | (simp only [chkE, Bool.false_eq_true] at h; done) | skip
    exact q_not (sndE a O (by simpa only [chkE] using h))
  | .ife t a b, X, c, E, O, se, h => by
    cases se <;> first | (simp only [chkE, Bool.false_eq_true] at h; done) | skip
    simp only [chkE, Bool.and_eq_true] at h
    exact q_ife (sndB t O h.1.1).1 (sndE a O h.1.2) (sndE b O h.2)
  | .ix a b, X, c, E, O, se, h => by
    cases se <;> first | (simp only [chkE, Bool.false_eq_true] at h; done) | skip
    rename_i l r pos
    simp only [chkE, Bool.and_eq_true] at h
    exact q_ix O (sndE a O h.1.1) (sndE b O h.1.2) h.2
  | .sl a lo hi, X, c, E, O, se, h => by
    cases se <;> first | (simp only [chkE, Bool.false_eq_true] at h; done) | skip
    rename_i l r pos
    cases r <;> first | (simp only [chkE, Bool.false_eq_true] at h; done) | skip
    rename_i x y z p2
    cases z <;> first | (simp only [chkE, Bool.false_eq_true] at h; done) | skip
    simp only [chkE, Bool.and_eq_true] at h
    exact q_sl O (sndE a O h.1.1) (sndO lo O h.1.2) (sndO hi O h.2)
  | .tup l, X, c, E, O, se, h => by
    cases se <;> first | (simp only [chkE, Bool.false_eq_true] at h; done) | skip
    exact q_tup (sndEs l O (by simpa only [chkE] using h))
  | .lst l, X, c, E, O, se, h => by
    cases se <;> first | (simp only [chkE, Bool.false_eq_true] at h; done) | skip
    exact q_lst (sndEs l O (by simpa only [chkE] using h))
  | .call f l d, X, c, E, O, se, h => by
    cases se <;> first | (simp only [chkE, Bool.false_eq_true] at h; done) | skip
    rename_i fe es kws pos
    cases fe <;> first | (simp only [chkE, Bool.false_eq_true] at h; done) | skip
    rename_i x p
    cases kws <;> first | (simp only [chkE, Bool.false_eq_true] at h; done) | skip
    simp only [chkE, Bool.and_eq_true, List.any_eq_true, decide_eq_true_eq] at h
    obtain ⟨⟨⟨q, hq, ⟨e1, e2⟩, e3⟩, hg⟩, hes⟩ := h
    exact q_call O ⟨q, hq, e1, e2, same2s_eq e3⟩ hg (es_nostar hes).1 (es_nil hes) (sndEs l O hes)
  | .bi f l, X, c, E, O, se, h => by
    cases se <;> first | (cases f <;> cases l <;> simp only [chkE, Bool.false_eq_true] at h; done) | skip
    rename_i fe es kws pos
    cases fe <;> first | (cases f <;> cases l <;> simp only [chkE, Bool.false_eq_true] at h; done) | skip
    rename_i x p
    cases kws <;> first | (cases f <;> cases l <;> simp only [chkE, Bool.false_eq_true] at h; done) | skip
    by_cases hi : ∃ t, f = .isi t
    · obtain ⟨t, rfl⟩ := hi
      match l, es, h with
      | [a], [e, .Name y p2], h =>
        simp only [chkE, Bool.and_eq_true] at h
        obtain ⟨⟨⟨h1, h2⟩, h3⟩, h4⟩ := h
        obtain ⟨hx, hg, hm⟩ := bn_of O h1
        obtain ⟨hy, hg2, hm2⟩ := bn_of O h4
        exact q_isi O hx hg hm hy hg2 hm2 h3 (sndE a O h2)
      | [], _, h => simp [chkE] at h
      | _ :: _ :: _, [], h => simp [chkE] at h
      | _ :: _ :: _, _ :: _, h => simp [chkE] at h
      | [_], [], h => simp [chkE] at h
      | [_], [_], h => simp [chkE] at h
      | [_], _ :: _ :: _ :: _, h => simp [chkE] at h
    · match l, es, h with
      | a :: l, e :: es, h =>
        have hf : ∀ t, f ≠ .isi t := fun t ht => hi ⟨t, ht⟩
        have h' : bnB T c x (biName f) = true ∧ nostar e = true ∧ chkE T c a e = true ∧ chkEs T c l es = true := by
          cases f <;> first | (exact absurd rfl (hf _)) | skip
          all_goals (simp only [chkE, Bool.and_eq_true, true_and] at h; exact ⟨h.1.1.1, h.1.1.2, h.1.2, h.2⟩)
        obtain ⟨h1, h2, h3, h4⟩ := h'
        obtain ⟨hx, hg, hm⟩ := bn_of O h1
        exact q_bi O hx hg hm hf h2 (es_nostar h4).1 (q_cons (sndE a O h3) (sndEs l O h4) h2)
      | [], _, h => cases f <;> simp [chkE] at h
      | _ :: _, [], h => cases f <;> simp [chkE] at h
  | .mt f o l, X, c, E, O, se, h => by
    cases se <;> first | (simp only [chkE, Bool.false_eq_true] at h; done) | skip
    rename_i fe es kws pos
    cases fe <;> first | (simp only [chkE, Bool.false_eq_true] at h; done) | skip
    rename_i oe m apos
    cases kws <;> first | (simp only [chkE, Bool.false_eq_true] at h; done) | skip
    simp only [chkE, Bool.and_eq_true, decide_eq_true_eq] at h
    obtain ⟨⟨⟨⟨⟨rfl, h1⟩, h2⟩, h3⟩, h4⟩, h5⟩ := h
    exact q_mt O h3 h4 (es_nostar h2).1 h5 (es_nil h2) (sndE o O h1) (sndEs l O h2)
  | .comp el t it cs, X, c, E, O, se, h => by
    cases se <;> first | (simp only [chkE, Bool.false_eq_true] at h; done) | skip
    rename_i e gs scope pos
    match gs, h with
    | [⟨tg, ie, ifs, k⟩], h =>
      simp only [chkE, Bool.and_eq_true, decide_eq_true_eq] at h
      obtain ⟨⟨⟨⟨⟨⟨rfl, h1⟩, h2⟩, h3⟩, h4⟩, h5⟩, h6⟩ := h
      have hI := sndI it O h1
      refine q_comp O ⟨hI.1, ?_, h3, fun s H Ca cl fp => ?_, fun s H Ca cl fp => sndTO cs O.blk h5, fun s H Ca cl fp => sndE el O.blk h6, hI.2⟩
      · rw [O.N, O.sc]
        exact blkOk_by h2
      · exact pg_of O.blk h4
    | [], h => simp only [chkE, Bool.false_eq_true] at h
    | _ :: _ :: _, h => simp only [chkE, Bool.false_eq_true] at h
  | .box a, X, c, E, O, se, h => q_box (sndE a O (by simp only [chkE, Bool.and_eq_true] at h; exact h.1))
theorem sndEs : ∀ (l : List Pm.E) {X : Cx} {c : Ct} {E : L2.St → XK} (O : XOk G T C n X c E) {es : List Expr}, chkEs T c l es = true → PA X es (tA' G E fun ρ S => Pm.evs C l ρ S)
  | [], X, c, E, O, es, h => by
    cases es with
    | nil => exact q_nil
    | cons e es => simp [chkEs] at h
  | a :: l, X, c, E, O, es, h => by
    cases es with
    | nil => simp [chkEs] at h
    | cons e es =>
      simp only [chkEs, Bool.and_eq_true] at h
      exact q_cons (sndE a O h.1.1) (sndEs l O h.2) h.1.2
theorem sndO : ∀ (a : Option Pm.E) {X : Cx} {c : Ct} {E : L2.St → XK} (O : XOk G T C n X c E) {e : Option Expr}, chkO T c a e = true → PO X e (tO' G E fun ρ S => Pm.evO C a ρ S)
  | none, X, c, E, O, e, h => by
    cases e with
    | none => exact q_none
    | some e => simp [chkO] at h
  | some a, X, c, E, O, e, h => by
    cases e with
    | none => simp [chkO] at h
    | some e => exact q_some (sndE a O (by simpa only [chkO] using h))
theorem sndTO : ∀ (b : Option Pm.B) {X : Cx} {c : Ct} {E : L2.St → XK} (O : XOk G T C n X c E) {es : List Expr}, chkTO T c b es = true → PTs X es (tB' G E fun ρ S => Pm.evTO C b ρ S)
  | none, X, c, E, O, es, h => by
    cases es with
    | nil =>
      refine ⟨fun pins s σ H Q I hw => pts_nil.run pins s σ H Q I ?_⟩
      obtain ⟨m, ρ, S, re, rs, q⟩ := hw
      simp only [Pm.evTO] at q
      exact q m H Fut.refl rs
    | cons e es => simp [chkTO] at h
  | some b, X, c, E, O, es, h => by
    match es, h with
    | [], h => simp [chkTO] at h
    | [e], h =>
      have := pts_one (sndB b O (by simpa only [chkTO] using h)).1
      simpa only [Pm.evTO] using this
    | _ :: _ :: _, h => simp [chkTO] at h
theorem sndB : ∀ (b : Pm.B) {X : Cx} {c : Ct} {E : L2.St → XK} (O : XOk G T C n X c E) {e : Expr}, chkB T c b e = true → PT X e (tB' G E fun ρ S => Pm.evT C b ρ S) ∧ ∀ op vs pos, e = .BoolOp op vs pos → PW X e (tB' G E fun ρ S => Pm.evT C b ρ S)
  | .val a, X, c, E, O, e, h => by
    simp only [chkB, Bool.and_eq_true] at h
    refine ⟨?_, fun op vs pos he => by subst he; simp at h⟩
    by_cases hc : ∀ l ops cs p, e ≠ .Compare l ops cs p
    · exact q_val O h.2 hc (sndE a O h.1)
    · cases e <;> first | (refine absurd ?_ hc; intro l ops cs p hh; cases hh; done) | skip
      rename_i l ops cs pos
      have h1 := h.1
      match a, h1 with
      | .cmp op a b, h1 =>
        match ops, cs, h1 with
        | [o], [r], h1 =>
          simp only [chkE, Bool.and_eq_true, decide_eq_true_eq, Bool.not_eq_true'] at h1
          obtain ⟨⟨⟨rfl, h1⟩, h2⟩, h3⟩ := h1
          exact q_tcmp O (sndE a O h1) (sndE b O h2) h3
        | [], cs, h => simp only [chkE, Bool.false_eq_true] at h
        | [_], [], h => simp only [chkE, Bool.false_eq_true] at h
        | [_], _ :: _ :: _, h => simp only [chkE, Bool.false_eq_true] at h
        | _ :: _ :: _, cs, h => simp only [chkE, Bool.false_eq_true] at h
      | .chain op op' a b d, h1 =>
        match ops, cs, h1 with
        | [o, o'], [r, z], h =>
          simp only [chkE, Bool.and_eq_true, decide_eq_true_eq, Bool.not_eq_true'] at h
          obtain ⟨⟨⟨⟨⟨rfl, rfl⟩, g1⟩, h2⟩, h3⟩, h4⟩ := h
          exact q_tchain O (sndE a O g1) (sndE b O h2) (sndE d O h3) h4
        | [], cs, h => simp only [chkE, Bool.false_eq_true] at h
        | [_], _, h => simp only [chkE, Bool.false_eq_true] at h
        | _ :: _ :: _ :: _, _, h => simp only [chkE, Bool.false_eq_true] at h
        | [_, _], [], h => simp only [chkE, Bool.false_eq_true] at h
        | [_, _], [_], h => simp only [chkE, Bool.false_eq_true] at h
        | [_, _], _ :: _ :: _ :: _, h => simp only [chkE, Bool.false_eq_true] at h
      | .var _, h | .cst _, h | .glo _ _, h | .bin _ _ _, h | .neg _, h | .and _ _, h | .or _ _, h | .not _, h | .ife _ _ _, h | .ix _ _, h | .sl _ _ _, h | .tup _, h | .lst _, h | .call _ _ _, h | .bi _ _, h | .mt _ _ _, h | .comp _ _ _ _, h | .box _, h => simp [chkE] at h
  | .and a b, X, c, E, O, se, h => by
    cases se <;> first | (simp only [chkB, Bool.false_eq_true] at h; done) | skip
    rename_i op vs pos
    have key : PW X (.BoolOp op vs pos) (tB' G E fun ρ S => Pm.evT C (.and a b) ρ S) := by
      match op, vs, h with
      | .And, [x, y], h =>
        simp only [chkB, Bool.and_eq_true] at h
        exact q_tand (sndB a O h.1).1 (pw_and1 (sndB b O h.2).1)
      | .And, x :: y :: z :: r, h =>
        simp only [chkB, Bool.and_eq_true] at h
        exact q_tand (sndB a O h.1).1 ((sndB b O h.2).2 _ _ _ rfl)
      | .And, [], h => simp only [chkB, Bool.false_eq_true] at h
      | .And, [_], h => simp only [chkB, Bool.false_eq_true] at h
      | .Or, _, h => simp only [chkB, Bool.false_eq_true] at h
    exact ⟨key.pt, fun _ _ _ _ => key⟩
  | .or a b, X, c, E, O, se, h => by
    cases se <;> first | (simp only [chkB, Bool.false_eq_true] at h; done) | skip
    rename_i op vs pos
    have key : PW X (.BoolOp op vs pos) (tB' G E fun ρ S => Pm.evT C (.or a b) ρ S) := by
      match op, vs, h with
      | .Or, [x, y], h =>
        simp only [chkB, Bool.and_eq_true] at h
        exact q_tor (sndB a O h.1).1 (pw_or1 (sndB b O h.2).1)
      | .Or, x :: y :: z :: r, h =>
        simp only [chkB, Bool.and_eq_true] at h
        exact q_tor (sndB a O h.1).1 ((sndB b O h.2).2 _ _ _ rfl)
      | .Or, [], h => simp only [chkB, Bool.false_eq_true] at h
      | .Or, [_], h => simp only [chkB, Bool.false_eq_true] at h
      | .And, _, h => simp only [chkB, Bool.false_eq_true] at h
    exact ⟨key.pt, fun _ _ _ _ => key⟩
  | .not a, X, c, E, O, se, h => by
    cases se <;> first | (simp only [chkB, Bool.false_eq_true] at h; done) | skip
    rename_i op e pos
    cases op <;> first | (simp only [chkB, Bool.false_eq_true] at h; done) | skip
    exact ⟨q_tnot (sndB a O (by simpa only [chkB] using h)).1, fun _ _ _ he => by cases he⟩
theorem sndI : ∀ (i : Pm.I) {X : Cx} {c : Ct} {E : L2.St → XK} (O : XOk G T C n X c E) {tg e : Expr}, chkI T c i tg e = true → PI X tg e (tI' G E fun ρ S => Pm.evI C i ρ S) ∧ ∀ x, foldedSetIterable e X.env x = pure x
  | .rng1 a, X, c, E, O, tg, e, h => by
    match e, h with
    | .Call (.Name x _) [e] [] _, h =>
      simp only [chkI, Bool.and_eq_true] at h
      obtain ⟨hx, hg, hm⟩ := bn_of O h.1.1
      exact ⟨q_rng1 O hx hg hm h.2 (sndE a O h.1.2), fun _ => rfl⟩
  | .rng2 a b, X, c, E, O, tg, e, h => by
    match e, h with
    | .Call (.Name x _) [e, e'] [] _, h =>
      simp only [chkI, Bool.and_eq_true] at h
      obtain ⟨hx, hg, hm⟩ := bn_of O h.1.1.1.1
      exact ⟨q_rng2 O hx hg hm h.1.1.2 h.2 (sndE a O h.1.1.1.2) (sndE b O h.1.2), fun _ => rfl⟩
  | .vals a, X, c, E, O, tg, e, h => by
    simp only [chkI, Bool.and_eq_true] at h
    refine ⟨q_vals O (sndE a O h.1), fun x => ?_⟩
    have := h.2
    cases e <;> first | rfl | cases this
  | .rev a, X, c, E, O, tg, e, h => by
    match e, h with
    | .Call (.Name x _) [e] [] _, h =>
      simp only [chkI, Bool.and_eq_true] at h
      obtain ⟨hx, hg, hm⟩ := bn_of O h.1.1
      exact ⟨q_rev O hx hg hm h.2 (sndE a O h.1.2), fun _ => rfl⟩
  | .enum a, X, c, E, O, tg, e, h => by simp [chkI] at h
  | .zip a b, X, c, E, O, tg, e, h => by simp [chkI] at h
end
end
end Ps

namespace Ps
open PySem L2
open Pm (PV Ob Sto R Sl settle)
def PostS (G : Gam) (E : L2.St → XK) (D : Ends) (m : Mp) (H : Hp) : Pm.F → Prop
  | .nx ρ S => ∀ m' H' σ', Fut m H m' H' → RepE G.K m' H' σ' ρ → RepS G.K m' H' S → D.nx σ' H'
  | .rt v S => Okv G m H D.rt S v
  | .bk ρ S => ∀ m' H' σ', Fut m H m' H' → RepE G.K m' H' σ' ρ → RepS G.K m' H' S → D.bk σ' H'
  | .ct ρ S => ∀ m' H' σ', Fut m H m' H' → RepE G.K m' H' σ' ρ → RepS G.K m' H' S → D.ct σ' H'
  | .er c l ρ S => ∀ m' H' σ' C d, Fut m H m' H' → RepE G.K m' H' σ' ρ → RepS G.K m' H' S → ErrA G m' c l C d H' → E σ' C d H'
  | .bad => False
def tS (G : Gam) (E : L2.St → XK) (k : Sl → Sto → Pm.F) : TS := fun D σ H => ∃ m ρ S, RepE G.K m H σ ρ ∧ RepS G.K m H S ∧ PostS G E D m H (k ρ S)
section
variable {G : Gam} {T : Tab} {C : Nat → List PV → Sto → R PV} {n : Nat} {X : Cx} {c : Ct} {E : L2.St → XK} {m m' m1 : Mp} {H H' H1 : Hp} {Q : VK} {S : Sto} {D : Ends} {σ : L2.St} {ρ : Sl}
theorem PostS.fut {f : Pm.F} (h : PostS G E D m H f) (g : Fut m H m' H') : PostS G E D m' H' f := by
  cases f with
  | nx ρ S => exact fun m2 H2 σ' f r1 r2 => h m2 H2 σ' (g.trans f) r1 r2
  | rt v S => exact Okv.fut h g
  | bk ρ S => exact fun m2 H2 σ' f r1 r2 => h m2 H2 σ' (g.trans f) r1 r2
  | ct ρ S => exact fun m2 H2 σ' f r1 r2 => h m2 H2 σ' (g.trans f) r1 r2
  | er c l ρ S => exact fun m2 H2 σ' C d f r1 r2 e => h m2 H2 σ' C d (g.trans f) r1 r2 e
  | bad => exact h
theorem Post.fl {r : R PV} {k : PV → Sto → Pm.F} {Rest : VK} (re : RepE G.K m H σ ρ) (h : PostS G E D m H (r.fl ρ k))
    (hk : ∀ v S1 x m' H', PostS G E D m H (k v S1) → Fut m H m' H' → RepS G.K m' H' S1 → Da G.K m' H' x (settle v) → Rest x H') : Post G (E σ) m H Rest r := by
  cases r with
  | ok v S => exact Okv.of fun x m' H' f r d => hk v S x m' H' h f r d
  | err c l S => exact fun m' H' C d f r e => h m' H' σ C d f (re.fut f) r e
  | bad => exact h
theorem PostB.fl {r : R Bool} {k : Bool → Sto → Pm.F} {Rest : Bool → Hp → Prop} (re : RepE G.K m H σ ρ) (h : PostS G E D m H (r.fl ρ k))
    (hk : ∀ v S1 m' H', PostS G E D m H (k v S1) → Fut m H m' H' → RepS G.K m' H' S1 → Rest v H') : PostB G (E σ) m H Rest r := by
  cases r with
  | ok v S => exact fun m' H' f r => hk v S m' H' h f r
  | err c l S => exact fun m' H' C d f r e => h m' H' σ C d f (re.fut f) r e
  | bad => exact h
theorem PostI.fl {r : R Pm.Src} {k : Pm.Src → Sto → Pm.F} {Rest : It → Hp → Prop} (re : RepE G.K m H σ ρ) (h : PostS G E D m H (r.fl ρ k))
    (hk : ∀ s S1 m' H' J, PostS G E D m H (k s S1) → Fut m H m' H' → RepS G.K m' H' S1 → WalkM G J m' H' s.xs s.gd → Rest J H') : PostI G (E σ) m H Rest r := by
  cases r with
  | ok v S => exact fun m' H' J f r d => hk v S m' H' J h f r d
  | err c l S => exact fun m' H' C d f r e => h m' H' σ C d f (re.fut f) r e
  | bad => exact h
theorem PostS.turn {f : Pm.F} {k : Sl → Sto → Pm.F} {N : L2.St → Hp → Prop} (h : PostS G E D m H (f.turn k))
    (hk : ∀ ρ S m' H' σ', PostS G E D m H (k ρ S) → Fut m H m' H' → RepE G.K m' H' σ' ρ → RepS G.K m' H' S → N σ' H') : PostS G E { D with nx := N, ct := N, bk := D.nx } m H f := by
  cases f with
  | nx ρ S => exact fun m2 H2 σ' f r1 r2 => hk ρ S m2 H2 σ' h f r1 r2
  | rt v S => exact h
  | bk ρ S => exact h
  | ct ρ S => exact fun m2 H2 σ' f r1 r2 => hk ρ S m2 H2 σ' h f r1 r2
  | er c l ρ S => exact h
  | bad => exact h
theorem PostS.then {f : Pm.F} {k : Sl → Sto → Pm.F} (h : PostS G E D m H (f.then k)) : PostS G E { D with nx := tS G E k D } m H f := by
  cases f with
  | nx ρ S => exact fun m2 H2 σ' f r1 r2 => ⟨m2, ρ, S, r1, r2, PostS.fut h f⟩
  | rt v S => exact h
  | bk ρ S => exact h
  | ct ρ S => exact h
  | er c l ρ S => exact h
  | bad => exact h
/-! ### assignments -/
theorem rd_nm {i : Nat} {k : Sl → Sto → R PV} (h : tS G E (fun ρ S => (k ρ S).fl ρ fun x S1 => Pm.asgTo C (.nm i) (settle x) ρ S1) D σ H) : tAsg (tE G E k) (gName i) D σ H := by
  obtain ⟨m, ρ, S, re, rs, h⟩ := h
  refine ⟨m, ρ, S, re, rs, Post.fl re h fun v S1 x m1 H1 h1 f1 r1 d1 => ?_⟩
  exact h1 m1 H1 _ f1 ((re.fut f1).set d1 i) r1
theorem q_asgN (O : XOk G T C n X c E) {i : Nat} {x : Str} {e : Expr} {a : Pm.E} {py pos : Pos} (hb : locB c i x = true) (he : PE X e (tE G E fun ρ S => Pm.ev C a ρ S)) (hc : isComp e = false) :
    PS X (.Assign [.Name x py] e pos) (tS G E fun ρ S => Pm.ex Pm.whileM C (.asg (.nm i) a) ρ S) := by
  obtain ⟨h1, h2, h3⟩ := loc_of O hb
  have hs : swapsWith e (some (.Name x py)) pos.line X.env = pure false := by cases e <;> first | rfl | cases hc
  refine PS.imp (ps_set O.nd h1 h2 he hs h3) fun D σ H h => rd_nm (C := C) ?_
  simpa only [Pm.ex] using h
theorem comp_of (O : XOk G T C n X c E) {se : Expr} {gs : List Comprehension} {scope : Scope} {pos : Pos} : ∀ (e : Pm.E), chkE T c e (.ListComp se gs scope pos) = true → ∃ tg ie ifs el t it cs, gs = [⟨tg, ie, ifs, 0⟩] ∧ CompOk G T C n X c E el t it cs se tg ie ifs scope ∧
    ∀ σ H Q, tE G E (fun ρ S => Pm.ev C e ρ S) σ H Q → tE G E (fun ρ S => Pm.ev C (.comp el t it cs) ρ S) σ H Q
  | .comp el t it cs, h => by
    match gs, h with
    | [⟨tg, ie, ifs, k⟩], h =>
      simp only [chkE, Bool.and_eq_true, decide_eq_true_eq] at h
      obtain ⟨⟨⟨⟨⟨⟨rfl, h1⟩, h2⟩, h3⟩, h4⟩, h5⟩, h6⟩ := h
      have hI := sndI it O h1
      refine ⟨tg, ie, ifs, el, t, it, cs, rfl, ⟨hI.1, ?_, h3, fun s H Ca cl fp => ?_, fun s H Ca cl fp => sndTO cs O.blk h5, fun s H Ca cl fp => sndE el O.blk h6, hI.2⟩, fun σ H Q h => h⟩
      · rw [O.N, O.sc]
        exact blkOk_by h2
      · exact pg_of O.blk h4
    | [], h => simp only [chkE, Bool.false_eq_true] at h
    | _ :: _ :: _, h => simp only [chkE, Bool.false_eq_true] at h
  | .box a, h => by
    simp only [chkE, Bool.and_eq_true] at h
    obtain ⟨tg, ie, ifs, el, t, it, cs, e1, P, hr⟩ := comp_of O a h.1
    exact ⟨tg, ie, ifs, el, t, it, cs, e1, P, fun σ H Q h => hr σ H Q (rd_box (by simpa only [Pm.ev] using h))⟩
  | .var _, h | .glo _ _, h | .bin _ _ _, h | .neg _, h | .and _ _, h | .or _ _, h | .not _, h | .ife _ _ _, h | .ix _ _, h | .sl _ _ _, h | .tup _, h | .lst _, h | .call _ _ _, h | .mt _ _ _, h | .cmp _ _ _, h | .chain _ _ _ _ _, h => by simp [chkE] at h
  | .cst v, h => by cases v <;> simp [chkE] at h
  | .bi f l, h => by cases f <;> rcases l with _ | ⟨a, l⟩ <;> simp [chkE] at h
theorem q_asgC (O : XOk G T C n X c E) {i : Nat} {x : Str} {se : Expr} {gs : List Comprehension} {scope : Scope} {cp : Pos} {a : Pm.E} {py pos : Pos} (hb : locB c i x = true) (hl : c.sc.names.lookup x = some .local)
    (he : chkE T c a (.ListComp se gs scope cp) = true) (hp : (py.line == cp.line) = true) (hn : (scope.names.any fun (n, k) => n == x && (k == .local || k == .cell)) = false) :
    PS X (.Assign [.Name x py] (.ListComp se gs scope cp) pos) (tS G E fun ρ S => Pm.ex Pm.whileM C (.asg (.nm i) a) ρ S) := by
  obtain ⟨h1, h2, h3⟩ := loc_of O hb
  obtain ⟨tg, ie, ifs, el, t, it, cs, rfl, P, hr⟩ := comp_of O a he
  have hl' : X.env.scope.names.lookup x = some .local := by rw [O.sc]; exact hl
  refine ⟨fun pins s σ H D I h => ?_⟩
  refine (ps_setLc O.calm O.nd h1 hl' (sw_true I.ok.kind hl' hp hn) P.pi P.ok P.pg P.pt P.pe P.set).run pins s σ H D I ?_
  have h' : tS G E (fun ρ S => (Pm.ev C a ρ S).fl ρ fun x S1 => Pm.asgTo C (.nm i) (settle x) ρ S1) D σ H := by simpa only [Pm.ex] using h
  exact P.rd (hr _ _ _ (rd_nm (C := C) h'))
/-- a name that comprehensions hold on to -/
theorem q_asgD (O : XOk G T C n X c E) {i : Nat} {x : Str} {e : Expr} {a : Pm.E} {py pos : Pos} (hb : locB c i x = true) (he : PE X e (tE G E fun ρ S => Pm.ev C a ρ S)) (hl : c.sc.names.lookup x = some .cell) :
    PS X (.Assign [.Name x py] e pos) (tS G E fun ρ S => Pm.ex Pm.whileM C (.asg (.nm i) a) ρ S) := by
  obtain ⟨h1, h2, h3⟩ := loc_of O hb
  have hk : X.env.kindOf x = some .cell := by
    show X.env.scope.names.lookup x = _
    rw [O.sc]
    exact hl
  have hs : swapsWith e (some (.Name x py)) pos.line X.env = pure false := by
    have hf : (some NameKind.cell == some NameKind.local) = false := rfl
    cases e <;> first | rfl | (simp only [swapsWith, hk, hf, Bool.and_false, Bool.false_and])
  refine PS.imp (ps_set O.nd h1 h2 he hs h3) fun D σ H h => rd_nm (C := C) ?_
  simpa only [Pm.ex] using h
theorem sw_kept (O : XOk G T C n X c E) {ts vs : List Expr} {k k2 : Nat} {p p2 : Pos} (h : keptStores c ts vs = true) : swappedStores [.Tuple ts k p] (.Tuple vs k2 p2) X.env = pure none := by
  unfold swappedStores
  dsimp only
  split
  · rfl
  · rename_i h1
    split
    · rfl
    · split
      · rfl
      · rename_i h3
        split
        · rfl
        · rename_i h4
          exfalso
          unfold keptStores at h
          have ek : ∀ id, X.env.kindOf id = c.sc.names.lookup id := fun id => by
            show X.env.scope.names.lookup id = _
            rw [O.sc]
          simp only [ek] at h3
          simp only [Bool.or_eq_true] at h
          rcases h with (h | h) | h
          · exact h1 (by rw [h]; rfl)
          · exact h4 h
          · apply h3
            rw [Bool.or_eq_true]
            exact .inl h
theorem q_asgT (O : XOk G T C n X c E) {l : List Nat} {ts : List Expr} {e : Expr} {a : Pm.E} {k : Nat} {py pos : Pos} (hb : tgtB.tgts c l ts = true) (he : PE X e (tE G E fun ρ S => Pm.ev C a ρ S)) (hc : isComp e = false)
    (hw : swappedStores [.Tuple ts k py] e X.env = pure none) :
    PS X (.Assign [.Tuple ts k py] e pos) (tS G E fun ρ S => Pm.ex Pm.whileM C (.asg (.tu l) a) ρ S) := by
  have hs : swapsWithSole [.Tuple ts k py] e pos.line X.env = pure false := by cases e <;> first | rfl | cases hc
  have hg : PG X (.Tuple ts k py) (gT G.K (.tu l)) := pg_of O (t := .tu l) hb
  refine PS.imp (ps_asg he hg hs hw) ?_
  rintro D σ H ⟨m, ρ, S, re, rs, h⟩
  simp only [Pm.ex] at h
  refine ⟨m, ρ, S, re, rs, Post.fl re h fun v S1 x m1 H1 h1 f1 r1 d1 => ?_⟩
  simp only [Pm.asgTo] at h1
  split at h1
  · rename_i ρ' eρ
    exact rd_tgt (re.fut f1) d1 eρ fun σ' e4 hw => h1 m1 H1 _ f1 e4 r1
  · exact h1.elim
theorem q_asgS (O : XOk G T C n X c E) {o i : Expr} {eo ei : Pm.E} {e : Expr} {a : Pm.E} {py pos : Pos} (ho : PE X o (tE G E fun ρ S => Pm.ev C eo ρ S)) (hi : PE X i (tE G E fun ρ S => Pm.ev C ei ρ S)) (hp : plainB i = true)
    (he : PE X e (tE G E fun ρ S => Pm.ev C a ρ S)) (hc : isComp e = false) :
    PS X (.Assign [.Subscript o i py] e pos) (tS G E fun ρ S => Pm.ex Pm.whileM C (.asg (.sub eo ei) a) ρ S) := by
  have hs : swapsWithSole [.Subscript o i py] e pos.line X.env = pure false := by cases e <;> first | rfl | cases hc
  have hw : swappedStores [.Subscript o i py] e X.env = pure none := by cases e <;> rfl
  have hg : PG X (.Subscript o i py) (gSub (tE G E fun ρ S => Pm.ev C eo ρ S) (tE G E fun ρ S => Pm.ev C ei ρ S) rSetL) := pg_sub ho hi set_list (fun v => by cases i <;> first | rfl | cases hp)
  refine PS.imp (ps_asg he hg hs hw (by cases i <;> first | rfl | cases hp)) ?_
  rintro D σ H ⟨m, ρ, S, re, rs, h⟩
  simp only [Pm.ex] at h
  refine ⟨m, ρ, S, re, rs, Post.fl re h fun v S1 x m1 H1 h1 f1 r1 d1 => ?_⟩
  simp only [Pm.asgTo] at h1
  refine ⟨m1, ρ, S1, re.fut f1, r1, Post.fl (re.fut f1) (h1.fut f1) fun v2 S2 x2 m2 H2 h2 f2 r2 d2 => ?_⟩
  refine ⟨m2, ρ, S2, (re.fut f1).fut f2, r2, Post.fl ((re.fut f1).fut f2) (h2.fut f2) fun v3 S3 x3 m3 H3 h3 f3 r3 d3 => ?_⟩
  have dv := (d1.fut f2).fut f3
  have do_ := d2.fut f3
  have h3 := h3.fut f3
  split at h3
  · rename_i S4 e4
    cases v2 <;> first | (simp [Pm.setIx] at e4; done) | skip
    rename_i n
    generalize hw : settle v3 = w at *
    cases w <;> first | (simp [Pm.setIx] at e4; done) | skip
    rename_i j
    obtain ⟨p, rfl, ha⟩ := Da.ref_iff.mp do_
    obtain rfl := Da.int_iff.mp d3
    simp only [Pm.setIx] at e4
    split at e4
    · rename_i z ez
      obtain ⟨q, eq, rfl⟩ := Option.map_eq_some_iff.mp e4
      obtain ⟨vs, e1, ds⟩ := r3.lst ha ez
      refine ⟨p, vs, j, q, rfl, rfl, e1, ?_, ?_⟩
      · rw [ds.length, ← place_eq]; exact eq
      · exact h3 m3 _ _ (Fut.write ha) (((((re.fut f1).fut f2).fut f3)).fut (Fut.write ha)) (r3.write ha (ds.set q dv))
    · cases e4
  · exact h3.elim
/-! ### loops -/
theorem q_while (O : XOk G T C n X c E) {t : Expr} {body : List Stmt} {kc : Sl → Sto → R Bool} {kb : Sl → Sto → Pm.F} {pos : Pos} (ht : PT X t (tB' G E kc)) (hb : PSs X body (tS G E kb)) : PS X (.While t body [] pos) (tS G E (Pm.whileM kc kb)) := by
  refine PS.imp (ps_while O.own ht hb) ?_
  rintro D σ H ⟨m, ρ, S, re, rs, h⟩
  unfold Pm.whileM at h
  split at h
  · rename_i hn
    refine ⟨fun k σ H => ∃ m ρ S, RepE G.K m H σ ρ ∧ RepS G.K m H S ∧ PostS G E D m H (Pm.wloop kc kb k ρ S), ⟨_, m, ρ, S, re, rs, h⟩, ?_⟩
    rintro k σ H ⟨m, ρ, S, re, rs, h⟩
    cases k with
    | zero => exact h.elim
    | succ k =>
      simp only [Pm.wloop] at h
      refine ⟨m, ρ, S, re, rs, PostB.fl re h fun b S1 m1 H1 h1 f1 r1 => ?_⟩
      cases b with
      | true =>
        rw [if_pos rfl] at h1 ⊢
        refine ⟨_, fun σ' H' w => ⟨k, Nat.lt_succ_self k, w⟩, m1, ρ, S1, re.fut f1, r1, ?_⟩
        exact (h1.fut f1).turn fun ρ2 S2 m2 H2 σ2 h2 f2 re2 r2 => ⟨m2, ρ2, S2, re2, r2, h2.fut f2⟩
      | false =>
        rw [if_neg Bool.false_ne_true] at h1 ⊢
        exact h1 m1 H1 σ f1 (re.fut f1) r1
  · exact h.elim
theorem q_for (O : XOk G T C n X c E) {tg ie : Expr} {body : List Stmt} {t : Pm.T} {ki : Sl → Sto → R Pm.Src} {kb : Sl → Sto → Pm.F} {pos : Pos} (hi : PI X tg ie (tI' G E ki)) (hs : ∀ x, foldedSetIterable ie X.env x = pure x) (hg : tgtB c t tg = true) (hb : PSs X body (tS G E kb)) :
    PS X (.For tg ie body [] pos) (tS G E fun ρ S => (ki ρ S).fl ρ fun s S1 => Pm.forGo kb t s.gd s.xs ρ S1) := by
  refine PS.imp (ps_for O.own O.calm hi (pg_of O hg) hb hs) ?_
  rintro D σ H ⟨m, ρ, S, re, rs, h⟩
  refine ⟨m, ρ, S, re, rs, PostI.fl re h fun s S1 m1 H1 J h1 f1 r1 wm => ?_⟩
  refine ⟨fun i k σ2 H2 => k = s.xs.length - i ∧ i ≤ s.xs.length ∧ ∃ m2 ρ2 S2, Fut m1 H1 m2 H2 ∧ RepE G.K m2 H2 σ2 ρ2 ∧ RepS G.K m2 H2 S2 ∧ PostS G E D m2 H2 (Pm.forGo kb t s.gd (s.xs.drop i) ρ2 S2),
    ⟨_, rfl, Nat.zero_le _, m1, ρ, S1, Fut.refl, re.fut f1, r1, h1.fut f1⟩, ?_⟩
  rintro i k σ2 H2 ⟨rfl, hi, m2, ρ2, S2, f2, re2, r2, h2⟩
  by_cases hlt : i < s.xs.length
  · right
    have ed : s.xs.drop i = s.xs[i] :: s.xs.drop (i + 1) := List.drop_eq_getElem_cons hlt
    rw [ed] at h2
    simp only [Pm.forGo] at h2
    split at h2
    · rename_i hg
      split at h2
      · exact h2.elim
      · rename_i ρ' eρ
        refine ⟨wm.goes i _ _ _ hlt f2.h r2 hg, fun σ' H' => ∃ m3 ρ3 S3, Fut m1 H1 m3 H' ∧ RepE G.K m3 H' σ' ρ3 ∧ RepS G.K m3 H' S3 ∧ PostS G E D m3 H' (Pm.forGo kb t s.gd (s.xs.drop (i + 1)) ρ3 S3), fun σ' H' w => ⟨s.xs.length - (i + 1), by omega, rfl, hlt, w⟩, fun x H3 y => ?_⟩
        obtain ⟨g1, g2, dx⟩ := wm.yields i _ _ _ x H3 _ (List.getElem?_eq_getElem hlt) f2.h r2 hg y
        refine rd_tgt (re2.fut g1) dx eρ fun σ' e4 hw => ?_
        refine ⟨m2, ρ', S2, e4, g2 _ r2, ?_⟩
        exact (h2.fut g1).turn fun ρ3 S3 m3 H4 σ3 h3 f3 re3 r3 => ⟨m3, ρ3, S3, (f2.trans g1).trans f3, re3, r3, h3.fut f3⟩
    · exact h2.elim
  · left
    have ei : i = s.xs.length := by omega
    subst ei
    rw [List.drop_eq_nil_of_le (Nat.le_refl _)] at h2
    simp only [Pm.forGo] at h2
    split at h2
    · rename_i hg
      exact ⟨wm.stops _ _ _ f2.h r2 hg, h2 m2 H2 σ2 Fut.refl re2 r2⟩
    · exact h2.elim
end
end Ps

namespace Ps
open PySem L2
open Pm (PV Ob Sto R Sl settle)
section
variable {G : Gam} {T : Tab} {C : Nat → List PV → Sto → R PV} {n : Nat} {X : Cx} {c : Ct} {E : L2.St → XK} {m m' m1 : Mp} {H H' H1 : Hp} {Q : VK} {S : Sto} {D : Ends} {σ : L2.St} {ρ : Sl}
theorem q_par (O : XOk G T C n X c E) {i j : Nat} {x y : Str} {a b : Expr} {ea eb : Pm.E} {px py pt pt2 pos : Pos} {kt k2 : Nat} (hbx : locB c i x = true) (hby : locB c j y = true) (hij : i ≠ j) (hxy : x ≠ y) (hx : c.sc.names.lookup x = some .local) (hy : c.sc.names.lookup y = some .local)
    (hl : (px.line == py.line) = true) (hf : [a, b].all (foldedForSure 8) = false) (hc : [a, b].all (constantsAlone 8) = false) (hs : [a, b].all nostar = true)
    (ha : PA X [a, b] (tA' G E fun ρ S => Pm.evs C [ea, eb] ρ S)) :
    PS X (.Assign [.Tuple [.Name x px, .Name y py] kt pt] (.Tuple [a, b] k2 pt2) pos) (tS G E fun ρ S => Pm.ex Pm.whileM C (.asg (.tu [i, j]) (.tup [ea, eb])) ρ S) := by
  obtain ⟨h1, h2, h3⟩ := loc_of O hbx
  obtain ⟨g1, g2, g3⟩ := loc_of O hby
  have hx' : X.env.scope.names.lookup x = some .local := by rw [O.sc]; exact hx
  have hy' : X.env.scope.names.lookup y = some .local := by rw [O.sc]; exact hy
  refine ⟨fun pins s σ H D I h => ?_⟩
  refine (ps_par O.calm O.nd h1 g1 hij hx' hy' ha ?_).run pins s σ H D I ?_
  · have hk : X.env.blockKind = .function := by
      unfold PySem.Env.blockKind
      rw [I.ok.kind]
      rfl
    have kx : X.env.kindOf x = some .local := hx'
    have ky : X.env.kindOf y = some .local := hy'
    have hl' : (py.line == px.line) = true := by
      rw [beq_iff_eq] at hl ⊢
      exact hl.symm
    simp only [List.all_cons, List.all_nil, Bool.and_true, Bool.and_eq_true] at hs
    have hst1 : ∀ e : Expr, nostar e = true → (match e with | .Starred .. => true | _ => false) = false := fun e h => by cases e <;> first | rfl | cases h
    have hst : ([a, b].any fun e => match e with | .Starred .. => true | _ => false) = false := by
      simp only [List.any_cons, List.any_nil, Bool.or_false]
      rw [hst1 a hs.1, hst1 b hs.2]
      rfl
    unfold swappedStores
    dsimp only
    split
    · rename_i z
      exfalso
      rw [hk] at z
      cases z
    split
    · rename_i z
      have z' : ([a, b].any fun e => match e with | .Starred .. => true | _ => false) = true := z
      rw [hst] at z'
      cases z'
    have hnames : ([Expr.Name x px, Expr.Name y py].filterMap fun | .Name id pos => if X.env.kindOf id == some .local && pos.line == px.line then some id else none | _ => none) = [x, y] := by
      simp only [List.filterMap_cons, List.filterMap_nil, kx, ky, hl']
      simp
    split
    · rename_i z
      exfalso
      have z' : ((([Expr.Name x px, Expr.Name y py].filterMap fun | .Name id pos => if X.env.kindOf id == some .local && pos.line == px.line then some id else none | _ => none).length != 2) || (([Expr.Name x px, Expr.Name y py].filterMap fun | .Name id pos => if X.env.kindOf id == some .local && pos.line == px.line then some id else none | _ => none).eraseDups.length != ([Expr.Name x px, Expr.Name y py].filterMap fun | .Name id pos => if X.env.kindOf id == some .local && pos.line == px.line then some id else none | _ => none).length)) = true := z
      rw [hnames] at z'
      simp [List.eraseDups_cons, hxy, Ne.symm hxy] at z'
    split
    · rename_i z
      rw [hf] at z
      cases z
    split
    · rename_i z
      rw [hc] at z
      cases z
    exact congrArg (fun z => pure (some z)) hnames
  obtain ⟨m, ρ, S, re, rs, h⟩ := h
  simp only [Pm.ex, Pm.ev] at h
  refine ⟨m, ρ, S, re, rs, ?_⟩
  show PostA G (E σ) m H _ (Pm.evs C [ea, eb] ρ S)
  cases e : Pm.evs C [ea, eb] ρ S with
  | bad => rw [e] at h; exact h.elim
  | err cc l S1 => rw [e] at h; exact fun m' H' C d f r e => h m' H' σ C d f (re.fut f) r e
  | ok l S1 =>
    rw [e] at h
    intro xs m1 H1 f1 r1 d1
    dsimp only [R.bind] at h
    split at h
    · have h : PostS G E D m H (Pm.asgTo C (.tu [i, j]) (.tup l) ρ S1) := h
      simp only [Pm.asgTo, Pm.store] at h
      split at h
      · rename_i ρ' eρ
        split at eρ
        · rename_i hl2
          cases eρ
          match l, hl2, d1 with
          | [p, q], _, d1 =>
            obtain ⟨v, r, rfl, dv, d1⟩ := Das.cons_iff.mp d1
            obtain ⟨w, r, rfl, dw, d1⟩ := Das.cons_iff.mp d1
            obtain rfl := Das.nil_iff.mp d1
            refine ⟨v, w, rfl, ?_⟩
            exact h m1 H1 _ f1 (((re.fut f1).set dv i).set dw j) r1
        · cases eρ
      · exact h.elim
    · exact h.elim
end
end Ps

namespace Ps
open PySem L2
open Pm (PV Ob Sto R Sl settle)
section
variable {G : Gam} {T : Tab} {C : Nat → List PV → Sto → R PV} {n : Nat} {X : Cx} {c : Ct} {E : L2.St → XK} {m m' m1 : Mp} {H H' H1 : Hp} {Q : VK} {S : Sto} {D : Ends} {σ : L2.St} {ρ : Sl}
theorem chk_tup : ∀ (e : Pm.E) {vs : List Expr} {k : Nat} {p : Pos}, chkE T c e (.Tuple vs k p) = true → ∃ es, e = .tup es ∧ chkEs T c es vs = true
  | .tup es, vs, k, p, h => ⟨es, rfl, by simpa only [chkE] using h⟩
  | .box a, vs, k, p, h => by simp [chkE] at h
  | .var _, _, _, _, h | .glo _ _, _, _, _, h | .bin _ _ _, _, _, _, h | .neg _, _, _, _, h | .and _ _, _, _, _, h | .or _ _, _, _, _, h | .not _, _, _, _, h | .ife _ _ _, _, _, _, h | .ix _ _, _, _, _, h | .sl _ _ _, _, _, _, h | .lst _, _, _, _, h | .call _ _ _, _, _, _, h | .mt _ _ _, _, _, _, h | .cmp _ _ _, _, _, _, h | .chain _ _ _ _ _, _, _, _, h | .comp _ _ _ _, _, _, _, h => by simp [chkE] at h
  | .cst v, _, _, _, h => by cases v <;> simp [chkE] at h
  | .bi f l, _, _, _, h => by cases f <;> rcases l with _ | ⟨a, l⟩ <;> simp [chkE] at h
theorem chk_asg (O : XOk G T C n X c E) {g : Pm.G} {e : Pm.E} {tg se : Expr} {pos : Pos} (h : chkS T c (.asg g e) (.Assign [tg] se pos) = true) : PS X (.Assign [tg] se pos) (tS G E fun ρ S => Pm.ex Pm.whileM C (.asg g e) ρ S) := by
  simp only [chkS, Bool.and_eq_true] at h
  obtain ⟨⟨h1, h2⟩, h3⟩ := h
  cases g with
  | nm i =>
    cases tg <;> first | (simp only [setB, Bool.false_eq_true] at h1; done) | skip
    rename_i x py
    by_cases hc : ∃ el gs scope cp, se = .ListComp el gs scope cp
    · obtain ⟨el, gs, scope, cp, rfl⟩ := hc
      simp only [Bool.or_eq_true, Bool.and_eq_true, decide_eq_true_eq, Bool.not_eq_true'] at h3
      rcases h3 with h3 | h3
      · exact q_asgC O (by simpa only [setB] using h1) h3.1.1 h2 h3.1.2 h3.2
      · exact q_asgD O (by simpa only [setB] using h1) (sndE e O h2) h3
    · refine q_asgN O (by simpa only [setB] using h1) (sndE e O h2) ?_
      cases se <;> first | rfl | (exact absurd ⟨_, _, _, _, rfl⟩ hc) | (simp [isComp] at h3; done)
  | tu l =>
    cases tg <;> first | (simp only [setB, Bool.false_eq_true] at h1; done) | skip
    rename_i ts k py
    simp only [setB] at h1
    by_cases hc : ∃ vs k2 p2, se = .Tuple vs k2 p2
    · obtain ⟨vs, k2, p2, rfl⟩ := hc
      simp only [Bool.and_eq_true] at h3
      obtain ⟨h3, h4⟩ := h3
      by_cases hk : keptStores c ts vs = true
      · exact q_asgT O h1 (sndE e O h2) rfl (sw_kept O hk)
      · have hp : parB c (.tu l) ts vs = true := by simpa only [hk, Bool.or_false] using h3
        unfold parB at hp
        split at hp
        · rename_i _ _ i j x px y py a b eg
          cases eg
          simp only [Bool.and_eq_true, decide_eq_true_eq, Bool.not_eq_true'] at hp
          obtain ⟨⟨⟨⟨⟨⟨z1, z2⟩, z3⟩, z4⟩, z5⟩, z6⟩, z7⟩ := hp
          simp only [tgtB.tgts, Bool.and_eq_true] at h1
          obtain ⟨es, rfl, h2⟩ := chk_tup e h2
          obtain ⟨n1, n2⟩ := es_nostar h2
          match es, n2, h2 with
          | [ea, eb], _, h2 => exact q_par O h1.1 h1.2.1 z1 z2 z3 z4 z5 z6 z7 n1 (sndEs [ea, eb] O h2)
          | [], n2, _ => simp at n2
          | [_], n2, _ => simp at n2
          | _ :: _ :: _ :: _, n2, _ => simp at n2
        · cases hp
    · refine q_asgT O h1 (sndE e O h2) ?_ ?_
      · cases se <;> first | rfl | (exact absurd ⟨_, _, _, rfl⟩ hc) | (simp [isComp] at h3; done)
      · cases se <;> first | rfl | (exact absurd ⟨_, _, _, rfl⟩ hc)
  | sub o i =>
    cases tg <;> first | (simp only [setB, Bool.false_eq_true] at h1; done) | skip
    rename_i oe ie py
    simp only [setB, Bool.and_eq_true] at h1
    refine q_asgS O (sndE o O h1.1.1) (sndE i O h1.1.2) h1.2 (sndE e O h2) ?_
    cases se <;> first | rfl | (simp [isComp] at h3; done)
end
end Ps

namespace Ps
open PySem L2
open Pm (PV Ob Sto R Sl settle)
section
variable {G : Gam} {T : Tab} {C : Nat → List PV → Sto → R PV} {n : Nat} {X : Cx} {c : Ct} {E : L2.St → XK} {m m' m1 : Mp} {H H' H1 : Hp} {Q : VK} {S : Sto} {D : Ends} {σ : L2.St} {ρ : Sl}
mutual
theorem sndS : ∀ (st : Pm.St) {X : Cx} {c : Ct} {E : L2.St → XK} (O : XOk G T C n X c E) {s : Stmt}, chkS T c st s = true → PS X s (tS G E fun ρ S => Pm.ex Pm.whileM C st ρ S)
  | .asg g e, X, c, E, O, s, h => by
    cases s <;> first | (simp only [chkS, Bool.false_eq_true] at h; done) | skip
    rename_i tgs se pos
    match tgs, h with
    | [tg], h => exact chk_asg O h
    | [], h => simp only [chkS, Bool.false_eq_true] at h
    | _ :: _ :: _, h => simp only [chkS, Bool.false_eq_true] at h
  | .ret e, X, c, E, O, s, h => by
    cases s <;> first | (simp only [chkS, Bool.false_eq_true] at h; done) | skip
    rename_i so pos
    match so, h with
    | none, h => simp only [chkS, Bool.false_eq_true] at h
    | some se, h =>
      refine PS.imp (ps_ret (sndE e O (by simpa only [chkS] using h))) ?_
      rintro D σ H ⟨m, ρ, S, re, rs, h⟩
      simp only [Pm.ex] at h
      refine ⟨m, ρ, S, re, rs, ?_⟩
      show Post G (E σ) m H D.rt (Pm.ev C e ρ S)
      cases er : Pm.ev C e ρ S with
      | bad => rw [er] at h; exact h.elim
      | err cc l S1 => rw [er] at h; exact fun m' H' C d f r e => h m' H' σ C d f (re.fut f) r e
      | ok v S1 => rw [er] at h; exact h
  | .retN, X, c, E, O, s, h => by
    cases s <;> first | (simp only [chkS, Bool.false_eq_true] at h; done) | skip
    rename_i so pos
    match so, h with
    | some _, h => simp only [chkS, Bool.false_eq_true] at h
    | none, h =>
      refine PS.imp ps_retN ?_
      rintro D σ H ⟨m, ρ, S, re, rs, h⟩
      simp only [Pm.ex] at h
      exact Okv.use (v := .non) (x := .non) (show Okv G m H D.rt S .non from h) rs (by simp [Da])
  | .ifs t a b, X, c, E, O, s, h => by
    cases s <;> first | (simp only [chkS, Bool.false_eq_true] at h; done) | skip
    · rename_i q x y pos
      simp only [chkS, Bool.and_eq_true] at h
      refine PS.imp (ps_if (sndB t O h.1.1).1 (sndSs a O h.1.2) (sndSs b O h.2)) ?_
      rintro D σ H ⟨m, ρ, S, re, rs, h⟩
      simp only [Pm.ex] at h
      refine ⟨m, ρ, S, re, rs, PostB.fl re h fun k S1 m1 H1 h1 f1 r1 => ?_⟩
      cases k with
      | true =>
        rw [if_pos rfl] at h1 ⊢
        exact ⟨m1, ρ, S1, re.fut f1, r1, h1.fut f1⟩
      | false =>
        rw [if_neg Bool.false_ne_true] at h1 ⊢
        exact ⟨m1, ρ, S1, re.fut f1, r1, h1.fut f1⟩
  | .whl t b, X, c, E, O, s, h => by
    cases s <;> first | (simp only [chkS, Bool.false_eq_true] at h; done) | skip
    rename_i q x z pos
    match z, h with
    | _ :: _, h => simp only [chkS, Bool.false_eq_true] at h
    | [], h =>
      simp only [chkS, Bool.and_eq_true] at h
      have := q_while O (pos := pos) (sndB t O h.1).1 (sndSs b O h.2)
      simpa only [Pm.ex] using this
  | .for t it b, X, c, E, O, s, h => by
    cases s <;> first | (simp only [chkS, Bool.false_eq_true] at h; done) | skip
    rename_i tg ie x z pos
    match z, h with
    | _ :: _, h => simp only [chkS, Bool.false_eq_true] at h
    | [], h =>
      simp only [chkS, Bool.and_eq_true] at h
      have hI := sndI it O h.1.1
      have := q_for O (pos := pos) hI.1 hI.2 h.1.2 (sndSs b O h.2)
      simpa only [Pm.ex] using this
  | .ex e, X, c, E, O, s, h => by
    cases s <;> first | (simp only [chkS, Bool.false_eq_true] at h; done) | skip
    · rename_i se pos
      simp only [chkS, Bool.and_eq_true, Bool.not_eq_true'] at h
      have hs : swapsWith se none pos.line X.env = pure false := by
        have h2 := h.2
        cases se <;> first | rfl | cases h2
      refine PS.imp (ps_expr (sndE e O h.1) hs) ?_
      rintro D σ H ⟨m, ρ, S, re, rs, h⟩
      simp only [Pm.ex] at h
      exact ⟨m, ρ, S, re, rs, Post.fl re h fun v S1 x m1 H1 h1 f1 r1 d1 => h1 m1 H1 σ f1 (re.fut f1) r1⟩
  | .brk, X, c, E, O, s, h => by
    cases s <;> first | (simp only [chkS, Bool.false_eq_true] at h; done) | skip
    · rename_i pos
      refine PS.imp ps_break ?_
      rintro D σ H ⟨m, ρ, S, re, rs, h⟩
      simp only [Pm.ex] at h
      exact h m H σ Fut.refl re rs
  | .cnt, X, c, E, O, s, h => by
    cases s <;> first | (simp only [chkS, Bool.false_eq_true] at h; done) | skip
    · rename_i pos
      refine PS.imp ps_continue ?_
      rintro D σ H ⟨m, ρ, S, re, rs, h⟩
      simp only [Pm.ex] at h
      exact h m H σ Fut.refl re rs
  | .pss, X, c, E, O, s, h => by
    cases s <;> first | (simp only [chkS, Bool.false_eq_true] at h; done) | skip
    · rename_i pos
      refine PS.imp ps_pass ?_
      rintro D σ H ⟨m, ρ, S, re, rs, h⟩
      simp only [Pm.ex] at h
      exact h m H σ Fut.refl re rs
theorem sndSs : ∀ (st : Pm.Ss) {X : Cx} {c : Ct} {E : L2.St → XK} (O : XOk G T C n X c E) {s : List Stmt}, chkSs T c st s = true → PSs X s (tS G E fun ρ S => Pm.exs Pm.whileM C st ρ S)
  | .nil, X, c, E, O, s, h => by
    match s, h with
    | [], h =>
      refine PSs.imp pss_nil ?_
      rintro D σ H ⟨m, ρ, S, re, rs, h⟩
      simp only [Pm.exs] at h
      exact h m H σ Fut.refl re rs
  | .cons st r, X, c, E, O, s, h => by
    match s, h with
    | s :: rest, h =>
      simp only [chkSs, Bool.and_eq_true] at h
      refine PSs.imp (pss_cons (sndS st O h.1) (sndSs r O h.2)) ?_
      rintro D σ H ⟨m, ρ, S, re, rs, h⟩
      simp only [Pm.exs] at h
      exact ⟨m, ρ, S, re, rs, h.then⟩
end
end
end Ps

namespace Ps
open PySem L2
open Pm (PV Ob Sto R Sl settle)
/-! ### a def's end: what it alone has made is dropped -/
structure Cutm (n : Nat) (m1 : Mp) (H1 : Hp) (m2 : Mp) (H2 : Hp) : Prop where
  mm : m2.m = m1.m.take n
  zz : m2.z = m1.z
  keep : ∀ b, b ∉ m1.m → H2 b = H1 b
  keep2 : ∀ b ∈ m1.m.take n, H2 b = H1 b
section
variable {K : Frag} {m1 m2 : Mp} {H1 H2 : Hp} {n : Nat}
theorem Cutm.out (c : Cutm n m1 H1 m2 H2) {b : Addr} (h : b ∉ m1.m) : b ∉ m2.m := fun z => h (List.mem_of_mem_take (by rw [← c.mm]; exact z))
theorem Cutm.rd (c : Cutm n m1 H1 m2 H2) {b : Addr} {u : HO} (h : b ∉ m1.m) (r : Rd H1 b u) : Rd H2 b u := by
  unfold Rd
  rw [c.keep b h]
  exact r
mutual
theorem Da.cut (c : Cutm n m1 H1 m2 H2) : ∀ {p : PV} {x : V}, p.blw n = true → Da K m1 H1 x p → Da K m2 H2 x p
  | .non, _, _, h => by simpa [Da] using h
  | .bl _, _, _, h => by simpa [Da] using h
  | .int _, _, _, h => by simpa [Da] using h
  | .str _, _, _, h => by simpa [Da] using h
  | .tup l, _, hb, h => by
    simp only [Da] at h ⊢
    simp only [PV.blw] at hb
    obtain ⟨a, vs, e, h1, h2⟩ := h
    refine ⟨a, vs, e, ?_, Das.cut c hb h2⟩
    rcases h1 with ⟨h1, n1⟩ | h1
    · exact .inl ⟨c.rd n1 h1, c.out n1⟩
    · exact .inr h1
  | .lst l, _, hb, h => by
    simp only [Da] at h ⊢
    simp only [PV.blw] at hb
    obtain ⟨a, vs, e, ⟨h1, n1, n2⟩, h2⟩ := h
    exact ⟨a, vs, e, ⟨by rw [c.keep a n1]; exact h1, c.out n1, by rw [c.zz]; exact n2⟩, Das.cut c hb h2⟩
  | .ref k, _, hb, h => by
    simp only [Da] at h ⊢
    simp only [PV.blw, decide_eq_true_eq] at hb
    obtain ⟨a, e, h1⟩ := h
    exact ⟨a, e, by rw [c.mm, List.getElem?_take_of_lt hb]; exact h1⟩
  | .new _, _, _, h => by simp [Da] at h
  | .scr l, _, _, h => by
    simp only [Da] at h ⊢
    obtain ⟨a, e, h1⟩ := h
    refine ⟨a, e, ?_⟩
    rcases h1 with ⟨h1, n1, n2⟩ | h1
    · exact .inl ⟨c.rd n1 h1, c.out n1, by rw [c.zz]; exact n2⟩
    · exact .inr h1
theorem Das.cut (c : Cutm n m1 H1 m2 H2) : ∀ {ps : List PV} {vs : List V}, Pm.blwAll n ps = true → Das K m1 H1 vs ps → Das K m2 H2 vs ps
  | [], _, _, h => by rw [Das.nil_iff] at h ⊢; exact h
  | p :: ps, _, hb, h => by
    simp only [Pm.blwAll, Bool.and_eq_true] at hb
    obtain ⟨v, r, rfl, h1, h2⟩ := Das.cons_iff.mp h
    exact Das.cons_iff.mpr ⟨v, r, rfl, Da.cut c hb.1 h1, Das.cut c hb.2 h2⟩
end
theorem RepS.cut {S : Sto} (c : Cutm n m1 H1 m2 H2) (r : RepS K m1 H1 S) (hb : (S.take n).all (Ob.blw n) = true) : RepS K m2 H2 (S.take n) := by
  refine ⟨by rw [c.mm, List.length_take, List.length_take, r.len], by rw [c.mm]; exact r.nd.sublist (List.take_sublist n _), fun j a o ha ho => ?_, fun a ha => ?_⟩
  · rw [c.mm] at ha
    have hm : a ∈ m1.m.take n := List.mem_of_getElem? ha
    have hj : j < n := by
      have := (List.getElem?_eq_some_iff.mp ha).1
      rw [List.length_take] at this
      omega
    rw [List.getElem?_take_of_lt hj] at ha
    have hob := List.all_eq_true.mp hb o (List.mem_of_getElem? ho)
    rw [List.getElem?_take_of_lt hj] at ho
    have := r.at_ j a o ha ho
    cases o with
    | lst l =>
      obtain ⟨vs, e, d⟩ := this
      exact ⟨vs, by rw [c.keep2 a hm]; exact e, d.cut c hob⟩
    | ins k fs => exact this.elim
  · rw [c.zz] at ha
    obtain ⟨h1, vs, e⟩ := r.hid a ha
    exact ⟨c.out h1, vs, by rw [c.keep a h1]; exact e⟩
end
section
variable {G : Gam} {m m1 m2 : Mp} {H H1 H2 : Hp} {Q : VK} {S : Sto}
theorem Cutm.fut (rs : RepS G.K m H S) (f : Fut m H m1 H1) (c : Cutm S.length m1 H1 m2 H2) : Fut m H m2 H2 := by
  obtain ⟨r, e⟩ := f.pre
  have em : m2.m = m.m := by rw [c.mm, e, ← rs.len, List.take_left']; rfl
  exact ⟨⟨[], by rw [em, List.append_nil]⟩, c.zz.trans f.z, fun b o e nb => by rw [c.keep b (f.out b o e nb)]; exact f.keep b o e nb, fun b o e nb => by rw [em]; exact nb⟩
/-- no more than the store's part is dropped -/
theorem cut0 : Cutm n m1 H1 ⟨m1.m.take n, m1.z⟩ H1 := ⟨rfl, rfl, fun _ _ => rfl, fun _ _ => rfl⟩
theorem fin_ok {E : XK} {S' : Sto} {v : PV} (rs : RepS G.K m H S) (h : Post G E m H Q (Pm.fin.finV S.length v S')) : Okv G m H Q S' v := by
  cases v with
  | new l =>
    simp only [Pm.fin.finV] at h
    split at h
    · rename_i hb
      simp only [Bool.and_eq_true] at hb
      intro m1 H1 a vs f hn r d
      have c : Cutm S.length m1 H1 ⟨m1.m.take S.length, m1.z⟩ H1 := cut0
      exact h _ _ a vs (c.fut rs f) hn (r.cut c hb.2) (d.cut c hb.1)
    · exact h
  | ref k =>
    simp only [Pm.fin.finV] at h
    split at h
    · rename_i hk
      split at h
      · rename_i l el
        split at h
        · rename_i hb
          simp only [Bool.and_eq_true] at hb
          intro x m1 H1 f r d
          obtain ⟨a, rfl, ha⟩ := Da.ref_iff.mp d
          obtain ⟨vs, ea, dl⟩ := r.lst ha el
          have hna : a ∉ m1.m.take S.length := fun z => by
            obtain ⟨j, ej⟩ := List.getElem?_of_mem z
            have hj : j < S.length := by
              have := (List.getElem?_eq_some_iff.mp ej).1
              rw [List.length_take] at this
              omega
            rw [List.getElem?_take_of_lt hj] at ej
            have := (List.getElem?_inj (List.getElem?_eq_some_iff.mp ej).1 r.nd).mp (ej.trans ha.symm)
            omega
          have c : Cutm S.length m1 H1 ⟨m1.m.take S.length, m1.z⟩ (erase H1 a) :=
            ⟨rfl, rfl, fun b hb => erase_ne fun z => hb (by rw [z]; exact List.mem_of_getElem? ha), fun b hb => erase_ne fun z => hna (by rw [← z]; exact hb)⟩
          have := h _ (erase H1 a) a vs (c.fut rs f) erase_same (r.cut c hb.2) (dl.cut c hb.1)
          rwa [upd_self' ea] at this
        · exact h
      · exact h
    · rename_i hk
      split at h
      · rename_i hb
        intro x m1 H1 f r d
        have c : Cutm S.length m1 H1 ⟨m1.m.take S.length, m1.z⟩ H1 := cut0
        exact h x _ _ (c.fut rs f) (r.cut c hb) (d.cut c (by simp only [PV.blw, decide_eq_true_eq]; omega))
      · exact h
  | _ =>
    simp only [Pm.fin.finV] at h
    split at h
    · rename_i hb
      simp only [Bool.and_eq_true] at hb
      intro x m1 H1 f r d
      have c : Cutm S.length m1 H1 ⟨m1.m.take S.length, m1.z⟩ H1 := cut0
      exact h x _ _ (c.fut rs f) (r.cut c hb.2) (d.cut c hb.1)
    · exact h
theorem fin_post {E : XK} {f : Pm.F} (rs : RepS G.K m H S) (h : Post G E m H Q (Pm.fin S.length f)) : PostS G (fun _ => E) { nx := fun _ H' => Q .non H', rt := Q } m H f := by
  cases f with
  | nx ρ S' =>
    have := fin_ok rs (v := .non) h
    exact fun m' H' σ' f _ r => this .non m' H' f r (by simp [Da])
  | rt v S' => exact fin_ok rs h
  | bk ρ S' => exact h.elim
  | ct ρ S' => exact h.elim
  | er c l ρ S' => exact fun m' H' σ' C d f _ r e => h m' H' C d f r e
  | bad => exact h.elim
/-! ### the defs -/
structure Df where
  id : Nat
  x : Str
  st : Stmt
  f : Addr
  fd : FuncData
  N : List Str
  ps : List Str
structure DfOk (K : Frag) (mg : Str → Option Value) (T : Tab) (P : Nat → Option Pm.Fn) (d : Df) : Prop where
  F : Fun K d.x d.x d.st d.f d.fd
  b : Binds K d.fd d.ps []
  S : FnScope d.N d.ps (defScope d.st)
  m : mg d.x = some (.ref d.f)
  fn : ∃ w, P d.id = some w ∧ w.np = d.ps.length ∧ w.ns = d.N.length ∧ chkSs T ⟨d.N, defScope d.st, none⟩ w.body (defBody d.st) = true
theorem start_rep {K : Frag} {vs : List V} {l : List PV} {N : List Str} (d : Das K m H vs l) : RepE K m H (L2.start N vs) (Pm.start N.length l) := by
  have hl := d.length
  refine ⟨by simp [L2.start, Pm.start, hl], fun i p e => ?_⟩
  unfold Pm.start at e
  by_cases hi : i < l.length
  · rw [List.getElem?_append_left (by simpa using hi), List.getElem?_map] at e
    obtain ⟨q, eq, e2⟩ := Option.map_eq_some_iff.mp e
    cases e2
    obtain ⟨v, ev, dv⟩ := d.get eq
    refine ⟨v, ?_, dv⟩
    unfold L2.start
    rw [List.getElem?_append_left (by simpa [hl] using hi), List.getElem?_map, ev]
    rfl
  · rw [List.getElem?_append_right (by simpa using hi), List.getElem?_replicate] at e
    split at e <;> cases e
/-- every def of the table keeps what its term says, n calls within one another at most -/
theorem all_fns {Pr : Program} {w : World} {K : Frag} {mg : Str → Option Value} {base : Heap} {T : Tab} {P : Nat → Option Pm.Fn} {cls : Nat → Addr} {fld : Nat → Str} {Ds : List Df} (h : ∀ d ∈ Ds, DfOk K mg T P d)
    (bns : ∀ x ∈ T.bns, mg x = none) (cts : ∀ p ∈ T.cts, ∃ u v, mg p.1 = some u ∧ RelV v u ∧ ∀ m H, Da K m H v p.2) (fns : ∀ p ∈ T.fns, p.2.2 = [] ∧ ∃ d ∈ Ds, d.x = p.1 ∧ d.id = p.2.1) :
    ∀ (n : Nat) (d : Df), d ∈ Ds → FnOk Pr w K mg base CX0 n d.f d.fd d.ps (spM ⟨K, cls, fld⟩ (Pm.run P n d.id))
  | 0, d, hd => by
    have no : ∀ vs H Q E, ¬ spM ⟨K, cls, fld⟩ (Pm.run P 0 d.id) vs H Q E := fun vs H Q E ⟨m, S, l, r, dl, q⟩ => q
    exact ⟨fun vs H Q E h => absurd h (no vs H Q E), fun A outer s H args us vs Q E _ _ _ _ h => absurd h (no vs H Q E)⟩
  | n + 1, d, hd => by
    obtain ⟨F, b, Sc, hm, w', ew, e1, e2, hc⟩ := h d hd
    have runE : ∀ l S, Pm.run P (n + 1) d.id l S = if l.length = w'.np then Pm.fin S.length (Pm.exs Pm.whileM (Pm.run P n) w'.body (Pm.start w'.ns l) S) else .bad := fun l S => by
      show Pm.runW Pm.whileM P (n + 1) d.id l S = _
      simp only [Pm.runW, ew]
    refine F.ok Sc (fun vs H Q E hsp => ?_) (fun cdv A outer s H vs Q E hr hsp => ?_)
    · obtain ⟨m, S, l, r, dl, q⟩ := hsp
      rw [runE] at q
      split at q
      · rename_i hl
        rw [dl.length, hl, e1]
      · exact q.elim
    · obtain ⟨m, S, l, r, dl, q⟩ := hsp
      rw [runE] at q
      split at q
      · rename_i hl
        have O : XOk ⟨K, cls, fld⟩ T (Pm.run P n) n (cxOf CX0 Pr w K mg base d.N d.x (defScope d.st) d.f cdv A outer s H E).nox ⟨d.N, defScope d.st, none⟩ (fun _ => E) := {
          K := rfl
          calm := rfl
          nd := Sc.nd
          N := rfl
          sc := rfl
          hr := hr
          fn := fun x _ hx => by
            exact .inl rfl
          bns := bns
          cts := cts
          fns := fun p hp => by
            obtain ⟨e0, d', hd', ex, ei⟩ := fns p hp
            have D' := h d' hd'
            refine ⟨d'.f, d'.fd, d'.ps, [], [], CX0, ?_, by rw [← ex]; exact D'.m, D'.F.kp, D'.b, .nil, fun m H => by rw [e0]; simp [Das], fun σ pins H s e s' _ z => z.elim, fun _ _ _ _ _ z => z⟩
            rw [← ei]
            exact all_fns h bns cts fns n d' hd'
          own := PassesOwn.never }
        exact ⟨_, sndSs w'.body O hc, m, _, S, (by rw [e2]; exact start_rep dl), r, fin_post r q⟩
      · exact q.elim
end
end Ps

namespace Ps
open PySem L2
open Pm (PV Ob Sto R Sl settle)
/-! ### the law, asked of the term alone -/
theorem law_sp {K : Frag} {cls : Nat → Addr} {fld : Nat → Str} {F : List PV → Sto → R PV} {H : Hp} {a : Addr} {ns : List Int} {E : XK} (hS : SqL K H a (ns.map V.int)) (hp : ∃ S, F [.scr ns] [] = .ok (.bl true) S) :
    spM ⟨K, cls, fld⟩ F [.ref a] H (fun v _ => v = .bl true) E := by
  obtain ⟨S, e⟩ := hp
  refine ⟨⟨[], []⟩, [], [.scr ns], ⟨rfl, List.nodup_nil, fun n a o h => by simp at h, fun a h => by simp at h⟩, ?_, ?_⟩
  · refine Das.cons_iff.mpr ⟨.ref a, [], rfl, ?_, Das.nil_iff.mpr rfl⟩
    simp only [Da]
    refine ⟨a, rfl, ?_⟩
    rcases hS with h | h
    · exact .inl ⟨h, by simp, by simp⟩
    · exact .inr h
  · rw [e]
    exact fun x m' H' f r d => by simpa [Da] using d
theorem fns_of {T : Tab} {Ds : List Df} (h : T.fns = Ds.map fun d => (d.x, d.id, ([] : List PV))) : ∀ p ∈ T.fns, p.2.2 = [] ∧ ∃ d ∈ Ds, d.x = p.1 ∧ d.id = p.2.1 := by
  intro p hp
  rw [h] at hp
  obtain ⟨d, hd, rfl⟩ := List.mem_map.mp hp
  exact ⟨rfl, d, hd, rfl, rfl⟩
abbrev noCls : Nat → Addr := fun _ => 0
abbrev noFld : Nat → Str := fun _ => ""
theorem walk_ps {l : PySem.W.OpenLaw} {k id : Nat} {q : Program} {loose : List Str} {XP : (Str → Option Value) → Heap → Prop} {YP : World → Heap → Prop} {d : DefRec} {K : Params → Frag} {P : Nat → Option Pm.Fn} {x : Str} (hn : l.most = some 63) (hdf : d.params.defaults = []) (hr : Room k callerA)
    (hY : ∀ (w : World) (h : Heap), YP w h → (K w.params).In h) (hp : ∀ ns : List Int, ns.length ≤ 63 → ∃ S, Pm.run P k id [.scr ns] [] = .ok (.bl true) S)
    (F : ∀ (w : World) (mg : Str → Option Value) (fa : Addr) (h : Heap), (K w.params).In h → h.Ns mainGlobals mg → mg d.name = some (.ref fa) →
      ∃ fd : FuncData, (∀ (s : Shared) (u : Value), BindsTo s fd ⟨[u], []⟩ [(x, u)]) ∧ ∀ base : Heap, (K w.params).In base → base.Ns mainGlobals mg → FnOk l.prog w (K w.params) mg base CX0 k fa fd [x] (spM ⟨K w.params, noCls, noFld⟩ (Pm.run P k id))) :
    PySem.W.WalkO q loose XP YP l.row.toRowW d [] (fun f vs => PySem.call f vs) :=
  L2.walk_of (n := 63) (k := k) (x := x) (CX := fun _ => CX0) (sp := fun w => spM ⟨K w.params, noCls, noFld⟩ (Pm.run P k id)) hn (by decide) hdf hr hY F (fun _ _ a ns hl _ hS => law_sp hS (hp ns hl)) fun _ _ _ _ _ z => z
end Ps

namespace Pm
/-! plain facts about the evaluator -/
theorem F.notBad {f : F} (h : f.isBad = false) : f ≠ .bad := fun e => by subst e; cases h
section
variable {c : Sl → Sto → R Bool} {b : Sl → Sto → F}
theorem wloop_mono : ∀ (n : Nat) (ρ : Sl) (S : Sto), (wloop c b n ρ S).isBad = false → wloop c b (n + 1) ρ S = wloop c b n ρ S
  | 0, ρ, S, h => by cases h
  | n + 1, ρ, S, h => by
    have ih := fun ρ S h => wloop_mono n ρ S h
    rw [wloop] at h ⊢
    rw [wloop]
    cases ec : c ρ S with
    | bad => rfl
    | err k l S1 => rfl
    | ok k S1 =>
      rw [ec] at h
      simp only [R.fl] at h ⊢
      cases k with
      | false => rfl
      | true =>
        simp only [if_true] at h ⊢
        cases eb : b ρ S1 with
        | nx ρ' S' => rw [eb] at h; exact ih ρ' S' h
        | ct ρ' S' => rw [eb] at h; exact ih ρ' S' h
        | _ => rfl
theorem wloop_le {n m : Nat} {ρ : Sl} {S : Sto} (h : (wloop c b n ρ S).isBad = false) (hm : n ≤ m) : wloop c b m ρ S = wloop c b n ρ S := by
  induction m with
  | zero => rw [Nat.le_zero.mp hm]
  | succ m ih =>
    by_cases e : n = m + 1
    · rw [e]
    · have := ih (by omega)
      rw [← this]
      exact wloop_mono m ρ S (by rw [this]; exact h)
theorem whileM_eq {n : Nat} {ρ : Sl} {S : Sto} (h : (wloop c b n ρ S).isBad = false) : whileM c b ρ S = wloop c b n ρ S := by
  have hx : ∃ n, (wloop c b n ρ S).isBad = false := ⟨n, h⟩
  unfold whileM
  rw [dif_pos hx]
  by_cases hle : n ≤ hx.choose
  · exact wloop_le h hle
  · exact (wloop_le hx.choose_spec (by omega)).symm
theorem whileM_bad {ρ : Sl} {S : Sto} (h : ∀ n, (wloop c b n ρ S).isBad = true) : whileM c b ρ S = .bad := by
  unfold whileM
  rw [dif_neg]
  rintro ⟨n, e⟩
  rw [h n] at e
  cases e
/-- a while, one turn told -/
theorem while_unfold (ρ : Sl) (S : Sto) : whileM c b ρ S = (c ρ S).fl ρ fun k S1 => if k = true then (b ρ S1).turn (whileM c b) else .nx ρ S1 := by
  have key : ∀ ρ' S' (f : (Sl → Sto → F) → F), (∀ k, f k = k ρ' S') → (∀ n, wloop c b (n + 1) ρ S = f (wloop c b n)) → whileM c b ρ S = f (whileM c b) := by
    intro ρ' S' f hf hn
    rw [hf]
    by_cases h : ∃ n, (wloop c b n ρ' S').isBad = false
    · obtain ⟨n, h⟩ := h
      rw [whileM_eq h, whileM_eq (n := n + 1) (by rw [hn, hf]; exact h), hn, hf]
    · have h' : ∀ n, (wloop c b n ρ' S').isBad = true := fun n => by
        cases e : (wloop c b n ρ' S').isBad with
        | true => rfl
        | false => exact absurd ⟨n, e⟩ h
      rw [whileM_bad h', whileM_bad fun n => ?_]
      cases n with
      | zero => rfl
      | succ n => rw [hn, hf]; exact h' n
  have const : ∀ f : F, (∀ n, wloop c b (n + 1) ρ S = f) → whileM c b ρ S = f := by
    intro f hn
    by_cases hb : f.isBad = true
    · rw [whileM_bad fun n => ?_]
      · cases f <;> first | rfl | cases hb
      · cases n with
        | zero => rfl
        | succ n => rw [hn]; exact hb
    · rw [whileM_eq (n := 1) (by rw [hn]; simpa using hb), hn]
  cases ec : c ρ S with
  | bad => exact const _ fun n => by rw [wloop, ec]; rfl
  | err k l S1 => exact const _ fun n => by rw [wloop, ec]; rfl
  | ok k S1 =>
    cases k with
    | false => exact const _ fun n => by rw [wloop, ec]; rfl
    | true =>
      show whileM c b ρ S = (b ρ S1).turn (whileM c b)
      cases eb : b ρ S1 with
      | nx ρ' S' => exact key ρ' S' (fun k => k ρ' S') (fun _ => rfl) fun n => by rw [wloop, ec]; simp only [R.fl, if_true, eb]; rfl
      | ct ρ' S' => exact key ρ' S' (fun k => k ρ' S') (fun _ => rfl) fun n => by rw [wloop, ec]; simp only [R.fl, if_true, eb]; rfl
      | rt v S' => exact const _ fun n => by rw [wloop, ec]; simp only [R.fl, if_true, eb]; rfl
      | bk ρ' S' => exact const _ fun n => by rw [wloop, ec]; simp only [R.fl, if_true, eb]; rfl
      | er k l ρ' S' => exact const _ fun n => by rw [wloop, ec]; simp only [R.fl, if_true, eb]; rfl
      | bad => exact const _ fun n => by rw [wloop, ec]; simp only [R.fl, if_true, eb]; rfl
end
/-- the same store, or the part that stood ahead -/
def Kept (S S' : Sto) : Prop := ∀ (i : Nat) (o : Ob), S[i]? = some o → S'[i]? = some o
theorem Kept.refl (S : Sto) : Kept S S := fun _ _ e => e
theorem Kept.trans {S S1 S2 : Sto} (a : Kept S S1) (b : Kept S1 S2) : Kept S S2 := fun i o e => b i o (a i o e)
theorem Kept.push (S : Sto) (o : Ob) : Kept S (S ++ [o]) := fun i u e => by
  rw [List.getElem?_append_left (List.getElem?_eq_some_iff.mp e).1]
  exact e
theorem Kept.take {S S' : Sto} (h : Kept S S') : Kept S (S'.take S.length) := fun i o e => by
  rw [List.getElem?_take_of_lt (List.getElem?_eq_some_iff.mp e).1]
  exact h i o e
theorem Kept.set {S S' : Sto} (h : Kept S S') {n : Nat} (hn : S.length ≤ n) (o : Ob) : Kept S (S'.set n o) := fun i u e => by
  have := (List.getElem?_eq_some_iff.mp e).1
  rw [List.getElem?_set_ne (by omega)]
  exact h i u e
theorem Kept.len {S S' : Sto} (h : Kept S S') : S.length ≤ S'.length := by
  cases hs : S.length with
  | zero => omega
  | succ n =>
    have e : S[n]? = some S[n] := List.getElem?_eq_getElem (by omega)
    have := (List.getElem?_eq_some_iff.mp (h n _ e)).1
    omega
/-- values that are no lists -/
def PV.plain : PV → Bool
  | .non => true
  | .bl _ => true
  | .int _ => true
  | .str _ => true
  | _ => false
/-- a def's answer that is no list -/
theorem fin_rt {n : Nat} {v : PV} {S' : Sto} (hv : v.plain = true) : fin n (.rt v S') = .ok v S' ∨ fin n (.rt v S') = .ok v (S'.take n) := by
  cases v <;> first | cases hv | skip
  all_goals
    simp only [fin, fin.finV]
    split
    · exact .inr rfl
    · exact .inl rfl
theorem fin_same {n : Nat} {v : PV} {S' : Sto} (hv : v.plain = true) (hl : S'.length ≤ n) : fin n (.rt v S') = .ok v S' := by
  rcases fin_rt (n := n) (S' := S') hv with h | h
  · exact h
  · rw [h, List.take_of_length_le hl]
/-- .. whatever the def has made -/
theorem fin_kept {S S' : Sto} {v : PV} (hv : v.plain = true) (h : Kept S S') : ∃ S2, fin S.length (.rt v S') = .ok v S2 ∧ Kept S S2 := by
  rcases fin_rt (n := S.length) (S' := S') hv with e | e
  · exact ⟨_, e, h⟩
  · exact ⟨_, e, h.take⟩
section
variable {W : (Sl → Sto → R Bool) → (Sl → Sto → F) → Sl → Sto → F} {C : Nat → List PV → Sto → ERes} {s : St} {r : Ss} {ρ ρ' : Sl} {S S' : Sto} {v : PV}
theorem exs_nx (h : ex W C s ρ S = .nx ρ' S') : exs W C (.cons s r) ρ S = exs W C r ρ' S' := by rw [exs, h]; rfl
theorem exs_rt (h : ex W C s ρ S = .rt v S') : exs W C (.cons s r) ρ S = .rt v S' := by rw [exs, h]; rfl
theorem exs_nil : exs W C .nil ρ S = .nx ρ S := by rw [exs]
theorem ifs_t {c : B} {a b : Ss} (h : evT C c ρ S = .ok true S') : ex W C (.ifs c a b) ρ S = exs W C a ρ S' := by rw [ex, h]; rfl
theorem ifs_f {c : B} {a b : Ss} (h : evT C c ρ S = .ok false S') : ex W C (.ifs c a b) ρ S = exs W C b ρ S' := by rw [ex, h]; rfl
theorem ret_ok {e : E} (h : ev C e ρ S = .ok v S') : ex W C (.ret e) ρ S = .rt v S' := by rw [ex, h]; rfl
theorem asg_ok {i : Nat} {e : E} (h : ev C e ρ S = .ok v S') : ex W C (.asg (.nm i) e) ρ S = .nx (ρ.set i (some (settle v))) S' := by rw [ex, h]; rfl
end
theorem run_def {P : Nat → Option Fn} {n f : Nat} {d : Fn} {as : List PV} {S : Sto} (h : P f = some d) (hl : as.length = d.np) : run P (n + 1) f as S = fin S.length (exs whileM (run P n) d.body (start d.ns as) S) := by
  show runW whileM P (n + 1) f as S = _
  simp only [runW, h, hl, if_true]
end Pm

namespace Pm
/-! the box that a law's draws come from: the two defs that nearly every law has -/
def fn_law_box : Fn := ⟨2, 4, (.cons (.asg (.nm 2) (.bin .add (.bin .mul (.cst (.int 7919)) (.var 1)) (.cst (.int 11)))) (.cons (.ifs (.val (.cmp .lt (.var 1) (.bi .len [(.var 0)]))) (.cons (.asg (.nm 2) (.ix (.var 0) (.var 1))) .nil) (.cons (.ifs (.val (.cmp .gt (.bi .len [(.var 0)]) (.cst (.int 0)))) (.cons (.asg (.nm 2) (.bin .add (.var 2) (.bin .mul (.bin .mod (.ix (.var 0) (.bin .mod (.var 1) (.bi .len [(.var 0)]))) (.cst (.int 2147483629))) (.cst (.int 69623))))) .nil) .nil) .nil)) (.cons (.asg (.nm 3) (.bin .add (.bin .mod (.bin .add (.bin .mul (.bin .mod (.var 2) (.cst (.int 2147483629))) (.cst (.int 48271))) (.bin .mul (.cst (.int 40692)) (.var 1))) (.cst (.int 2147483629))) (.cst (.int 1)))) (.cons (.ret (.lst [(.ix (.lst [(.cst (.int 0)), (.var 2)]) (.bi .int [(.cmp .ge (.var 2) (.bin .pow (.cst (.int 10)) (.cst (.int 18))))])), (.var 3), (.cst (.int 0))])) .nil))))⟩
def fn_law_take : Fn := ⟨2, 4, (.cons (.ifs (.val (.cmp .gt (.ix (.var 0) (.cst (.int 0))) (.cst (.int 0)))) (.cons (.asg (.nm 3) (.bin .mod (.ix (.var 0) (.cst (.int 0))) (.var 1))) (.cons (.asg (.sub (.var 0) (.cst (.int 0))) (.bin .fdiv (.ix (.var 0) (.cst (.int 0))) (.var 1))) (.cons (.ret (.var 3)) .nil))) .nil) (.cons (.asg (.sub (.var 0) (.cst (.int 2))) (.bin .add (.ix (.var 0) (.cst (.int 2))) (.cst (.int 1)))) (.cons (.asg (.nm 2) (.bin .mod (.bin .mul (.bin .add (.ix (.var 0) (.cst (.int 1))) (.bin .mul (.cst (.int 104729)) (.ix (.var 0) (.cst (.int 2))))) (.cst (.int 69623))) (.cst (.int 2147483647)))) (.cons (.asg (.sub (.var 0) (.cst (.int 1))) (.bin .add (.bin .mod (.bin .add (.bin .mul (.var 2) (.cst (.int 48271))) (.cst (.int 30103))) (.cst (.int 2147483629))) (.cst (.int 1)))) (.cons (.ret (.bin .mod (.bin .fdiv (.bin .add (.bin .mul (.var 2) (.cst (.int 2147483647))) (.ix (.var 0) (.cst (.int 1)))) (.cst (.int 8191))) (.var 1))) .nil)))))⟩
theorem mul_c {i j : Int} (h : j.natAbs < 2 ^ 64) : mulOk i j = true := by simp [mulOk, h]
theorem mul_d {i j : Int} (h : i.natAbs < 2 ^ 64) : mulOk i j = true := by simp [mulOk, h]
theorem div_c {j : Int} (h : 0 < j) (h2 : j.natAbs.log2 < 9000) : divOk j = true := by simp [divOk, h, h2]
theorem run_take {P : Nat → Option Fn} (hP : P 3 = some fn_law_take) (n b : Nat) (S : Sto) (a s t many : Int) (hS : S[b]? = some (.lst [.int a, .int s, .int t])) (h0 : 0 < many) (h1 : many.natAbs.log2 < 9000) :
    ∃ d a' s' t' : Int, 0 ≤ d ∧ d < many ∧ run P (n + 1) 3 [.ref b, .int many] S = .ok (.int d) (S.set b (.lst [.int a', .int s', .int t'])) := by
  have hb : b < S.length := (List.getElem?_eq_some_iff.mp hS).1
  by_cases ha : 0 < a
  · refine ⟨a % many, a / many, s, t, Int.emod_nonneg _ (by omega), Int.emod_lt_of_pos _ h0, ?_⟩
    rw [run_def (d := fn_law_take) hP rfl]
    have e : exs whileM (run P n) fn_law_take.body (start fn_law_take.ns [.ref b, .int many]) S = .rt (.int (a % many)) (S.set b (.lst [.int (a / many), .int s, .int t])) := by
      simp [fn_law_take, exs, ex, ev, evs, evT, start, R.bind, R.fl, F.then, settle, getIx, items, hS, pick, place, cmp, tstOf, truth, bin, div_c h0 h1, asgTo, setIx, ha, h0]
    rw [e]
    exact fin_same rfl (by simp)
  · refine ⟨((((s + 104729 * (t + 1)) * 69623 % 2147483647) * 2147483647 + ((((s + 104729 * (t + 1)) * 69623 % 2147483647) * 48271 + 30103) % 2147483629 + 1)) / 8191) % many, a, (((s + 104729 * (t + 1)) * 69623 % 2147483647) * 48271 + 30103) % 2147483629 + 1, t + 1, Int.emod_nonneg _ (by omega), Int.emod_lt_of_pos _ h0, ?_⟩
    rw [run_def (d := fn_law_take) hP rfl]
    have m1 : mulOk 104729 (t + 1) = true := mul_d (by decide)
    have m2 : mulOk (s + 104729 * (t + 1)) 69623 = true := mul_c (by decide)
    have m3 : ∀ x, mulOk x 48271 = true := fun x => mul_c (by decide)
    have m4 : ∀ x, mulOk x 2147483647 = true := fun x => mul_c (by decide)
    have d1 : divOk 8191 = true := by decide
    have hS1 : ∀ o : Ob, (S.set b o)[b]? = some o := fun o => List.getElem?_set_self hb
    have e : exs whileM (run P n) fn_law_take.body (start fn_law_take.ns [.ref b, .int many]) S = .rt (.int (((((s + 104729 * (t + 1)) * 69623 % 2147483647) * 2147483647 + ((((s + 104729 * (t + 1)) * 69623 % 2147483647) * 48271 + 30103) % 2147483629 + 1)) / 8191) % many)) (S.set b (.lst [.int a, .int ((((s + 104729 * (t + 1)) * 69623 % 2147483647) * 48271 + 30103) % 2147483629 + 1), .int (t + 1)])) := by
      simp [fn_law_take, exs, ex, ev, evs, evT, start, R.bind, R.fl, F.then, settle, getIx, items, hS, pick, place, cmp, tstOf, truth, bin, asgTo, setIx, ha, h0, m1, m2, m3, m4, d1, hS1]
    rw [e]
    exact fin_same rfl (by simp)
/-! the box: no matter what the script says -/
theorem run_box {P : Nat → Option Fn} (hP : P 2 = some fn_law_box) (n : Nat) (S : Sto) (ns : List Int) (k : Nat) : ∃ a s : Int, run P (n + 1) 2 [.scr ns, .int k] S = .ok (.new [.int a, .int s, .int 0]) S := by
  rw [run_def (d := fn_law_box) hP rfl]
  have m1 : ∀ x, mulOk x 48271 = true := fun x => mul_c (by decide)
  have m2 : ∀ x, mulOk 40692 x = true := fun x => mul_d (by decide)
  have m3 : ∀ x, mulOk 7919 x = true := fun x => mul_d (by decide)
  have m4 : ∀ x, mulOk x 69623 = true := fun x => mul_c (by decide)
  have p1 : powOk 10 18 = true := by decide
  have ed : ∀ c : Int, ∃ a s : Int, exs whileM (run P n) (.cons (.asg (.nm 3) (.bin .add (.bin .mod (.bin .add (.bin .mul (.bin .mod (.var 2) (.cst (.int 2147483629))) (.cst (.int 48271))) (.bin .mul (.cst (.int 40692)) (.var 1))) (.cst (.int 2147483629))) (.cst (.int 1)))) (.cons (.ret (.lst [(.ix (.lst [(.cst (.int 0)), (.var 2)]) (.bi .int [(.cmp .ge (.var 2) (.bin .pow (.cst (.int 10)) (.cst (.int 18))))])), (.var 3), (.cst (.int 0))])) .nil))
      [some (.scr ns), some (.int k), some (.int c), none] S = .rt (.new [.int a, .int s, .int 0]) S := by
    intro c
    by_cases hc : (1000000000000000000 : Int) ≤ c
    · refine ⟨c, (c % 2147483629 * 48271 + 40692 * k) % 2147483629 + 1, ?_⟩
      simp [exs, ex, ev, evs, R.bind, R.fl, F.then, settle, getIx, items, pick, place, cmp, bin, asgTo, bfn, one, m1, m2, p1, hc, sizeLine]
    · refine ⟨0, (c % 2147483629 * 48271 + 40692 * k) % 2147483629 + 1, ?_⟩
      simp [exs, ex, ev, evs, R.bind, R.fl, F.then, settle, getIx, items, pick, place, cmp, bin, asgTo, bfn, one, m1, m2, p1, hc, sizeLine]
  have fin3 : ∀ a s : Int, fin S.length (.rt (.new [.int a, .int s, .int 0]) S) = .ok (.new [.int a, .int s, .int 0]) S := by
    intro a s
    simp only [fin, fin.finV]
    split
    · rw [List.take_length]
    · rfl
  have st : start fn_law_box.ns [PV.scr ns, PV.int k] = [some (.scr ns), some (.int k), none, none] := rfl
  rw [st]
  have e1 : ∃ c : Int, exs whileM (run P n) fn_law_box.body [some (.scr ns), some (.int k), none, none] S = exs whileM (run P n) (.cons (.asg (.nm 3) (.bin .add (.bin .mod (.bin .add (.bin .mul (.bin .mod (.var 2) (.cst (.int 2147483629))) (.cst (.int 48271))) (.bin .mul (.cst (.int 40692)) (.var 1))) (.cst (.int 2147483629))) (.cst (.int 1)))) (.cons (.ret (.lst [(.ix (.lst [(.cst (.int 0)), (.var 2)]) (.bi .int [(.cmp .ge (.var 2) (.bin .pow (.cst (.int 10)) (.cst (.int 18))))])), (.var 3), (.cst (.int 0))])) .nil)) [some (.scr ns), some (.int k), some (.int c), none] S := by
    simp only [fn_law_box]
    rw [exs_nx (ρ' := [some (.scr ns), some (.int k), some (.int (7919 * k + 11)), none]) (S' := S) (by simp [ex, ev, R.bind, R.fl, settle, bin, asgTo, m3])]
    by_cases h1 : (k : Int) < (ns.length : Int)
    · have hk : k < ns.length := by omega
      have g : getIx (.scr ns) (.int (k : Int)) S = .ok (.int ns[k]) S := by
        have z : ¬ ((k : Int) < 0) := by omega
        simp [getIx, items, pick, place, h1, hk, z]
      refine ⟨ns[k], ?_⟩
      rw [exs_nx (ρ' := [some (.scr ns), some (.int k), some (.int ns[k]), none]) (S' := S)]
      rw [ifs_t (S' := S) (by simp [ev, evs, evT, R.bind, settle, cmp, bfn, one, opt, lenOf, items, tstOf, truth, h1]), exs_nx (ρ' := [some (.scr ns), some (.int k), some (.int ns[k]), none]) (S' := S) (by simp [ex, ev, R.bind, R.fl, settle, asgTo, g]), exs_nil]
    · by_cases h2 : 0 < ns.length
      · have hm : k % ns.length < ns.length := Nat.mod_lt _ h2
        have e : ((k : Int) % (ns.length : Int)) = ((k % ns.length : Nat) : Int) := by omega
        have hm2 : ((k % ns.length : Nat) : Int) < (ns.length : Int) := by omega
        have hp : (0 : Int) < ns.length := by omega
        refine ⟨7919 * k + 11 + ns[k % ns.length] % 2147483629 * 69623, ?_⟩
        rw [exs_nx (ρ' := [some (.scr ns), some (.int k), some (.int (7919 * k + 11 + ns[k % ns.length] % 2147483629 * 69623)), none]) (S' := S)]
        rw [ifs_f (S' := S) (by simp [ev, evs, evT, R.bind, settle, cmp, bfn, one, opt, lenOf, items, tstOf, truth, h1]), exs_nx (ρ' := [some (.scr ns), some (.int k), some (.int (7919 * k + 11 + ns[k % ns.length] % 2147483629 * 69623)), none]) (S' := S), exs_nil]
        rw [ifs_t (S' := S) (by simp [ev, evs, evT, R.bind, settle, cmp, bfn, one, opt, lenOf, items, tstOf, truth, hp, h2]), exs_nx (ρ' := [some (.scr ns), some (.int k), some (.int (7919 * k + 11 + ns[k % ns.length] % 2147483629 * 69623)), none]) (S' := S), exs_nil]
        have g : getIx (.scr ns) (.int ((k : Int) % (ns.length : Int))) S = .ok (.int ns[k % ns.length]) S := by
          rw [e]
          have z : ¬ (((k % ns.length : Nat) : Int) < 0) := by omega
          simp only [getIx, items, pick, place, List.length_map, if_neg z]
          rw [if_pos ⟨by omega, hm2⟩]
          simp only [Int.toNat_natCast, List.getElem?_map, List.getElem?_eq_getElem hm, Option.map_some]
        simp [ex, ev, evs, R.bind, R.fl, settle, asgTo, bin, bfn, one, opt, lenOf, items, m4, g, hp, h2]
      · refine ⟨7919 * k + 11, ?_⟩
        rw [exs_nx (ρ' := [some (.scr ns), some (.int k), some (.int (7919 * k + 11)), none]) (S' := S)]
        rw [ifs_f (S' := S) (by simp [ev, evs, evT, R.bind, settle, cmp, bfn, one, opt, lenOf, items, tstOf, truth, h1]), exs_nx (ρ' := [some (.scr ns), some (.int k), some (.int (7919 * k + 11)), none]) (S' := S), exs_nil]
        have hn : ¬ (0 : Int) < ns.length := by omega
        rw [ifs_f (S' := S) (by simp [ev, evs, evT, R.bind, settle, cmp, bfn, one, opt, lenOf, items, tstOf, truth, hn, h2]), exs_nil]
  obtain ⟨c, e1⟩ := e1
  obtain ⟨a, s, e⟩ := ed c
  exact ⟨a, s, by rw [e1, e]; exact fin3 a s⟩

def Bx (S : Sto) (b : Nat) : Prop := ∃ a s t : Int, S[b]? = some (.lst [.int a, .int s, .int t])
/-- the box at b goes on, all else stands as it stood, more may have come -/
def Up (b : Nat) (S S' : Sto) : Prop := Bx S' b ∧ S.length ≤ S'.length ∧ ∀ (i : Nat) (o : Ob), i ≠ b → S[i]? = some o → S'[i]? = some o
theorem Up.refl {b : Nat} {S : Sto} (h : Bx S b) : Up b S S := ⟨h, Nat.le_refl _, fun _ _ _ e => e⟩
theorem Up.trans {b : Nat} {S S1 S2 : Sto} (h : Up b S S1) (g : Up b S1 S2) : Up b S S2 := ⟨g.1, Nat.le_trans h.2.1 g.2.1, fun i o hi e => g.2.2 i o hi (h.2.2 i o hi e)⟩
theorem Bx.lt {b : Nat} {S : Sto} (h : Bx S b) : b < S.length := by
  obtain ⟨a, s, t, e⟩ := h
  exact (List.getElem?_eq_some_iff.mp e).1
/-- a new list behind -/
theorem Up.push {b : Nat} {S : Sto} (h : Bx S b) (o : Ob) : Up b S (S ++ [o]) := by
  refine ⟨?_, by simp, fun i u _ e => ?_⟩
  · obtain ⟨a, s, t, e⟩ := h
    exact ⟨a, s, t, by rw [List.getElem?_append_left (List.getElem?_eq_some_iff.mp e).1]; exact e⟩
  · rw [List.getElem?_append_left (List.getElem?_eq_some_iff.mp e).1]
    exact e
/-- a write behind what stood -/
theorem Up.set {b n : Nat} {S S1 : Sto} (hb : b < S.length) (h : Up b S S1) (hn : S.length ≤ n) (o : Ob) : Up b S (S1.set n o) := by
  refine ⟨?_, by rw [List.length_set]; exact h.2.1, fun i u hi e => ?_⟩
  · obtain ⟨a, s, t, e⟩ := h.1
    exact ⟨a, s, t, by rw [List.getElem?_set_ne (by omega)]; exact e⟩
  · have := (List.getElem?_eq_some_iff.mp e).1
    rw [List.getElem?_set_ne (by omega)]
    exact h.2.2 i u hi e
theorem Up.take {b : Nat} {S S1 : Sto} (hb : b < S.length) (h : Up b S S1) : Up b S (S1.take S.length) := by
  refine ⟨?_, by rw [List.length_take]; have := h.2.1; omega, fun i u hi e => ?_⟩
  · obtain ⟨a, s, t, e⟩ := h.1
    exact ⟨a, s, t, by rw [List.getElem?_take_of_lt hb]; exact e⟩
  · have := (List.getElem?_eq_some_iff.mp e).1
    rw [List.getElem?_take_of_lt this]
    exact h.2.2 i u hi e
theorem take_up {P : Nat → Option Fn} (hP : P 3 = some fn_law_take) (n : Nat) {b : Nat} {S : Sto} (many : Int) (hS : Bx S b) (h0 : 0 < many) (h1 : many.natAbs.log2 < 9000) : ∃ (d : Int) (S' : Sto), 0 ≤ d ∧ d < many ∧ run P (n + 1) 3 [.ref b, .int many] S = .ok (.int d) S' ∧ Up b S S' := by
  obtain ⟨a, s, t, e⟩ := hS
  obtain ⟨d, a', s', t', g1, g2, g3⟩ := run_take hP n b S a s t many e h0 h1
  exact ⟨d, _, g1, g2, g3, ⟨a', s', t', List.getElem?_set_self (List.getElem?_eq_some_iff.mp e).1⟩, by simp, fun i o hi e => by rw [List.getElem?_set_ne (Ne.symm hi)]; exact e⟩
theorem log2_small {m : Int} (h0 : 0 ≤ m) (h : m ≤ 1000000000000000000) : m.natAbs.log2 < 9000 := by
  by_cases hm : m.natAbs = 0
  · rw [hm]; decide
  · have : m.natAbs.log2 < 60 := (Nat.log2_lt hm).mpr (by have e : (2 : Nat) ^ 60 = 1152921504606846976 := rfl; omega)
    omega
theorem get_ints (S : Sto) (l : List Int) (d : Int) (h0 : 0 ≤ d) (h1 : d.toNat < l.length) : getIx (.lst (l.map .int)) (.int d) S = .ok (.int l[d.toNat]) S := by
  simp only [getIx, items, pick, place, List.length_map, if_neg (show ¬ d < 0 by omega)]
  rw [if_pos ⟨h0, by omega⟩]
  simp only [List.getElem?_map, List.getElem?_eq_getElem h1, Option.map_some]
theorem get_at (S : Sto) {a : PV} {l : List PV} (ha : items S a = some l) (d : Nat) (h1 : d < l.length) : getIx a (.int d) S = .ok l[d] S := by
  simp only [getIx, ha, pick, place, if_neg (show ¬ ((d : Int) < 0) by omega)]
  rw [if_pos ⟨by omega, by omega⟩]
  simp only [Int.toNat_natCast, List.getElem?_eq_getElem h1]
theorem while_t {c : Sl → Sto → R Bool} {b : Sl → Sto → F} {ρ ρ' : Sl} {S S1 S' : Sto} (h : c ρ S = .ok true S1) (hb : b ρ S1 = .nx ρ' S') : whileM c b ρ S = whileM c b ρ' S' := by
  rw [while_unfold, h]
  show (b ρ S1).turn (whileM c b) = _
  rw [hb]
  rfl
theorem while_f {c : Sl → Sto → R Bool} {b : Sl → Sto → F} {ρ : Sl} {S S1 : Sto} (h : c ρ S = .ok false S1) : whileM c b ρ S = .nx ρ S1 := by
  rw [while_unfold, h]
  rfl
theorem whl_ex {W : (Sl → Sto → R Bool) → (Sl → Sto → F) → Sl → Sto → F} {C : Nat → List PV → Sto → ERes} {c : B} {b : Ss} {ρ : Sl} {S : Sto} : ex W C (.whl c b) ρ S = W (fun ρ S => evT C c ρ S) (fun ρ S => exs W C b ρ S) ρ S := by rw [ex]
/-- a def's answer, a tuple: what it has made may be dropped -/
theorem fin_up {b : Nat} {S S1 : Sto} {v : PV} (hv : ∀ k, v ≠ .ref k) (hb : b < S.length) (h : Up b S S1) : ∃ S2, fin S.length (.rt v S1) = .ok v S2 ∧ Up b S S2 := by
  cases v <;> first | (exact absurd rfl (hv _)) | skip
  all_goals
    simp only [fin, fin.finV]
    split
    · exact ⟨_, rfl, h.take hb⟩
    · exact ⟨_, rfl, h⟩
end Pm

namespace LawK45
open Pm
def fn_tree_worth : Fn := ⟨3, 3, (.cons (.ifs (.val (.cmp .eq (.ix (.var 1) (.cst (.int 0))) (.cst (.str [108, 101, 97, 102])))) (.cons (.ret (.ix (.var 2) (.ix (.var 1) (.cst (.int 1))))) .nil) .nil) (.cons (.ret (.ix (.ix (.var 1) (.cst (.int 1))) (.bin .add (.bin .mul (.call 266 [(.var 0), (.ix (.var 1) (.cst (.int 2))), (.var 2)] []) (.var 0)) (.call 266 [(.var 0), (.ix (.var 1) (.cst (.int 3))), (.var 2)] [])))) .nil))⟩
def fn_law_table : Fn := ⟨2, 5, (.cons (.asg (.nm 2) (.call 3 [(.var 0), (.cst (.int 6))] [])) (.cons (.ifs (.val (.cmp .eq (.var 2) (.cst (.int 0)))) (.cons (.asg (.nm 3) (.box (.bin .mul (.lst [(.call 3 [(.var 0), (.var 1)] [])]) (.bin .mul (.var 1) (.var 1))))) (.cons (.asg (.sub (.var 3) (.call 3 [(.var 0), (.bin .mul (.var 1) (.var 1))] [])) (.call 3 [(.var 0), (.var 1)] [])) (.cons (.ret (.bi .tuple [(.var 3)])) .nil))) .nil) (.cons (.ret (.bi .tuple [(.comp (.call 3 [(.var 0), (.var 1)] []) (.nm 4) (.rng1 (.bin .mul (.var 1) (.var 1))) none)])) .nil)))⟩
def fn_law_tree : Fn := ⟨4, 8, (.cons (.asg (.nm 4) (.call 3 [(.var 0), (.cst (.int 6))] [])) (.cons (.ifs (.or (.val (.cmp .eq (.var 2) (.cst (.int 0)))) (.val (.cmp .eq (.var 4) (.cst (.int 0))))) (.cons (.ret (.tup [(.cst (.str [108, 101, 97, 102])), (.call 3 [(.var 0), (.var 3)] [])])) .nil) .nil) (.cons (.asg (.nm 5) (.call 260 [(.var 0), (.var 1)] [])) (.cons (.asg (.nm 6) (.call 267 [(.var 0), (.var 1), (.bin .sub (.var 2) (.cst (.int 1))), (.var 3)] [])) (.cons (.asg (.nm 7) (.call 267 [(.var 0), (.var 1), (.bin .sub (.var 2) (.cst (.int 1))), (.var 3)] [])) (.cons (.ret (.bin .add (.tup [(.cst (.str [110, 111, 100, 101])), (.var 5)]) (.ix (.lst [(.tup [(.var 6), (.var 7)]), (.tup [(.var 7), (.var 6)])]) (.call 3 [(.var 0), (.cst (.int 2))] [])))) .nil))))))⟩
def fn_law_worth_V2 : Fn := ⟨3, 8, (.cons (.asg (.tu [3, 4]) (.tup [(.box (.lst [(.var 1)])), (.box (.lst []))])) (.cons (.whl (.val (.cmp .gt (.bi .len [(.var 3)]) (.cst (.int 0)))) (.cons (.asg (.nm 5) (.mt .pop (.var 3) [])) (.cons (.ifs (.val (.cmp .eq (.ix (.var 5) (.cst (.int 0))) (.cst (.str [108, 101, 97, 102])))) (.cons (.ex (.mt .append (.var 4) [(.ix (.var 2) (.ix (.var 5) (.cst (.int 1))))])) .nil) (.cons (.ifs (.val (.cmp .eq (.ix (.var 5) (.cst (.int 0))) (.cst (.str [110, 111, 100, 101])))) (.cons (.ex (.mt .extend (.var 3) [(.lst [(.tup [(.cst (.str [116, 97, 98, 108, 101])), (.ix (.var 5) (.cst (.int 1)))]), (.ix (.var 5) (.cst (.int 2))), (.ix (.var 5) (.cst (.int 3)))])])) .nil) (.cons (.asg (.tu [6, 7]) (.tup [(.mt .pop (.var 4) []), (.mt .pop (.var 4) [])])) (.cons (.ex (.mt .append (.var 4) [(.ix (.ix (.var 5) (.cst (.int 1))) (.bin .add (.bin .mul (.var 6) (.var 0)) (.var 7)))])) .nil))) .nil)) .nil))) (.cons (.ret (.mt .pop (.var 4) [])) .nil)))⟩
def fn_law_V38 : Fn := ⟨1, 13, (.cons (.asg (.nm 1) (.box (.lst []))) (.cons (.for (.nm 2) (.rng1 (.cst (.int 2))) (.cons (.asg (.nm 3) (.box (.call 2 [(.var 0), (.var 2)] []))) (.cons (.asg (.nm 4) (.bin .add (.cst (.int 2)) (.call 3 [(.var 3), (.cst (.int 3))] []))) (.cons (.asg (.nm 5) (.ix (.lst [(.cst (.int 8)), (.cst (.int 4))]) (.bi .int [(.cmp .gt (.var 4) (.cst (.int 2)))]))) (.cons (.asg (.nm 6) (.call 267 [(.var 3), (.var 4), (.ix (.lst [(.cst (.int 3)), (.cst (.int 2))]) (.bi .int [(.cmp .gt (.var 4) (.cst (.int 2)))])), (.var 5)] [])) (.cons (.asg (.nm 7) (.comp (.bi .tuple [(.comp (.call 3 [(.var 3), (.var 4)] []) (.nm 12) (.rng1 (.var 5)) none)]) (.nmw 10 [12]) (.rng1 (.cst (.int 4))) none)) (.cons (.ex (.mt .extend (.var 1) [(.comp (.tup [(.var 4), (.var 11), (.var 7)]) (.nm 11) (.vals (.bin .add (.tup [(.var 6)]) (.sl (.var 6) (some (.cst (.int 2))) none))) none)])) .nil))))))) (.cons (.for (.tu [4, 6, 7]) (.vals (.bin .add (.var 1) (.sl (.var 1) none (some (.cst (.int 1)))))) (.cons (.for (.nm 8) (.vals (.var 7)) (.cons (.asg (.nm 9) (.call 266 [(.var 4), (.var 6), (.var 8)] [])) (.cons (.ifs (.or (.not (.val (.bi (.isi .int) [(.var 9)]))) (.or (.val (.bi (.isi .bool) [(.var 9)])) (.val (.cmp .ne (.var 9) (.call 268 [(.var 4), (.var 6), (.var 8)] []))))) (.cons (.ret (.cst (.bl false))) .nil) .nil) .nil))) .nil)) (.cons (.ret (.cst (.bl true))) .nil))))⟩
def prog : Nat → Option Fn
  | 266 => some fn_tree_worth
  | 2 => some fn_law_box
  | 3 => some fn_law_take
  | 260 => some fn_law_table
  | 267 => some fn_law_tree
  | 268 => some fn_law_worth_V2
  | 269 => some fn_law_V38
  | _ => none
end LawK45

namespace LawK45
open Pm
inductive Tree where
  | leaf (i : Nat)
  | node (t : List Int) (a b : Tree)
def leafS : List Nat := [108, 101, 97, 102]
def nodeS : List Nat := [110, 111, 100, 101]
def enc : Tree → PV
  | .leaf i => .tup [.str leafS, .int i]
  | .node t a b => .tup [.str nodeS, .tup (t.map .int), enc a, enc b]
def wf (k many : Nat) : Tree → Prop
  | .leaf i => i < many
  | .node t a b => t.length = k * k ∧ (∀ x ∈ t, 0 ≤ x ∧ x < k) ∧ wf k many a ∧ wf k many b
def val (k : Nat) (vs : List Int) : Tree → Int
  | .leaf i => vs.getD i 0
  | .node t a b => t.getD (val k vs a * k + val k vs b).toNat 0
def ht : Tree → Nat
  | .leaf _ => 0
  | .node _ a b => max (ht a) (ht b) + 1
def sz : Tree → Nat
  | .leaf _ => 1
  | .node _ a b => sz a + sz b + 2
theorem sz_ht : ∀ t : Tree, sz t + 2 ≤ 3 * 2 ^ ht t
  | .leaf _ => by simp [sz, ht]
  | .node _ a b => by
    have h1 := sz_ht a
    have h2 := sz_ht b
    have p1 : 2 ^ ht a ≤ 2 ^ max (ht a) (ht b) := Nat.pow_le_pow_right (by omega) (Nat.le_max_left _ _)
    have p2 : 2 ^ ht b ≤ 2 ^ max (ht a) (ht b) := Nat.pow_le_pow_right (by omega) (Nat.le_max_right _ _)
    simp only [sz, ht, Nat.pow_succ]
    omega
theorem idx_lt {k : Nat} {x y : Int} (h1 : 0 ≤ x) (h2 : x < k) (h3 : 0 ≤ y) (h4 : y < k) : 0 ≤ x * k + y ∧ (x * k + y).toNat < k * k := by
  have e : (x * k + y) = ((x.toNat * k + y.toNat : Nat) : Int) := by
    rw [Int.natCast_add, Int.natCast_mul, Int.toNat_of_nonneg h1, Int.toNat_of_nonneg h3]
  have a : x.toNat + 1 ≤ k := by omega
  have b : (x.toNat + 1) * k ≤ k * k := Nat.mul_le_mul_right k a
  rw [Nat.add_mul] at b
  refine ⟨by rw [e]; omega, ?_⟩
  rw [e, Int.toNat_natCast]
  omega
theorem val_in {k many : Nat} {vs : List Int} (hk : 0 < k) (hv : vs.length = many) (hr : ∀ x ∈ vs, 0 ≤ x ∧ x < k) : ∀ t : Tree, wf k many t → 0 ≤ val k vs t ∧ val k vs t < k
  | .leaf i, h => by
    have hi : i < vs.length := by rw [hv]; exact h
    simp only [val, List.getD_eq_getElem?_getD, List.getElem?_eq_getElem hi, Option.getD_some]
    exact hr _ (List.getElem_mem hi)
  | .node t a b, h => by
    obtain ⟨h1, h2, h3, h4⟩ := h
    obtain ⟨a0, a1⟩ := val_in hk hv hr a h3
    obtain ⟨b0, b1⟩ := val_in hk hv hr b h4
    obtain ⟨i0, i1⟩ := idx_lt a0 a1 b0 b1
    rw [← h1] at i1
    simp only [val, List.getD_eq_getElem?_getD, List.getElem?_eq_getElem i1, Option.getD_some]
    exact h2 _ (List.getElem_mem i1)
theorem get_tab {S : Sto} (l : List Int) (d : Int) (h0 : 0 ≤ d) (h1 : d.toNat < l.length) : getIx (.tup (l.map .int)) (.int d) S = .ok (.int (l.getD d.toNat 0)) S := by
  simp only [getIx, items, pick, place, List.length_map, if_neg (show ¬ d < 0 by omega)]
  rw [if_pos ⟨h0, by omega⟩]
  simp only [List.getElem?_map, List.getElem?_eq_getElem h1, Option.map_some, List.getD_eq_getElem?_getD, Option.getD_some]
section
variable {C : Nat → List PV → Sto → ERes} {ρ : Sl} {S S1 S2 : Sto} {x y : PV} {r : ERes}
theorem bin_ok {op : Op} {a b : E} (h1 : ev C a ρ S = .ok x S1) (h2 : ev C b ρ S1 = .ok y S2) (h3 : bin op (settle x) (settle y) S2 = r) : ev C (.bin op a b) ρ S = r := by
  rw [ev, h1]
  show (ev C b ρ S1).bind _ = r
  rw [h2]
  exact h3
theorem ix_ok {a b : E} (h1 : ev C a ρ S = .ok x S1) (h2 : ev C b ρ S1 = .ok y S2) (h3 : getIx (settle x) (settle y) S2 = r) : ev C (.ix a b) ρ S = r := by
  rw [ev, h1]
  show (ev C b ρ S1).bind _ = r
  rw [h2]
  exact h3
end
theorem se_int (i : Int) : settle (.int i) = .int i := rfl
theorem se_tup (l : List PV) : settle (.tup l) = .tup l := rfl
theorem se_str (l : List Nat) : settle (.str l) = .str l := rfl
theorem se_enc (t : Tree) : settle (enc t) = enc t := by cases t <;> rfl
theorem worth_ok {k many : Nat} {vs : List Int} (hk : 0 < k) (hk4 : k ≤ 4) (hv : vs.length = many) (hr : ∀ x ∈ vs, 0 ≤ x ∧ x < k) : ∀ (t : Tree) (n : Nat) (S : Sto), wf k many t → ht t < n →
    run prog n 266 [.int k, enc t, .tup (vs.map .int)] S = .ok (.int (val k vs t)) S
  | .leaf i, n, S, h, hn => by
    obtain ⟨n, rfl⟩ : ∃ m, n = m + 1 := ⟨n - 1, by omega⟩
    have hi : i < vs.length := by rw [hv]; exact h
    have g := get_tab (S := S) vs i (by omega) (by simpa using hi)
    rw [Int.toNat_natCast] at g
    rw [run_def (d := fn_tree_worth) rfl rfl]
    have st : start fn_tree_worth.ns [PV.int k, enc (.leaf i), PV.tup (vs.map .int)] = [some (.int k), some (.tup [.str leafS, .int i]), some (.tup (vs.map .int))] := rfl
    rw [st]
    simp only [fn_tree_worth]
    rw [exs_rt (v := .int (val k vs (.leaf i))) (S' := S) (by
      rw [ifs_t (S' := S) (by simp [evT, ev, R.bind, settle, getIx, items, pick, place, cmp, look, eqOk, scal, kind, eqv, tstOf, truth, leafS])]
      exact exs_rt (ret_ok (by simp only [ev, R.bind, settle, List.getElem?_cons_succ, List.getElem?_cons_zero]; simp [getIx, items, pick, place, R.bind, settle] at g ⊢; exact g)))]
    exact fin_same rfl (Nat.le_refl _)
  | .node t a b, n, S, h, hn => by
    obtain ⟨n, rfl⟩ : ∃ m, n = m + 1 := ⟨n - 1, by omega⟩
    obtain ⟨h1, h2, h3, h4⟩ := h
    simp only [ht] at hn
    have ea := worth_ok hk hk4 hv hr a n S h3 (by omega)
    have eb := worth_ok hk hk4 hv hr b n S h4 (by omega)
    obtain ⟨a0, a1⟩ := val_in hk hv hr a h3
    obtain ⟨b0, b1⟩ := val_in hk hv hr b h4
    obtain ⟨i0, i1⟩ := idx_lt a0 a1 b0 b1
    have g := get_tab (S := S) t _ i0 (by rw [h1]; exact i1)
    have m1 : ∀ x, mulOk x (k : Int) = true := fun x => mul_c (by omega)
    rw [run_def (d := fn_tree_worth) rfl rfl]
    have st : start fn_tree_worth.ns [PV.int k, enc (.node t a b), PV.tup (vs.map .int)] = [some (.int k), some (.tup [.str nodeS, .tup (t.map .int), enc a, enc b]), some (.tup (vs.map .int))] := rfl
    rw [st]
    simp only [fn_tree_worth]
    rw [exs_nx (ρ' := [some (.int k), some (.tup [.str nodeS, .tup (t.map .int), enc a, enc b]), some (.tup (vs.map .int))]) (S' := S) (by
      rw [ifs_f (S' := S) (by simp [evT, ev, R.bind, settle, getIx, items, pick, place, cmp, look, eqOk, scal, kind, eqv, tstOf, truth, nodeS]), exs_nil])]
    have sa : settle (enc a) = enc a := by cases a <;> rfl
    have sb : settle (enc b) = enc b := by cases b <;> rfl
    rw [exs_rt (v := .int (val k vs (.node t a b))) (S' := S) (ret_ok ?_)]
    · exact fin_same rfl (Nat.le_refl _)
    · have q1 : ∀ C, ev C (.ix (.var 1) (.cst (.int 1))) [some (.int k), some (.tup [.str nodeS, .tup (t.map .int), enc a, enc b]), some (.tup (vs.map .int))] S = .ok (.tup (t.map .int)) S := fun C => by simp [ev, R.bind, settle, getIx, items, pick, place]
      have q2 : ev (run prog n) (.call 266 [(.var 0), (.ix (.var 1) (.cst (.int 2))), (.var 2)] []) [some (.int k), some (.tup [.str nodeS, .tup (t.map .int), enc a, enc b]), some (.tup (vs.map .int))] S = .ok (.int (val k vs a)) S := by
        simp [ev, evs, R.bind, se_int, se_tup, se_enc, getIx, items, pick, place]
        exact ea
      have q3 : ev (run prog n) (.call 266 [(.var 0), (.ix (.var 1) (.cst (.int 3))), (.var 2)] []) [some (.int k), some (.tup [.str nodeS, .tup (t.map .int), enc a, enc b]), some (.tup (vs.map .int))] S = .ok (.int (val k vs b)) S := by
        simp [ev, evs, R.bind, se_int, se_tup, se_enc, getIx, items, pick, place]
        exact eb
      have q0 : ev (run prog n) (.var 0) [some (.int k), some (.tup [.str nodeS, .tup (t.map .int), enc a, enc b]), some (.tup (vs.map .int))] S = .ok (.int k) S := by simp [ev]
      have z4 : bin .mul (settle (.int (val k vs a))) (settle (.int k)) S = .ok (.int (val k vs a * k)) S := by
        show (if mulOk (val k vs a) k = true then R.ok (PV.int (val k vs a * k)) S else R.bad) = _
        rw [if_pos (m1 _)]
      have z5 : bin .add (settle (.int (val k vs a * k))) (settle (.int (val k vs b))) S = .ok (.int (val k vs a * k + val k vs b)) S := rfl
      have q5 := bin_ok (bin_ok q2 q0 z4) q3 z5
      have z6 : getIx (settle (.tup (t.map .int))) (settle (.int (val k vs a * k + val k vs b))) S = .ok (.int (val k vs (.node t a b))) S := g
      exact ix_ok (q1 _) q5 z6
end LawK45

namespace LawK45
open Pm
theorem pop_ok {C : Nat → List PV → Sto → ERes} {i n : Nat} {ρ : Sl} {S : Sto} {L : List PV} {x : PV} (h : ρ[i]? = some (some (.ref n))) (hS : S[n]? = some (.lst (L ++ [x]))) : ev C (.mt .pop (.var i) []) ρ S = .ok x (S.set n (.lst L)) := by
  simp [ev, evs, R.bind, h, isRef, hS, mtf]
theorem app_ok {C : Nat → List PV → Sto → ERes} {i n : Nat} {e : E} {ρ : Sl} {S S1 : Sto} {p : PV} {l l1 : List PV} (h1 : ρ[i]? = some (some (.ref n))) (hS : S[n]? = some (.lst l)) (he : ev C e ρ S = .ok p S1) (hS1 : S1[n]? = some (.lst l1)) (hl : l1.length < sizeLine) :
    ex whileM C (.ex (.mt .append (.var i) [e])) ρ S = .nx ρ (S1.set n (.lst (l1 ++ [settle p]))) := by
  simp [ex, ev, evs, R.bind, R.fl, h1, isRef, hS, he, mtf, hS1, hl]
theorem ext_ok {C : Nat → List PV → Sto → ERes} {i n : Nat} {e : E} {ρ : Sl} {S S1 : Sto} {z : List PV} {l l1 : List PV} (h1 : ρ[i]? = some (some (.ref n))) (hS : S[n]? = some (.lst l)) (he : ev C e ρ S = .ok (.new z) S1) (hS1 : S1[n]? = some (.lst l1)) (hl : l1.length + z.length ≤ sizeLine) :
    ex whileM C (.ex (.mt .extend (.var i) [e])) ρ S = .nx ρ (S1.set n (.lst (l1 ++ z))) := by
  simp [ex, ev, evs, R.bind, R.fl, h1, isRef, hS, he, mtf, hS1, hl, settle]
def put (S : Sto) (p q : Nat) (l r : List PV) : Sto := (S.set p (.lst l)).set q (.lst r)
section
variable {S : Sto} {p q : Nat} {l r l' r' : List PV}
theorem put_p (hp : p < S.length) (hpq : p ≠ q) : (put S p q l r)[p]? = some (.lst l) := by
  unfold put
  rw [List.getElem?_set_ne (Ne.symm hpq), List.getElem?_set_self hp]
theorem put_q (hq : q < S.length) : (put S p q l r)[q]? = some (.lst r) := by
  unfold put
  rw [List.getElem?_set_self (by rw [List.length_set]; exact hq)]
theorem put_sp (hpq : p ≠ q) : (put S p q l r).set p (.lst l') = put S p q l' r := by
  unfold put
  rw [List.set_comm _ _ (Ne.symm hpq), List.set_set]
theorem put_sq : (put S p q l r).set q (.lst r') = put S p q l r' := by
  unfold put
  rw [List.set_set]
end
abbrev wc (C : Nat → List PV → Sto → ERes) : Sl → Sto → R Bool := fun ρ S => evT C (.val (.cmp .gt (.bi .len [(.var 3)]) (.cst (.int 0)))) ρ S
noncomputable abbrev wb (C : Nat → List PV → Sto → ERes) : Sl → Sto → F := fun ρ S => exs whileM C (.cons (.asg (.nm 5) (.mt .pop (.var 3) [])) (.cons (.ifs (.val (.cmp .eq (.ix (.var 5) (.cst (.int 0))) (.cst (.str [108, 101, 97, 102])))) (.cons (.ex (.mt .append (.var 4) [(.ix (.var 2) (.ix (.var 5) (.cst (.int 1))))])) .nil) (.cons (.ifs (.val (.cmp .eq (.ix (.var 5) (.cst (.int 0))) (.cst (.str [110, 111, 100, 101])))) (.cons (.ex (.mt .extend (.var 3) [(.lst [(.tup [(.cst (.str [116, 97, 98, 108, 101])), (.ix (.var 5) (.cst (.int 1)))]), (.ix (.var 5) (.cst (.int 2))), (.ix (.var 5) (.cst (.int 3)))])])) .nil) (.cons (.asg (.tu [6, 7]) (.tup [(.mt .pop (.var 4) []), (.mt .pop (.var 4) [])])) (.cons (.ex (.mt .append (.var 4) [(.ix (.ix (.var 5) (.cst (.int 1))) (.bin .add (.bin .mul (.var 6) (.var 0)) (.var 7)))])) .nil))) .nil)) .nil)) ρ S
theorem wc_t {C : Nat → List PV → Sto → ERes} {S : Sto} {p : Nat} {a b c d e f g : Option PV} {l : List PV} (hS : S[p]? = some (.lst l)) (hl : 0 < l.length) : wc C [a, b, c, some (.ref p), d, e, f, g] S = .ok true S := by
  simp [wc, evT, ev, evs, R.bind, settle, bfn, one, opt, lenOf, items, hS, cmp, tstOf, truth, hl]
theorem wc_f {C : Nat → List PV → Sto → ERes} {S : Sto} {p : Nat} {a b c d e f g : Option PV} (hS : S[p]? = some (.lst [])) : wc C [a, b, c, some (.ref p), d, e, f, g] S = .ok false S := by
  simp [wc, evT, ev, evs, R.bind, settle, bfn, one, opt, lenOf, items, hS, cmp, tstOf, truth]
theorem mach {C : Nat → List PV → Sto → ERes} {k many : Nat} {vs : List Int} (hk : 0 < k) (hk4 : k ≤ 4) (hv : vs.length = many) (hr : ∀ x ∈ vs, 0 ≤ x ∧ x < k) (S : Sto) (p q : Nat) (hp : p < S.length) (hq : q < S.length) (hpq : p ≠ q) (tr : Option PV) :
    ∀ (t : Tree) (L Rd : List PV) (o5 o6 o7 : Option PV), wf k many t → L.length + 3 * sz t ≤ 1000 → Rd.length + sz t ≤ 1000 → ∃ o5' o6' o7', whileM (wc C) (wb C) [some (.int k), tr, some (.tup (vs.map .int)), some (.ref p), some (.ref q), o5, o6, o7] (put S p q (L ++ [enc t]) Rd)
      = whileM (wc C) (wb C) [some (.int k), tr, some (.tup (vs.map .int)), some (.ref p), some (.ref q), o5', o6', o7'] (put S p q L (Rd ++ [.int (val k vs t)]))
  | .leaf i, L, Rd, o5, o6, o7, h, hL, hR => by
    simp only [sz] at hL hR
    have hi : i < vs.length := by rw [hv]; exact h
    have g := get_tab (S := put S p q L Rd) vs i (by omega) (by simpa using hi)
    rw [Int.toNat_natCast] at g
    have hz : Rd.length < sizeLine := by show Rd.length < 16777216; omega
    refine ⟨some (enc (.leaf i)), o6, o7, ?_⟩
    rw [while_t (wc_t (put_p hp hpq) (by simp)) ]
    show exs whileM C _ _ _ = _
    rw [exs_nx (asg_ok (pop_ok rfl (put_p hp hpq)))]
    rw [put_sp hpq]
    simp only [List.set, se_enc]
    rw [exs_nx (ρ' := [some (.int k), tr, some (.tup (vs.map .int)), some (.ref p), some (.ref q), some (enc (.leaf i)), o6, o7]) (S' := put S p q L (Rd ++ [.int (val k vs (.leaf i))])), exs_nil]
    rw [ifs_t (S' := put S p q L Rd) (by simp [evT, ev, R.bind, enc, settle, getIx, items, pick, place, cmp, look, eqOk, scal, kind, eqv, tstOf, truth, leafS])]
    have e : ev C (.ix (.var 2) (.ix (.var 5) (.cst (.int 1)))) [some (.int k), tr, some (.tup (vs.map .int)), some (.ref p), some (.ref q), some (enc (.leaf i)), o6, o7] (put S p q L Rd) = .ok (.int (val k vs (.leaf i))) (put S p q L Rd) := by
      refine ix_ok (x := .tup (vs.map .int)) (y := .int i) (S1 := put S p q L Rd) (S2 := put S p q L Rd) (by simp [ev]) ?_ g
      exact ix_ok (x := enc (.leaf i)) (y := .int 1) (S1 := put S p q L Rd) (S2 := put S p q L Rd) (by simp [ev]) (by simp [ev]) (by simp [enc, settle, getIx, items, pick, place])
    rw [exs_nx (app_ok rfl (put_q hq) e (put_q hq) hz), exs_nil, put_sq]
    rfl
  | .node t a b, L, Rd, o5, o6, o7, h, hL, hR => by
    obtain ⟨h1, h2, h3, h4⟩ := h
    simp only [sz] at hL hR
    obtain ⟨a0, a1⟩ := val_in hk hv hr a h3
    obtain ⟨b0, b1⟩ := val_in hk hv hr b h4
    obtain ⟨i0, i1⟩ := idx_lt a0 a1 b0 b1
    have m1 : mulOk (val k vs a) (k : Int) = true := mul_c (by omega)
    have tb : PV := .tup [.str [116, 97, 98, 108, 101], .tup (t.map .int)]
    obtain ⟨x5, x6, x7, eb⟩ := mach (C := C) hk hk4 hv hr S p q hp hq hpq tr b (L ++ [.tup [.str [116, 97, 98, 108, 101], .tup (t.map .int)], enc a]) Rd (some (enc (.node t a b))) o6 o7 h4 (by simp; omega) (by omega)
    obtain ⟨y5, y6, y7, ea⟩ := mach (C := C) hk hk4 hv hr S p q hp hq hpq tr a (L ++ [.tup [.str [116, 97, 98, 108, 101], .tup (t.map .int)]]) (Rd ++ [.int (val k vs b)]) x5 x6 x7 h3 (by simp; omega) (by simp; omega)
    refine ⟨some (.tup [.str [116, 97, 98, 108, 101], .tup (t.map .int)]), some (.int (val k vs a)), some (.int (val k vs b)), ?_⟩
    -- the node is taken apart
    rw [while_t (wc_t (put_p hp hpq) (by simp)) (ρ' := [some (.int k), tr, some (.tup (vs.map .int)), some (.ref p), some (.ref q), some (enc (.node t a b)), o6, o7]) (S' := put S p q ((L ++ [.tup [.str [116, 97, 98, 108, 101], .tup (t.map .int)], enc a]) ++ [enc b]) Rd)]
    rotate_left
    · show exs whileM C _ _ _ = _
      rw [exs_nx (asg_ok (pop_ok rfl (put_p hp hpq)))]
      rw [put_sp hpq]
      simp only [List.set, se_enc]
      rw [exs_nx (ρ' := [some (.int k), tr, some (.tup (vs.map .int)), some (.ref p), some (.ref q), some (enc (.node t a b)), o6, o7]) (S' := put S p q ((L ++ [.tup [.str [116, 97, 98, 108, 101], .tup (t.map .int)], enc a]) ++ [enc b]) Rd), exs_nil]
      rw [ifs_f (S' := put S p q L Rd) (by simp [evT, ev, R.bind, enc, settle, getIx, items, pick, place, cmp, look, eqOk, scal, kind, eqv, tstOf, truth, nodeS])]
      rw [exs_nx (ρ' := [some (.int k), tr, some (.tup (vs.map .int)), some (.ref p), some (.ref q), some (enc (.node t a b)), o6, o7]) (S' := put S p q ((L ++ [.tup [.str [116, 97, 98, 108, 101], .tup (t.map .int)], enc a]) ++ [enc b]) Rd), exs_nil]
      rw [ifs_t (S' := put S p q L Rd) (by simp [evT, ev, R.bind, enc, settle, getIx, items, pick, place, cmp, look, eqOk, scal, kind, eqv, tstOf, truth, nodeS])]
      have e : ev C (.lst [(.tup [(.cst (.str [116, 97, 98, 108, 101])), (.ix (.var 5) (.cst (.int 1)))]), (.ix (.var 5) (.cst (.int 2))), (.ix (.var 5) (.cst (.int 3)))]) [some (.int k), tr, some (.tup (vs.map .int)), some (.ref p), some (.ref q), some (enc (.node t a b)), o6, o7] (put S p q L Rd)
          = .ok (.new [.tup [.str [116, 97, 98, 108, 101], .tup (t.map .int)], enc a, enc b]) (put S p q L Rd) := by
        simp [ev, evs, R.bind, enc, se_int, se_tup, se_str, se_enc, getIx, items, pick, place, sizeLine]
      rw [exs_nx (ext_ok rfl (put_p hp hpq) e (put_p hp hpq) (by show L.length + 3 ≤ 16777216; omega)), exs_nil, put_sp hpq]
      simp
    rw [eb]
    have l1 : L ++ [.tup [.str [116, 97, 98, 108, 101], .tup (t.map .int)], enc a] = (L ++ [.tup [.str [116, 97, 98, 108, 101], .tup (t.map .int)]]) ++ [enc a] := by simp
    rw [l1, ea]
    -- the table
    have g := get_tab (S := put S p q L Rd) t _ i0 (by rw [h1]; exact i1)
    rw [while_t (wc_t (put_p hp hpq) (by simp)) ]
    show exs whileM C _ _ _ = _
    rw [exs_nx (asg_ok (pop_ok rfl (put_p hp hpq)))]
    rw [put_sp hpq]
    simp only [List.set, se_tup]
    rw [exs_nx (ρ' := [some (.int k), tr, some (.tup (vs.map .int)), some (.ref p), some (.ref q), some (.tup [.str [116, 97, 98, 108, 101], .tup (t.map .int)]), some (.int (val k vs a)), some (.int (val k vs b))]) (S' := put S p q L (Rd ++ [.int (val k vs (.node t a b))])), exs_nil]
    rw [ifs_f (S' := put S p q L (Rd ++ [.int (val k vs b)] ++ [.int (val k vs a)])) (by simp [evT, ev, R.bind, settle, getIx, items, pick, place, cmp, look, eqOk, scal, kind, eqv, tstOf, truth])]
    rw [exs_nx (ρ' := [some (.int k), tr, some (.tup (vs.map .int)), some (.ref p), some (.ref q), some (.tup [.str [116, 97, 98, 108, 101], .tup (t.map .int)]), some (.int (val k vs a)), some (.int (val k vs b))]) (S' := put S p q L (Rd ++ [.int (val k vs (.node t a b))])), exs_nil]
    rw [ifs_f (S' := put S p q L (Rd ++ [.int (val k vs b)] ++ [.int (val k vs a)])) (by simp [evT, ev, R.bind, settle, getIx, items, pick, place, cmp, look, eqOk, scal, kind, eqv, tstOf, truth])]
    have pops : ev C (.tup [(.mt .pop (.var 4) []), (.mt .pop (.var 4) [])]) [some (.int k), tr, some (.tup (vs.map .int)), some (.ref p), some (.ref q), some (.tup [.str [116, 97, 98, 108, 101], .tup (t.map .int)]), y6, y7] (put S p q L (Rd ++ [.int (val k vs b)] ++ [.int (val k vs a)])) = .ok (.tup [.int (val k vs a), .int (val k vs b)]) (put S p q L Rd) := by
      rw [ev, evs, pop_ok rfl (put_q hq)]
      simp only [R.bind]
      rw [put_sq, evs, pop_ok rfl (put_q hq)]
      simp only [R.bind, evs, put_sq, se_int]
      rfl
    rw [exs_nx (ρ' := [some (.int k), tr, some (.tup (vs.map .int)), some (.ref p), some (.ref q), some (.tup [.str [116, 97, 98, 108, 101], .tup (t.map .int)]), some (.int (val k vs a)), some (.int (val k vs b))]) (S' := put S p q L Rd) (by rw [ex, pops]; rfl)]
    have e : ev C (.ix (.ix (.var 5) (.cst (.int 1))) (.bin .add (.bin .mul (.var 6) (.var 0)) (.var 7))) [some (.int k), tr, some (.tup (vs.map .int)), some (.ref p), some (.ref q), some (.tup [.str [116, 97, 98, 108, 101], .tup (t.map .int)]), some (.int (val k vs a)), some (.int (val k vs b))] (put S p q L Rd) = .ok (.int (val k vs (.node t a b))) (put S p q L Rd) := by
      refine ix_ok (x := .tup (t.map .int)) (y := .int (val k vs a * k + val k vs b)) (S1 := put S p q L Rd) (S2 := put S p q L Rd) ?_ ?_ g
      · exact ix_ok (x := .tup [.str [116, 97, 98, 108, 101], .tup (t.map .int)]) (y := .int 1) (S1 := put S p q L Rd) (S2 := put S p q L Rd) (by simp [ev]) (by simp [ev]) (by simp [settle, getIx, items, pick, place])
      · simp [ev, R.bind, settle, bin, m1]
    rw [exs_nx (app_ok rfl (put_q hq) e (put_q hq) (by show Rd.length < 16777216; omega)), exs_nil, put_sq]
    rfl
end LawK45

namespace LawK45
open Pm
theorem put_self {S : Sto} {p q : Nat} {l r : List PV} (hp : S[p]? = some (.lst l)) (hq : S[q]? = some (.lst r)) : put S p q l r = S := by
  unfold put
  have e1 : S.set p (.lst l) = S := by
    have := (List.getElem?_eq_some_iff.mp hp).2
    rw [← this, List.set_getElem_self]
  have e2 : S.set q (.lst r) = S := by
    have := (List.getElem?_eq_some_iff.mp hq).2
    rw [← this, List.set_getElem_self]
  rw [e1, e2]
theorem run_worth2 {k many : Nat} {vs : List Int} (hk : 0 < k) (hk4 : k ≤ 4) (hv : vs.length = many) (hr : ∀ x ∈ vs, 0 ≤ x ∧ x < k) (t : Tree) (n : Nat) (S : Sto) (h : wf k many t) (hs : sz t ≤ 300) :
    ∃ S', run prog (n + 1) 268 [.int k, enc t, .tup (vs.map .int)] S = .ok (.int (val k vs t)) S' ∧ Kept S S' := by
  have st : start fn_law_worth_V2.ns [PV.int k, enc t, .tup (vs.map .int)] = [some (.int k), some (enc t), some (.tup (vs.map .int)), none, none, none, none, none] := rfl
  have hS1p : (S ++ [Ob.lst [enc t]] ++ [Ob.lst []])[S.length]? = some (.lst [enc t]) := by simp
  have hS1q : (S ++ [Ob.lst [enc t]] ++ [Ob.lst []])[S.length + 1]? = some (.lst []) := by
    rw [List.getElem?_append_right (by simp)]
    simp
  have e0 := put_self hS1p hS1q
  have hl : (S ++ [Ob.lst [enc t]] ++ [Ob.lst []]).length = S.length + 2 := by simp
  obtain ⟨o5, o6, o7, em⟩ := mach (C := run prog n) hk hk4 hv hr (S ++ [Ob.lst [enc t]] ++ [Ob.lst []]) S.length (S.length + 1) (by rw [hl]; omega) (by rw [hl]; omega) (by omega) (some (enc t)) t [] [] none none none h (by simp; omega) (by simp; omega)
  rw [List.nil_append, e0] at em
  rw [run_def (d := fn_law_worth_V2) rfl rfl, st]
  simp only [fn_law_worth_V2]
  rw [exs_nx (ρ' := [some (.int k), some (enc t), some (.tup (vs.map .int)), some (.ref S.length), some (.ref (S.length + 1)), none, none, none]) (S' := S ++ [Ob.lst [enc t]] ++ [Ob.lst []]) (by
    simp [ex, ev, evs, R.bind, R.fl, se_enc, boxOf, sizeLine, asgTo, store, setAll, settle]
    first | done | (cases t <;> rfl))]
  rw [exs_nx (ρ' := [some (.int k), some (enc t), some (.tup (vs.map .int)), some (.ref S.length), some (.ref (S.length + 1)), o5, o6, o7]) (S' := put (S ++ [Ob.lst [enc t]] ++ [Ob.lst []]) S.length (S.length + 1) [] ([] ++ [.int (val k vs t)])) (by
    rw [whl_ex]
    refine Eq.trans em ?_
    exact while_f (wc_f (put_p (by rw [hl]; omega) (by omega))))]
  rw [exs_rt (ret_ok (pop_ok rfl (put_q (by rw [hl]; omega))))]
  refine fin_kept rfl (Kept.set ?_ (by omega) _)
  unfold put
  exact Kept.set (Kept.set ((Kept.push S _).trans (Kept.push _ _)) (Nat.le_refl _) _) (by omega) _
/-- a comprehension whose element draws from the box -/
theorem comp_up {C : Nat → List PV → Sto → ERes} {el : E} {t : T} {ρ : Sl} {b : Nat} {Q : PV → Prop} : ∀ (xs : List PV), (∀ x ∈ xs, ∃ ρ', store t x ρ = some ρ' ∧ ∀ S, Bx S b → ∃ v S', ev C el ρ' S = .ok v S' ∧ Up b S S' ∧ Q (settle v)) →
    ∀ (acc : List PV) (S : Sto), Bx S b → acc.length + xs.length ≤ 1000 → ∃ vs S', compGo (fun ρ S => ev C el ρ S) (fun ρ S => evTO C none ρ S) t ρ [] xs acc S = .ok (.new (acc ++ vs)) S' ∧ vs.length = xs.length ∧ (∀ v ∈ vs, Q v) ∧ Up b S S' := by
  intro xs
  induction xs with
  | nil =>
    intro _ acc S hS _
    exact ⟨[], S, by simp [compGo, gdOk], rfl, fun v hv => by simp at hv, Up.refl hS⟩
  | cons x xs ih =>
    intro h acc S hS hl
    obtain ⟨ρ', es, hx⟩ := h x List.mem_cons_self
    obtain ⟨v, S1, ev1, u1, q1⟩ := hx S hS
    simp only [List.length_cons] at hl
    obtain ⟨vs, S2, e2, l2, q2, u2⟩ := ih (fun y hy => h y (List.mem_cons_of_mem _ hy)) (acc ++ [settle v]) S1 u1.1 (by simp; omega)
    refine ⟨settle v :: vs, S2, ?_, by simp [l2], ?_, u1.trans u2⟩
    · rw [compGo]
      simp only [gdOk, if_true, es, evTO, R.calm, R.bind]
      rw [ev1]
      simp only [R.calm, R.bind]
      simp only [evTO] at e2
      rw [if_pos (show acc.length < sizeLine by show acc.length < 16777216; omega), e2]
      simp
    · intro y hy
      rcases List.mem_cons.mp hy with rfl | hy
      · exact q1
      · exact q2 y hy
/-- numbers below k -/
def Num (k : Nat) (p : PV) : Prop := ∃ x : Int, p = .int x ∧ 0 ≤ x ∧ x < k
theorem nums {k : Nat} : ∀ {l : List PV}, (∀ p ∈ l, Num k p) → ∃ m : List Int, l = m.map .int ∧ ∀ x ∈ m, 0 ≤ x ∧ x < k
  | [], _ => ⟨[], rfl, fun x hx => by simp at hx⟩
  | p :: l, h => by
    obtain ⟨x, rfl, h0⟩ := h p List.mem_cons_self
    obtain ⟨m, rfl, hm⟩ := nums (l := l) fun q hq => h q (List.mem_cons_of_mem _ hq)
    refine ⟨x :: m, rfl, fun y hy => ?_⟩
    rcases List.mem_cons.mp hy with rfl | hy
    · exact h0
    · exact hm y hy
theorem kk {k : Nat} (hk4 : k ≤ 4) : k * k ≤ 16 := Nat.mul_le_mul hk4 hk4
theorem sub_ok {W : (Sl → Sto → R Bool) → (Sl → Sto → F) → Sl → Sto → F} {C : Nat → List PV → Sto → ERes} {o i e : E} {ρ : Sl} {S S1 S2 S3 S4 : Sto} {x y z : PV} (he : ev C e ρ S = .ok x S1) (ho : ev C o ρ S1 = .ok y S2) (hi : ev C i ρ S2 = .ok z S3) (hs : setIx y (settle z) (settle x) S3 = some S4) :
    ex W C (.asg (.sub o i) e) ρ S = .nx ρ S4 := by
  rw [ex, he]
  simp only [R.fl, asgTo, ho, hi, hs]
theorem run_table (n : Nat) {b k : Nat} {S : Sto} (hk : 0 < k) (hk4 : k ≤ 4) (hS : Bx S b) : ∃ (l : List Int) (S' : Sto), l.length = k * k ∧ (∀ x ∈ l, 0 ≤ x ∧ x < k) ∧ run prog (n + 2) 260 [.ref b, .int k] S = .ok (.tup (l.map .int)) S' ∧ Up b S S' := by
  have kk16 := kk hk4
  have kkp : 0 < k * k := Nat.mul_pos hk hk
  have c0 : (0 : Int) < k := by omega
  have c1 := log2_small (m := (k : Int)) (by omega) (by omega)
  have ekk : (k : Int) * k = ((k * k : Nat) : Int) := by rw [Int.natCast_mul]
  have m1 : mulOk (k : Int) k = true := mul_c (by omega)
  obtain ⟨f, S1, f0, f1, ef, u1⟩ := take_up (P := prog) rfl n 6 hS (by decide) (by decide)
  have st : start fn_law_table.ns [PV.ref b, PV.int k] = [some (.ref b), some (.int k), none, none, none] := rfl
  have body : ∃ (l : List Int) (S' : Sto), l.length = k * k ∧ (∀ x ∈ l, 0 ≤ x ∧ x < k) ∧ exs whileM (run prog (n + 1)) fn_law_table.body (start fn_law_table.ns [.ref b, .int k]) S = .rt (.tup (l.map .int)) S' ∧ Up b S S' := by
    rw [st]
    simp only [fn_law_table]
    rw [exs_nx (ρ' := [some (.ref b), some (.int k), some (.int f), none, none]) (S' := S1) (by simp [ex, ev, evs, R.bind, R.fl, settle, asgTo, ef])]
    by_cases hf : f = 0
    · obtain ⟨d, S2, d0, d1, ed, u2⟩ := take_up (P := prog) rfl n k u1.1 c0 c1
      have B2 := u2.1
      have u3 := Up.push B2 (Ob.lst (List.replicate (k * k) (.int d)))
      obtain ⟨v, S4, v0, v1, ev4, u4⟩ := take_up (P := prog) rfl n k u3.1 c0 c1
      obtain ⟨j, S5, j0, j1, ej, u5⟩ := take_up (P := prog) rfl n ((k * k : Nat) : Int) u4.1 (by omega) (log2_small (by omega) (by omega))
      have hb := B2.lt
      have at3 : (S2 ++ [Ob.lst (List.replicate (k * k) (.int d))])[S2.length]? = some (.lst (List.replicate (k * k) (.int d))) := by simp
      have at5 : S5[S2.length]? = some (.lst (List.replicate (k * k) (.int d))) := u5.2.2 _ _ (by omega) (u4.2.2 _ _ (by omega) at3)
      have hpl : place (k * k) j = some j.toNat := by
        simp only [place, if_neg (show ¬ j < 0 by omega)]
        rw [if_pos ⟨by omega, by omega⟩]
      have u35 := (u3.trans u4).trans u5
      refine ⟨(List.replicate (k * k) d).set j.toNat v, S5.set S2.length (.lst ((List.replicate (k * k) (.int d)).set j.toNat (.int v))), by simp, ?_, ?_, ?_⟩
      · intro x hx
        rcases List.mem_or_eq_of_mem_set hx with h | h
        · rw [List.mem_replicate] at h
          rw [h.2]
          exact ⟨d0, d1⟩
        · rw [h]
          exact ⟨v0, v1⟩
      · have em : (((List.replicate (k * k) d).set j.toNat v).map PV.int) = (List.replicate (k * k) (PV.int d)).set j.toNat (.int v) := by rw [List.map_set, List.map_replicate]
        rw [em]
        rw [exs_rt (v := .tup ((List.replicate (k * k) (PV.int d)).set j.toNat (.int v))) (S' := S5.set S2.length (.lst ((List.replicate (k * k) (.int d)).set j.toNat (.int v))))]
        rw [ifs_t (S' := S1) (by simp [ev, evs, evT, R.bind, settle, cmp, look, eqOk, scal, kind, eqv, tstOf, truth, hf])]
        rw [exs_nx (ρ' := [some (.ref b), some (.int k), some (.int f), some (.ref S2.length), none]) (S' := S2 ++ [.lst (List.replicate (k * k) (.int d))]) (by
          have z1 : (-(2 ^ 63) : Int) ≤ (k : Int) * k := by omega
          have z2 : (k : Int) * k < 2 ^ 63 := by omega
          have z3 : ((k : Int) * k).toNat = k * k := by omega
          have z4 : (List.replicate (k * k) [PV.int d]).flatten = List.replicate (k * k) (PV.int d) := by
            rw [← List.map_replicate (f := fun x => [x]), ← List.flatMap_def]
            simp
          have z5 : k * k ≤ sizeLine := by show k * k ≤ 16777216; omega
          have zb : bin .mul (.lst [.int d]) (.int ((k : Int) * k)) S2 = .ok (.new (List.replicate (k * k) (.int d))) S2 := by
            simp only [bin, isLst]
            rw [if_pos ⟨z1, z2, by rw [z3]; simp only [List.length_singleton]; omega⟩, z3, z4]
          have q1 : ev (run prog (n + 1)) (.lst [(.call 3 [(.var 0), (.var 1)] [])]) [some (.ref b), some (.int k), some (.int f), none, none] S1 = .ok (.new [.int d]) S2 := by simp [ev, evs, R.bind, settle, ed, sizeLine]
          have q2 : ev (run prog (n + 1)) (.bin .mul (.var 1) (.var 1)) [some (.ref b), some (.int k), some (.int f), none, none] S2 = .ok (.int ((k : Int) * k)) S2 := by simp [ev, R.bind, settle, bin, m1]
          have q3 := bin_ok (op := .mul) q1 q2 zb
          rw [ex, ev, q3]
          simp [R.bind, R.fl, boxOf, settle, asgTo])]
        rw [exs_nx (ρ' := [some (.ref b), some (.int k), some (.int f), some (.ref S2.length), none]) (S' := S5.set S2.length (.lst ((List.replicate (k * k) (.int d)).set j.toNat (.int v)))) (by
          refine sub_ok (x := .int v) (y := .ref S2.length) (z := .int j) (S1 := S4) (S2 := S4) (S3 := S5) ?_ ?_ ?_ ?_
          · simp [ev, evs, R.bind, settle, ev4]
          · simp [ev]
          · rw [ev, evs, ev]
            simp only [List.getElem?_cons_zero, R.bind]
            rw [evs, show ev (run prog (n + 1)) (.bin .mul (.var 1) (.var 1)) [some (.ref b), some (.int k), some (.int f), some (.ref S2.length), none] S4 = .ok (.int ((k * k : Nat) : Int)) S4 from by rw [← ekk]; simp only [ev, List.getElem?_cons_succ, List.getElem?_cons_zero, R.bind, settle, bin, m1, if_true]]
            simp only [evs, R.bind, settle]
            exact ej
          · simp only [setIx, settle, at5, List.length_replicate, hpl, Option.map_some])]
        exact exs_rt (ret_ok (by simp [ev, evs, R.bind, settle, bfn, one, opt, items, u5.2.1, List.getElem?_set_self (List.getElem?_eq_some_iff.mp at5).1]))
      · exact ((u1.trans u2).trans (Up.set hb u35 (Nat.le_refl _) _))
    · rw [exs_nx (ρ' := [some (.ref b), some (.int k), some (.int f), none, none]) (S' := S1) (by rw [ifs_f (S' := S1) (by simp [ev, evs, evT, R.bind, settle, cmp, look, eqOk, scal, kind, eqv, tstOf, truth, hf]), exs_nil])]
      obtain ⟨vs, S2, e2, l2, q2, u2⟩ := comp_up (C := run prog (n + 1)) (el := .call 3 [(.var 0), (.var 1)] []) (t := .nm 4) (ρ := [some (.ref b), some (.int k), some (.int f), none, none]) (b := b) (Q := Num k) (rng 0 ((k : Int) * k)) (fun x hx => by
        refine ⟨[some (.ref b), some (.int k), some (.int f), none, some x], rfl, fun S hS => ?_⟩
        obtain ⟨d, S2, d0, d1, ed, u2⟩ := take_up (P := prog) rfl n k hS c0 c1
        exact ⟨.int d, S2, by simp [ev, evs, R.bind, settle, ed], u2, d, rfl, d0, d1⟩) [] S1 u1.1 (by simp [rng]; omega)
      obtain ⟨l, rfl, hl⟩ := nums q2
      have len : l.length = k * k := by rw [← List.length_map (f := PV.int), l2]; unfold rng; rw [List.length_map, List.length_range, ekk, Int.sub_zero, Int.toNat_natCast]
      have hbd : bnd ((k : Int) * k) = true := by
        unfold bnd
        rw [Bool.and_eq_true, decide_eq_true_eq, decide_eq_true_eq]
        omega
      refine ⟨l, S2, len, hl, ?_, u1.trans u2⟩
      refine exs_rt (ret_ok ?_)
      have qc : ev (run prog (n + 1)) (.comp (.call 3 [(.var 0), (.var 1)] []) (.nm 4) (.rng1 (.bin .mul (.var 1) (.var 1))) none) [some (.ref b), some (.int k), some (.int f), none, none] S1 = .ok (.new (l.map .int)) S2 := by
        rw [ev]
        have qi : evI (run prog (n + 1)) (.rng1 (.bin .mul (.var 1) (.var 1))) [some (.ref b), some (.int k), some (.int f), none, none] S1 = .ok ⟨rng 0 ((k : Int) * k), []⟩ S1 := by simp [evI, ev, R.bind, settle, bin, m1, hbd]
        rw [qi]
        exact e2
      rw [ev, evs, qc]
      simp [R.bind, evs, settle, bfn, one, opt, items]
  obtain ⟨l, S', h1, h2, e, u⟩ := body
  obtain ⟨S2, e2, u2⟩ := fin_up (v := .tup (l.map .int)) (fun k h => by cases h) hS.lt u
  refine ⟨l, S2, h1, h2, ?_, u2⟩
  rw [run_def (d := fn_law_table) rfl rfl, e, e2]
end LawK45

namespace LawK45
open Pm
theorem tup_ne (l : List PV) : ∀ k, PV.tup l ≠ .ref k := fun k h => by cases h
theorem enc_ne (t : Tree) : ∀ k, enc t ≠ .ref k := fun k h => by cases t <;> cases h
theorem run_tree {b k many : Nat} (hk : 0 < k) (hk4 : k ≤ 4) (hm : 0 < many) (hm8 : many ≤ 8) : ∀ (h n : Nat) (S : Sto), h + 3 ≤ n → Bx S b → ∃ (t : Tree) (S' : Sto), wf k many t ∧ ht t ≤ h ∧ run prog n 267 [.ref b, .int k, .int h, .int many] S = .ok (enc t) S' ∧ Up b S S' := by
  intro h
  induction h with
  | zero =>
    intro n S hn hS
    obtain ⟨n, rfl⟩ : ∃ m, n = m + 2 := ⟨n - 2, by omega⟩
    obtain ⟨f, S1, f0, f1, ef, u1⟩ := take_up (P := prog) rfl n 6 hS (by decide) (by decide)
    obtain ⟨i, S2, i0, i1, ei, u2⟩ := take_up (P := prog) rfl n many u1.1 (by omega) (log2_small (by omega) (by omega))
    obtain ⟨i, rfl⟩ : ∃ j : Nat, i = j := ⟨i.toNat, by omega⟩
    obtain ⟨S3, e3, u3⟩ := fin_up (v := enc (.leaf i)) (enc_ne _) hS.lt (u1.trans u2)
    refine ⟨.leaf i, S3, by show i < many; omega, Nat.le_refl _, ?_, u3⟩
    have st : start fn_law_tree.ns [PV.ref b, PV.int k, PV.int ((0 : Nat) : Int), PV.int many] = [some (.ref b), some (.int k), some (.int 0), some (.int many), none, none, none, none] := rfl
    rw [run_def (d := fn_law_tree) rfl rfl, st]
    simp only [fn_law_tree]
    rw [exs_nx (ρ' := [some (.ref b), some (.int k), some (.int 0), some (.int many), some (.int f), none, none, none]) (S' := S1) (by simp [ex, ev, evs, R.bind, R.fl, settle, asgTo, ef])]
    rw [exs_rt (v := enc (.leaf i)) (S' := S2) (by
      rw [ifs_t (S' := S1) (by simp [ev, evs, evT, R.bind, settle, cmp, look, eqOk, scal, kind, eqv, tstOf, truth])]
      exact exs_rt (ret_ok (by simp [ev, evs, R.bind, settle, ei, enc, leafS, sizeLine])))]
    exact e3
  | succ h ih =>
    intro n S hn hS
    obtain ⟨n, rfl⟩ : ∃ m, n = m + 3 := ⟨n - 3, by omega⟩
    obtain ⟨f, S1, f0, f1, ef, u1⟩ := take_up (P := prog) rfl (n + 1) 6 hS (by decide) (by decide)
    have st : start fn_law_tree.ns [PV.ref b, PV.int k, PV.int ((h + 1 : Nat) : Int), PV.int many] = [some (.ref b), some (.int k), some (.int ((h + 1 : Nat) : Int)), some (.int many), none, none, none, none] := rfl
    have hz : ¬ ((h + 1 : Nat) : Int) = 0 := by omega
    have hz1 : ¬ ((h : Int) + 1) = 0 := by omega
    by_cases hf : f = 0
    · obtain ⟨i, S2, i0, i1, ei, u2⟩ := take_up (P := prog) rfl (n + 1) many u1.1 (by omega) (log2_small (by omega) (by omega))
      obtain ⟨i, rfl⟩ : ∃ j : Nat, i = j := ⟨i.toNat, by omega⟩
      obtain ⟨S3, e3, u3⟩ := fin_up (v := enc (.leaf i)) (enc_ne _) hS.lt (u1.trans u2)
      refine ⟨.leaf i, S3, by show i < many; omega, Nat.zero_le _, ?_, u3⟩
      rw [run_def (d := fn_law_tree) rfl rfl, st]
      simp only [fn_law_tree]
      rw [exs_nx (ρ' := [some (.ref b), some (.int k), some (.int ((h + 1 : Nat) : Int)), some (.int many), some (.int f), none, none, none]) (S' := S1) (by simp [ex, ev, evs, R.bind, R.fl, settle, asgTo, ef])]
      rw [exs_rt (v := enc (.leaf i)) (S' := S2) (by
        rw [ifs_t (S' := S1) (by simp [ev, evs, evT, R.bind, settle, cmp, look, eqOk, scal, kind, eqv, tstOf, truth, hf, hz, hz1])]
        exact exs_rt (ret_ok (by simp [ev, evs, R.bind, settle, ei, enc, leafS, sizeLine])))]
      exact e3
    · obtain ⟨l, S2, l1, l2, el, u2⟩ := run_table n hk hk4 u1.1
      obtain ⟨a, S3, a1, a2, ea, u3⟩ := ih (n + 2) S2 (by omega) u2.1
      obtain ⟨c, S4, c1, c2, ec, u4⟩ := ih (n + 2) S3 (by omega) u3.1
      obtain ⟨j, S5, j0, j1, ej, u5⟩ := take_up (P := prog) rfl (n + 1) 2 u4.1 (by decide) (by decide)
      have uu := (((u1.trans u2).trans u3).trans u4).trans u5
      have hh : ((h + 1 : Nat) : Int) - 1 = (h : Int) := by omega
      have key : ∀ t : Tree, wf k many t → ht t ≤ h + 1 → bin .add (.tup [.str nodeS, .tup (l.map .int)]) (if j = 0 then .tup [enc a, enc c] else .tup [enc c, enc a]) S5 = .ok (enc t) S5 →
          ∃ (t : Tree) (S' : Sto), wf k many t ∧ ht t ≤ h + 1 ∧ run prog (n + 3) 267 [.ref b, .int k, .int ((h + 1 : Nat) : Int), .int many] S = .ok (enc t) S' ∧ Up b S S' := by
        intro t w1 w2 eb
        obtain ⟨S6, e6, u6⟩ := fin_up (v := enc t) (enc_ne _) hS.lt uu
        refine ⟨t, S6, w1, w2, ?_, u6⟩
        rw [run_def (d := fn_law_tree) rfl rfl, st]
        simp only [fn_law_tree]
        rw [exs_nx (ρ' := [some (.ref b), some (.int k), some (.int ((h + 1 : Nat) : Int)), some (.int many), some (.int f), none, none, none]) (S' := S1) (by simp [ex, ev, evs, R.bind, R.fl, settle, asgTo, ef])]
        rw [exs_nx (ρ' := [some (.ref b), some (.int k), some (.int ((h + 1 : Nat) : Int)), some (.int many), some (.int f), none, none, none]) (S' := S1) (by rw [ifs_f (S' := S1) (by simp [ev, evs, evT, R.bind, settle, cmp, look, eqOk, scal, kind, eqv, tstOf, truth, hf, hz, hz1]), exs_nil])]
        rw [exs_nx (ρ' := [some (.ref b), some (.int k), some (.int ((h + 1 : Nat) : Int)), some (.int many), some (.int f), some (.tup (l.map .int)), none, none]) (S' := S2) (by simp [ex, ev, evs, R.bind, R.fl, settle, asgTo, el])]
        have qh : ∀ S x y z, ev (run prog (n + 2)) (.bin .sub (.var 2) (.cst (.int 1))) [some (.ref b), some (.int k), some (.int ((h + 1 : Nat) : Int)), some (.int many), x, y, z, none] S = .ok (.int h) S := fun S x y z => by
          rw [← hh]; simp only [ev, List.getElem?_cons_succ, List.getElem?_cons_zero, R.bind, settle, bin]
        have ca : ev (run prog (n + 2)) (.call 267 [(.var 0), (.var 1), (.bin .sub (.var 2) (.cst (.int 1))), (.var 3)] []) [some (.ref b), some (.int k), some (.int ((h + 1 : Nat) : Int)), some (.int many), some (.int f), some (.tup (l.map .int)), none, none] S2 = .ok (enc a) S3 := by
          rw [ev, evs, ev]; simp only [List.getElem?_cons_zero, R.bind]
          rw [evs, ev]; simp only [List.getElem?_cons_succ, List.getElem?_cons_zero, R.bind]
          rw [evs, qh]; simp only [R.bind, evs, ev, List.getElem?_cons_succ, List.getElem?_cons_zero, settle, List.append_nil]
          exact ea
        have cc : ev (run prog (n + 2)) (.call 267 [(.var 0), (.var 1), (.bin .sub (.var 2) (.cst (.int 1))), (.var 3)] []) [some (.ref b), some (.int k), some (.int ((h + 1 : Nat) : Int)), some (.int many), some (.int f), some (.tup (l.map .int)), some (enc a), none] S3 = .ok (enc c) S4 := by
          rw [ev, evs, ev]; simp only [List.getElem?_cons_zero, R.bind]
          rw [evs, ev]; simp only [List.getElem?_cons_succ, List.getElem?_cons_zero, R.bind]
          rw [evs, qh]; simp only [R.bind, evs, ev, List.getElem?_cons_succ, List.getElem?_cons_zero, settle, List.append_nil]
          exact ec
        rw [exs_nx (asg_ok ca)]
        simp only [List.set, se_enc]
        rw [exs_nx (asg_ok cc)]
        simp only [List.set, se_enc]
        rw [exs_rt (v := enc t) (S' := S5) (ret_ok ?_)]
        · exact e6
        · refine bin_ok (op := .add) (x := .tup [.str nodeS, .tup (l.map .int)]) (S1 := S4) (y := if j = 0 then .tup [enc a, enc c] else .tup [enc c, enc a]) (S2 := S5) ?_ ?_ ?_
          · simp [ev, evs, R.bind, se_str, se_tup, nodeS, sizeLine]
          · refine ix_ok (x := .new [.tup [enc a, enc c], .tup [enc c, enc a]]) (y := .int j) (S1 := S4) (S2 := S5) ?_ ?_ ?_
            · simp [ev, evs, R.bind, se_enc, se_tup, sizeLine]
            · simp [ev, evs, R.bind, settle, ej]
            · rcases (by omega : j = 0 ∨ j = 1) with rfl | rfl
              · simp [settle, getIx, items, pick, place]
              · simp [settle, getIx, items, pick, place]
          · by_cases hj : j = 0
            · simp only [hj, if_true, se_tup] at eb ⊢
              exact eb
            · simp only [hj, if_false, se_tup] at eb ⊢
              exact eb
      by_cases hj : j = 0
      · refine key (.node l a c) ⟨l1, l2, a1, c1⟩ (by simp only [ht]; omega) ?_
        simp [hj, bin, enc, sizeLine]
      · refine key (.node l c a) ⟨l1, l2, c1, a1⟩ (by simp only [ht]; omega) ?_
        simp [hj, bin, enc, sizeLine]
end LawK45

namespace LawK45
open Pm
def Row (k many : Nat) (r : PV) : Prop := ∃ vs : List Int, r = .tup (vs.map .int) ∧ vs.length = many ∧ ∀ x ∈ vs, 0 ≤ x ∧ x < k
def VI (p : PV) : Prop := ∃ (k many : Nat) (t : Tree) (rows : List PV), p = .tup [.int k, enc t, .lst rows] ∧ 0 < k ∧ k ≤ 4 ∧ wf k many t ∧ ht t ≤ 3 ∧ ∀ r ∈ rows, Row k many r
theorem comp_ok {C : Nat → List PV → Sto → ERes} {el : E} {t : T} {it : I} {ρ ρ' : Sl} {S S1 S2 : Sto} {xs vs : List PV} (hi : evI C it ρ S = .ok ⟨xs, []⟩ S1) (hw : wipeS ρ t.own = ρ') (hg : compGo (fun ρ S => ev C el ρ S) (fun ρ S => evTO C none ρ S) t ρ' [] xs [] S1 = .ok (.new ([] ++ vs)) S2) : ev C (.comp el t it none) ρ S = .ok (.new vs) S2 := by
  rw [ev, hi]
  subst hw
  exact hg
theorem rng1_ok {C : Nat → List PV → Sto → ERes} {a : E} {ρ : Sl} {S S1 : Sto} {j : Int} (h : ev C a ρ S = .ok (.int j) S1) (hb : bnd j = true) : evI C (.rng1 a) ρ S = .ok ⟨rng 0 j, []⟩ S1 := by
  rw [evI, h]
  simp only [R.bind, hb, if_true]
theorem var_ok {C : Nat → List PV → Sto → ERes} {i : Nat} {ρ : Sl} {S : Sto} {v : PV} (h : ρ[i]? = some (some v)) : ev C (.var i) ρ S = .ok v S := by
  rw [ev, h]
theorem rng4 (c : Nat) : (rng 0 (c : Int)).length = c := by unfold rng; rw [List.length_map, List.length_range, Int.sub_zero, Int.toNat_natCast]
/-- the rows of values -/
theorem rows_ok {b k many : Nat} {S : Sto} (hk : 0 < k) (hk4 : k ≤ 4) (hm8 : many ≤ 8) (hS : Bx S b) (c : Nat) (hc : c ≤ 10) (r0 r1 r2 r6 r7 : Option PV) : ∃ (rows : List PV) (S' : Sto), (∀ r ∈ rows, Row k many r) ∧ rows.length = c ∧ ev (run prog 29) (.comp (.bi .tuple [(.comp (.call 3 [(.var 3), (.var 4)] []) (.nm 12) (.rng1 (.var 5)) none)]) (.nmw 10 [12]) (.rng1 (.cst (.int (c : Int)))) none)
    [r0, r1, r2, some (.ref b), some (.int k), some (.int many), r6, r7, none, none, none, none, none] S = .ok (.new rows) S' ∧ Up b S S' := by
  have c0 : (0 : Int) < k := by omega
  have c1 := log2_small (m := (k : Int)) (by omega) (by omega)
  obtain ⟨rows, S', e, l, q, u⟩ := comp_up (C := run prog 29) (el := .bi .tuple [(.comp (.call 3 [(.var 3), (.var 4)] []) (.nm 12) (.rng1 (.var 5)) none)]) (t := .nmw 10 [12]) (ρ := [r0, r1, r2, some (.ref b), some (.int k), some (.int many), r6, r7, none, none, none, none, none]) (b := b) (Q := Row k many) (rng 0 (c : Int)) (fun x hx => by
    refine ⟨[r0, r1, r2, some (.ref b), some (.int k), some (.int many), r6, r7, none, none, some x, none, none], rfl, fun S hS => ?_⟩
    obtain ⟨vs, S2, e2, l2, q2, u2⟩ := comp_up (C := run prog 29) (el := .call 3 [(.var 3), (.var 4)] []) (t := .nm 12) (ρ := [r0, r1, r2, some (.ref b), some (.int k), some (.int many), r6, r7, none, none, some x, none, none]) (b := b) (Q := Num k) (rng 0 many) (fun y hy => by
      refine ⟨[r0, r1, r2, some (.ref b), some (.int k), some (.int many), r6, r7, none, none, some x, none, some y], rfl, fun S hS => ?_⟩
      obtain ⟨d, S2, d0, d1, ed, u2⟩ := take_up (P := prog) rfl 28 k hS c0 c1
      have ed : run prog 29 3 [.ref b, .int k] S = _ := ed
      exact ⟨.int d, S2, by simp [ev, evs, R.bind, settle, ed], u2, d, rfl, d0, d1⟩) [] S hS (by simp [rng]; omega)
    obtain ⟨m, rfl, hm⟩ := nums q2
    have len : m.length = many := by
      rw [← List.length_map (f := PV.int), l2]
      unfold rng
      rw [List.length_map, List.length_range, Int.sub_zero, Int.toNat_natCast]
    have hb : bnd (many : Int) = true := by
      unfold bnd
      rw [Bool.and_eq_true, decide_eq_true_eq, decide_eq_true_eq]
      omega
    refine ⟨.tup (m.map .int), S2, ?_, u2, m, rfl, len, hm⟩
    have hw2 : wipeS [r0, r1, r2, some (.ref b), some (.int k), some (.int many), r6, r7, none, none, some x, none, none] (T.own (.nm 12)) = [r0, r1, r2, some (.ref b), some (.int k), some (.int many), r6, r7, none, none, some x, none, none] := rfl
    have qc : ev (run prog 29) (.comp (.call 3 [(.var 3), (.var 4)] []) (.nm 12) (.rng1 (.var 5)) none) [r0, r1, r2, some (.ref b), some (.int k), some (.int many), r6, r7, none, none, some x, none, none] S = .ok (.new (m.map .int)) S2 := by
      have qi : evI (run prog 29) (.rng1 (.var 5)) [r0, r1, r2, some (.ref b), some (.int k), some (.int many), r6, r7, none, none, some x, none, none] S = .ok ⟨rng 0 many, []⟩ S := rng1_ok (var_ok rfl) hb
      exact comp_ok qi hw2 e2
    rw [ev, evs, qc]
    simp [R.bind, evs, settle, bfn, one, opt, items]) [] S hS (by rw [List.length_nil, rng4]; omega)
  refine ⟨rows, S', q, by rw [l, rng4], ?_, u⟩
  have qi : evI (run prog 29) (.rng1 (.cst (.int (c : Int)))) [r0, r1, r2, some (.ref b), some (.int k), some (.int many), r6, r7, none, none, none, none, none] S = .ok ⟨rng 0 (c : Int), []⟩ S := by
    have hb : bnd (c : Int) = true := by unfold bnd; rw [Bool.and_eq_true, decide_eq_true_eq, decide_eq_true_eq]; omega
    exact rng1_ok (by rw [ev]) hb
  have hw : wipeS [r0, r1, r2, some (.ref b), some (.int k), some (.int many), r6, r7, none, none, none, none, none] (T.own (.nmw 10 [12])) = [r0, r1, r2, some (.ref b), some (.int k), some (.int many), r6, r7, none, none, none, none, none] := rfl
  exact comp_ok qi hw e
/-- the tree and its two -/
def subs : Tree → List Tree
  | .leaf i => [.leaf i]
  | .node l a b => [.node l a b, a, b]
theorem subs_ok {k many : Nat} (t : Tree) (h : wf k many t) (h3 : ht t ≤ 3) : ∀ x ∈ subs t, wf k many x ∧ ht x ≤ 3 := by
  cases t with
  | leaf i =>
    intro x hx
    simp only [subs, List.mem_singleton] at hx
    subst hx
    exact ⟨h, h3⟩
  | node l a b =>
    intro x hx
    simp only [ht] at h3
    simp only [subs, List.mem_cons, List.not_mem_nil, or_false] at hx
    rcases hx with rfl | rfl | rfl
    · exact ⟨h, by simp only [ht]; omega⟩
    · exact ⟨h.2.2.1, by omega⟩
    · exact ⟨h.2.2.2, by omega⟩
theorem subs_len (t : Tree) : (subs t).length ≤ 3 := by cases t <;> simp [subs]
theorem turn1 (S : Sto) (l : List PV) (ns : List Int) (j : Nat) (o3 o4 o5 o6 o7 : Option PV) (hS : S[0]? = some (.lst l)) (hl : l.length ≤ 100) :
    ∃ (z : List PV) (S' : Sto) (p3 p4 p5 p6 p7 : Option PV), (∀ p ∈ z, VI p) ∧ z.length ≤ 3 ∧ S'[0]? = some (.lst (l ++ z)) ∧ exs whileM (run prog 29) (.cons (.asg (.nm 3) (.box (.call 2 [(.var 0), (.var 2)] []))) (.cons (.asg (.nm 4) (.bin .add (.cst (.int 2)) (.call 3 [(.var 3), (.cst (.int 3))] []))) (.cons (.asg (.nm 5) (.ix (.lst [(.cst (.int 8)), (.cst (.int 4))]) (.bi .int [(.cmp .gt (.var 4) (.cst (.int 2)))]))) (.cons (.asg (.nm 6) (.call 267 [(.var 3), (.var 4), (.ix (.lst [(.cst (.int 3)), (.cst (.int 2))]) (.bi .int [(.cmp .gt (.var 4) (.cst (.int 2)))])), (.var 5)] [])) (.cons (.asg (.nm 7) (.comp (.bi .tuple [(.comp (.call 3 [(.var 3), (.var 4)] []) (.nm 12) (.rng1 (.var 5)) none)]) (.nmw 10 [12]) (.rng1 (.cst (.int 4))) none)) (.cons (.ex (.mt .extend (.var 1) [(.comp (.tup [(.var 4), (.var 11), (.var 7)]) (.nm 11) (.vals (.bin .add (.tup [(.var 6)]) (.sl (.var 6) (some (.cst (.int 2))) none))) none)])) .nil))))))
      [some (.scr ns), some (.ref 0), some (.int j), o3, o4, o5, o6, o7, none, none, none, none, none] S = .nx [some (.scr ns), some (.ref 0), some (.int j), p3, p4, p5, p6, p7, none, none, none, none, none] S' := by
  have h0 : 0 < S.length := (List.getElem?_eq_some_iff.mp hS).1
  have hb0 : (0 : Nat) ≠ S.length := by omega
  obtain ⟨a, s, eb⟩ := run_box (P := prog) rfl 28 S ns j
  have eb : run prog 29 2 [.scr ns, .int j] S = _ := eb
  have B1 : Bx (S ++ [.lst [.int a, .int s, .int 0]]) S.length := ⟨a, s, 0, by simp⟩
  have S1at : (S ++ [Ob.lst [.int a, .int s, .int 0]])[0]? = some (.lst l) := by rw [List.getElem?_append_left h0]; exact hS
  obtain ⟨d, S2, d0, d1, ed, u2⟩ := take_up (P := prog) rfl 28 3 B1 (by decide) (by decide)
  have ed : run prog 29 3 [.ref S.length, .int 3] _ = _ := ed
  obtain ⟨k, ek, hk, hk4⟩ : ∃ k : Nat, 2 + d = k ∧ 2 ≤ k ∧ k ≤ 4 := ⟨(2 + d).toNat, by omega, by omega, by omega⟩
  obtain ⟨many, h, hm, hm8, hh3, em, eh⟩ : ∃ many h : Nat, 0 < many ∧ many ≤ 8 ∧ h ≤ 3 ∧ (∀ (ρ : Sl) (S : Sto), ρ[4]? = some (some (.int k)) → ev (run prog 29) (.ix (.lst [(.cst (.int 8)), (.cst (.int 4))]) (.bi .int [(.cmp .gt (.var 4) (.cst (.int 2)))])) ρ S = .ok (.int many) S) ∧
      (∀ (ρ : Sl) (S : Sto), ρ[4]? = some (some (.int k)) → ev (run prog 29) (.ix (.lst [(.cst (.int 3)), (.cst (.int 2))]) (.bi .int [(.cmp .gt (.var 4) (.cst (.int 2)))])) ρ S = .ok (.int h) S) := by
    by_cases h2 : 2 < k
    · have h2' : (2 : Int) < k := by omega
      exact ⟨4, 2, by omega, by omega, by omega, fun ρ S e => by simp [ev, evs, R.bind, e, settle, cmp, bfn, one, h2, h2', getIx, items, pick, place, sizeLine], fun ρ S e => by simp [ev, evs, R.bind, e, settle, cmp, bfn, one, h2, h2', getIx, items, pick, place, sizeLine]⟩
    · have h2' : ¬ (2 : Int) < k := by omega
      exact ⟨8, 3, by omega, by omega, by omega, fun ρ S e => by simp [ev, evs, R.bind, e, settle, cmp, bfn, one, h2, h2', getIx, items, pick, place, sizeLine], fun ρ S e => by simp [ev, evs, R.bind, e, settle, cmp, bfn, one, h2, h2', getIx, items, pick, place, sizeLine]⟩
  obtain ⟨t, S3, w1, w2, et, u3⟩ := run_tree (by omega : 0 < k) hk4 hm hm8 h 29 S2 (by omega) u2.1
  obtain ⟨rows, S4, q4, l4, er, u4⟩ := rows_ok (b := S.length) (many := many) (by omega : 0 < k) hk4 hm8 u3.1 4 (by omega) (some (.scr ns)) (some (.ref 0)) (some (.int j)) (some (enc t)) o7
  have e44 : ((4 : Nat) : Int) = 4 := rfl
  rw [e44] at er
  have u24 := (u2.trans u3).trans u4
  have S4at : S4[0]? = some (.lst l) := u24.2.2 _ _ hb0 S1at
  obtain ⟨z, S5, e5, l5, q5, u5⟩ := comp_up (C := run prog 29) (el := .tup [(.var 4), (.var 11), (.var 7)]) (t := .nm 11) (ρ := [some (.scr ns), some (.ref 0), some (.int j), some (.ref S.length), some (.int k), some (.int many), some (enc t), some (.lst rows), none, none, none, none, none]) (b := S.length) (Q := VI) ((subs t).map enc) (fun x hx => by
    obtain ⟨t', ht', rfl⟩ := List.mem_map.mp hx
    obtain ⟨g1, g2⟩ := subs_ok t w1 (by omega) t' ht'
    refine ⟨[some (.scr ns), some (.ref 0), some (.int j), some (.ref S.length), some (.int k), some (.int many), some (enc t), some (.lst rows), none, none, none, some (enc t'), none], rfl, fun S hS => ?_⟩
    refine ⟨.tup [.int k, enc t', .lst rows], S, ?_, Up.refl hS, k, many, t', rows, rfl, by omega, hk4, g1, g2, q4⟩
    simp [ev, evs, R.bind, se_int, se_enc, sizeLine, settle]
    first | done | (cases t' <;> rfl)) [] S4 u4.1 (by have := subs_len t; simp; omega)
  have S5at : S5[0]? = some (.lst l) := u5.2.2 _ _ hb0 S4at
  have S5len : 0 < S5.length := (List.getElem?_eq_some_iff.mp S5at).1
  have lz : z.length ≤ 3 := by rw [l5, List.length_map]; exact subs_len t
  refine ⟨z, S5.set 0 (.lst (l ++ z)), some (.ref S.length), some (.int k), some (.int many), some (enc t), some (.lst rows), q5, lz, List.getElem?_set_self S5len, ?_⟩
  rw [exs_nx (ρ' := [some (.scr ns), some (.ref 0), some (.int j), some (.ref S.length), o4, o5, o6, o7, none, none, none, none, none]) (S' := S ++ [.lst [.int a, .int s, .int 0]]) (by simp [ex, ev, evs, R.bind, R.fl, settle, asgTo, eb, boxOf])]
  rw [exs_nx (asg_ok (v := .int k) (S' := S2) (by simp [ev, evs, R.bind, settle, bin, ed, ek]))]
  simp only [List.set, se_int]
  rw [exs_nx (asg_ok (em _ _ rfl))]
  simp only [List.set, se_int]
  rw [exs_nx (asg_ok (v := enc t) (S' := S3) (by
    rw [ev, evs, ev]; simp only [List.getElem?_cons_succ, List.getElem?_cons_zero, R.bind]
    rw [evs, ev]; simp only [List.getElem?_cons_succ, List.getElem?_cons_zero, R.bind]
    rw [evs, eh _ _ rfl]
    simp only [R.bind, evs, ev, List.getElem?_cons_succ, List.getElem?_cons_zero, settle, List.append_nil]
    exact et))]
  simp only [List.set, se_enc]
  rw [exs_nx (asg_ok er)]
  simp only [List.set, settle]
  have qc : ev (run prog 29) (.comp (.tup [(.var 4), (.var 11), (.var 7)]) (.nm 11) (.vals (.bin .add (.tup [(.var 6)]) (.sl (.var 6) (some (.cst (.int 2))) none))) none) [some (.scr ns), some (.ref 0), some (.int j), some (.ref S.length), some (.int k), some (.int many), some (enc t), some (.lst rows), none, none, none, none, none] S4 = .ok (.new z) S5 := by
    have qi : evI (run prog 29) (.vals (.bin .add (.tup [(.var 6)]) (.sl (.var 6) (some (.cst (.int 2))) none))) [some (.scr ns), some (.ref 0), some (.int j), some (.ref S.length), some (.int k), some (.int many), some (enc t), some (.lst rows), none, none, none, none, none] S4 = .ok ⟨(subs t).map enc, []⟩ S4 := by
      have g : getSl (enc t) (some 2) none S4 = .ok (.tup ((subs t).tail.map enc)) S4 := by cases t <;> rfl
      have hs : (subs t).map enc = enc t :: (subs t).tail.map enc := by cases t <;> rfl
      have hl2 : ((subs t).tail.map enc).length ≤ 3 := by cases t <;> simp [subs]
      have hz : [enc t].length + ((subs t).tail.map enc).length ≤ sizeLine := by show 1 + _ ≤ 16777216; omega
      have q1 : ev (run prog 29) (.tup [(.var 6)]) [some (.scr ns), some (.ref 0), some (.int j), some (.ref S.length), some (.int k), some (.int many), some (enc t), some (.lst rows), none, none, none, none, none] S4 = .ok (.tup [enc t]) S4 := by simp [ev, evs, R.bind, se_enc, sizeLine]
      have q2 : ev (run prog 29) (.sl (.var 6) (some (.cst (.int 2))) none) [some (.scr ns), some (.ref 0), some (.int j), some (.ref S.length), some (.int k), some (.int many), some (enc t), some (.lst rows), none, none, none, none, none] S4 = .ok (.tup ((subs t).tail.map enc)) S4 := by
        simp only [ev, evO, R.bind, se_enc, List.getElem?_cons_succ, List.getElem?_cons_zero, g]
      have zb : bin .add (settle (.tup [enc t])) (settle (.tup ((subs t).tail.map enc))) S4 = .ok (.tup ((subs t).map enc)) S4 := by
        rw [hs]
        show (if [enc t].length + ((subs t).tail.map enc).length ≤ sizeLine then R.ok (PV.tup ([enc t] ++ (subs t).tail.map enc)) S4 else R.bad) = _
        rw [if_pos hz]
        rfl
      rw [evI, bin_ok (op := .add) q1 q2 zb]
      rfl
    exact comp_ok qi rfl e5
  rw [exs_nx (ext_ok (n := 0) rfl S4at qc S5at (by show l.length + z.length ≤ 16777216; omega)), exs_nil]
end LawK45

namespace LawK45
open Pm
theorem loop1 (ns : List Int) (body : Ss) (hB : ∀ (S : Sto) (l : List PV) (j : Nat) (o3 o4 o5 o6 o7 : Option PV), S[0]? = some (.lst l) → l.length ≤ 100 → ∃ (z : List PV) (S' : Sto) (p3 p4 p5 p6 p7 : Option PV), (∀ p ∈ z, VI p) ∧ z.length ≤ 3 ∧ S'[0]? = some (.lst (l ++ z)) ∧ exs whileM (run prog 29) body
      [some (.scr ns), some (.ref 0), some (.int j), o3, o4, o5, o6, o7, none, none, none, none, none] S = .nx [some (.scr ns), some (.ref 0), some (.int j), p3, p4, p5, p6, p7, none, none, none, none, none] S') : ∀ (is : List Nat) (S : Sto) (l : List PV) (o2 o3 o4 o5 o6 o7 : Option PV), S[0]? = some (.lst l) → (∀ p ∈ l, VI p) → l.length + 3 * is.length ≤ 50 →
    ∃ (S' : Sto) (l' : List PV) (p2 p3 p4 p5 p6 p7 : Option PV), S'[0]? = some (.lst l') ∧ (∀ p ∈ l', VI p) ∧ l'.length ≤ 50 ∧ forGo (fun ρ S => exs whileM (run prog 29) body ρ S) (.nm 2) [] (is.map fun i : Nat => PV.int (i : Int)) [some (.scr ns), some (.ref 0), o2, o3, o4, o5, o6, o7, none, none, none, none, none] S = .nx [some (.scr ns), some (.ref 0), p2, p3, p4, p5, p6, p7, none, none, none, none, none] S' := by
  intro is
  induction is with
  | nil =>
    intro S l o2 o3 o4 o5 o6 o7 hS hv hl
    exact ⟨S, l, o2, o3, o4, o5, o6, o7, hS, hv, by simpa using hl, by simp [forGo, gdOk]⟩
  | cons i is ih =>
    intro S l o2 o3 o4 o5 o6 o7 hS hv hl
    simp only [List.length_cons] at hl
    obtain ⟨z, S1, p3, p4, p5, p6, p7, vz, lz, hS1, e⟩ := hB S l i o3 o4 o5 o6 o7 hS (by omega)
    obtain ⟨S', l', q2, q3, q4, q5, q6, q7, g1, g2, g3, g4⟩ := ih S1 (l ++ z) (some (.int i)) p3 p4 p5 p6 p7 hS1 (fun x hx => by
      rcases List.mem_append.mp hx with hx | hx
      · exact hv x hx
      · exact vz x hx) (by rw [List.length_append]; omega)
    refine ⟨S', l', q2, q3, q4, q5, q6, q7, g1, g2, g3, ?_⟩
    rw [List.map_cons, forGo]
    simp only [gdOk, if_true, store, List.set]
    rw [e]
    exact g4
abbrev ibody : Ss := .cons (.asg (.nm 9) (.call 266 [(.var 4), (.var 6), (.var 8)] [])) (.cons (.ifs (.or (.not (.val (.bi (.isi .int) [(.var 9)]))) (.or (.val (.bi (.isi .bool) [(.var 9)])) (.val (.cmp .ne (.var 9) (.call 268 [(.var 4), (.var 6), (.var 8)] []))))) (.cons (.ret (.cst (.bl false))) .nil) .nil) .nil)
theorem inner {k many : Nat} (hk : 0 < k) (hk4 : k ≤ 4) (t : Tree) (hw : wf k many t) (h3 : ht t ≤ 3) (a0 a1 a2 a3 a5 a7 b0 b1 b2 : Option PV) : ∀ (rows : List PV) (S : Sto) (o8 o9 : Option PV), (∀ r ∈ rows, Row k many r) →
    ∃ (S' : Sto) (p8 p9 : Option PV), forGo (fun ρ S => exs whileM (run prog 29) ibody ρ S) (.nm 8) [] rows [a0, a1, a2, a3, some (.int k), a5, some (enc t), a7, o8, o9, b0, b1, b2] S = .nx [a0, a1, a2, a3, some (.int k), a5, some (enc t), a7, p8, p9, b0, b1, b2] S' := by
  intro rows
  induction rows with
  | nil =>
    intro S o8 o9 _
    exact ⟨S, o8, o9, by simp only [forGo, gdOk, if_true]⟩
  | cons r rows ih =>
    intro S o8 o9 h
    obtain ⟨vs, rfl, hv, hr⟩ := h r List.mem_cons_self
    have e1 := worth_ok hk hk4 hv hr t 29 S hw (by omega)
    have hz := sz_ht t
    have hp : 2 ^ ht t ≤ 2 ^ 3 := Nat.pow_le_pow_right (by omega) h3
    obtain ⟨S1, e2, _⟩ := run_worth2 hk hk4 hv hr t 28 S hw (by omega)
    have e2 : run prog 29 268 [.int k, enc t, .tup (vs.map .int)] S = _ := e2
    obtain ⟨S', p8, p9, e3⟩ := ih S1 (some (.tup (vs.map .int))) (some (.int (val k vs t))) fun q hq => h q (List.mem_cons_of_mem _ hq)
    refine ⟨S', p8, p9, ?_⟩
    rw [forGo]
    simp only [gdOk, if_true, store, List.set]
    generalize val k vs t = x at e1 e2 e3
    rw [exs_nx (asg_ok (v := .int x) (S' := S) (by simp [ev, evs, R.bind, se_int, se_tup, se_enc, e1]))]
    simp only [List.set, se_int]
    have q9 : ev (run prog 29) (.call 268 [(.var 4), (.var 6), (.var 8)] []) [a0, a1, a2, a3, some (.int k), a5, some (enc t), a7, some (.tup (vs.map .int)), some (.int x), b0, b1, b2] S = .ok (.int x) S1 := by simp [ev, evs, R.bind, se_int, se_tup, se_enc, e2]
    rw [exs_nx (ρ' := [a0, a1, a2, a3, some (.int k), a5, some (enc t), a7, some (.tup (vs.map .int)), some (.int x), b0, b1, b2]) (S' := S1) (by
      rw [ifs_f (S' := S1), exs_nil]
      have c1 : ev (run prog 29) (.cmp .ne (.var 9) (.call 268 [(.var 4), (.var 6), (.var 8)] [])) [a0, a1, a2, a3, some (.int k), a5, some (enc t), a7, some (.tup (vs.map .int)), some (.int x), b0, b1, b2] S = .ok (.bl false) S1 := by
        rw [ev, show ev (run prog 29) (.var 9) [a0, a1, a2, a3, some (.int k), a5, some (enc t), a7, some (.tup (vs.map .int)), some (.int x), b0, b1, b2] S = .ok (.int x) S from by simp [ev]]
        simp only [R.bind]
        rw [q9]
        simp [R.bind, settle, cmp, look, eqOk, scal, kind, eqv]
      rw [evT, evT, evT]
      rw [show ev (run prog 29) (.bi (.isi .int) [(.var 9)]) [a0, a1, a2, a3, some (.int k), a5, some (enc t), a7, some (.tup (vs.map .int)), some (.int x), b0, b1, b2] S = .ok (.bl true) S from by simp [ev, evs, R.bind, settle, bfn, one, typed, isTy]]
      simp only [R.bind, tstOf, settle, truth, Bool.not_true, Bool.false_eq_true, if_false]
      rw [evT, evT]
      rw [show ev (run prog 29) (.bi (.isi .bool) [(.var 9)]) [a0, a1, a2, a3, some (.int k), a5, some (enc t), a7, some (.tup (vs.map .int)), some (.int x), b0, b1, b2] S = .ok (.bl false) S from by simp [ev, evs, R.bind, settle, bfn, one, typed, isTy]]
      simp only [R.bind, tstOf, settle, truth, Bool.false_eq_true, if_false]
      rw [evT, c1]
      rfl)]
    rw [exs_nil]
    exact e3
theorem loop2 : ∀ (xs : List PV) (S : Sto) (a0 a1 a2 a3 a5 b0 b1 b2 o4 o6 o7 o8 o9 : Option PV), (∀ p ∈ xs, VI p) →
    ∃ (S' : Sto) (ρ : Sl), forGo (fun ρ S => exs whileM (run prog 29) (.cons (.for (.nm 8) (.vals (.var 7)) ibody) .nil) ρ S) (.tu [4, 6, 7]) [] xs [a0, a1, a2, a3, o4, a5, o6, o7, o8, o9, b0, b1, b2] S = .nx ρ S' := by
  intro xs
  induction xs with
  | nil =>
    intro S a0 a1 a2 a3 a5 b0 b1 b2 o4 o6 o7 o8 o9 hv
    exact ⟨S, [a0, a1, a2, a3, o4, a5, o6, o7, o8, o9, b0, b1, b2], by simp only [forGo, gdOk, if_true]⟩
  | cons x xs ih =>
    intro S a0 a1 a2 a3 a5 b0 b1 b2 o4 o6 o7 o8 o9 hv
    obtain ⟨k, many, t, rows, rfl, hk, hk4, hw, h3, hr⟩ := hv x List.mem_cons_self
    obtain ⟨S1, p8, p9, e1⟩ := inner hk hk4 t hw h3 a0 a1 a2 a3 a5 (some (.lst rows)) b0 b1 b2 rows S o8 o9 hr
    obtain ⟨S', ρ, e2⟩ := ih S1 a0 a1 a2 a3 a5 b0 b1 b2 (some (.int k)) (some (enc t)) (some (.lst rows)) p8 p9 fun p hp => hv p (List.mem_cons_of_mem _ hp)
    refine ⟨S', ρ, ?_⟩
    rw [forGo]
    simp only [gdOk, if_true, store, setAll, List.set, List.length_cons, List.length_nil]
    rw [exs_nx (ρ' := [a0, a1, a2, a3, some (.int k), a5, some (enc t), some (.lst rows), p8, p9, b0, b1, b2]) (S' := S1) (by
      rw [ex, show evI (run prog 29) (.vals (.var 7)) [a0, a1, a2, a3, some (.int k), a5, some (enc t), some (.lst rows), o8, o9, b0, b1, b2] S = .ok ⟨rows, []⟩ S from by simp [evI, ev, R.bind, settle, srcOf]]
      exact e1), exs_nil]
    exact e2
theorem law_plain : ∀ ns : List Int, ns.length ≤ 63 → ∃ S, Pm.run prog 30 269 [.scr ns] [] = .ok (.bl true) S := by
  intro ns _
  have st : start fn_law_V38.ns [PV.scr ns] = [some (.scr ns), none, none, none, none, none, none, none, none, none, none, none, none] := rfl
  obtain ⟨S1, l, p2, p3, p4, p5, p6, p7, hS1, hv, hl, e1⟩ := loop1 ns _ (fun S l j o3 o4 o5 o6 o7 => turn1 S l ns j o3 o4 o5 o6 o7) [0, 1] [.lst []] [] none none none none none none rfl (fun p hp => by simp at hp) (by simp)
  obtain ⟨S2, ρ, e2⟩ := loop2 (l ++ l.take 1) S1 (some (.scr ns)) (some (.ref 0)) p2 p3 p5 none none none p4 p6 p7 none none fun p hp => by
    rcases List.mem_append.mp hp with hp | hp
    · exact hv p hp
    · exact hv p (List.mem_of_mem_take hp)
  have hz : l.length + (l.take 1).length ≤ sizeLine := by
    rw [List.length_take]
    show _ ≤ 16777216
    omega
  have ec : cut l none (some 1) = l.take 1 := by
    simp only [cut, bound]
    rw [List.drop_zero]
    by_cases h : l.length ≤ 1
    · rw [List.take_of_length_le h, List.take_of_length_le]
      omega
    · congr 1
      omega
  have body : exs whileM (run prog 29) fn_law_V38.body [some (.scr ns), none, none, none, none, none, none, none, none, none, none, none, none] [] = .rt (.bl true) S2 := by
    simp only [fn_law_V38]
    rw [exs_nx (ρ' := [some (.scr ns), some (.ref 0), none, none, none, none, none, none, none, none, none, none, none]) (S' := [.lst []]) (by simp [ex, ev, evs, R.bind, R.fl, settle, asgTo, boxOf, sizeLine])]
    rw [exs_nx (by
      rw [ex, show evI (run prog 29) (.rng1 (.cst (.int 2))) [some (.scr ns), some (.ref 0), none, none, none, none, none, none, none, none, none, none, none] [.lst []] = .ok ⟨[0, 1].map fun i : Nat => PV.int (i : Int), []⟩ [.lst []] from by
        have hb : bnd 2 = true := by unfold bnd; rw [Bool.and_eq_true, decide_eq_true_eq, decide_eq_true_eq]; omega
        exact (rng1_ok (by rw [ev]) hb)]
      exact e1)]
    rw [exs_nx (ρ' := ρ) (S' := S2) (by
      rw [ex]
      simp only [evI, ev, evO, R.bind, R.fl, settle, List.getElem?_cons_succ, List.getElem?_cons_zero, getSl, bin, isLst, hS1, ec, hz, if_true, srcOf]
      exact e2)]
    exact exs_rt (ret_ok (by rw [ev]))
  rw [run_def (d := fn_law_V38) rfl rfl, st, body]
  rcases fin_rt (n := ([] : Sto).length) (v := .bl true) (S' := S2) rfl with h | h
  · exact ⟨_, h⟩
  · exact ⟨_, h⟩
end LawK45

namespace LawK45
open Pm
open PySem L2 Ps
abbrev stAt (i : Nat) : Stmt := PySem.Challenge.pw_lentshelf_k45_trees_of_tables.main.body.getD i (.Pass ⟨0, 0, 0, 0⟩)
abbrev st266 : Stmt := stAt 1
abbrev st2 : Stmt := stAt 3
abbrev st3 : Stmt := stAt 4
abbrev st260 : Stmt := stAt 5
abbrev st267 : Stmt := stAt 6
abbrev st268 : Stmt := stAt 7
abbrev st269 : Stmt := stAt 8
def tab : Tab := ⟨[("tree_worth", 266, []), ("_law_box", 2, []), ("_law_take", 3, []), ("_law_table", 260, []), ("_law_tree", 267, []), ("_law_worth", 268, []), ("law", 269, [])], ["len", "int", "tuple", "isinstance", "range", "bool"], []⟩
theorem sc266 : FnScope ["k", "tree", "values"] ["k", "tree", "values"] (defScope st266) := ⟨rfl, rfl, rfl, by decide +kernel, rfl, by decide +kernel, by decide +kernel⟩
theorem ck266 : chkSs tab ⟨["k", "tree", "values"], defScope st266, none⟩ fn_tree_worth.body (defBody st266) = true := by decide +kernel
theorem sc2 : FnScope ["_law_script", "_law_k", "_law_cell", "_law_seed"] ["_law_script", "_law_k"] (defScope st2) := ⟨rfl, rfl, rfl, by decide +kernel, rfl, by decide +kernel, by decide +kernel⟩
theorem ck2 : chkSs tab ⟨["_law_script", "_law_k", "_law_cell", "_law_seed"], defScope st2, none⟩ fn_law_box.body (defBody st2) = true := by decide +kernel
theorem sc3 : FnScope ["_law_box_here", "_law_many", "_law_one", "_law_digit"] ["_law_box_here", "_law_many"] (defScope st3) := ⟨rfl, rfl, rfl, by decide +kernel, rfl, by decide +kernel, by decide +kernel⟩
theorem ck3 : chkSs tab ⟨["_law_box_here", "_law_many", "_law_one", "_law_digit"], defScope st3, none⟩ fn_law_take.body (defBody st3) = true := by decide +kernel
theorem sc260 : FnScope ["_law_box_here", "_law_k", "_law_shape", "_law_found", "_law_j"] ["_law_box_here", "_law_k"] (defScope st260) := ⟨rfl, rfl, rfl, by decide +kernel, rfl, by decide +kernel, by decide +kernel⟩
theorem ck260 : chkSs tab ⟨["_law_box_here", "_law_k", "_law_shape", "_law_found", "_law_j"], defScope st260, none⟩ fn_law_table.body (defBody st260) = true := by decide +kernel
theorem sc267 : FnScope ["_law_box_here", "_law_k", "_law_high", "_law_leaves", "_law_shape", "_law_table_here", "_law_one", "_law_other"] ["_law_box_here", "_law_k", "_law_high", "_law_leaves"] (defScope st267) := ⟨rfl, rfl, rfl, by decide +kernel, rfl, by decide +kernel, by decide +kernel⟩
theorem ck267 : chkSs tab ⟨["_law_box_here", "_law_k", "_law_high", "_law_leaves", "_law_shape", "_law_table_here", "_law_one", "_law_other"], defScope st267, none⟩ fn_law_tree.body (defBody st267) = true := by decide +kernel
theorem sc268 : FnScope ["_law_k", "_law_tree_here", "_law_values", "_law_left", "_law_ready", "_law_one", "_law_first", "_law_second"] ["_law_k", "_law_tree_here", "_law_values"] (defScope st268) := ⟨rfl, rfl, rfl, by decide +kernel, rfl, by decide +kernel, by decide +kernel⟩
theorem ck268 : chkSs tab ⟨["_law_k", "_law_tree_here", "_law_values", "_law_left", "_law_ready", "_law_one", "_law_first", "_law_second"], defScope st268, none⟩ fn_law_worth_V2.body (defBody st268) = true := by decide +kernel
theorem sc269 : FnScope ["_law_script", "_law_asked", "_law_j", "_law_box_here", "_law_k", "_law_many", "_law_tree_here", "_law_rows", "_law_values", "_law_found", "_law_r", "_law_one", "_law_i"] ["_law_script"] (defScope st269) := ⟨rfl, rfl, rfl, by decide +kernel, rfl, by decide +kernel, by decide +kernel⟩
theorem ck269 : chkSs tab ⟨["_law_script", "_law_asked", "_law_j", "_law_box_here", "_law_k", "_law_many", "_law_tree_here", "_law_rows", "_law_values", "_law_found", "_law_r", "_law_one", "_law_i"], defScope st269, none⟩ fn_law_V38.body (defBody st269) = true := by decide +kernel
theorem all_mk {l : PySem.W.OpenLaw} {w : World} {K : PySem.W.Frag} {h : Heap} {mg : Str → Option Value} {fa f1 f2 f3 f4 f5 f6 f7 : Addr} (X : K.In h) (G : h.Ns mainGlobals mg) (hfa : mg "law" = some (.ref fa))
    {od1 an1 od2 an2 od3 an3 od4 an4 od5 an5 od6 an6 od7 an7 : Option Addr} {sl1 sl2 sl3 sl4 sl5 sl6 sl7 : Array (Option Value)} {oc1 kV1 dc1 pm1 cd1 ct1 oc2 kV2 dc2 pm2 cd2 ct2 oc3 kV3 dc3 pm3 cd3 ct3 oc4 kV4 dc4 pm4 cd4 ct4 oc5 kV5 dc5 pm5 cd5 ct5 oc6 kV6 dc6 pm6 cd6 ct6 oc7 kV7 dc7 pm7 cd7 ct7 : Value}
    (a1 : PySem.W.nsIn K mainGlobals "tree_worth" = some (some (.ref f1))) (l1 : K.lookup f1 = some ⟨oc1, od1, .func (PySem.W.fnOf "tree_worth" "tree_worth" (defArgs st266) (defBody st266) (defScope st266) .none kV1 dc1 pm1 an1 cd1 ct1), sl1⟩) (c1 : PySem.W.codeIn K cd1 "tree_worth" = true) (k1 : PySem.W.keepIn K (.ref f1) = true)
    (a2 : PySem.W.nsIn K mainGlobals "_law_box" = some (some (.ref f2))) (l2 : K.lookup f2 = some ⟨oc2, od2, .func (PySem.W.fnOf "_law_box" "_law_box" (defArgs st2) (defBody st2) (defScope st2) .none kV2 dc2 pm2 an2 cd2 ct2), sl2⟩) (c2 : PySem.W.codeIn K cd2 "_law_box" = true) (k2 : PySem.W.keepIn K (.ref f2) = true)
    (a3 : PySem.W.nsIn K mainGlobals "_law_take" = some (some (.ref f3))) (l3 : K.lookup f3 = some ⟨oc3, od3, .func (PySem.W.fnOf "_law_take" "_law_take" (defArgs st3) (defBody st3) (defScope st3) .none kV3 dc3 pm3 an3 cd3 ct3), sl3⟩) (c3 : PySem.W.codeIn K cd3 "_law_take" = true) (k3 : PySem.W.keepIn K (.ref f3) = true)
    (a4 : PySem.W.nsIn K mainGlobals "_law_table" = some (some (.ref f4))) (l4 : K.lookup f4 = some ⟨oc4, od4, .func (PySem.W.fnOf "_law_table" "_law_table" (defArgs st260) (defBody st260) (defScope st260) .none kV4 dc4 pm4 an4 cd4 ct4), sl4⟩) (c4 : PySem.W.codeIn K cd4 "_law_table" = true) (k4 : PySem.W.keepIn K (.ref f4) = true)
    (a5 : PySem.W.nsIn K mainGlobals "_law_tree" = some (some (.ref f5))) (l5 : K.lookup f5 = some ⟨oc5, od5, .func (PySem.W.fnOf "_law_tree" "_law_tree" (defArgs st267) (defBody st267) (defScope st267) .none kV5 dc5 pm5 an5 cd5 ct5), sl5⟩) (c5 : PySem.W.codeIn K cd5 "_law_tree" = true) (k5 : PySem.W.keepIn K (.ref f5) = true)
    (a6 : PySem.W.nsIn K mainGlobals "_law_worth" = some (some (.ref f6))) (l6 : K.lookup f6 = some ⟨oc6, od6, .func (PySem.W.fnOf "_law_worth" "_law_worth" (defArgs st268) (defBody st268) (defScope st268) .none kV6 dc6 pm6 an6 cd6 ct6), sl6⟩) (c6 : PySem.W.codeIn K cd6 "_law_worth" = true) (k6 : PySem.W.keepIn K (.ref f6) = true)
    (a7 : PySem.W.nsIn K mainGlobals "law" = some (some (.ref f7))) (l7 : K.lookup f7 = some ⟨oc7, od7, .func (PySem.W.fnOf "law" "law" (defArgs st269) (defBody st269) (defScope st269) .none kV7 dc7 pm7 an7 cd7 ct7), sl7⟩) (c7 : PySem.W.codeIn K cd7 "law" = true) (k7 : PySem.W.keepIn K (.ref f7) = true)
    (z0 : PySem.W.nsIn K mainGlobals "len" = some none)
    (z1 : PySem.W.nsIn K mainGlobals "int" = some none)
    (z2 : PySem.W.nsIn K mainGlobals "tuple" = some none)
    (z3 : PySem.W.nsIn K mainGlobals "isinstance" = some none)
    (z4 : PySem.W.nsIn K mainGlobals "range" = some none)
    (z5 : PySem.W.nsIn K mainGlobals "bool" = some none) :
    ∃ fd : FuncData, (∀ (s : Shared) (v : Value), BindsTo s fd ⟨[v], []⟩ [("_law_script", v)]) ∧ ∀ base : Heap, K.In base → base.Ns mainGlobals mg → FnOk l.prog w K mg base CX0 30 fa fd ["_law_script"] (spM ⟨K, noCls, noFld⟩ (Pm.run prog 30 269)) := by
  have e := hfa.symm.trans (PySem.W.mg_of X G a7)
  have ef : f7 = fa := by cases e; rfl
  subst ef
  have F1 := fun_mk (st := st266) l1 c1 k1
  have D1 : DfOk K mg tab prog ⟨266, "tree_worth", st266, _, _, ["k", "tree", "values"], ["k", "tree", "values"]⟩ := ⟨F1, F1.binds (ps := ["k", "tree", "values"]) fun _ _ _ _ _ _ us hl => match us, hl with | [_, _, _], _ => rfl, sc266, PySem.W.mg_of X G a1, _, rfl, rfl, rfl, ck266⟩
  have F2 := fun_mk (st := st2) l2 c2 k2
  have D2 : DfOk K mg tab prog ⟨2, "_law_box", st2, _, _, ["_law_script", "_law_k", "_law_cell", "_law_seed"], ["_law_script", "_law_k"]⟩ := ⟨F2, F2.binds (ps := ["_law_script", "_law_k"]) fun _ _ _ _ _ _ us hl => match us, hl with | [_, _], _ => rfl, sc2, PySem.W.mg_of X G a2, _, rfl, rfl, rfl, ck2⟩
  have F3 := fun_mk (st := st3) l3 c3 k3
  have D3 : DfOk K mg tab prog ⟨3, "_law_take", st3, _, _, ["_law_box_here", "_law_many", "_law_one", "_law_digit"], ["_law_box_here", "_law_many"]⟩ := ⟨F3, F3.binds (ps := ["_law_box_here", "_law_many"]) fun _ _ _ _ _ _ us hl => match us, hl with | [_, _], _ => rfl, sc3, PySem.W.mg_of X G a3, _, rfl, rfl, rfl, ck3⟩
  have F4 := fun_mk (st := st260) l4 c4 k4
  have D4 : DfOk K mg tab prog ⟨260, "_law_table", st260, _, _, ["_law_box_here", "_law_k", "_law_shape", "_law_found", "_law_j"], ["_law_box_here", "_law_k"]⟩ := ⟨F4, F4.binds (ps := ["_law_box_here", "_law_k"]) fun _ _ _ _ _ _ us hl => match us, hl with | [_, _], _ => rfl, sc260, PySem.W.mg_of X G a4, _, rfl, rfl, rfl, ck260⟩
  have F5 := fun_mk (st := st267) l5 c5 k5
  have D5 : DfOk K mg tab prog ⟨267, "_law_tree", st267, _, _, ["_law_box_here", "_law_k", "_law_high", "_law_leaves", "_law_shape", "_law_table_here", "_law_one", "_law_other"], ["_law_box_here", "_law_k", "_law_high", "_law_leaves"]⟩ := ⟨F5, F5.binds (ps := ["_law_box_here", "_law_k", "_law_high", "_law_leaves"]) fun _ _ _ _ _ _ us hl => match us, hl with | [_, _, _, _], _ => rfl, sc267, PySem.W.mg_of X G a5, _, rfl, rfl, rfl, ck267⟩
  have F6 := fun_mk (st := st268) l6 c6 k6
  have D6 : DfOk K mg tab prog ⟨268, "_law_worth", st268, _, _, ["_law_k", "_law_tree_here", "_law_values", "_law_left", "_law_ready", "_law_one", "_law_first", "_law_second"], ["_law_k", "_law_tree_here", "_law_values"]⟩ := ⟨F6, F6.binds (ps := ["_law_k", "_law_tree_here", "_law_values"]) fun _ _ _ _ _ _ us hl => match us, hl with | [_, _, _], _ => rfl, sc268, PySem.W.mg_of X G a6, _, rfl, rfl, rfl, ck268⟩
  have F7 := fun_mk (st := st269) l7 c7 k7
  have D7 : DfOk K mg tab prog ⟨269, "law", st269, _, _, ["_law_script", "_law_asked", "_law_j", "_law_box_here", "_law_k", "_law_many", "_law_tree_here", "_law_rows", "_law_values", "_law_found", "_law_r", "_law_one", "_law_i"], ["_law_script"]⟩ := ⟨F7, F7.binds (ps := ["_law_script"]) fun _ _ _ _ _ _ us hl => match us, hl with | [_], _ => rfl, sc269, PySem.W.mg_of X G a7, _, rfl, rfl, rfl, ck269⟩
  refine ⟨PySem.W.fnOf "law" "law" (defArgs st269) (defBody st269) (defScope st269) .none kV7 dc7 pm7 an7 cd7 ct7, fun s v => .of_eq rfl, fun base _ _ => ?_⟩
  refine all_fns (T := tab) (Ds := [⟨266, "tree_worth", st266, f1, (PySem.W.fnOf "tree_worth" "tree_worth" (defArgs st266) (defBody st266) (defScope st266) .none kV1 dc1 pm1 an1 cd1 ct1), ["k", "tree", "values"], ["k", "tree", "values"]⟩, ⟨2, "_law_box", st2, f2, (PySem.W.fnOf "_law_box" "_law_box" (defArgs st2) (defBody st2) (defScope st2) .none kV2 dc2 pm2 an2 cd2 ct2), ["_law_script", "_law_k", "_law_cell", "_law_seed"], ["_law_script", "_law_k"]⟩, ⟨3, "_law_take", st3, f3, (PySem.W.fnOf "_law_take" "_law_take" (defArgs st3) (defBody st3) (defScope st3) .none kV3 dc3 pm3 an3 cd3 ct3), ["_law_box_here", "_law_many", "_law_one", "_law_digit"], ["_law_box_here", "_law_many"]⟩, ⟨260, "_law_table", st260, f4, (PySem.W.fnOf "_law_table" "_law_table" (defArgs st260) (defBody st260) (defScope st260) .none kV4 dc4 pm4 an4 cd4 ct4), ["_law_box_here", "_law_k", "_law_shape", "_law_found", "_law_j"], ["_law_box_here", "_law_k"]⟩, ⟨267, "_law_tree", st267, f5, (PySem.W.fnOf "_law_tree" "_law_tree" (defArgs st267) (defBody st267) (defScope st267) .none kV5 dc5 pm5 an5 cd5 ct5), ["_law_box_here", "_law_k", "_law_high", "_law_leaves", "_law_shape", "_law_table_here", "_law_one", "_law_other"], ["_law_box_here", "_law_k", "_law_high", "_law_leaves"]⟩, ⟨268, "_law_worth", st268, f6, (PySem.W.fnOf "_law_worth" "_law_worth" (defArgs st268) (defBody st268) (defScope st268) .none kV6 dc6 pm6 an6 cd6 ct6), ["_law_k", "_law_tree_here", "_law_values", "_law_left", "_law_ready", "_law_one", "_law_first", "_law_second"], ["_law_k", "_law_tree_here", "_law_values"]⟩, ⟨269, "law", st269, f7, (PySem.W.fnOf "law" "law" (defArgs st269) (defBody st269) (defScope st269) .none kV7 dc7 pm7 an7 cd7 ct7), ["_law_script", "_law_asked", "_law_j", "_law_box_here", "_law_k", "_law_many", "_law_tree_here", "_law_rows", "_law_values", "_law_found", "_law_r", "_law_one", "_law_i"], ["_law_script"]⟩]) ?hh ?hb (fun p hp => absurd hp List.not_mem_nil) ?hf 30 ⟨269, "law", st269, f7, (PySem.W.fnOf "law" "law" (defArgs st269) (defBody st269) (defScope st269) .none kV7 dc7 pm7 an7 cd7 ct7), ["_law_script", "_law_asked", "_law_j", "_law_box_here", "_law_k", "_law_many", "_law_tree_here", "_law_rows", "_law_values", "_law_found", "_law_r", "_law_one", "_law_i"], ["_law_script"]⟩ ?hm
  case hh => exact List.forall_mem_cons.mpr ⟨D1, List.forall_mem_cons.mpr ⟨D2, List.forall_mem_cons.mpr ⟨D3, List.forall_mem_cons.mpr ⟨D4, List.forall_mem_cons.mpr ⟨D5, List.forall_mem_cons.mpr ⟨D6, List.forall_mem_cons.mpr ⟨D7, List.forall_mem_nil _⟩⟩⟩⟩⟩⟩⟩
  case hb => exact List.forall_mem_cons.mpr ⟨PySem.W.mg_none_of X G z0, List.forall_mem_cons.mpr ⟨PySem.W.mg_none_of X G z1, List.forall_mem_cons.mpr ⟨PySem.W.mg_none_of X G z2, List.forall_mem_cons.mpr ⟨PySem.W.mg_none_of X G z3, List.forall_mem_cons.mpr ⟨PySem.W.mg_none_of X G z4, List.forall_mem_cons.mpr ⟨PySem.W.mg_none_of X G z5, List.forall_mem_nil _⟩⟩⟩⟩⟩⟩
  case hf => exact fns_of rfl
  case hm => exact .tail _ (.tail _ (.tail _ (.tail _ (.tail _ (.tail _ (.head _))))))
end LawK45
open PySem PySem.W PyProof.Rows
set_option maxRecDepth 100000 in
set_option maxHeartbeats 0 in
theorem PySem.Challenge.cw_lentshelf_k45_trees_of_tables_holds : PySem.Challenge.rw_lentshelf_k45_trees_of_tables.Holds := by
  w_on; o_law; k_head; (case hw => w_witness2)
  k_fill
  refine Ps.walk_ps (k := 30) (x := "_law_script") (l := PySem.Challenge.rw_lentshelf_k45_trees_of_tables) rfl rfl ⟨rfl, by decide, by decide⟩ (fun w h Y => PySem.W.kIn_of Y) LawK45.law_plain ?F
  case F =>
    intro w mg fa h KX G hmg
    refine' LawK45.all_mk KX G hmg ?a1 ?l1 ?c1 ?k1 ?a2 ?l2 ?c2 ?k2 ?a3 ?l3 ?c3 ?k3 ?a4 ?l4 ?c4 ?k4 ?a5 ?l5 ?c5 ?k5 ?a6 ?l6 ?c6 ?k6 ?a7 ?l7 ?c7 ?k7 ?z0 ?z1 ?z2 ?z3 ?z4 ?z5
    (case a1 => k_is)
    (case l1 => k_is)
    (case c1 => k_is)
    (case k1 => k_is)
    (case a2 => k_is)
    (case l2 => k_is)
    (case c2 => k_is)
    (case k2 => k_is)
    (case a3 => k_is)
    (case l3 => k_is)
    (case c3 => k_is)
    (case k3 => k_is)
    (case a4 => k_is)
    (case l4 => k_is)
    (case c4 => k_is)
    (case k4 => k_is)
    (case a5 => k_is)
    (case l5 => k_is)
    (case c5 => k_is)
    (case k5 => k_is)
    (case a6 => k_is)
    (case l6 => k_is)
    (case c6 => k_is)
    (case k6 => k_is)
    (case a7 => k_is)
    (case l7 => k_is)
    (case c7 => k_is)
    (case k7 => k_is)
    (case z0 => k_is)
    (case z1 => k_is)
    (case z2 => k_is)
    (case z3 => k_is)
    (case z4 => k_is)
    (case z5 => k_is)

