import PyProof.Rows.All
import Wide.All
import OpenK.AllK
import Wide.FinOn
import HandS.ForMost
import HandS.IsInst
import HandS.Zip
import HandS.SortInts
import HandS.Style
import HandS.Wide
import HandS.Conv
import HandS.TryOnly
import HandS.Defaults
import HandS.TupAny
import HandS.Walk
import HandS.Small
import HandS.Words
import HandS.Ends
import Wide.Loose
import PyProof.ReprLen
import PySem.Challenge.RW_clockrests_k96_whole_sums_over_units_and
set_option Elab.async false
set_option linter.all false
set_option maxRecDepth 100000
set_option maxHeartbeats 4000000
noncomputable section
/-! DI: an interpreter over plain data. Values of the language without the heap; lists that a program changes are cells of a store, all others are values. -/
namespace DI
open PySem L2
inductive D where
  | non | bl (b : Bool) | int (i : Int) | str (x : Str)
  | lst (xs : List D) | tup (xs : List D) | scr (ns : List Int) | emp | cel (n : Nat)
  deriving Inhabited
inductive Cell where
  | lst (xs : List D) | dct (kvs : List (Key × D))
abbrev Store := List (Option Cell)
abbrev Rho := List (Option D)
structure Ex where
  name : Str
  args : List (Str × D)
inductive O (α : Type) where
  | ok (a : α) (S : Store) | er (x : Ex) (ρ : Rho) (S : Store) | no
def O.holds {α : Type} : O α → (α → Store → Prop) → (Ex → Rho → Store → Prop) → Prop
  | .ok a S, Q, _ => Q a S
  | .er x ρ S, _, E => E x ρ S
  | .no, _, _ => False
def O.bind {α β : Type} (o : O α) (k : α → Store → O β) : O β := match o with
  | .ok a S => k a S
  | .er x ρ S => .er x ρ S
  | .no => .no
@[simp] theorem O.bind_ok {α β : Type} (a : α) (S : Store) (k : α → Store → O β) : (O.ok a S).bind k = k a S := rfl
@[simp] theorem O.bind_er {α β : Type} (x : Ex) (ρ : Rho) (S : Store) (k : α → Store → O β) : (O.er x ρ S : O α).bind k = .er x ρ S := rfl
@[simp] theorem O.bind_no {α β : Type} (k : α → Store → O β) : (O.no : O α).bind k = .no := rfl
theorem O.bind_holds {α β : Type} {o : O α} {k : α → Store → O β} {Q : β → Store → Prop} {E : Ex → Rho → Store → Prop} :
    (o.bind k).holds Q E = o.holds (fun a S => (k a S).holds Q E) E := by cases o <;> rfl
theorem O.holds_mono {α : Type} {o : O α} {Q Q' : α → Store → Prop} {E E' : Ex → Rho → Store → Prop} (h : o.holds Q E) (hq : ∀ a S, Q a S → Q' a S) (he : ∀ x ρ S, E x ρ S → E' x ρ S) : o.holds Q' E' := by
  cases o with
  | ok a S => exact hq a S h
  | er x ρ S => exact he x ρ S h
  | no => exact h
/-- nothing may be raised -/
def O.calm {α : Type} : O α → O α
  | .er _ _ _ => .no
  | o => o
@[simp] theorem O.calm_ok {α : Type} (a : α) (S : Store) : (O.ok a S).calm = .ok a S := rfl
/-- what an operation gives: a value, or a list that nobody else has -/
inductive Res where
  | d (d : D) | new (xs : List D)
def LINE : Nat := 16777216
/-- a new list becomes a cell, or a value -/
def settle (al : Bool) (r : Res) (S : Store) : O D := match r with
  | .d d => .ok d S
  | .new xs => if al then .ok (.cel S.length) (S ++ [some (.lst xs)]) else .ok (.lst xs) S
def ofRes (al : Bool) (r : Option Res) (S : Store) : O D := match r with
  | some r => settle al r S
  | none => .no
/-! ### looking into values -/
def cellL (S : Store) (n : Nat) : Option (List D) := match S[n]? with
  | some (some (.lst xs)) => some xs
  | _ => none
def cellK (S : Store) (n : Nat) : Option (List (Key × D)) := match S[n]? with
  | some (some (.dct xs)) => some xs
  | _ => none
/-- the items of a list -/
def listOf (S : Store) : D → Option (List D)
  | .lst xs => some xs
  | .cel n => cellL S n
  | .scr ns => some (ns.map .int)
  | _ => none
/-- .. that stands as itself (a sum, a repetition) -/
def plainL : D → Bool
  | .scr _ => false
  | _ => true
/-- the items of a list or a tuple -/
def seqOf (S : Store) : D → Option (List D)
  | .tup xs => some xs
  | d => listOf S d
/-- ints, bools -/
def intsOf : List D → Option (List Int)
  | [] => some []
  | .int i :: r => (intsOf r).map (i :: ·)
  | _ => none
def blsOf : List D → Option (List Bool)
  | [] => some []
  | .bl i :: r => (blsOf r).map (i :: ·)
  | _ => none
theorem intsOf_map (ns : List Int) : intsOf (ns.map .int) = some ns := by
  induction ns with
  | nil => rfl
  | cons n r ih => simp [intsOf, ih]
theorem blsOf_map (ns : List Bool) : blsOf (ns.map .bl) = some ns := by
  induction ns with
  | nil => rfl
  | cons n r ih => simp [blsOf, ih]
theorem intsOf_eq : ∀ {xs : List D} {ns : List Int}, intsOf xs = some ns → xs = ns.map .int
  | [], ns, h => by cases h; rfl
  | .int i :: r, ns, h => by
    simp only [intsOf, Option.map_eq_some_iff] at h
    obtain ⟨m, h1, rfl⟩ := h
    rw [intsOf_eq h1]; rfl
  | .non :: _, _, h => by cases h
  | .bl _ :: _, _, h => by cases h
  | .str _ :: _, _, h => by cases h
  | .lst _ :: _, _, h => by cases h
  | .tup _ :: _, _, h => by cases h
  | .scr _ :: _, _, h => by cases h
  | .emp :: _, _, h => by cases h
  | .cel _ :: _, _, h => by cases h
theorem blsOf_eq : ∀ {xs : List D} {ns : List Bool}, blsOf xs = some ns → xs = ns.map .bl
  | [], ns, h => by cases h; rfl
  | .bl i :: r, ns, h => by
    simp only [blsOf, Option.map_eq_some_iff] at h
    obtain ⟨m, h1, rfl⟩ := h
    rw [blsOf_eq h1]; rfl
  | .non :: _, _, h => by cases h
  | .int _ :: _, _, h => by cases h
  | .str _ :: _, _, h => by cases h
  | .lst _ :: _, _, h => by cases h
  | .tup _ :: _, _, h => by cases h
  | .scr _ :: _, _, h => by cases h
  | .emp :: _, _, h => by cases h
  | .cel _ :: _, _, h => by cases h
/-! ### the same value; values that name no cell from b on -/
mutual
def D.same : D → D → Bool
  | .non, .non => true
  | .bl a, .bl b => a == b
  | .int a, .int b => decide (a = b)
  | .str a, .str b => decide (a = b)
  | .lst xs, .lst ys => sameL xs ys
  | .tup xs, .tup ys => sameL xs ys
  | .scr a, .scr b => decide (a = b)
  | .emp, .emp => true
  | .cel a, .cel b => decide (a = b)
  | _, _ => false
def sameL : List D → List D → Bool
  | [], [] => true
  | x :: r, y :: t => x.same y && sameL r t
  | _, _ => false
end
mutual
theorem D.same_eq : ∀ {a b : D}, a.same b = true → a = b
  | .non, b, h => by cases b <;> first | rfl | cases h
  | .bl a, b, h => by cases b <;> first | (have h : (a == _) = true := h; rw [beq_iff_eq] at h; rw [h]) | cases h
  | .int a, b, h => by cases b <;> first | (have h : decide (a = _) = true := h; rw [of_decide_eq_true h]) | cases h
  | .str a, b, h => by cases b <;> first | (have h : decide (a = _) = true := h; rw [of_decide_eq_true h]) | cases h
  | .lst xs, b, h => by cases b <;> first | (have h : sameL xs _ = true := h; rw [sameL_eq h]) | cases h
  | .tup xs, b, h => by cases b <;> first | (have h : sameL xs _ = true := h; rw [sameL_eq h]) | cases h
  | .scr a, b, h => by cases b <;> first | (have h : decide (a = _) = true := h; rw [of_decide_eq_true h]) | cases h
  | .emp, b, h => by cases b <;> first | rfl | cases h
  | .cel a, b, h => by cases b <;> first | (have h : decide (a = _) = true := h; rw [of_decide_eq_true h]) | cases h
theorem sameL_eq : ∀ {a b : List D}, sameL a b = true → a = b
  | [], b, h => by cases b <;> first | rfl | cases h
  | x :: r, b, h => by
    cases b with
    | nil => cases h
    | cons y t =>
      have h : (x.same y && sameL r t) = true := h
      rw [Bool.and_eq_true] at h
      rw [D.same_eq h.1, sameL_eq h.2]
end
mutual
theorem D.same_refl : ∀ a : D, a.same a = true
  | .non => rfl
  | .bl a => (beq_iff_eq).mpr rfl
  | .int _ => decide_eq_true rfl
  | .str _ => decide_eq_true rfl
  | .lst xs => sameL_refl xs
  | .tup xs => sameL_refl xs
  | .scr _ => decide_eq_true rfl
  | .emp => rfl
  | .cel _ => decide_eq_true rfl
theorem sameL_refl : ∀ a : List D, sameL a a = true
  | [] => rfl
  | x :: r => by
    show (x.same x && sameL r r) = true
    rw [D.same_refl x, sameL_refl r]; rfl
end
mutual
def D.low (b : Nat) : D → Bool
  | .lst xs => lowL b xs
  | .tup xs => lowL b xs
  | .cel n => decide (n < b)
  | _ => true
def lowL (b : Nat) : List D → Bool
  | [] => true
  | x :: r => x.low b && lowL b r
end
def lowC (b : Nat) : Cell → Bool
  | .lst xs => lowL b xs
  | .dct kvs => lowL b (kvs.map (·.2))
def cleanC (b : Nat) : Option Cell → Option Cell
  | some c => if lowC b c then some c else none
  | none => none
/-- the store behind a call -/
def cleanS (b : Nat) (S : Store) : Store := (S.take b).map (cleanC b)
def frzAll (f : D → Option D) : List D → Option (List D)
  | [] => some []
  | x :: r => match f x, frzAll f r with
    | some y, some t => some (y :: t)
    | _, _ => none
/-- cells from b on become values -/
def frzD (S : Store) (b : Nat) : Nat → D → Option D
  | 0, d => if d.low b then some d else none
  | k + 1, d => if d.low b then some d else match d with
    | .cel n => (match cellL S n with
      | some xs => (frzAll (frzD S b k) xs).map .lst
      | none => none)
    | .lst xs => (frzAll (frzD S b k) xs).map .lst
    | .tup xs => (frzAll (frzD S b k) xs).map .tup
    | _ => none
/-- what a call gives -/
def retF (b : Nat) (d : D) (S : Store) : O Res := match d with
  | .cel n => if n < b then .ok (.d (.cel n)) (cleanS b S) else match cellL S n with
    | some xs => (match frzAll (frzD (S.set n none) b 3) xs with
      | some ys => .ok (.new ys) (cleanS b S)
      | none => .no)
    | none => .no
  | d => match frzD S b 3 d with
    | some e => .ok (.d e) (cleanS b S)
    | none => .no
/-! a value as the data of the library: cells are opened one deep -/
mutual
def D.toP0 : D → Option PyData
  | .non => some .none
  | .bl b => some (.bool b)
  | .int i => some (.int i)
  | .str x => some (.str x)
  | .lst xs => (toPs0 xs).map .list
  | .tup xs => (toPs0 xs).map .tuple
  | .scr ns => some (.list (ns.map .int))
  | .emp => some (.dict [])
  | .cel _ => none
def toPs0 : List D → Option (List PyData)
  | [] => some []
  | x :: r => match x.toP0, toPs0 r with
    | some a, some b => some (a :: b)
    | _, _ => none
end
mutual
def D.toP (S : Store) : D → Option PyData
  | .non => some .none
  | .bl b => some (.bool b)
  | .int i => some (.int i)
  | .str x => some (.str x)
  | .lst xs => (toPs S xs).map .list
  | .tup xs => (toPs S xs).map .tuple
  | .scr ns => some (.list (ns.map .int))
  | .emp => some (.dict [])
  | .cel n => match cellL S n with
    | some xs => (toPs0 xs).map .list
    | none => none
def toPs (S : Store) : List D → Option (List PyData)
  | [] => some []
  | x :: r => match x.toP S, toPs S r with
    | some a, some b => some (a :: b)
    | _, _ => none
end
/-! ### operators -/
def mulOk (i j : Int) : Bool := decide (i.natAbs < 18446744073709551616) || decide (j.natAbs < 18446744073709551616)
def divOk (j : Int) : Bool := decide (0 < j) && decide (j.natAbs < 18446744073709551616)
def powOk (i j : Int) : Bool := decide (0 ≤ j) && decide (j ≤ 1000000) && decide (i.natAbs < 18446744073709551616)
def addD (S : Store) : D → D → Option Res
  | .int i, .int j => some (.d (.int (i + j)))
  | .str x, .str y => if x.length + y.length ≤ LINE then some (.d (.str (x ++ y))) else none
  | .tup xs, .tup ys => if xs.length + ys.length ≤ LINE then some (.d (.tup (xs ++ ys))) else none
  | .lst xs, d => match d with
    | .lst ys => if xs.length + ys.length ≤ LINE then some (.new (xs ++ ys)) else none
    | .cel n => match cellL S n with
      | some ys => if xs.length + ys.length ≤ LINE then some (.new (xs ++ ys)) else none
      | none => none
    | _ => none
  | .cel m, d => match cellL S m with
    | some xs => match d with
      | .lst ys => if xs.length + ys.length ≤ LINE then some (.new (xs ++ ys)) else none
      | .cel n => match cellL S n with
        | some ys => if xs.length + ys.length ≤ LINE then some (.new (xs ++ ys)) else none
        | none => none
      | _ => none
    | none => none
  | _, _ => none
def mulD (S : Store) : D → D → Option Res
  | .int i, .int j => if mulOk i j then some (.d (.int (i * j))) else none
  | .lst xs, .int k => if decide (k ≤ 16777216) && decide (-16777216 ≤ k) && decide (xs.length * k.toNat ≤ LINE) then some (.new (List.replicate k.toNat xs).flatten) else none
  | .cel n, .int k => match cellL S n with
    | some xs => if decide (k ≤ 16777216) && decide (-16777216 ≤ k) && decide (xs.length * k.toNat ≤ LINE) then some (.new (List.replicate k.toNat xs).flatten) else none
    | none => none
  | _, _ => none
def binD (S : Store) : Operator → D → D → Option Res
  | .Add, d, e => addD S d e
  | .Sub, .int i, .int j => some (.d (.int (i - j)))
  | .Mult, d, e => mulD S d e
  | .Mod, .int i, .int j => if decide (0 < j) then some (.d (.int (i % j))) else none
  | .FloorDiv, .int i, .int j => if divOk j then some (.d (.int (i / j))) else none
  | .Pow, .int i, .int j => if powOk i j then some (.d (.int (i ^ j.toNat))) else none
  | _, _, _ => none
/-! ### comparisons -/
def strEq : D → D → Option Bool
  | .str x, .str y => some (decide (x = y))
  | .int x, .int y => some (decide (x = y))
  | _, _ => none
def eqvD0 (S : Store) (d e : D) : Option Bool := match d.toP S, e.toP S with
  | some p, some q => if SeqAt.shaped p && SeqAt.shaped q then some (PyData.eqv p q) else none
  | _, _ => none
def eqvD (S : Store) (d e : D) : Option Bool := match strEq d e with
  | some b => some b
  | none => eqvD0 S d e
def anyD (S : Store) (d : D) (e : D) : Option Bool := match seqOf S e with
  | some es => match d.toP S, (toPs S es) with
    | some p, some qs => if SeqAt.shaped p && SeqAt.shaped (.list qs) then some (qs.any fun z => PyData.eqv z p) else none
    | _, _ => none
  | none => none
def inKey : D → Option Key
  | .int i => some (.inl i)
  | .str x => some (.inr x)
  | _ => none
def valK {κ : Type} [DecidableEq κ] (kvs : List (κ × D)) (k : κ) : Option D := (kvs.find? fun kv => decide (kv.1 = k)).map (·.2)
def setK {κ : Type} [DecidableEq κ] (kvs : List (κ × D)) (k : κ) (v : D) : List (κ × D) :=
  if (kvs.any fun kv => decide (kv.1 = k)) = true then kvs.map (fun kv => if kv.1 = k then (kv.1, v) else kv) else kvs ++ [(k, v)]
/-- in a dict's cell, else in a list or a tuple -/
def inD (S : Store) (d e : D) : Option Bool := match e with
  | .cel n => (match cellK S n with
    | some kvs => (match inKey d with
      | some k => some (valK kvs k).isSome
      | none => none)
    | none => anyD S d (.cel n))
  | e => anyD S d e
def cmpD (S : Store) : CmpOp → D → D → Option Bool
  | .Eq, d, e => eqvD S d e
  | .NotEq, d, e => (eqvD S d e).map (!·)
  | .Lt, .int i, .int j => some (decide (i < j))
  | .LtE, .int i, .int j => some (decide (i ≤ j))
  | .Gt, .int i, .int j => some (decide (j < i))
  | .GtE, .int i, .int j => some (decide (j ≤ i))
  | .Is, d, .non => some (match d with | .non => true | _ => false)
  | .IsNot, d, .non => some (match d with | .non => false | _ => true)
  | .Is, .bl a, .bl b => some (decide (a = b))
  | .IsNot, .bl a, .bl b => some (!decide (a = b))
  | .In, d, e => inD S d e
  | .NotIn, d, e => (inD S d e).map (!·)
  | _, _, _ => none
/-! ### places, cuts -/
def getD (S : Store) (o i : D) : Option D := match seqOf S o with
  | some xs => (match i with
    | .int i => atI xs i
    | _ => none)
  | none => (match o with
    | .cel n => (match cellK S n, inKey i with
      | some kvs, some k => valK kvs k
      | _, _ => none)
    | _ => none)
def cutL {α : Type} (xs : List α) (lo hi : Option Int) : List α := (xs.drop (HT.sIx xs.length 0 lo)).take (HT.sIx xs.length xs.length hi - HT.sIx xs.length 0 lo)
def sliceD (S : Store) (o : D) (lo hi : Option Int) : Option Res := match o with
  | .tup xs => if HT.sIx xs.length 0 lo = 0 ∧ HT.sIx xs.length xs.length hi = xs.length then some (.d (.tup xs)) else some (.d (.tup (cutL xs lo hi)))
  | o => match listOf S o with
    | some xs => some (.new (cutL xs lo hi))
    | none => none
def revD (S : Store) (o : D) : Option Res := match listOf S o with
  | some xs => some (.new xs.reverse)
  | none => none
/-! ### built-in functions -/
/-- a built-in type's name, for isinstance -/
def tyName : D → Option String
  | .non => some "NoneType"
  | .bl _ => some "bool"
  | .int _ => some "int"
  | .str _ => some "str"
  | .lst _ => some "list"
  | .tup _ => some "tuple"
  | .scr _ => some "list"
  | .emp => some "dict"
  | .cel _ => none
def tyOf (S : Store) : D → Option String
  | .cel n => match S[n]? with
    | some (some (.lst _)) => some "list"
    | some (some (.dct _)) => some "dict"
    | _ => none
  | d => tyName d
def isSub (a b : String) : Bool := (a == b) || (a == "bool" && b == "int")
def isInst (S : Store) (d : D) (ts : List String) : Option Bool := (tyOf S d).map fun a => ts.any fun b => isSub a b
def reprD (S : Store) (d : D) : Option Str := match d.toP S with
  | some p => if p.showable && decide (p.shown.length ≤ LINE) && decide (p.depth ≤ 64) then some p.shown else none
  | none => none
def insI (x : Int) : List Int → List Int
  | [] => [x]
  | y :: r => if x ≤ y then x :: y :: r else y :: insI x r
def sortI : List Int → List Int
  | [] => []
  | x :: r => insI x (sortI r)
def maxI : List Int → Int
  | [] => 0
  | [x] => x
  | x :: r => let m := maxI r; if m < x then x else m
def minI : List Int → Int
  | [] => 0
  | [x] => x
  | x :: r => let m := minI r; if x < m then x else m
def lenD (S : Store) (d : D) : Option Nat := match d with
  | .str x => if x.length ≤ LINE then some x.length else none
  | .emp => some 0
  | .cel n => match cellK S n with
    | some kvs => some kvs.length
    | none => (cellL S n).map (·.length)
  | d => (seqOf S d).map (·.length)
/-- a built-in function of values -/
def one1 (ds : List D) (f : D → Option Res) : Option Res := match ds with
  | [d] => f d
  | _ => none
def withInts (S : Store) (d : D) (f : List Int → Option Res) : Option Res := match listOf S d with
  | some xs => (match intsOf xs with | some ns => f ns | none => none)
  | none => none
def withBls (S : Store) (d : D) (f : List Bool → Option Res) : Option Res := match listOf S d with
  | some xs => (match blsOf xs with | some ns => f ns | none => none)
  | none => none
def bAbs (ds : List D) : Option Res := match ds with
  | [.int i] => some (.d (.int (if i < 0 then -i else i)))
  | _ => none
def bInt (ds : List D) : Option Res := match ds with
  | [.int i] => some (.d (.int i))
  | [.bl k] => some (.d (.int (if k then 1 else 0)))
  | _ => none
def bMax (S : Store) (ds : List D) : Option Res := match ds with
  | [.int i, .int j] => some (.d (.int (if j > i then j else i)))
  | [d] => withInts S d fun ns => if ns.length = 0 then none else some (.d (.int (maxI ns)))
  | _ => none
def bMin (S : Store) (ds : List D) : Option Res := match ds with
  | [.int i, .int j] => some (.d (.int (if j < i then j else i)))
  | [d] => withInts S d fun ns => if ns.length = 0 then none else some (.d (.int (minI ns)))
  | _ => none
def bDivmod (ds : List D) : Option Res := match ds with
  | [.int i, .int j] => if decide (0 < j) && decide (j < 1073741824) then some (.d (.tup [.int (i / j), .int (i % j)])) else none
  | _ => none
def bLen (S : Store) (ds : List D) : Option Res := one1 ds fun d => (lenD S d).map fun n => .d (.int n)
def bSum (S : Store) (ds : List D) : Option Res := one1 ds fun d => withInts S d fun ns => some (.d (.int ns.sum))
def bAll (S : Store) (ds : List D) : Option Res := one1 ds fun d => withBls S d fun bs => some (.d (.bl (bs.all id)))
def bAny (S : Store) (ds : List D) : Option Res := one1 ds fun d => withBls S d fun bs => some (.d (.bl (bs.any id)))
def bSorted (S : Store) (ds : List D) : Option Res := one1 ds fun d => withInts S d fun ns => some (.new ((sortI ns).map .int))
def bList (S : Store) (ds : List D) : Option Res := one1 ds fun d => (seqOf S d).map .new
def bTuple (S : Store) (ds : List D) : Option Res := one1 ds fun d => (seqOf S d).map fun xs => .d (.tup xs)
def bRepr (S : Store) (ds : List D) : Option Res := one1 ds fun d => (reprD S d).map fun t => .d (.str t)
/-! ### what a loop walks -/
def BIG : Int := 4611686018427387904
def rngOk (a b : Int) : Bool := decide (-BIG ≤ a) && decide (a < BIG) && decide (-BIG ≤ b) && decide (b < BIG) && decide ((b - a).toNat ≤ LINE)
def rngL (a b : Int) : List D := (List.range (b - a).toNat).map fun (i : Nat) => D.int (a + i)
/-- the items of a walk, and the cells that must stay as they are meanwhile -/
structure Walked where
  src : List (Nat × List D)
  its : List D
def srcOf (d : D) (xs : List D) : List (Nat × List D) := match d with
  | .cel n => [(n, xs)]
  | _ => []
def SrcOk (S : Store) (src : List (Nat × List D)) : Prop := ∀ p ∈ src, cellL S p.1 = some p.2
def enumL (xs : List D) : List D := List.zipWith (fun (i : Nat) x => D.tup [.int i, x]) (List.range xs.length) xs
def zipL (xs ys : List D) : List D := List.zipWith (fun x y => .tup [x, y]) xs ys
/-! ### the judgements' values -/
abbrev EvE := Rho → Store → O D
abbrev EvL := Rho → Store → O (List D)
abbrev EvB := Rho → Store → O Bool
abbrev EvW := Rho → Store → O Walked
abbrev EvG := D → Rho → Store → O Rho
inductive Fl where
  | nx (ρ : Rho) | rt (d : D)
abbrev EvS := Rho → Store → O Fl
/-! ### expressions -/
def eC (d : D) : EvE := fun _ S => .ok d S
def eNo {α : Type} : Rho → Store → O α := fun _ _ => .no
def eVar (i : Nat) : EvE := fun ρ S => match ρ[i]? with
  | some (some d) => .ok d S
  | _ => .no
def eNil : EvL := fun _ S => .ok [] S
def eCons (f : EvE) (g : EvL) : EvL := fun ρ S => (f ρ S).bind fun d S1 => (g ρ S1).bind fun ds S2 => .ok (d :: ds) S2
def eLst (al : Bool) (g : EvL) : EvE := fun ρ S => (g ρ S).bind fun ds S1 => if ds.length ≤ LINE then settle al (.new ds) S1 else .no
def eTup (g : EvL) : EvE := fun ρ S => (g ρ S).bind fun ds S1 => if ds.length ≤ LINE then .ok (.tup ds) S1 else .no
def eBin (al : Bool) (op : Operator) (f g : EvE) : EvE := fun ρ S => (f ρ S).bind fun d S1 => (g ρ S1).bind fun e S2 => ofRes al (binD S2 op d e) S2
def eNeg (f : EvE) : EvE := fun ρ S => (f ρ S).bind fun d S1 => match d with
  | .int i => .ok (.int (-i)) S1
  | _ => .no
def ofB (o : Option Bool) (S : Store) : O D := match o with
  | some b => .ok (.bl b) S
  | none => .no
def eCmp (op : CmpOp) (f g : EvE) : EvE := fun ρ S => (f ρ S).bind fun d S1 => (g ρ S1).bind fun e S2 => ofB (cmpD S2 op d e) S2
def eChain (op op2 : CmpOp) (f g h : EvE) : EvE := fun ρ S => (f ρ S).bind fun d S1 => (g ρ S1).bind fun e S2 => match cmpD S2 op d e with
  | some true => (h ρ S2).bind fun k S3 => ofB (cmpD S3 op2 e k) S3
  | some false => .ok (.bl false) S2
  | none => .no
def eAnd (f g : EvE) : EvE := fun ρ S => (f ρ S).bind fun d S1 => match d with
  | .bl true => g ρ S1
  | .bl false => .ok (.bl false) S1
  | _ => .no
def eOr (f g : EvE) : EvE := fun ρ S => (f ρ S).bind fun d S1 => match d with
  | .bl true => .ok (.bl true) S1
  | .bl false => g ρ S1
  | _ => .no
def eNot (f : EvE) : EvE := fun ρ S => (f ρ S).bind fun d S1 => match d with
  | .bl b => .ok (.bl (!b)) S1
  | _ => .no
def eIf (t : EvB) (f g : EvE) : EvE := fun ρ S => (t ρ S).bind fun b S1 => if b then f ρ S1 else g ρ S1
def eGet (f g : EvE) : EvE := fun ρ S => (f ρ S).bind fun d S1 => (g ρ S1).bind fun e S2 => match getD S2 d e with
  | some v => .ok v S2
  | none => .no
def pNone : Rho → Store → O (Option Int) := fun _ S => .ok none S
def pSome (f : EvE) : Rho → Store → O (Option Int) := fun ρ S => (f ρ S).bind fun d S1 => match d with
  | .int i => .ok (some i) S1
  | _ => .no
def eSlice (al : Bool) (f : EvE) (l h : Rho → Store → O (Option Int)) : EvE := fun ρ S => (f ρ S).bind fun d S1 => (l ρ S1).bind fun lo S2 => (h ρ S2).bind fun hi S3 => ofRes al (sliceD S3 d lo hi) S3
def eRev (al : Bool) (f : EvE) : EvE := fun ρ S => (f ρ S).bind fun d S1 => ofRes al (revD S1 d) S1
def eBlt (al : Bool) (b : Store → List D → Option Res) (g : EvL) : EvE := fun ρ S => (g ρ S).bind fun ds S1 => ofRes al (b S1 ds) S1
def eIsi (f : EvE) (ts : List String) : EvE := fun ρ S => (f ρ S).bind fun d S1 => ofB (isInst S1 d ts) S1
def eOwn (al : Bool) (call : List D → Store → O Res) (g : EvL) : EvE := fun ρ S => (g ρ S).bind fun ds S1 => (call ds S1).calm.bind fun r S2 => settle al r S2
/-- positional values and keywords' values in the parameters' order -/
def arr {α : Type} (ps ks : List Str) (us ws : List α) : List α := us ++ (ps.drop us.length).filterMap fun p => (ks.zip ws).lookup p
def eOwnK (al : Bool) (call : List D → Store → O Res) (m : Nat) (ps ks : List Str) (g k : EvL) : EvE := fun ρ S => (g ρ S).bind fun ds S1 => (k ρ S1).bind fun es S2 =>
  if ds.length = m ∧ es.length = ks.length then (call (arr ps ks ds es) S2).calm.bind fun r S3 => settle al r S3 else .no
/-! ### walks -/
def srcSame (S : Store) : List (Nat × List D) → Bool
  | [] => true
  | p :: r => (match cellL S p.1 with | some xs => sameL xs p.2 | none => false) && srcSame S r
theorem srcOk_of {S : Store} : ∀ {src : List (Nat × List D)}, srcSame S src = true → SrcOk S src
  | [], _ => fun _ z => nomatch z
  | p :: r, h => by
    simp only [srcSame, Bool.and_eq_true] at h
    intro q hq
    rcases List.mem_cons.mp hq with e | hq
    · subst e
      obtain ⟨h1, _⟩ := h
      split at h1
      · rename_i xs hx
        rw [hx, sameL_eq h1]
      · cases h1
    · exact srcOk_of h.2 q hq
def keepSrc {α : Type} (src : List (Nat × List D)) (S : Store) (o : O α) : O α := if srcSame S src then o else .no
def wSeq (f : EvE) : EvW := fun ρ S => (f ρ S).bind fun d S1 => match seqOf S1 d with
  | some xs => .ok ⟨srcOf d xs, xs⟩ S1
  | none => .no
def wRng1 (f : EvE) : EvW := fun ρ S => (f ρ S).bind fun d S1 => match d with
  | .int b => if rngOk 0 b then .ok ⟨[], rngL 0 b⟩ S1 else .no
  | _ => .no
def wRng2 (f g : EvE) : EvW := fun ρ S => (f ρ S).bind fun d S1 => (g ρ S1).bind fun e S2 => match d, e with
  | .int a, .int b => if rngOk a b then .ok ⟨[], rngL a b⟩ S2 else .no
  | _, _ => .no
def wEnum (f : EvE) : EvW := fun ρ S => (f ρ S).bind fun d S1 => match listOf S1 d with
  | some xs => .ok ⟨srcOf d xs, enumL xs⟩ S1
  | none => .no
def wZip (f g : EvE) : EvW := fun ρ S => (f ρ S).bind fun d S1 => (g ρ S1).bind fun e S2 => match listOf S2 d, listOf S2 e with
  | some xs, some ys => .ok ⟨srcOf d xs ++ srcOf e ys, zipL xs ys⟩ S2
  | _, _ => match d, e with
    | .tup xs, .tup ys => .ok ⟨[], zipL xs ys⟩ S2
    | _, _ => .no
/-! ### targets -/
def gVar (i : Nat) : EvG := fun d ρ S => .ok (ρ.set i (some d)) S
def gNilE : List D → Rho → Store → O Rho := fun ds ρ S => match ds with
  | [] => .ok ρ S
  | _ => .no
def gConsE (g : EvG) (h : List D → Rho → Store → O Rho) : List D → Rho → Store → O Rho := fun ds ρ S => match ds with
  | d :: r => (g d ρ S).bind fun ρ1 S1 => h r ρ1 S1
  | [] => .no
def gTupE (n : Nat) (h : List D → Rho → Store → O Rho) : EvG := fun d ρ S => match d with
  | .tup xs => if xs.length = n then h xs ρ S else .no
  | _ => .no
def setD (S : Store) (o i v : D) : Option Store := match o with
  | .cel n => match S[n]? with
    | some (some (.lst xs)) => match i with
      | .int k => (ixN xs.length k).map fun j => S.set n (some (.lst (xs.set j v)))
      | _ => none
    | some (some (.dct kvs)) => match inKey i with
      | some k => if kvs.length < LINE then some (S.set n (some (.dct (setK kvs k v)))) else none
      | none => none
    | _ => none
  | _ => none
def gSubE (f g : EvE) : EvG := fun d ρ S => (f ρ S).bind fun o S1 => (g ρ S1).bind fun i S2 => match setD S2 o i d with
  | some S3 => .ok ρ S3
  | none => .no
/-! ### a comprehension -/
def wipeR (ρ : Rho) : List Nat → Rho
  | [] => ρ
  | v :: vs => (wipeR ρ vs).set v none
/-- what a clause binds: a name, or several -/
inductive CT where
  | one (i : Nat) | many (is : List Nat)
def CT.slots : CT → List Nat
  | .one i => [i]
  | .many is => is
def bindMany : List Nat → List D → Rho → Option Rho
  | [], [], ρ => some ρ
  | i :: is, d :: ds, ρ => bindMany is ds (ρ.set i (some d))
  | _, _, _ => none
def bindC (c : CT) (d : D) (ρ : Rho) : Option Rho := match c with
  | .one i => some (ρ.set i (some d))
  | .many is => (match d with
    | .tup ds => bindMany is ds ρ
    | _ => none)
def compL (step : D → Store → O (Option D)) (src : List (Nat × List D)) : List D → List D → Store → O (List D)
  | [], acc, S => keepSrc src S (.ok acc S)
  | x :: r, acc, S => keepSrc src S ((step x S).bind fun v S1 => match v with
    | some d => compL step src r (acc ++ [d]) S1
    | none => compL step src r acc S1)
def compStep (vs : List Nat) (c : CT) (t : EvB) (f : EvE) (ρ : Rho) : D → Store → O (Option D) := fun x S => match bindC c x (wipeR ρ vs) with
  | some ρ1 => (t ρ1 S).bind fun b S2 => if b then (f ρ1 S2).bind fun d S3 => .ok (some d) S3 else .ok none S2
  | none => .no
def eComp (al : Bool) (w : EvW) (vs : List Nat) (c : CT) (t : EvB) (f : EvE) : EvE := fun ρ S => (w ρ S).bind fun k S1 =>
  (compL (compStep vs c t f ρ) k.src k.its [] S1).calm.bind fun xs S2 => settle al (.new xs) S2
/-! ### tests -/
def tVal (f : EvE) : EvB := fun ρ S => (f ρ S).bind fun d S1 => match d with
  | .bl b => .ok b S1
  | _ => .no
def tYesE : EvB := fun _ S => .ok true S
def tAndE (t u : EvB) : EvB := fun ρ S => (t ρ S).bind fun b S1 => if b then u ρ S1 else .ok false S1
def tOrE (t u : EvB) : EvB := fun ρ S => (t ρ S).bind fun b S1 => if b then .ok true S1 else u ρ S1
def tNotE (t : EvB) : EvB := fun ρ S => (t ρ S).bind fun b S1 => .ok (!b) S1
/-! ### statements -/
def sNext : EvS := fun ρ S => .ok (.nx ρ) S
def sSeq (f g : EvS) : EvS := fun ρ S => (f ρ S).bind fun r S1 => match r with
  | .nx ρ1 => g ρ1 S1
  | .rt d => .ok (.rt d) S1
def sRet (f : EvE) : EvS := fun ρ S => (f ρ S).bind fun d S1 => .ok (.rt d) S1
def sIf (t : EvB) (f g : EvS) : EvS := fun ρ S => (t ρ S).bind fun b S1 => if b then f ρ S1 else g ρ S1
def sAsg (f : EvE) (g : EvG) : EvS := fun ρ S => (f ρ S).bind fun d S1 => (g d ρ S1).bind fun ρ1 S2 => .ok (.nx ρ1) S2
/-- x = y where y's cell becomes a value, for y (slot j) too -/
def sFrz (i j : Nat) : EvS := fun ρ S => match ρ[j]? with
  | some (some (.cel n)) => match cellL S n with
    | some xs => if i < ρ.length then .ok (.nx ((ρ.set j (some (.lst xs))).set i (some (.lst xs)))) (S.set n none) else .no
    | none => .no
  | _ => .no
/-- several stored at once -/
def sPar (g : EvL) (h : List D → Rho → Store → O Rho) : EvS := fun ρ S => (g ρ S).bind fun ds S1 => (h ds ρ S1).bind fun ρ1 S2 => .ok (.nx ρ1) S2
def sDrop (f : EvE) : EvS := fun ρ S => (f ρ S).bind fun _ S1 => .ok (.nx ρ) S1
def sApp (f g : EvE) : EvS := fun ρ S => (f ρ S).bind fun o S1 => match o with
  | .cel n => match cellL S1 n with
    | some _ => (g ρ S1).bind fun d S2 => match cellL S2 n with
      | some xs => if xs.length < LINE then .ok (.nx ρ) (S2.set n (some (.lst (xs ++ [d])))) else .no
      | none => .no
    | none => .no
  | _ => .no
def sExt (f g : EvE) : EvS := fun ρ S => (f ρ S).bind fun o S1 => match o with
  | .cel n => match cellL S1 n with
    | some _ => (g ρ S1).bind fun d S2 => match cellL S2 n, (if plainL d then listOf S2 d else none) with
      | some xs, some ys => if xs.length + ys.length ≤ LINE then .ok (.nx ρ) (S2.set n (some (.lst (xs ++ ys)))) else .no
      | _, _ => .no
    | none => .no
  | _ => .no
def FU : Nat := 10 ^ 30
def whileL (t : EvB) (b : EvS) : Nat → EvS
  | 0, _, _ => .no
  | n + 1, ρ, S => (t ρ S).bind fun c S1 => if c then (b ρ S1).bind fun r S2 => (match r with
      | .nx ρ2 => whileL t b n ρ2 S2
      | .rt d => .ok (.rt d) S2) else .ok (.nx ρ) S1
def sWhile (t : EvB) (b : EvS) : EvS := fun ρ S => whileL t b FU ρ S
def forL (g : EvG) (b : EvS) (src : List (Nat × List D)) : List D → EvS
  | [], ρ, S => keepSrc src S (.ok (.nx ρ) S)
  | x :: r, ρ, S => keepSrc src S ((g x ρ S).bind fun ρ1 S1 => (b ρ1 S1).bind fun fl S2 => match fl with
    | .nx ρ2 => forL g b src r ρ2 S2
    | .rt d => .ok (.rt d) S2)
def sFor (w : EvW) (g : EvG) (b : EvS) : EvS := fun ρ S => (w ρ S).bind fun k S1 => forL g b k.src k.its ρ S1
/-! ### a def -/
def runF (n N : Nat) (s : EvS) : List D → Store → O Res := fun ds S => if ds.length = n then (s (ds.map some ++ List.replicate (N - n) none) S).bind fun fl S1 => (match fl with
  | .nx _ => retF S.length .non S1
  | .rt d => retF S.length d S1) else .no
/-! ### a call sees its own cells alone -/
def celsOf : List D → List Nat
  | [] => []
  | .cel n :: r => n :: celsOf r
  | _ :: r => celsOf r
def flat : D → Bool
  | .cel _ => true
  | d => d.low 0
def renum (ns : List Nat) : D → D
  | .cel n => .cel (ns.idxOf n)
  | d => d
def nodupB : List Nat → Bool
  | [] => true
  | n :: r => !(r.contains n) && nodupB r
def subS (S : Store) : List Nat → Option Store
  | [] => some []
  | n :: r => match S[n]?, subS S r with
    | some (some c), some t => if lowC 0 c then some (some c :: t) else none
    | _, _ => none
def putS (S : Store) : List Nat → Store → Store
  | n :: ns, c :: cs => putS (S.set n (cleanC 0 c)) ns cs
  | _, _ => S
def backR (ns : List Nat) : Res → Option Res
  | .d (.cel i) => (ns[i]?).map fun n => .d (.cel n)
  | .d d => if d.low 0 then some (.d d) else none
  | .new xs => if lowL 0 xs then some (.new xs) else none
def frame (c : List D → Store → O Res) : List D → Store → O Res := fun ds S =>
  if nodupB (celsOf ds) && ds.all flat then match subS S (celsOf ds) with
    | some sub => (c (ds.map (renum (celsOf ds))) sub).calm.bind fun r S' => if S'.length = sub.length then (match backR (celsOf ds) r with
      | some r' => .ok r' (putS S (celsOf ds) S')
      | none => .no) else .no
    | none => .no
  else .no
end DI
/-! DI: how values, stores and slots stand for the heap. F: what is a value for good; p: where the cells stand. -/
namespace DI
open PySem PySem.Spec L2
open PyProof.Rows hiding St
mutual
inductive IsD (K : PySem.W.Frag) (F : Hp) (p : List Addr) : V → D → Prop
  | non : IsD K F p .non .non
  | bl (b : Bool) : IsD K F p (.bl b) (.bl b)
  | int (i : Int) : IsD K F p (.int i) (.int i)
  | str (x : Str) : IsD K F p (.str x) (.str x)
  | lst {a : Addr} {vs : List V} {ds : List D} : F a = some (.lst vs) → ds.length ≤ LINE → IsDs K F p vs ds → IsD K F p (.ref a) (.lst ds)
  | tup {a : Addr} {vs : List V} {ds : List D} : SqT K F a vs → ds.length ≤ LINE → IsDs K F p vs ds → IsD K F p (.ref a) (.tup ds)
  | scr {a : Addr} {ns : List Int} : SqL K F a (ns.map V.int) → ns.length ≤ 63 → IsD K F p (.ref a) (.scr ns)
  | emp {a : Addr} : F a = some (.dK []) → IsD K F p (.ref a) .emp
  | cel {a : Addr} {n : Nat} : p[n]? = some a → IsD K F p (.ref a) (.cel n)
inductive IsDs (K : PySem.W.Frag) (F : Hp) (p : List Addr) : List V → List D → Prop
  | nil : IsDs K F p [] []
  | cons {v : V} {vs : List V} {d : D} {ds : List D} : IsD K F p v d → IsDs K F p vs ds → IsDs K F p (v :: vs) (d :: ds)
end
theorem LINE_eq : LINE = sizeLine := by rw [sizeLine_eq]; rfl
theorem IsDs.length {K : PySem.W.Frag} {F : Hp} {p : List Addr} : ∀ {vs : List V} {ds : List D}, IsDs K F p vs ds → vs.length = ds.length
  | _, _, .nil => rfl
  | _, _, .cons _ t => by simp [IsDs.length t]
theorem IsDs.append {K : PySem.W.Frag} {F : Hp} {p : List Addr} : ∀ {vs ws : List V} {ds es : List D}, IsDs K F p vs ds → IsDs K F p ws es → IsDs K F p (vs ++ ws) (ds ++ es)
  | _, _, _, _, .nil, t => t
  | _, _, _, _, .cons h t, u => .cons h (IsDs.append t u)
theorem IsDs.get {K : PySem.W.Frag} {F : Hp} {p : List Addr} : ∀ {vs : List V} {ds : List D} {i : Nat} {d : D}, IsDs K F p vs ds → ds[i]? = some d → ∃ v, vs[i]? = some v ∧ IsD K F p v d
  | _, _, _, _, .nil, e => by simp at e
  | _, _, 0, _, .cons h t, e => by simp at e; subst e; exact ⟨_, rfl, h⟩
  | _, _, i + 1, _, .cons h t, e => by
    obtain ⟨v, h1, h2⟩ := IsDs.get (i := i) t (by simpa using e)
    exact ⟨v, by simpa using h1, h2⟩
theorem IsDs.get' {K : PySem.W.Frag} {F : Hp} {p : List Addr} {vs : List V} {ds : List D} {i : Nat} {v : V} (h : IsDs K F p vs ds) (e : vs[i]? = some v) : ∃ d, ds[i]? = some d ∧ IsD K F p v d := by
  have hi : i < ds.length := by
    have := (List.getElem?_eq_some_iff.mp e).1
    rw [← h.length]; exact this
  obtain ⟨v', h1, h2⟩ := h.get (List.getElem?_eq_getElem hi)
  rw [e] at h1; cases h1
  exact ⟨_, List.getElem?_eq_getElem hi, h2⟩
theorem IsDs.take {K : PySem.W.Frag} {F : Hp} {p : List Addr} : ∀ (n : Nat) {vs : List V} {ds : List D}, IsDs K F p vs ds → IsDs K F p (vs.take n) (ds.take n)
  | 0, _, _, _ => .nil
  | _ + 1, _, _, .nil => .nil
  | n + 1, _, _, .cons h t => .cons h (IsDs.take n t)
theorem IsDs.drop {K : PySem.W.Frag} {F : Hp} {p : List Addr} : ∀ (n : Nat) {vs : List V} {ds : List D}, IsDs K F p vs ds → IsDs K F p (vs.drop n) (ds.drop n)
  | 0, _, _, t => t
  | _ + 1, _, _, .nil => .nil
  | n + 1, _, _, .cons _ t => IsDs.drop n t
theorem IsDs.set {K : PySem.W.Frag} {F : Hp} {p : List Addr} {v : V} {d : D} (h : IsD K F p v d) : ∀ (i : Nat) {vs : List V} {ds : List D}, IsDs K F p vs ds → IsDs K F p (vs.set i v) (ds.set i d)
  | _, _, _, .nil => .nil
  | 0, _, _, .cons _ t => .cons h t
  | i + 1, _, _, .cons g t => .cons g (IsDs.set h i t)
theorem IsDs.reverse {K : PySem.W.Frag} {F : Hp} {p : List Addr} : ∀ {vs : List V} {ds : List D}, IsDs K F p vs ds → IsDs K F p vs.reverse ds.reverse
  | _, _, .nil => .nil
  | _, _, .cons h t => by
    rw [List.reverse_cons, List.reverse_cons]
    exact (IsDs.reverse t).append (.cons h .nil)
theorem IsDs.rep {K : PySem.W.Frag} {F : Hp} {p : List Addr} {vs : List V} {ds : List D} (h : IsDs K F p vs ds) : ∀ k : Nat, IsDs K F p (List.replicate k vs).flatten (List.replicate k ds).flatten
  | 0 => .nil
  | k + 1 => by
    rw [List.replicate_succ, List.replicate_succ, List.flatten_cons, List.flatten_cons]
    exact h.append (IsDs.rep h k)
theorem IsDs.ints {K : PySem.W.Frag} {F : Hp} {p : List Addr} : ∀ {vs : List V} {ns : List Int}, IsDs K F p vs (ns.map .int) → vs = ns.map V.int
  | _, [], h => by cases h; rfl
  | _, n :: r, h => by
    cases h with
    | cons h1 h2 => cases h1; rw [IsDs.ints h2]; rfl
theorem IsDs.bls {K : PySem.W.Frag} {F : Hp} {p : List Addr} : ∀ {vs : List V} {ns : List Bool}, IsDs K F p vs (ns.map .bl) → vs = ns.map V.bl
  | _, [], h => by cases h; rfl
  | _, n :: r, h => by
    cases h with
    | cons h1 h2 => cases h1; rw [IsDs.bls h2]; rfl
theorem isDs_ints {K : PySem.W.Frag} {F : Hp} {p : List Addr} : ∀ (ns : List Int), IsDs K F p (ns.map V.int) (ns.map .int)
  | [] => .nil
  | n :: r => .cons (.int n) (isDs_ints r)
/-! ### a larger ground -/
theorem same_rd {F F' : Hp} (e : ∀ a o, F a = some o → F' a = some o) {a : Addr} {u : HO} (h : Rd F a u) : Rd F' a u := by
  rcases h with h | ⟨o, h⟩
  · exact .inl (e _ _ h)
  · exact .inr ⟨o, e _ _ h⟩
theorem same_sqT {K : PySem.W.Frag} {F F' : Hp} (e : ∀ a o, F a = some o → F' a = some o) {a : Addr} {xs : List V} (h : SqT K F a xs) : SqT K F' a xs := by
  rcases h with h | h
  · exact .inl (same_rd e h)
  · exact .inr h
theorem same_sqL {K : PySem.W.Frag} {F F' : Hp} (e : ∀ a o, F a = some o → F' a = some o) {a : Addr} {xs : List V} (h : SqL K F a xs) : SqL K F' a xs := by
  rcases h with h | h
  · exact .inl (same_rd e h)
  · exact .inr h
section
variable {K : PySem.W.Frag} {F F' : Hp} {p p' : List Addr}
mutual
theorem IsD.mono (e : ∀ a o, F a = some o → F' a = some o) (q : ∀ (n : Nat) (a : Addr), p[n]? = some a → p'[n]? = some a) : ∀ {v : V} {d : D}, IsD K F p v d → IsD K F' p' v d
  | _, _, .non => .non
  | _, _, .bl b => .bl b
  | _, _, .int i => .int i
  | _, _, .str x => .str x
  | _, _, .lst h l t => .lst (e _ _ h) l (IsDs.mono e q t)
  | _, _, .tup h l t => .tup (same_sqT e h) l (IsDs.mono e q t)
  | _, _, .scr h l => .scr (same_sqL e h) l
  | _, _, .emp h => .emp (e _ _ h)
  | _, _, .cel h => .cel (q _ _ h)
theorem IsDs.mono (e : ∀ a o, F a = some o → F' a = some o) (q : ∀ (n : Nat) (a : Addr), p[n]? = some a → p'[n]? = some a) : ∀ {vs : List V} {ds : List D}, IsDs K F p vs ds → IsDs K F' p' vs ds
  | _, _, .nil => .nil
  | _, _, .cons h t => .cons (IsD.mono e q h) (IsDs.mono e q t)
end
end
/-! ### cells -/
inductive IsK (K : PySem.W.Frag) (F : Hp) (p : List Addr) : List (Key × V) → List (Key × D) → Prop
  | nil : IsK K F p [] []
  | cons {k : Key} {v : V} {ws : List (Key × V)} {d : D} {kvs : List (Key × D)} : IsD K F p v d → IsK K F p ws kvs → IsK K F p ((k, v) :: ws) ((k, d) :: kvs)
def CellAt (K : PySem.W.Frag) (F : Hp) (p : List Addr) (H : Hp) (a : Addr) : Cell → Prop
  | .lst ds => ∃ vs, H a = some (.lst vs) ∧ ds.length ≤ LINE ∧ IsDs K F p vs ds
  | .dct kvs => ∃ ws, H a = some (.dK ws) ∧ IsK K F p ws kvs
theorem IsK.mono {K : PySem.W.Frag} {F F' : Hp} {p p' : List Addr} (e : ∀ a o, F a = some o → F' a = some o) (q : ∀ (n : Nat) (a : Addr), p[n]? = some a → p'[n]? = some a) : ∀ {ws : List (Key × V)} {kvs : List (Key × D)}, IsK K F p ws kvs → IsK K F' p' ws kvs
  | _, _, .nil => .nil
  | _, _, .cons h t => .cons (h.mono e q) (IsK.mono e q t)
theorem CellAt.mono {K : PySem.W.Frag} {F F' : Hp} {p p' : List Addr} {H H' : Hp} {a : Addr} (e : ∀ a o, F a = some o → F' a = some o) (q : ∀ (n : Nat) (a : Addr), p[n]? = some a → p'[n]? = some a) (h : H' a = H a) : ∀ {c : Cell}, CellAt K F p H a c → CellAt K F' p' H' a c
  | .lst _, ⟨vs, h1, l, h2⟩ => ⟨vs, h.trans h1, l, h2.mono e q⟩
  | .dct _, ⟨ws, h1, h2⟩ => ⟨ws, h.trans h1, h2.mono e q⟩
structure Hld (K : PySem.W.Frag) (S : Store) (F : Hp) (p : List Addr) (H : Hp) : Prop where
  sub : ∀ a o, F a = some o → H a = some o
  len : p.length = S.length
  nd : p.Nodup
  there : ∀ a, a ∈ p → H a ≠ none
  cell : ∀ (n : Nat) (a : Addr) (c : Cell), p[n]? = some a → S[n]? = some (some c) → F a = none ∧ CellAt K F p H a c
/-- what may have come meanwhile -/
structure Nx (F : Hp) (p : List Addr) (H : Hp) (F' : Hp) (p' : List Addr) (H' : Hp) : Prop where
  ext : ∀ a o, F a = some o → F' a = some o
  pre : p <+: p'
  keep : ∀ a o, H a = some o → a ∉ p → H' a = some o
  newp : ∀ a, a ∈ p' → a ∉ p → H a = none
  newF : ∀ a, F' a ≠ none → F a = none → H a = none ∨ a ∈ p
theorem pre_get {p p' : List Addr} (h : p <+: p') : ∀ (n : Nat) (a : Addr), p[n]? = some a → p'[n]? = some a := fun n a e => by
  obtain ⟨t, rfl⟩ := h
  rw [List.getElem?_append_left (List.getElem?_eq_some_iff.mp e).1]
  exact e
theorem Nx.refl {F : Hp} {p : List Addr} {H : Hp} : Nx F p H F p H := ⟨fun _ _ h => h, List.prefix_refl _, fun _ _ h _ => h, fun a h n => absurd h n, fun a h n => absurd n h⟩
theorem Nx.get {F F' : Hp} {p p' : List Addr} {H H' : Hp} (n : Nx F p H F' p' H') : ∀ (i : Nat) (a : Addr), p[i]? = some a → p'[i]? = some a := pre_get n.pre
theorem Nx.trans {F F1 F2 : Hp} {p p1 p2 : List Addr} {H H1 H2 : Hp} (a : Nx F p H F1 p1 H1) (b : Nx F1 p1 H1 F2 p2 H2) : Nx F p H F2 p2 H2 where
  ext := fun x o h => b.ext x o (a.ext x o h)
  pre := a.pre.trans b.pre
  keep := fun x o h hn => b.keep x o (a.keep x o h hn) fun hx => by
    have := a.newp x hx hn
    rw [h] at this; cases this
  newp := fun x h hn => by
    by_cases hx : x ∈ p1
    · exact a.newp x hx hn
    · have := b.newp x h hx
      cases q : H x with
      | none => rfl
      | some o => rw [a.keep x o q hn] at this; cases this
  newF := fun x h hn => by
    by_cases hx : F1 x = none
    · rcases b.newF x h hx with q | q
      · cases r : H x with
        | none => exact .inl rfl
        | some o =>
          by_cases hp : x ∈ p
          · exact .inr hp
          · rw [a.keep x o r hp] at q; cases q
      · by_cases hp : x ∈ p
        · exact .inr hp
        · exact .inl (a.newp x q hp)
    · exact a.newF x hx hn
theorem IsD.nx {K : PySem.W.Frag} {F F' : Hp} {p p' : List Addr} {H H' : Hp} {v : V} {d : D} (h : IsD K F p v d) (n : Nx F p H F' p' H') : IsD K F' p' v d := h.mono n.ext n.get
theorem IsDs.nx {K : PySem.W.Frag} {F F' : Hp} {p p' : List Addr} {H H' : Hp} {v : List V} {d : List D} (h : IsDs K F p v d) (n : Nx F p H F' p' H') : IsDs K F' p' v d := h.mono n.ext n.get
structure Slt (K : PySem.W.Frag) (F : Hp) (p : List Addr) (σ : St) (ρ : Rho) : Prop where
  len : σ.length = ρ.length
  at_ : ∀ (i : Nat) d, ρ[i]? = some (some d) → ∃ v, σ[i]? = some (some v) ∧ IsD K F p v d
theorem Slt.nx {K : PySem.W.Frag} {F F' : Hp} {p p' : List Addr} {H H' : Hp} {σ : St} {ρ : Rho} (h : Slt K F p σ ρ) (n : Nx F p H F' p' H') : Slt K F' p' σ ρ :=
  ⟨h.len, fun i d e => let ⟨v, h1, h2⟩ := h.at_ i d e; ⟨v, h1, h2.nx n⟩⟩
theorem Slt.set {K : PySem.W.Frag} {F : Hp} {p : List Addr} {σ : St} {ρ : Rho} {i : Nat} {v : V} {d : D} (h : Slt K F p σ ρ) (hd : IsD K F p v d) : Slt K F p (σ.set i (some v)) (ρ.set i (some d)) := by
  refine ⟨by simp [h.len], fun j e q => ?_⟩
  by_cases hj : i = j
  · subst hj
    by_cases hi : i < ρ.length
    · rw [List.getElem?_set_self hi] at q
      cases q
      exact ⟨v, by rw [List.getElem?_set_self (by rw [h.len]; exact hi)], hd⟩
    · rw [List.getElem?_eq_none (by simpa using hi)] at q
      cases q
  · rw [List.getElem?_set_ne hj] at q ⊢
    exact h.at_ j e q
theorem Slt.wipe {K : PySem.W.Frag} {F : Hp} {p : List Addr} {σ : St} {ρ : Rho} (h : Slt K F p σ ρ) : ∀ vs : List Nat, Slt K F p (wipe σ vs) (wipeR ρ vs)
  | [] => h
  | v :: vs => by
    have ih := Slt.wipe h vs
    unfold L2.wipe wipeR
    refine ⟨by simp [ih.len], fun j e q => ?_⟩
    by_cases hj : v = j
    · subst hj
      by_cases hi : v < (wipeR ρ vs).length
      · rw [List.getElem?_set_self hi] at q
        cases q
      · rw [List.getElem?_eq_none (by simpa using hi)] at q
        cases q
    · rw [List.getElem?_set_ne hj] at q ⊢
      exact ih.at_ j e q
/-! ### the ways a state goes on -/
theorem ne_p {K : PySem.W.Frag} {S : Store} {F : Hp} {p : List Addr} {H : Hp} (R : Hld K S F p H) {q : Addr} (h : H q = none) : q ∉ p := fun hq => R.there q hq h
theorem F_none {K : PySem.W.Frag} {S : Store} {F : Hp} {p : List Addr} {H : Hp} (R : Hld K S F p H) {q : Addr} (h : H q = none) : F q = none := by
  cases e : F q with
  | none => rfl
  | some o => rw [R.sub q o e] at h; cases h
/-- a new object that is a value -/
theorem Hld.val {K : PySem.W.Frag} {S : Store} {F : Hp} {p : List Addr} {H : Hp} {q : Addr} {o : HO} (R : Hld K S F p H) (h : H q = none) : Hld K S (upd F q o) p (upd H q o) ∧ Nx F p H (upd F q o) p (upd H q o) := by
  have e : ∀ a u, F a = some u → upd F q o a = some u := fun a u z => by
    rw [upd_ne (ne_of_none z (F_none R h))]; exact z
  refine ⟨⟨fun a u z => ?_, R.len, R.nd, fun a ha => ?_, fun n a c hp hs => ?_⟩, ⟨e, List.prefix_refl _, fun a u z _ => ?_, fun a z n => absurd z n, fun a z n => ?_⟩⟩
  · by_cases ha : a = q
    · subst ha; rw [upd_same] at z ⊢; exact z
    · rw [upd_ne ha] at z ⊢; exact R.sub a u z
  · by_cases hq : a = q
    · subst hq; rw [upd_same]; exact fun z => nomatch z
    · rw [upd_ne hq]; exact R.there a ha
  · obtain ⟨h1, h2⟩ := R.cell n a c hp hs
    have ha : a ≠ q := fun z => by subst z; exact ne_p R h (List.mem_of_getElem? hp)
    exact ⟨by rw [upd_ne ha]; exact h1, h2.mono e (fun _ _ z => z) (upd_ne ha)⟩
  · rw [upd_ne (ne_of_none z h)]; exact z
  · by_cases ha : a = q
    · subst ha; exact .inl h
    · rw [upd_ne ha] at z; exact absurd n z
/-- a new object that is a cell -/
theorem Hld.new {K : PySem.W.Frag} {S : Store} {F : Hp} {p : List Addr} {H : Hp} {q : Addr} {o : HO} {c : Cell} (R : Hld K S F p H) (h : H q = none) (hc : ∀ H' : Hp, H' q = some o → CellAt K F p H' q c) :
    Hld K (S ++ [some c]) F (p ++ [q]) (upd H q o) ∧ Nx F p H F (p ++ [q]) (upd H q o) := by
  have e : ∀ a u, F a = some u → F a = some u := fun _ _ z => z
  have g : ∀ (n : Nat) (a : Addr), p[n]? = some a → (p ++ [q])[n]? = some a := pre_get (List.prefix_append _ _)
  refine ⟨⟨fun a u z => ?_, by simp [R.len], ?_, fun a ha => ?_, fun n a c' hp hs => ?_⟩, ⟨e, List.prefix_append _ _, fun a u z _ => ?_, fun a z n => ?_, fun a z n => absurd n z⟩⟩
  · rw [upd_ne (fun x => by subst x; rw [F_none R h] at z; cases z)]; exact R.sub a u z
  · rw [List.nodup_append]
    refine ⟨R.nd, by simp, fun a ha b hb => ?_⟩
    have : b = q := by simpa using hb
    subst this
    exact fun z => ne_p R h (z ▸ ha)
  · rcases List.mem_append.mp ha with ha | ha
    · have : a ≠ q := fun z => ne_p R h (z ▸ ha)
      rw [upd_ne this]; exact R.there a ha
    · have : a = q := by simpa using ha
      subst this; rw [upd_same]; exact fun z => nomatch z
  · by_cases hn : n < p.length
    · rw [List.getElem?_append_left hn] at hp
      rw [List.getElem?_append_left (by rw [← R.len]; exact hn)] at hs
      obtain ⟨h1, h2⟩ := R.cell n a c' hp hs
      have ha : a ≠ q := fun z => by subst z; exact ne_p R h (List.mem_of_getElem? hp)
      exact ⟨h1, h2.mono e g (upd_ne ha)⟩
    · have hn' : n = p.length := by
        have := (List.getElem?_eq_some_iff.mp hp).1
        simp at this; omega
      subst hn'
      rw [List.getElem?_append_right (Nat.le_refl _)] at hp
      rw [R.len, List.getElem?_append_right (Nat.le_refl _)] at hs
      simp at hp hs
      subst hp hs
      exact ⟨F_none R h, (hc (upd H q o) upd_same).mono e g rfl⟩
  · rw [upd_ne (ne_of_none z h)]; exact z
  · rcases List.mem_append.mp z with z | z
    · exact absurd z n
    · have : a = q := by simpa using z
      subst this; exact h
theorem nodup_get {p : List Addr} (nd : p.Nodup) {n m : Nat} {a : Addr} (h1 : p[n]? = some a) (h2 : p[m]? = some a) : n = m := by
  obtain ⟨l1, e1⟩ := List.getElem?_eq_some_iff.mp h1
  obtain ⟨l2, e2⟩ := List.getElem?_eq_some_iff.mp h2
  exact (List.getElem_inj nd).mp (e1.trans e2.symm)
/-- a cell is written -/
theorem Hld.put {K : PySem.W.Frag} {S : Store} {F : Hp} {p : List Addr} {H : Hp} {n : Nat} {a : Addr} {o : HO} {c0 c : Cell} (R : Hld K S F p H) (hp : p[n]? = some a) (hs : S[n]? = some (some c0)) (hc : ∀ H' : Hp, H' a = some o → CellAt K F p H' a c) :
    Hld K (S.set n (some c)) F p (upd H a o) ∧ Nx F p H F p (upd H a o) := by
  have fa : F a = none := (R.cell n a c0 hp hs).1
  refine ⟨⟨fun b u z => ?_, by simp [R.len], R.nd, fun b hb => ?_, fun m b c' hq hm => ?_⟩, ⟨fun _ _ z => z, List.prefix_refl _, fun b u z hb => ?_, fun b z n => absurd z n, fun b z n => absurd n z⟩⟩
  · rw [upd_ne (fun x => by subst x; rw [fa] at z; cases z)]; exact R.sub b u z
  · by_cases hq : b = a
    · subst hq; rw [upd_same]; exact fun z => nomatch z
    · rw [upd_ne hq]; exact R.there b hb
  · by_cases hb : m = n
    · subst hb
      rw [hp] at hq; cases hq
      have hl : m < S.length := (List.getElem?_eq_some_iff.mp hs).1
      rw [List.getElem?_set_self hl] at hm
      cases hm
      exact ⟨fa, hc _ upd_same⟩
    · rw [List.getElem?_set_ne (Ne.symm hb)] at hm
      obtain ⟨h1, h2⟩ := R.cell m b c' hq hm
      have : b ≠ a := fun z => by subst z; exact hb (nodup_get R.nd hq hp)
      exact ⟨h1, h2.mono (fun _ _ z => z) (fun _ _ z => z) (upd_ne this)⟩
  · rw [upd_ne (fun x => by subst x; exact hb (List.mem_of_getElem? hp))]; exact z
/-- a cell becomes a value -/
theorem Hld.frz {K : PySem.W.Frag} {S : Store} {F : Hp} {p : List Addr} {H : Hp} {n : Nat} {a : Addr} {vs : List V} (R : Hld K S F p H) (hp : p[n]? = some a) (hH : H a = some (.lst vs)) :
    Hld K (S.set n none) (upd F a (.lst vs)) p H ∧ Nx F p H (upd F a (.lst vs)) p H ∨ F a ≠ none := by
  by_cases fa : F a = none
  · refine .inl ?_
    have e : ∀ b u, F b = some u → upd F a (.lst vs) b = some u := fun b u z => by
      rw [upd_ne (ne_of_none z fa)]; exact z
    refine ⟨⟨fun b u z => ?_, by simp [R.len], R.nd, R.there, fun m b c' hq hm => ?_⟩, ⟨e, List.prefix_refl _, fun b u z _ => z, fun b z n => absurd z n, fun b z n => ?_⟩⟩
    · by_cases hb : b = a
      · subst hb; rw [upd_same] at z; cases z; exact hH
      · rw [upd_ne hb] at z; exact R.sub b u z
    · by_cases hb : m = n
      · subst hb
        by_cases hl : m < S.length
        · rw [List.getElem?_set_self hl] at hm; cases hm
        · rw [List.getElem?_eq_none (by simpa using hl)] at hm; cases hm
      · rw [List.getElem?_set_ne (Ne.symm hb)] at hm
        obtain ⟨h1, h2⟩ := R.cell m b c' hq hm
        have : b ≠ a := fun z => by subst z; exact hb (nodup_get R.nd hq hp)
        exact ⟨by rw [upd_ne this]; exact h1, h2.mono e (fun _ _ z => z) rfl⟩
    · by_cases hb : b = a
      · subst hb; exact .inr (List.mem_of_getElem? hp)
      · rw [upd_ne hb] at z; exact absurd n z
  · exact .inr fa
theorem cellL_iff {S : Store} {n : Nat} {xs : List D} (h : cellL S n = some xs) : S[n]? = some (some (.lst xs)) := by
  unfold cellL at h
  split at h
  · cases h; assumption
  · cases h
theorem cellK_iff {S : Store} {n : Nat} {xs : List (Key × D)} (h : cellK S n = some xs) : S[n]? = some (some (.dct xs)) := by
  unfold cellK at h
  split at h
  · cases h; assumption
  · cases h
theorem Hld.cellL {K : PySem.W.Frag} {S : Store} {F : Hp} {p : List Addr} {H : Hp} {n : Nat} {a : Addr} {ds : List D} (R : Hld K S F p H) (hp : p[n]? = some a) (h : cellL S n = some ds) : ∃ vs, H a = some (.lst vs) ∧ ds.length ≤ LINE ∧ IsDs K F p vs ds :=
  (R.cell n a _ hp (cellL_iff h)).2
/-- a list that is read -/
theorem Hld.list {K : PySem.W.Frag} {S : Store} {F : Hp} {p : List Addr} {H : Hp} {v : V} {d : D} {ds : List D} (R : Hld K S F p H) (h : IsD K F p v d) (e : listOf S d = some ds) : ∃ a vs, v = .ref a ∧ SqL K H a vs ∧ ds.length ≤ LINE ∧ IsDs K F p vs ds := by
  cases h with
  | lst h l t => cases e; exact ⟨_, _, rfl, .inl (.inl (R.sub _ _ h)), l, t⟩
  | scr h l =>
    cases e
    exact ⟨_, _, rfl, same_sqL R.sub h, by rw [List.length_map]; exact Nat.le_trans l (by decide), isDs_ints _⟩
  | cel h =>
    obtain ⟨vs, h1, l, h2⟩ := R.cellL h e
    exact ⟨_, vs, rfl, .inl (.inl h1), l, h2⟩
  | _ => cases e
theorem Hld.list' {K : PySem.W.Frag} {S : Store} {F : Hp} {p : List Addr} {H : Hp} {v : V} {d : D} {ds : List D} (R : Hld K S F p H) (h : IsD K F p v d) (e : listOf S d = some ds) (pl : plainL d = true) : ∃ a vs, v = .ref a ∧ H a = some (.lst vs) ∧ ds.length ≤ LINE ∧ IsDs K F p vs ds := by
  cases h with
  | lst h l t => cases e; exact ⟨_, _, rfl, R.sub _ _ h, l, t⟩
  | scr h l => cases pl
  | cel h =>
    obtain ⟨vs, h1, l, h2⟩ := R.cellL h e
    exact ⟨_, vs, rfl, h1, l, h2⟩
  | _ => cases e
theorem Hld.seq {K : PySem.W.Frag} {S : Store} {F : Hp} {p : List Addr} {H : Hp} {v : V} {d : D} {ds : List D} (R : Hld K S F p H) (h : IsD K F p v d) (e : seqOf S d = some ds) :
    ∃ a vs, v = .ref a ∧ (SqL K H a vs ∨ SqT K H a vs) ∧ ds.length ≤ LINE ∧ IsDs K F p vs ds := by
  cases h with
  | tup h l t => cases e; exact ⟨_, _, rfl, .inr (same_sqT R.sub h), l, t⟩
  | lst h l t => cases e; exact ⟨_, _, rfl, .inl (.inl (.inl (R.sub _ _ h))), l, t⟩
  | scr h l =>
    cases e
    exact ⟨_, _, rfl, .inl (same_sqL R.sub h), by rw [List.length_map]; exact Nat.le_trans l (by decide), isDs_ints _⟩
  | cel h =>
    obtain ⟨vs, h1, l, h2⟩ := R.cellL h e
    exact ⟨_, vs, rfl, .inl (.inl (.inl h1)), l, h2⟩
  | _ => cases e
end DI
/-! DI: the operators on values are the language's. -/
namespace DI
open PySem PySem.Spec L2
open PyProof.Rows hiding St
def IsX (K : PySem.W.Frag) (F : Hp) (p : List Addr) (H : Hp) (c : Value) (dx : Option Addr) (x : Ex) : Prop := False
def ErP (K : PySem.W.Frag) (W : WX) (F : Hp) (p : List Addr) (H : Hp) : Ex → Rho → Store → Prop := fun x ρ' S' =>
  ∀ c dx σ' F' p' H', Nx F p H F' p' H' → Hld K S' F' p' H' → Slt K F' p' σ' ρ' → IsX K F' p' H' c dx x → W c dx σ' H'
theorem ErP.nx {K : PySem.W.Frag} {W : WX} {F F1 : Hp} {p p1 : List Addr} {H H1 : Hp} (n : Nx F p H F1 p1 H1) (x : Ex) (ρ : Rho) (S : Store) (h : ErP K W F p H x ρ S) : ErP K W F1 p1 H1 x ρ S :=
  fun c dx σ' F' p' H' n' => h c dx σ' F' p' H' (n.trans n')
def OkE (K : PySem.W.Frag) (F : Hp) (p : List Addr) (H : Hp) (Q : VK) : D → Store → Prop := fun d S' =>
  ∀ v F' p' H', Nx F p H F' p' H' → Hld K S' F' p' H' → IsD K F' p' v d → Q v H'
theorem OkE.nx {K : PySem.W.Frag} {Q : VK} {F F1 : Hp} {p p1 : List Addr} {H H1 : Hp} (n : Nx F p H F1 p1 H1) (d : D) (S : Store) (h : OkE K F p H Q d S) : OkE K F1 p1 H1 Q d S :=
  fun v F' p' H' n' => h v F' p' H' (n.trans n')
theorem OkE.here {K : PySem.W.Frag} {Q : VK} {F : Hp} {p : List Addr} {H : Hp} {d : D} {S : Store} {v : V} (h : OkE K F p H Q d S) (R : Hld K S F p H) (hd : IsD K F p v d) : Q v H := h v F p H Nx.refl R hd
def E1 : Ex → Rho → Store → Prop := fun _ _ _ => False
section
variable {K : PySem.W.Frag} {S : Store} {F : Hp} {p : List Addr} {H : Hp} {Q : VK} {q : Addr} {E : Ex → Rho → Store → Prop}
theorem settle_new {al : Bool} {vs : List V} {ds : List D} (R : Hld K S F p H) (hq : H q = none) (l : ds.length ≤ LINE) (t : IsDs K F p vs ds)
    (h : (settle al (.new ds) S).holds (OkE K F p H Q) E) : Q (.ref q) (upd H q (.lst vs)) := by
  cases al with
  | true =>
    obtain ⟨R', n⟩ := R.new (o := .lst vs) (c := .lst ds) hq fun H' e => ⟨vs, e, l, t⟩
    refine (show OkE K F p H Q (.cel S.length) (S ++ [some (.lst ds)]) from h) _ F (p ++ [q]) _ n R' (.cel ?_)
    rw [← R.len, List.getElem?_append_right (Nat.le_refl _)]
    simp
  | false =>
    obtain ⟨R', n⟩ := R.val (o := .lst vs) hq
    exact (show OkE K F p H Q (.lst ds) S from h) _ (upd F q (.lst vs)) p _ n R' (.lst upd_same l (t.nx n))
theorem tup_new {vs : List V} {ds : List D} (R : Hld K S F p H) (hq : H q = none) (l : ds.length ≤ LINE) (t : IsDs K F p vs ds)
    (h : OkE K F p H Q (.tup ds) S) : Q (.ref q) (upd H q (.tup vs)) := by
  obtain ⟨R', n⟩ := R.val (o := .tup vs) hq
  exact h _ (upd F q (.tup vs)) p _ n R' (.tup (.inl (.inl upd_same)) l (t.nx n))
end
def rRes (K : PySem.W.Frag) (al : Bool) (b : Store → D → D → Option Res) : R2 := fun x y H Q =>
  ∃ S F p d e, Hld K S F p H ∧ IsD K F p x d ∧ IsD K F p y e ∧ (ofRes al (b S d e) S).holds (OkE K F p H Q) E1
theorem ofRes_if {al : Bool} {c : Prop} [Decidable c] {r : Res} {S : Store} {Q : D → Store → Prop} {E : Ex → Rho → Store → Prop} (h : (ofRes al (if c then some r else none) S).holds Q E) : c ∧ (settle al r S).holds Q E := by
  by_cases hc : c
  · rw [if_pos hc] at h; exact ⟨hc, h⟩
  · rw [if_neg hc] at h; exact False.elim h
theorem listOf_cel {S : Store} {n : Nat} {ys : List D} (h : cellL S n = some ys) : listOf S (.cel n) = some ys := h
section
variable {X : Cx} {al : Bool}
theorem cat_list {pins : List (Addr × Obj)} {s : Shared} {σ : St} {H : Hp} {x y : V} {v u : Value} {Q : VK} {S : Store} {F : Hp} {p : List Addr} {d e : D} {xs ys : List D} (I : Inv X pins σ H s) (rx : RelV x v) (ry : RelV y u)
    (R : Hld X.K S F p H) (hx : IsD X.K F p x d) (hy : IsD X.K F p y e) (lx : listOf S d = some xs) (ly : listOf S e = some ys) (px : plainL d = true) (py : plainL e = true)
    (h : (ofRes al (if xs.length + ys.length ≤ LINE then some (.new (xs ++ ys)) else none) S).holds (OkE X.K F p H Q) E1) : wpAny (model X.prog X.w) X.A (binaryOp .Add v u) (EP X pins σ Q) X.xe s := by
  obtain ⟨hl, h⟩ := ofRes_if h
  obtain ⟨a, vs, rfl, ha, l1, t1⟩ := R.list' hx lx px
  obtain ⟨b, ws, rfl, hb, l2, t2⟩ := R.list' hy ly py
  refine op_cat pins s σ H _ _ v u Q I rx ry ⟨a, b, vs, ws, rfl, rfl, ha, hb, ?_, fun q hq => ?_⟩
  · rw [t1.length, t2.length, ← LINE_eq]; exact hl
  · exact settle_new R hq (by rw [List.length_append]; exact hl) (t1.append t2) h
theorem op_addD : OpR X (binaryOp .Add) (rRes X.K al addD) := by
  intro pins s σ H x y v u Q I rx ry h
  obtain ⟨S, F, p, d, e, R, hx, hy, h⟩ := h
  cases d with
  | int i =>
    cases e with
    | int j => cases hx; cases hy; exact op_add pins s σ H _ _ v u Q I rx ry ⟨i, j, rfl, rfl, OkE.here (d := .int (i + j)) h R (.int _)⟩
    | _ => exact False.elim h
  | str i =>
    cases e with
    | str j =>
      cases hx; cases hy
      obtain ⟨hl, h⟩ := ofRes_if (c := i.length + j.length ≤ LINE) h
      exact op_add_str pins s σ H _ _ v u Q I rx ry ⟨i, j, rfl, rfl, by rw [← LINE_eq]; exact hl, OkE.here (d := .str (i ++ j)) h R (.str _)⟩
    | _ => exact False.elim h
  | tup xs =>
    cases e with
    | tup ys =>
      obtain ⟨hl, h⟩ := ofRes_if (c := xs.length + ys.length ≤ LINE) h
      have h : OkE X.K F p H Q (.tup (xs ++ ys)) S := h
      cases hx with
      | @tup a vs _ h1 l1 t1 =>
        cases hy with
        | @tup b ws _ h2 l2 t2 =>
          refine op_catA pins s σ H _ _ v u Q I rx ry ⟨a, b, vs, ws, rfl, rfl, same_sqT R.sub h1, same_sqT R.sub h2, ?_, fun e0 => ?_, fun _ e0 => ?_, fun _ _ q hq => ?_⟩
          · rw [t1.length, t2.length, ← LINE_eq]; exact hl
          · subst e0
            have e1 : xs = [] := List.length_eq_zero_iff.mp (by rw [← t1.length]; rfl)
            subst e1
            exact h.here R (.tup h2 l2 t2)
          · subst e0
            have e1 : ys = [] := List.length_eq_zero_iff.mp (by rw [← t2.length]; rfl)
            subst e1
            rw [List.append_nil] at h
            exact h.here R (.tup h1 l1 t1)
          · exact tup_new R hq (by rw [List.length_append]; exact hl) (t1.append t2) h
    | _ => exact False.elim h
  | lst xs =>
    cases e with
    | lst ys => exact cat_list I rx ry R hx hy rfl rfl rfl rfl h
    | cel n =>
      cases hc : cellL S n with
      | none => simp only [addD, hc] at h; exact False.elim h
      | some ys =>
        simp only [addD, hc] at h
        exact cat_list I rx ry R hx hy rfl hc rfl rfl h
    | _ => exact False.elim h
  | cel m =>
    cases hm : cellL S m with
    | none => simp only [addD, hm] at h; exact False.elim h
    | some xs =>
      simp only [addD, hm] at h
      cases e with
      | lst ys => exact cat_list I rx ry R hx hy hm rfl rfl rfl h
      | cel n =>
        simp only at h
        cases hc : cellL S n with
        | none => simp only [hc] at h; exact False.elim h
        | some ys =>
          simp only [hc] at h
          exact cat_list I rx ry R hx hy hm hc rfl rfl h
      | _ => exact False.elim h
  | _ => exact False.elim h
theorem mul_ok {i j : Int} (h : mulOk i j = true) : CMul i j := by
  unfold mulOk at h
  simp only [Bool.or_eq_true, decide_eq_true_eq] at h
  unfold CMul
  omega
theorem rep_list {pins : List (Addr × Obj)} {s : Shared} {σ : St} {H : Hp} {x y : V} {v u : Value} {Q : VK} {S : Store} {F : Hp} {p : List Addr} {d : D} {xs : List D} {k : Int} (I : Inv X pins σ H s) (rx : RelV x v) (ry : RelV y u)
    (R : Hld X.K S F p H) (hx : IsD X.K F p x d) (hy : IsD X.K F p y (.int k)) (lx : listOf S d = some xs) (px : plainL d = true)
    (h : (ofRes al (if decide (k ≤ 16777216) && decide (-16777216 ≤ k) && decide (xs.length * k.toNat ≤ LINE) then some (.new (List.replicate k.toNat xs).flatten) else none) S).holds (OkE X.K F p H Q) E1) :
    wpAny (model X.prog X.w) X.A (binaryOp .Mult v u) (EP X pins σ Q) X.xe s := by
  obtain ⟨hl, h⟩ := ofRes_if h
  simp only [Bool.and_eq_true, decide_eq_true_eq] at hl
  obtain ⟨a, vs, rfl, ha, l1, t1⟩ := R.list' hx lx px
  cases hy
  refine op_rep pins s σ H _ _ v u Q I rx ry ⟨a, k, vs, rfl, rfl, ha, by omega, by omega, ?_, fun q hq => ?_⟩
  · rw [t1.length, ← LINE_eq]; exact hl.2
  · refine settle_new R hq ?_ (t1.rep _) h
    have e : ∀ (n : Nat), (List.replicate n xs).flatten.length = xs.length * n := fun n => by
      induction n with
      | zero => simp
      | succ n ih => rw [List.replicate_succ, List.flatten_cons, List.length_append, ih, Nat.mul_succ]; omega
    rw [e]; exact hl.2
theorem op_mulD : OpR X (binaryOp .Mult) (rRes X.K al mulD) := by
  intro pins s σ H x y v u Q I rx ry h
  obtain ⟨S, F, p, d, e, R, hx, hy, h⟩ := h
  cases d with
  | int i =>
    cases e with
    | int j =>
      obtain ⟨hl, h⟩ := ofRes_if (c := mulOk i j = true) h
      cases hx; cases hy
      exact op_mul pins s σ H _ _ v u Q I rx ry ⟨i, j, rfl, rfl, mul_ok hl, OkE.here (d := .int (i * j)) h R (.int _)⟩
    | _ => exact False.elim h
  | lst xs =>
    cases e with
    | int k => exact rep_list I rx ry R hx hy rfl rfl h
    | _ => exact False.elim h
  | cel n =>
    cases e with
    | int k =>
      cases hc : cellL S n with
      | none => simp only [mulD, hc] at h; exact False.elim h
      | some xs =>
        simp only [mulD, hc] at h
        exact rep_list I rx ry R hx hy hc rfl h
    | _ => exact False.elim h
  | _ => exact False.elim h
theorem op_binD {op : Operator} : OpR X (binaryOp op) (rRes X.K al fun S => binD S op) := by
  intro pins s σ H x y v u Q I rx ry h
  obtain ⟨S, F, p, d, e, R, hx, hy, h⟩ := h
  cases op with
  | Add => exact op_addD pins s σ H x y v u Q I rx ry ⟨S, F, p, d, e, R, hx, hy, h⟩
  | Mult => exact op_mulD pins s σ H x y v u Q I rx ry ⟨S, F, p, d, e, R, hx, hy, h⟩
  | Sub =>
    cases d with
    | int i =>
      cases e with
      | int j => cases hx; cases hy; exact op_sub pins s σ H _ _ v u Q I rx ry ⟨i, j, rfl, rfl, OkE.here (d := .int (i - j)) h R (.int _)⟩
      | _ => exact False.elim h
    | _ => exact False.elim h
  | Mod =>
    cases d with
    | int i =>
      cases e with
      | int j =>
        obtain ⟨hl, h⟩ := ofRes_if (c := decide (0 < j) = true) h
        cases hx; cases hy; exact op_mod pins s σ H _ _ v u Q I rx ry ⟨i, j, rfl, rfl, of_decide_eq_true hl, OkE.here (d := .int (i % j)) h R (.int _)⟩
      | _ => exact False.elim h
    | _ => exact False.elim h
  | FloorDiv =>
    cases d with
    | int i =>
      cases e with
      | int j =>
        obtain ⟨hl, h⟩ := ofRes_if (c := divOk j = true) h
        unfold divOk at hl
        simp only [Bool.and_eq_true, decide_eq_true_eq] at hl
        cases hx; cases hy; exact op_fdivW pins s σ H _ _ v u Q I rx ry ⟨i, j, rfl, rfl, wide_div (b := 64) hl.1 hl.2 (by decide) (by decide), OkE.here (d := .int (i / j)) h R (.int _)⟩
      | _ => exact False.elim h
    | _ => exact False.elim h
  | Pow =>
    cases d with
    | int i =>
      cases e with
      | int j =>
        obtain ⟨hl, h⟩ := ofRes_if (c := powOk i j = true) h
        unfold powOk at hl
        simp only [Bool.and_eq_true, decide_eq_true_eq] at hl
        cases hx; cases hy; exact op_pow pins s σ H _ _ v u Q I rx ry ⟨i, j, rfl, rfl, ⟨hl.1.1, hl.1.2, hl.2⟩, OkE.here (d := .int (i ^ j.toNat)) h R (.int _)⟩
      | _ => exact False.elim h
    | _ => exact False.elim h
  | _ => exact False.elim h
end
/-! ### values read as data -/
def Sysm (X : Cx) : Prop := ∃ o es ep, X.base.get? sysModules = some o ∧ o.data = .dict es ep
section
variable {X : Cx} {pins : List (Addr × Obj)} {σ : St} {H : Hp} {s : Shared} {S : Store} {F : Hp} {p : List Addr}
theorem sys_ne (I : Inv X pins σ H s) (sm : Sysm X) {a : Addr} {o : Obj} {its : Array Value} {n : Nat} (h : s.heap.get? a = some o) (hd : o.data = .seq its n) : a ≠ sysModules := fun z => by
  obtain ⟨o', es, ep, e, d⟩ := sm
  have := I.bk _ _ e
  rw [← z, h] at this; cases this
  rw [hd] at d; cases d
theorem toPs_len {S : Store} : ∀ {ds : List D} {qs : List PyData}, toPs S ds = some qs → qs.length = ds.length
  | [], _, h => by cases h; rfl
  | d :: r, qs, h => by
    simp only [toPs] at h
    split at h
    · rename_i h1 h2
      cases h
      simp [toPs_len h2]
    · cases h
mutual
theorem IsD.reads0 (I : Inv X pins σ H s) (sm : Sysm X) (R : Hld X.K S F p H) : ∀ (d : D) (v : V) (u : Value) (q : PyData), IsD X.K F p v d → RelV v u → d.toP0 = some q → ∃ as, Reads s.heap u q as ∧ sysModules ∉ as
  | .non, _, _, _, h, r, e => by cases h; cases r; cases e; exact ⟨_, .none, by simp⟩
  | .bl b, _, _, _, h, r, e => by cases h; cases r; cases e; exact ⟨_, .bool b, by simp⟩
  | .int i, _, _, _, h, r, e => by cases h; obtain ⟨t, rfl⟩ := r; cases e; exact ⟨_, .int i t, by simp⟩
  | .str x, _, _, _, h, r, e => by cases h; obtain ⟨t, rfl⟩ := r; cases e; exact ⟨_, .str x t, by simp⟩
  | .lst ds, _, _, _, h, r, e => by
    cases h with
    | lst h l t =>
      cases r
      simp only [D.toP0, Option.map_eq_some_iff] at e
      obtain ⟨qs, e, rfl⟩ := e
      obtain ⟨its, rv, ⟨o, n, ho, hc, _, hd⟩, _⟩ := I.list (.inl (.inl (R.sub _ _ h)))
      obtain ⟨as, hr, hn⟩ := IsDs.reads0 I sm R ds _ its qs t rv e
      exact ⟨_, .list ho hc hd hr, fun z => (List.mem_cons.mp z).elim (fun z => sys_ne I sm ho hd z.symm) hn⟩
  | .tup ds, _, _, _, h, r, e => by
    cases h with
    | tup h l t =>
      cases r
      simp only [D.toP0, Option.map_eq_some_iff] at e
      obtain ⟨qs, e, rfl⟩ := e
      obtain ⟨its, rv, ⟨o, ho, hc, n, hd⟩, _⟩ := I.tuple (same_sqT R.sub h)
      obtain ⟨as, hr, hn⟩ := IsDs.reads0 I sm R ds _ its qs t rv e
      exact ⟨_, .tuple ho hc hd hr, hn⟩
  | .scr ns, _, _, _, h, r, e => by
    cases h with
    | scr h l =>
      cases r
      cases e
      obtain ⟨its, rv, ⟨o, n, ho, hc, _, hd⟩, _⟩ := I.list (same_sqL R.sub h)
      obtain ⟨as, hr, hn⟩ := reads_ints rv
      exact ⟨_, .list ho hc hd hr, fun z => (List.mem_cons.mp z).elim (fun z => sys_ne I sm ho hd z.symm) hn⟩
  | .emp, _, _, _, h, r, e => by
    cases h with
    | emp h =>
      cases r
      cases e
      obtain ⟨_, hs, vs, kv, o, es, ep, ho, hx, hd, he⟩ := I.hok _ _ (R.sub _ _ h)
      cases kv
      have he0 : es.toList = [] := by
        cases h' : es.toList with
        | nil => rfl
        | cons a b => rw [h'] at he; exact absurd he.2.1 (by intro z; cases z)
      exact ⟨_, .dict (kvs := []) ho hx.1 hd (by rw [he0]; exact .nil) (by rw [he0]; exact .nil), fun z => by
        have z := List.mem_singleton.mp z
        rw [← z] at hs
        simp at hs⟩
  | .cel n, _, _, _, h, r, e => by cases e
theorem IsDs.reads0 (I : Inv X pins σ H s) (sm : Sysm X) (R : Hld X.K S F p H) : ∀ (ds : List D) (vs : List V) (us : List Value) (qs : List PyData), IsDs X.K F p vs ds → Vals vs us → toPs0 ds = some qs → ∃ as, ReadsAll s.heap us qs as ∧ sysModules ∉ as
  | [], _, _, _, h, r, e => by cases h; cases r; cases e; exact ⟨_, .nil, by simp⟩
  | d :: ds, _, _, _, h, r, e => by
    cases h with
    | cons h1 h2 =>
      cases r with
      | cons r1 r2 =>
        simp only [toPs0] at e
        split at e
        · rename_i e1 e2
          cases e
          obtain ⟨as, q1, n1⟩ := IsD.reads0 I sm R d _ _ _ h1 r1 e1
          obtain ⟨bs, q2, n2⟩ := IsDs.reads0 I sm R ds _ _ _ h2 r2 e2
          exact ⟨_, .cons q1 q2, fun z => (List.mem_append.mp z).elim n1 n2⟩
        · cases e
theorem reads_ints : ∀ {ns : List Int} {us : List Value}, Vals (ns.map V.int) us → ∃ as, ReadsAll s.heap us (ns.map .int) as ∧ sysModules ∉ as
  | [], _, r => by cases r; exact ⟨_, .nil, by simp⟩
  | n :: r, _, h => by
    cases h with
    | cons h1 h2 =>
      obtain ⟨t, rfl⟩ := h1
      obtain ⟨as, q, hn⟩ := reads_ints h2
      exact ⟨_, .cons (.int n t) q, by simpa using hn⟩
end
mutual
theorem IsD.reads (I : Inv X pins σ H s) (sm : Sysm X) (R : Hld X.K S F p H) : ∀ (d : D) (v : V) (u : Value) (q : PyData), IsD X.K F p v d → RelV v u → d.toP S = some q → ∃ as, Reads s.heap u q as ∧ sysModules ∉ as
  | .non, _, _, _, h, r, e => by cases h; cases r; cases e; exact ⟨_, .none, by simp⟩
  | .bl b, _, _, _, h, r, e => by cases h; cases r; cases e; exact ⟨_, .bool b, by simp⟩
  | .int i, _, _, _, h, r, e => by cases h; obtain ⟨t, rfl⟩ := r; cases e; exact ⟨_, .int i t, by simp⟩
  | .str x, _, _, _, h, r, e => by cases h; obtain ⟨t, rfl⟩ := r; cases e; exact ⟨_, .str x t, by simp⟩
  | .lst ds, _, _, _, h, r, e => by
    cases h with
    | lst h l t =>
      cases r
      simp only [D.toP, Option.map_eq_some_iff] at e
      obtain ⟨qs, e, rfl⟩ := e
      obtain ⟨its, rv, ⟨o, n, ho, hc, _, hd⟩, _⟩ := I.list (.inl (.inl (R.sub _ _ h)))
      obtain ⟨as, hr, hn⟩ := IsDs.reads I sm R ds _ its qs t rv e
      exact ⟨_, .list ho hc hd hr, fun z => (List.mem_cons.mp z).elim (fun z => sys_ne I sm ho hd z.symm) hn⟩
  | .tup ds, _, _, _, h, r, e => by
    cases h with
    | tup h l t =>
      cases r
      simp only [D.toP, Option.map_eq_some_iff] at e
      obtain ⟨qs, e, rfl⟩ := e
      obtain ⟨its, rv, ⟨o, ho, hc, n, hd⟩, _⟩ := I.tuple (same_sqT R.sub h)
      obtain ⟨as, hr, hn⟩ := IsDs.reads I sm R ds _ its qs t rv e
      exact ⟨_, .tuple ho hc hd hr, hn⟩
  | .scr ns, _, _, _, h, r, e => IsD.reads0 I sm R (.scr ns) _ _ _ h r (by cases e; rfl)
  | .emp, _, _, _, h, r, e => IsD.reads0 I sm R .emp _ _ _ h r (by cases e; rfl)
  | .cel n, _, _, _, h, r, e => by
    cases h with
    | cel h =>
      cases r
      simp only [D.toP] at e
      split at e
      · rename_i xs hx
        obtain ⟨qs, e1, rfl⟩ := Option.map_eq_some_iff.mp e
        obtain ⟨vs, h1, l, t⟩ := R.cellL h hx
        obtain ⟨its, rv, ⟨o, n, ho, hc, _, hd⟩, _⟩ := I.list (.inl (.inl h1))
        obtain ⟨as, hr, hn⟩ := IsDs.reads0 I sm R xs _ its qs t rv e1
        exact ⟨_, .list ho hc hd hr, fun z => (List.mem_cons.mp z).elim (fun z => sys_ne I sm ho hd z.symm) hn⟩
      · cases e
theorem IsDs.reads (I : Inv X pins σ H s) (sm : Sysm X) (R : Hld X.K S F p H) : ∀ (ds : List D) (vs : List V) (us : List Value) (qs : List PyData), IsDs X.K F p vs ds → Vals vs us → toPs S ds = some qs → ∃ as, ReadsAll s.heap us qs as ∧ sysModules ∉ as
  | [], _, _, _, h, r, e => by cases h; cases r; cases e; exact ⟨_, .nil, by simp⟩
  | d :: ds, _, _, _, h, r, e => by
    cases h with
    | cons h1 h2 =>
      cases r with
      | cons r1 r2 =>
        simp only [toPs] at e
        split at e
        · rename_i e1 e2
          cases e
          obtain ⟨as, q1, n1⟩ := IsD.reads I sm R d _ _ _ h1 r1 e1
          obtain ⟨bs, q2, n2⟩ := IsDs.reads I sm R ds _ _ _ h2 r2 e2
          exact ⟨_, .cons q1 q2, fun z => (List.mem_append.mp z).elim n1 n2⟩
        · cases e
end
end
end DI
/-! DI: comparisons, places, cuts. -/
namespace DI
open PySem PySem.Spec L2
open PyProof.Rows hiding St
def rBo (K : PySem.W.Frag) (b : Store → D → D → Option Bool) : R2 := fun x y H Q =>
  ∃ S F p d e, Hld K S F p H ∧ IsD K F p x d ∧ IsD K F p y e ∧ (ofB (b S d e) S).holds (OkE K F p H Q) E1
theorem ofB_some {b : Option Bool} {S : Store} {Q : D → Store → Prop} {E : Ex → Rho → Store → Prop} (h : (ofB b S).holds Q E) : ∃ c, b = some c ∧ Q (.bl c) S := by
  cases b with
  | none => exact False.elim h
  | some c => exact ⟨c, rfl, h⟩
section
variable {X : Cx} {pins : List (Addr × Obj)} {σ : St} {H : Hp} {s : Shared} {S : Store} {F : Hp} {p : List Addr} {Q : VK}
theorem eqv_ok (sm : Sysm X) {x y : V} {v u : Value} {d e : D} (I : Inv X pins σ H s) (rx : RelV x v) (ry : RelV y u) (R : Hld X.K S F p H) (hx : IsD X.K F p x d) (hy : IsD X.K F p y e) {b : Bool} (h : eqvD0 S d e = some b) :
    ∃ a c as bs, Reads s.heap v a as ∧ Reads s.heap u c bs ∧ SeqAt.shaped a = true ∧ SeqAt.shaped c = true ∧ b = PyData.eqv a c := by
  unfold eqvD0 at h
  split at h
  · rename_i a c h1 h2
    split at h
    · rename_i hs
      cases h
      simp only [Bool.and_eq_true] at hs
      obtain ⟨as, r1, _⟩ := IsD.reads I sm R d x v a hx rx h1
      obtain ⟨bs, r2, _⟩ := IsD.reads I sm R e y u c hy ry h2
      exact ⟨a, c, as, bs, r1, r2, hs.1, hs.2, rfl⟩
    · cases h
  · cases h
theorem seq_reads (sm : Sysm X) {y : V} {u : Value} {e : D} {es : List D} {qs : List PyData} (I : Inv X pins σ H s) (ry : RelV y u) (R : Hld X.K S F p H) (hy : IsD X.K F p y e) (he : seqOf S e = some es) (hq : toPs S es = some qs) :
    ∃ as, Reads s.heap u (.list qs) as ∨ Reads s.heap u (.tuple qs) as := by
  obtain ⟨a, vs, rfl, ha, l, t⟩ := R.seq hy he
  cases ry
  rcases ha with ha | ha
  · obtain ⟨its, rv, ⟨o, n, ho, hc, _, hd⟩, _⟩ := I.list ha
    obtain ⟨as, hr, _⟩ := IsDs.reads I sm R es _ its qs t rv hq
    exact ⟨_, .inl (.list ho hc hd hr)⟩
  · obtain ⟨its, rv, ⟨o, ho, hc, n, hd⟩, _⟩ := I.tuple ha
    obtain ⟨as, hr, _⟩ := IsDs.reads I sm R es _ its qs t rv hq
    exact ⟨_, .inr (.tuple ho hc hd hr)⟩
theorem any_ok (sm : Sysm X) (hu : X.A.units + 70 < cLine) {x y : V} {v u : Value} {d e : D} (I : Inv X pins σ H s) (rx : RelV x v) (ry : RelV y u) (R : Hld X.K S F p H) (hx : IsD X.K F p x d) (hy : IsD X.K F p y e) {b : Bool} (h : anyD S d e = some b) :
    (Q (.bl b) H → wpAny (model X.prog X.w) X.A (compareOp .In v u) (EP X pins σ Q) X.xe s) ∧ (Q (.bl (!b)) H → wpAny (model X.prog X.w) X.A (compareOp .NotIn v u) (EP X pins σ Q) X.xe s) := by
  unfold anyD at h
  split at h
  · rename_i es he
    split at h
    · rename_i a qs h1 h2
      split at h
      · rename_i hs
        cases h
        simp only [Bool.and_eq_true] at hs
        obtain ⟨as, r1, _⟩ := IsD.reads I sm R d x v a hx rx h1
        have hl : PyData.canLayAll0 qs = true := SeqAt.canLay_of_shaped hs.2
        have hd := SeqAt.depth_of_shaped hs.1
        have hroom : X.A.units + 1 + min (PyData.depthAll qs) a.depth < cLine := by
          have : min (PyData.depthAll qs) a.depth ≤ a.depth := Nat.min_le_right _ _
          omega
        obtain ⟨bs, r2 | r2⟩ := seq_reads sm I ry R hy he h2
        · exact ⟨fun q => SeqAt.in_list_reads r2 r1 hl (SeqAt.canLay_of_shaped hs.1) hroom ⟨.bl _, H, I, rfl, q⟩, fun q => SeqAt.notIn_list_reads r2 r1 hl (SeqAt.canLay_of_shaped hs.1) hroom ⟨.bl _, H, I, rfl, q⟩⟩
        · exact ⟨fun q => SeqAt.in_tuple_reads r2 r1 hl (SeqAt.canLay_of_shaped hs.1) hroom ⟨.bl _, H, I, rfl, q⟩, fun q => SeqAt.notIn_tuple_reads r2 r1 hl (SeqAt.canLay_of_shaped hs.1) hroom ⟨.bl _, H, I, rfl, q⟩⟩
      · cases h
    · cases h
  · cases h
theorem key_of {x : V} {d : D} {k : Key} (h : IsD X.K F p x d) (e : inKey d = some k) : x = kV k := by
  cases h <;> cases e <;> rfl
theorem IsK.val {K : PySem.W.Frag} (k : Key) : ∀ {ws : List (Key × V)} {kvs : List (Key × D)}, IsK K F p ws kvs → (valV ws k = none ∧ valK kvs k = none) ∨ ∃ v d, valV ws k = some v ∧ valK kvs k = some d ∧ IsD K F p v d
  | _, _, .nil => .inl ⟨rfl, rfl⟩
  | _, _, .cons (k := j) (v := v) (d := d) h t => by
    by_cases e : j = k
    · refine .inr ⟨v, d, valV_pos (p := (j, v)) e, ?_, h⟩
      simp [valK, List.find?_cons, e]
    · rcases IsK.val k t with ⟨h1, h2⟩ | ⟨v', d', h1, h2, h3⟩
      · refine .inl ⟨(valV_neg (p := (j, v)) e).trans h1, ?_⟩
        rw [← h2]; simp [valK, List.find?_cons, e]
      · refine .inr ⟨v', d', (valV_neg (p := (j, v)) e).trans h1, ?_, h3⟩
        rw [← h2]; simp [valK, List.find?_cons, e]
theorem Hld.cellK {K : PySem.W.Frag} {n : Nat} {a : Addr} {kvs : List (Key × D)} (R : Hld K S F p H) (hp : p[n]? = some a) (h : cellK S n = some kvs) : ∃ ws, H a = some (.dK ws) ∧ IsK K F p ws kvs :=
  (R.cell n a _ hp (cellK_iff h)).2
theorem in_ok (sm : Sysm X) (hu : X.A.units + 70 < cLine) {x y : V} {v u : Value} {d e : D} (I : Inv X pins σ H s) (rx : RelV x v) (ry : RelV y u) (R : Hld X.K S F p H) (hx : IsD X.K F p x d) (hy : IsD X.K F p y e) {b : Bool} (h : inD S d e = some b) :
    (Q (.bl b) H → wpAny (model X.prog X.w) X.A (compareOp .In v u) (EP X pins σ Q) X.xe s) ∧ (Q (.bl (!b)) H → wpAny (model X.prog X.w) X.A (compareOp .NotIn v u) (EP X pins σ Q) X.xe s) := by
  unfold inD at h
  split at h
  · rename_i n
    split at h
    · rename_i kvs hk
      split at h
      · rename_i k hkey
        cases h
        have ex := key_of hx hkey
        subst ex
        cases hy with
        | @cel a _ hp =>
          cases ry
          obtain ⟨ws, hw, t⟩ := R.cellK hp hk
          have g : DGet H a (kV k) (valV ws k) := DGet.k hw
          have e : (valV ws k).isSome = (valK kvs k).isSome := by
            rcases t.val k with ⟨h1, h2⟩ | ⟨v', d', h1, h2, _⟩ <;> rw [h1, h2] <;> rfl
          refine ⟨fun q => d_in (by omega) I g rx fun s' I' => ⟨.bl _, H, I', rfl, by rw [e]; exact q⟩, fun q => d_notIn (by omega) I g rx fun s' I' => ⟨.bl _, H, I', rfl, by rw [e]; exact q⟩⟩
      · cases h
    · exact any_ok sm hu I rx ry R hx hy h
  · exact any_ok sm hu I rx ry R hx hy h
theorem strEq_ok {K : PySem.W.Frag} {x y : V} {d e : D} (hx : IsD K F p x d) (hy : IsD K F p y e) {b : Bool} (h : strEq d e = some b) : scal x y = true ∧ decide (x = y) = b := by
  cases hx <;> cases hy <;> first | (cases h; exact ⟨rfl, by simp⟩) | cases h
theorem non_iff {K : PySem.W.Frag} {x : V} {d : D} (h : IsD K F p x d) : decide (x = .non) = match d with | .non => true | _ => false := by
  cases h <;> simp
end
section
variable {X : Cx}
theorem op_cmpD (sm : Sysm X) (hu : X.A.units + 70 < cLine) {op : CmpOp} : OpR X (compareOp op) (rBo X.K fun S => cmpD S op) := by
  intro pins s σ H x y v u Q I rx ry h
  obtain ⟨S, F, p, d, e, R, hx, hy, h⟩ := h
  obtain ⟨b, hb, h⟩ := ofB_some h
  have q : Q (.bl b) H := h.here R (.bl b)
  cases op with
  | Eq =>
    have hb : eqvD S d e = some b := hb
    unfold eqvD at hb
    split at hb
    · rename_i b' he
      cases hb
      obtain ⟨e1, e2⟩ := strEq_ok hx hy he
      exact op_eq pins s σ H x y v u Q I rx ry ⟨e1, by rw [e2]; exact q⟩
    obtain ⟨a, c, as, bs, r1, r2, s1, s2, rfl⟩ := eqv_ok sm I rx ry R hx hy hb
    exact SeqAt.compareEq_shaped r1 r2 s1 s2 (by omega) ⟨.bl _, H, I, rfl, q⟩
  | NotEq =>
    obtain ⟨b', hb', rfl⟩ := Option.map_eq_some_iff.mp (show (eqvD S d e).map (!·) = some b from hb)
    unfold eqvD at hb'
    split at hb'
    · rename_i b2 he
      cases hb'
      obtain ⟨e1, e2⟩ := strEq_ok hx hy he
      exact op_ne pins s σ H x y v u Q I rx ry ⟨e1, by rw [e2]; exact q⟩
    obtain ⟨a, c, as, bs, r1, r2, s1, s2, rfl⟩ := eqv_ok sm I rx ry R hx hy hb'
    exact SeqAt.compareNe_shaped r1 r2 s1 s2 (by omega) ⟨.bl _, H, I, rfl, q⟩
  | Lt =>
    cases d <;> cases e <;> cases hb
    cases hx; cases hy; exact op_lt pins s σ H _ _ v u Q I rx ry ⟨_, _, rfl, rfl, q⟩
  | LtE =>
    cases d <;> cases e <;> cases hb
    cases hx; cases hy; exact op_le pins s σ H _ _ v u Q I rx ry ⟨_, _, rfl, rfl, q⟩
  | Gt =>
    cases d <;> cases e <;> cases hb
    cases hx; cases hy; exact op_gt pins s σ H _ _ v u Q I rx ry ⟨_, _, rfl, rfl, q⟩
  | GtE =>
    cases d <;> cases e <;> cases hb
    cases hx; cases hy; exact op_ge pins s σ H _ _ v u Q I rx ry ⟨_, _, rfl, rfl, q⟩
  | Is =>
    cases e with
    | non =>
      cases hy
      have e1 : b = decide (x = .non) := by rw [non_iff hx]; cases d <;> cases hb <;> rfl
      exact op_isN pins s σ H _ _ v u Q I rx ry ⟨rfl, by rw [← e1]; exact q⟩
    | bl c =>
      cases d with
      | bl a => cases hb; cases hx; cases hy; exact op_isBl pins s σ H _ _ v u Q I rx ry ⟨a, c, rfl, rfl, q⟩
      | _ => cases hb
    | _ => cases d <;> cases hb
  | IsNot =>
    cases e with
    | non =>
      cases hy
      have e1 : b = !decide (x = .non) := by rw [non_iff hx]; cases d <;> cases hb <;> rfl
      exact op_notN pins s σ H _ _ v u Q I rx ry ⟨rfl, by rw [← e1]; exact q⟩
    | bl c =>
      cases d with
      | bl a => cases hb; cases hx; cases hy; exact op_notBl pins s σ H _ _ v u Q I rx ry ⟨a, c, rfl, rfl, q⟩
      | _ => cases hb
    | _ => cases d <;> cases hb
  | In => exact (in_ok sm hu I rx ry R hx hy (show inD S d e = some b from hb)).1 q
  | NotIn =>
    obtain ⟨b', hb', rfl⟩ := Option.map_eq_some_iff.mp (show (inD S d e).map (!·) = some b from hb)
    exact (in_ok sm hu I rx ry R hx hy hb').2 q
/-! ### o[i] -/
def rGet (K : PySem.W.Frag) : R2 := fun x y H Q => ∃ S F p d e z, Hld K S F p H ∧ IsD K F p x d ∧ IsD K F p y e ∧ getD S d e = some z ∧ OkE K F p H Q z S
theorem at_rel {K : PySem.W.Frag} {F : Hp} {p : List Addr} {vs : List V} {ds : List D} {i : Int} {d : D} (t : IsDs K F p vs ds) (h : atI ds i = some d) : ∃ v, atI vs i = some v ∧ IsD K F p v d := by
  unfold atI at h ⊢
  rw [t.length]
  cases e : ixN ds.length i with
  | none => rw [e] at h; cases h
  | some j =>
    rw [e] at h
    exact t.get h
theorem ix_getD (hu : X.A.units + 1 < cLine) : IxR X (rGet X.K) := by
  intro value slice pins s σ H x y v u Q I rx ry h hs
  obtain ⟨S, F, p, d, e, z, R, hx, hy, hz, h⟩ := h
  unfold getD at hz
  split at hz
  · rename_i xs hxs
    split at hz
    · rename_i i
      obtain ⟨a, vs, rfl, ha, l, t⟩ := R.seq hx hxs
      obtain ⟨w, hw, hd⟩ := at_rel t hz
      cases hy
      rcases ha with ha | ha
      · exact ix_list value slice pins s σ H _ _ v u Q I rx ry ⟨a, vs, i, w, rfl, rfl, ha, hw, h.here R hd⟩ hs
      · exact ix_tup value slice pins s σ H _ _ v u Q I rx ry ⟨a, vs, i, w, rfl, rfl, ha, hw, h.here R hd⟩ hs
    · cases hz
  · split at hz
    · rename_i n _
      split at hz
      · rename_i kvs k hk he
        have ey := key_of hy he
        subst ey
        cases hx with
        | @cel a _ hp =>
          cases rx
          obtain ⟨ws, hw, t⟩ := R.cellK hp hk
          rcases t.val k with ⟨h1, h2⟩ | ⟨v', d', h1, h2, h3⟩
          · rw [h2] at hz; cases hz
          · rw [h2] at hz
            cases hz
            have g : DGet H a (kV k) (some v') := by rw [← h1]; exact DGet.k hw
            exact tail_any (dict_typeIs I g) PySem.F.slot_dict_getitem.lookup (d_getItem hu I g ry fun w' s' I' rw' => ⟨v', H, I', rw', h.here R h3⟩) hs
      · cases hz
    · cases hz
/-! ### o[i:j], o[::-1] -/
theorem sIx_eq {K : PySem.W.Frag} {F : Hp} {p : List Addr} {vs : List V} {ds : List D} (t : IsDs K F p vs ds) (lo hi : Option Int) : IsDs K F p (cutV vs lo hi) (cutL ds lo hi) := by
  unfold cutV cutL
  rw [t.length]
  exact (t.drop _).take _
theorem cutL_len {α : Type} (xs : List α) (lo hi : Option Int) : (cutL xs lo hi).length ≤ xs.length := by
  unfold cutL
  rw [List.length_take, List.length_drop]; omega
def rSl (K : PySem.W.Frag) (al : Bool) : V → Option Int → Option Int → Hp → VK → Prop := fun x lo hi H Q => ∃ S F p d, Hld K S F p H ∧ IsD K F p x d ∧ (ofRes al (sliceD S d lo hi) S).holds (OkE K F p H Q) E1
end
end DI
/-! DI: cuts and built-in functions. -/
namespace DI
open PySem PySem.Spec L2
open PyProof.Rows hiding St
section
variable {X : Cx} {al : Bool}
theorem sl_D : SlR X (rSl X.K al) := by
  intro pins s σ H x v vl vu lo hi sl Q I rx hs pl pu h
  obtain ⟨S, F, p, d, R, hx, h⟩ := h
  have lists : ∀ ds, listOf S d = some ds → (ofRes al (some (.new (cutL ds lo hi))) S).holds (OkE X.K F p H Q) E1 → ∃ T id, typeLookup (.type T) "__getitem__" = pure (some (.builtin id)) ∧ s.TypeIs v T ∧ wpAny (model X.prog X.w) X.A (getItem v (.ref sl)) (EP X pins σ Q) X.xe s := fun ds hd h => by
    obtain ⟨a, vs, rfl, ha, l, t⟩ := R.list hx hd
    exact sl_list pins s σ H _ v vl vu lo hi sl Q I rx hs pl pu ⟨a, vs, rfl, ha, fun q hq => settle_new R hq (Nat.le_trans (cutL_len _ _ _) l) (sIx_eq t lo hi) h⟩
  cases d with
  | tup xs =>
    have h : (ofRes al (if HT.sIx xs.length 0 lo = 0 ∧ HT.sIx xs.length xs.length hi = xs.length then some (.d (.tup xs)) else some (.d (.tup (cutL xs lo hi)))) S).holds (OkE X.K F p H Q) E1 := h
    cases hx with
    | @tup a vs _ h1 l1 t1 =>
      refine sl_tupA pins s σ H _ v vl vu lo hi sl Q I rx hs pl pu ⟨a, vs, rfl, same_sqT R.sub h1, fun c => ?_, fun c q hq => ?_⟩
      · rw [t1.length] at c
        rw [if_pos c] at h
        exact OkE.here (d := .tup xs) h R (.tup h1 l1 t1)
      · rw [t1.length] at c
        rw [if_neg c] at h
        exact tup_new R hq (Nat.le_trans (cutL_len _ _ _) l1) (sIx_eq t1 lo hi) h
  | lst xs => exact lists xs rfl h
  | scr ns => exact lists _ rfl h
  | cel n =>
    cases hc : cellL S n with
    | none => simp only [sliceD, listOf, hc] at h; exact False.elim h
    | some xs => simp only [sliceD, listOf, hc] at h; exact lists xs hc h
  | _ => exact False.elim h
def rBl (K : PySem.W.Frag) (al : Bool) (b : Store → List D → Option Res) : List V → Hp → VK → Prop := fun xs H Q =>
  ∃ S F p ds, Hld K S F p H ∧ IsDs K F p xs ds ∧ (ofRes al (b S ds) S).holds (OkE K F p H Q) E1
theorem one1_of {al : Bool} {S : Store} {ds : List D} {f : D → Option Res} {Q : D → Store → Prop} (h : (ofRes al (one1 ds f) S).holds Q E1) : ∃ d, ds = [d] ∧ (ofRes al (f d) S).holds Q E1 := by
  match ds, h with
  | [d], h => exact ⟨d, rfl, h⟩
  | [], h => exact False.elim h
  | _ :: _ :: _, h => exact False.elim h
theorem IsDs.one {K : PySem.W.Frag} {F : Hp} {p : List Addr} {xs : List V} {d : D} (h : IsDs K F p xs [d]) : ∃ x, xs = [x] ∧ IsD K F p x d := by
  cases h with
  | cons h t => cases t; exact ⟨_, rfl, h⟩
theorem ints_of {al : Bool} {S : Store} {d : D} {f : List Int → Option Res} {Q : D → Store → Prop} (h : (ofRes al (withInts S d f) S).holds Q E1) : ∃ ns, listOf S d = some (ns.map .int) ∧ (ofRes al (f ns) S).holds Q E1 := by
  unfold withInts at h
  split at h
  · rename_i xs hx
    split at h
    · rename_i ns hn
      exact ⟨ns, by rw [hx, intsOf_eq hn], h⟩
    · exact False.elim h
  · exact False.elim h
theorem bls_of {al : Bool} {S : Store} {d : D} {f : List Bool → Option Res} {Q : D → Store → Prop} (h : (ofRes al (withBls S d f) S).holds Q E1) : ∃ ns, listOf S d = some (ns.map .bl) ∧ (ofRes al (f ns) S).holds Q E1 := by
  unfold withBls at h
  split at h
  · rename_i xs hx
    split at h
    · rename_i ns hn
      exact ⟨ns, by rw [hx, blsOf_eq hn], h⟩
    · exact False.elim h
  · exact False.elim h
theorem ints_list {K : PySem.W.Frag} {S : Store} {F : Hp} {p : List Addr} {H : Hp} {x : V} {d : D} {ns : List Int} (R : Hld K S F p H) (hx : IsD K F p x d) (h : listOf S d = some (ns.map .int)) : ∃ a, x = .ref a ∧ SqL K H a (ns.map V.int) := by
  obtain ⟨a, vs, rfl, ha, _, t⟩ := R.list hx h
  rw [t.ints] at ha
  exact ⟨a, rfl, ha⟩
theorem call_bAbs : CallR X (.builtin "abs") (rBl X.K al fun _ => bAbs) := by
  intro pins s σ H xs us Q I r h
  obtain ⟨S, F, p, ds, R, hx, h⟩ := h
  have h0 : (ofRes al (bAbs ds) S).holds (OkE X.K F p H Q) E1 := h
  clear h
  unfold bAbs at h0
  split at h0
  · rename_i i
    have hx0 := hx.one; clear hx; obtain ⟨x, rfl, hx⟩ := hx0
    cases hx
    exact call_abs pins s σ H _ us Q I r ⟨i, rfl, OkE.here (d := .int _) h0 R (.int _)⟩
  · exact False.elim h0
theorem call_bInt : CallR X (.type "int") (rBl X.K al fun _ => bInt) := by
  intro pins s σ H xs us Q I r h
  obtain ⟨S, F, p, ds, R, hx, h⟩ := h
  have h0 : (ofRes al (bInt ds) S).holds (OkE X.K F p H Q) E1 := h
  clear h
  unfold bInt at h0
  split at h0
  · rename_i i
    have hx0 := hx.one; clear hx; obtain ⟨x, rfl, hx⟩ := hx0
    cases hx
    exact call_int1 pins s σ H _ us Q I r (.inl ⟨i, rfl, OkE.here (d := .int _) h0 R (.int _)⟩)
  · rename_i i
    have hx0 := hx.one; clear hx; obtain ⟨x, rfl, hx⟩ := hx0
    cases hx
    exact call_int1 pins s σ H _ us Q I r (.inr ⟨i, rfl, OkE.here (d := .int _) h0 R (.int _)⟩)
  · exact False.elim h0
theorem maxI_uniq : ∀ (ns : List Int), 0 < ns.length → maxI ns ∈ ns ∧ ∀ y ∈ ns, y ≤ maxI ns
  | [x], _ => ⟨by simp [maxI], fun y h => by simp at h; subst h; exact Int.le_refl _⟩
  | x :: z :: r, _ => by
    obtain ⟨h1, h2⟩ := maxI_uniq (z :: r) (by simp)
    have e : maxI (x :: z :: r) = if maxI (z :: r) < x then x else maxI (z :: r) := rfl
    rw [e]
    by_cases c : maxI (z :: r) < x
    · rw [if_pos c]
      refine ⟨List.mem_cons_self, fun y hy => ?_⟩
      rcases List.mem_cons.mp hy with rfl | hy
      · exact Int.le_refl _
      · have := h2 y hy; omega
    · rw [if_neg c]
      refine ⟨List.mem_cons_of_mem _ h1, fun y hy => ?_⟩
      rcases List.mem_cons.mp hy with rfl | hy
      · omega
      · exact h2 y hy
theorem minI_uniq : ∀ (ns : List Int), 0 < ns.length → minI ns ∈ ns ∧ ∀ y ∈ ns, minI ns ≤ y
  | [x], _ => ⟨by simp [minI], fun y h => by simp at h; subst h; exact Int.le_refl _⟩
  | x :: z :: r, _ => by
    obtain ⟨h1, h2⟩ := minI_uniq (z :: r) (by simp)
    have e : minI (x :: z :: r) = if x < minI (z :: r) then x else minI (z :: r) := rfl
    rw [e]
    by_cases c : x < minI (z :: r)
    · rw [if_pos c]
      refine ⟨List.mem_cons_self, fun y hy => ?_⟩
      rcases List.mem_cons.mp hy with rfl | hy
      · exact Int.le_refl _
      · have := h2 y hy; omega
    · rw [if_neg c]
      refine ⟨List.mem_cons_of_mem _ h1, fun y hy => ?_⟩
      rcases List.mem_cons.mp hy with rfl | hy
      · omega
      · exact h2 y hy
theorem max_list (hc : X.calm = true) {pins : List (Addr × Obj)} {s : Shared} {σ : St} {H : Hp} {xs : List V} {us : List Value} {Q : VK} {S : Store} {F : Hp} {p : List Addr} {d : D} (I : Inv X pins σ H s) (r : Vals xs us) (R : Hld X.K S F p H) (hx : IsDs X.K F p xs [d])
    (h : (ofRes al (withInts S d fun ns => if ns.length = 0 then none else some (.d (.int (maxI ns)))) S).holds (OkE X.K F p H Q) E1) : wpAny (model X.prog X.w) X.A (call (.builtin "max") us) (EP X pins σ Q) X.xe s := by
  have hx0 := hx.one; clear hx; obtain ⟨x, rfl, hx⟩ := hx0
  obtain ⟨ns, hl, h⟩ := ints_of h
  obtain ⟨a, rfl, ha⟩ := ints_list R hx hl
  by_cases h0 : ns.length = 0
  · rw [if_pos h0] at h; exact False.elim h
  · rw [if_neg h0] at h
    refine cr_max hc pins s σ H _ us Q I r ⟨a, ns, rfl, ha, by omega, fun m hm hle => ?_⟩
    obtain ⟨h1, h2⟩ := maxI_uniq ns (by omega)
    have e : m = maxI ns := by have := hle _ h1; have := h2 _ hm; omega
    subst e
    exact OkE.here (d := .int _) h R (.int _)
theorem min_list (hc : X.calm = true) {pins : List (Addr × Obj)} {s : Shared} {σ : St} {H : Hp} {xs : List V} {us : List Value} {Q : VK} {S : Store} {F : Hp} {p : List Addr} {d : D} (I : Inv X pins σ H s) (r : Vals xs us) (R : Hld X.K S F p H) (hx : IsDs X.K F p xs [d])
    (h : (ofRes al (withInts S d fun ns => if ns.length = 0 then none else some (.d (.int (minI ns)))) S).holds (OkE X.K F p H Q) E1) : wpAny (model X.prog X.w) X.A (call (.builtin "min") us) (EP X pins σ Q) X.xe s := by
  have hx0 := hx.one; clear hx; obtain ⟨x, rfl, hx⟩ := hx0
  obtain ⟨ns, hl, h⟩ := ints_of h
  obtain ⟨a, rfl, ha⟩ := ints_list R hx hl
  by_cases h0 : ns.length = 0
  · rw [if_pos h0] at h; exact False.elim h
  · rw [if_neg h0] at h
    refine cr_min hc pins s σ H _ us Q I r ⟨a, ns, rfl, ha, by omega, fun m hm hle => ?_⟩
    obtain ⟨h1, h2⟩ := minI_uniq ns (by omega)
    have e : m = minI ns := by have := hle _ h1; have := h2 _ hm; omega
    subst e
    exact OkE.here (d := .int _) h R (.int _)
theorem call_bMax (hc : X.calm = true) : CallR X (.builtin "max") (rBl X.K al bMax) := by
  intro pins s σ H xs us Q I r h
  obtain ⟨S, F, p, ds, R, hx, h⟩ := h
  unfold bMax at h
  split at h
  · rename_i i j
    cases hx with
    | cons h1 t =>
      obtain ⟨x, rfl, h2⟩ := t.one
      cases h1; cases h2
      exact call_max2 hc pins s σ H _ us Q I r ⟨i, j, rfl, OkE.here (d := .int _) h R (.int _)⟩
  · exact max_list hc I r R hx h
  · exact False.elim h
theorem call_bMin (hc : X.calm = true) : CallR X (.builtin "min") (rBl X.K al bMin) := by
  intro pins s σ H xs us Q I r h
  obtain ⟨S, F, p, ds, R, hx, h⟩ := h
  unfold bMin at h
  split at h
  · rename_i i j
    cases hx with
    | cons h1 t =>
      obtain ⟨x, rfl, h2⟩ := t.one
      cases h1; cases h2
      exact call_min2 hc pins s σ H _ us Q I r ⟨i, j, rfl, OkE.here (d := .int _) h R (.int _)⟩
  · exact min_list hc I r R hx h
  · exact False.elim h
theorem call_bDivmod : CallR X (.builtin "divmod") (rBl X.K al fun _ => bDivmod) := by
  intro pins s σ H xs us Q I r h
  obtain ⟨S, F, p, ds, R, hx, h⟩ := h
  have h0 : (ofRes al (bDivmod ds) S).holds (OkE X.K F p H Q) E1 := h
  clear h
  unfold bDivmod at h0
  split at h0
  · rename_i i j
    obtain ⟨hl, h⟩ := ofRes_if h0
    simp only [Bool.and_eq_true, decide_eq_true_eq] at hl
    cases hx with
    | cons h1 t =>
      obtain ⟨x, rfl, h2⟩ := t.one
      cases h1; cases h2
      refine call_divmod pins s σ H _ us Q I r ⟨i, j, rfl, hl, fun q hq => tup_new R hq (by show 2 ≤ LINE; decide) (.cons (.int _) (.cons (.int _) .nil)) h⟩
  · exact False.elim h0
theorem call_bSum (hc : X.calm = true) : CallR X (.builtin "sum") (rBl X.K al bSum) := by
  intro pins s σ H xs us Q I r h
  obtain ⟨S, F, p, ds, R, hx, h⟩ := h
  have h0 := one1_of h; clear h; obtain ⟨d, rfl, h⟩ := h0
  have hx0 := hx.one; clear hx; obtain ⟨x, rfl, hx⟩ := hx0
  obtain ⟨ns, hl, h⟩ := ints_of h
  obtain ⟨a, rfl, ha⟩ := ints_list R hx hl
  exact cr_sum hc pins s σ H _ us Q I r ⟨a, ns, rfl, ha, OkE.here (d := .int _) h R (.int _)⟩
theorem call_bAll (hc : X.calm = true) : CallR X (.builtin "all") (rBl X.K al bAll) := by
  intro pins s σ H xs us Q I r h
  obtain ⟨S, F, p, ds, R, hx, h⟩ := h
  have h0 := one1_of h; clear h; obtain ⟨d, rfl, h⟩ := h0
  have hx0 := hx.one; clear hx; obtain ⟨x, rfl, hx⟩ := hx0
  obtain ⟨ns, hl, h⟩ := bls_of h
  obtain ⟨a, vs, rfl, ha, _, t⟩ := R.list hx hl
  rw [t.bls] at ha
  exact cr_all hc pins s σ H _ us Q I r ⟨a, ns, rfl, ha, OkE.here (d := .bl _) h R (.bl _)⟩
theorem call_bAny (hc : X.calm = true) : CallR X (.builtin "any") (rBl X.K al bAny) := by
  intro pins s σ H xs us Q I r h
  obtain ⟨S, F, p, ds, R, hx, h⟩ := h
  have h0 := one1_of h; clear h; obtain ⟨d, rfl, h⟩ := h0
  have hx0 := hx.one; clear hx; obtain ⟨x, rfl, hx⟩ := hx0
  obtain ⟨ns, hl, h⟩ := bls_of h
  obtain ⟨a, vs, rfl, ha, _, t⟩ := R.list hx hl
  rw [t.bls] at ha
  exact cr_any hc pins s σ H _ us Q I r ⟨a, ns, rfl, ha, OkE.here (d := .bl _) h R (.bl _)⟩
theorem IsK.length {K : PySem.W.Frag} {F : Hp} {p : List Addr} : ∀ {ws : List (Key × V)} {kvs : List (Key × D)}, IsK K F p ws kvs → ws.length = kvs.length
  | _, _, .nil => rfl
  | _, _, .cons _ t => by simp [IsK.length t]
theorem call_bLen : CallR X (.builtin "len") (rBl X.K al bLen) := by
  intro pins s σ H xs us Q I r h
  obtain ⟨S, F, p, ds, R, hx, h⟩ := h
  have h0 := one1_of h; clear h; obtain ⟨d, rfl, h⟩ := h0
  have hx0 := hx.one; clear hx; obtain ⟨x, rfl, hx⟩ := hx0
  cases hl : lenD S d with
  | none => rw [hl] at h; exact False.elim h
  | some n =>
    rw [hl] at h
    have q : Q (.int n) H := OkE.here (d := .int _) h R (.int _)
    have seqs : ∀ ds, seqOf S d = some ds → ds.length = n → wpAny (model X.prog X.w) X.A (call (.builtin "len") us) (EP X pins σ Q) X.xe s := fun ds hd e => by
      obtain ⟨a, vs, rfl, ha, l, t⟩ := R.seq hx hd
      exact call_len_seq pins s σ H _ us Q I r ⟨a, vs, rfl, ha, by rw [t.length, e]; exact q⟩
    cases d with
    | str z =>
      cases hx
      have hl : (if z.length ≤ LINE then some z.length else none) = some n := hl
      by_cases hz : z.length ≤ LINE
      · rw [if_pos hz] at hl
        cases hl
        exact call_len_str pins s σ H _ us Q I r ⟨z, rfl, by rw [← LINE_eq]; exact hz, q⟩
      · rw [if_neg hz] at hl; cases hl
    | lst xs => cases hl; exact seqs xs rfl rfl
    | tup xs => cases hl; exact seqs xs rfl rfl
    | scr xs => cases hl; exact seqs _ rfl rfl
    | emp =>
      cases hl
      cases hx with
      | emp h1 =>
        obtain ⟨u, rfl, ru⟩ := vals1 r
        cases ru
        exact d_len I (.inl (R.sub _ _ h1)) fun t s' I' => ⟨.int 0, H, I', ⟨t, rfl⟩, q⟩
    | cel m =>
      have hl : (match cellK S m with | some kvs => some kvs.length | none => (cellL S m).map (·.length)) = some n := hl
      cases hk : cellK S m with
      | some kvs =>
        rw [hk] at hl
        cases hl
        cases hx with
        | @cel a _ hp =>
          obtain ⟨ws, hw, t⟩ := R.cellK hp hk
          have e : ws.length = kvs.length := t.length
          obtain ⟨u, rfl, ru⟩ := vals1 r
          cases ru
          exact d_len I (.inl hw) fun t s' I' => ⟨.int kvs.length, H, I', ⟨t, by rw [e]⟩, q⟩
      | none =>
        rw [hk] at hl
        obtain ⟨xs, h1, h2⟩ := Option.map_eq_some_iff.mp hl
        exact seqs xs h1 h2
    | _ => cases hl
theorem insI_perm (x : Int) : ∀ l : List Int, (insI x l).Perm (x :: l)
  | [] => .refl _
  | y :: r => by
    unfold insI
    split
    · exact .refl _
    · exact ((insI_perm x r).cons y).trans (.swap x y r)
theorem sortI_perm : ∀ l : List Int, (sortI l).Perm l
  | [] => .refl _
  | x :: r => (insI_perm x (sortI r)).trans ((sortI_perm r).cons x)
theorem insI_sorted (x : Int) : ∀ {l : List Int}, l.Pairwise (· ≤ ·) → (insI x l).Pairwise (· ≤ ·)
  | [], _ => by simp [insI]
  | y :: r, h => by
    unfold insI
    obtain ⟨h1, h2⟩ := List.pairwise_cons.mp h
    split
    · rename_i c
      exact List.pairwise_cons.mpr ⟨fun z hz => (List.mem_cons.mp hz).elim (fun e => by subst e; exact c) fun hz => Int.le_trans c (h1 z hz), h⟩
    · rename_i c
      refine List.pairwise_cons.mpr ⟨fun z hz => ?_, insI_sorted x h2⟩
      rcases List.mem_cons.mp ((insI_perm x r).mem_iff.mp hz) with e | hz
      · subst e; omega
      · exact h1 z hz
theorem sortI_sorted : ∀ l : List Int, (sortI l).Pairwise (· ≤ ·)
  | [] => .nil
  | x :: r => insI_sorted x (sortI_sorted r)
theorem sorted_uniq : ∀ {l m : List Int}, l.Perm m → l.Pairwise (· ≤ ·) → m.Pairwise (· ≤ ·) → l = m := fun {l m} h h1 h2 =>
  List.Perm.eq_of_pairwise (fun a b _ _ h1 h2 => Int.le_antisymm h1 h2) h1 h2 h
theorem call_bSorted : CallR X (.builtin "sorted") (rBl X.K al bSorted) := by
  intro pins s σ H xs us Q I r h
  obtain ⟨S, F, p, ds, R, hx, h⟩ := h
  have h0 := one1_of h; clear h; obtain ⟨d, rfl, h⟩ := h0
  have hx0 := hx.one; clear hx; obtain ⟨x, rfl, hx⟩ := hx0
  obtain ⟨ns, hl, h⟩ := ints_of h
  obtain ⟨a, vs, rfl, ha, l, t⟩ := R.list hx hl
  rw [t.ints] at ha
  refine cr_sortedI pins s σ H _ us Q I r ⟨a, ns, rfl, ha, fun ns' q pe so hq => ?_⟩
  have e : ns' = sortI ns := sorted_uniq (pe.trans (sortI_perm ns).symm) so (sortI_sorted ns)
  subst e
  refine settle_new R hq ?_ (isDs_ints _) h
  rw [List.length_map] at l ⊢
  rw [(sortI_perm ns).length_eq]; exact l
theorem call_bList : CallR X (.type "list") (rBl X.K al bList) := by
  intro pins s σ H xs us Q I r h
  obtain ⟨S, F, p, ds, R, hx, h⟩ := h
  have h0 := one1_of h; clear h; obtain ⟨d, rfl, h⟩ := h0
  have hx0 := hx.one; clear hx; obtain ⟨x, rfl, hx⟩ := hx0
  cases hs : seqOf S d with
  | none => rw [hs] at h; exact False.elim h
  | some ds =>
    rw [hs] at h
    obtain ⟨a, vs, rfl, ha, l, t⟩ := R.seq hx hs
    exact call_list_of pins s σ H _ us Q I r ⟨a, vs, rfl, ha, fun q hq => settle_new R hq l t h⟩
theorem call_bTuple : CallR X (.type "tuple") (rBl X.K al bTuple) := by
  intro pins s σ H xs us Q I r h
  obtain ⟨S, F, p, ds, R, hx, h⟩ := h
  have h0 := one1_of h; clear h; obtain ⟨d, rfl, h⟩ := h0
  have hx0 := hx.one; clear hx; obtain ⟨x, rfl, hx⟩ := hx0
  cases hs : seqOf S d with
  | none => rw [hs] at h; exact False.elim h
  | some ds =>
    rw [hs] at h
    have h : OkE X.K F p H Q (.tup ds) S := h
    have lists : ∀ {x}, listOf S d = some ds → IsD X.K F p x d → Vals [x] us → wpAny (model X.prog X.w) X.A (call (.type "tuple") us) (EP X pins σ Q) X.xe s := fun {x} hl hx r => by
      obtain ⟨a, vs, rfl, ha, l, t⟩ := R.list hx hl
      exact call_tuple_of pins s σ H _ us Q I r ⟨a, vs, rfl, .inl ⟨ha, fun q hq => tup_new R hq l t h⟩⟩
    cases d with
    | tup xs =>
      cases hs
      cases hx with
      | @tup a vs _ h1 l1 t1 => exact call_tuple_of pins s σ H _ us Q I r ⟨a, vs, rfl, .inr ⟨same_sqT R.sub h1, h.here R (.tup h1 l1 t1)⟩⟩
    | lst xs => exact lists hs hx r
    | scr xs => exact lists hs hx r
    | cel xs => exact lists hs hx r
    | _ => cases hs
theorem call_bRepr (sm : Sysm X) (hg : X.A.guards = some []) (hu : X.A.units + 70 < cLine) : CallR X (.builtin "repr") (rBl X.K al bRepr) := by
  intro pins s σ H xs us Q I r h
  obtain ⟨S, F, p, ds, R, hx, h⟩ := h
  have h0 := one1_of h; clear h; obtain ⟨d, rfl, h⟩ := h0
  have hx0 := hx.one; clear hx; obtain ⟨x, rfl, hx⟩ := hx0
  cases hs : reprD S d with
  | none => rw [hs] at h; exact False.elim h
  | some t =>
    rw [hs] at h
    have q : Q (.str t) H := OkE.here (d := .str _) h R (.str _)
    unfold reprD at hs
    split at hs
    · rename_i z hz
      split at hs
      · rename_i hc
        cases hs
        simp only [Bool.and_eq_true, decide_eq_true_eq] at hc
        obtain ⟨⟨h1, h2⟩, h3⟩ := hc
        obtain ⟨u, rfl, ru⟩ := vals1 r
        obtain ⟨as, rd, hn⟩ := IsD.reads I sm R d x u z hx ru hz
        rw [LINE_eq] at h2
        cases rd with
        | none => exact PySem.P.repr_of_none ⟨.str _, H, I.tok _, ⟨_, rfl⟩, q⟩
        | bool b => exact PySem.P.repr_of_bool ⟨.str _, H, I.tok _, ⟨_, rfl⟩, q⟩
        | int i t => exact PySem.P.repr_of_int (of_decide_eq_true h1) ⟨.str _, H, I.tok _, ⟨_, rfl⟩, q⟩
        | str y t => exact PySem.P.repr_of_str ⟨.str _, H, I.tok _, ⟨_, rfl⟩, q⟩ h2
        | list a1 a2 a3 a4 => exact repr_of_reads' (.list a1 a2 a3 a4) h1 (fun _ => hn) hg (by omega) (fun _ _ e => e) (fun h' u tk hk => ⟨.str _, H, I.kept hk, ⟨_, rfl⟩, q⟩) h2
        | tuple a1 a2 a3 a4 => exact repr_of_reads' (.tuple a1 a2 a3 a4) h1 (fun _ => hn) hg (by omega) (fun _ _ e => e) (fun h' u tk hk => ⟨.str _, H, I.kept hk, ⟨_, rfl⟩, q⟩) h2
        | dict a1 a2 a3 a4 a5 => exact repr_of_reads' (.dict a1 a2 a3 a4 a5) h1 (fun _ => hn) hg (by omega) (fun _ _ e => e) (fun h' u tk hk => ⟨.str _, H, I.kept hk, ⟨_, rfl⟩, q⟩) h2
      · cases hs
    · cases hs
end
end DI
/-! DI: expressions. -/
namespace DI
open PySem PySem.Spec L2
open PyProof.Rows hiding St
abbrev Post (β : Type) := Hp → List Addr → Hp → β → Store → Prop
def PMono {β : Type} (P : Post β) : Prop := ∀ F p H F1 p1 H1 b S, Nx F p H F1 p1 H1 → P F p H b S → P F1 p1 H1 b S
def OkL (K : PySem.W.Frag) (Q : List V → Hp → Prop) : Post (List D) := fun F p H ds S' => ∀ vs F' p' H', Nx F p H F' p' H' → Hld K S' F' p' H' → IsDs K F' p' vs ds → Q vs H'
def OkB (K : PySem.W.Frag) (Q : Bool → Hp → Prop) : Post Bool := fun F p H b S' => ∀ F' p' H', Nx F p H F' p' H' → Hld K S' F' p' H' → Q b H'
def OkP (K : PySem.W.Frag) (Q : Option Int → Hp → Prop) : Post (Option Int) := fun F p H b S' => ∀ F' p' H', Nx F p H F' p' H' → Hld K S' F' p' H' → Q b H'
def OkG (K : PySem.W.Frag) (Q : St → Hp → Prop) : Post Rho := fun F p H ρ' S' => ∀ σ' F' p' H', Nx F p H F' p' H' → Hld K S' F' p' H' → Slt K F' p' σ' ρ' → Q σ' H'
def OkEE (K : PySem.W.Frag) (Q : VK) : Post D := fun F p H d S' => OkE K F p H Q d S'
theorem OkEE.mono {K : PySem.W.Frag} {Q : VK} : PMono (OkEE K Q) := fun _ _ _ _ _ _ _ _ n h => h.nx n
theorem OkL.mono {K : PySem.W.Frag} {Q : List V → Hp → Prop} : PMono (OkL K Q) := fun _ _ _ _ _ _ _ _ n h vs F' p' H' n' => h vs F' p' H' (n.trans n')
theorem OkB.mono {K : PySem.W.Frag} {Q : Bool → Hp → Prop} : PMono (OkB K Q) := fun _ _ _ _ _ _ _ _ n h F' p' H' n' => h F' p' H' (n.trans n')
theorem OkP.mono {K : PySem.W.Frag} {Q : Option Int → Hp → Prop} : PMono (OkP K Q) := fun _ _ _ _ _ _ _ _ n h F' p' H' n' => h F' p' H' (n.trans n')
theorem OkG.mono {K : PySem.W.Frag} {Q : St → Hp → Prop} : PMono (OkG K Q) := fun _ _ _ _ _ _ _ _ n h σ' F' p' H' n' => h σ' F' p' H' (n.trans n')
/-- what is wanted, from some state that stands for (σ, H) -/
def tR {β : Type} (K : PySem.W.Frag) (W : WX) (f : Rho → Store → O β) (P : Post β) (σ : St) (H : Hp) : Prop :=
  ∃ ρ S F p, Hld K S F p H ∧ Slt K F p σ ρ ∧ (f ρ S).holds (P F p H) (ErP K W F p H)
def tE (K : PySem.W.Frag) (W : WX) (f : EvE) : TE := fun σ H Q => tR K W f (OkEE K Q) σ H
def tL (K : PySem.W.Frag) (W : WX) (f : EvL) : TA := fun σ H Q => tR K W f (OkL K Q) σ H
def tT (K : PySem.W.Frag) (W : WX) (f : EvB) : TT := fun σ H Q => tR K W f (OkB K Q) σ H
def tP (K : PySem.W.Frag) (W : WX) (f : Rho → Store → O (Option Int)) : TO := fun σ H Q => tR K W f (OkP K Q) σ H
def tG (K : PySem.W.Frag) (W : WX) (g : EvG) : TG := fun v σ H Q => ∃ ρ S F p d, Hld K S F p H ∧ Slt K F p σ ρ ∧ IsD K F p v d ∧ (g d ρ S).holds (OkG K Q F p H) (ErP K W F p H)
def tGs (K : PySem.W.Frag) (W : WX) (g : List D → Rho → Store → O Rho) : TGs := fun v σ H Q => ∃ ρ S F p d, Hld K S F p H ∧ Slt K F p σ ρ ∧ IsDs K F p v d ∧ (g d ρ S).holds (OkG K Q F p H) (ErP K W F p H)
section
variable {K : PySem.W.Frag} {W : WX} {β : Type} {P : Post β} {ρ : Rho} {S : Store} {F : Hp} {p : List Addr} {H : Hp} {σ : St}
theorem holds_nx (m : PMono P) {F1 : Hp} {p1 : List Addr} {H1 : Hp} (n : Nx F p H F1 p1 H1) {o : O β} (h : o.holds (P F p H) (ErP K W F p H)) : o.holds (P F1 p1 H1) (ErP K W F1 p1 H1) :=
  O.holds_mono h (fun a S q => m _ _ _ _ _ _ a S n q) fun x ρ S q => q.nx n
theorem seqE (m : PMono P) {f : EvE} {k : D → Store → O β} (R : Hld K S F p H) (L : Slt K F p σ ρ) (h : ((f ρ S).bind k).holds (P F p H) (ErP K W F p H)) {Q : VK}
    (q : ∀ d S1 v F1 p1 H1, Nx F p H F1 p1 H1 → Hld K S1 F1 p1 H1 → Slt K F1 p1 σ ρ → IsD K F1 p1 v d → (k d S1).holds (P F1 p1 H1) (ErP K W F1 p1 H1) → Q v H1) : tE K W f σ H Q :=
  ⟨ρ, S, F, p, R, L, O.holds_mono (O.bind_holds.mp h) (fun d S1 h v F1 p1 H1 n R1 hd => q d S1 v F1 p1 H1 n R1 (L.nx n) hd (holds_nx m n h)) fun _ _ _ h => h⟩
theorem seqL (m : PMono P) {f : EvL} {k : List D → Store → O β} (R : Hld K S F p H) (L : Slt K F p σ ρ) (h : ((f ρ S).bind k).holds (P F p H) (ErP K W F p H)) {Q : List V → Hp → Prop}
    (q : ∀ d S1 v F1 p1 H1, Nx F p H F1 p1 H1 → Hld K S1 F1 p1 H1 → Slt K F1 p1 σ ρ → IsDs K F1 p1 v d → (k d S1).holds (P F1 p1 H1) (ErP K W F1 p1 H1) → Q v H1) : tL K W f σ H Q :=
  ⟨ρ, S, F, p, R, L, O.holds_mono (O.bind_holds.mp h) (fun d S1 h v F1 p1 H1 n R1 hd => q d S1 v F1 p1 H1 n R1 (L.nx n) hd (holds_nx m n h)) fun _ _ _ h => h⟩
theorem seqT (m : PMono P) {f : EvB} {k : Bool → Store → O β} (R : Hld K S F p H) (L : Slt K F p σ ρ) (h : ((f ρ S).bind k).holds (P F p H) (ErP K W F p H)) {Q : Bool → Hp → Prop}
    (q : ∀ d S1 F1 p1 H1, Nx F p H F1 p1 H1 → Hld K S1 F1 p1 H1 → Slt K F1 p1 σ ρ → (k d S1).holds (P F1 p1 H1) (ErP K W F1 p1 H1) → Q d H1) : tT K W f σ H Q :=
  ⟨ρ, S, F, p, R, L, O.holds_mono (O.bind_holds.mp h) (fun d S1 h F1 p1 H1 n R1 => q d S1 F1 p1 H1 n R1 (L.nx n) (holds_nx m n h)) fun _ _ _ h => h⟩
theorem seqP (m : PMono P) {f : Rho → Store → O (Option Int)} {k : Option Int → Store → O β} (R : Hld K S F p H) (L : Slt K F p σ ρ) (h : ((f ρ S).bind k).holds (P F p H) (ErP K W F p H)) {Q : Option Int → Hp → Prop}
    (q : ∀ d S1 F1 p1 H1, Nx F p H F1 p1 H1 → Hld K S1 F1 p1 H1 → Slt K F1 p1 σ ρ → (k d S1).holds (P F1 p1 H1) (ErP K W F1 p1 H1) → Q d H1) : tP K W f σ H Q :=
  ⟨ρ, S, F, p, R, L, O.holds_mono (O.bind_holds.mp h) (fun d S1 h F1 p1 H1 n R1 => q d S1 F1 p1 H1 n R1 (L.nx n) (holds_nx m n h)) fun _ _ _ h => h⟩
theorem seqG (m : PMono P) {g : EvG} {v : V} {d : D} {k : Rho → Store → O β} (R : Hld K S F p H) (L : Slt K F p σ ρ) (hd : IsD K F p v d) (h : ((g d ρ S).bind k).holds (P F p H) (ErP K W F p H)) {Q : St → Hp → Prop}
    (q : ∀ ρ1 S1 σ1 F1 p1 H1, Nx F p H F1 p1 H1 → Hld K S1 F1 p1 H1 → Slt K F1 p1 σ1 ρ1 → (k ρ1 S1).holds (P F1 p1 H1) (ErP K W F1 p1 H1) → Q σ1 H1) : tG K W g v σ H Q :=
  ⟨ρ, S, F, p, d, R, L, hd, O.holds_mono (O.bind_holds.mp h) (fun d S1 h σ1 F1 p1 H1 n R1 L1 => q d S1 σ1 F1 p1 H1 n R1 L1 (holds_nx m n h)) fun _ _ _ h => h⟩
theorem holds_E1 {α : Type} {o : O α} {Q : α → Store → Prop} {E : Ex → Rho → Store → Prop} (h : o.holds Q E) (ne : ∀ x ρ S, o ≠ .er x ρ S) : o.holds Q E1 := by
  cases o with
  | ok a S => exact h
  | er x ρ S => exact absurd rfl (ne x ρ S)
  | no => exact h
theorem ofRes_ne {al : Bool} {r : Option Res} {S : Store} : ∀ x ρ S', ofRes al r S ≠ .er x ρ S' := by
  intro x ρ S' h
  cases r with
  | none => cases h
  | some r =>
    cases r with
    | d _ => cases h
    | new _ => cases al <;> cases h
theorem ofB_ne {r : Option Bool} {S : Store} : ∀ x ρ S', ofB r S ≠ .er x ρ S' := by
  intro x ρ S' h
  cases r <;> cases h
theorem settle_ne {al : Bool} {r : Res} {S : Store} : ∀ x ρ S', settle al r S ≠ .er x ρ S' := by
  intro x ρ S' h
  cases r with
  | d _ => cases h
  | new _ => cases al <;> cases h
end
theorem PE.imp {X : Cx} {e : Expr} {t t' : TE} (h : PE X e t) (i : ∀ σ H Q, t' σ H Q → t σ H Q) : PE X e t' := ⟨fun pins s σ H Q I q => h.run pins s σ H Q I (i σ H Q q)⟩
theorem PA.imp {X : Cx} {e : List Expr} {t t' : TA} (h : PA X e t) (i : ∀ σ H Q, t' σ H Q → t σ H Q) : PA X e t' := ⟨fun pos pins s σ H Q I q => h.run pos pins s σ H Q I (i σ H Q q)⟩
theorem PK.imp {X : Cx} {e : List Keyword} {t t' : TA} (h : PK X e t) (i : ∀ σ H Q, t' σ H Q → t σ H Q) : PK X e t' := ⟨fun pos pins s σ H Q I q => h.run pos pins s σ H Q I (i σ H Q q)⟩
theorem PT.imp {X : Cx} {e : Expr} {t t' : TT} (h : PT X e t) (i : ∀ σ H Q, t' σ H Q → t σ H Q) : PT X e t' := ⟨fun pins s σ H Q I q => h.run pins s σ H Q I (i σ H Q q)⟩
theorem PW.imp {X : Cx} {e : Expr} {t t' : TT} (h : PW X e t) (i : ∀ σ H Q, t' σ H Q → t σ H Q) : PW X e t' := ⟨fun wh pins s σ H Q I q => h.run wh pins s σ H Q I (i σ H Q q)⟩
theorem PO.imp {X : Cx} {e : Option Expr} {t t' : TO} (h : PO X e t) (i : ∀ σ H Q, t' σ H Q → t σ H Q) : PO X e t' := ⟨fun pins s σ H Q I q => h.run pins s σ H Q I (i σ H Q q)⟩
theorem PG.imp {X : Cx} {e : Expr} {t t' : TG} (h : PG X e t) (i : ∀ v σ H Q, t' v σ H Q → t v σ H Q) : PG X e t' := ⟨fun pins s σ H v u Q I r q => h.run pins s σ H v u Q I r (i v σ H Q q)⟩
theorem PGs.imp {X : Cx} {e : List Expr} {t t' : TGs} (h : PGs X e t) (i : ∀ v σ H Q, t' v σ H Q → t v σ H Q) : PGs X e t' := ⟨fun pins s σ H v u Q I r q => h.run pins s σ H v u Q I r (i v σ H Q q)⟩
section
variable {X : Cx} {W : WX} {a b c : Expr} {f g h : EvE} {pos : Pos} {al : Bool}
/-! ### names and constants -/
theorem s_c {e : Expr} {v : V} {d : D} (h : PE X e (tC v)) (hd : ∀ F p, IsD X.K F p v d) : PE X e (tE X.K W (eC d)) :=
  PE.imp h fun σ H Q ⟨ρ, S, F, p, R, L, q⟩ => OkE.here (d := d) q R (hd F p)
theorem s_no {e : Expr} {α : Type} : PE X e (tE X.K W eNo) := ⟨fun _ _ _ _ _ _ ⟨_, _, _, _, _, _, q⟩ => False.elim q⟩
theorem s_var {i : Nat} {x : Str} (hN : X.N[i]? = some x) (hv : Vis X.env.scope x) (hd : (x == ("__debug__" : Str)) = false) (hcd : (x == ("__classdict__" : Str)) = false) : PE X (.Name x pos) (tE X.K W (eVar i)) :=
  PE.imp (pe_var hN hv hd hcd) fun σ H Q ⟨ρ, S, F, p, R, L, q⟩ => by
    unfold eVar at q
    split at q
    · rename_i d hd
      obtain ⟨v, h1, h2⟩ := L.at_ i d hd
      exact ⟨v, h1, OkE.here (d := d) q R h2⟩
    · exact False.elim q
/-! ### lists of expressions -/
theorem s_nil : PA X [] (tL X.K W eNil) := PA.imp pa_nil fun σ H Q ⟨ρ, S, F, p, R, L, q⟩ => q [] F p H Nx.refl R .nil
theorem cons_imp {te : TE} {tr : TA} {g : EvL} (he : ∀ σ H Q, tE X.K W f σ H Q → te σ H Q) (hr : ∀ σ H Q, tL X.K W g σ H Q → tr σ H Q) (mono : ∀ σ H Q Q', (∀ v H, Q v H → Q' v H) → te σ H Q → te σ H Q') : True := trivial
theorem s_cons {es : List Expr} {g : EvL} (ha : PE X a (tE X.K W f)) (hr : PA X es (tL X.K W g)) (hs : starEach (a :: es) X.env = (false, eval a X.env) :: starEach es X.env) : PA X (a :: es) (tL X.K W (eCons f g)) :=
  PA.imp (pa_cons ha hr hs) fun σ H Q ⟨ρ, S, F, p, R, L, q⟩ => seqE OkL.mono R L q fun d S1 v F1 p1 H1 n R1 L1 hd q =>
    seqL OkL.mono R1 L1 q fun ds S2 vs F2 p2 H2 n2 R2 L2 hds q => q (v :: vs) F2 p2 H2 Nx.refl R2 (.cons (hd.nx n2) hds)
theorem s_knil : PK X [] (tL X.K W eNil) := PK.imp pk_nil fun σ H Q ⟨ρ, S, F, p, R, L, q⟩ => q [] F p H Nx.refl R .nil
theorem s_kcons {nm : Option Str} {kpos : Pos} {kws : List Keyword} {g : EvL} (ha : PE X a (tE X.K W f)) (hr : PK X kws (tL X.K W g)) : PK X (⟨nm, a, kpos⟩ :: kws) (tL X.K W (eCons f g)) :=
  PK.imp (pk_cons ha hr) fun σ H Q ⟨ρ, S, F, p, R, L, q⟩ => seqE OkL.mono R L q fun d S1 v F1 p1 H1 n R1 L1 hd q =>
    seqL OkL.mono R1 L1 q fun ds S2 vs F2 p2 H2 n2 R2 L2 hds q => q (v :: vs) F2 p2 H2 Nx.refl R2 (.cons (hd.nx n2) hds)
theorem s_lst {es : List Expr} {g : EvL} (ha : PA X es (tL X.K W g)) : PE X (.List es pos) (tE X.K W (eLst al g)) :=
  PE.imp (pe_lst ha) fun σ H Q ⟨ρ, S, F, p, R, L, q⟩ => seqL OkEE.mono R L q fun ds S1 vs F1 p1 H1 n R1 L1 hd q => by
    by_cases hl : ds.length ≤ LINE
    · rw [if_pos hl] at q
      exact ⟨by rw [hd.length, ← LINE_eq]; exact hl, fun a ha => settle_new R1 ha hl hd q⟩
    · rw [if_neg hl] at q
      exact False.elim q
theorem s_tup {es : List Expr} {k : Nat} {g : EvL} (ha : PA X es (tL X.K W g)) : PE X (.Tuple es k pos) (tE X.K W (eTup g)) :=
  PE.imp (pe_tup ha) fun σ H Q ⟨ρ, S, F, p, R, L, q⟩ => seqL OkEE.mono R L q fun ds S1 vs F1 p1 H1 n R1 L1 hd q => by
    by_cases hl : ds.length ≤ LINE
    · rw [if_pos hl] at q
      exact ⟨by rw [hd.length, ← LINE_eq]; exact hl, fun a ha => tup_new R1 ha hl hd q⟩
    · rw [if_neg hl] at q
      exact False.elim q
theorem s_emp : PE X (.Dict [] [] pos) (tE X.K W (eC .emp)) := PE.imp pe_dnewK fun σ H Q ⟨ρ, S, F, p, R, L, q⟩ a ha => by
  obtain ⟨R', n⟩ := R.val (o := .dK []) ha
  exact (show OkE X.K F p H Q .emp S from q) _ _ _ _ n R' (.emp upd_same)
def eDct : EvE := fun _ S => .ok (.cel S.length) (S ++ [some (.dct [])])
theorem s_dct : PE X (.Dict [] [] pos) (tE X.K W eDct) := PE.imp pe_dnewK fun σ H Q ⟨ρ, S, F, p, R, L, q⟩ a ha => by
  obtain ⟨R', n⟩ := R.new (o := .dK []) (c := .dct []) ha fun H' e => ⟨[], e, .nil⟩
  refine (show OkE X.K F p H Q (.cel S.length) (S ++ [some (.dct [])]) from q) _ _ _ _ n R' (.cel ?_)
  rw [← R.len, List.getElem?_append_right (Nat.le_refl _)]
  simp
/-! ### operators -/
theorem s_bin {op : Operator} (ha : PE X a (tE X.K W f)) (hb : PE X b (tE X.K W g)) : PE X (.BinOp a op b pos) (tE X.K W (eBin al op f g)) :=
  PE.imp (pe_op (op_binD (al := al)) ha hb) fun σ H Q ⟨ρ, S, F, p, R, L, q⟩ => seqE OkEE.mono R L q fun d S1 v F1 p1 H1 n R1 L1 hd q =>
    seqE OkEE.mono R1 L1 q fun e S2 u F2 p2 H2 n2 R2 L2 he q => ⟨S2, F2, p2, d, e, R2, hd.nx n2, he, holds_E1 q ofRes_ne⟩
theorem s_neg (ha : PE X a (tE X.K W f)) : PE X (.UnaryOp .USub a pos) (tE X.K W (eNeg f)) :=
  PE.imp (pe_un un_neg ha) fun σ H Q ⟨ρ, S, F, p, R, L, q⟩ => seqE OkEE.mono R L q fun d S1 v F1 p1 H1 n R1 L1 hd q => by
    cases d with
    | int i => cases hd; exact ⟨i, rfl, OkE.here (d := .int (-i)) q R1 (.int _)⟩
    | _ => exact False.elim q
theorem s_cmp (sm : Sysm X) (hu : X.A.units + 70 < cLine) {op : CmpOp} (ha : PE X a (tE X.K W f)) (hb : PE X b (tE X.K W g)) (hm : behindInMarks op b = false) : PE X (.Compare a [op] [b] pos) (tE X.K W (eCmp op f g)) :=
  PE.imp (pe_cmpR (op_cmpD sm hu) ha hb hm) fun σ H Q ⟨ρ, S, F, p, R, L, q⟩ => seqE OkEE.mono R L q fun d S1 v F1 p1 H1 n R1 L1 hd q =>
    seqE OkEE.mono R1 L1 q fun e S2 u F2 p2 H2 n2 R2 L2 he q => ⟨S2, F2, p2, d, e, R2, hd.nx n2, he, holds_E1 q ofB_ne⟩
theorem s_and (ha : PE X a (tE X.K W f)) {rest : List Expr} (hb : PE X (.BoolOp .And (b :: rest) pos) (tE X.K W g)) : PE X (.BoolOp .And (a :: b :: rest) pos) (tE X.K W (eAnd f g)) :=
  PE.imp (pe_and ha hb) fun σ H Q ⟨ρ, S, F, p, R, L, q⟩ => seqE OkEE.mono R L q fun d S1 v F1 p1 H1 n R1 L1 hd q => by
    cases d with
    | bl c =>
      cases hd
      refine ⟨c, rfl, ?_⟩
      cases c with
      | true => exact ⟨ρ, S1, F1, p1, R1, L1, q⟩
      | false => exact OkE.here (d := .bl false) q R1 (.bl _)
    | _ => exact False.elim q
theorem s_or (ha : PE X a (tE X.K W f)) {rest : List Expr} (hb : PE X (.BoolOp .Or (b :: rest) pos) (tE X.K W g)) : PE X (.BoolOp .Or (a :: b :: rest) pos) (tE X.K W (eOr f g)) :=
  PE.imp (pe_or ha hb) fun σ H Q ⟨ρ, S, F, p, R, L, q⟩ => seqE OkEE.mono R L q fun d S1 v F1 p1 H1 n R1 L1 hd q => by
    cases d with
    | bl c =>
      cases hd
      refine ⟨c, rfl, ?_⟩
      cases c with
      | false => exact ⟨ρ, S1, F1, p1, R1, L1, q⟩
      | true => exact OkE.here (d := .bl true) q R1 (.bl _)
    | _ => exact False.elim q
theorem s_not (ha : PE X a (tE X.K W f)) : PE X (.UnaryOp .Not a pos) (tE X.K W (eNot f)) :=
  PE.imp (pe_not ha) fun σ H Q ⟨ρ, S, F, p, R, L, q⟩ => seqE OkEE.mono R L q fun d S1 v F1 p1 H1 n R1 L1 hd q => by
    cases d with
    | bl c => cases hd; exact ⟨c, rfl, OkE.here (d := .bl (!c)) q R1 (.bl _)⟩
    | _ => exact False.elim q
theorem s_if {t : EvB} (hc : PT X c (tT X.K W t)) (ha : PE X a (tE X.K W f)) (hb : PE X b (tE X.K W g)) : PE X (.IfExp c a b pos) (tE X.K W (eIf t f g)) :=
  PE.imp (pe_ifExp hc ha hb) fun σ H Q ⟨ρ, S, F, p, R, L, q⟩ => seqT OkEE.mono R L q fun d S1 F1 p1 H1 n R1 L1 q => by
    cases d with
    | true => exact ⟨ρ, S1, F1, p1, R1, L1, q⟩
    | false => exact ⟨ρ, S1, F1, p1, R1, L1, q⟩
theorem chain_imp {op op' : CmpOp} (σ : St) (H : Hp) (Q : VK) (z : tE X.K W (eChain op op' f g h) σ H Q) : tChain (rBo X.K fun S => cmpD S op) (rBo X.K fun S => cmpD S op') (tE X.K W f) (tE X.K W g) (tE X.K W h) σ H Q := by
  obtain ⟨ρ, S, F, p, R, L, q⟩ := z
  exact seqE OkEE.mono R L q fun d S1 v F1 p1 H1 n R1 L1 hd q =>
    seqE OkEE.mono R1 L1 q fun e S2 u F2 p2 H2 n2 R2 L2 he q => by
      refine ⟨S2, F2, p2, d, e, R2, hd.nx n2, he, ?_⟩
      cases hb : cmpD S2 op d e with
      | none => simp only [hb] at q; exact False.elim q
      | some k =>
        simp only [hb] at q
        rw [show ((fun S => cmpD S op) S2 d e) = some k from hb]
        intro z F3 p3 H3 n3 R3 hz
        cases hz
        refine ⟨k, rfl, ?_⟩
        cases k with
        | true =>
          refine iteT ?_
          refine seqE OkEE.mono R3 (L2.nx n3) (holds_nx OkEE.mono n3 q) fun w S4 y F4 p4 H4 n4 R4 L4 hw q => ?_
          exact ⟨S4, F4, p4, e, w, R4, (he.nx n3).nx n4, hw, holds_E1 q ofB_ne⟩
        | false =>
          refine iteF ?_
          exact OkE.here (d := .bl false) (holds_nx (W := W) OkEE.mono n3 (o := O.ok (D.bl false) S2) q) R3 (.bl _)
theorem s_chain (sm : Sysm X) (hu : X.A.units + 70 < cLine) {op op' : CmpOp} (ha : PE X a (tE X.K W f)) (hb : PE X b (tE X.K W g)) (hc : PE X c (tE X.K W h)) (h2 : behindInMarks op' c = false) : PE X (.Compare a [op, op'] [b, c] pos) (tE X.K W (eChain op op' f g h)) :=
  PE.imp (pe_chain (op_cmpD sm hu) (op_cmpD sm hu) ha hb hc h2) chain_imp
/-! ### tests -/
theorem tval_imp {te : TE} (i : ∀ σ H Q, tE X.K W f σ H Q → te σ H Q) (σ : St) (H : Hp) (Q : Bool → Hp → Prop) (z : tT X.K W (tVal f) σ H Q) : te σ H fun x H' => ∃ k, x = .bl k ∧ Q k H' := by
  obtain ⟨ρ, S, F, p, R, L, q⟩ := z
  refine i _ _ _ (seqE OkB.mono R L q fun d S1 v F1 p1 H1 n R1 L1 hd q => ?_)
  cases d with
  | bl c => cases hd; exact ⟨c, rfl, q F1 p1 H1 Nx.refl R1⟩
  | _ => exact False.elim q
theorem s_tval {e : Expr} (h : PE X e (tE X.K W f)) (he : ∀ whole, isTrue e X.env whole = (do let v ← whole; standAt e.pos; holding [v] (truthy v))) : PT X e (tT X.K W (tVal f)) :=
  PT.imp (pt_val h he) fun σ H Q z => tval_imp (fun _ _ _ z => z) σ H Q z
theorem s_tcmp (sm : Sysm X) (hu : X.A.units + 70 < cLine) {op : CmpOp} (ha : PE X a (tE X.K W f)) (hb : PE X b (tE X.K W g)) (hm : behindInMarks op b = false) : PT X (.Compare a [op] [b] pos) (tT X.K W (tVal (eCmp op f g))) :=
  PT.imp (pt_cmpR (op_cmpD sm hu) ha hb hm) fun σ H Q z => tval_imp (fun σ H Q ⟨ρ, S, F, p, R, L, q⟩ => seqE OkEE.mono R L q fun d S1 v F1 p1 H1 n R1 L1 hd q =>
    seqE OkEE.mono R1 L1 q fun e S2 u F2 p2 H2 n2 R2 L2 he q => ⟨S2, F2, p2, d, e, R2, hd.nx n2, he, holds_E1 q ofB_ne⟩) σ H Q z
theorem s_tchain (sm : Sysm X) (hu : X.A.units + 70 < cLine) {op op' : CmpOp} (ha : PE X a (tE X.K W f)) (hb : PE X b (tE X.K W g)) (hc : PE X c (tE X.K W h)) (h2 : behindInMarks op' c = false) : PT X (.Compare a [op, op'] [b, c] pos) (tT X.K W (tVal (eChain op op' f g h))) :=
  PT.imp (pt_chain (op_cmpD sm hu) (op_cmpD sm hu) ha hb hc h2) fun σ H Q z => tval_imp chain_imp σ H Q z
variable {t u : EvB} {rest : List Expr}
theorem s_and1 (ha : PT X a (tT X.K W t)) : PW X (.BoolOp .And [a] pos) (tT X.K W t) := pw_and1 ha
theorem s_or1 (ha : PT X a (tT X.K W t)) : PW X (.BoolOp .Or [a] pos) (tT X.K W t) := pw_or1 ha
theorem s_tand (ha : PT X a (tT X.K W t)) (hb : PW X (.BoolOp .And (b :: rest) pos) (tT X.K W u)) : PW X (.BoolOp .And (a :: b :: rest) pos) (tT X.K W (tAndE t u)) :=
  PW.imp (pw_and ha hb) fun σ H Q ⟨ρ, S, F, p, R, L, q⟩ => seqT OkB.mono R L q fun d S1 F1 p1 H1 n R1 L1 q => by
    cases d with
    | true => exact iteT ⟨ρ, S1, F1, p1, R1, L1, q⟩
    | false => exact iteF (q F1 p1 H1 Nx.refl R1)
theorem s_tor (ha : PT X a (tT X.K W t)) (hb : PW X (.BoolOp .Or (b :: rest) pos) (tT X.K W u)) : PW X (.BoolOp .Or (a :: b :: rest) pos) (tT X.K W (tOrE t u)) :=
  PW.imp (pw_or ha hb) fun σ H Q ⟨ρ, S, F, p, R, L, q⟩ => seqT OkB.mono R L q fun d S1 F1 p1 H1 n R1 L1 q => by
    cases d with
    | false => exact iteF ⟨ρ, S1, F1, p1, R1, L1, q⟩
    | true => exact iteT (q F1 p1 H1 Nx.refl R1)
theorem s_tnot (ha : PT X a (tT X.K W t)) : PT X (.UnaryOp .Not a pos) (tT X.K W (tNotE t)) :=
  PT.imp (pt_not ha) fun σ H Q ⟨ρ, S, F, p, R, L, q⟩ => seqT OkB.mono R L q fun d S1 F1 p1 H1 n R1 L1 q => q F1 p1 H1 Nx.refl R1
/-! ### places, cuts -/
theorem s_get (hu : X.A.units + 1 < cLine) (ha : PE X a (tE X.K W f)) (hb : PE X b (tE X.K W g)) (hs : PlainIx b) : PE X (.Subscript a b pos) (tE X.K W (eGet f g)) :=
  PE.imp (pe_ix (ix_getD hu) ha hb hs) fun σ H Q ⟨ρ, S, F, p, R, L, q⟩ => seqE OkEE.mono R L q fun d S1 v F1 p1 H1 n R1 L1 hd q =>
    seqE OkEE.mono R1 L1 q fun e S2 u F2 p2 H2 n2 R2 L2 he q => by
      cases hg : getD S2 d e with
      | none => simp only [hg] at q; exact False.elim q
      | some z => simp only [hg] at q; exact ⟨S2, F2, p2, d, e, z, R2, hd.nx n2, he, hg, q⟩
theorem s_pnone : PO X none (tP X.K W pNone) := PO.imp po_none fun σ H Q ⟨ρ, S, F, p, R, L, q⟩ => q F p H Nx.refl R
theorem s_psome (ha : PE X a (tE X.K W f)) : PO X (some a) (tP X.K W (pSome f)) :=
  PO.imp (po_some ha) fun σ H Q ⟨ρ, S, F, p, R, L, q⟩ => seqE OkP.mono R L q fun d S1 v F1 p1 H1 n R1 L1 hd q => by
    cases d with
    | int i => cases hd; exact ⟨i, rfl, q F1 p1 H1 Nx.refl R1⟩
    | _ => exact False.elim q
theorem s_slice {lo hi : Option Expr} {l k : Rho → Store → O (Option Int)} {p2 : Pos} (ha : PE X a (tE X.K W f)) (hl : PO X lo (tP X.K W l)) (hh : PO X hi (tP X.K W k)) : PE X (.Subscript a (.Slice lo hi none p2) pos) (tE X.K W (eSlice al f l k)) :=
  PE.imp (pe_slice (sl_D (al := al)) ha hl hh) fun σ H Q ⟨ρ, S, F, p, R, L, q⟩ => seqE OkEE.mono R L q fun d S1 v F1 p1 H1 n R1 L1 hd q =>
    seqP OkEE.mono R1 L1 q fun lo S2 F2 p2 H2 n2 R2 L2 q => seqP OkEE.mono R2 L2 q fun hi S3 F3 p3 H3 n3 R3 L3 q => ⟨S3, F3, p3, d, R3, (hd.nx n2).nx n3, holds_E1 q ofRes_ne⟩
/-! ### calls -/
theorem s_blt {id : String} {bf : Store → List D → Option Res} {x : Str} {p0 : Pos} {es : List Expr} {gl : EvL} (hc : CallR X (.builtin id) (rBl X.K al bf)) (hg : Gl X x) (hm : X.mg x = none) (hv : bootBuiltins x = some (.builtin id)) (ha : PA X (a :: es) (tL X.K W gl))
    (hn : x ≠ "__name__") (hdb : (x == ("__debug__" : Str)) = false) (he : starEach (a :: es) X.env = (false, eval a X.env) :: starEach es X.env) (hpl : (backTo pos (starEach es X.env)).any (·.1) = false) : PE X (.Call (.Name x p0) (a :: es) [] pos) (tE X.K W (eBlt al bf gl)) :=
  PE.imp (pe_callB hc hg hm hv ha hn hdb he hpl) fun σ H Q ⟨ρ, S, F, p, R, L, q⟩ => seqL OkEE.mono R L q fun ds S1 vs F1 p1 H1 n R1 L1 hd q => ⟨S1, F1, p1, ds, R1, hd, holds_E1 q ofRes_ne⟩
theorem s_bty {T : String} {bf : Store → List D → Option Res} {x : Str} {p0 : Pos} {es : List Expr} {gl : EvL} (hc : CallR X (.type T) (rBl X.K al bf)) (hg : Gl X x) (hm : X.mg x = none) (hv : bootBuiltins x = some (.type T)) (ha : PA X (a :: es) (tL X.K W gl))
    (hn : x ≠ "__name__") (hdb : (x == ("__debug__" : Str)) = false) (he : starEach (a :: es) X.env = (false, eval a X.env) :: starEach es X.env) (hpl : (backTo pos (starEach es X.env)).any (·.1) = false) : PE X (.Call (.Name x p0) (a :: es) [] pos) (tE X.K W (eBlt al bf gl)) :=
  PE.imp (pe_callTy hc hg hm hv ha hn hdb he hpl) fun σ H Q ⟨ρ, S, F, p, R, L, q⟩ => seqL OkEE.mono R L q fun ds S1 vs F1 p1 H1 n R1 L1 hd q => ⟨S1, F1, p1, ds, R1, hd, holds_E1 q ofRes_ne⟩
end
end DI
/-! DI: isinstance, walks. -/
namespace DI
open PySem PySem.Spec L2
open PyProof.Rows hiding St
/-! ### isinstance -/
def okTys : List String := ["int", "bool", "str", "tuple", "list", "dict"]
theorem kit_sub {K : PySem.W.Frag} {d : D} {S : Store} {a b : String} (ha : tyOf S d = some a) (hb : b ∈ okTys) : PySem.W.kitOne K (.type a) (.type b) = some (isSub a b) := by
  have h : a ∈ ["NoneType", "bool", "int", "str", "list", "tuple", "dict"] := by
    cases d with
    | cel n =>
      have ha : (match S[n]? with | some (some (.lst _)) => some "list" | some (some (.dct _)) => some "dict" | _ => none) = some a := ha
      split at ha <;> cases ha <;> simp
    | _ => cases ha; simp
  simp only [List.mem_cons, List.not_mem_nil, or_false] at h
  simp only [okTys, List.mem_cons, List.not_mem_nil, or_false] at hb
  rcases h with rfl | rfl | rfl | rfl | rfl | rfl | rfl <;> rcases hb with rfl | rfl | rfl | rfl | rfl | rfl <;> exact kit_ty (by decide +kernel)
theorem kit_any {K : PySem.W.Frag} {d : D} {S : Store} {a : String} (ha : tyOf S d = some a) : ∀ {bs : List String}, (∀ b ∈ bs, b ∈ okTys) → PySem.W.kitAny K (.type a) (bs.map .type) = some (bs.any (isSub a))
  | [], _ => rfl
  | b :: r, h => by
    rw [List.map_cons, List.any_cons]
    refine kitAny_cons (kit_sub ha (h b List.mem_cons_self)) (fun e => ?_) (fun e => by rw [e]; rfl)
    rw [e, Bool.false_or]
    exact kit_any ha fun c hc => h c (List.mem_cons_of_mem _ hc)
theorem tyX_of {K : PySem.W.Frag} {S : Store} {F : Hp} {p : List Addr} {H : Hp} {x : V} {d : D} {a : String} (R : Hld K S F p H) (h : IsD K F p x d) (ha : tyOf S d = some a) : TyX K H x (.type a) := by
  cases h with
  | non => cases ha; exact .base .non
  | bl b => cases ha; exact .base (.bl b)
  | int b => cases ha; exact .base (.int b)
  | str b => cases ha; exact .base (.str b)
  | lst h _ _ => cases ha; exact .base (.lst (R.sub _ _ h))
  | tup h _ _ =>
    cases ha
    rcases h with (h | ⟨o, h⟩) | ⟨o, its, n, h, hc, _⟩
    · exact .base (.tup (R.sub _ _ h))
    · exact .fTuple (R.sub _ _ h)
    · exact .kTuple h hc
  | scr h _ =>
    cases ha
    rcases h with (h | ⟨o, h⟩) | ⟨o, its, n, h, hc, _⟩
    · exact .base (.lst (R.sub _ _ h))
    · exact .base (.frz (R.sub _ _ h))
    · exact .kList h hc
  | emp h => cases ha; exact .base (.dK (R.sub _ _ h))
  | @cel a0 n hp =>
    have ha : (match S[n]? with | some (some (.lst _)) => some "list" | some (some (.dct _)) => some "dict" | _ => none) = some a := ha
    split at ha
    · rename_i xs hs
      cases ha
      obtain ⟨_, vs, h1, _⟩ := R.cell n a0 _ hp hs
      exact .base (.lst h1)
    · rename_i xs hs
      cases ha
      obtain ⟨_, vs, h1, _⟩ := R.cell n a0 _ hp hs
      exact .base (.dK h1)
    · cases ha
section
variable {X : Cx} {W : WX} {a b c : Expr} {f g h : EvE} {pos : Pos} {al : Bool}
theorem s_isi {T : String} {x : Str} {p0 px : Pos} (hT : T ∈ okTys) (ha : PE X a (tE X.K W f)) (hg : Gl X "isinstance") (hm : X.mg "isinstance" = none) (hgx : Gl X x) (hmx : X.mg x = none) (hv : bootBuiltins x = some (.type T)) (hn : x ≠ "__name__") (hdb : (x == ("__debug__" : Str)) = false)
    (he : starEach [a, .Name x px] X.env = (false, eval a X.env) :: starEach [.Name x px] X.env) : PE X (.Call (.Name "isinstance" p0) [a, .Name x px] [] pos) (tE X.K W (eIsi f [T])) :=
  PE.imp (pe_callB call_isi hg hm (by decide +kernel) (pa_cons ha (pa_cons (pe_bltn (v := .ty T) hgx hmx hv rfl hn hdb) pa_nil rfl) he) (by decide) (by decide) he rfl) fun σ H Q ⟨ρ, S, F, p, R, L, q⟩ => seqE OkEE.mono R L q fun d S1 v F1 p1 H1 n R1 L1 hd q => by
    obtain ⟨b, hb, q⟩ := ofB_some q
    obtain ⟨t, ht, rfl⟩ := Option.map_eq_some_iff.mp (show (tyOf S1 d).map _ = some b from hb)
    refine ⟨v, .ty T, .type t, .type T, isSub t T, rfl, .ty T, tyX_of R1 hd ht, kit_sub ht hT, ?_⟩
    have e : ([T].any fun b => isSub t b) = isSub t T := by simp
    rw [e] at q
    exact OkE.here (d := .bl _) q R1 (.bl _)
/-- the names of built-in types, as a display -/
inductive TyNames (X : Cx) : List Expr → List String → Prop where
  | nil : TyNames X [] []
  | cons {x : Str} {T : String} {px : Pos} {es : List Expr} {Ts : List String} (hT : T ∈ okTys) (hgx : Gl X x) (hmx : X.mg x = none) (hv : bootBuiltins x = some (.type T)) (hn : x ≠ "__name__") (hdb : (x == ("__debug__" : Str)) = false) (r : TyNames X es Ts) : TyNames X (.Name x px :: es) (T :: Ts)
def tTys (Ts : List String) : TA := fun _ H Q => Q (Ts.map V.ty) H
theorem TyNames.pa {X : Cx} : ∀ {es : List Expr} {Ts : List String}, TyNames X es Ts → PA X es (tTys Ts)
  | _, _, .nil => PA.imp pa_nil fun σ H Q q => q
  | _, _, .cons (T := T) hT hgx hmx hv hn hdb r => PA.imp (pa_cons (pe_bltn (v := .ty T) hgx hmx hv rfl hn hdb) r.pa rfl) fun σ H Q q => q
theorem TyNames.ok {X : Cx} : ∀ {es : List Expr} {Ts : List String}, TyNames X es Ts → ∀ b ∈ Ts, b ∈ okTys
  | _, _, .nil, _, h => by cases h
  | _, _, .cons hT _ _ _ _ _ r, b, h => (List.mem_cons.mp h).elim (fun e => e ▸ hT) (r.ok b)
theorem clsV_tys : ∀ Ts : List String, Paired ClsV (Ts.map V.ty) (Ts.map Value.type)
  | [] => .nil
  | T :: r => .cons (.ty T) (clsV_tys r)
theorem s_isiT {es : List Expr} {Ts : List String} {k : Nat} {p0 pt : Pos} (hT : TyNames X es Ts) (hl : Ts.length ≤ LINE) (ha : PE X a (tE X.K W f)) (hg : Gl X "isinstance") (hm : X.mg "isinstance" = none)
    (he : starEach [a, .Tuple es k pt] X.env = (false, eval a X.env) :: starEach [.Tuple es k pt] X.env) : PE X (.Call (.Name "isinstance" p0) [a, .Tuple es k pt] [] pos) (tE X.K W (eIsi f Ts)) :=
  PE.imp (pe_callB call_isiT hg hm (by decide +kernel) (pa_cons ha (pa_cons (pe_tup hT.pa) pa_nil rfl) he) (by decide) (by decide) he rfl) fun σ H Q ⟨ρ, S, F, p, R, L, q⟩ => seqE OkEE.mono R L q fun d S1 v F1 p1 H1 n R1 L1 hd q => by
    obtain ⟨b, hb, q⟩ := ofB_some q
    obtain ⟨t, ht, rfl⟩ := Option.map_eq_some_iff.mp (show (tyOf S1 d).map _ = some b from hb)
    refine ⟨by rw [List.length_map, ← LINE_eq]; exact hl, fun w hw => ?_⟩
    obtain ⟨R2, n2⟩ := R1.val (o := .tup (Ts.map V.ty)) hw
    refine ⟨v, w, _, .type t, Ts.map .type, Ts.any (isSub t), rfl, upd_same, clsV_tys Ts, tyX_of R2 (hd.nx n2) ht, kit_any ht hT.ok, ?_⟩
    exact (show OkE X.K F1 p1 H1 Q (.bl _) S1 from q) _ _ _ _ n2 R2 (.bl _)
end
/-! ### walks -/
structure WOk (K : PySem.W.Frag) (F : Hp) (p : List Addr) (H : Hp) (J : It) (k : Walked) : Prop where
  go : ∀ i S' F' p' H', Nx F p H F' p' H' → Hld K S' F' p' H' → SrcOk S' k.src → i < k.its.length → J.go i H'
  stop : ∀ S' F' p' H', Nx F p H F' p' H' → Hld K S' F' p' H' → SrcOk S' k.src → J.stop k.its.length H'
  yld : ∀ i S' F' p' H' x H2, Nx F p H F' p' H' → Hld K S' F' p' H' → SrcOk S' k.src → i < k.its.length → J.yld i H' x H2 → ∃ F2, Nx F' p' H' F2 p' H2 ∧ Hld K S' F2 p' H2 ∧ ∃ d, k.its[i]? = some d ∧ IsD K F2 p' x d
  len : k.its.length ≤ LINE
theorem WOk.nx {K : PySem.W.Frag} {F F1 : Hp} {p p1 : List Addr} {H H1 : Hp} {J : It} {k : Walked} (w : WOk K F p H J k) (n : Nx F p H F1 p1 H1) : WOk K F1 p1 H1 J k :=
  ⟨fun i S' F' p' H' n' => w.go i S' F' p' H' (n.trans n'), fun S' F' p' H' n' => w.stop S' F' p' H' (n.trans n'), fun i S' F' p' H' x H2 n' => w.yld i S' F' p' H' x H2 (n.trans n'), w.len⟩
def OkW (K : PySem.W.Frag) (R : It → Hp → Prop) : Post Walked := fun F p H k S' => ∀ J F' p' H', Nx F p H F' p' H' → Hld K S' F' p' H' → WOk K F' p' H' J k → R J H'
theorem OkW.mono {K : PySem.W.Frag} {R : It → Hp → Prop} : PMono (OkW K R) := fun _ _ _ _ _ _ _ _ n h J F' p' H' n' => h J F' p' H' (n.trans n')
def tW (K : PySem.W.Frag) (W : WX) (f : EvW) : TI := fun σ H R => tR K W f (OkW K R) σ H
theorem listOf_src {S S' : Store} {d : D} {xs : List D} (h : listOf S d = some xs) (e : SrcOk S' (srcOf d xs)) : listOf S' d = some xs := by
  cases d with
  | cel n => exact e (n, xs) (List.mem_singleton.mpr rfl)
  | lst _ => exact h
  | scr _ => exact h
  | _ => cases h
theorem wok_list {K : PySem.W.Frag} {S : Store} {F : Hp} {p : List Addr} {H : Hp} {a : Addr} {d : D} {xs : List D} (R : Hld K S F p H) (hd : IsD K F p (.ref a) d) (h : listOf S d = some xs) : (∃ vs, SqL K H a vs) ∧ WOk K F p H (Itl K a) ⟨srcOf d xs, xs⟩ := by
  have key : ∀ S' F' p' H', Nx F p H F' p' H' → Hld K S' F' p' H' → SrcOk S' (srcOf d xs) → ∃ vs, SqL K H' a vs ∧ xs.length ≤ LINE ∧ IsDs K F' p' vs xs := fun S' F' p' H' n R' e => by
    obtain ⟨b, vs, eb, h1, h2, h3⟩ := R'.list (hd.nx n) (listOf_src h e)
    cases eb
    exact ⟨vs, h1, h2, h3⟩
  obtain ⟨b, vs, eb, h1, h2, h3⟩ := R.list hd h
  cases eb
  refine ⟨⟨vs, h1⟩, fun i S' F' p' H' n R' e hi => ?_, fun S' F' p' H' n R' e => ?_, fun i S' F' p' H' x H2 n R' e hi y => ?_, h2⟩
  · obtain ⟨vs, g1, _, g3⟩ := key S' F' p' H' n R' e
    obtain ⟨v, e1, _⟩ := g3.get (List.getElem?_eq_getElem hi)
    exact ⟨vs, v, g1, e1⟩
  · obtain ⟨vs, g1, _, g3⟩ := key S' F' p' H' n R' e
    exact ⟨vs, g1, by rw [g3.length]; exact Nat.le_refl _⟩
  · obtain ⟨vs, g1, _, g3⟩ := key S' F' p' H' n R' e
    obtain ⟨rfl, y⟩ := y
    obtain ⟨d', e1, e2⟩ := g3.get' (y vs g1)
    exact ⟨F', Nx.refl, R', d', e1, e2⟩
theorem wok_tup {K : PySem.W.Frag} {S : Store} {F : Hp} {p : List Addr} {H : Hp} {a : Addr} {xs : List D} (R : Hld K S F p H) (hd : IsD K F p (.ref a) (.tup xs)) : (∃ vs, SqT K H a vs) ∧ WOk K F p H (Itt K a) ⟨[], xs⟩ := by
  cases hd with
  | @tup _ vs _ h1 h2 h3 =>
    have key : ∀ S' F' p' H', Nx F p H F' p' H' → Hld K S' F' p' H' → SqT K H' a vs ∧ IsDs K F' p' vs xs := fun S' F' p' H' n R' => ⟨same_sqT R'.sub (same_sqT n.ext h1), h3.nx n⟩
    refine ⟨⟨vs, same_sqT R.sub h1⟩, fun i S' F' p' H' n R' e hi => ?_, fun S' F' p' H' n R' e => ?_, fun i S' F' p' H' x H2 n R' e hi y => ?_, h2⟩
    · obtain ⟨g1, g3⟩ := key S' F' p' H' n R'
      obtain ⟨v, e1, _⟩ := g3.get (List.getElem?_eq_getElem hi)
      exact ⟨vs, v, g1, e1⟩
    · obtain ⟨g1, g3⟩ := key S' F' p' H' n R'
      exact ⟨vs, g1, by rw [g3.length]; exact Nat.le_refl _⟩
    · obtain ⟨g1, g3⟩ := key S' F' p' H' n R'
      obtain ⟨rfl, y⟩ := y
      obtain ⟨d', e1, e2⟩ := g3.get' (y vs g1)
      exact ⟨F', Nx.refl, R', d', e1, e2⟩
theorem wok_rng {K : PySem.W.Frag} {F : Hp} {p : List Addr} {H : Hp} {a b : Int} (h : rngOk a b = true) : WOk K F p H (Itr a (b - a).toNat) ⟨[], rngL a b⟩ := by
  have hl : (rngL a b).length = (b - a).toNat := by simp [rngL]
  refine ⟨fun i S' F' p' H' n R' e hi => ?_, fun S' F' p' H' n R' e => ?_, fun i S' F' p' H' x H2 n R' e hi y => ?_, ?_⟩
  · show i < _; rw [← hl]; exact hi
  · show _ ≤ _; rw [← hl]; exact Nat.le_refl _
  · obtain ⟨rfl, rfl⟩ := y
    refine ⟨F', Nx.refl, R', .int (a + i), ?_, .int _⟩
    have hi : i < (b - a).toNat := by rw [← hl]; exact hi
    show (rngL a b)[i]? = _
    simp [rngL, hi]
  · show (rngL a b).length ≤ LINE
    rw [hl]
    unfold rngOk at h
    simp only [Bool.and_eq_true, decide_eq_true_eq] at h
    exact h.2
/-- pairs that are made on the way -/
theorem pair_new {K : PySem.W.Frag} {S : Store} {F : Hp} {p : List Addr} {H H2 : Hp} {T : Addr} {x y : V} {d e : D} (R : Hld K S F p H) (hT : H T = none) (hH : H2 = upd H T (.tup [x, y])) (hx : IsD K F p x d) (hy : IsD K F p y e) :
    ∃ F2, Nx F p H F2 p H2 ∧ Hld K S F2 p H2 ∧ IsD K F2 p (.ref T) (.tup [d, e]) := by
  subst hH
  obtain ⟨R', n⟩ := R.val (o := .tup [x, y]) hT
  exact ⟨_, n, R', .tup (.inl (.inl upd_same)) (by show 2 ≤ LINE; decide) (.cons (hx.nx n) (.cons (hy.nx n) .nil))⟩
theorem wok_enum {K : PySem.W.Frag} {S : Store} {F : Hp} {p : List Addr} {H : Hp} {a : Addr} {d : D} {xs : List D} (R : Hld K S F p H) (hd : IsD K F p (.ref a) d) (h : listOf S d = some xs) : (∃ vs, SqL K H a vs) ∧ WOk K F p H (Ite K a) ⟨srcOf d xs, enumL xs⟩ := by
  obtain ⟨⟨vs, hvs⟩, w⟩ := wok_list R hd h
  have hl : (enumL xs).length = xs.length := by simp [enumL]
  have key : ∀ S' F' p' H', Nx F p H F' p' H' → Hld K S' F' p' H' → SrcOk S' (srcOf d xs) → ∃ vs, SqL K H' a vs ∧ xs.length ≤ LINE ∧ IsDs K F' p' vs xs := fun S' F' p' H' n R' e => by
    obtain ⟨b, vs, eb, h1, h2, h3⟩ := R'.list (hd.nx n) (listOf_src h e)
    cases eb
    exact ⟨vs, h1, h2, h3⟩
  refine ⟨⟨vs, hvs⟩, fun i S' F' p' H' n R' e hi => ?_, fun S' F' p' H' n R' e => ?_, fun i S' F' p' H' x H2 n R' e hi y => ?_, ?_⟩
  · obtain ⟨vs, g1, _, g3⟩ := key S' F' p' H' n R' e
    obtain ⟨v, e1, _⟩ := g3.get (List.getElem?_eq_getElem (show i < xs.length by rw [← hl]; exact hi))
    exact ⟨vs, v, g1, e1⟩
  · obtain ⟨vs, g1, _, g3⟩ := key S' F' p' H' n R' e
    exact ⟨vs, g1, by rw [g3.length]; show _ ≤ (enumL xs).length; rw [hl]; exact Nat.le_refl _⟩
  · obtain ⟨vs, g1, _, g3⟩ := key S' F' p' H' n R' e
    obtain ⟨T, z, rfl, hT, hH, y⟩ := y
    obtain ⟨d', e1, e2⟩ := g3.get' (y vs g1)
    obtain ⟨F2, n2, R2, hd2⟩ := pair_new (d := .int (i : Nat)) R' hT hH (.int _) e2
    refine ⟨F2, n2, R2, _, ?_, hd2⟩
    have hi' : i < xs.length := (List.getElem?_eq_some_iff.mp e1).1
    show (List.zipWith (fun (i : Nat) x => D.tup [.int i, x]) (List.range xs.length) xs)[i]? = _
    rw [List.getElem?_zipWith, e1, List.getElem?_range hi']
  · show (enumL xs).length ≤ LINE
    rw [hl]; exact w.len
theorem wok_zip {K : PySem.W.Frag} {S : Store} {F : Hp} {p : List Addr} {H : Hp} {a b : Addr} {d e : D} {xs ys : List D} (R : Hld K S F p H) (hd : IsD K F p (.ref a) d) (he : IsD K F p (.ref b) e) (h : listOf S d = some xs) (h' : listOf S e = some ys) :
    WOk K F p H (Itz K a b) ⟨srcOf d xs ++ srcOf e ys, zipL xs ys⟩ := by
  obtain ⟨_, w⟩ := wok_list R hd h
  have hl : (zipL xs ys).length = min xs.length ys.length := by simp [zipL]
  have key : ∀ S' F' p' H', Nx F p H F' p' H' → Hld K S' F' p' H' → SrcOk S' (srcOf d xs ++ srcOf e ys) → ∃ vs ws, SqL K H' a vs ∧ SqL K H' b ws ∧ IsDs K F' p' vs xs ∧ IsDs K F' p' ws ys := fun S' F' p' H' n R' e => by
    obtain ⟨c, vs, eb, h1, h2, h3⟩ := R'.list (hd.nx n) (listOf_src h fun q hq => e q (List.mem_append_left _ hq))
    cases eb
    obtain ⟨c, ws, eb, g1, g2, g3⟩ := R'.list (he.nx n) (listOf_src h' fun q hq => e q (List.mem_append_right _ hq))
    cases eb
    exact ⟨vs, ws, h1, g1, h3, g3⟩
  refine ⟨fun i S' F' p' H' n R' e hi => ?_, fun S' F' p' H' n R' e => ?_, fun i S' F' p' H' x H2 n R' e hi y => ?_, ?_⟩
  · obtain ⟨vs, ws, g1, g2, g3, g4⟩ := key S' F' p' H' n R' e
    have hi : i < (zipL xs ys).length := hi
    rw [hl] at hi
    obtain ⟨v, e1, _⟩ := g3.get (List.getElem?_eq_getElem (show i < xs.length by omega))
    obtain ⟨w, e2, _⟩ := g4.get (List.getElem?_eq_getElem (show i < ys.length by omega))
    exact ⟨vs, ws, v, w, g1, g2, e1, e2⟩
  · obtain ⟨vs, ws, g1, g2, g3, g4⟩ := key S' F' p' H' n R' e
    refine ⟨vs, ws, g1, g2, ?_⟩
    rw [g3.length, g4.length]
    show _ ≤ (zipL xs ys).length ∨ _ ≤ (zipL xs ys).length
    rw [hl]; omega
  · obtain ⟨vs, ws, g1, g2, g3, g4⟩ := key S' F' p' H' n R' e
    obtain ⟨T, z, u, rfl, hT, hH, y1, y2⟩ := y
    obtain ⟨d1, e1, e2⟩ := g3.get' (y1 vs g1)
    obtain ⟨d2, e3, e4⟩ := g4.get' (y2 ws g2)
    obtain ⟨F2, n2, R2, hd2⟩ := pair_new R' hT hH e2 e4
    refine ⟨F2, n2, R2, _, ?_, hd2⟩
    show (List.zipWith (fun x y => D.tup [x, y]) xs ys)[i]? = _
    rw [List.getElem?_zipWith, e1, e3]
  · show (zipL xs ys).length ≤ LINE
    rw [hl]
    have : xs.length ≤ LINE := w.len
    omega
theorem wok_zipT {K : PySem.W.Frag} {S : Store} {F : Hp} {p : List Addr} {H : Hp} {a b : Addr} {xs ys : List D} {vs ws : List V} (h1 : SqT K F a vs) (h2 : SqT K F b ws) (hx : IsDs K F p vs xs) (hy : IsDs K F p ws ys) (l : xs.length ≤ LINE) : WOk K F p H (RZ.ItzT K a b) ⟨[], zipL xs ys⟩ := by
  have hl : (zipL xs ys).length = min xs.length ys.length := by simp [zipL]
  have key : ∀ S' F' p' H', Nx F p H F' p' H' → Hld K S' F' p' H' → SqT K H' a vs ∧ SqT K H' b ws ∧ IsDs K F' p' vs xs ∧ IsDs K F' p' ws ys := fun S' F' p' H' n R' => ⟨same_sqT R'.sub (same_sqT n.ext h1), same_sqT R'.sub (same_sqT n.ext h2), hx.nx n, hy.nx n⟩
  refine ⟨fun i S' F' p' H' n R' e hi => ?_, fun S' F' p' H' n R' e => ?_, fun i S' F' p' H' x H2 n R' e hi y => ?_, ?_⟩
  · obtain ⟨g1, g2, g3, g4⟩ := key S' F' p' H' n R'
    have hi : i < (zipL xs ys).length := hi
    rw [hl] at hi
    obtain ⟨v, e1, _⟩ := g3.get (List.getElem?_eq_getElem (show i < xs.length by omega))
    obtain ⟨w, e2, _⟩ := g4.get (List.getElem?_eq_getElem (show i < ys.length by omega))
    exact ⟨vs, ws, v, w, g1, g2, e1, e2⟩
  · obtain ⟨g1, g2, g3, g4⟩ := key S' F' p' H' n R'
    refine ⟨vs, ws, g1, g2, ?_⟩
    rw [g3.length, g4.length]
    show _ ≤ (zipL xs ys).length ∨ _ ≤ (zipL xs ys).length
    rw [hl]; omega
  · obtain ⟨g1, g2, g3, g4⟩ := key S' F' p' H' n R'
    obtain ⟨T, z, u, rfl, hT, hH, y1, y2⟩ := y
    obtain ⟨d1, e1, e2⟩ := g3.get' (y1 vs g1)
    obtain ⟨d2, e3, e4⟩ := g4.get' (y2 ws g2)
    obtain ⟨F2, n2, R2, hd2⟩ := pair_new R' hT hH e2 e4
    refine ⟨F2, n2, R2, _, ?_, hd2⟩
    show (List.zipWith (fun x y => D.tup [x, y]) xs ys)[i]? = _
    rw [List.getElem?_zipWith, e1, e3]
  · show (zipL xs ys).length ≤ LINE
    rw [hl]
    omega
section
variable {X : Cx} {W : WX} {a b c tg : Expr} {f g h : EvE} {pos : Pos}
theorem PI.imp {iter : Expr} {t t' : TI} (h : PI X tg iter t) (i : ∀ σ H R, t' σ H R → t σ H R) : PI X tg iter t' := ⟨fun pins s σ H R I q => h.run pins s σ H R I (i σ H R q)⟩
def iSeq (K : PySem.W.Frag) (tl : TE) : TI := fun σ H R => tl σ H fun x H1 => ∃ a, x = .ref a ∧ (((∃ xs, SqL K H1 a xs) ∧ R (Itl K a) H1) ∨ ((∃ xs, SqT K H1 a xs) ∧ R (Itt K a) H1))
theorem pi_seq {l : Expr} {tl : TE} (hl : PE X l tl) : PI X tg l (iSeq X.K tl) := by
  refine ⟨fun pins s σ H R I h => ?_⟩
  refine thn (hl.run pins s σ H _ I h) fun v s1 ⟨x, H1, I1, r1, q1⟩ => ?_
  obtain ⟨a, e, ⟨⟨xs, hq⟩, q⟩ | ⟨⟨xs, hq⟩, q⟩⟩ := q1
  · subst e
    cases r1
    obtain ⟨its, rv, p, hz⟩ := I1.list hq
    refine wpAny_pyIter_list p.isList ?_
    refine ⟨s1.heap.objs.size, [s1.heap.objs.size], _, _, H1, rfl, I1.kept (t' := s1.toks) fun b o e => Heap.get?_push_of_some _ e, turn_list a _, ⟨_, Heap.get?_push_size _ rfl, rfl, rfl⟩, fun b hb => ?_, q⟩
    have e : b = s1.heap.objs.size := by simpa using hb
    subst e
    exact I1.fpOk (Nat.le_refl _) (I1.hok.fresh (Nat.le_refl _))
  · subst e
    cases r1
    obtain ⟨its, rv, p, hz⟩ := I1.tuple hq
    refine wpAny_pyIter_tuple (show s1.heap.IsTuple a its.toArray from p) ?_
    refine ⟨s1.heap.objs.size, [s1.heap.objs.size], _, _, H1, rfl, I1.kept (t' := s1.toks) fun b o e => Heap.get?_push_of_some _ e, turn_tuple a _, ⟨_, Heap.get?_push_size _ rfl, rfl, rfl⟩, fun b hb => ?_, q⟩
    have e : b = s1.heap.objs.size := by simpa using hb
    subst e
    exact I1.fpOk (Nat.le_refl _) (I1.hok.fresh (Nat.le_refl _))
theorem s_wseq (ha : PE X a (tE X.K W f)) : PI X tg a (tW X.K W (wSeq f)) :=
  PI.imp (pi_seq ha) fun σ H Q ⟨ρ, S, F, p, R, L, q⟩ => seqE OkW.mono R L q fun d S1 v F1 p1 H1 n R1 L1 hd q => by
    cases hs : seqOf S1 d with
    | none => simp only [hs] at q; exact False.elim q
    | some xs =>
      simp only [hs] at q
      obtain ⟨a, vs, rfl, _, l, t⟩ := R1.seq hd hs
      refine ⟨a, rfl, ?_⟩
      have lists : listOf S1 d = some xs → (∃ xs, SqL X.K H1 a xs) ∧ Q (Itl X.K a) H1 := fun hl => by
        obtain ⟨w1, w2⟩ := wok_list R1 hd hl
        exact ⟨w1, q _ F1 p1 H1 Nx.refl R1 w2⟩
      cases d with
      | tup ys =>
        cases hs
        obtain ⟨w1, w2⟩ := wok_tup R1 hd
        exact .inr ⟨w1, q _ F1 p1 H1 Nx.refl R1 w2⟩
      | lst _ => exact .inl (lists hs)
      | scr _ => exact .inl (lists hs)
      | cel _ => exact .inl (lists hs)
      | _ => cases hs
theorem s_wrng1 {p0 : Pos} (ha : PE X a (tE X.K W f)) (hg : Gl X "range") (hm : X.mg "range" = none) (hs : starEach [a] X.env = [(false, eval a X.env)]) : PI X tg (.Call (.Name "range" p0) [a] [] pos) (tW X.K W (wRng1 f)) :=
  PI.imp (pi_range1 hg hm (pa_cons ha pa_nil hs) hs) fun σ H Q ⟨ρ, S, F, p, R, L, q⟩ => seqE OkW.mono R L q fun d S1 v F1 p1 H1 n R1 L1 hd q => by
    cases d with
    | int j =>
      cases hd
      by_cases hr : rngOk 0 j = true
      · have q : (if rngOk 0 j = true then O.ok (Walked.mk [] (rngL 0 j)) S1 else .no).holds (OkW X.K Q F1 p1 H1) _ := q
        rw [if_pos hr] at q
        have hr' := hr
        unfold rngOk BIG at hr'
        simp only [Bool.and_eq_true, decide_eq_true_eq] at hr'
        refine ⟨j, rfl, by omega, by omega, ?_⟩
        have w := wok_rng (K := X.K) (F := F1) (p := p1) (H := H1) hr
        have e : (j - 0).toNat = j.toNat := by simp
        rw [e] at w
        exact q _ F1 p1 H1 Nx.refl R1 w
      · have q : (if rngOk 0 j = true then O.ok (Walked.mk [] (rngL 0 j)) S1 else .no).holds (OkW X.K Q F1 p1 H1) _ := q
        rw [if_neg hr] at q
        exact False.elim q
    | _ => exact False.elim q
theorem s_wrng2 {p0 : Pos} (ha : PE X a (tE X.K W f)) (hb : PE X b (tE X.K W g)) (hg : Gl X "range") (hm : X.mg "range" = none) (hs : starEach [a, b] X.env = [(false, eval a X.env), (false, eval b X.env)]) (hs2 : starEach [b] X.env = [(false, eval b X.env)]) :
    PI X tg (.Call (.Name "range" p0) [a, b] [] pos) (tW X.K W (wRng2 f g)) :=
  PI.imp (pi_range2 hg hm (pa_cons ha (pa_cons hb pa_nil hs2) (by rw [hs, hs2])) hs hs2) fun σ H Q ⟨ρ, S, F, p, R, L, q⟩ => seqE OkW.mono R L q fun d S1 v F1 p1 H1 n R1 L1 hd q =>
    seqE OkW.mono R1 L1 q fun e S2 u F2 p2 H2 n2 R2 L2 he q => by
      cases d with
      | int i =>
        cases e with
        | int j =>
          cases hd; cases he
          by_cases hr : rngOk i j = true
          · have q : (if rngOk i j = true then O.ok (Walked.mk [] (rngL i j)) S2 else .no).holds (OkW X.K Q F2 p2 H2) _ := q
            rw [if_pos hr] at q
            have hr' := hr
            unfold rngOk BIG at hr'
            simp only [Bool.and_eq_true, decide_eq_true_eq] at hr'
            exact ⟨i, j, rfl, by omega, q _ F2 p2 H2 Nx.refl R2 (wok_rng hr)⟩
          · have q : (if rngOk i j = true then O.ok (Walked.mk [] (rngL i j)) S2 else .no).holds (OkW X.K Q F2 p2 H2) _ := q
            rw [if_neg hr] at q
            exact False.elim q
        | _ => exact False.elim q
      | _ => exact False.elim q
theorem s_wenum {p0 tpos : Pos} {elts : List Expr} {kk : Nat} (ha : PE X a (tE X.K W f)) (hg : Gl X "enumerate") (hm : X.mg "enumerate" = none) (hs : starEach [a] X.env = [(false, eval a X.env)]) : PI X (.Tuple elts kk tpos) (.Call (.Name "enumerate" p0) [a] [] pos) (tW X.K W (wEnum f)) :=
  PI.imp (pi_enum hg hm (pa_cons ha pa_nil hs) hs) fun σ H Q ⟨ρ, S, F, p, R, L, q⟩ => seqE OkW.mono R L q fun d S1 v F1 p1 H1 n R1 L1 hd q => by
    cases hs : listOf S1 d with
    | none => simp only [hs] at q; exact False.elim q
    | some xs =>
      simp only [hs] at q
      obtain ⟨a, vs, rfl, _, l, t⟩ := R1.list hd hs
      obtain ⟨⟨ys, w1⟩, w2⟩ := wok_enum R1 hd hs
      exact ⟨a, ys, rfl, w1, q _ F1 p1 H1 Nx.refl R1 w2⟩
theorem s_wzip {p0 tpos : Pos} {elts : List Expr} {kk : Nat} (ha : PE X a (tE X.K W f)) (hb : PE X b (tE X.K W g)) (hg : Gl X "zip") (hm : X.mg "zip" = none) (hs : starEach [a, b] X.env = (false, eval a X.env) :: starEach [b] X.env) (hs2 : starEach [b] X.env = (false, eval b X.env) :: starEach [] X.env) (hpl : (backTo pos (starEach [b] X.env)).any (·.1) = false) :
    PI X (.Tuple elts kk tpos) (.Call (.Name "zip" p0) [a, b] [] pos) (tW X.K W (wZip f g)) :=
  PI.imp (RZ.pi_zipA hg hm (pa_cons ha (pa_cons hb pa_nil hs2) hs) hs hpl) fun σ H Q ⟨ρ, S, F, p, R, L, q⟩ => seqE OkW.mono R L q fun d S1 v F1 p1 H1 n R1 L1 hd q =>
    seqE OkW.mono R1 L1 q fun e S2 u F2 p2 H2 n2 R2 L2 he q => by
      have hd := hd.nx n2
      have two : ∀ xs ys, listOf S2 d = some xs → listOf S2 e = some ys → ∃ a b xs ys, ([v, u] : List V) = [.ref a, .ref b] ∧ ((SqL X.K H2 a xs ∧ SqL X.K H2 b ys ∧ Q (Itz X.K a b) H2) ∨ (SqT X.K H2 a xs ∧ SqT X.K H2 b ys ∧ Q (RZ.ItzT X.K a b) H2)) := fun xs ys h1 h2 => by
        rw [h1, h2] at q
        obtain ⟨a, vs, rfl, w1, l, t⟩ := R2.list hd h1
        obtain ⟨b, ws, rfl, w2, l2, t2⟩ := R2.list he h2
        exact ⟨a, b, vs, ws, rfl, .inl ⟨w1, w2, q _ F2 p2 H2 Nx.refl R2 (wok_zip R2 hd he h1 h2)⟩⟩
      cases h1 : listOf S2 d with
      | some xs =>
        cases h2 : listOf S2 e with
        | some ys => exact two xs ys h1 h2
        | none =>
          simp only [h1, h2] at q
          cases d with
          | tup _ => cases h1
          | _ => exact False.elim q
      | none =>
        simp only [h1] at q
        cases d with
        | tup xs =>
          cases e with
          | tup ys =>
            cases hd with
            | @tup a vs _ a1 a2 a3 =>
              cases he with
              | @tup b ws _ b1 b2 b3 => exact ⟨a, b, vs, ws, rfl, .inr ⟨same_sqT R2.sub a1, same_sqT R2.sub b1, q _ F2 p2 H2 Nx.refl R2 (wok_zipT (S := S2) a1 b1 a3 b3 a2)⟩⟩
          | _ => exact False.elim q
        | _ => exact False.elim q
end
end DI
/-! DI: comprehensions. -/
namespace DI
open PySem PySem.Spec L2
open PyProof.Rows hiding St
/-! ### objects that stand already -/
section
variable {K : PySem.W.Frag} {S : Store} {F F1 : Hp} {p p1 : List Addr} {H H1 : Hp} {q : Addr} {o : HO} {Q : VK} {E : Ex → Rho → Store → Prop}
theorem Hld.other (R : Hld K S F p H) (fq : F q = none) (pq : q ∉ p) : Hld K S F p (upd H q o) := by
  refine ⟨fun a u z => ?_, R.len, R.nd, fun a ha => ?_, fun n a c hp hs => ?_⟩
  · rw [upd_ne (fun x => by subst x; rw [fq] at z; cases z)]; exact R.sub a u z
  · rw [upd_ne (show a ≠ q from fun x => pq (by rw [← x]; exact ha))]; exact R.there a ha
  · obtain ⟨h1, h2⟩ := R.cell n a c hp hs
    exact ⟨h1, h2.mono (fun _ _ z => z) (fun _ _ z => z) (upd_ne (show a ≠ q from fun x => pq (by rw [← x]; exact List.mem_of_getElem? hp)))⟩
theorem Nx.other (n : Nx F1 p1 H1 F p H) (hq : H1 q = none) : Nx F1 p1 H1 F p (upd H q o) :=
  ⟨n.ext, n.pre, fun a u z hn => by rw [upd_ne (ne_of_none z hq)]; exact n.keep a u z hn, n.newp, n.newF⟩
/-- .. becomes a value -/
theorem Hld.asVal (R : Hld K S F p H) (fq : F q = none) (pq : q ∉ p) (hq : H q = some o) : Hld K S (upd F q o) p H := by
  have e : ∀ a u, F a = some u → upd F q o a = some u := fun a u z => by rw [upd_ne (ne_of_none z fq)]; exact z
  refine ⟨fun a u z => ?_, R.len, R.nd, R.there, fun n a c hp hs => ?_⟩
  · by_cases ha : a = q
    · subst ha; rw [upd_same] at z; cases z; exact hq
    · rw [upd_ne ha] at z; exact R.sub a u z
  · obtain ⟨h1, h2⟩ := R.cell n a c hp hs
    exact ⟨by rw [upd_ne (show a ≠ q from fun x => pq (by rw [← x]; exact List.mem_of_getElem? hp))]; exact h1, h2.mono e (fun _ _ z => z) rfl⟩
theorem Nx.asVal (n : Nx F1 p1 H1 F p H) (fq : F q = none) (hq : H1 q = none) : Nx F1 p1 H1 (upd F q o) p H :=
  ⟨fun a u z => by rw [upd_ne (ne_of_none (n.ext a u z) fq)]; exact n.ext a u z, n.pre, n.keep, n.newp, fun a z h => by
    by_cases ha : a = q
    · subst ha; exact .inl hq
    · rw [upd_ne ha] at z; exact n.newF a z h⟩
/-- .. becomes a cell -/
theorem Hld.asCell {c : Cell} (R : Hld K S F p H) (fq : F q = none) (pq : q ∉ p) (hq : H q ≠ none) (hc : CellAt K F p H q c) : Hld K (S ++ [some c]) F (p ++ [q]) H := by
  have g : ∀ (n : Nat) (a : Addr), p[n]? = some a → (p ++ [q])[n]? = some a := pre_get (List.prefix_append _ _)
  refine ⟨R.sub, by simp [R.len], ?_, fun a ha => ?_, fun n a c' hp hs => ?_⟩
  · rw [List.nodup_append]
    refine ⟨R.nd, by simp, fun a ha b hb => ?_⟩
    have : b = q := by simpa using hb
    subst this
    exact fun z => pq (by rw [← z]; exact ha)
  · rcases List.mem_append.mp ha with ha | ha
    · exact R.there a ha
    · have : a = q := by simpa using ha
      subst this; exact hq
  · by_cases hn : n < p.length
    · rw [List.getElem?_append_left hn] at hp
      rw [List.getElem?_append_left (by rw [← R.len]; exact hn)] at hs
      obtain ⟨h1, h2⟩ := R.cell n a c' hp hs
      exact ⟨h1, h2.mono (fun _ _ z => z) g rfl⟩
    · have hn' : n = p.length := by
        have := (List.getElem?_eq_some_iff.mp hp).1
        simp at this; omega
      subst hn'
      rw [List.getElem?_append_right (Nat.le_refl _)] at hp
      rw [R.len, List.getElem?_append_right (Nat.le_refl _)] at hs
      simp at hp hs
      subst hp hs
      exact ⟨fq, hc.mono (fun _ _ z => z) g rfl⟩
theorem Nx.asCell (n : Nx F1 p1 H1 F p H) (hq : H1 q = none) : Nx F1 p1 H1 F (p ++ [q]) H :=
  ⟨n.ext, n.pre.trans (List.prefix_append _ _), n.keep, fun a z h => by
    rcases List.mem_append.mp z with z | z
    · exact n.newp a z h
    · have : a = q := by simpa using z
      subst this; exact hq, n.newF⟩
theorem settle_at {al : Bool} {vs : List V} {ds : List D} (R : Hld K S F p H) (n : Nx F1 p1 H1 F p H) (fq : F q = none) (pq : q ∉ p) (hq : H1 q = none) (hH : H q = some (.lst vs)) (l : ds.length ≤ LINE) (t : IsDs K F p vs ds)
    (h : (settle al (.new ds) S).holds (OkE K F1 p1 H1 Q) E) : Q (.ref q) H := by
  cases al with
  | true =>
    have R' := R.asCell (c := .lst ds) fq pq (by rw [hH]; exact fun z => nomatch z) ⟨vs, hH, l, t⟩
    refine (show OkE K F1 p1 H1 Q (.cel S.length) (S ++ [some (.lst ds)]) from h) _ F (p ++ [q]) _ (n.asCell hq) R' (.cel ?_)
    rw [← R.len, List.getElem?_append_right (Nat.le_refl _)]
    simp
  | false =>
    have R' := R.asVal fq pq hH
    refine (show OkE K F1 p1 H1 Q (.lst ds) S from h) _ (upd F q (.lst vs)) p _ (n.asVal fq hq) R' (.lst upd_same l ?_)
    exact t.mono (fun a u z => by rw [upd_ne (ne_of_none z fq)]; exact z) fun _ _ z => z
end
/-! ### what a clause binds -/
theorem wipe_get {σ : St} {j : Nat} : ∀ {vs : List Nat}, (wipe σ vs)[j]? = if j ∈ vs then (if j < σ.length then some none else none) else σ[j]?
  | [] => by simp [wipe]
  | v :: vs => by
    unfold wipe
    by_cases hj : v = j
    · subst hj
      rw [List.getElem?_set, if_pos rfl, wipe_length]
      simp
    · rw [List.getElem?_set_ne hj, wipe_get]
      by_cases hm : j ∈ vs
      · rw [if_pos hm, if_pos (List.mem_cons_of_mem _ hm)]
      · rw [if_neg hm, if_neg (by simp only [List.mem_cons, not_or]; exact ⟨fun e => hj e.symm, hm⟩)]
theorem wipe_set {σ : St} {vs : List Nat} {i : Nat} {v : Option V} (h : i ∈ vs) : wipe (σ.set i v) vs = wipe σ vs := by
  apply List.ext_getElem?
  intro j
  rw [wipe_get, wipe_get]
  by_cases hj : j ∈ vs
  · rw [if_pos hj, if_pos hj, List.length_set]
  · rw [if_neg hj, if_neg hj, List.getElem?_set_ne (fun e => hj (by rw [← e]; exact h))]
def gNames : List Nat → TGs
  | [] => gNil
  | i :: r => gCons (gName i) (gNames r)
def gCT (K : PySem.W.Frag) : CT → TG
  | .one i => gName i
  | .many is => gTup K is.length (gNames is)
theorem names_ok {K : PySem.W.Frag} {F : Hp} {p : List Addr} {H : Hp} {vs : List Nat} {σ0 : St} {Q : St → Hp → Prop} : ∀ {is : List Nat} {xs : List V} {ds : List D} {σ : St} {ρ ρ' : Rho}, IsDs K F p xs ds → Slt K F p σ ρ → wipe σ vs = σ0 → (∀ i ∈ is, i ∈ vs) → bindMany is ds ρ = some ρ' →
    (∀ σ', Slt K F p σ' ρ' → wipe σ' vs = σ0 → Q σ' H) → gNames is xs σ H Q
  | [], _, _, σ, ρ, ρ', .nil, L, w, hi, e, q => by cases e; exact ⟨rfl, q σ L w⟩
  | i :: is, _, _, σ, ρ, ρ', .cons (v := v) (d := d) hd t, L, w, hi, e, q =>
    ⟨v, _, rfl, names_ok t (L.set hd) (by rw [wipe_set (hi i List.mem_cons_self)]; exact w) (fun j hj => hi j (List.mem_cons_of_mem _ hj)) e q⟩
  | [], _, _, _, _, _, .cons _ _, _, _, _, e, _ => by cases e
  | _ :: _, _, _, _, _, _, .nil, _, _, _, e, _ => by cases e
theorem ct_ok {K : PySem.W.Frag} {S : Store} {F : Hp} {p : List Addr} {H : Hp} {vs : List Nat} {σ : St} {ρ ρ' : Rho} {Q : St → Hp → Prop} {c : CT} {x : V} {d : D} (R : Hld K S F p H) (hd : IsD K F p x d) (L : Slt K F p σ ρ) (hi : ∀ i ∈ c.slots, i ∈ vs) (e : bindC c d ρ = some ρ')
    (q : ∀ σ', Slt K F p σ' ρ' → wipe σ' vs = wipe σ vs → Q σ' H) : gCT K c x σ H Q := by
  cases c with
  | one i =>
    cases e
    exact q _ (L.set hd) (wipe_set (hi i (List.mem_singleton.mpr rfl)))
  | many is =>
    cases hd with
    | @tup a xs ds h1 h2 h3 =>
      have e : bindMany is ds ρ = some ρ' := e
      have hl : ∀ {is : List Nat} {ds : List D} {ρ ρ' : Rho}, bindMany is ds ρ = some ρ' → is.length = ds.length := fun {is} => by
        induction is with
        | nil => intro ds ρ ρ' e; cases ds with
          | nil => rfl
          | cons _ _ => cases e
        | cons i is ih => intro ds ρ ρ' e; cases ds with
          | nil => cases e
          | cons _ _ => simp [ih e]
      exact ⟨a, xs, rfl, same_sqT R.sub h1, by rw [h3.length, hl e], names_ok h3 L rfl hi e q⟩
    | _ => cases e
theorem keep_of {α : Type} {src : List (Nat × List D)} {S : Store} {o : O α} {Q : α → Store → Prop} {E : Ex → Rho → Store → Prop} (h : (keepSrc src S o).holds Q E) : SrcOk S src ∧ o.holds Q E := by
  unfold keepSrc at h
  split at h
  · exact ⟨srcOk_of (by assumption), h⟩
  · exact False.elim h
def EF : Ex → Rho → Store → Prop := fun _ _ _ => False
theorem calm_holds {α : Type} {o : O α} {Q : α → Store → Prop} {E : Ex → Rho → Store → Prop} (h : o.calm.holds Q E) : o.holds Q EF := by
  cases o with
  | ok _ _ => exact h
  | er _ _ _ => exact False.elim h
  | no => exact h
theorem ef_any {α : Type} {o : O α} {Q : α → Store → Prop} {E : Ex → Rho → Store → Prop} (h : o.holds Q EF) : o.holds Q E := O.holds_mono h (fun _ _ q => q) fun _ _ _ z => False.elim z
theorem settle_calm {al : Bool} {o : O (List D)} {K : PySem.W.Frag} {F : Hp} {p : List Addr} {H : Hp} {Q : VK} {E : Ex → Rho → Store → Prop} (h : (o.calm.bind fun xs S2 => settle al (.new xs) S2).holds (OkE K F p H Q) E) :
    o.holds (fun xs S2 => (settle al (.new xs) S2).holds (OkE K F p H Q) EF) EF := by
  cases o with
  | ok xs S2 => cases al <;> exact h
  | er _ _ _ => exact False.elim h
  | no => exact h
section
variable {X : Cx} {W WB : WX} {tg iter elt : Expr} {ifs : List Expr} {f : EvE} {t : EvB} {w : EvW} {pos : Pos} {al : Bool} {c : CT} {own : List (Str × Nat)} {scope : Scope}
theorem comp_imp (hi : ∀ i ∈ c.slots, i ∈ own.map (·.2)) (σ : St) (H : Hp) (Q : VK) (z : tE X.K W (eComp al w (own.map (·.2)) c t f) σ H Q) : tLc (tW X.K W w) (gCT X.K c) (tT X.K WB t) (tE X.K WB f) (own.map (·.2)) σ H Q := by
  obtain ⟨ρ, S, F, p, R, L, q⟩ := z
  generalize own.map (·.2) = vs at *
  refine ⟨ρ, S, F, p, R, L, O.holds_mono (O.bind_holds.mp q) (fun k S0 q J F0 p0 H0 n0 R0 wk D hD => ?_) fun _ _ _ h => h⟩
  have q := holds_nx OkEE.mono n0 q
  have L0 := L.nx n0
  have q := settle_calm q
  refine ⟨fun i m H' => i ≤ k.its.length ∧ m = k.its.length - i ∧ ∃ S' F' p' acc vacc, Nx F0 p0 H0 F' p' H' ∧ Hld X.K S' F' p' H' ∧ F' D = none ∧ D ∉ p' ∧ H' D = some (.lst vacc) ∧ IsDs X.K F' p' vacc acc ∧ acc.length ≤ i ∧
    (compL (compStep vs c t f ρ) k.src (k.its.drop i) acc S').holds (fun xs S2 => (settle al (.new xs) S2).holds (OkE X.K F0 p0 H0 Q) EF) EF, ⟨k.its.length, Nat.zero_le _, by simp, S0, F0, p0, [], [], ?_, ?_, F_none R0 hD, ne_p R0 hD, upd_same, .nil, Nat.le_refl _, ?_⟩, ?_⟩
  · exact Nx.refl.other hD
  · exact R0.other (F_none R0 hD) (ne_p R0 hD)
  · rw [List.drop_zero]; exact q
  · rintro i m H' ⟨hi', rfl, S', F', p', acc, vacc, n', R', fD, pD, hHD, ta, la, q'⟩
    by_cases hlt : i < k.its.length
    · right
      rw [List.drop_eq_getElem_cons hlt] at q'
      obtain ⟨so, q'⟩ := keep_of (show (keepSrc k.src S' _).holds _ _ from q')
      refine ⟨wk.go i S' F' p' H' n' R' so hlt, fun H2 => i + 1 ≤ k.its.length ∧ ∃ S2 F2 p2 acc vacc, Nx F0 p0 H0 F2 p2 H2 ∧ Hld X.K S2 F2 p2 H2 ∧ F2 D = none ∧ D ∉ p2 ∧ H2 D = some (.lst vacc) ∧ IsDs X.K F2 p2 vacc acc ∧ acc.length ≤ i + 1 ∧
        (compL (compStep vs c t f ρ) k.src (k.its.drop (i + 1)) acc S2).holds (fun xs S2 => (settle al (.new xs) S2).holds (OkE X.K F0 p0 H0 Q) EF) EF, fun H2 ⟨h1, h2⟩ => ⟨k.its.length - (i + 1), by omega, h1, rfl, h2⟩, fun x H2 y => ?_⟩
      obtain ⟨F2, n2, R2, d, ed, hd⟩ := wk.yld i S' F' p' H' x H2 n' R' so hlt y
      have edd : k.its[i] = d := by rw [List.getElem?_eq_getElem hlt] at ed; exact Option.some.inj ed
      rw [edd] at q'
      have keepD : ∀ {Fa pa Ha Fb pb Hb}, Nx Fa pa Ha Fb pb Hb → Fa D = none → D ∉ pa → Ha D = some (.lst vacc) → Fb D = none ∧ D ∉ pb ∧ Hb D = some (.lst vacc) := fun {Fa pa Ha Fb pb Hb} n a1 a2 a3 => by
        refine ⟨?_, fun z => ?_, n.keep D _ a3 a2⟩
        · cases e : Fb D with
          | none => rfl
          | some o =>
            rcases n.newF D (by rw [e]; exact fun z => nomatch z) a1 with z | z
            · rw [a3] at z; cases z
            · exact absurd z a2
        · have := n.newp D z a2
          rw [a3] at this; cases this
      have Lw : Slt X.K F2 p' (wipe σ vs) (wipeR ρ vs) := ((L0.nx n').nx n2).wipe vs
      have q' := O.bind_holds.mp q'
      unfold compStep at q'
      cases hb : bindC c d (wipeR ρ vs) with
      | none => simp only [hb] at q'; exact False.elim q'
      | some ρ1 =>
        simp only [hb] at q'
        refine ct_ok R2 hd Lw hi hb fun σ' L' hw => ⟨hw.trans (by apply List.ext_getElem?; intro j; rw [wipe_get, wipe_get]; by_cases hj : j ∈ vs <;> simp [hj, wipe_length, wipe_get]), ?_⟩
        have q' := O.bind_holds.mp q'
        refine ⟨ρ1, S', F2, p', R2, L', O.holds_mono q' (fun b S3 q3 F3 p3 H3 n3 R3 => ?_) fun _ _ _ z => False.elim z⟩
        cases b with
        | true =>
          refine iteT ?_
          have q3 := O.bind_holds.mp ((show (((f ρ1 S3).bind fun d S3 => O.ok (some d) S3).holds _ EF) from q3))
          refine ⟨ρ1, S3, F3, p3, R3, L'.nx n3, O.holds_mono (show (f ρ1 S3).holds _ EF from O.holds_mono q3 (fun _ _ z => z) fun _ _ _ z => z) (fun e S4 q4 v F4 p4 H4 n4 R4 he => ?_) fun _ _ _ z => False.elim z⟩
          have n24 : Nx F2 p' H2 F4 p4 H4 := n3.trans n4
          obtain ⟨d1, d2, d3⟩ := keepD (n2.trans n24) fD pD hHD
          refine ⟨vacc, d3, ?_, hlt, S4, F4, p4, acc ++ [e], vacc ++ [v], (n'.trans (n2.trans n24)).other hD, R4.other d1 d2, d1, d2, upd_same, ((ta.nx n2).nx n24).append (.cons he .nil), by simp; exact la, q4⟩
          have hlen := wk.len
          rw [ta.length, ← LINE_eq]
          omega
        | false =>
          refine iteF ?_
          have n23 : Nx F' p' H' F3 p3 H3 := n2.trans n3
          obtain ⟨d1, d2, d3⟩ := keepD n23 fD pD hHD
          exact ⟨hlt, S3, F3, p3, acc, vacc, n'.trans n23, R3, d1, d2, d3, ta.nx n23, by omega, q3⟩
    · left
      have e : i = k.its.length := by omega
      subst e
      rw [List.drop_length] at q'
      obtain ⟨so, q'⟩ := keep_of (show (keepSrc k.src S' _).holds _ _ from q')
      refine ⟨wk.stop S' F' p' H' n' R' so, settle_at R' n' fD pD hD hHD (Nat.le_trans la wk.len) ta q'⟩
theorem s_tyes : PTs X [] (tT X.K W tYesE) := ⟨fun pins s σ H Q I ⟨ρ, S, F, p, R, L, q⟩ => pts_nil.run pins s σ H Q I (q F p H Nx.refl R)⟩
theorem s_tone {e : Expr} (h : PT X e (tT X.K W t)) : PTs X [e] (tT X.K W t) := pts_one h
theorem s_gct {x : Str} {i : Nat} {pos : Pos} (hN : X.N.Nodup) (hi : X.N[i]? = some x) (hx : Loc X.env.scope x) (hf : X.fn x = true ∨ X.env.scope.names.lookup x = some .local) : PG X (.Name x pos) (gCT X.K (.one i)) := pg_name hN hi hx hf
inductive CNames (X : Cx) : List Expr → List Nat → Prop where
  | nil : CNames X [] []
  | cons {x : Str} {i : Nat} {pos : Pos} {es : List Expr} {is : List Nat} (hN : X.N.Nodup) (hi : X.N[i]? = some x) (hx : Loc X.env.scope x) (hf : X.fn x = true ∨ X.env.scope.names.lookup x = some .local) (r : CNames X es is) : CNames X (.Name x pos :: es) (i :: is)
theorem CNames.pg {X : Cx} : ∀ {es : List Expr} {is : List Nat}, CNames X es is → PGs X es (gNames is)
  | _, _, .nil => pgs_nil
  | _, _, .cons hN hi hx hf r => pgs_cons (pg_name hN hi hx hf) r.pg rfl
theorem CNames.len {X : Cx} : ∀ {es : List Expr} {is : List Nat}, CNames X es is → (assignEach es X.env).length = is.length ∧ (assignEach es X.env).findIdx? (·.1) = none
  | _, _, .nil => ⟨rfl, rfl⟩
  | _, _, .cons (x := x) (pos := pos) (es := es) hN hi hx hf r => by
    obtain ⟨h1, h2⟩ := r.len
    have e : assignEach (.Name x pos :: es) X.env = (false, assign (.Name x pos) X.env) :: assignEach es X.env := rfl
    rw [e]
    refine ⟨by rw [List.length_cons, List.length_cons, h1], ?_⟩
    rw [List.findIdx?_cons]
    simp [h2]
theorem s_gctT {es : List Expr} {is : List Nat} {k : Nat} {pos : Pos} (hc : X.calm = true) (h : CNames X es is) : PG X (.Tuple es k pos) (gCT X.K (.many is)) :=
  pg_tup hc h.pg h.len.1 h.len.2
theorem s_comp (hc : X.calm = true) (hN : X.N.Nodup) (hi : PI X tg iter (tW X.K W w)) (ok : BlkOk X.N X.env.scope scope own) (hs : ∀ i ∈ c.slots, i ∈ own.map (·.2))
    (hg : ∀ (s : Shared) (H : Hp) (C : Addr) (cl : List (Str × Addr)) (fp : List Addr), PG (X.blk s H scope (compEnvC scope cl C X.env) fp) tg (gCT X.K c)) (ht : ∀ (s : Shared) (H : Hp) (C : Addr) (cl : List (Str × Addr)) (fp : List Addr), PTs (X.blk s H scope (compEnvC scope cl C X.env) fp) ifs (tT X.K WB t))
    (he : ∀ (s : Shared) (H : Hp) (C : Addr) (cl : List (Str × Addr)) (fp : List Addr), PE (X.blk s H scope (compEnvC scope cl C X.env) fp) elt (tE X.K WB f)) (hf : ∀ x, foldedSetIterable iter X.env x = pure x) :
    PE X (.ListComp elt [⟨tg, iter, ifs, 0⟩] scope pos) (tE X.K W (eComp al w (own.map (·.2)) c t f)) :=
  PE.imp (pe_lc hc hN hi ok hg ht he hf) fun σ H Q q => comp_imp hs σ H Q q
end
end DI
/-! DI: targets and statements. -/
namespace DI
open PySem PySem.Spec L2
open PyProof.Rows hiding St
def OkS (K : PySem.W.Frag) (E : Ends) : Post Fl := fun F p H fl S' => match fl with
  | .nx ρ' => ∀ σ' F' p' H', Nx F p H F' p' H' → Hld K S' F' p' H' → Slt K F' p' σ' ρ' → E.nx σ' H'
  | .rt d => ∀ v F' p' H', Nx F p H F' p' H' → Hld K S' F' p' H' → IsD K F' p' v d → E.rt v H'
theorem OkS.mono {K : PySem.W.Frag} {E : Ends} : PMono (OkS K E) := fun _ _ _ _ _ _ fl _ n h => match fl with
  | .nx _ => fun σ' F' p' H' n' => h σ' F' p' H' (n.trans n')
  | .rt _ => fun v F' p' H' n' => h v F' p' H' (n.trans n')
def tS (K : PySem.W.Frag) (W : WX) (f : EvS) : TS := fun E σ H => tR K W f (OkS K E) σ H
theorem PS.imp {X : Cx} {e : Stmt} {t t' : TS} (h : PS X e t) (i : ∀ E σ H, t' E σ H → t E σ H) : PS X e t' := ⟨fun pins s σ H E I q => h.run pins s σ H E I (i E σ H q)⟩
theorem PSs.imp {X : Cx} {e : List Stmt} {t t' : TS} (h : PSs X e t) (i : ∀ E σ H, t' E σ H → t E σ H) : PSs X e t' := ⟨fun pins s σ H E I q => h.run pins s σ H E I (i E σ H q)⟩
section
variable {X : Cx} {W : WX} {a b c : Expr} {f g h : EvE} {pos : Pos} {al : Bool}
/-! ### targets -/
theorem g_var {i : Nat} {x : Str} (hN : X.N.Nodup) (hi : X.N[i]? = some x) (hx : Loc X.env.scope x) (hf : X.fn x = true ∨ X.env.scope.names.lookup x = some .local) : PG X (.Name x pos) (tG X.K W (gVar i)) :=
  PG.imp (pg_name hN hi hx hf) fun v σ H Q ⟨ρ, S, F, p, d, R, L, hd, q⟩ => (show OkG X.K Q F p H (ρ.set i (some d)) S from q) _ F p H Nx.refl R (L.set hd)
theorem g_nil : PGs X [] (tGs X.K W gNilE) := PGs.imp pgs_nil fun v σ H Q ⟨ρ, S, F, p, d, R, L, hd, q⟩ => by
  cases hd with
  | nil => exact ⟨rfl, (show OkG X.K Q F p H ρ S from q) _ F p H Nx.refl R L⟩
  | cons _ _ => exact False.elim q
theorem g_cons {es : List Expr} {t : EvG} {u : List D → Rho → Store → O Rho} (h1 : PG X a (tG X.K W t)) (h2 : PGs X es (tGs X.K W u)) (hs : (assignEach (a :: es) X.env).map (·.2) = assign a X.env :: (assignEach es X.env).map (·.2)) : PGs X (a :: es) (tGs X.K W (gConsE t u)) :=
  PGs.imp (pgs_cons h1 h2 hs) fun v σ H Q ⟨ρ, S, F, p, d, R, L, hd, q⟩ => by
    cases hd with
    | nil => exact False.elim q
    | @cons v vs d ds hd hr =>
      refine ⟨v, vs, rfl, seqG OkG.mono R L hd q fun ρ1 S1 σ1 F1 p1 H1 n R1 L1 q => ⟨ρ1, S1, F1, p1, ds, R1, L1, hr.nx n, q⟩⟩
theorem g_tup {es : List Expr} {k n : Nat} {u : List D → Rho → Store → O Rho} (hc : X.calm = true) (hp : PGs X es (tGs X.K W u)) (hn : (assignEach es X.env).length = n) (hst : (assignEach es X.env).findIdx? (·.1) = none) : PG X (.Tuple es k pos) (tG X.K W (gTupE n u)) :=
  PG.imp (pg_tup hc hp hn hst) fun v σ H Q ⟨ρ, S, F, p, d, R, L, hd, q⟩ => by
    cases hd with
    | @tup a vs ds h1 h2 h3 =>
      have q : (if ds.length = n then u ds ρ S else .no).holds (OkG X.K Q F p H) (ErP X.K W F p H) := q
      split at q
      · rename_i e
        exact ⟨a, vs, rfl, same_sqT R.sub h1, by rw [h3.length]; exact e, ρ, S, F, p, ds, R, L, h3, q⟩
      · exact False.elim q
    | _ => exact False.elim q
theorem IsK.any {K : PySem.W.Frag} {F : Hp} {p : List Addr} (k : Key) : ∀ {ws : List (Key × V)} {kvs : List (Key × D)}, IsK K F p ws kvs → (ws.any fun kv => decide (kv.1 = k)) = (kvs.any fun kv => decide (kv.1 = k))
  | _, _, .nil => rfl
  | _, _, .cons _ t => by rw [List.any_cons, List.any_cons, IsK.any k t]
theorem IsK.app {K : PySem.W.Frag} {F : Hp} {p : List Addr} : ∀ {ws ws' : List (Key × V)} {kvs kvs' : List (Key × D)}, IsK K F p ws kvs → IsK K F p ws' kvs' → IsK K F p (ws ++ ws') (kvs ++ kvs')
  | _, _, _, _, .nil, t => t
  | _, _, _, _, .cons h t, u => .cons h (IsK.app t u)
theorem IsK.mapset {K : PySem.W.Frag} {F : Hp} {p : List Addr} {k : Key} {v : V} {d : D} (h : IsD K F p v d) : ∀ {ws : List (Key × V)} {kvs : List (Key × D)}, IsK K F p ws kvs →
    IsK K F p (ws.map fun kv => if kv.1 = k then (kv.1, v) else kv) (kvs.map fun kv => if kv.1 = k then (kv.1, d) else kv)
  | _, _, .nil => .nil
  | _, _, .cons (k := k') h1 t => by
    rw [List.map_cons, List.map_cons]
    by_cases e : k' = k
    · rw [if_pos e, if_pos e]; exact .cons h (IsK.mapset h t)
    · rw [if_neg e, if_neg e]; exact .cons h1 (IsK.mapset h t)
theorem IsK.len {K : PySem.W.Frag} {F : Hp} {p : List Addr} : ∀ {ws : List (Key × V)} {kvs : List (Key × D)}, IsK K F p ws kvs → ws.length = kvs.length
  | _, _, .nil => rfl
  | _, _, .cons _ t => by simp [IsK.len t]
theorem IsK.set {K : PySem.W.Frag} {F : Hp} {p : List Addr} {k : Key} {v : V} {d : D} {ws : List (Key × V)} {kvs : List (Key × D)} (h : IsD K F p v d) (t : IsK K F p ws kvs) : IsK K F p (putK ws k v) (setK kvs k d) := by
  unfold putK setK
  rw [t.any k]
  split
  · exact t.mapset h
  · exact t.app (.cons h .nil)
def tSetD (K : PySem.W.Frag) (W : WX) : TSet := fun o i v H Q => ∃ S F p o' i' d, Hld K S F p H ∧ IsD K F p o o' ∧ IsD K F p i i' ∧ IsD K F p v d ∧ ∃ S', setD S o' i' d = some S' ∧ ∀ F' p' H', Nx F p H F' p' H' → Hld K S' F' p' H' → Q H'
theorem kV_of {K : PySem.W.Frag} {F : Hp} {p : List Addr} {v : V} {d : D} {k : Key} (h : IsD K F p v d) (e : inKey d = some k) : v = kV k := by
  cases h <;> first | (cases e; rfl) | cases e
theorem set_D (hu : X.A.units + 1 < cLine) : PSet X (tSetD X.K W) := by
  intro pins s σ H o i v ov iv u Q I ro ri rv ⟨S, F, p, o', i', d, R, ho, hi, hd, S', e, q⟩
  cases ho with
  | @cel a n hp =>
    unfold setD at e
    simp only [] at e
    split at e
    · rename_i xs hs
      split at e
      · rename_i k
        cases hi
        obtain ⟨j, hj, rfl⟩ := Option.map_eq_some_iff.mp e
        obtain ⟨fa, vs, h1, h2, h3⟩ := R.cell n a _ hp hs
        refine set_list pins s σ H _ _ v ov iv u Q I ro ri rv ⟨a, vs, k, j, rfl, rfl, h1, by rw [h3.length]; exact hj, ?_⟩
        obtain ⟨R', n'⟩ := R.put (o := .lst (vs.set j v)) (c := .lst (xs.set j d)) hp hs fun H' z => ⟨_, z, by rw [List.length_set]; exact h2, h3.set hd j⟩
        exact q _ _ _ n' R'
      · cases e
    · rename_i kvs hs
      split at e
      · rename_i k hk
        split at e
        · rename_i hl
          cases e
          obtain ⟨fa, ws, h1, h3⟩ := R.cell n a _ hp hs
          obtain rfl := kV_of hi hk
          obtain ⟨R', n'⟩ := R.put (o := .dK (putK ws k v)) (c := .dct (setK kvs k d)) hp hs fun H' z => ⟨_, z, h3.set hd⟩
          refine set_dict hu pins s σ H _ _ v ov iv u Q I ro ri rv ⟨a, _, rfl, .k h1 (by rw [h3.len, ← LINE_eq]; exact hl), ?_⟩
          exact q _ _ _ n' R'
        · cases e
      · cases e
    · cases e
  | _ => cases e
theorem g_sub (hu : X.A.units + 1 < cLine) (ha : PE X a (tE X.K W f)) (hb : PE X b (tE X.K W g)) (h3 : ∀ v, assign (.Subscript a b pos) X.env v = (do
      let ov ← holding [v] (eval a X.env)
      let iv ← holding [v, ov] (eval b X.env)
      standAt pos
      holding [v, ov, iv] (setItem ov iv v)
      release [v, ov, iv] [])) : PG X (.Subscript a b pos) (tG X.K W (gSubE f g)) :=
  PG.imp (pg_sub ha hb (set_D (W := W) hu) h3) fun v σ H Q ⟨ρ, S, F, p, d, R, L, hd, q⟩ => seqE OkG.mono R L q fun o S1 vo F1 p1 H1 n R1 L1 ho q =>
    seqE OkG.mono R1 L1 q fun i S2 vi F2 p2 H2 n2 R2 L2 hi q => by
      cases e : setD S2 o i d with
      | none => simp only [e] at q; exact False.elim q
      | some S3 =>
        simp only [e] at q
        exact ⟨S2, F2, p2, o, i, d, R2, ho.nx n2, hi, (hd.nx n).nx n2, S3, e, fun F' p' H' n' R' => q σ F' p' H' n' R' (L2.nx n')⟩
/-! ### statements -/
theorem ss_next : PSs X [] (tS X.K W sNext) := PSs.imp pss_nil fun E σ H ⟨ρ, S, F, p, R, L, q⟩ => q σ F p H Nx.refl R L
theorem ss_cons {st : Stmt} {rest : List Stmt} {u v : EvS} (h1 : PS X st (tS X.K W u)) (h2 : PSs X rest (tS X.K W v)) : PSs X (st :: rest) (tS X.K W (sSeq u v)) :=
  PSs.imp (pss_cons h1 h2) fun E σ H ⟨ρ, S, F, p, R, L, q⟩ => ⟨ρ, S, F, p, R, L, O.holds_mono (O.bind_holds.mp q) (fun fl S1 q => by
    cases fl with
    | nx ρ1 => exact fun σ1 F1 p1 H1 n R1 L1 => ⟨ρ1, S1, F1, p1, R1, L1, holds_nx OkS.mono n q⟩
    | rt d => exact fun v F1 p1 H1 n R1 hd => (show OkS X.K E F p H (.rt d) S1 from q) v F1 p1 H1 n R1 hd) fun _ _ _ h => h⟩
theorem ps_retD (ha : PE X a (tE X.K W f)) : PS X (.Return (some a) pos) (tS X.K W (sRet f)) :=
  PS.imp (ps_ret ha) fun E σ H ⟨ρ, S, F, p, R, L, q⟩ => seqE OkS.mono R L q fun d S1 v F1 p1 H1 n R1 L1 hd q => (show OkS X.K E F1 p1 H1 (.rt d) S1 from q) v F1 p1 H1 Nx.refl R1 hd
theorem ps_ifD {t : EvB} {u v : EvS} {xs ys : List Stmt} (hc : PT X c (tT X.K W t)) (ha : PSs X xs (tS X.K W u)) (hb : PSs X ys (tS X.K W v)) : PS X (.If c xs ys pos) (tS X.K W (sIf t u v)) :=
  PS.imp (ps_if hc ha hb) fun E σ H ⟨ρ, S, F, p, R, L, q⟩ => seqT OkS.mono R L q fun b S1 F1 p1 H1 n R1 L1 q => by
    cases b with
    | true => exact iteT ⟨ρ, S1, F1, p1, R1, L1, q⟩
    | false => exact iteF ⟨ρ, S1, F1, p1, R1, L1, q⟩
theorem ps_neverD {st : Stmt} : PS X st (tS X.K W eNo) := ⟨fun _ _ _ _ _ _ ⟨_, _, _, _, _, _, q⟩ => False.elim q⟩
theorem asg_imp {t : EvG} {E : Ends} {σ : St} {H : Hp} (q : tS X.K W (sAsg f t) E σ H) : tAsg (tE X.K W f) (tG X.K W t) E σ H := by
  obtain ⟨ρ, S, F, p, R, L, q⟩ := q
  exact seqE OkS.mono R L q fun d S1 v F1 p1 H1 n R1 L1 hd q => seqG OkS.mono R1 L1 hd q fun ρ1 S2 σ1 F2 p2 H2 n2 R2 L2 q => (show OkS X.K E F2 p2 H2 (.nx ρ1) S2 from q) σ1 F2 p2 H2 Nx.refl R2 L2
theorem ps_asgD {t : EvG} (ha : PE X a (tE X.K W f)) (hg : PG X b (tG X.K W t)) (hs : swapsWithSole [b] a pos.line X.env = pure false) (hw : swappedStores [b] a X.env = pure none) (h1 : (assignEach [b] X.env).map (·.2) = [assign b X.env]) : PS X (.Assign [b] a pos) (tS X.K W (sAsg f t)) :=
  PS.imp (ps_asg ha hg hs hw h1) fun E σ H q => asg_imp q
theorem gName_imp {i : Nat} {v : V} {σ : St} {H : Hp} {Q : St → Hp → Prop} (h : tG X.K W (gVar i) v σ H Q) : gName i v σ H Q := by
  obtain ⟨ρ, S, F, p, d, R, L, hd, q⟩ := h
  exact (show OkG X.K Q F p H (ρ.set i (some d)) S from q) _ F p H Nx.refl R (L.set hd)
theorem ps_setD {i : Nat} {x : Str} {pos' : Pos} (hN : X.N.Nodup) (hi : X.N[i]? = some x) (hx : Loc X.env.scope x) (ha : PE X a (tE X.K W f)) (hs : swapsWith a (some (.Name x pos')) pos.line X.env = pure false) (hf : X.fn x = true ∨ X.env.scope.names.lookup x = some .local) :
    PS X (.Assign [.Name x pos'] a pos) (tS X.K W (sAsg f (gVar i))) :=
  PS.imp (ps_set hN hi hx ha hs hf) fun E σ H q => by
    obtain ⟨ρ, S, F, p, R, L, q⟩ := q
    exact seqE OkS.mono R L q fun d S1 v F1 p1 H1 n R1 L1 hd q => gName_imp (W := W) (seqG OkS.mono R1 L1 hd q fun ρ1 S2 σ1 F2 p2 H2 n2 R2 L2 q => (show OkS X.K E F2 p2 H2 (.nx ρ1) S2 from q) σ1 F2 p2 H2 Nx.refl R2 L2)
/-- name = [.. for ..] on one line -/
theorem ps_setLcD {WB : WX} {tg iter elt : Expr} {ifs : List Expr} {t : EvB} {w : EvW} {ct : CT} {own : List (Str × Nat)} {scope : Scope} {i : Nat} {y : Str} {py cpos : Pos} (hc : X.calm = true) (hN : X.N.Nodup) (hy : X.N[i]? = some y) (hyl : X.env.scope.names.lookup y = some .local)
    (hk : X.env.scope.kind = .function) (hl : (py.line == cpos.line) = true) (hown : (scope.names.any fun (n, k) => n == y && (k == .local || k == .cell)) = false) (hlp : (py.line == cpos.line) = true → swapsWith (.ListComp elt [⟨tg, iter, ifs, 0⟩] scope cpos) (some (.Name y py)) pos.line X.env = pure true)
    (hi : PI X tg iter (tW X.K W w)) (ok : BlkOk X.N X.env.scope scope own) (hs : ∀ i ∈ ct.slots, i ∈ own.map (·.2))
    (hg : ∀ (s : Shared) (H : Hp) (C : Addr) (cl : List (Str × Addr)) (fp : List Addr), PG (X.blk s H scope (compEnvC scope cl C X.env) fp) tg (gCT X.K ct)) (ht : ∀ (s : Shared) (H : Hp) (C : Addr) (cl : List (Str × Addr)) (fp : List Addr), PTs (X.blk s H scope (compEnvC scope cl C X.env) fp) ifs (tT X.K WB t))
    (he : ∀ (s : Shared) (H : Hp) (C : Addr) (cl : List (Str × Addr)) (fp : List Addr), PE (X.blk s H scope (compEnvC scope cl C X.env) fp) elt (tE X.K WB f)) (hf : ∀ x, foldedSetIterable iter X.env x = pure x) :
    PS X (.Assign [.Name y py] (.ListComp elt [⟨tg, iter, ifs, 0⟩] scope cpos) pos) (tS X.K W (sAsg (eComp al w (own.map (·.2)) ct t f) (gVar i))) :=
  PS.imp (ps_setLc hc hN hy hyl (hlp hl) hi ok hg ht he hf) fun E σ H q => by
    obtain ⟨ρ, S, F, p, R, L, q⟩ := q
    exact comp_imp hs σ H _ (seqE OkS.mono R L q fun d S1 v F1 p1 H1 n R1 L1 hd q => gName_imp (W := W) (seqG OkS.mono R1 L1 hd q fun ρ1 S2 σ1 F2 p2 H2 n2 R2 L2 q => (show OkS X.K E F2 p2 H2 (.nx ρ1) S2 from q) σ1 F2 p2 H2 Nx.refl R2 L2))
theorem ps_dropD (ha : PE X a (tE X.K W f)) (hs : swapsWith a none pos.line X.env = pure false) : PS X (.Expr a pos) (tS X.K W (sDrop f)) :=
  PS.imp (ps_expr ha hs) fun E σ H ⟨ρ, S, F, p, R, L, q⟩ => seqE OkS.mono R L q fun d S1 v F1 p1 H1 n R1 L1 hd q => (show OkS X.K E F1 p1 H1 (.nx ρ) S1 from q) σ F1 p1 H1 Nx.refl R1 L1
theorem ps_parD {k : EvL} {i j : Nat} {x y : Str} {px py pt : Pos} {kt k2 pt2} (hc : X.calm = true) (hN : X.N.Nodup) (hi : X.N[i]? = some x) (hj : X.N[j]? = some y) (hij : i ≠ j)
    (hx : X.env.scope.names.lookup x = some .local) (hy : X.env.scope.names.lookup y = some .local) (ha : PA X [a, b] (tL X.K W k))
    (hw : swappedStores [.Tuple [.Name x px, .Name y py] kt pt] (.Tuple [a, b] k2 pt2) X.env = pure (some [x, y]))
    (hs : swapsWithSole [.Tuple [.Name x px, .Name y py] kt pt] (.Tuple [a, b] k2 pt2) pos.line X.env = pure false) :
    PS X (.Assign [.Tuple [.Name x px, .Name y py] kt pt] (.Tuple [a, b] k2 pt2) pos) (tS X.K W (sPar k (gConsE (gVar i) (gConsE (gVar j) gNilE)))) :=
  PS.imp (ps_par hc hN hi hj hij hx hy ha hw hs) fun E σ H ⟨ρ, S, F, p, R, L, q⟩ => seqL OkS.mono R L q fun ds S1 vs F1 p1 H1 n R1 L1 hd q => by
    cases hd with
    | nil => exact False.elim q
    | cons h1 hd => cases hd with
      | nil => exact False.elim q
      | cons h2 hd => cases hd with
        | cons _ _ => exact False.elim q
        | nil => exact ⟨_, _, rfl, q _ F1 p1 H1 Nx.refl R1 ((L1.set h1).set h2)⟩
theorem ps_par3D {k : EvL} {i j l : Nat} {x y z : Str} {px py pz pt : Pos} {kt k2 pt2} (hc : X.calm = true) (hN : X.N.Nodup) (hi : X.N[i]? = some x) (hj : X.N[j]? = some y) (hl : X.N[l]? = some z) (hij : i ≠ j) (hil : i ≠ l) (hjl : j ≠ l)
    (hx : X.env.scope.names.lookup x = some .local) (hy : X.env.scope.names.lookup y = some .local) (hz : X.env.scope.names.lookup z = some .local) (ha : PA X [a, b, c] (tL X.K W k))
    (hw : swappedStores [.Tuple [.Name x px, .Name y py, .Name z pz] kt pt] (.Tuple [a, b, c] k2 pt2) X.env = pure (some [x, y, z]))
    (hs : swapsWithSole [.Tuple [.Name x px, .Name y py, .Name z pz] kt pt] (.Tuple [a, b, c] k2 pt2) pos.line X.env = pure false) :
    PS X (.Assign [.Tuple [.Name x px, .Name y py, .Name z pz] kt pt] (.Tuple [a, b, c] k2 pt2) pos) (tS X.K W (sPar k (gConsE (gVar i) (gConsE (gVar j) (gConsE (gVar l) gNilE))))) :=
  PS.imp (ps_par3 hc hN hi hj hl hij hil hjl hx hy hz ha hw hs) fun E σ H ⟨ρ, S, F, p, R, L, q⟩ => seqL OkS.mono R L q fun ds S1 vs F1 p1 H1 n R1 L1 hd q => by
    cases hd with
    | nil => exact False.elim q
    | cons h1 hd => cases hd with
      | nil => exact False.elim q
      | cons h2 hd => cases hd with
        | nil => exact False.elim q
        | cons h3 hd => cases hd with
          | cons _ _ => exact False.elim q
          | nil => exact ⟨_, _, _, rfl, q _ F1 p1 H1 Nx.refl R1 (((L1.set h1).set h2).set h3)⟩
/-! append, extend -/
theorem ps_appD {apos cpos : Pos} (ha : PE X a (tE X.K W f)) (hb : PE X b (tE X.K W g)) (hs : swapsWith (.Call (.Attribute a "append" apos) [b] [] cpos) none pos.line X.env = pure false)
    (hbase : attributeBase a "append" X.env (eval a X.env) = eval a X.env)
    (hfew : ((backTo cpos (starEach [b] X.env)).all (fun x => !x.1) && (backToKw cpos (keywordEach [] X.env)).all (fun x => x.1.isSome)
      && decide (([b] : List Expr).length + ([] : List Keyword).length + (if ([] : List Keyword).isEmpty then 0 else 1) < 30)) = true)
    (hline : (apos.endLine == cpos.line) = true) (hst : starEach [b] X.env = (false, eval b X.env) :: starEach [] X.env) :
    PS X (.Expr (.Call (.Attribute a "append" apos) [b] [] cpos) pos) (tS X.K W (sApp f g)) :=
  PS.imp (ps_expr (pe_bm PySem.F.plainAttrs_list PySem.F.slot_list_append PySem.F.type_list_append mt_append ha (pa_cons hb pa_nil hst) hbase hfew hline hst rfl) hs) fun E σ H ⟨ρ, S, F, p, R, L, q⟩ => by
    refine seqE OkS.mono R L q fun o S1 v F1 p1 H1 n R1 L1 ho q => ?_
    cases ho with
    | @cel a1 n1 hp =>
      cases hx0 : cellL S1 n1 with
      | none => simp only [hx0] at q; exact False.elim q
      | some xs0 =>
        simp only [hx0] at q
        obtain ⟨vs0, h10, _, _⟩ := R1.cellL hp hx0
        refine ⟨.inl ⟨rfl, _, .inl (.inl h10)⟩, seqE OkS.mono R1 L1 q fun d S2 u F2 p2 H2 n2 R2 L2 hd q => ?_⟩
        split at q
        · rename_i xs hx
          split at q
          · rename_i hl
            obtain ⟨vs, h1, h2, h3⟩ := R2.cellL (pre_get n2.pre _ _ hp) hx
            refine ⟨a1, vs, u, rfl, rfl, h1, by rw [h3.length, ← LINE_eq]; exact hl, ?_⟩
            obtain ⟨R', n'⟩ := R2.put (o := .lst (vs ++ [u])) (c := .lst (xs ++ [d])) (pre_get n2.pre _ _ hp) (cellL_iff hx) fun H' z => ⟨_, z, by simp; omega, h3.append (.cons hd .nil)⟩
            exact (show OkS X.K E F2 p2 H2 (.nx ρ) _ from q) σ _ _ _ n' R' (L2.nx n')
          · exact False.elim q
        · exact False.elim q
    | _ => exact False.elim q
theorem ps_extD {apos cpos : Pos} (ha : PE X a (tE X.K W f)) (hb : PE X b (tE X.K W g)) (hs : swapsWith (.Call (.Attribute a "extend" apos) [b] [] cpos) none pos.line X.env = pure false)
    (hbase : attributeBase a "extend" X.env (eval a X.env) = eval a X.env)
    (hfew : ((backTo cpos (starEach [b] X.env)).all (fun x => !x.1) && (backToKw cpos (keywordEach [] X.env)).all (fun x => x.1.isSome)
      && decide (([b] : List Expr).length + ([] : List Keyword).length + (if ([] : List Keyword).isEmpty then 0 else 1) < 30)) = true)
    (hline : (apos.endLine == cpos.line) = true) (hst : starEach [b] X.env = (false, eval b X.env) :: starEach [] X.env) :
    PS X (.Expr (.Call (.Attribute a "extend" apos) [b] [] cpos) pos) (tS X.K W (sExt f g)) :=
  PS.imp (ps_expr (pe_bm PySem.F.plainAttrs_list PySem.F.slot_list_extend PySem.F.type_list_extend mt_extend ha (pa_cons hb pa_nil hst) hbase hfew hline hst rfl) hs) fun E σ H ⟨ρ, S, F, p, R, L, q⟩ => by
    refine seqE OkS.mono R L q fun o S1 v F1 p1 H1 n R1 L1 ho q => ?_
    cases ho with
    | @cel a1 n1 hp =>
      cases hx0 : cellL S1 n1 with
      | none => simp only [hx0] at q; exact False.elim q
      | some xs0 =>
        simp only [hx0] at q
        obtain ⟨vs0, h10, _, _⟩ := R1.cellL hp hx0
        refine ⟨.inl ⟨rfl, _, .inl (.inl h10)⟩, seqE OkS.mono R1 L1 q fun d S2 u F2 p2 H2 n2 R2 L2 hd q => ?_⟩
        split at q
        · rename_i xs ys hx hy
          split at hy
          · rename_i pl
            split at q
            · rename_i hl
              obtain ⟨vs, h1, h2, h3⟩ := R2.cellL (pre_get n2.pre _ _ hp) hx
              obtain ⟨b1, us, rfl, g1, g2, g3⟩ := R2.list' hd hy pl
              refine ⟨a1, b1, vs, us, rfl, rfl, h1, g1, by rw [h3.length, g3.length, ← LINE_eq]; exact hl, ?_⟩
              obtain ⟨R', n'⟩ := R2.put (o := .lst (vs ++ us)) (c := .lst (xs ++ ys)) (pre_get n2.pre _ _ hp) (cellL_iff hx) fun H' z => ⟨_, z, by simp; omega, h3.append g3⟩
              exact (show OkS X.K E F2 p2 H2 (.nx ρ) _ from q) σ _ _ _ n' R' (L2.nx n')
            · exact False.elim q
          · cases hy
        · exact False.elim q
    | _ => exact False.elim q
/-! loops -/
theorem ps_whileD {t : EvB} {u : EvS} {ys : List Stmt} (hp : PassesOwn (model X.prog X.w) X.A X.env X.xe) (hc : PT X c (tT X.K W t)) (hb : PSs X ys (tS X.K W u)) : PS X (.While c ys [] pos) (tS X.K W (sWhile t u)) :=
  PS.imp (ps_while hp hc hb) fun E σ H ⟨ρ, S, F, p, R, L, q⟩ => by
    refine ⟨fun m σ' H' => ∃ ρ' S' F' p', Nx F p H F' p' H' ∧ Hld X.K S' F' p' H' ∧ Slt X.K F' p' σ' ρ' ∧ (whileL t u m ρ' S').holds (OkS X.K E F p H) (ErP X.K W F p H), ⟨FU, ρ, S, F, p, Nx.refl, R, L, q⟩, ?_⟩
    rintro m σ1 H1 ⟨ρ1, S1, F1, p1, n1, R1, L1, q1⟩
    cases m with
    | zero => exact False.elim q1
    | succ m =>
      have q1 := O.bind_holds.mp (show ((t ρ1 S1).bind _).holds (OkS X.K E F p H) (ErP X.K W F p H) from q1)
      refine ⟨ρ1, S1, F1, p1, R1, L1, O.holds_mono q1 (fun b S2 q2 F2 p2 H2 n2 R2 => ?_) fun _ _ _ z => z.nx n1⟩
      have n12 := n1.trans n2
      cases b with
      | false => exact iteF ((show OkS X.K E F p H (.nx ρ1) S2 from q2) σ1 F2 p2 H2 n12 R2 (L1.nx n2))
      | true =>
        refine iteT ⟨fun σ' H' => ∃ ρ' S' F' p', Nx F p H F' p' H' ∧ Hld X.K S' F' p' H' ∧ Slt X.K F' p' σ' ρ' ∧ (whileL t u m ρ' S').holds (OkS X.K E F p H) (ErP X.K W F p H), fun σ' H' h => ⟨m, Nat.lt_succ_self m, h⟩, ?_⟩
        have q2 := O.bind_holds.mp (show ((u ρ1 S2).bind _).holds (OkS X.K E F p H) (ErP X.K W F p H) from q2)
        refine ⟨ρ1, S2, F2, p2, R2, L1.nx n2, O.holds_mono q2 (fun fl S3 q3 => ?_) fun _ _ _ z => z.nx n12⟩
        cases fl with
        | nx ρ3 => exact fun σ3 F3 p3 H3 n3 R3 L3 => ⟨ρ3, S3, F3, p3, n12.trans n3, R3, L3, q3⟩
        | rt d => exact fun v F3 p3 H3 n3 R3 hd => (show OkS X.K E F p H (.rt d) S3 from q3) v F3 p3 H3 (n12.trans n3) R3 hd
theorem ps_forD {tg iter : Expr} {t : EvG} {w : EvW} {u : EvS} {ys : List Stmt} (hp : PassesOwn (model X.prog X.w) X.A X.env X.xe) (hc : X.calm = true) (hi : PI X tg iter (tW X.K W w)) (hg : PG X tg (tG X.K W t)) (hb : PSs X ys (tS X.K W u))
    (hf : ∀ x, foldedSetIterable iter X.env x = pure x) : PS X (.For tg iter ys [] pos) (tS X.K W (sFor w t u)) :=
  PS.imp (ps_for hp hc hi hg hb hf) fun E σ H ⟨ρ, S, F, p, R, L, q⟩ => by
    refine ⟨ρ, S, F, p, R, L, O.holds_mono (O.bind_holds.mp q) (fun k S0 q J F0 p0 H0 n0 R0 wk => ?_) fun _ _ _ h => h⟩
    refine ⟨fun i m σ' H' => i ≤ k.its.length ∧ m = k.its.length - i ∧ ∃ ρ' S' F' p', Nx F0 p0 H0 F' p' H' ∧ Hld X.K S' F' p' H' ∧ Slt X.K F' p' σ' ρ' ∧ (forL t u k.src (k.its.drop i) ρ' S').holds (OkS X.K E F p H) (ErP X.K W F p H), ⟨k.its.length, Nat.zero_le _, by simp, ρ, S0, F0, p0, Nx.refl, R0, L.nx n0, by rw [List.drop_zero]; exact q⟩, ?_⟩
    rintro i m σ1 H1 ⟨hi', rfl, ρ1, S1, F1, p1, n1, R1, L1, q1⟩
    have n01 := n0.trans n1
    by_cases hlt : i < k.its.length
    · right
      rw [List.drop_eq_getElem_cons hlt] at q1
      obtain ⟨so, q1⟩ := keep_of (show (keepSrc k.src S1 _).holds _ _ from q1)
      refine ⟨wk.go i S1 F1 p1 H1 n1 R1 so hlt, fun σ' H' => i + 1 ≤ k.its.length ∧ ∃ ρ' S' F' p', Nx F0 p0 H0 F' p' H' ∧ Hld X.K S' F' p' H' ∧ Slt X.K F' p' σ' ρ' ∧ (forL t u k.src (k.its.drop (i + 1)) ρ' S').holds (OkS X.K E F p H) (ErP X.K W F p H), fun σ' H' ⟨h1, h2⟩ => ⟨k.its.length - (i + 1), by omega, h1, rfl, h2⟩, fun x H2 y => ?_⟩
      obtain ⟨F2, n2, R2, d, ed, hd⟩ := wk.yld i S1 F1 p1 H1 x H2 n1 R1 so hlt y
      have edd : k.its[i] = d := by rw [List.getElem?_eq_getElem hlt] at ed; exact Option.some.inj ed
      rw [edd] at q1
      have n02 := n01.trans n2
      refine ⟨ρ1, S1, F2, p1, d, R2, L1.nx n2, hd, O.holds_mono (O.bind_holds.mp q1) (fun ρ3 S3 q3 σ3 F3 p3 H3 n3 R3 L3 => ?_) fun _ _ _ z => z.nx n02⟩
      have n03 := n02.trans n3
      refine ⟨ρ3, S3, F3, p3, R3, L3, O.holds_mono (O.bind_holds.mp q3) (fun fl S4 q4 => ?_) fun _ _ _ z => z.nx n03⟩
      cases fl with
      | nx ρ4 => exact fun σ4 F4 p4 H4 n4 R4 L4 => ⟨hlt, ρ4, S4, F4, p4, n1.trans (n2.trans (n3.trans n4)), R4, L4, q4⟩
      | rt d => exact fun v F4 p4 H4 n4 R4 hd => (show OkS X.K E F p H (.rt d) S4 from q4) v F4 p4 H4 (n03.trans n4) R4 hd
    · left
      have e : i = k.its.length := by omega
      subst e
      rw [List.drop_length] at q1
      obtain ⟨so, q1⟩ := keep_of (show (keepSrc k.src S1 _).holds _ _ from q1)
      exact ⟨wk.stop S1 F1 p1 H1 n1 R1 so, (show OkS X.K E F p H (.nx ρ1) S1 from q1) σ1 F1 p1 H1 n01 R1 L1⟩
end
end DI
/-! DI: defs and calls. -/
namespace DI
open PySem PySem.Spec L2
open PyProof.Rows hiding St
/-! ### behind a call: the store is cut, the cells of the call are values -/
def IsRes (K : PySem.W.Frag) (F : Hp) (p : List Addr) (H0 H : Hp) : V → Res → Prop
  | v, .d d => IsD K F p v d
  | v, .new xs => ∃ q vs, v = .ref q ∧ H q = some (.lst vs) ∧ F q = none ∧ q ∉ p ∧ H0 q = none ∧ xs.length ≤ LINE ∧ IsDs K F p vs xs
def OkR (K : PySem.W.Frag) (F : Hp) (p : List Addr) (H : Hp) (Q : VK) : Res → Store → Prop := fun r S' =>
  ∀ v F' p' H', Nx F p H F' p' H' → Hld K S' F' p' H' → IsRes K F' p' H H' v r → Q v H'
theorem OkR.nx {K : PySem.W.Frag} {Q : VK} {F F1 : Hp} {p p1 : List Addr} {H H1 : Hp} (n : Nx F p H F1 p1 H1) (R : ∀ a, a ∈ p → H a ≠ none) (r : Res) (S : Store) (h : OkR K F p H Q r S) : OkR K F1 p1 H1 Q r S :=
  fun v F' p' H' n' R' hr => h v F' p' H' (n.trans n') R' (by
    cases r with
    | d d => exact hr
    | new xs =>
      obtain ⟨q, vs, h1, h2, h3, h4, h5, h6, h7⟩ := hr
      refine ⟨q, vs, h1, h2, h3, h4, ?_, h6, h7⟩
      cases e : H q with
      | none => rfl
      | some o =>
        by_cases hq : q ∈ p
        · exact absurd ((n.trans n').pre.subset hq) h4
        · rw [n.keep q o e hq] at h5; cases h5)
section
variable {K : PySem.W.Frag} {F F2 : Hp} {p : List Addr} {b : Nat}
theorem take_get {n : Nat} {a : Addr} (h : p[n]? = some a) (hn : n < b) : (p.take b)[n]? = some a := by
  rw [List.getElem?_take_of_lt hn]; exact h
mutual
theorem IsD.lowT (e : ∀ a o, F a = some o → F2 a = some o) : ∀ {v : V} {d : D}, IsD K F p v d → d.low b = true → IsD K F2 (p.take b) v d
  | _, _, .non, _ => .non
  | _, _, .bl b, _ => .bl b
  | _, _, .int i, _ => .int i
  | _, _, .str x, _ => .str x
  | _, _, .lst h l t, w => .lst (e _ _ h) l (IsDs.lowT e t w)
  | _, _, .tup h l t, w => .tup (same_sqT e h) l (IsDs.lowT e t w)
  | _, _, .scr h l, _ => .scr (same_sqL e h) l
  | _, _, .emp h, _ => .emp (e _ _ h)
  | _, _, .cel h, w => .cel (take_get h (of_decide_eq_true w))
theorem IsDs.lowT (e : ∀ a o, F a = some o → F2 a = some o) : ∀ {vs : List V} {ds : List D}, IsDs K F p vs ds → lowL b ds = true → IsDs K F2 (p.take b) vs ds
  | _, _, .nil, _ => .nil
  | _, _, .cons (d := d) (ds := ds) h t, w => by
    have w : (d.low b && lowL b ds) = true := w
    rw [Bool.and_eq_true] at w
    exact .cons (IsD.lowT e h w.1) (IsDs.lowT e t w.2)
end
theorem IsK.lowT (e : ∀ a o, F a = some o → F2 a = some o) : ∀ {ws : List (Key × V)} {kvs : List (Key × D)}, IsK K F p ws kvs → lowL b (kvs.map (·.2)) = true → IsK K F2 (p.take b) ws kvs
  | _, _, .nil, _ => .nil
  | _, _, .cons (d := d) (kvs := kvs) h t, w => by
    have w : (d.low b && lowL b (kvs.map (·.2))) = true := w
    rw [Bool.and_eq_true] at w
    exact .cons (h.lowT e w.1) (IsK.lowT e t w.2)
theorem frzAll_len {f : D → Option D} : ∀ {xs ys : List D}, frzAll f xs = some ys → ys.length = xs.length
  | [], ys, h => by cases h; rfl
  | x :: r, ys, h => by
    unfold frzAll at h
    split at h
    · rename_i y t h1 h2
      cases h
      rw [List.length_cons, List.length_cons, frzAll_len h2]
    · cases h
theorem frzAll_ok {f : D → Option D} (hf : ∀ v d d', IsD K F p v d → f d = some d' → IsD K F2 (p.take b) v d') : ∀ {vs : List V} {ds ds' : List D}, IsDs K F p vs ds → frzAll f ds = some ds' → IsDs K F2 (p.take b) vs ds'
  | _, _, ds', .nil, h => by cases h; exact .nil
  | _, _, ds', .cons hd t, h => by
    unfold frzAll at h
    split at h
    · rename_i y t' h1 h2
      cases h
      exact .cons (hf _ _ _ hd h1) (frzAll_ok hf t h2)
    · cases h
theorem frz_ok {S : Store} (e : ∀ a o, F a = some o → F2 a = some o) (hc : ∀ n a xs, p[n]? = some a → b ≤ n → cellL S n = some xs → ∃ vs, F2 a = some (.lst vs) ∧ xs.length ≤ LINE ∧ IsDs K F p vs xs) :
    ∀ (k : Nat) (v : V) (d d' : D), IsD K F p v d → frzD S b k d = some d' → IsD K F2 (p.take b) v d'
  | 0, v, d, d', h, q => by
    unfold frzD at q
    split at q
    · cases q; exact h.lowT e (by assumption)
    · cases q
  | k + 1, v, d, d', h, q => by
    unfold frzD at q
    split at q
    · cases q; exact h.lowT e (by assumption)
    · rename_i hl
      cases h with
      | cel hp =>
        rename_i a n
        have hn : b ≤ n := by
          have : ¬ (decide (n < b) = true) := hl
          rw [decide_eq_true_eq] at this
          omega
        cases hx : cellL S n with
        | none => simp only [hx] at q; cases q
        | some xs =>
          simp only [hx] at q
          obtain ⟨ys, h1, rfl⟩ := Option.map_eq_some_iff.mp q
          obtain ⟨vs, g1, g2, g3⟩ := hc n a xs hp hn hx
          exact .lst g1 (by rw [frzAll_len h1]; exact g2) (frzAll_ok (frz_ok e hc k) g3 h1)
      | lst h1 h2 h3 =>
        obtain ⟨ys, h4, rfl⟩ := Option.map_eq_some_iff.mp (show (frzAll (frzD S b k) _).map _ = some d' from q)
        exact .lst (e _ _ h1) (by rw [frzAll_len h4]; exact h2) (frzAll_ok (frz_ok e hc k) h3 h4)
      | tup h1 h2 h3 =>
        obtain ⟨ys, h4, rfl⟩ := Option.map_eq_some_iff.mp (show (frzAll (frzD S b k) _).map _ = some d' from q)
        exact .tup (same_sqT e h1) (by rw [frzAll_len h4]; exact h2) (frzAll_ok (frz_ok e hc k) h3 h4)
      | _ => cases q
end
theorem cut_ok {K : PySem.W.Frag} {S0 S : Store} {F F1 : Hp} {p p1 : List Addr} {H H1 : Hp} (R0 : Hld K S0 F p H) (n : Nx F p H F1 p1 H1) (R : Hld K S F1 p1 H1) (ex : List Addr) (F2 : Hp)
    (h2 : ∀ a, F2 a = if a ∈ p1 ∧ a ∉ p ∧ a ∉ ex then H1 a else F1 a) : Hld K (cleanS S0.length S) F2 p H1 ∧ Nx F p H F2 p H1 ∧ (∀ a o, F1 a = some o → F2 a = some o) ∧ p1.take S0.length = p := by
  have ep : p1.take S0.length = p := by
    obtain ⟨t, rfl⟩ := n.pre
    rw [← R0.len]; simp
  have up : ∀ a o, F1 a = some o → F2 a = some o := fun a o z => by
    rw [h2]
    split
    · exact R.sub a o z
    · exact z
  refine ⟨⟨fun a o z => ?_, ?_, R0.nd, fun a ha => R.there a (n.pre.subset ha), fun m a c hp hs => ?_⟩, ⟨fun a o z => up a o (n.ext a o z), List.prefix_refl _, n.keep, fun a z h => absurd z h, fun a z h => ?_⟩, up, ep⟩
  · rw [h2] at z
    split at z
    · exact z
    · exact R.sub a o z
  · unfold cleanS
    rw [List.length_map, List.length_take, ← R.len, ← R0.len]
    exact (Nat.min_eq_left n.pre.length_le).symm
  · have hm : m < S0.length := by
      rw [← R0.len]; exact (List.getElem?_eq_some_iff.mp hp).1
    unfold cleanS at hs
    rw [List.getElem?_map, List.getElem?_take_of_lt hm] at hs
    have hp1 := n.get m a hp
    cases e : S[m]? with
    | none => rw [e] at hs; cases hs
    | some oc =>
      rw [e] at hs
      cases oc with
      | none => cases hs
      | some c0 =>
        have hs : cleanC S0.length (some c0) = some c := Option.some.inj hs
        unfold cleanC at hs
        simp only [] at hs
        split at hs
        · rename_i hl
          cases hs
          obtain ⟨f1, hc⟩ := R.cell m a c hp1 e
          refine ⟨?_, ?_⟩
          · rw [h2, if_neg (fun z => z.2.1 (List.mem_of_getElem? hp))]; exact f1
          · cases c with
            | lst xs =>
              obtain ⟨vs, g1, g2, g3⟩ := hc
              exact ⟨vs, g1, g2, by rw [← ep]; exact g3.lowT up hl⟩
            | dct kvs =>
              obtain ⟨ws, g1, g3⟩ := hc
              exact ⟨ws, g1, by rw [← ep]; exact g3.lowT up hl⟩
        · cases hs
  · rw [h2] at z
    split at z
    · rename_i q
      exact .inl (n.newp a q.1 q.2.1)
    · exact n.newF a z h
open Classical in
theorem ret_ok {K : PySem.W.Frag} {S0 S : Store} {F F1 : Hp} {p p1 : List Addr} {H H1 : Hp} {v : V} {d : D} {Q : VK} {E : Ex → Rho → Store → Prop} (R0 : Hld K S0 F p H) (n : Nx F p H F1 p1 H1) (R : Hld K S F1 p1 H1) (hd : IsD K F1 p1 v d)
    (h : (retF S0.length d S).holds (OkR K F p H Q) E) : Q v H1 := by
  have out : ∀ {m : Nat} {a : Addr}, p1[m]? = some a → S0.length ≤ m → a ∉ p := fun {m a} hp hm ha => by
    obtain ⟨j, hj⟩ := List.getElem?_of_mem ha
    have := nodup_get R.nd hp (n.get j a hj)
    have := (List.getElem?_eq_some_iff.mp hj).1
    rw [R0.len] at this
    omega
  -- with nothing kept back
  have plain : ∀ {d' : D}, frzD S S0.length 3 d = some d' → (O.ok (Res.d d') (cleanS S0.length S)).holds (OkR K F p H Q) E → Q v H1 := fun {d'} hz h => by
    obtain ⟨R', n', up, ep⟩ := cut_ok R0 n R [] (fun a => if a ∈ p1 ∧ a ∉ p ∧ a ∉ ([] : List Addr) then H1 a else F1 a) (fun _ => rfl)
    refine (show OkR K F p H Q (.d d') (cleanS S0.length S) from h) v _ p H1 n' R' ?_
    have q := frz_ok (b := S0.length) (S := S) up (fun m a xs hp hm hx => by
      obtain ⟨vs, g1, g2, g3⟩ := R.cellL hp hx
      exact ⟨vs, by rw [if_pos ⟨List.mem_of_getElem? hp, out hp hm, List.not_mem_nil⟩]; exact g1, g2, g3⟩) 3 v d d' hd hz
    rw [ep] at q
    exact q
  unfold retF at h
  split at h
  · rename_i m
    cases hd with
    | @cel a _ hp =>
      split at h
      · rename_i hm
        refine plain (d' := .cel m) ?_ h
        unfold frzD
        rw [if_pos (show (D.cel m).low S0.length = true from decide_eq_true hm)]
      · rename_i hm
        have hm : S0.length ≤ m := by omega
        split at h
        · rename_i xs hx
          split at h
          · rename_i ys hy
            obtain ⟨vs, g1, g2, g3⟩ := R.cellL hp hx
            obtain ⟨R', n', up, ep⟩ := cut_ok R0 n R [a] (fun x => if x ∈ p1 ∧ x ∉ p ∧ x ∉ [a] then H1 x else F1 x) (fun _ => rfl)
            have hap := out hp hm
            have fa : F1 a = none := (R.cell m a _ hp (cellL_iff hx)).1
            refine (show OkR K F p H Q (.new ys) (cleanS S0.length S) from h) (.ref a) _ p H1 n' R' ⟨a, vs, rfl, g1, ?_, hap, n.newp a (List.mem_of_getElem? hp) hap, by rw [frzAll_len hy]; exact g2, ?_⟩
            · show (if a ∈ p1 ∧ a ∉ p ∧ a ∉ [a] then H1 a else F1 a) = none
              rw [if_neg (fun z => z.2.2 (List.mem_singleton.mpr rfl))]; exact fa
            · have q := frzAll_ok (b := S0.length) (frz_ok (b := S0.length) (S := S.set m none) up (fun j x zs hpj hj hz => by
                have hjm : j ≠ m := fun z => by
                  subst z
                  unfold cellL at hz
                  by_cases hl : j < S.length
                  · rw [List.getElem?_set_self hl] at hz; cases hz
                  · rw [List.getElem?_eq_none (by simpa using hl)] at hz; cases hz
                have hz' : cellL S j = some zs := by
                  unfold cellL at hz ⊢
                  rw [List.getElem?_set_ne (Ne.symm hjm)] at hz; exact hz
                obtain ⟨us, k1, k2, k3⟩ := R.cellL hpj hz'
                have hxa : x ≠ a := fun z => by subst z; exact hjm (nodup_get R.nd hpj hp)
                exact ⟨us, by rw [if_pos ⟨List.mem_of_getElem? hpj, out hpj hj, fun z => hxa (List.mem_singleton.mp z)⟩]; exact k1, k2, k3⟩) 3) g3 hy
              rw [ep] at q
              exact q
          · exact False.elim h
        · exact False.elim h
  · split at h
    · rename_i e he
      exact plain he h
    · exact False.elim h
/-! ### defs -/
/-- a def's promise; the guards stand as at the caller -/
structure FnG (P : Program) (w : World) (K : PySem.W.Frag) (mg : Str → Option Value) (base : Heap) (CX : CXT) (k : Nat) (f : Addr) (fd : FuncData) (ps : List Str) (sp : Sp) : Prop where
  len : ∀ vs H Q E, sp vs H Q E → vs.length = ps.length
  run : ∀ (A : Around) (outer : List Env) (s : Shared) (H : Hp) (args : Args) (us : List Value) (vs : List V) (Q : VK) (E : XK), Room k A → A.guards = some [] → Env0 P w K mg base A outer s H → BindsTo s fd args (ps.zip us) → Vals vs us → sp vs H Q E →
    codeAny (model P w) A (.call (.ref f) args) (CR CX outer P w H s Q E) s
theorem fn_ofG {CX : CXT} {P : Program} {w : World} {K : PySem.W.Frag} {mg : Str → Option Value} {base : Heap} {k : Nat} {f : Addr} {name qual : Str} {params : Arguments} {body : List Stmt} {scope : Scope} {dV kV doc pm cdv ct oc : Value} {an od : Option Addr}
    {osl : Array (Option Value)} {N ps : List Str} {sp : Sp} (lk : K.lookup f = some ⟨oc, od, .func (PySem.W.fnOf name qual params body scope dV kV doc pm an cdv ct), osl⟩) (hcd : PySem.W.codeIn K cdv qual = true) (S : FnScope N ps scope)
    (len : ∀ vs H Q E, sp vs H Q E → vs.length = ps.length)
    (hbody : ∀ (A : Around) (outer : List Env) (s : Shared) (H : Hp) (vs : List V) (Q : VK) (E : XK), Room k (A.deeper (envOfC qual scope s.heap.objs.size f cdv)) → A.guards = some [] → sp vs H Q E →
      ∃ t, PSs (cxOf CX P w K mg base N qual scope f cdv A outer s H E) body t ∧ t { nx := fun _ H' => Q .non H', rt := Q } (start N vs) H) :
    FnG P w K mg base CX (k + 1) f (PySem.W.fnOf name qual params body scope dV kV doc pm an cdv ct) ps sp := by
  refine ⟨len, fun A outer s H args us vs Q E hr hg e0 hb r hsp => ?_⟩
  have hl := len _ _ _ _ hsp
  have KX : K.In s.heap := e0.mod.kin.keeps fun b o e => (e0.bs b o e).1
  have lim : s.heap.NoLimit := e0.mod.nolimit.keeps fun b o e => (e0.bs b o e).1
  have hkind : ∀ y ∈ ps.zip us, scope.names.lookup y.1 = some .local ∨ (scope.names.lookup y.1 = some .cell ∧ ((cellsFrom (s.heap.objs.size + 1) scope.names []).lookup y.1).isSome = true) := fun ⟨n, v⟩ hy => by
    rcases S.par n (List.of_mem_zip hy).1 with q | q
    · exact .inl q
    · exact .inr ⟨q, PySem.W.cellsFrom_some _ _ _ (.inl q)⟩
  refine codeAny_call_function hr.depth (KX _ _ lk) rfl S.co S.gen rfl (PySem.W.codeRec_of KX hcd) (hb _ _ _ _ ?_)
  refine wpAny_newFunctionEnv_cells S.kind hkind fun env he s1 x => ?_
  subst he
  refine ⟨lim.keeps x.toInCall.keep, codeAny_func ?_⟩
  obtain ⟨t, ht, hq⟩ := hbody A outer s H vs Q E (hr.deeper _) hg hsp
  have I : Inv (cxOf CX P w K mg base N qual scope f cdv A outer s H E) [] (start N vs) H s1 := inv_start S hr.hd e0 hl r x
  refine wpAny_mono (ht.run [] s1 (start N vs) H _ I hq) (fun fl s' hs => ?_) fun e s' hs => hs
  have fin : ∀ {σ' : St} {H' : Hp} {v : V} {u : Value}, Inv (cxOf CX P w K mg base N qual scope f cdv A outer s H E) [] σ' H' s' → RelV v u → Q v H' → CE outer P w H s Q u s' :=
    fun {σ' H' v u} J rv q => ⟨v, H', J.os, J.bare, J.base, J.hok, rv, q⟩
  cases fl with
  | ret u =>
    obtain ⟨v, σ', H', J, rv, q⟩ := hs
    exact fin J rv q
  | next =>
    obtain ⟨σ', H', J, q⟩ := hs
    exact fin (v := V.non) (u := Value.none) J rfl q
  | brk =>
    obtain ⟨_, _, _, q⟩ := hs
    exact False.elim q
  | cont =>
    obtain ⟨_, _, _, q⟩ := hs
    exact False.elim q
/-- a def's promise by plain data -/
def spF (K : PySem.W.Frag) (n : Nat) (c : List D → Store → O Res) : Sp := fun vs H Q _ => vs.length = n ∧ ∃ S F p ds, Hld K S F p H ∧ IsDs K F p vs ds ∧ (c ds S).calm.holds (OkR K F p H Q) EF
/-- an own def, as the text stands behind the top -/
structure Own (P : Program) (w : World) (K : PySem.W.Frag) (mg : Str → Option Value) (base : Heap) (k : Nat) (x : Str) (st : Stmt) (ps : List Str) (c : List D → Store → O Res) : Prop where
  ex : ∃ f fd, L2.Fun K x x st f fd ∧ FnG P w K mg base L2.CX0 k f fd ps (spF K ps.length c) ∧ mg x = some (.ref f)
  len : ∀ ds S, ds.length ≠ ps.length → c ds S = .no
theorem Own.mono {P : Program} {w : World} {K : PySem.W.Frag} {mg : Str → Option Value} {base : Heap} {j k : Nat} {x : Str} {st : Stmt} {ps : List Str} {c : List D → Store → O Res} (o : Own P w K mg base j x st ps c) (h : j ≤ k) : Own P w K mg base k x st ps c := by
  obtain ⟨f, fd, Fu, F, hm⟩ := o.ex
  exact ⟨⟨f, fd, Fu, ⟨F.len, fun A outer s H args us vs Q E hr => F.run A outer s H args us vs Q E (hr.mono h)⟩, hm⟩, o.len⟩
/-- positional values bind -/
def BindsP (x : Str) (st : Stmt) (ps : List Str) : Prop := ∀ (kV doc pm : Value) (an : Option Addr) (cdv ct : Value) (us : List Value), us.length = ps.length → bindArgs (PySem.W.fnOf x x (defArgs st) (defBody st) (defScope st) .none kV doc pm an cdv ct) ⟨us, []⟩ = pure (ps.zip us)
/-- .. with keywords -/
def BindsK (x : Str) (st : Stmt) (ps : List Str) (m : Nat) (ks : List Str) : Prop := ∀ (kV doc pm : Value) (an : Option Addr) (cdv ct : Value) (us ws : List Value), us.length = m → ws.length = ks.length → bindArgs (PySem.W.fnOf x x (defArgs st) (defBody st) (defScope st) .none kV doc pm an cdv ct) ⟨us, ks.zip ws⟩ = pure (ps.zip (arr ps ks us ws))
theorem BindsP.to {K : PySem.W.Frag} {x : Str} {st : Stmt} {ps : List Str} {f : Addr} {fd : FuncData} (b : BindsP x st ps) (F : L2.Fun K x x st f fd) (us : List Value) (hl : us.length = ps.length) : bindArgs fd ⟨us, []⟩ = pure (ps.zip us) := by
  obtain ⟨oc, od, kV, doc, pm, an, cdv, ct, osl, rfl, lk, hcd⟩ := F.ex
  exact b kV doc pm an cdv ct us hl
theorem BindsK.to {K : PySem.W.Frag} {x : Str} {st : Stmt} {ps ks : List Str} {m : Nat} {f : Addr} {fd : FuncData} (b : BindsK x st ps m ks) (F : L2.Fun K x x st f fd) (us ws : List Value) (h1 : us.length = m) (h2 : ws.length = ks.length) : bindArgs fd ⟨us, ks.zip ws⟩ = pure (ps.zip (arr ps ks us ws)) := by
  obtain ⟨oc, od, kV, doc, pm, an, cdv, ct, osl, rfl, lk, hcd⟩ := F.ex
  exact b kV doc pm an cdv ct us ws h1 h2
theorem lookup_rel (p : Str) : ∀ {ks : List Str} {zs : List V} {ws : List Value}, Vals zs ws → (List.lookup p (ks.zip zs) = none ∧ List.lookup p (ks.zip ws) = none) ∨ ∃ z w, List.lookup p (ks.zip zs) = some z ∧ List.lookup p (ks.zip ws) = some w ∧ RelV z w
  | [], _, _, _ => .inl ⟨rfl, rfl⟩
  | _ :: _, _, _, .nil => .inl ⟨rfl, rfl⟩
  | q :: ks, _, _, .cons (a := z) (b := w) r t => by
    rw [List.zip_cons_cons, List.zip_cons_cons, List.lookup_cons, List.lookup_cons]
    cases p == q with
    | true => exact .inr ⟨_, _, rfl, rfl, r⟩
    | false => exact lookup_rel (ks := ks) p t
theorem lookup_relD {K : PySem.W.Frag} {F : Hp} {q : List Addr} (p : Str) : ∀ {ks : List Str} {zs : List V} {ds : List D}, IsDs K F q zs ds → (List.lookup p (ks.zip zs) = none ∧ List.lookup p (ks.zip ds) = none) ∨ ∃ z d, List.lookup p (ks.zip zs) = some z ∧ List.lookup p (ks.zip ds) = some d ∧ IsD K F q z d
  | [], _, _, _ => .inl ⟨rfl, rfl⟩
  | _ :: _, _, _, .nil => .inl ⟨rfl, rfl⟩
  | k :: ks, _, _, .cons (v := z) (d := d) r t => by
    rw [List.zip_cons_cons, List.zip_cons_cons, List.lookup_cons, List.lookup_cons]
    cases p == k with
    | true => exact .inr ⟨_, _, rfl, rfl, r⟩
    | false => exact lookup_relD p t
theorem Paired.len {zs : List V} {ws : List Value} (h : Vals zs ws) : zs.length = ws.length := h.length
theorem arr_rel {ps ks : List Str} {vs zs : List V} {us ws : List Value} (h : Vals vs us) (g : Vals zs ws) : Vals (arr ps ks vs zs) (arr ps ks us ws) := by
  unfold arr
  rw [h.length]
  refine h.append ?_
  generalize ps.drop us.length = l
  induction l with
  | nil => exact .nil
  | cons p l ih =>
    rcases lookup_rel (ks := ks) p g with ⟨h1, h2⟩ | ⟨z, w, h1, h2, r⟩
    · rw [List.filterMap_cons_none (by exact h1), List.filterMap_cons_none (by exact h2)]; exact ih
    · rw [List.filterMap_cons_some (by exact h1), List.filterMap_cons_some (by exact h2)]; exact .cons r ih
theorem arr_relD {K : PySem.W.Frag} {F : Hp} {q : List Addr} {ps ks : List Str} {vs zs : List V} {ds es : List D} (h : IsDs K F q vs ds) (g : IsDs K F q zs es) : IsDs K F q (arr ps ks vs zs) (arr ps ks ds es) := by
  unfold arr
  rw [h.length]
  refine h.append ?_
  generalize ps.drop ds.length = l
  induction l with
  | nil => exact .nil
  | cons p l ih =>
    rcases lookup_relD (ks := ks) p g with ⟨h1, h2⟩ | ⟨z, w, h1, h2, r⟩
    · rw [List.filterMap_cons_none (by exact h1), List.filterMap_cons_none (by exact h2)]; exact ih
    · rw [List.filterMap_cons_some (by exact h1), List.filterMap_cons_some (by exact h2)]; exact .cons r ih
section
variable {X : Cx} {W : WX} {pos : Pos} {al : Bool} {k : Nat} {x : Str} {st : Stmt} {ps : List Str} {c : List D → Store → O Res}
theorem own_imp {Q : VK} {ds : List D} {S1 : Store} {vs : List V} {F1 : Hp} {p1 : List Addr} {H1 : Hp} {E : Ex → Rho → Store → Prop} {E2 : XK} (hn : ∀ ds S, ds.length ≠ ps.length → c ds S = .no) (R1 : Hld X.K S1 F1 p1 H1) (hd : IsDs X.K F1 p1 vs ds) (q : ((c ds S1).calm.bind fun r S2 => settle al r S2).holds (OkEE X.K Q F1 p1 H1) E) :
    spF X.K ps.length c vs H1 Q E2 := by
  have hl : ds.length = ps.length := by
    by_cases h : ds.length = ps.length
    · exact h
    · rw [hn ds S1 h] at q; exact False.elim q
  refine ⟨by rw [hd.length, hl], S1, F1, p1, ds, R1, hd, ?_⟩
  cases e : (c ds S1).calm with
  | no => rw [e] at q; exact False.elim q
  | er x ρ S => cases h : c ds S1 <;> rw [h] at e <;> cases e
  | ok r S2 =>
    rw [e] at q
    have q : (settle al r S2).holds (OkEE X.K Q F1 p1 H1) E := q
    show OkR X.K F1 p1 H1 Q r S2
    intro v F' p' H' n R' hr
    cases r with
    | d d => exact (show OkE X.K F1 p1 H1 Q d S2 from q) v F' p' H' n R' hr
    | new xs =>
      obtain ⟨a, us, rfl, g1, g2, g3, g4, g5, g6⟩ := hr
      exact settle_at R' n g2 g3 g4 g1 g5 g6 q
theorem run_fnG {CX : CXT} {f : Addr} {fd : FuncData} {sp : Sp} {E : XK} {pins : List (Addr × Obj)} {σ : St} {H : Hp} {s : Shared} {Q : VK} {args : Args} {us : List Value} {vs : List V} {kw : List (Str × Value)} {us0 : List Value} (F : FnG X.prog X.w X.K X.mg X.base CX k f fd ps sp) (hr : Room k X.A) (hgd : X.A.guards = some []) (hb : (us.length = ps.length) → BindsTo s fd ⟨us0, kw⟩ (ps.zip us)) (hx : Passes CX X E)
    (I : Inv X pins σ H s) (r : Vals vs us) (h : sp vs H Q E) : wpAny (model X.prog X.w) X.A (call (.ref f) us0 kw) (EP X pins σ Q) X.xe s := by
  have hl : us.length = ps.length := by rw [← r.length]; exact F.len _ _ _ _ h
  refine wpAny_call (codeAny_mono (F.run X.A X.stack s H ⟨us0, kw⟩ us vs Q E hr hgd I.env0 (hb hl) r h) fun r s' hq => ?_)
  cases r with
  | error e => exact hx pins σ H s e s' I hq
  | ok fl =>
    cases fl with
    | ret u => exact I.after hq
    | next => exact False.elim hq
    | brk => exact False.elim hq
    | cont => exact False.elim hq
theorem s_own {e : Expr} {es : List Expr} {g : EvL} {p : Pos} (ow : Own X.prog X.w X.K X.mg X.base k x st ps c) (hr : Room k X.A) (hgd : X.A.guards = some []) (hg : Gl X x) (hb : BindsP x st ps) (ha : PA X (e :: es) (tL X.K W g))
    (hdb : (x == ("__debug__" : Str)) = false) (he : starEach (e :: es) X.env = (false, eval e X.env) :: starEach es X.env) (hpl : (backTo pos (starEach es X.env)).any (·.1) = false) :
    PE X (.Call (.Name x p) (e :: es) [] pos) (tE X.K W (eOwn al c g)) := by
  obtain ⟨f, fd, Fu, F, hm⟩ := ow.ex
  have hk := Fu.kp
  refine ⟨fun pins s σ H Q I ⟨ρ, S, F0, p0, R, L, q⟩ => ?_⟩
  refine wpAny_Call_Name_kw (ld_glob I hg hm ?_ hdb)
  refine PySem.W.callWith_K (h₀ := X.base) I.ok.mod.kin hk (thn (ha.run pos pins s σ H _ I (seqL OkEE.mono R L q fun ds S1 vs F1 p1 H1 n R1 L1 hd q => own_imp (E2 := fun _ _ _ => False) ow.len R1 hd q)) fun us s1 ⟨vs, H1, I1, r, q⟩ => ⟨I1.kIn, ?_⟩) he hpl
  exact run_fnG (args := ⟨us, []⟩) F hr hgd (fun hl => .of_eq (hb.to Fu us hl)) (fun _ _ _ _ _ _ _ h => h.elim) I1 r q
theorem s_own0 {p : Pos} (ow : Own X.prog X.w X.K X.mg X.base k x st ps c) (hr : Room k X.A) (hgd : X.A.guards = some []) (hg : Gl X x) (hb : BindsP x st ps) (hdb : (x == ("__debug__" : Str)) = false) :
    PE X (.Call (.Name x p) [] [] pos) (tE X.K W (eOwn al c eNil)) := by
  obtain ⟨f, fd, Fu, F, hm⟩ := ow.ex
  have hk := Fu.kp
  refine ⟨fun pins s σ H Q I ⟨ρ, S, F0, p0, R, L, q⟩ => ?_⟩
  refine wpAny_Call_Name_kw (ld_glob I hg hm ?_ hdb)
  exact PySem.W.callWith_K0 I.kIn hk (run_fnG (us := []) (vs := []) (args := ⟨[], []⟩) F hr hgd (fun hl => .of_eq (hb.to Fu [] hl)) (fun _ _ _ _ _ _ _ h => h.elim) I .nil (own_imp (E2 := fun _ _ _ => False) ow.len R .nil q))
/-- with keywords -/
theorem s_ownK {m : Nat} {ks : List Str} {e : Expr} {es : List Expr} {kws : List Keyword} {g h : EvL} {p : Pos} (ow : Own X.prog X.w X.K X.mg X.base k x st ps c) (hr : Room k X.A) (hgd : X.A.guards = some []) (hg : Gl X x) (hb : BindsK x st ps m ks) (ha : PA X (e :: es) (tL X.K W g)) (hkw : PK X kws (tL X.K W h))
    (hall : (backToKw pos (keywordEach kws X.env)).all (·.1.isSome) = true) (hks : (backToKw pos (keywordEach kws X.env)).filterMap (·.1) = ks)
    (hdb : (x == ("__debug__" : Str)) = false) (he : starEach (e :: es) X.env = (false, eval e X.env) :: starEach es X.env)
    (hpl : ((backTo pos (starEach (e :: es) X.env)).any (·.1) || (backToKw pos (keywordEach kws X.env)).any (·.1.isNone)) = false) :
    PE X (.Call (.Name x p) (e :: es) kws pos) (tE X.K W (eOwnK al c m ps ks g h)) := by
  obtain ⟨f, fd, Fu, F, hm⟩ := ow.ex
  have hk := Fu.kp
  refine ⟨fun pins s σ H Q I ⟨ρ, S, F0, p0, R, L, q⟩ => ?_⟩
  refine wpAny_Call_Name_kw (ld_glob I hg hm ?_ hdb)
  refine PySem.W.callWith_KW (h₀ := X.base) I.ok.mod.kin hk hall (thn (ha.run pos pins s σ H (fun vs H1 => tL X.K W h σ H1 fun zs H2 => spF X.K ps.length c (arr ps ks vs zs) H2 Q (fun _ _ _ => False) ∧ vs.length = m ∧ zs.length = ks.length) I (seqL OkEE.mono R L q fun ds S1 vs F1 p1 H1 n R1 L1 hd q => seqL OkEE.mono R1 L1 q fun es S2 zs F2 p2 H2 n2 R2 L2 hz q => ?_)) fun us s1 ⟨vs, H1, I1, r, q⟩ => ?_) hpl he
  · split at q
    · rename_i hl
      exact ⟨own_imp ow.len R2 (arr_relD (hd.nx n2) hz) q, by rw [hd.length, hl.1], by rw [hz.length, hl.2]⟩
    · exact False.elim q
  · refine thn (hkw.run pos pins s1 σ H1 _ I1 q) fun ws s2 ⟨zs, H2, I2, rz, q2, l1, l2⟩ => ⟨I2.kIn, ?_⟩
    rw [hks]
    exact run_fnG (args := ⟨us, []⟩) F hr hgd (fun hl => .of_eq (hb.to Fu us ws (by rw [← r.length]; exact l1) (by rw [← rz.length]; exact l2))) (fun _ _ _ _ _ _ _ h => h.elim) I2 (arr_rel r rz) q2
theorem s_ownK0 {ks : List Str} {kws : List Keyword} {h : EvL} {p : Pos} (ow : Own X.prog X.w X.K X.mg X.base k x st ps c) (hr : Room k X.A) (hgd : X.A.guards = some []) (hg : Gl X x) (hb : BindsK x st ps 0 ks) (hkw : PK X kws (tL X.K W h))
    (hall : (backToKw pos (keywordEach kws X.env)).all (·.1.isSome) = true) (hks : (backToKw pos (keywordEach kws X.env)).filterMap (·.1) = ks)
    (hdb : (x == ("__debug__" : Str)) = false) (hpl : ((backTo pos (starEach [] X.env)).any (·.1) || (backToKw pos (keywordEach kws X.env)).any (·.1.isNone)) = false) :
    PE X (.Call (.Name x p) [] kws pos) (tE X.K W (eOwnK al c 0 ps ks eNil h)) := by
  obtain ⟨f, fd, Fu, F, hm⟩ := ow.ex
  have hk := Fu.kp
  refine ⟨fun pins s σ H Q I ⟨ρ, S, F0, p0, R, L, q⟩ => ?_⟩
  refine wpAny_Call_Name_kw (ld_glob I hg hm ?_ hdb)
  have q : ((h ρ S).bind fun es S2 => if ([] : List D).length = 0 ∧ es.length = ks.length then (c (arr ps ks [] es) S2).calm.bind fun r S3 => settle al r S3 else .no).holds (OkEE X.K Q F0 p0 H) (ErP X.K W F0 p0 H) := q
  refine PySem.W.callWith_KW0 (h₀ := X.base) I.ok.mod.kin hk hall (thn (hkw.run pos pins s σ H (fun zs H2 => spF X.K ps.length c (arr ps ks [] zs) H2 Q (fun _ _ _ => False) ∧ zs.length = ks.length) I (seqL OkEE.mono R L q fun es S2 zs F2 p2 H2 n2 R2 L2 hz q => ?_)) fun ws s2 ⟨zs, H2, I2, rz, q2, l2⟩ => ⟨I2.kIn, ?_⟩) hpl
  · split at q
    · rename_i hl
      exact ⟨own_imp ow.len R2 (arr_relD .nil hz) q, by rw [hz.length, hl.2]⟩
    · exact False.elim q
  · rw [hks]
    exact run_fnG (args := ⟨[], []⟩) F hr hgd (fun hl => .of_eq (hb.to Fu [] ws rfl (by rw [← rz.length]; exact l2))) (fun _ _ _ _ _ _ _ h => h.elim) I2 (arr_rel .nil rz) q2
end
/-- a def's body keeps the def's promise -/
theorem own_of {P : Program} {w : World} {K : PySem.W.Frag} {mg : Str → Option Value} {base : Heap} {k : Nat} {x : Str} {f : Addr} {st : Stmt} {fd : FuncData} {N ps : List Str} {b : EvS} (Fn : L2.Fun K x x st f fd) (hm : mg x = some (.ref f)) (S : FnScope N ps (defScope st))
    (hbody : ∀ (cdv : Value) (A : Around) (outer : List Env) (s : Shared) (H : Hp) (E : XK), Room k (A.deeper (envOfC x (defScope st) s.heap.objs.size f cdv)) → (A.deeper (envOfC x (defScope st) s.heap.objs.size f cdv)).guards = some [] →
      PSs (cxOf L2.CX0 P w K mg base N x (defScope st) f cdv A outer s H E).nox (defBody st) (tS K (fun _ _ _ _ => False) b)) : Own P w K mg base (k + 1) x st ps (runF ps.length N.length b) := by
  have hpl : ps.length ≤ N.length := by have := congrArg List.length S.pre; rw [List.length_take] at this; omega
  refine ⟨⟨f, fd, Fn, ?_, hm⟩, fun ds S h => if_neg h⟩
  obtain ⟨oc, od, kV, doc, pm, an, cdv, ct, osl, rfl, lk, hcd⟩ := Fn.ex
  refine fn_ofG lk hcd S (fun vs H Q E h => h.1) fun A outer s H vs Q E hr hg hsp => ⟨_, (hbody cdv A outer s H E hr hg).nox, ?_⟩
  obtain ⟨hl, S0, F, p, ds, R, hd, h⟩ := hsp
  have hdl : ds.length = ps.length := by rw [← hd.length]; exact hl
  have h : (((b (ds.map some ++ List.replicate (N.length - ps.length) none) S0).bind fun fl S1 => (match fl with
      | .nx _ => retF S0.length .non S1
      | .rt d => retF S0.length d S1)).calm).holds (OkR K F p H Q) EF := by
    have e : runF ps.length N.length b ds S0 = _ := if_pos hdl
    rw [e] at h
    exact h
  have h := O.bind_holds.mp (calm_holds h)
  refine ⟨ds.map some ++ List.replicate (N.length - ps.length) none, S0, F, p, R, ⟨?_, fun i d hi => ?_⟩, O.holds_mono h (fun fl S1 q => ?_) fun _ _ _ z => False.elim z⟩
  · unfold L2.start
    simp [hl, hdl]
  · have hi' : i < ds.length := by
      by_cases hi' : i < ds.length
      · exact hi'
      · rw [List.getElem?_append_right (by simpa using hi'), List.getElem?_replicate] at hi
        split at hi <;> cases hi
    rw [List.getElem?_append_left (by simpa using hi'), List.getElem?_map] at hi
    cases e : ds[i]? with
    | none => rw [e] at hi; cases hi
    | some d' =>
      rw [e] at hi
      cases hi
      obtain ⟨v, h1, h2⟩ := hd.get e
      refine ⟨v, ?_, h2⟩
      unfold L2.start
      rw [List.getElem?_append_left (by rw [List.length_map, hl, ← hdl]; exact hi'), List.getElem?_map, h1]
      rfl
  · cases fl with
    | nx ρ' => exact fun σ' F1 p1 H1 n R1 L1 => ret_ok R n R1 .non q
    | rt d => exact fun v F1 p1 H1 n R1 hv => ret_ok R n R1 hv q
end DI
/-! DI: a call in the part of the store that its arguments name. -/
namespace DI
open PySem PySem.Spec L2
open PyProof.Rows hiding St
section
variable {K : PySem.W.Frag} {F : Hp} {p q : List Addr}
mutual
theorem IsD.low0 : ∀ {v : V} {d : D}, IsD K F p v d → d.low 0 = true → IsD K F q v d
  | _, _, .non, _ => .non
  | _, _, .bl b, _ => .bl b
  | _, _, .int i, _ => .int i
  | _, _, .str x, _ => .str x
  | _, _, .lst h l t, w => .lst h l (IsDs.low0 t w)
  | _, _, .tup h l t, w => .tup h l (IsDs.low0 t w)
  | _, _, .scr h l, _ => .scr h l
  | _, _, .emp h, _ => .emp h
  | _, _, .cel (n := n) h, w => absurd (of_decide_eq_true (show decide (n < 0) = true from w)) (Nat.not_lt_zero _)
theorem IsDs.low0 : ∀ {vs : List V} {ds : List D}, IsDs K F p vs ds → lowL 0 ds = true → IsDs K F q vs ds
  | _, _, .nil, _ => .nil
  | _, _, .cons (d := d) (ds := ds) h t, w => by
    have w : (d.low 0 && lowL 0 ds) = true := w
    rw [Bool.and_eq_true] at w
    exact .cons (IsD.low0 h w.1) (IsDs.low0 t w.2)
end
theorem IsK.low0 : ∀ {ws : List (Key × V)} {kvs : List (Key × D)}, IsK K F p ws kvs → lowL 0 (kvs.map (·.2)) = true → IsK K F q ws kvs
  | _, _, .nil, _ => .nil
  | _, _, .cons (d := d) (kvs := kvs) h t, w => by
    have w : (d.low 0 && lowL 0 (kvs.map (·.2))) = true := w
    rw [Bool.and_eq_true] at w
    exact .cons (h.low0 w.1) (IsK.low0 t w.2)
theorem CellAt.low0 {H : Hp} {a : Addr} : ∀ {c : Cell}, CellAt K F p H a c → lowC 0 c = true → CellAt K F q H a c
  | .lst _, ⟨vs, h1, l, h2⟩, w => ⟨vs, h1, l, h2.low0 w⟩
  | .dct _, ⟨ws, h1, h2⟩, w => ⟨ws, h1, h2.low0 w⟩
theorem nodupB_nd : ∀ {ns : List Nat}, nodupB ns = true → ns.Nodup
  | [], _ => List.nodup_nil
  | n :: r, h => by
    simp only [nodupB, Bool.and_eq_true, Bool.not_eq_true'] at h
    refine List.nodup_cons.mpr ⟨fun z => ?_, nodupB_nd h.2⟩
    have := List.contains_iff_mem.mpr z
    rw [h.1] at this; cases this
end
/-- the cells ns of p: addresses -/
def subP (p : List Addr) (ns : List Nat) : List Addr := ns.filterMap fun n => p[n]?
theorem subS_ok {S : Store} {p : List Addr} (hl : p.length = S.length) : ∀ {ns : List Nat} {sub : Store}, subS S ns = some sub → sub.length = ns.length ∧ (subP p ns).length = ns.length ∧ (∀ (i n : Nat), ns[i]? = some n → ∃ a c, p[n]? = some a ∧ (subP p ns)[i]? = some a ∧ S[n]? = some (some c) ∧ sub[i]? = some (some c) ∧ lowC 0 c = true)
  | [], sub, h => by cases h; exact ⟨rfl, rfl, fun i n z => by simp at z⟩
  | n :: r, sub, h => by
    unfold subS at h
    split at h
    · rename_i c t h1 h2
      split at h
      · rename_i hc
        cases h
        obtain ⟨l1, l2, g⟩ := subS_ok hl h2
        have hn : n < p.length := by rw [hl]; exact (List.getElem?_eq_some_iff.mp h1).1
        have ha : p[n]? = some p[n] := List.getElem?_eq_getElem hn
        have e : subP p (n :: r) = p[n] :: subP p r := by unfold subP; rw [List.filterMap_cons_some ha]
        refine ⟨by simp [l1], by rw [e]; simp [l2], fun i m z => ?_⟩
        cases i with
        | zero =>
          simp at z; subst z
          exact ⟨p[n], c, ha, by rw [e]; rfl, h1, rfl, hc⟩
        | succ i =>
          obtain ⟨a, c', q1, q2, q3, q4, q5⟩ := g i m (by simpa using z)
          exact ⟨a, c', q1, by rw [e]; simpa using q2, q3, by simpa using q4, q5⟩
      · cases h
    · cases h
theorem subP_nd {p : List Addr} (nd : p.Nodup) : ∀ {ns : List Nat}, ns.Nodup → (subP p ns).Nodup
  | [], _ => List.nodup_nil
  | n :: r, hn => by
    obtain ⟨n1, n2⟩ := List.nodup_cons.mp hn
    unfold subP
    cases e : p[n]? with
    | none => rw [List.filterMap_cons_none e]; exact subP_nd nd n2
    | some a =>
      rw [List.filterMap_cons_some e]
      refine List.nodup_cons.mpr ⟨fun z => ?_, subP_nd nd n2⟩
      obtain ⟨m, hm, e2⟩ := List.mem_filterMap.mp z
      rw [nodup_get nd e e2] at n1
      exact n1 hm
theorem putS_len : ∀ {ns : List Nat} {S T : Store}, (putS S ns T).length = S.length
  | [], S, T => by cases T <;> rfl
  | n :: ns, S, [] => rfl
  | n :: ns, S, c :: cs => by
    unfold putS
    rw [putS_len, List.length_set]
theorem putS_get : ∀ {ns : List Nat} {S T : Store} {m : Nat} {c : Cell}, ns.Nodup → T.length = ns.length → (putS S ns T)[m]? = some (some c) → (m ∉ ns ∧ S[m]? = some (some c)) ∨ ∃ i : Nat, ns[i]? = some m ∧ T[i]? = some (some c) ∧ lowC 0 c = true
  | [], S, T, m, c, _, _, h => .inl ⟨List.not_mem_nil, by cases T <;> exact h⟩
  | n :: ns, S, [], m, c, _, hl, _ => by simp at hl
  | n :: ns, S, t :: T, m, c, nd, hl, h => by
    unfold putS at h
    obtain ⟨n1, n2⟩ := List.nodup_cons.mp nd
    rcases putS_get n2 (by simpa using hl) h with ⟨h1, h2⟩ | ⟨i, h1, h2, h3⟩
    · by_cases e : n = m
      · subst e
        right
        refine ⟨0, rfl, ?_⟩
        by_cases hs : n < S.length
        · rw [List.getElem?_set_self hs] at h2
          have h2 : cleanC 0 t = some c := Option.some.inj h2
          unfold cleanC at h2
          cases t with
          | none => cases h2
          | some c' =>
            simp only [] at h2
            split at h2
            · cases h2; exact ⟨rfl, by assumption⟩
            · cases h2
        · rw [List.getElem?_eq_none (by simpa using hs)] at h2; cases h2
      · rw [List.getElem?_set_ne e] at h2
        exact .inl ⟨fun z => (List.mem_cons.mp z).elim (fun z => e z.symm) h1, h2⟩
    · exact .inr ⟨i + 1, by simpa using h1, by simpa using h2, h3⟩
theorem frame_ds {K : PySem.W.Frag} {S : Store} {F : Hp} {p : List Addr} {ns : List Nat} {sub : Store} (hl : p.length = S.length) (h : subS S ns = some sub) : ∀ {vs : List V} {ds : List D}, IsDs K F p vs ds → (∀ n ∈ celsOf ds, n ∈ ns) → ds.all flat = true → IsDs K F (subP p ns) vs (ds.map (renum ns))
  | _, _, .nil, _, _ => .nil
  | _, _, .cons (d := d) (ds := ds) hd t, hm, hf => by
    rw [List.all_cons, Bool.and_eq_true] at hf
    rw [List.map_cons]
    cases hd with
    | @cel a n hp =>
      have hn : n ∈ ns := hm n List.mem_cons_self
      refine .cons (.cel ?_) (frame_ds hl h t (fun m z => hm m (List.mem_cons_of_mem _ z)) hf.2)
      obtain ⟨a', c, q1, q2, _⟩ := (subS_ok hl h).2.2 (ns.idxOf n) n (by rw [List.getElem?_eq_getElem (List.idxOf_lt_length_of_mem hn), List.getElem_idxOf (List.idxOf_lt_length_of_mem hn)])
      rw [hp] at q1; cases q1
      exact q2
    | non => exact .cons .non (frame_ds hl h t (fun m z => hm m z) hf.2)
    | bl b => exact .cons (.bl b) (frame_ds hl h t (fun m z => hm m z) hf.2)
    | int b => exact .cons (.int b) (frame_ds hl h t (fun m z => hm m z) hf.2)
    | str b => exact .cons (.str b) (frame_ds hl h t (fun m z => hm m z) hf.2)
    | lst h1 h2 h3 => exact .cons ((IsD.lst h1 h2 h3).low0 hf.1) (frame_ds hl h t (fun m z => hm m z) hf.2)
    | tup h1 h2 h3 => exact .cons ((IsD.tup h1 h2 h3).low0 hf.1) (frame_ds hl h t (fun m z => hm m z) hf.2)
    | scr h1 h2 => exact .cons (.scr h1 h2) (frame_ds hl h t (fun m z => hm m z) hf.2)
    | emp h1 => exact .cons (.emp h1) (frame_ds hl h t (fun m z => hm m z) hf.2)
theorem spF_frame {K : PySem.W.Frag} {n : Nat} {c : List D → Store → O Res} {vs : List V} {H : Hp} {Q : VK} {E : XK} (h : spF K n (frame c) vs H Q E) : spF K n c vs H Q E := by
  obtain ⟨hl, S, F, p, ds, R, hd, h⟩ := h
  unfold frame at h
  split at h
  · rename_i hcond
    rw [Bool.and_eq_true] at hcond
    split at h
    · rename_i sub hsub
      obtain ⟨l1, l2, g⟩ := subS_ok R.len hsub
      have nd := nodupB_nd hcond.1
      have ndP := subP_nd R.nd nd
      have mem : ∀ a, a ∈ subP p (celsOf ds) → a ∈ p := fun a ha => by
        obtain ⟨n, _, e⟩ := List.mem_filterMap.mp ha
        exact List.mem_of_getElem? e
      have R' : Hld K sub F (subP p (celsOf ds)) H := by
        refine ⟨R.sub, by rw [l1, l2], ndP, fun a ha => R.there a (mem a ha), fun i a c' hp hs => ?_⟩
        have hi : i < (celsOf ds).length := by rw [← l1]; exact (List.getElem?_eq_some_iff.mp hs).1
        obtain ⟨a', c'', q1, q2, q3, q4, q5⟩ := g i _ (List.getElem?_eq_getElem hi)
        rw [hp] at q2; cases q2
        rw [hs] at q4; cases q4
        obtain ⟨f1, f2⟩ := R.cell _ _ _ q1 q3
        exact ⟨f1, f2.low0 q5⟩
      refine ⟨hl, sub, F, subP p (celsOf ds), ds.map (renum (celsOf ds)), R', frame_ds R.len hsub hd (fun _ z => z) hcond.2, ?_⟩
      have h := O.bind_holds.mp (calm_holds h)
      have h : (c (ds.map (renum (celsOf ds))) sub).calm.holds _ EF := h
      refine O.holds_mono h (fun r S' q => ?_) fun _ _ _ z => z
      split at q
      · rename_i hlen
        split at q
        · rename_i r' hr'
          intro v F' p' H' n' R2 hres
          have ep : p' = subP p (celsOf ds) := by
            obtain ⟨t, rfl⟩ := n'.pre
            have : t = [] := by
              have := R2.len
              rw [List.length_append, hlen, l1, l2] at this
              exact List.eq_nil_of_length_eq_zero (by omega)
            rw [this, List.append_nil]
          subst ep
          have R3 : Hld K (putS S (celsOf ds) S') F' p H' := by
            refine ⟨R2.sub, by rw [putS_len, R.len], R.nd, fun a ha => ?_, fun m a c' hp hs => ?_⟩
            · by_cases hm : a ∈ subP p (celsOf ds)
              · exact R2.there a hm
              · cases e : H a with
                | none => exact absurd e (R.there a ha)
                | some o => rw [n'.keep a o e hm]; exact fun z => nomatch z
            · rcases putS_get nd (by rw [hlen, l1]) hs with ⟨h1, h2⟩ | ⟨i, h1, h2, h3⟩
              · obtain ⟨f1, f2⟩ := R.cell m a c' hp h2
                have na : a ∉ subP p (celsOf ds) := fun z => by
                  obtain ⟨m', hm', e⟩ := List.mem_filterMap.mp z
                  rw [nodup_get R.nd hp e] at h1
                  exact h1 hm'
                have ha : H a ≠ none := R.there a (List.mem_of_getElem? hp)
                refine ⟨?_, f2.mono n'.ext (fun _ _ z => z) ?_⟩
                · cases e : F' a with
                  | none => rfl
                  | some o =>
                    rcases n'.newF a (by rw [e]; exact fun z => nomatch z) f1 with z | z
                    · exact absurd z ha
                    · exact absurd z na
                · cases e : H a with
                  | none => exact absurd e ha
                  | some o => rw [n'.keep a o e na]
              · obtain ⟨a', c'', q1, q2, q3, q4, q5⟩ := g i m h1
                rw [hp] at q1; cases q1
                obtain ⟨f1, f2⟩ := R2.cell i a c' q2 h2
                exact ⟨f1, f2.low0 h3⟩
          have n3 : Nx F p H F' p H' := ⟨n'.ext, List.prefix_refl _, fun a o e ha => n'.keep a o e fun z => ha (mem a z), fun a z hn => absurd z hn, fun a z hn => (n'.newF a z hn).imp id (mem a)⟩
          refine (show OkR K F p H Q r' (putS S (celsOf ds) S') from q) v F' p H' n3 R3 ?_
          cases r with
          | new xs =>
            obtain ⟨x, us, rfl, g1, g2, g3, g4, g5, g6⟩ := hres
            have hr' : (if lowL 0 xs then some (Res.new xs) else none) = some r' := hr'
            split at hr'
            · rename_i hlow
              cases hr'
              refine ⟨x, us, rfl, g1, g2, fun z => R.there x z g4, g4, g5, g6.low0 hlow⟩
            · cases hr'
          | d d =>
            have hres : IsD K F' (subP p (celsOf ds)) v d := hres
            cases hres with
            | @cel a i hp =>
              obtain ⟨m, hm, rfl⟩ := Option.map_eq_some_iff.mp (show ((celsOf ds)[i]?).map _ = some r' from hr')
              obtain ⟨a', c'', q1, q2, _⟩ := g i m hm
              rw [hp] at q2; cases q2
              exact .cel q1
            | lst h1 h2 h3 =>
              have hr' : (if (D.lst _).low 0 then some (Res.d (.lst _)) else none) = some r' := hr'
              split at hr'
              · cases hr'; exact (IsD.lst h1 h2 h3).low0 (by assumption)
              · cases hr'
            | tup h1 h2 h3 =>
              have hr' : (if (D.tup _).low 0 then some (Res.d (.tup _)) else none) = some r' := hr'
              split at hr'
              · cases hr'; exact (IsD.tup h1 h2 h3).low0 (by assumption)
              · cases hr'
            | non => cases hr'; exact .non
            | bl b => cases hr'; exact .bl b
            | int b => cases hr'; exact .int b
            | str b => cases hr'; exact .str b
            | scr h1 h2 => cases hr'; exact .scr h1 h2
            | emp h1 => cases hr'; exact .emp h1
        · exact False.elim q
      · exact False.elim q
    · exact False.elim h
  · exact False.elim h
theorem Own.frame {P : Program} {w : World} {K : PySem.W.Frag} {mg : Str → Option Value} {base : Heap} {k : Nat} {x : Str} {st : Stmt} {ps : List Str} {c : List D → Store → O Res} (o : Own P w K mg base k x st ps c) : Own P w K mg base k x st ps (DI.frame c) := by
  obtain ⟨f, fd, Fu, F, hm⟩ := o.ex
  refine ⟨⟨f, fd, Fu, ⟨fun vs H Q E h => h.1, fun A outer s H args us vs Q E hr hg e hb hv h => F.run A outer s H args us vs Q E hr hg e hb hv (spF_frame h)⟩, hm⟩, fun ds S h => ?_⟩
  unfold DI.frame
  split
  · split
    · rw [o.len _ _ (by rw [List.length_map]; exact h)]; rfl
    · rfl
  · rfl
end DI
/-! DI: the law's own head. -/
namespace DI
open PySem PySem.Spec L2
open PyProof.Rows hiding St
def SysD (base : Heap) : Prop := ∃ o es ep, base.get? sysModules = some o ∧ o.data = .dict es ep
theorem law_callG {P : Program} {w : World} {K : PySem.W.Frag} {mg mb : Str → Option Value} {CX : CXT} {k : Nat} {fa a : Addr} {fd : FuncData} {x : Str} {sp : Sp} {s₁ : Shared} {vs : List Value} {ns : List Int}
    (KX : K.In s₁.heap) (hns : s₁.heap.Ns mainGlobals mg) (hb : s₁.heap.Ns builtinsNs mb) (hbb : ∀ x : Str, x ≠ "__name__" → mb x = bootBuiltins x) (hlim : s₁.heap.NoLimit) (hmm : ∃ mm, s₁.heap.Ns sysModules mm) (hg : s₁.gens = #[])
    (ha : s₁.heap.get? a = some { cls := .type "list", data := .seq vs.toArray }) (hi : IntsAre vs ns) (hl : ns.length ≤ sizeLine) (hr : Room k callerA)
    (F : ∀ base : Heap, K.In base → base.Ns mainGlobals mg → SysD base → FnG P w K mg base CX k fa fd [x] sp) (hbind : ∀ (s : Shared) (u : Value), BindsTo s fd ⟨[u], []⟩ [(x, u)])
    (hsp : ∀ H : Hp, Only H → SqL K H a (ns.map V.int) → sp [.ref a] H (fun v _ => v = .bl true) fun _ _ _ => False)
    (hCX : ∀ H e s', CX [] H s₁ (fun _ _ _ => False) e s' → False) :
    codeAny (model P w) callerA (.call (.ref fa) ⟨[.ref a], []⟩) (fun r s' => r = .ok (.ret (.bool true)) ∧ OldK s₁.heap s'.heap ∧ s'.os = s₁.os ∧ AllBare s'.gens) s₁ := by
  have rv := vals_ints hi
  have lenV := hi.length
  have core : ∀ H : Hp, Only H → SqL K H a (ns.map V.int) → HOk P w H s₁.heap → (∀ b, H b ≠ none → b = a) → (H a ≠ none → K.lookup a = none) →
      codeAny (model P w) callerA (.call (.ref fa) ⟨[.ref a], []⟩) (fun r s' => r = .ok (.ret (.bool true)) ∧ OldK s₁.heap s'.heap ∧ s'.os = s₁.os ∧ AllBare s'.gens) s₁ := by
    intro H hO hS hok hA hK
    have base_of : ∀ {b : Addr} {o : Obj}, s₁.heap.get? b = some o → H b = none → (hidT s₁.heap H).get? b = some o := fun e n => hidT_get e n
    have noA : ∀ {b : Addr} {o : Obj} {es : Array DictEntry} {ep : Nat}, s₁.heap.get? b = some o → o.data = .dict es ep → H b = none := fun {b o es ep} e d => by
      cases q : H b with
      | none => rfl
      | some u =>
        have e' : b = a := hA b (by rw [q]; simp)
        subst e'
        rw [ha] at e; cases e
        have d' : Data.seq vs.toArray _ = Data.dict es ep := d
        cases d'
    have nsK : ∀ {b : Addr} {m : Str → Option Value}, s₁.heap.Ns b m → (hidT s₁.heap H).Ns b m := fun {b m} ⟨o, es, ep, e, d, r⟩ => ⟨o, es, ep, base_of e (noA e d), d, r⟩
    have hKb : K.In (hidT s₁.heap H) := fun b o e => base_of (KX b o e) (by
      cases q : H b with
      | none => rfl
      | some u =>
        have e' : b = a := hA b (by rw [q]; simp)
        subst e'
        rw [hK (by rw [q]; simp)] at e; cases e)
    have hM : Mod K mg (hidT s₁.heap H) := ⟨hKb, nsK hns, ⟨mb, nsK hb, hbb⟩, let ⟨mc, h1, h2⟩ := hlim; ⟨mc, nsK h1, h2⟩⟩
    have hS2 : SysD (hidT s₁.heap H) := by
      obtain ⟨mm, h⟩ := hmm
      obtain ⟨o, es, ep, e, d, r⟩ := nsK h
      exact ⟨o, es, ep, e, d⟩
    have e0 : Env0 P w K mg (hidT s₁.heap H) callerA [] s₁ H := ⟨rfl, hM, fun b o e => of_hidT e, Nat.le_of_eq (hidT_size _ _), trivial, fun b hb => absurd (show b ∈ ([] : List Addr) from hb) (by simp), hok, .of_eq hg⟩
    refine codeAny_mono ((F _ hKb (nsK hns) hS2).run callerA [] s₁ H ⟨[.ref a], []⟩ [.ref a] [.ref a] _ _ hr rfl e0 (hbind s₁ (.ref a)) (.cons rfl .nil) (hsp H hO hS)) fun r s' h => ?_
    cases r with
    | error e => exact (hCX H e s' h).elim
    | ok fl =>
      cases fl with
      | next => exact False.elim h
      | brk => exact False.elim h
      | cont => exact False.elim h
      | ret u =>
        obtain ⟨v, H', os, bare, un, hok', r', q⟩ := h
        have q' : v = .bl true := q
        subst q'
        obtain rfl : u = Value.bool true := r'
        refine ⟨rfl, OldK.of_keep fun b o e => ?_, os, bare⟩
        cases q : H b with
        | none => exact un.keep b o e q (by intro z; exact absurd (show b ∈ ([] : List Addr) from z) (by simp)) (by simp)
        | some u =>
          rcases hO b with z | ⟨ob, xs, z⟩
          · rw [q] at z; cases z
          · have z2 := un.frzs b ob _ z
            obtain ⟨e1, _⟩ := hok b _ z
            obtain ⟨e2, _⟩ := hok' b _ z2
            rw [e] at e1; cases e1
            exact e2
  cases hk : K.lookup a with
  | some o =>
    have e := KX a o hk
    rw [ha] at e
    cases e
    refine core (fun _ => none) (fun _ => .inl rfl) (.inr ⟨_, vs.toArray, _, hk, rfl, rfl, rfl, by rw [List.size_toArray, lenV]; exact hl, by simpa using rv⟩) (fun b u z => by have z' : (none : Option HO) = some u := z; cases z') (fun b z => absurd rfl z) fun z => absurd rfl z
  | none =>
    refine core (fun b => if b = a then some (.frz { cls := .type "list", data := .seq vs.toArray } (.lst (ns.map V.int))) else none) (fun b => ?_) (.inl (.inr ⟨{ cls := .type "list", data := .seq vs.toArray }, if_pos rfl⟩)) (fun b u z => ?_) (fun b z => ?_) fun _ => hk
    · by_cases hb : b = a
      · exact .inr ⟨_, _, if_pos hb⟩
      · exact .inl (if_neg hb)
    · by_cases hb : b = a
      · have z' := (if_pos hb).symm.trans z
        cases z'
        subst hb
        exact ⟨ha, by rw [List.length_map]; exact hl, vs, _, rv, ha⟩
      · have z' := (if_neg hb).symm.trans z
        cases z'
    · by_cases hb : b = a
      · exact hb
      · exact absurd (if_neg hb) z
/-- constants that the top computes -/
def Consts (lv : List (Str × Int)) (mg : Str → Option Value) : Prop := ∀ p ∈ lv, ∃ v, mg p.1 = some v ∧ RelV (.int p.2) v
theorem consts_of {q : Program} {lv : List (Str × Int)} {mg : Str → Option Value} {h : Heap} (x : PySem.W.XL q (lv.map fun p => (p.1, PySem.W.WData.int p.2)) mg h) : Consts lv mg := fun p hp => by
  obtain ⟨v, h1, h2⟩ := x.2.val (p.1, .int p.2) (List.mem_map.mpr ⟨p, hp, rfl⟩)
  refine ⟨v, h1, ?_⟩
  cases h2
  exact ⟨_, rfl⟩
theorem walk_D {l : PySem.W.OpenLaw} {n k : Nat} {q : Program} {loose : List Str} {XP : (Str → Option Value) → Heap → Prop} {YP : World → Heap → Prop} {d : DefRec} {K : Params → PySem.W.Frag} {x : Str} {c : List D → Store → O Res} {CP : (Str → Option Value) → Prop} {st : Stmt}
    (hn : l.most = some n) (hn2 : n ≤ 63) (hdf : d.params.defaults = []) (hr : Room k callerA) (hsee : importsNone q = true) (hX : ∀ mg h, XP mg h → CP mg)
    (hY : ∀ (w : World) (h : Heap), YP w h → (K w.params).In h)
    (F : ∀ (w : World) (mg : Str → Option Value) (h : Heap), (K w.params).In h → h.Ns mainGlobals mg → CP mg → ∀ base : Heap, SysD base → Own l.prog w (K w.params) mg base k d.name st [x] c)
    (hb : BindsP d.name st [x])
    (hc : ∀ ns : List Int, ns.length ≤ n → ∃ S', c [.scr ns] [] = .ok (.d (.bl true)) S') :
    PySem.W.WalkO q loose XP YP l.row.toRowW d [] (fun f vs => PySem.call f vs) := by
  refine Att.attach_call hn hdf fun w s₀ s₁ mg mb fa o pm cd doc a vs ns G Y ho hd hcd hmg hobj hints hlen hg => ?_
  have KX := hY w _ Y
  have hsys : ∀ base, SysD base → Own l.prog w (K w.params) mg base k d.name st [x] c := fun base hs => F w mg _ KX G.T.g (hX mg _ G.X) base hs
  have hmm : ∃ mm, s₁.heap.Ns sysModules mm := (G.T.seer hsee).mods.elim fun mm h => ⟨mm, h.1⟩
  have s0 : SysD s₁.heap := by
    obtain ⟨mm, o, es, ep, e, d, r⟩ := hmm
    exact ⟨o, es, ep, e, d⟩
  obtain ⟨f, fd, Fu, _, hm⟩ := (hsys _ s0).ex
  rw [hmg] at hm; cases hm
  refine law_callG (CX := L2.CX0) (sp := spF (K w.params) 1 c) KX G.T.g G.T.b G.T.builtins G.T.nolimit hmm hg hobj hints (Nat.le_trans hlen (Nat.le_trans hn2 (by decide))) hr (fun base _ _ hs => ?_) (fun s u => .of_eq (hb.to Fu [u] rfl)) (fun H hO hS => ?_) fun H e s' h => h
  · obtain ⟨f', fd', Fu', Fn, hm'⟩ := (hsys base hs).ex
    rw [hmg] at hm'; cases hm'
    have e : fd' = fd := by
      obtain ⟨_, _, _, _, _, _, _, _, _, _, l1, _⟩ := Fu.ex
      obtain ⟨_, _, _, _, _, _, _, _, _, _, l2, _⟩ := Fu'.ex
      rw [l1] at l2
      have := (Obj.mk.inj (Option.some.inj l2)).2.2.1
      exact (Data.func.inj this).symm
    rw [← e]
    exact Fn
  · obtain ⟨S', e⟩ := hc ns hlen
    refine ⟨rfl, [], H, [], [.scr ns], ⟨fun _ _ z => z, rfl, List.nodup_nil, (fun _ z => nomatch z), fun n a c z => by cases z⟩, .cons (.scr hS (Nat.le_trans hlen hn2)) .nil, ?_⟩
    rw [e]
    intro v F' p' H' _ _ hr
    have hr : IsD _ F' p' v (.bl true) := hr
    cases hr
    rfl
end DI
/-! DI: the rules in short, for printed proofs. -/
namespace DI
open PySem PySem.Spec L2
open PyProof.Rows hiding St
def W0 : WX := fun _ _ _ _ => False
theorem gl {X : Cx} {x : Str} (h : X.env.kindOf x = some .globalImplicit) : Gl X x := h
/-- a name of the module that stands for a value -/
def CstD (K : PySem.W.Frag) (mg : Str → Option Value) (x : Str) (d : D) : Prop := ∃ v u, mg x = some u ∧ RelV v u ∧ ∀ F p, IsD K F p v d
/-- what holds in a body -/
structure Bd (X : Cx) (k : Nat) : Prop where
  room : Room k X.A
  gd : X.A.guards = some []
  sm : Sysm X
  calm : X.calm = true
  nd : X.N.Nodup
theorem Bd.blk {X : Cx} {k : Nat} (B : Bd X k) {s : Shared} {H : Hp} {scope : Scope} {env : Env} {fp : List Addr} : Bd (X.blk s H scope env fp) k := ⟨B.room, B.gd, B.sm, B.calm, B.nd⟩
theorem Bd.u70 {X : Cx} {k : Nat} (B : Bd X k) : X.A.units + 70 < cLine := by have := B.room.un; omega
theorem Bd.u1 {X : Cx} {k : Nat} (B : Bd X k) : X.A.units + 1 < cLine := by have := B.room.un; omega
section
variable {X : Cx} {k : Nat} {a b c : Expr} {f g h : EvE} {pos : Pos} {al : Bool} {es : List Expr} {gl : EvL} {p0 : Pos}
theorem w_int {i : Int} {j : Nat} : PE X (.Constant (.int i) j pos) (tE X.K W0 (eC (.int i))) := s_c pe_int fun _ _ => .int i
theorem w_bl {i : Bool} {j : Nat} : PE X (.Constant (.bool i) j pos) (tE X.K W0 (eC (.bl i))) := s_c pe_bl fun _ _ => .bl i
theorem w_str {i : Str} {j : Nat} : PE X (.Constant (.str i) j pos) (tE X.K W0 (eC (.str i))) := s_c pe_str fun _ _ => .str i
theorem w_non {j : Nat} : PE X (.Constant .none j pos) (tE X.K W0 (eC .non)) := s_c pe_non fun _ _ => .non
/-- a constant of the module -/
theorem w_g {x : Str} {d : D} (hm : CstD X.K X.mg x d) (hg : Gl X x) (hd : (x == ("__debug__" : Str)) = false) : PE X (.Name x pos) (tE X.K W0 (eC d)) := by
  obtain ⟨v, u, h1, h2, h3⟩ := hm
  exact s_c (pe_glob hg h1 h2 hd) h3
theorem w_abs (hm : X.mg "abs" = none) (hg : Gl X "abs") (ha : PA X (a :: es) (tL X.K W0 gl)) (he : starEach (a :: es) X.env = (false, eval a X.env) :: starEach es X.env) (hpl : (backTo pos (starEach es X.env)).any (·.1) = false) : PE X (.Call (.Name "abs" p0) (a :: es) [] pos) (tE X.K W0 (eBlt al (fun _ => bAbs) gl)) :=
  s_blt call_bAbs hg hm (by decide +kernel) ha (by decide) (by decide) he hpl
theorem w_int1 (hm : X.mg "int" = none) (hg : Gl X "int") (ha : PA X (a :: es) (tL X.K W0 gl)) (he : starEach (a :: es) X.env = (false, eval a X.env) :: starEach es X.env) (hpl : (backTo pos (starEach es X.env)).any (·.1) = false) : PE X (.Call (.Name "int" p0) (a :: es) [] pos) (tE X.K W0 (eBlt al (fun _ => bInt) gl)) :=
  s_bty call_bInt hg hm (by decide +kernel) ha (by decide) (by decide) he hpl
theorem w_max (B : Bd X k) (hm : X.mg "max" = none) (hg : Gl X "max") (ha : PA X (a :: es) (tL X.K W0 gl)) (he : starEach (a :: es) X.env = (false, eval a X.env) :: starEach es X.env) (hpl : (backTo pos (starEach es X.env)).any (·.1) = false) : PE X (.Call (.Name "max" p0) (a :: es) [] pos) (tE X.K W0 (eBlt al bMax gl)) :=
  s_blt (call_bMax B.calm) hg hm (by decide +kernel) ha (by decide) (by decide) he hpl
theorem w_min (B : Bd X k) (hm : X.mg "min" = none) (hg : Gl X "min") (ha : PA X (a :: es) (tL X.K W0 gl)) (he : starEach (a :: es) X.env = (false, eval a X.env) :: starEach es X.env) (hpl : (backTo pos (starEach es X.env)).any (·.1) = false) : PE X (.Call (.Name "min" p0) (a :: es) [] pos) (tE X.K W0 (eBlt al bMin gl)) :=
  s_blt (call_bMin B.calm) hg hm (by decide +kernel) ha (by decide) (by decide) he hpl
theorem w_divmod (hm : X.mg "divmod" = none) (hg : Gl X "divmod") (ha : PA X (a :: es) (tL X.K W0 gl)) (he : starEach (a :: es) X.env = (false, eval a X.env) :: starEach es X.env) (hpl : (backTo pos (starEach es X.env)).any (·.1) = false) : PE X (.Call (.Name "divmod" p0) (a :: es) [] pos) (tE X.K W0 (eBlt al (fun _ => bDivmod) gl)) :=
  s_blt call_bDivmod hg hm (by decide +kernel) ha (by decide) (by decide) he hpl
theorem w_sum (B : Bd X k) (hm : X.mg "sum" = none) (hg : Gl X "sum") (ha : PA X (a :: es) (tL X.K W0 gl)) (he : starEach (a :: es) X.env = (false, eval a X.env) :: starEach es X.env) (hpl : (backTo pos (starEach es X.env)).any (·.1) = false) : PE X (.Call (.Name "sum" p0) (a :: es) [] pos) (tE X.K W0 (eBlt al bSum gl)) :=
  s_blt (call_bSum B.calm) hg hm (by decide +kernel) ha (by decide) (by decide) he hpl
theorem w_all (B : Bd X k) (hm : X.mg "all" = none) (hg : Gl X "all") (ha : PA X (a :: es) (tL X.K W0 gl)) (he : starEach (a :: es) X.env = (false, eval a X.env) :: starEach es X.env) (hpl : (backTo pos (starEach es X.env)).any (·.1) = false) : PE X (.Call (.Name "all" p0) (a :: es) [] pos) (tE X.K W0 (eBlt al bAll gl)) :=
  s_blt (call_bAll B.calm) hg hm (by decide +kernel) ha (by decide) (by decide) he hpl
theorem w_any (B : Bd X k) (hm : X.mg "any" = none) (hg : Gl X "any") (ha : PA X (a :: es) (tL X.K W0 gl)) (he : starEach (a :: es) X.env = (false, eval a X.env) :: starEach es X.env) (hpl : (backTo pos (starEach es X.env)).any (·.1) = false) : PE X (.Call (.Name "any" p0) (a :: es) [] pos) (tE X.K W0 (eBlt al bAny gl)) :=
  s_blt (call_bAny B.calm) hg hm (by decide +kernel) ha (by decide) (by decide) he hpl
theorem w_len (hm : X.mg "len" = none) (hg : Gl X "len") (ha : PA X (a :: es) (tL X.K W0 gl)) (he : starEach (a :: es) X.env = (false, eval a X.env) :: starEach es X.env) (hpl : (backTo pos (starEach es X.env)).any (·.1) = false) : PE X (.Call (.Name "len" p0) (a :: es) [] pos) (tE X.K W0 (eBlt al bLen gl)) :=
  s_blt call_bLen hg hm (by decide +kernel) ha (by decide) (by decide) he hpl
theorem w_sorted (hm : X.mg "sorted" = none) (hg : Gl X "sorted") (ha : PA X (a :: es) (tL X.K W0 gl)) (he : starEach (a :: es) X.env = (false, eval a X.env) :: starEach es X.env) (hpl : (backTo pos (starEach es X.env)).any (·.1) = false) : PE X (.Call (.Name "sorted" p0) (a :: es) [] pos) (tE X.K W0 (eBlt al bSorted gl)) :=
  s_blt call_bSorted hg hm (by decide +kernel) ha (by decide) (by decide) he hpl
theorem w_list (hm : X.mg "list" = none) (hg : Gl X "list") (ha : PA X (a :: es) (tL X.K W0 gl)) (he : starEach (a :: es) X.env = (false, eval a X.env) :: starEach es X.env) (hpl : (backTo pos (starEach es X.env)).any (·.1) = false) : PE X (.Call (.Name "list" p0) (a :: es) [] pos) (tE X.K W0 (eBlt al bList gl)) :=
  s_bty call_bList hg hm (by decide +kernel) ha (by decide) (by decide) he hpl
theorem w_tuple (hm : X.mg "tuple" = none) (hg : Gl X "tuple") (ha : PA X (a :: es) (tL X.K W0 gl)) (he : starEach (a :: es) X.env = (false, eval a X.env) :: starEach es X.env) (hpl : (backTo pos (starEach es X.env)).any (·.1) = false) : PE X (.Call (.Name "tuple" p0) (a :: es) [] pos) (tE X.K W0 (eBlt al bTuple gl)) :=
  s_bty call_bTuple hg hm (by decide +kernel) ha (by decide) (by decide) he hpl
theorem w_repr (B : Bd X k) (hm : X.mg "repr" = none) (hg : Gl X "repr") (ha : PA X (a :: es) (tL X.K W0 gl)) (he : starEach (a :: es) X.env = (false, eval a X.env) :: starEach es X.env) (hpl : (backTo pos (starEach es X.env)).any (·.1) = false) : PE X (.Call (.Name "repr" p0) (a :: es) [] pos) (tE X.K W0 (eBlt al bRepr gl)) :=
  s_blt (call_bRepr B.sm B.gd B.u70) hg hm (by decide +kernel) ha (by decide) (by decide) he hpl
end
/-- what the top has written: a def -/
def Top (K : PySem.W.Frag) (mg : Str → Option Value) (x : Str) (st : Stmt) : Prop := ∃ f fd, L2.Fun K x x st f fd ∧ mg x = some (.ref f)
theorem top_mk {K : PySem.W.Frag} {h : Heap} {mg : Str → Option Value} {x : Str} {st : Stmt} {f : Addr} {oc : Value} {od an : Option Addr} {osl : Array (Option Value)} {kV doc pm cdv ct : Value} (X : K.In h) (G : h.Ns mainGlobals mg)
    (a : PySem.W.nsIn K mainGlobals x = some (some (.ref f))) (l : K.lookup f = some ⟨oc, od, .func (PySem.W.fnOf x x (defArgs st) (defBody st) (defScope st) .none kV doc pm an cdv ct), osl⟩) (c : PySem.W.codeIn K cdv x = true) (k : PySem.W.keepIn K (.ref f) = true) : Top K mg x st :=
  ⟨f, _, fun_mk l c k, PySem.W.mg_of X G a⟩
theorem const_int {K : PySem.W.Frag} {h : Heap} {mg : Str → Option Value} {x : Str} {i : Int} {t : Tok} (X : K.In h) (G : h.Ns mainGlobals mg) (a : PySem.W.nsIn K mainGlobals x = some (some (.int i t))) : CstD K mg x (.int i) := ⟨.int i, _, PySem.W.mg_of X G a, ⟨_, rfl⟩, fun _ _ => .int i⟩
theorem const_str {K : PySem.W.Frag} {h : Heap} {mg : Str → Option Value} {x i : Str} {t : Tok} (X : K.In h) (G : h.Ns mainGlobals mg) (a : PySem.W.nsIn K mainGlobals x = some (some (.str i t))) : CstD K mg x (.str i) := ⟨.str i, _, PySem.W.mg_of X G a, ⟨_, rfl⟩, fun _ _ => .str i⟩
theorem const_loose {K : PySem.W.Frag} {mg : Str → Option Value} {x : Str} {i : Int} (h : ∃ v, mg x = some v ∧ RelV (.int i) v) : CstD K mg x (.int i) := by
  obtain ⟨v, h1, h2⟩ := h
  exact ⟨.int i, v, h1, h2, fun _ _ => .int i⟩
/-- a tuple of texts and ints -/
inductive Flats (K : PySem.W.Frag) : List Value → List D → List V → Prop where
  | nil : Flats K [] [] []
  | str (x : Str) (t : Tok) {us : List Value} {ds : List D} {vs : List V} : Flats K us ds vs → Flats K (.str x t :: us) (.str x :: ds) (.str x :: vs)
  | int (x : Int) (t : Tok) {us : List Value} {ds : List D} {vs : List V} : Flats K us ds vs → Flats K (.int x t :: us) (.int x :: ds) (.int x :: vs)
theorem Flats.ok {K : PySem.W.Frag} {F : Hp} {p : List Addr} : ∀ {us : List Value} {ds : List D} {vs : List V}, Flats K us ds vs → Vals vs us ∧ IsDs K F p vs ds
  | _, _, _, .nil => ⟨.nil, .nil⟩
  | _, _, _, .str x t h => ⟨.cons ⟨t, rfl⟩ (h.ok (F := F) (p := p)).1, .cons (.str x) h.ok.2⟩
  | _, _, _, .int x t h => ⟨.cons ⟨t, rfl⟩ (h.ok (F := F) (p := p)).1, .cons (.int x) h.ok.2⟩
theorem const_tup {K : PySem.W.Frag} {h : Heap} {mg : Str → Option Value} {x : Str} {f : Addr} {od : Option Addr} {its : Array Value} {n : Nat} {osl : Array (Option Value)} {ds : List D} {vs : List V} (X : K.In h) (G : h.Ns mainGlobals mg)
    (a : PySem.W.nsIn K mainGlobals x = some (some (.ref f))) (l : K.lookup f = some ⟨.type "tuple", od, .seq its n, osl⟩) (v : Flats K its.toList ds vs) (hl : ds.length ≤ 1000) : CstD K mg x (.tup ds) := by
  refine ⟨.ref f, _, PySem.W.mg_of X G a, rfl, fun F p => ?_⟩
  obtain ⟨h1, h2⟩ := v.ok (F := F) (p := p)
  have hs : its.size ≤ sizeLine := by
    rw [← Array.length_toList, ← h1.length, h2.length]
    exact Nat.le_trans hl (by decide)
  exact .tup (.inr ⟨_, its, n, l, rfl, rfl, hs, h1⟩) (Nat.le_trans hl (by decide)) h2
theorem own_mk {P : Program} {w : World} {K : PySem.W.Frag} {mg : Str → Option Value} {base : Heap} {k : Nat} {x : Str} {st : Stmt} {N ps : List Str} {b : EvS} (T : Top K mg x st) (S : FnScope N ps (defScope st)) (sb : SysD base)
    (hbody : ∀ (X : Cx) (f : Addr) (cdv : Value) (A : Around) (outer : List Env) (s : Shared) (H : Hp) (E : XK), X = (cxOf L2.CX0 P w K mg base N x (defScope st) f cdv A outer s H E).nox → Bd (cxOf L2.CX0 P w K mg base N x (defScope st) f cdv A outer s H E).nox k →
      PSs (cxOf L2.CX0 P w K mg base N x (defScope st) f cdv A outer s H E).nox (defBody st) (tS K W0 b)) : Own P w K mg base (k + 1) x st ps (runF ps.length N.length b) := by
  obtain ⟨f, fd, Fn, hm⟩ := T
  exact own_of Fn hm S fun cdv A outer s H E hr hg => hbody _ f cdv A outer s H E rfl ⟨hr, hg, sb, rfl, S.nd⟩
end DI
/-! DI: tools for the plain laws. -/
namespace DI
open PySem L2
def pot (a b : Int) : Option Cell := some (.lst [.int a, .int b])
/-! ### answers seen by the kernel -/
def okNew (o : O Res) (ns : List Int) : Bool := match o with
  | .ok (.new xs) S => sameL xs (ns.map .int) && S.isEmpty
  | _ => false
def okD (o : O Res) (d : D) : Bool := match o with
  | .ok (.d e) S => e.same d && S.isEmpty
  | _ => false
theorem okNew_eq {o : O Res} {ns : List Int} (h : okNew o ns = true) : o = .ok (.new (ns.map .int)) [] := by
  unfold okNew at h
  split at h
  · rename_i xs S
    rw [Bool.and_eq_true] at h
    rw [sameL_eq h.1, List.isEmpty_iff.mp h.2]
  · cases h
theorem okD_eq {o : O Res} {d : D} (h : okD o d = true) : o = .ok (.d d) [] := by
  unfold okD at h
  split at h
  · rename_i xs S
    rw [Bool.and_eq_true] at h
    rw [D.same_eq h.1, List.isEmpty_iff.mp h.2]
  · cases h
theorem range_all {n : Nat} {p : Nat → Bool} (h : (List.range n).all p = true) {i : Nat} (hi : i < n) : p i = true := List.all_eq_true.mp h i (List.mem_range.mpr hi)
/-! ### low values -/
theorem lowL_ints (b : Nat) (ns : List Int) : lowL b (ns.map .int) = true := by
  induction ns with
  | nil => rfl
  | cons n r ih => show (true && lowL b (r.map .int)) = true; rw [ih]; rfl
theorem lowL_bls (b : Nat) (ns : List Bool) : lowL b (ns.map .bl) = true := by
  induction ns with
  | nil => rfl
  | cons n r ih => show (true && lowL b (r.map .bl)) = true; rw [ih]; rfl
theorem lowL_app (b : Nat) : ∀ xs ys : List D, lowL b (xs ++ ys) = (lowL b xs && lowL b ys)
  | [], ys => rfl
  | x :: r, ys => by show (x.low b && lowL b (r ++ ys)) = _; rw [lowL_app b r ys, ← Bool.and_assoc]; rfl
theorem frzAll_id {f : D → Option D} : ∀ {xs : List D}, (∀ x ∈ xs, f x = some x) → frzAll f xs = some xs
  | [], _ => rfl
  | x :: r, h => by
    unfold frzAll
    rw [h x List.mem_cons_self, frzAll_id fun y hy => h y (List.mem_cons_of_mem _ hy)]
theorem frzD_low {S : Store} {b k : Nat} {d : D} (h : d.low b = true) : frzD S b k d = some d := by
  cases k <;> (unfold frzD; rw [if_pos h])
theorem lowL_mem {b : Nat} : ∀ {xs : List D}, lowL b xs = true → ∀ x ∈ xs, x.low b = true
  | [], _, x, hx => nomatch hx
  | y :: r, h, x, hx => by
    have h : (y.low b && lowL b r) = true := h
    rw [Bool.and_eq_true] at h
    rcases List.mem_cons.mp hx with e | hx
    · rw [e]; exact h.1
    · exact lowL_mem h.2 x hx
theorem frzAll_low {S : Store} {b k : Nat} {xs : List D} (h : lowL b xs = true) : frzAll (frzD S b k) xs = some xs := frzAll_id fun x hx => frzD_low (lowL_mem h x hx)
theorem frzAll_ints {S : Store} {b k : Nat} (ns : List Int) : frzAll (frzD S b k) (ns.map .int) = some (ns.map .int) := frzAll_low (lowL_ints b ns)
theorem sameL_self (xs : List D) : sameL xs xs = true := sameL_refl xs
/-! ### comprehensions -/
theorem keepSrc_ok {α : Type} {src : List (Nat × List D)} {S : Store} {o : O α} (h : srcSame S src = true) : keepSrc src S o = o := if_pos h
theorem compL_pure {step : D → Store → O (Option D)} {src : List (Nat × List D)} {S : Store} (g : D → D) (hs : srcSame S src = true) : ∀ (xs acc : List D), (∀ x ∈ xs, step x S = .ok (some (g x)) S) → compL step src xs acc S = .ok (acc ++ xs.map g) S
  | [], acc, _ => by unfold compL; rw [keepSrc_ok hs]; simp
  | x :: r, acc, h => by
    unfold compL
    rw [keepSrc_ok hs, h x List.mem_cons_self]
    show compL step src r (acc ++ [g x]) S = _
    rw [compL_pure g hs r _ fun y hy => h y (List.mem_cons_of_mem _ hy)]
    simp
theorem compL_filt {step : D → Store → O (Option D)} {src : List (Nat × List D)} {S : Store} (g : D → Option D) (hs : srcSame S src = true) : ∀ (xs acc : List D), (∀ x ∈ xs, step x S = .ok (g x) S) → compL step src xs acc S = .ok (acc ++ xs.filterMap g) S
  | [], acc, _ => by unfold compL; rw [keepSrc_ok hs]; simp
  | x :: r, acc, h => by
    unfold compL
    rw [keepSrc_ok hs, h x List.mem_cons_self]
    cases e : g x with
    | none =>
      show compL step src r acc S = _
      rw [compL_filt g hs r _ fun y hy => h y (List.mem_cons_of_mem _ hy), List.filterMap_cons_none e]
    | some d =>
      show compL step src r (acc ++ [d]) S = _
      rw [compL_filt g hs r _ fun y hy => h y (List.mem_cons_of_mem _ hy), List.filterMap_cons_some e]
      simp
theorem eComp_pure {al : Bool} {w : EvW} {vs : List Nat} {c : CT} {t : EvB} {f : EvE} {ρ : Rho} {S : Store} {src : List (Nat × List D)} {xs : List D} (g : D → D) (hw : w ρ S = .ok ⟨src, xs⟩ S) (hs : srcSame S src = true)
    (h : ∀ x ∈ xs, compStep vs c t f ρ x S = .ok (some (g x)) S) : eComp al w vs c t f ρ S = settle al (.new (xs.map g)) S := by
  unfold eComp
  rw [hw]
  show (compL (compStep vs c t f ρ) src xs [] S).calm.bind _ = _
  rw [compL_pure g hs xs [] h]
  rfl
theorem eComp_ints {al : Bool} {w : EvW} {vs : List Nat} {c : CT} {t : EvB} {f : EvE} {ρ : Rho} {S : Store} {src : List (Nat × List D)} {ns : List Int} (g : Int → D) (hw : w ρ S = .ok ⟨src, ns.map .int⟩ S) (hs : srcSame S src = true)
    (h : ∀ n ∈ ns, compStep vs c t f ρ (.int n) S = .ok (some (g n)) S) : eComp al w vs c t f ρ S = settle al (.new (ns.map g)) S := by
  rw [eComp_pure (fun d => match d with | .int n => g n | d => d) hw hs (fun x hx => by
    obtain ⟨n, hn, rfl⟩ := List.mem_map.mp hx
    exact h n hn), List.map_map]
  rfl
theorem eComp_filt {al : Bool} {w : EvW} {vs : List Nat} {c : CT} {t : EvB} {f : EvE} {ρ : Rho} {S : Store} {src : List (Nat × List D)} {xs : List D} (g : D → Option D) (hw : w ρ S = .ok ⟨src, xs⟩ S) (hs : srcSame S src = true)
    (h : ∀ x ∈ xs, compStep vs c t f ρ x S = .ok (g x) S) : eComp al w vs c t f ρ S = settle al (.new (xs.filterMap g)) S := by
  unfold eComp
  rw [hw]
  show (compL (compStep vs c t f ρ) src xs [] S).calm.bind _ = _
  rw [compL_filt g hs xs [] h]
  rfl
/-- each turn changes the state, by draws -/
theorem compL_inv {step : D → Store → O (Option D)} {I : Store → Prop} {P : D → Prop} : ∀ (xs acc : List D) (S : Store), I S → (∀ x ∈ xs, ∀ S, I S → ∃ d S', step x S = .ok (some d) S' ∧ P d ∧ I S') →
    ∃ ds S', compL step [] xs acc S = .ok (acc ++ ds) S' ∧ ds.length = xs.length ∧ (∀ d ∈ ds, P d) ∧ I S'
  | [], acc, S, hI, _ => ⟨[], S, by unfold compL; rw [keepSrc_ok rfl]; simp, rfl, (fun _ z => nomatch z), hI⟩
  | x :: r, acc, S, hI, h => by
    obtain ⟨d, S1, e, hp, hI1⟩ := h x List.mem_cons_self S hI
    obtain ⟨ds, S2, e2, hl, hps, hI2⟩ := compL_inv (step := step) (I := I) (P := P) r (acc ++ [d]) S1 hI1 fun y hy => h y (List.mem_cons_of_mem _ hy)
    refine ⟨d :: ds, S2, ?_, by simp [hl], fun y hy => (List.mem_cons.mp hy).elim (fun e => e ▸ hp) (hps y), hI2⟩
    unfold compL
    rw [keepSrc_ok rfl, e]
    show compL step [] r (acc ++ [d]) S1 = _
    rw [e2]; simp
theorem eComp_inv {al : Bool} {w : EvW} {vs : List Nat} {c : CT} {t : EvB} {f : EvE} {ρ : Rho} {S S1 : Store} {xs : List D} {I : Store → Prop} {P : D → Prop} (hw : w ρ S = .ok ⟨[], xs⟩ S1) (hI : I S1)
    (h : ∀ x ∈ xs, ∀ S, I S → ∃ d S', compStep vs c t f ρ x S = .ok (some d) S' ∧ P d ∧ I S') : ∃ ds S', eComp al w vs c t f ρ S = settle al (.new ds) S' ∧ ds.length = xs.length ∧ (∀ d ∈ ds, P d) ∧ I S' := by
  obtain ⟨ds, S', e, h1, h2, h3⟩ := compL_inv (step := compStep vs c t f ρ) xs [] S1 hI h
  refine ⟨ds, S', ?_, h1, h2, h3⟩
  unfold eComp
  rw [hw]
  show (compL (compStep vs c t f ρ) [] xs [] S1).calm.bind _ = _
  rw [e]; rfl
theorem intsP {ds : List D} {P : Int → Prop} (h : ∀ d ∈ ds, ∃ n, d = .int n ∧ P n) : ∃ ns : List Int, ds = ns.map .int ∧ ∀ n ∈ ns, P n := by
  induction ds with
  | nil => exact ⟨[], rfl, fun _ z => nomatch z⟩
  | cons d r ih =>
    obtain ⟨n, rfl, hn⟩ := h d List.mem_cons_self
    obtain ⟨ns, rfl, hs⟩ := ih fun x hx => h x (List.mem_cons_of_mem _ hx)
    exact ⟨n :: ns, rfl, fun m hm => (List.mem_cons.mp hm).elim (fun e => e ▸ hn) (hs m)⟩
/-! ### loops -/
theorem forL_inv {g : EvG} {b : EvS} {src : List (Nat × List D)} {I : Nat → Rho → Store → Prop} {xs : List D} (h : ∀ (i : Nat) x ρ S, xs[i]? = some x → I i ρ S → srcSame S src = true ∧ ∃ ρ1 S1 ρ2 S2, g x ρ S = .ok ρ1 S1 ∧ b ρ1 S1 = .ok (.nx ρ2) S2 ∧ I (i + 1) ρ2 S2) (hl : ∀ ρ S, I xs.length ρ S → srcSame S src = true) :
    ∀ (m i : Nat) (ρ : Rho) (S : Store), i + m = xs.length → I i ρ S → ∃ ρ' S', forL g b src (xs.drop i) ρ S = .ok (.nx ρ') S' ∧ I xs.length ρ' S'
  | 0, i, ρ, S, e, hI => by
    have e : i = xs.length := e
    subst e
    rw [List.drop_length]
    refine ⟨ρ, S, ?_, hI⟩
    unfold forL
    rw [keepSrc_ok (hl ρ S hI)]
  | m + 1, i, ρ, S, e, hI => by
    have hi : i < xs.length := by omega
    obtain ⟨hs, ρ1, S1, ρ2, S2, e1, e2, hI2⟩ := h i xs[i] ρ S (List.getElem?_eq_getElem hi) hI
    obtain ⟨ρ', S', e3, hI3⟩ := forL_inv h hl m (i + 1) ρ2 S2 (by omega) hI2
    refine ⟨ρ', S', ?_, hI3⟩
    rw [List.drop_eq_getElem_cons hi]
    unfold forL
    rw [keepSrc_ok hs, e1]
    show (b ρ1 S1).bind _ = _
    rw [e2]
    exact e3
theorem sFor_inv {w : EvW} {g : EvG} {b : EvS} {src : List (Nat × List D)} {I : Nat → Rho → Store → Prop} {xs : List D} {ρ : Rho} {S S0 : Store} (hw : w ρ S = .ok ⟨src, xs⟩ S0) (h0 : I 0 ρ S0)
    (h : ∀ (i : Nat) x ρ S, xs[i]? = some x → I i ρ S → srcSame S src = true ∧ ∃ ρ1 S1 ρ2 S2, g x ρ S = .ok ρ1 S1 ∧ b ρ1 S1 = .ok (.nx ρ2) S2 ∧ I (i + 1) ρ2 S2) (hl : ∀ ρ S, I xs.length ρ S → srcSame S src = true) :
    ∃ ρ' S', sFor w g b ρ S = .ok (.nx ρ') S' ∧ I xs.length ρ' S' := by
  obtain ⟨ρ', S', e, hI⟩ := forL_inv h hl xs.length 0 ρ S0 (by simp) h0
  refine ⟨ρ', S', ?_, hI⟩
  unfold sFor
  rw [hw]
  exact e
theorem rngL_get {a b : Int} {i : Nat} {x : D} (h : (rngL a b)[i]? = some x) : x = .int (a + i) ∧ i < (b - a).toNat := by
  unfold rngL at h
  rw [List.getElem?_map] at h
  cases e : (List.range (b - a).toNat)[i]? with
  | none => rw [e] at h; cases h
  | some j =>
    rw [e] at h
    obtain ⟨h1, h2⟩ := List.getElem?_eq_some_iff.mp e
    rw [List.getElem_range] at h2
    subst h2
    cases h
    exact ⟨rfl, by simpa using h1⟩
theorem rngL_len (a b : Int) : (rngL a b).length = (b - a).toNat := by unfold rngL; simp
/-- the ints of a range -/
def rngI (a b : Int) : List Int := (List.range (b - a).toNat).map fun (i : Nat) => a + i
theorem rngL_ints (a b : Int) : rngL a b = (rngI a b).map .int := by unfold rngL rngI; rw [List.map_map]; rfl
/-! ### steps -/
theorem seq_nx {s1 s2 : EvS} {ρ ρ1 : Rho} {S S1 : Store} (h : s1 ρ S = .ok (.nx ρ1) S1) : sSeq s1 s2 ρ S = s2 ρ1 S1 := by unfold sSeq; rw [h]; rfl
theorem seq_rt {s1 s2 : EvS} {ρ : Rho} {d : D} {S S1 : Store} (h : s1 ρ S = .ok (.rt d) S1) : sSeq s1 s2 ρ S = .ok (.rt d) S1 := by unfold sSeq; rw [h]; rfl
/-! ### sums, most, least -/
theorem maxI_ge : ∀ {ns : List Int} {n : Int}, n ∈ ns → n ≤ maxI ns
  | [x], n, h => by rw [List.mem_singleton.mp h]; exact Int.le_refl _
  | x :: y :: r, n, h => by
    show n ≤ (if maxI (y :: r) < x then x else maxI (y :: r))
    rcases List.mem_cons.mp h with e | h
    · rw [e]; split <;> omega
    · have := maxI_ge (ns := y :: r) h
      split <;> omega
theorem maxI_mem : ∀ {ns : List Int}, ns ≠ [] → maxI ns ∈ ns
  | [x], _ => List.mem_singleton.mpr rfl
  | x :: y :: r, _ => by
    show (if maxI (y :: r) < x then x else maxI (y :: r)) ∈ _
    split
    · exact List.mem_cons_self
    · exact List.mem_cons_of_mem _ (maxI_mem (by simp))
/-! ### calls in their own part of the store -/
theorem renum_id {ns : List Nat} : ∀ {ds : List D}, celsOf ds = [] → ds.map (renum ns) = ds
  | [], _ => rfl
  | .cel n :: r, h => by cases h
  | .non :: r, h => by rw [List.map_cons, renum_id (show celsOf r = [] from h)]; rfl
  | .bl _ :: r, h => by rw [List.map_cons, renum_id (show celsOf r = [] from h)]; rfl
  | .int _ :: r, h => by rw [List.map_cons, renum_id (show celsOf r = [] from h)]; rfl
  | .str _ :: r, h => by rw [List.map_cons, renum_id (show celsOf r = [] from h)]; rfl
  | .lst _ :: r, h => by rw [List.map_cons, renum_id (show celsOf r = [] from h)]; rfl
  | .tup _ :: r, h => by rw [List.map_cons, renum_id (show celsOf r = [] from h)]; rfl
  | .scr _ :: r, h => by rw [List.map_cons, renum_id (show celsOf r = [] from h)]; rfl
  | .emp :: r, h => by rw [List.map_cons, renum_id (show celsOf r = [] from h)]; rfl
theorem frame0 {c : List D → Store → O Res} {ds : List D} {S : Store} {r r' : Res} (h1 : celsOf ds = []) (h2 : ds.all flat = true) (h : c ds [] = .ok r []) (hb : backR [] r = some r') : frame c ds S = .ok r' S := by
  unfold frame
  rw [h1, h2, renum_id h1]
  simp only [nodupB, Bool.and_self, if_true, subS, h, O.calm, O.bind, hb, List.length_nil]
  rfl
theorem frame1 {c : List D → Store → O Res} {n : Nat} {ds : List D} {S : Store} {x x' : Cell} {r r' : Res} (hS : S[n]? = some (some x)) (hx : lowC 0 x = true) (h1 : celsOf ds = []) (h2 : ds.all flat = true) (h : c (.cel 0 :: ds) [some x] = .ok r [some x']) (hb : backR [n] r = some r') (hx' : lowC 0 x' = true) : frame c (.cel n :: ds) S = .ok r' (S.set n (some x')) := by
  unfold frame
  have e1 : celsOf (.cel n :: ds) = [n] := by show n :: celsOf ds = _; rw [h1]
  have e2 : (D.cel n :: ds).all flat = true := by rw [List.all_cons, h2]; rfl
  have e3 : (D.cel n :: ds).map (renum [n]) = .cel 0 :: ds := by
    rw [List.map_cons, renum_id h1]
    simp [renum]
  rw [e1, e2, e3]
  simp [nodupB, subS, hS, hx, h, O.calm, O.bind, hb, putS, cleanC, hx']
theorem backR_ints {ns : List Nat} (l : List Int) : backR ns (.new (l.map .int)) = some (.new (l.map .int)) := by
  simp [backR, lowL_ints]
theorem lowC_ints (b : Nat) (l : List Int) : lowC b (.lst (l.map .int)) = true := lowL_ints b l
theorem flat_ints (l : List Int) : flat (.lst (l.map .int)) = true := lowL_ints 0 l
mutual
theorem low_mono {a b : Nat} (h : a ≤ b) : ∀ {d : D}, d.low a = true → d.low b = true
  | .non, _ => rfl
  | .bl _, _ => rfl
  | .int _, _ => rfl
  | .str _, _ => rfl
  | .lst xs, w => lowL_mono h (xs := xs) w
  | .tup xs, w => lowL_mono h (xs := xs) w
  | .scr _, _ => rfl
  | .emp, _ => rfl
  | .cel n, w => by
    have w : decide (n < a) = true := w
    rw [decide_eq_true_eq] at w
    exact decide_eq_true (Nat.lt_of_lt_of_le w h)
theorem lowL_mono {a b : Nat} (h : a ≤ b) : ∀ {xs : List D}, lowL a xs = true → lowL b xs = true
  | [], _ => rfl
  | x :: r, w => by
    have w : (x.low a && lowL a r) = true := w
    rw [Bool.and_eq_true] at w
    show (x.low b && lowL b r) = true
    rw [low_mono h w.1, lowL_mono h w.2]; rfl
end
theorem retF_low {b : Nat} {d : D} {S : Store} (h : d.low 0 = true) : retF b d S = .ok (.d d) (cleanS b S) := by
  unfold retF
  split
  · rename_i n
    have h : decide (n < 0) = true := h
    exact absurd (of_decide_eq_true h) (Nat.not_lt_zero _)
  · rw [frzD_low (low_mono (Nat.zero_le _) h)]
theorem retF_new {b n : Nat} {xs : List D} {S : Store} (hn : b ≤ n) (hx : cellL S n = some xs) (h : lowL b xs = true) : retF b (.cel n) S = .ok (.new xs) (cleanS b S) := by
  unfold retF
  simp only [if_neg (Nat.not_lt.mpr hn), hx, frzAll_low h]
/-! ### one step each -/
theorem sIf_t {t : EvB} {f g : EvS} {ρ : Rho} {S S1 : Store} (h : t ρ S = .ok true S1) : sIf t f g ρ S = f ρ S1 := by unfold sIf; rw [h]; rfl
theorem sIf_f {t : EvB} {f g : EvS} {ρ : Rho} {S S1 : Store} (h : t ρ S = .ok false S1) : sIf t f g ρ S = g ρ S1 := by unfold sIf; rw [h]; rfl
theorem if_nx {t : EvB} {f k : EvS} {ρ : Rho} {S S1 : Store} (h : t ρ S = .ok false S1) : sSeq (sIf t f sNext) k ρ S = k ρ S1 := seq_nx (by rw [sIf_f h]; rfl)
theorem sRet_ok {f : EvE} {ρ : Rho} {d : D} {S S1 : Store} (h : f ρ S = .ok d S1) : sRet f ρ S = .ok (.rt d) S1 := by unfold sRet; rw [h]; rfl
theorem ret_rt {f : EvE} {k : EvS} {ρ : Rho} {d : D} {S S1 : Store} (h : f ρ S = .ok d S1) : sSeq (sRet f) k ρ S = .ok (.rt d) S1 := seq_rt (sRet_ok h)
theorem asg_nx {f : EvE} {k : EvS} {i : Nat} {ρ : Rho} {d : D} {S S1 : Store} (h : f ρ S = .ok d S1) : sSeq (sAsg f (gVar i)) k ρ S = k (ρ.set i (some d)) S1 := seq_nx (by unfold sAsg; rw [h]; rfl)
theorem asg_g {f : EvE} {g : EvG} {k : EvS} {ρ ρ1 : Rho} {d : D} {S S1 S2 : Store} (h : f ρ S = .ok d S1) (hg : g d ρ S1 = .ok ρ1 S2) : sSeq (sAsg f g) k ρ S = k ρ1 S2 := seq_nx (by unfold sAsg; rw [h]; show (g d ρ S1).bind _ = _; rw [hg]; rfl)
theorem par_nx {f : EvL} {g : List D → Rho → Store → O Rho} {k : EvS} {ρ ρ1 : Rho} {ds : List D} {S S1 S2 : Store} (h : f ρ S = .ok ds S1) (hg : g ds ρ S1 = .ok ρ1 S2) : sSeq (sPar f g) k ρ S = k ρ1 S2 := seq_nx (by unfold sPar; rw [h]; show (g ds ρ S1).bind _ = _; rw [hg]; rfl)
theorem drop_nx {f : EvE} {k : EvS} {ρ : Rho} {d : D} {S S1 : Store} (h : f ρ S = .ok d S1) : sSeq (sDrop f) k ρ S = k ρ S1 := seq_nx (by unfold sDrop; rw [h]; rfl)
theorem app_nx {f g : EvE} {k : EvS} {ρ : Rho} {n : Nat} {d : D} {xs ys : List D} {S S1 S2 : Store} (h : f ρ S = .ok (.cel n) S1) (hx : cellL S1 n = some xs) (hg : g ρ S1 = .ok d S2) (hy : cellL S2 n = some ys) (hl : ys.length < LINE) : sSeq (sApp f g) k ρ S = k ρ (S2.set n (some (.lst (ys ++ [d])))) := seq_nx (by
  unfold sApp
  rw [h]
  simp only [O.bind, hx, hg, hy, if_pos hl])
theorem eOwn_ok {al : Bool} {c : List D → Store → O Res} {g : EvL} {ρ : Rho} {ds : List D} {r : Res} {S S1 S2 : Store} (hg : g ρ S = .ok ds S1) (hc : c ds S1 = .ok r S2) : eOwn al c g ρ S = settle al r S2 := by
  unfold eOwn
  rw [hg]
  show (c ds S1).calm.bind _ = _
  rw [hc]; rfl
theorem eOwnK_ok {al : Bool} {c : List D → Store → O Res} {m : Nat} {ps ks : List Str} {g k : EvL} {ρ : Rho} {ds es : List D} {r : Res} {S S1 S2 S3 : Store} (hg : g ρ S = .ok ds S1) (hk : k ρ S1 = .ok es S2) (hl : ds.length = m ∧ es.length = ks.length) (hc : c (arr ps ks ds es) S2 = .ok r S3) : eOwnK al c m ps ks g k ρ S = settle al r S3 := by
  unfold eOwnK
  rw [hg]
  show (k ρ S1).bind _ = _
  rw [hk]
  show (if ds.length = m ∧ es.length = ks.length then _ else _) = _
  rw [if_pos hl]
  show (c (arr ps ks ds es) S2).calm.bind _ = _
  rw [hc]; rfl
theorem runF_rt {n N : Nat} {b : EvS} {ds : List D} {S S1 : Store} {d : D} {r : O Res} (hl : ds.length = n) (h : b (ds.map some ++ List.replicate (N - n) none) S = .ok (.rt d) S1) (hr : retF S.length d S1 = r) : runF n N b ds S = r := by
  unfold runF
  rw [if_pos hl, h]
  exact hr
theorem runF_nx {n N : Nat} {b : EvS} {ds : List D} {S S1 : Store} {ρ : Rho} {r : O Res} (hl : ds.length = n) (h : b (ds.map some ++ List.replicate (N - n) none) S = .ok (.nx ρ) S1) (hr : retF S.length .non S1 = r) : runF n N b ds S = r := by
  unfold runF
  rw [if_pos hl, h]
  exact hr
theorem tVal_ok {f : EvE} {ρ : Rho} {b : Bool} {S S1 : Store} (h : f ρ S = .ok (.bl b) S1) : tVal f ρ S = .ok b S1 := by unfold tVal; rw [h]; rfl
theorem eCmp_ok {op : CmpOp} {f g : EvE} {ρ : Rho} {d e : D} {b : Bool} {S S1 S2 : Store} (h : f ρ S = .ok d S1) (h2 : g ρ S1 = .ok e S2) (hb : cmpD S2 op d e = some b) : eCmp op f g ρ S = .ok (.bl b) S2 := by
  unfold eCmp; rw [h]; show (g ρ S1).bind _ = _; rw [h2]; show ofB (cmpD S2 op d e) S2 = _; rw [hb]; rfl
theorem eBlt_ok {al : Bool} {bf : Store → List D → Option Res} {g : EvL} {ρ : Rho} {ds : List D} {r : Res} {S S1 : Store} (h : g ρ S = .ok ds S1) (hb : bf S1 ds = some r) : eBlt al bf g ρ S = settle al r S1 := by
  unfold eBlt; rw [h]; show ofRes al (bf S1 ds) S1 = _; rw [hb]; rfl
theorem one_ok {f : EvE} {ρ : Rho} {d : D} {S S1 : Store} (h : f ρ S = .ok d S1) : eCons f eNil ρ S = .ok [d] S1 := by unfold eCons; rw [h]; rfl
theorem two_ok {f g : EvE} {ρ : Rho} {d e : D} {S S1 S2 : Store} (h : f ρ S = .ok d S1) (h2 : g ρ S1 = .ok e S2) : eCons f (eCons g eNil) ρ S = .ok [d, e] S2 := by
  unfold eCons; rw [h]; show (eCons g eNil ρ S1).bind _ = _; rw [one_ok h2]; rfl
theorem cons_ok {f : EvE} {g : EvL} {ρ : Rho} {d : D} {ds : List D} {S S1 S2 : Store} (h : f ρ S = .ok d S1) (h2 : g ρ S1 = .ok ds S2) : eCons f g ρ S = .ok (d :: ds) S2 := by
  unfold eCons; rw [h]; show (g ρ S1).bind _ = _; rw [h2]; rfl
theorem var_ok {i : Nat} {ρ : Rho} {d : D} {S : Store} (h : ρ[i]? = some (some d)) : eVar i ρ S = .ok d S := by unfold eVar; rw [h]
/-! ### lists of ints -/
def gI (r : List Int) (i : Int) : Int := (r[i.toNat]?).getD 0
theorem gI_mem (r : List Int) (i : Int) : gI r i ∈ r ∨ gI r i = 0 := by
  unfold gI
  cases e : r[i.toNat]? with
  | none => exact .inr rfl
  | some v => exact .inl (List.mem_of_getElem? e)
theorem atI_ints {r : List Int} {i : Int} (h0 : 0 ≤ i) (h1 : i < r.length) : atI (r.map D.int) i = some (.int (gI r i)) := by
  have h2 : i.toNat < r.length := by omega
  simp [atI, ixN, h0, h1, gI, h2]
theorem lenD_of {S : Store} {d : D} {xs : List D} (h : seqOf S d = some xs) : lenD S d = some xs.length := by
  cases d with
  | cel n =>
    have h : cellL S n = some xs := h
    have h2 := cellL_iff h
    have h3 : cellK S n = none := by unfold cellK; rw [h2]
    unfold lenD
    simp only [h3, h]; rfl
  | tup _ => cases h; rfl
  | lst _ => cases h; rfl
  | scr ns =>
    have h : some (ns.map D.int) = some xs := h
    cases h
    rfl
  | _ => cases h
theorem getD_of {S : Store} {d : D} {xs : List D} {i : Int} (h : seqOf S d = some xs) : getD S d (.int i) = atI xs i := by
  unfold getD; rw [h]
theorem bLen_of {S : Store} {d : D} {xs : List D} (h : seqOf S d = some xs) : bLen S [d] = some (.d (.int xs.length)) := by
  unfold bLen one1; simp only [lenD_of h]; rfl
theorem bSum_of {S : Store} {d : D} {ns : List Int} (h : DI.listOf S d = some (ns.map .int)) : bSum S [d] = some (.d (.int ns.sum)) := by
  unfold bSum one1 withInts; simp only [h, intsOf_map]
theorem cell_last {S : Store} {xs : List D} : cellL (S ++ [some (.lst xs)]) S.length = some xs := by
  unfold cellL; rw [List.getElem?_append_right (Nat.le_refl _)]; simp
theorem set_last {S : Store} {c c' : Option Cell} : List.set (S ++ [c]) S.length c' = S ++ [c'] := by
  rw [List.set_append_right _ _ (Nat.le_refl _)]; simp
theorem wRng2_ok {f g : EvE} {ρ : Rho} {a b : Int} {S S1 S2 : Store} (h : f ρ S = .ok (.int a) S1) (h2 : g ρ S1 = .ok (.int b) S2) (hk : rngOk a b = true) : wRng2 f g ρ S = .ok ⟨[], rngL a b⟩ S2 := by
  unfold wRng2; rw [h]; show (g ρ S1).bind _ = _; rw [h2]; show (if rngOk a b then _ else _) = _; rw [if_pos hk]
theorem rngOk_small {a b : Int} (h1 : -1000000 ≤ a) (h2 : a ≤ 1000000) (h3 : -1000000 ≤ b) (h4 : b ≤ 1000000) : rngOk a b = true := by
  unfold rngOk BIG LINE
  simp only [Bool.and_eq_true, decide_eq_true_eq]
  omega
theorem rngI_get {a b : Int} {i : Nat} (h : i < (b - a).toNat) : (rngI a b)[i]? = some (a + i) := by
  unfold rngI
  rw [List.getElem?_map, List.getElem?_range h]; rfl
theorem rngI_len (a b : Int) : (rngI a b).length = (b - a).toNat := by unfold rngI; simp
theorem mem_rngI {a b n : Int} : n ∈ rngI a b ↔ a ≤ n ∧ n < b := by
  unfold rngI
  constructor
  · intro h
    obtain ⟨i, hi, rfl⟩ := List.mem_map.mp h
    have := List.mem_range.mp hi
    omega
  · rintro ⟨h1, h2⟩
    exact List.mem_map.mpr ⟨(n - a).toNat, List.mem_range.mpr (by omega), by omega⟩
theorem take_succ_map {α β : Type} {l : List α} {f : α → β} {i : Nat} {x : α} (h : l[i]? = some x) : (l.take (i + 1)).map f = (l.take i).map f ++ [f x] := by
  rw [List.take_add_one, h]; simp
theorem frame2 {c : List D → Store → O Res} {n : Nat} {y : D} {S : Store} {x x' : Cell} {r r' : Res} (hS : S[n]? = some (some x)) (hx : lowC 0 x = true) (h1 : celsOf [y] = []) (h2 : flat y = true) (h : c [y, .cel 0] [some x] = .ok r [some x']) (hb : backR [n] r = some r') (hx' : lowC 0 x' = true) : frame c [y, .cel n] S = .ok r' (S.set n (some x')) := by
  unfold frame
  have e1 : celsOf [y, .cel n] = [n] := by cases y <;> first | rfl | cases h1
  have e2 : [y, D.cel n].all flat = true := by rw [List.all_cons, h2]; rfl
  have e3 : [y, D.cel n].map (renum [n]) = [y, .cel 0] := by
    cases y <;> first | (simp [renum]; done) | cases h1
  rw [e1, e2, e3]
  simp [nodupB, subS, hS, hx, h, O.calm, O.bind, hb, putS, cleanC, hx']
/-- a row of ints that a call is given -/
inductive Vw : Store → D → List Int → Prop
  | lst (r : List Int) : Vw [] (.lst (r.map .int)) r
  | tup (r : List Int) : Vw [] (.tup (r.map .int)) r
  | cel (r : List Int) : Vw [some (.lst (r.map .int))] (.cel 0) r
theorem Vw.cl {S : Store} {d : D} {r : List Int} (v : Vw S d r) (T : Store) : cleanS S.length (S ++ T) = S := by
  cases v <;> simp [cleanS, cleanC, lowC, lowL_ints]
theorem Vw.cl0 {S : Store} {d : D} {r : List Int} (v : Vw S d r) : cleanS S.length S = S := by
  have := v.cl []
  rwa [List.append_nil] at this
theorem Vw.sq {S : Store} {d : D} {r : List Int} (v : Vw S d r) (T : Store) : seqOf (S ++ T) d = some (r.map .int) := by
  cases v <;> rfl
theorem Vw.sq0 {S : Store} {d : D} {r : List Int} (v : Vw S d r) : seqOf S d = some (r.map .int) := by cases v <;> rfl
theorem Vw.ty {S : Store} {d : D} {r : List Int} (v : Vw S d r) : isInst S d ["list", "tuple"] = some true := by cases v <;> rfl
theorem Vw.src {S : Store} {d : D} {r : List Int} (v : Vw S d r) : srcSame S (srcOf d (r.map .int)) = true := by
  cases v
  · rfl
  · rfl
  · show (sameL (r.map D.int) (r.map .int) && true) = true
    rw [sameL_self]; rfl
theorem Vw.frame {S : Store} {d : D} {r : List Int} (v : Vw S d r) {c : List D → Store → O Res} {ds : List D} {x : Res} (h1 : celsOf ds = []) (h2 : ds.all flat = true) (hb : ∀ ns, backR ns x = some x) (h : c (d :: ds) S = .ok x S) : DI.frame c (d :: ds) S = .ok x S := by
  cases v with
  | lst => exact frame0 h1 (by rw [List.all_cons, flat_ints, h2]; rfl) h (hb _)
  | tup => exact frame0 h1 (by rw [List.all_cons, h2, show DI.flat (.tup (r.map .int)) = true from lowL_ints 0 r]; rfl) h (hb _)
  | cel => exact (frame1 rfl (lowC_ints 0 r) h1 h2 h (hb _) (lowC_ints 0 r)).trans rfl
theorem Vw.frame2 {S : Store} {d : D} {r : List Int} (v : Vw S d r) {c : List D → Store → O Res} {y : D} {x : Res} (h1 : celsOf [y] = []) (h2 : flat y = true) (hb : ∀ ns, backR ns x = some x) (h : c [y, d] S = .ok x S) : DI.frame c [y, d] S = .ok x S := by
  have e : ∀ z : D, celsOf [z] = [] → celsOf [y, z] = [] := fun z hz => by cases y <;> first | exact hz | cases h1
  cases v with
  | lst => exact frame0 (e _ rfl) (by simp [h2, flat_ints]) h (hb _)
  | tup => exact frame0 (e _ rfl) (by simp [h2, show DI.flat (.tup (r.map .int)) = true from lowL_ints 0 r]) h (hb _)
  | cel => exact (DI.frame2 rfl (lowC_ints 0 r) h1 h2 h (hb _) (lowC_ints 0 r)).trans rfl
theorem wSeq_ok {f : EvE} {ρ : Rho} {d : D} {xs : List D} {S S1 : Store} (h : f ρ S = .ok d S1) (hx : seqOf S1 d = some xs) : wSeq f ρ S = .ok ⟨srcOf d xs, xs⟩ S1 := by
  unfold wSeq; rw [h]; simp only [O.bind, hx]
theorem bAll_of {S : Store} {d : D} {ns : List Bool} (h : DI.listOf S d = some (ns.map .bl)) : bAll S [d] = some (.d (.bl (ns.all id))) := by
  unfold bAll one1 withBls; simp only [h, blsOf_map]
theorem eBin_ok {al : Bool} {op : Operator} {f g : EvE} {ρ : Rho} {d e : D} {r : Res} {S S1 S2 : Store} (h : f ρ S = .ok d S1) (h2 : g ρ S1 = .ok e S2) (hb : binD S2 op d e = some r) : eBin al op f g ρ S = settle al r S2 := by
  unfold eBin; rw [h]; show (g ρ S1).bind _ = _; rw [h2]; show ofRes al (binD S2 op d e) S2 = _; rw [hb]; rfl
theorem cmp_ne {S : Store} {d e : D} {b : Bool} (h : eqvD S d e = some b) : cmpD S .NotEq d e = some (!b) := by
  show (eqvD S d e).map (!·) = _
  rw [h]; rfl
theorem cmp_eq {S : Store} {d e : D} {b : Bool} (h : eqvD S d e = some b) : cmpD S .Eq d e = some b := h
theorem rep_flat (n : Nat) (v : Int) : (List.replicate n [D.int v]).flatten = (List.replicate n v).map .int := by
  induction n with
  | zero => rfl
  | succ n ih => rw [List.replicate_succ, List.flatten_cons, ih]; rfl
theorem mul_rep {S : Store} {v : Int} {k : Int} (h0 : 0 ≤ k) (h : k ≤ 100000) : binD S .Mult (.lst [.int v]) (.int k) = some (.new ((List.replicate k.toNat v).map .int)) := by
  rw [← rep_flat]
  have h1 : k.toNat ≤ 16777216 := by omega
  have h2 : k ≤ 16777216 := by omega
  have h3 : (-16777216 : Int) ≤ k := by omega
  exact if_pos (by simp [LINE, h1, h2, h3])
theorem add_lists {S : Store} {xs ys : List Int} (h : xs.length + ys.length ≤ 100000) : binD S .Add (.lst (xs.map .int)) (.lst (ys.map .int)) = some (.new ((xs ++ ys).map .int)) := by
  show (if (xs.map D.int).length + (ys.map D.int).length ≤ LINE then some (Res.new (xs.map D.int ++ ys.map D.int)) else none) = _
  rw [if_pos (by rw [List.length_map, List.length_map]; unfold LINE; omega), List.map_append]
theorem lst_ok {al : Bool} {g : EvL} {ρ : Rho} {ds : List D} {S S1 : Store} (h : g ρ S = .ok ds S1) (hl : ds.length ≤ 100000) : eLst al g ρ S = settle al (.new ds) S1 := by
  unfold eLst; rw [h]
  show (if ds.length ≤ LINE then _ else _) = _
  rw [if_pos (by unfold LINE; omega)]
end DI
/-! DI: repr and == of small data. -/
namespace DI
open PySem L2
structure Small (p : PyData) : Prop where
  sh : p.showable = true
  lf : p.leavesShort 41 = true
  wt : p.weight ≤ 100000
  dp : p.depth ≤ 64
theorem reprD_of {S : Store} {d : D} {p : PyData} (h : d.toP S = some p) (s : Small p) : reprD S d = some p.shown := by
  unfold reprD
  rw [h]
  have h1 := PyData.shown_le 41 (by decide) p s.lf
  have h2 := s.wt
  have h3 : p.shown.length ≤ LINE := by unfold LINE; omega
  simp [s.sh, s.dp, h3]
def T40 : Nat := 10000000000000000000000000000000000000000
theorem int_small {i : Int} (h : i.natAbs < T40) : (PyData.int i).showable = true ∧ (PyData.int i).leavesShort 41 = true := by
  constructor
  · unfold PyData.showable
    have : i.natAbs.log2 < 1920 := by
      by_cases h0 : i.natAbs = 0
      · rw [h0]; decide
      · exact (Nat.log2_lt h0).mpr (Nat.lt_of_lt_of_le h (by unfold T40; decide +kernel))
    simpa using this
  · have e := int_text_length_le10 (a := i) (k := 40) (by decide) (by unfold T40 at h; omega)
    have : (PyData.shown (.int i)).length ≤ 41 := by
      show (Str.ofString (toString i)).length ≤ 41
      rw [ofString_length]; exact e
    simpa [PyData.leavesShort] using this
theorem toPs_ints (S : Store) (ns : List Int) : toPs S (ns.map .int) = some (ns.map .int) := by
  induction ns with
  | nil => rfl
  | cons n r ih => rw [List.map_cons, toPs, ih]; rfl
theorem toPs0_ints (ns : List Int) : toPs0 (ns.map .int) = some (ns.map .int) := by
  induction ns with
  | nil => rfl
  | cons n r ih => rw [List.map_cons, toPs0, ih]; rfl
theorem toP_lst (S : Store) (ns : List Int) : (D.lst (ns.map .int)).toP S = some (.list (ns.map .int)) := by
  unfold D.toP; rw [toPs_ints]; rfl
theorem toP_tup (S : Store) (ns : List Int) : (D.tup (ns.map .int)).toP S = some (.tuple (ns.map .int)) := by
  unfold D.toP; rw [toPs_ints]; rfl
theorem toP_cel {S : Store} {n : Nat} {ns : List Int} (h : cellL S n = some (ns.map .int)) : (D.cel n).toP S = some (.list (ns.map .int)) := by
  unfold D.toP; rw [h]; simp [toPs0_ints]
theorem wt_int {n : Int} (h : n.natAbs < T40) : (PyData.int n).weight ≤ 134 := by
  rw [PyData.weight]
  by_cases h0 : n.natAbs = 0
  · have : n = 0 := by omega
    subst this; decide
  · have : n.natAbs.log2 < 133 := (Nat.log2_lt h0).mpr (Nat.lt_of_lt_of_le h (by unfold T40; decide +kernel))
    split <;> omega
theorem small_all {ns : List Int} (h : ∀ n ∈ ns, n.natAbs < T40) : PyData.showableAll (ns.map .int) = true ∧ PyData.leavesShortAll 41 (ns.map .int) = true ∧ PyData.weightAll (ns.map .int) ≤ 140 * ns.length ∧ PyData.depthAll (ns.map .int) = 0 := by
  induction ns with
  | nil => exact ⟨rfl, rfl, Nat.le_refl _, rfl⟩
  | cons n r ih =>
    obtain ⟨h1, h2, h3, h4⟩ := ih fun m hm => h m (List.mem_cons_of_mem _ hm)
    obtain ⟨g1, g2⟩ := int_small (h n List.mem_cons_self)
    have g3 := wt_int (h n List.mem_cons_self)
    refine ⟨?_, ?_, ?_, ?_⟩
    · rw [List.map_cons, PyData.showableAll, g1, h1]; rfl
    · rw [List.map_cons, PyData.leavesShortAll, g2, h2]; rfl
    · rw [List.map_cons, PyData.weightAll, List.length_cons]; omega
    · rw [List.map_cons, PyData.depthAll, h4]; rfl
theorem small_ints {ns : List Int} (h : ∀ n ∈ ns, n.natAbs < T40) (hl : ns.length ≤ 250) : Small (.list (ns.map .int)) ∧ (PyData.list (ns.map .int)).weight ≤ 40000 ∧ (PyData.list (ns.map .int)).depth ≤ 1 := by
  obtain ⟨h1, h2, h3, h4⟩ := small_all h
  exact ⟨⟨by rw [PyData.showable]; exact h1, by rw [PyData.leavesShort]; exact h2, by rw [PyData.weight]; omega, by rw [PyData.depth, h4]; omega⟩, by rw [PyData.weight]; omega, by rw [PyData.depth, h4]; omega⟩
theorem small_two {p q : PyData} (h : Small p) (g : Small q) (hw : p.weight ≤ 40000) (gw : q.weight ≤ 40000) (hd : p.depth ≤ 10) (gd : q.depth ≤ 10) : Small (.list [p, q]) := by
  refine ⟨?_, ?_, ?_, ?_⟩
  · rw [PyData.showable]; simp [PyData.showableAll, h.sh, g.sh]
  · rw [PyData.leavesShort]; simp [PyData.leavesShortAll, h.lf, g.lf]
  · rw [PyData.weight]; simp [PyData.weightAll]; omega
  · rw [PyData.depth]; simp [PyData.depthAll]; omega
/-! == -/
theorem canLay_ints (ns : List Int) : PyData.canLayAll0 (ns.map .int) = true := by
  induction ns with
  | nil => rfl
  | cons n r ih => rw [List.map_cons]; simp [PyData.canLayAll0, PyData.canLay0, ih]
theorem depth_ints (ns : List Int) : PyData.depthAll (ns.map .int) = 0 := by
  induction ns with
  | nil => rfl
  | cons n r ih => rw [List.map_cons, PyData.depthAll, ih]; rfl
theorem shaped_ints (ns : List Int) : SeqAt.shaped (.list (ns.map .int)) = true := by
  unfold SeqAt.shaped
  rw [PyData.canLay0, canLay_ints, PyData.depth, depth_ints]; rfl
theorem shaped_int (n : Int) : SeqAt.shaped (.int n) = true := rfl
theorem eqv_ints : ∀ (ns ms : List Int), PyData.eqvAll (ns.map .int) (ms.map .int) = decide (ns = ms)
  | [], [] => by simp [PyData.eqvAll]
  | [], m :: ms => by simp [PyData.eqvAll]
  | n :: ns, [] => by simp [PyData.eqvAll]
  | n :: ns, m :: ms => by
    rw [List.map_cons, List.map_cons, PyData.eqvAll, eqv_ints ns ms]
    by_cases h : n = m
    · subst h; simp [PyData.eqv]
    · simp [PyData.eqv, h]
/-- two lists of ints, a value or a cell each -/
theorem strEq_toP {S : Store} {d e : D} {xs : List PyData} (h : d.toP S = some (.list xs)) : strEq d e = none := by
  cases d <;> first | rfl | cases h
theorem eqvD_lists {S : Store} {d e : D} {ns ms : List Int} (h : d.toP S = some (.list (ns.map .int))) (g : e.toP S = some (.list (ms.map .int))) : eqvD S d e = some (decide (ns = ms)) := by
  unfold eqvD
  rw [strEq_toP h]
  simp only []
  unfold eqvD0
  rw [h, g]
  simp only [shaped_ints, Bool.and_self, if_true]
  rw [PyData.eqv, eqv_ints]
theorem eqvD_ints {S : Store} {n m : Int} : eqvD S (.int n) (.int m) = some (decide (n = m)) := rfl
theorem eqvD_strs {S : Store} {n m : Str} : eqvD S (.str n) (.str m) = some (decide (n = m)) := rfl
end DI
/-! DI: more tools for the plain laws. -/
namespace DI
open PySem L2
/-- the loop's variable behind i turns -/
def ln (v : Option D) (a : Int) (i : Nat) : Option D := if i = 0 then v else some (.int (a + i - 1))
theorem ln_succ (v : Option D) (a : Int) (i : Nat) : ln v a (i + 1) = some (.int (a + i)) := by
  unfold ln
  rw [if_neg (by omega)]
  have : a + ((i + 1 : Nat) : Int) - 1 = a + i := by omega
  rw [this]
theorem sFor_to {w : EvW} {g : EvG} {b : EvS} {src : List (Nat × List D)} (I : Nat → Rho → Store → Prop) {xs : List D} {ρ ρ1 : Rho} {S S0 S1 : Store} (hw : w ρ S = .ok ⟨src, xs⟩ S0) (h0 : I 0 ρ S0)
    (h : ∀ (i : Nat) x ρ S, xs[i]? = some x → I i ρ S → srcSame S src = true ∧ ∃ ρ1 S1 ρ2 S2, g x ρ S = .ok ρ1 S1 ∧ b ρ1 S1 = .ok (.nx ρ2) S2 ∧ I (i + 1) ρ2 S2) (hl : ∀ ρ S, I xs.length ρ S → srcSame S src = true)
    (fin : ∀ ρ' S', I xs.length ρ' S' → ρ' = ρ1 ∧ S' = S1) : sFor w g b ρ S = .ok (.nx ρ1) S1 := by
  obtain ⟨ρ', S', e, hI⟩ := sFor_inv hw h0 h hl
  obtain ⟨rfl, rfl⟩ := fin ρ' S' hI
  exact e
/-- for x in range(a, b), slot j: the state is f i (the loop's variable left out) -/
theorem sFor_rng {w : EvW} {b : EvS} {j : Nat} {lo hi : Int} {ρ : Rho} {S S0 : Store} {v : Option D} (f : Nat → Rho × Store) (hw : w ρ S = .ok ⟨[], rngL lo hi⟩ S0) (h0 : ρ = (f 0).1.set j v ∧ S0 = (f 0).2) (hlt : lo < hi)
    (h : ∀ (i : Nat), i < (hi - lo).toNat → b ((f i).1.set j (some (.int (lo + i)))) (f i).2 = .ok (.nx ((f (i + 1)).1.set j (some (.int (lo + i))))) (f (i + 1)).2) :
    sFor w (gVar j) b ρ S = .ok (.nx ((f (hi - lo).toNat).1.set j (some (.int (hi - 1))))) (f (hi - lo).toNat).2 := by
  refine sFor_to (fun i ρ T => ρ = (f i).1.set j (ln v lo i) ∧ T = (f i).2) hw ⟨h0.1, h0.2⟩ (fun i x ρ T hx hI => ?_) (fun _ _ _ => rfl) fun ρ' S' hI => ?_
  · obtain ⟨rfl, rfl⟩ := hI
    obtain ⟨rfl, hi⟩ := rngL_get hx
    refine ⟨rfl, _, _, _, _, rfl, ?_, rfl, rfl⟩
    show b (((f i).1.set j (ln v lo i)).set j (some (.int (lo + i)))) (f i).2 = _
    rw [List.set_set, h i hi, ln_succ]
  · obtain ⟨rfl, rfl⟩ := hI
    rw [rngL_len]
    refine ⟨?_, rfl⟩
    unfold ln
    rw [if_neg (by omega)]
    have : lo + ((hi - lo).toNat : Int) - 1 = hi - 1 := by omega
    rw [this]
theorem wRng2_small {f g : EvE} {ρ : Rho} {a b : Int} {S S1 S2 : Store} (h : f ρ S = .ok (.int a) S1) (h2 : g ρ S1 = .ok (.int b) S2) (h1 : -1000000 ≤ a) (h3 : a ≤ 1000000) (h4 : -1000000 ≤ b) (h5 : b ≤ 1000000) : wRng2 f g ρ S = .ok ⟨[], rngL a b⟩ S2 := wRng2_ok h h2 (rngOk_small h1 h3 h4 h5)
theorem repr_ok {al : Bool} {g : EvL} {ρ : Rho} {d : D} {t : Str} {S S1 : Store} (h : g ρ S = .ok [d] S1) (hr : reprD S1 d = some t) : eBlt al bRepr g ρ S = .ok (.str t) S1 :=
  (eBlt_ok (r := .d (.str t)) h (by show (reprD S1 d).map _ = _; rw [hr]; rfl)).trans rfl
theorem tOr_f {t u : EvB} {ρ : Rho} {S S1 S2 : Store} (h : t ρ S = .ok false S1) (h2 : u ρ S1 = .ok false S2) : tOrE t u ρ S = .ok false S2 := by
  unfold tOrE; rw [h]; exact h2
theorem tAnd_f {t u : EvB} {ρ : Rho} {S S1 : Store} (h : t ρ S = .ok false S1) : tAndE t u ρ S = .ok false S1 := by
  unfold tAndE; rw [h]; rfl
theorem tAnd_t {t u : EvB} {ρ : Rho} {b : Bool} {S S1 S2 : Store} (h : t ρ S = .ok true S1) (h2 : u ρ S1 = .ok b S2) : tAndE t u ρ S = .ok b S2 := by
  unfold tAndE; rw [h]; exact h2
theorem eAnd_t {f g : EvE} {ρ : Rho} {d : D} {S S1 S2 : Store} (h : f ρ S = .ok (.bl true) S1) (h2 : g ρ S1 = .ok d S2) : eAnd f g ρ S = .ok d S2 := by
  unfold eAnd; rw [h]; exact h2
theorem eGet_ok {f g : EvE} {ρ : Rho} {d e v : D} {S S1 S2 : Store} (h : f ρ S = .ok d S1) (h2 : g ρ S1 = .ok e S2) (hv : getD S2 d e = some v) : eGet f g ρ S = .ok v S2 := by
  unfold eGet; rw [h]; show (g ρ S1).bind _ = _; rw [h2]; simp only [O.bind, hv]
theorem sums_map {α : Type} {l : List α} {f : α → Int} : ((l.map fun x => D.int (f x))) = (l.map f).map .int := by rw [List.map_map]; rfl
theorem zipL_mem {rs os : List Int} {d : D} (h : d ∈ zipL (rs.map .int) (os.map .int)) : ∃ x y, d = .tup [.int x, .int y] ∧ x ∈ rs ∧ y ∈ os := by
  unfold zipL at h
  rw [List.zipWith_map] at h
  obtain ⟨i, hi, rfl⟩ := List.getElem_of_mem h
  rw [List.length_zipWith] at hi
  rw [List.getElem_zipWith]
  exact ⟨_, _, rfl, List.getElem_mem _, List.getElem_mem _⟩
theorem eComp_zip {al : Bool} {w : EvW} {vs : List Nat} {c : CT} {t : EvB} {f : EvE} {ρ : Rho} {S : Store} {src : List (Nat × List D)} {rs os : List Int} (F : Int → Int → Int) (hw : w ρ S = .ok ⟨src, zipL (rs.map .int) (os.map .int)⟩ S) (hs : srcSame S src = true)
    (h : ∀ x y, x ∈ rs → y ∈ os → compStep vs c t f ρ (.tup [.int x, .int y]) S = .ok (some (.int (F x y))) S) : eComp al w vs c t f ρ S = settle al (.new ((List.zipWith F rs os).map .int)) S := by
  rw [eComp_pure (fun d => match d with | .tup [.int x, .int y] => .int (F x y) | d => d) hw hs (fun d hd => by
    obtain ⟨x, y, rfl, hx, hy⟩ := zipL_mem hd
    exact h x y hx hy)]
  unfold zipL
  rw [List.zipWith_map, List.map_zipWith, List.map_zipWith]
theorem wZip_ok {f g : EvE} {ρ : Rho} {d e : D} {xs ys : List D} {S S1 S2 : Store} (h : f ρ S = .ok d S1) (h2 : g ρ S1 = .ok e S2) (hx : DI.listOf S2 d = some xs) (hy : DI.listOf S2 e = some ys) : wZip f g ρ S = .ok ⟨srcOf d xs ++ srcOf e ys, zipL xs ys⟩ S2 := by
  unfold wZip; rw [h]; show (g ρ S1).bind _ = _; rw [h2]; simp only [O.bind, hx, hy]
theorem wRng1_ok {f : EvE} {ρ : Rho} {b : Int} {S S1 : Store} (h : f ρ S = .ok (.int b) S1) (hk : rngOk 0 b = true) : wRng1 f ρ S = .ok ⟨[], rngL 0 b⟩ S1 := by
  unfold wRng1; rw [h]; exact if_pos hk
end DI
/-! DI: while loops, extend, sums of pieces. -/
namespace DI
open PySem L2
def whileP {σ : Type} (c : σ → Bool) (f : σ → σ) : Nat → σ → Option σ
  | 0, _ => none
  | n + 1, s => if c s then whileP c f n (f s) else some s
theorem whileP_some {σ : Type} {c : σ → Bool} {f : σ → σ} (μ : σ → Nat) (I : σ → Prop) (hI : ∀ s, I s → c s = true → I (f s) ∧ μ (f s) < μ s) : ∀ (n : Nat) (s : σ), I s → μ s < n → ∃ s', whileP c f n s = some s' ∧ I s' ∧ c s' = false
  | 0, s, _, h => by omega
  | n + 1, s, i, h => by
    unfold whileP
    cases e : c s with
    | false => exact ⟨s, by simp, i, e⟩
    | true =>
      obtain ⟨h1, h2⟩ := hI s i e
      obtain ⟨s', q⟩ := whileP_some μ I hI n (f s) h1 (by omega)
      exact ⟨s', by simpa using q⟩
theorem while_to {σ : Type} {c : σ → Bool} {f : σ → σ} {t : EvB} {b : EvS} (R : σ → Rho → Store → Prop) (ht : ∀ s ρ S, R s ρ S → t ρ S = .ok (c s) S) (hb : ∀ s ρ S, R s ρ S → c s = true → ∃ ρ' S', b ρ S = .ok (.nx ρ') S' ∧ R (f s) ρ' S') :
    ∀ (n m : Nat) (s s' : σ) (ρ : Rho) (S : Store), n ≤ m → whileP c f n s = some s' → R s ρ S → ∃ ρ' S', whileL t b m ρ S = .ok (.nx ρ') S' ∧ R s' ρ' S'
  | 0, m, s, s', ρ, S, _, h, _ => by cases h
  | n + 1, m, s, s', ρ, S, hm, h, hR => by
    obtain ⟨m, rfl⟩ : ∃ k, m = k + 1 := ⟨m - 1, by omega⟩
    unfold whileP at h
    unfold whileL
    rw [ht s ρ S hR]
    cases e : c s with
    | false =>
      rw [e] at h
      cases (show some s = some s' from h)
      exact ⟨ρ, S, rfl, hR⟩
    | true =>
      rw [e] at h
      obtain ⟨ρ1, S1, e1, hR1⟩ := hb s ρ S hR e
      obtain ⟨ρ2, S2, e2, hR2⟩ := while_to R ht hb n m (f s) s' ρ1 S1 (by omega) h hR1
      refine ⟨ρ2, S2, ?_, hR2⟩
      show ((b ρ S).bind _) = _
      rw [e1]
      exact e2
theorem sWhile_to {σ : Type} {c : σ → Bool} {f : σ → σ} {t : EvB} {b : EvS} (R : σ → Rho → Store → Prop) {n : Nat} {s s' : σ} {ρ : Rho} {S : Store} (hn : n ≤ 1000000000000) (h : whileP c f n s = some s') (hR : R s ρ S) (ht : ∀ s ρ S, R s ρ S → t ρ S = .ok (c s) S) (hb : ∀ s ρ S, R s ρ S → c s = true → ∃ ρ' S', b ρ S = .ok (.nx ρ') S' ∧ R (f s) ρ' S') :
    ∃ ρ' S', sWhile t b ρ S = .ok (.nx ρ') S' ∧ R s' ρ' S' :=
  while_to R ht hb n FU s s' ρ S (Nat.le_trans hn (by unfold FU; decide +kernel)) h hR
theorem ext_nx {f g : EvE} {k : EvS} {ρ : Rho} {n : Nat} {d : D} {xs ys zs : List D} {S S1 S2 : Store} (h : f ρ S = .ok (.cel n) S1) (hx : cellL S1 n = some xs) (hg : g ρ S1 = .ok d S2) (hy : cellL S2 n = some ys) (hd : plainL d = true) (hz : DI.listOf S2 d = some zs) (hl : ys.length + zs.length ≤ LINE) : sSeq (sExt f g) k ρ S = k ρ (S2.set n (some (.lst (ys ++ zs)))) := seq_nx (by
  unfold sExt
  rw [h]
  simp only [O.bind, hx, hg, hy, hd, if_true, hz, if_pos hl])
theorem sIfE_t {t : EvB} {f g : EvE} {ρ : Rho} {S S1 : Store} (h : t ρ S = .ok true S1) : eIf t f g ρ S = f ρ S1 := by unfold eIf; rw [h]; rfl
theorem sIfE_f {t : EvB} {f g : EvE} {ρ : Rho} {S S1 : Store} (h : t ρ S = .ok false S1) : eIf t f g ρ S = g ρ S1 := by unfold eIf; rw [h]; rfl
theorem cat_div (a b : Nat) : ((a : Int) / (b : Int)) = ((a / b : Nat) : Int) := rfl
theorem cat_mod (a b : Nat) : ((a : Int) % (b : Int)) = ((a % b : Nat) : Int) := rfl
theorem compStep_yes {vs : List Nat} {c : CT} {f : EvE} {ρ ρ1 : Rho} {x d : D} {S S1 : Store} (h : DI.bindC c x (wipeR ρ vs) = some ρ1) (hf : f ρ1 S = .ok d S1) : compStep vs c tYesE f ρ x S = .ok (some d) S1 := by
  unfold compStep
  rw [h]
  show (f ρ1 S).bind _ = _
  rw [hf]; rfl
theorem compStep_t {vs : List Nat} {c : CT} {t : EvB} {f : EvE} {ρ ρ1 : Rho} {x d : D} {S S1 S2 : Store} (h : DI.bindC c x (wipeR ρ vs) = some ρ1) (ht : t ρ1 S = .ok true S1) (hf : f ρ1 S1 = .ok d S2) : compStep vs c t f ρ x S = .ok (some d) S2 := by
  unfold compStep
  rw [h]
  show (t ρ1 S).bind _ = _
  rw [ht]
  show (f ρ1 S1).bind _ = _
  rw [hf]; rfl
theorem compStep_f {vs : List Nat} {c : CT} {t : EvB} {f : EvE} {ρ ρ1 : Rho} {x : D} {S S1 : Store} (h : DI.bindC c x (wipeR ρ vs) = some ρ1) (ht : t ρ1 S = .ok false S1) : compStep vs c t f ρ x S = .ok none S1 := by
  unfold compStep
  rw [h]
  show (t ρ1 S).bind _ = _
  rw [ht]; rfl
end DI
namespace K96
open PySem PySem.Spec L2 DI
open PyProof.Rows hiding St
def topS (i : Nat) : Stmt := PySem.Challenge.pw_clockrests_k96_whole_sums_over_units_and.main.body.getD i (.Pass ⟨0, 0, 0, 0⟩)
abbrev t__law_draw : Stmt := topS 38
def n__law_draw : List Str := ["pot", "many", "digit"]
theorem sc__law_draw : FnScope n__law_draw ["pot", "many"] (defScope t__law_draw) := ⟨rfl, rfl, rfl, by decide +kernel, rfl, by decide +kernel, by decide +kernel⟩
theorem bp__law_draw : BindsP "_law_draw" t__law_draw ["pot", "many"] := fun _ _ _ _ _ _ us hl => match us, hl with | [_, _], _ => rfl
abbrev t__law_pick : Stmt := topS 39
def n__law_pick : List Str := ["pot", "some"]
theorem sc__law_pick : FnScope n__law_pick ["pot", "some"] (defScope t__law_pick) := ⟨rfl, rfl, rfl, by decide +kernel, rfl, by decide +kernel, by decide +kernel⟩
theorem bp__law_pick : BindsP "_law_pick" t__law_pick ["pot", "some"] := fun _ _ _ _ _ _ us hl => match us, hl with | [_, _], _ => rfl
abbrev t_is_integer : Stmt := topS 1
def n_is_integer : List Str := ["value"]
theorem sc_is_integer : FnScope n_is_integer ["value"] (defScope t_is_integer) := ⟨rfl, rfl, rfl, by decide +kernel, rfl, by decide +kernel, by decide +kernel⟩
theorem bp_is_integer : BindsP "is_integer" t_is_integer ["value"] := fun _ _ _ _ _ _ us hl => match us, hl with | [_], _ => rfl
abbrev t_is_within : Stmt := topS 2
def n_is_within : List Str := ["value", "least", "most"]
theorem sc_is_within : FnScope n_is_within ["value", "least", "most"] (defScope t_is_within) := ⟨rfl, rfl, rfl, by decide +kernel, rfl, by decide +kernel, by decide +kernel⟩
theorem bp_is_within : BindsP "is_within" t_is_within ["value", "least", "most"] := fun _ _ _ _ _ _ us hl => match us, hl with | [_, _, _], _ => rfl
abbrev t_is_clock_value : Stmt := topS 21
def n_is_clock_value : List Str := ["value"]
theorem sc_is_clock_value : FnScope n_is_clock_value ["value"] (defScope t_is_clock_value) := ⟨rfl, rfl, rfl, by decide +kernel, rfl, by decide +kernel, by decide +kernel⟩
theorem bp_is_clock_value : BindsP "is_clock_value" t_is_clock_value ["value"] := fun _ _ _ _ _ _ us hl => match us, hl with | [_], _ => rfl
abbrev t_want_clock : Stmt := topS 22
def n_want_clock : List Str := ["clock"]
theorem sc_want_clock : FnScope n_want_clock ["clock"] (defScope t_want_clock) := ⟨rfl, rfl, rfl, by decide +kernel, rfl, by decide +kernel, by decide +kernel⟩
theorem bp_want_clock : BindsP "want_clock" t_want_clock ["clock"] := fun _ _ _ _ _ _ us hl => match us, hl with | [_], _ => rfl
abbrev t_common_of : Stmt := topS 13
def n_common_of : List Str := ["one", "other"]
theorem sc_common_of : FnScope n_common_of ["one", "other"] (defScope t_common_of) := ⟨rfl, rfl, rfl, by decide +kernel, rfl, by decide +kernel, by decide +kernel⟩
theorem bp_common_of : BindsP "common_of" t_common_of ["one", "other"] := fun _ _ _ _ _ _ us hl => match us, hl with | [_, _], _ => rfl
abbrev t_parts_of : Stmt := topS 14
def n_parts_of : List Str := ["number", "found", "left", "one", "times"]
theorem sc_parts_of : FnScope n_parts_of ["number"] (defScope t_parts_of) := ⟨rfl, rfl, rfl, by decide +kernel, rfl, by decide +kernel, by decide +kernel⟩
theorem bp_parts_of : BindsP "parts_of" t_parts_of ["number"] := fun _ _ _ _ _ _ us hl => match us, hl with | [_], _ => rfl
abbrev t_sign_at : Stmt := topS 18
def n_sign_at : List Str := ["number", "found", "prime", "times"]
theorem sc_sign_at : FnScope n_sign_at ["number"] (defScope t_sign_at) := ⟨rfl, rfl, rfl, by decide +kernel, rfl, by decide +kernel, by decide +kernel⟩
theorem bp_sign_at : BindsP "sign_at" t_sign_at ["number"] := fun _ _ _ _ _ _ us hl => match us, hl with | [_], _ => rfl
abbrev t_power_of : Stmt := topS 15
def n_power_of : List Str := ["one", "times", "found", "turn"]
theorem sc_power_of : FnScope n_power_of ["one", "times"] (defScope t_power_of) := ⟨rfl, rfl, rfl, by decide +kernel, rfl, by decide +kernel, by decide +kernel⟩
theorem bp_power_of : BindsP "power_of" t_power_of ["one", "times"] := fun _ _ _ _ _ _ us hl => match us, hl with | [_, _], _ => rfl
abbrev t_divisors_of : Stmt := topS 16
def n_divisors_of : List Str := ["number", "found", "prime", "times", "late", "power", "one"]
theorem sc_divisors_of : FnScope n_divisors_of ["number"] (defScope t_divisors_of) := ⟨rfl, rfl, rfl, by decide +kernel, rfl, by decide +kernel, by decide +kernel⟩
theorem bp_divisors_of : BindsP "divisors_of" t_divisors_of ["number"] := fun _ _ _ _ _ _ us hl => match us, hl with | [_], _ => rfl
abbrev t_unit_sum_of : Stmt := topS 30
def n_unit_sum_of : List Str := ["clock", "hour", "both", "one"]
theorem sc_unit_sum_of : FnScope n_unit_sum_of ["clock", "hour"] (defScope t_unit_sum_of) := ⟨rfl, rfl, rfl, by decide +kernel, rfl, by decide +kernel, by decide +kernel⟩
theorem bp_unit_sum_of : BindsP "unit_sum_of" t_unit_sum_of ["clock", "hour"] := fun _ _ _ _ _ _ us hl => match us, hl with | [_, _], _ => rfl
abbrev t_unit_sums : Stmt := topS 33
def n_unit_sums : List Str := ["clock", "hour"]
theorem sc_unit_sums : FnScope n_unit_sums ["clock"] (defScope t_unit_sums) := ⟨rfl, rfl, rfl, by decide +kernel, rfl, by decide +kernel, by decide +kernel⟩
theorem bp_unit_sums : BindsP "unit_sums" t_unit_sums ["clock"] := fun _ _ _ _ _ _ us hl => match us, hl with | [_], _ => rfl
abbrev t__law_parts : Stmt := topS 42
def n__law_parts : List Str := ["number", "found", "left", "prime", "times"]
theorem sc__law_parts : FnScope n__law_parts ["number"] (defScope t__law_parts) := ⟨rfl, rfl, rfl, by decide +kernel, rfl, by decide +kernel, by decide +kernel⟩
theorem bp__law_parts : BindsP "_law_parts" t__law_parts ["number"] := fun _ _ _ _ _ _ us hl => match us, hl with | [_], _ => rfl
abbrev t__law_sign : Stmt := topS 43
def n__law_sign : List Str := ["number", "found", "prime", "times"]
theorem sc__law_sign : FnScope n__law_sign ["number"] (defScope t__law_sign) := ⟨rfl, rfl, rfl, by decide +kernel, rfl, by decide +kernel, by decide +kernel⟩
theorem bp__law_sign : BindsP "_law_sign" t__law_sign ["number"] := fun _ _ _ _ _ _ us hl => match us, hl with | [_], _ => rfl
abbrev t__law_divisors : Stmt := topS 41
def n__law_divisors : List Str := ["number", "one"]
theorem sc__law_divisors : FnScope n__law_divisors ["number"] (defScope t__law_divisors) := ⟨rfl, rfl, rfl, by decide +kernel, rfl, by decide +kernel, by decide +kernel⟩
theorem bp__law_divisors : BindsP "_law_divisors" t__law_divisors ["number"] := fun _ _ _ _ _ _ us hl => match us, hl with | [_], _ => rfl
abbrev t__law_unit_sum : Stmt := topS 48
def n__law_unit_sum : List Str := ["clock", "hour", "one"]
theorem sc__law_unit_sum : FnScope n__law_unit_sum ["clock", "hour"] (defScope t__law_unit_sum) := ⟨rfl, rfl, rfl, by decide +kernel, rfl, by decide +kernel, by decide +kernel⟩
theorem bp__law_unit_sum : BindsP "_law_unit_sum" t__law_unit_sum ["clock", "hour"] := fun _ _ _ _ _ _ us hl => match us, hl with | [_, _], _ => rfl
abbrev t__law_common : Stmt := topS 40
def n__law_common : List Str := ["near", "far"]
theorem sc__law_common : FnScope n__law_common ["near", "far"] (defScope t__law_common) := ⟨rfl, rfl, rfl, by decide +kernel, rfl, by decide +kernel, by decide +kernel⟩
theorem bp__law_common : BindsP "_law_common" t__law_common ["near", "far"] := fun _ _ _ _ _ _ us hl => match us, hl with | [_, _], _ => rfl
abbrev t__law_many_units : Stmt := topS 47
def n__law_many_units : List Str := ["clock", "hour"]
theorem sc__law_many_units : FnScope n__law_many_units ["clock"] (defScope t__law_many_units) := ⟨rfl, rfl, rfl, by decide +kernel, rfl, by decide +kernel, by decide +kernel⟩
theorem bp__law_many_units : BindsP "_law_many_units" t__law_many_units ["clock"] := fun _ _ _ _ _ _ us hl => match us, hl with | [_], _ => rfl
abbrev t_want_hour : Stmt := topS 23
def n_want_hour : List Str := ["clock", "hour"]
theorem sc_want_hour : FnScope n_want_hour ["clock", "hour"] (defScope t_want_hour) := ⟨rfl, rfl, rfl, by decide +kernel, rfl, by decide +kernel, by decide +kernel⟩
theorem bp_want_hour : BindsP "want_hour" t_want_hour ["clock", "hour"] := fun _ _ _ _ _ _ us hl => match us, hl with | [_, _], _ => rfl
abbrev t_unit_sum : Stmt := topS 32
def n_unit_sum : List Str := ["clock", "hour"]
theorem sc_unit_sum : FnScope n_unit_sum ["clock", "hour"] (defScope t_unit_sum) := ⟨rfl, rfl, rfl, by decide +kernel, rfl, by decide +kernel, by decide +kernel⟩
theorem bp_unit_sum : BindsP "unit_sum" t_unit_sum ["clock", "hour"] := fun _ _ _ _ _ _ us hl => match us, hl with | [_, _], _ => rfl
abbrev t__law_clock_right : Stmt := topS 49
def n__law_clock_right : List Str := ["pot", "clock", "due", "told", "step", "hour", "both", "near", "far", "rows", "total"]
theorem sc__law_clock_right : FnScope n__law_clock_right ["pot", "clock"] (defScope t__law_clock_right) := ⟨rfl, rfl, rfl, by decide +kernel, rfl, by decide +kernel, by decide +kernel⟩
theorem bp__law_clock_right : BindsP "_law_clock_right" t__law_clock_right ["pot", "clock"] := fun _ _ _ _ _ _ us hl => match us, hl with | [_, _], _ => rfl
abbrev t_at_power : Stmt := topS 28
def n_at_power : List Str := ["word", "prime", "times"]
theorem sc_at_power : FnScope n_at_power ["word", "prime", "times"] (defScope t_at_power) := ⟨rfl, rfl, rfl, by decide +kernel, rfl, by decide +kernel, by decide +kernel⟩
theorem bp_at_power : BindsP "at_power" t_at_power ["word", "prime", "times"] := fun _ _ _ _ _ _ us hl => match us, hl with | [_, _, _], _ => rfl
abbrev t_known_of : Stmt := topS 29
def n_known_of : List Str := ["word", "number", "found", "prime", "times"]
theorem sc_known_of : FnScope n_known_of ["word", "number"] (defScope t_known_of) := ⟨rfl, rfl, rfl, by decide +kernel, rfl, by decide +kernel, by decide +kernel⟩
theorem bp_known_of : BindsP "known_of" t_known_of ["word", "number"] := fun _ _ _ _ _ _ us hl => match us, hl with | [_, _], _ => rfl
abbrev t_common_sum : Stmt := topS 34
def n_common_sum : List Str := ["clock", "one"]
theorem sc_common_sum : FnScope n_common_sum ["clock"] (defScope t_common_sum) := ⟨rfl, rfl, rfl, by decide +kernel, rfl, by decide +kernel, by decide +kernel⟩
theorem bp_common_sum : BindsP "common_sum" t_common_sum ["clock"] := fun _ _ _ _ _ _ us hl => match us, hl with | [_], _ => rfl
abbrev t_is_unit_of : Stmt := topS 24
def n_is_unit_of : List Str := ["clock", "hour"]
theorem sc_is_unit_of : FnScope n_is_unit_of ["clock", "hour"] (defScope t_is_unit_of) := ⟨rfl, rfl, rfl, by decide +kernel, rfl, by decide +kernel, by decide +kernel⟩
theorem bp_is_unit_of : BindsP "is_unit_of" t_is_unit_of ["clock", "hour"] := fun _ _ _ _ _ _ us hl => match us, hl with | [_, _], _ => rfl
abbrev t_unit_common_sum : Stmt := topS 35
def n_unit_common_sum : List Str := ["clock", "hour"]
theorem sc_unit_common_sum : FnScope n_unit_common_sum ["clock"] (defScope t_unit_common_sum) := ⟨rfl, rfl, rfl, by decide +kernel, rfl, by decide +kernel, by decide +kernel⟩
theorem bp_unit_common_sum : BindsP "unit_common_sum" t_unit_common_sum ["clock"] := fun _ _ _ _ _ _ us hl => match us, hl with | [_], _ => rfl
abbrev t__law_common_right : Stmt := topS 50
def n__law_common_right : List Str := ["clock", "due", "units", "number", "hour"]
theorem sc__law_common_right : FnScope n__law_common_right ["clock"] (defScope t__law_common_right) := ⟨rfl, rfl, rfl, by decide +kernel, rfl, by decide +kernel, by decide +kernel⟩
theorem bp__law_common_right : BindsP "_law_common_right" t__law_common_right ["clock"] := fun _ _ _ _ _ _ us hl => match us, hl with | [_], _ => rfl
abbrev t__law_apart_right : Stmt := topS 51
def n__law_apart_right : List Str := ["pot", "near", "far", "hour"]
theorem sc__law_apart_right : FnScope n__law_apart_right ["pot"] (defScope t__law_apart_right) := ⟨rfl, rfl, rfl, by decide +kernel, rfl, by decide +kernel, by decide +kernel⟩
theorem bp__law_apart_right : BindsP "_law_apart_right" t__law_apart_right ["pot"] := fun _ _ _ _ _ _ us hl => match us, hl with | [_], _ => rfl
abbrev t_want_word : Stmt := topS 27
def n_want_word : List Str := ["word"]
theorem sc_want_word : FnScope n_want_word ["word"] (defScope t_want_word) := ⟨rfl, rfl, rfl, by decide +kernel, rfl, by decide +kernel, by decide +kernel⟩
theorem bp_want_word : BindsP "want_word" t_want_word ["word"] := fun _ _ _ _ _ _ us hl => match us, hl with | [_], _ => rfl
abbrev t_is_number_value : Stmt := topS 11
def n_is_number_value : List Str := ["value"]
theorem sc_is_number_value : FnScope n_is_number_value ["value"] (defScope t_is_number_value) := ⟨rfl, rfl, rfl, by decide +kernel, rfl, by decide +kernel, by decide +kernel⟩
theorem bp_is_number_value : BindsP "is_number_value" t_is_number_value ["value"] := fun _ _ _ _ _ _ us hl => match us, hl with | [_], _ => rfl
abbrev t_want_number : Stmt := topS 12
def n_want_number : List Str := ["number"]
theorem sc_want_number : FnScope n_want_number ["number"] (defScope t_want_number) := ⟨rfl, rfl, rfl, by decide +kernel, rfl, by decide +kernel, by decide +kernel⟩
theorem bp_want_number : BindsP "want_number" t_want_number ["number"] := fun _ _ _ _ _ _ us hl => match us, hl with | [_], _ => rfl
abbrev t_known_at : Stmt := topS 31
def n_known_at : List Str := ["word", "number"]
theorem sc_known_at : FnScope n_known_at ["word", "number"] (defScope t_known_at) := ⟨rfl, rfl, rfl, by decide +kernel, rfl, by decide +kernel, by decide +kernel⟩
theorem bp_known_at : BindsP "known_at" t_known_at ["word", "number"] := fun _ _ _ _ _ _ us hl => match us, hl with | [_, _], _ => rfl
abbrev t__law_great_right : Stmt := topS 52
def n__law_great_right : List Str := ["pot", "clock", "units", "hour", "both"]
theorem sc__law_great_right : FnScope n__law_great_right ["pot"] (defScope t__law_great_right) := ⟨rfl, rfl, rfl, by decide +kernel, rfl, by decide +kernel, by decide +kernel⟩
theorem bp__law_great_right : BindsP "_law_great_right" t__law_great_right ["pot"] := fun _ _ _ _ _ _ us hl => match us, hl with | [_], _ => rfl
abbrev t__law_right : Stmt := topS 53
def n__law_right : List Str := ["pot", "clock"]
theorem sc__law_right : FnScope n__law_right ["pot"] (defScope t__law_right) := ⟨rfl, rfl, rfl, by decide +kernel, rfl, by decide +kernel, by decide +kernel⟩
theorem bp__law_right : BindsP "_law_right" t__law_right ["pot"] := fun _ _ _ _ _ _ us hl => match us, hl with | [_], _ => rfl
abbrev t__law_pot : Stmt := topS 37
def n__law_pot : List Str := ["script", "k", "cell"]
theorem sc__law_pot : FnScope n__law_pot ["script", "k"] (defScope t__law_pot) := ⟨rfl, rfl, rfl, by decide +kernel, rfl, by decide +kernel, by decide +kernel⟩
theorem bp__law_pot : BindsP "_law_pot" t__law_pot ["script", "k"] := fun _ _ _ _ _ _ us hl => match us, hl with | [_, _], _ => rfl
abbrev t_law : Stmt := topS 54
def n_law : List Str := ["script", "k"]
theorem sc_law : FnScope n_law ["script"] (defScope t_law) := ⟨rfl, rfl, rfl, by decide +kernel, rfl, by decide +kernel, by decide +kernel⟩
theorem bp_law : BindsP "law" t_law ["script"] := fun _ _ _ _ _ _ us hl => match us, hl with | [_], _ => rfl
def b__law_draw : EvS := sSeq (sIf (tVal (eCmp .Gt (eGet (eVar 0) (eC (.int 0))) (eC (.int 0)))) (sSeq (sAsg (eBlt false (fun _ => bDivmod) (eCons (eGet (eVar 0) (eC (.int 0))) (eCons (eVar 1) (eNil)))) (gTupE 2 (gConsE (gSubE (eVar 0) (eC (.int 0))) (gConsE (gVar 2) (gNilE))))) (sSeq (sRet (eVar 2)) (sNext))) (sNext)) (sSeq (sAsg (eBin false .Mod (eBlt false (fun _ => bInt) (eCons (eBin false .Add (eBin false .Mult (eGet (eVar 0) (eC (.int 1))) (eC (.int 40014))) (eC (.int 2011))) (eNil))) (eC (.int 2147483587))) (gSubE (eVar 0) (eC (.int 1)))) (sSeq (sRet (eBin true .Mod (eBlt false (fun _ => bInt) (eCons (eBin false .FloorDiv (eBin false .Mod (eBlt false (fun _ => bInt) (eCons (eBin false .Mult (eGet (eVar 0) (eC (.int 1))) (eGet (eVar 0) (eC (.int 1)))) (eNil))) (eC (.int 2147483549))) (eC (.int 17))) (eNil))) (eVar 1))) (sNext)))
def c__law_draw : List D → Store → O Res := runF 2 3 b__law_draw
def b__law_pick : EvS := sSeq (sRet (eGet (eVar 1) (eOwn false (frame c__law_draw) (eCons (eVar 0) (eCons (eBlt false bLen (eCons (eVar 1) (eNil))) (eNil)))))) (sNext)
def c__law_pick : List D → Store → O Res := runF 2 2 b__law_pick
def b_is_integer : EvS := sSeq (sRet (eAnd (eIsi (eVar 0) ["int"]) (eNot (eIsi (eVar 0) ["bool"])))) (sNext)
def c_is_integer : List D → Store → O Res := runF 1 1 b_is_integer
def b_is_within : EvS := sSeq (sRet (eAnd (eOwn false (frame c_is_integer) (eCons (eVar 0) (eNil))) (eChain .LtE .LtE (eVar 1) (eVar 0) (eVar 2)))) (sNext)
def c_is_within : List D → Store → O Res := runF 3 3 b_is_within
def b_is_clock_value : EvS := sSeq (sRet (eOwn true (frame c_is_within) (eCons (eVar 0) (eCons (eC (.int 1)) (eCons (eC (.int 2000)) (eNil)))))) (sNext)
def c_is_clock_value : List D → Store → O Res := runF 1 1 b_is_clock_value
def b_want_clock : EvS := sSeq (sIf (tNotE (tVal (eOwn false (frame c_is_clock_value) (eCons (eVar 0) (eNil))))) (sSeq (eNo) (sNext)) (sNext)) (sNext)
def c_want_clock : List D → Store → O Res := runF 1 1 b_want_clock
def b_common_of : EvS := sSeq (sWhile (tVal (eCmp .Gt (eVar 1) (eC (.int 0)))) (sSeq (sPar (eCons (eVar 1) (eCons (eBin false .Mod (eVar 0) (eVar 1)) (eNil))) (gConsE (gVar 0) (gConsE (gVar 1) (gNilE)))) (sNext))) (sSeq (sRet (eVar 0)) (sNext))
def c_common_of : List D → Store → O Res := runF 2 2 b_common_of
def b_parts_of : EvS := sSeq (sPar (eCons (eLst true (eNil)) (eCons (eVar 0) (eCons (eC (.int 2)) (eNil)))) (gConsE (gVar 1) (gConsE (gVar 2) (gConsE (gVar 3) (gNilE))))) (sSeq (sWhile (tVal (eCmp .LtE (eBin false .Mult (eVar 3) (eVar 3)) (eVar 2))) (sSeq (sAsg (eC (.int 0)) (gVar 4)) (sSeq (sWhile (tVal (eCmp .Eq (eBin false .Mod (eVar 2) (eVar 3)) (eC (.int 0)))) (sSeq (sPar (eCons (eBin false .FloorDiv (eVar 2) (eVar 3)) (eCons (eBin false .Add (eVar 4) (eC (.int 1))) (eNil))) (gConsE (gVar 2) (gConsE (gVar 4) (gNilE)))) (sNext))) (sSeq (sExt (eVar 1) (eIf (tVal (eCmp .Gt (eVar 4) (eC (.int 0)))) (eLst false (eCons (eTup (eCons (eVar 3) (eCons (eVar 4) (eNil)))) (eNil))) (eLst false (eNil)))) (sSeq (sAsg (eBin false .Add (eVar 3) (eC (.int 1))) (gVar 3)) (sNext)))))) (sSeq (sExt (eVar 1) (eIf (tVal (eCmp .Gt (eVar 2) (eC (.int 1)))) (eLst false (eCons (eTup (eCons (eVar 2) (eCons (eC (.int 1)) (eNil)))) (eNil))) (eLst false (eNil)))) (sSeq (sRet (eVar 1)) (sNext))))
def c_parts_of : List D → Store → O Res := runF 1 5 b_parts_of
def b_sign_at : EvS := sSeq (sAsg (eC (.int 1)) (gVar 1)) (sSeq (sFor (wSeq (eOwn false (frame c_parts_of) (eCons (eVar 0) (eNil)))) (gTupE 2 (gConsE (gVar 2) (gConsE (gVar 3) (gNilE)))) (sSeq (sAsg (eIf (tVal (eCmp .Eq (eVar 3) (eC (.int 1)))) (eBin false .Sub (eC (.int 0)) (eVar 1)) (eC (.int 0))) (gVar 1)) (sNext))) (sSeq (sRet (eVar 1)) (sNext)))
def c_sign_at : List D → Store → O Res := runF 1 4 b_sign_at
def b_power_of : EvS := sSeq (sAsg (eC (.int 1)) (gVar 2)) (sSeq (sFor (wRng1 (eVar 1)) (gVar 3) (sSeq (sAsg (eBin false .Mult (eVar 2) (eVar 0)) (gVar 2)) (sNext))) (sSeq (sRet (eVar 2)) (sNext)))
def c_power_of : List D → Store → O Res := runF 2 4 b_power_of
def b_divisors_of : EvS := sSeq (sAsg (eLst false (eCons (eC (.int 1)) (eNil))) (gVar 1)) (sSeq (sFor (wSeq (eOwn false (frame c_parts_of) (eCons (eVar 0) (eNil)))) (gTupE 2 (gConsE (gVar 2) (gConsE (gVar 3) (gNilE)))) (sSeq (sAsg (eLst true (eNil)) (gVar 4)) (sSeq (sFor (wRng1 (eBin false .Add (eVar 3) (eC (.int 1)))) (gVar 5) (sSeq (sExt (eVar 4) (eComp false (wSeq (eVar 1)) [6] (.one 6) (tYesE) (eBin false .Mult (eVar 6) (eOwn false (frame c_power_of) (eCons (eVar 2) (eCons (eVar 5) (eNil))))))) (sNext))) (sSeq (sAsg (eVar 4) (gVar 1)) (sNext))))) (sSeq (sRet (eBlt true bSorted (eCons (eVar 1) (eNil)))) (sNext)))
def c_divisors_of : List D → Store → O Res := runF 1 7 b_divisors_of
def b_unit_sum_of : EvS := sSeq (sAsg (eOwn false (frame c_common_of) (eCons (eVar 0) (eCons (eVar 1) (eNil)))) (gVar 2)) (sSeq (sRet (eBlt true bSum (eCons (eComp false (wSeq (eOwn false (frame c_divisors_of) (eCons (eVar 2) (eNil)))) [3] (.one 3) (tYesE) (eBin false .Mult (eVar 3) (eOwn false (frame c_sign_at) (eCons (eBin false .FloorDiv (eVar 0) (eVar 3)) (eNil))))) (eNil)))) (sNext))
def c_unit_sum_of : List D → Store → O Res := runF 2 4 b_unit_sum_of
def b_unit_sums : EvS := sSeq (sDrop (eOwn false (frame c_want_clock) (eCons (eVar 0) (eNil)))) (sSeq (sRet (eComp true (wRng1 (eVar 0)) [1] (.one 1) (tYesE) (eOwn false (frame c_unit_sum_of) (eCons (eVar 0) (eCons (eVar 1) (eNil)))))) (sNext))
def c_unit_sums : List D → Store → O Res := runF 1 2 b_unit_sums
def b__law_parts : EvS := sSeq (sPar (eCons (eLst true (eNil)) (eCons (eVar 0) (eCons (eC (.int 2)) (eNil)))) (gConsE (gVar 1) (gConsE (gVar 2) (gConsE (gVar 3) (gNilE))))) (sSeq (sWhile (tVal (eCmp .Gt (eVar 2) (eC (.int 1)))) (sSeq (sAsg (eC (.int 0)) (gVar 4)) (sSeq (sWhile (tVal (eCmp .Eq (eBlt false (fun _ => bInt) (eCons (eBin false .Mod (eVar 2) (eVar 3)) (eNil))) (eC (.int 0)))) (sSeq (sPar (eCons (eBin false .FloorDiv (eVar 2) (eVar 3)) (eCons (eBin false .Add (eVar 4) (eC (.int 1))) (eNil))) (gConsE (gVar 2) (gConsE (gVar 4) (gNilE)))) (sNext))) (sSeq (sExt (eVar 1) (eIf (tVal (eCmp .Gt (eVar 4) (eC (.int 0)))) (eLst false (eCons (eTup (eCons (eVar 3) (eCons (eVar 4) (eNil)))) (eNil))) (eLst false (eNil)))) (sSeq (sAsg (eIf (tVal (eCmp .LtE (eBin false .Mult (eVar 3) (eVar 3)) (eVar 2))) (eBin false .Add (eVar 3) (eC (.int 1))) (eBlt false bMax (eCons (eBin false .Add (eVar 3) (eC (.int 1))) (eCons (eVar 2) (eNil))))) (gVar 3)) (sNext)))))) (sSeq (sRet (eVar 1)) (sNext)))
def c__law_parts : List D → Store → O Res := runF 1 5 b__law_parts
def b__law_sign : EvS := sSeq (sAsg (eC (.int 1)) (gVar 1)) (sSeq (sFor (wSeq (eOwn false (frame c__law_parts) (eCons (eVar 0) (eNil)))) (gTupE 2 (gConsE (gVar 2) (gConsE (gVar 3) (gNilE)))) (sSeq (sAsg (eIf (tVal (eCmp .Gt (eVar 3) (eC (.int 1)))) (eC (.int 0)) (eBin false .Sub (eC (.int 0)) (eVar 1))) (gVar 1)) (sNext))) (sSeq (sRet (eVar 1)) (sNext)))
def c__law_sign : List D → Store → O Res := runF 1 4 b__law_sign
def b__law_divisors : EvS := sSeq (sRet (eComp true (wRng2 (eC (.int 1)) (eBin false .Add (eVar 0) (eC (.int 1)))) [1] (.one 1) (tVal (eCmp .Eq (eBlt false (fun _ => bInt) (eCons (eBin false .Mod (eVar 0) (eVar 1)) (eNil))) (eC (.int 0)))) (eVar 1))) (sNext)
def c__law_divisors : List D → Store → O Res := runF 1 2 b__law_divisors
def b__law_unit_sum : EvS := sSeq (sRet (eBlt true bSum (eCons (eComp false (wSeq (eOwn false (frame c__law_divisors) (eCons (eVar 0) (eNil)))) [2] (.one 2) (tVal (eCmp .Eq (eBlt false (fun _ => bInt) (eCons (eBin false .Mod (eVar 1) (eVar 2)) (eNil))) (eC (.int 0)))) (eBin false .Mult (eVar 2) (eOwn false (frame c__law_sign) (eCons (eBin false .FloorDiv (eVar 0) (eVar 2)) (eNil))))) (eNil)))) (sNext)
def c__law_unit_sum : List D → Store → O Res := runF 2 3 b__law_unit_sum
def b__law_common : EvS := sSeq (sWhile (tVal (eCmp .Gt (eVar 1) (eC (.int 0)))) (sSeq (sPar (eCons (eVar 1) (eCons (eBlt false (fun _ => bInt) (eCons (eBin false .Mod (eVar 0) (eVar 1)) (eNil))) (eNil))) (gConsE (gVar 0) (gConsE (gVar 1) (gNilE)))) (sNext))) (sSeq (sRet (eVar 0)) (sNext))
def c__law_common : List D → Store → O Res := runF 2 2 b__law_common
def b__law_many_units : EvS := sSeq (sRet (eBlt true bLen (eCons (eComp false (wRng2 (eC (.int 1)) (eBin false .Add (eVar 0) (eC (.int 1)))) [1] (.one 1) (tVal (eCmp .Eq (eOwn false (frame c__law_common) (eCons (eVar 0) (eCons (eVar 1) (eNil)))) (eC (.int 1)))) (eVar 1)) (eNil)))) (sNext)
def c__law_many_units : List D → Store → O Res := runF 1 2 b__law_many_units
def b_want_hour : EvS := sSeq (sIf (tNotE (tVal (eOwn false (frame c_is_within) (eCons (eVar 1) (eCons (eC (.int 0)) (eCons (eBin false .Sub (eVar 0) (eC (.int 1))) (eNil))))))) (sSeq (eNo) (sNext)) (sNext)) (sNext)
def c_want_hour : List D → Store → O Res := runF 2 2 b_want_hour
def b_unit_sum : EvS := sSeq (sDrop (eOwn false (frame c_want_clock) (eCons (eVar 0) (eNil)))) (sSeq (sDrop (eOwn false (frame c_want_hour) (eCons (eVar 0) (eCons (eVar 1) (eNil))))) (sSeq (sRet (eOwn true (frame c_unit_sum_of) (eCons (eVar 0) (eCons (eVar 1) (eNil))))) (sNext)))
def c_unit_sum : List D → Store → O Res := runF 2 2 b_unit_sum
def b__law_clock_right : EvS := sSeq (sAsg (eComp false (wRng1 (eVar 1)) [5] (.one 5) (tYesE) (eOwn false (frame c__law_unit_sum) (eCons (eVar 1) (eCons (eVar 5) (eNil))))) (gVar 2)) (sSeq (sAsg (eOwn true (frame c_unit_sums) (eCons (eVar 1) (eNil))) (gVar 3)) (sSeq (sIf (tVal (eCmp .NotEq (eBlt false bRepr (eCons (eLst false (eCons (eVar 3) (eCons (eOwnK false (frame c_unit_sums) 0 ["clock"] ["clock"] (eNil) (eCons (eVar 1) (eNil))) (eNil)))) (eNil))) (eBlt false bRepr (eCons (eLst false (eCons (eVar 2) (eCons (eVar 2) (eNil)))) (eNil))))) (sSeq (sRet (eC (.bl false))) (sNext)) (sNext)) (sSeq (sApp (eVar 3) (eC .non)) (sSeq (sIf (tVal (eCmp .NotEq (eBlt false bSum (eCons (eVar 2) (eNil))) (eIf (tVal (eCmp .Eq (eVar 1) (eC (.int 1)))) (eC (.int 1)) (eC (.int 0))))) (sSeq (sRet (eC (.bl false))) (sNext)) (sNext)) (sSeq (sFor (wRng1 (eC (.int 5))) (gVar 4) (sSeq (sAsg (eOwn false (frame c__law_draw) (eCons (eVar 0) (eCons (eVar 1) (eNil)))) (gVar 5)) (sSeq (sAsg (eOwn false (frame c__law_common) (eCons (eVar 1) (eCons (eVar 5) (eNil)))) (gVar 6)) (sSeq (sIf (tVal (eCmp .NotEq (eBlt false bRepr (eCons (eLst false (eCons (eOwn false (frame c_unit_sum) (eCons (eVar 1) (eCons (eVar 5) (eNil)))) (eCons (eOwnK false (frame c_unit_sum) 0 ["clock", "hour"] ["hour", "clock"] (eNil) (eCons (eVar 5) (eCons (eVar 1) (eNil)))) (eNil)))) (eNil))) (eBlt false bRepr (eCons (eBin false .Mult (eLst false (eCons (eGet (eVar 2) (eVar 5)) (eNil))) (eC (.int 2))) (eNil))))) (sSeq (sRet (eC (.bl false))) (sNext)) (sNext)) (sSeq (sIf (tVal (eCmp .NotEq (eBin false .Mult (eGet (eVar 2) (eVar 5)) (eOwn false (frame c__law_many_units) (eCons (eBin false .FloorDiv (eVar 1) (eVar 6)) (eNil)))) (eBin false .Mult (eOwn false (frame c__law_many_units) (eCons (eVar 1) (eNil))) (eOwn false (frame c__law_sign) (eCons (eBin false .FloorDiv (eVar 1) (eVar 6)) (eNil)))))) (sSeq (sRet (eC (.bl false))) (sNext)) (sNext)) (sNext)))))) (sSeq (sAsg (eTup (eCons (eOwn false (frame c__law_pick) (eCons (eVar 0) (eCons (eOwn false (frame c__law_divisors) (eCons (eVar 1) (eNil))) (eNil)))) (eCons (eOwn false (frame c__law_pick) (eCons (eVar 0) (eCons (eOwn false (frame c__law_divisors) (eCons (eVar 1) (eNil))) (eNil)))) (eNil)))) (gTupE 2 (gConsE (gVar 7) (gConsE (gVar 8) (gNilE))))) (sSeq (sAsg (eLst false (eCons (eOwn false (frame c_unit_sums) (eCons (eVar 7) (eNil))) (eCons (eOwn false (frame c_unit_sums) (eCons (eVar 8) (eNil))) (eNil)))) (gVar 9)) (sSeq (sAsg (eBlt false bSum (eCons (eComp false (wRng1 (eVar 1)) [5] (.one 5) (tYesE) (eBin false .Mult (eGet (eGet (eVar 9) (eC (.int 0))) (eBlt false (fun _ => bInt) (eCons (eBin false .Mod (eVar 5) (eVar 7)) (eNil)))) (eGet (eGet (eVar 9) (eC (.int 1))) (eBlt false (fun _ => bInt) (eCons (eBin false .Mod (eVar 5) (eVar 8)) (eNil)))))) (eNil))) (gVar 10)) (sSeq (sRet (eCmp .Eq (eVar 10) (eIf (tVal (eCmp .Eq (eVar 7) (eVar 8))) (eBin false .Mult (eVar 1) (eOwn false (frame c__law_many_units) (eCons (eVar 7) (eNil)))) (eC (.int 0))))) (sNext))))))))))
def c__law_clock_right : List D → Store → O Res := runF 2 11 b__law_clock_right
def b_at_power : EvS := sSeq (sIf (tVal (eCmp .Eq (eVar 0) (eC (.str "one")))) (sSeq (sRet (eC (.int 0))) (sNext)) (sNext)) (sSeq (sIf (tVal (eCmp .Eq (eVar 0) (eC (.str "ones")))) (sSeq (sRet (eC (.int 1))) (sNext)) (sNext)) (sSeq (sIf (tVal (eCmp .Eq (eVar 0) (eC (.str "numbers")))) (sSeq (sRet (eOwn true (frame c_power_of) (eCons (eVar 1) (eCons (eVar 2) (eNil))))) (sNext)) (sNext)) (sSeq (sIf (tVal (eCmp .Eq (eVar 0) (eC (.str "divisors")))) (sSeq (sRet (eBin true .Add (eVar 2) (eC (.int 1)))) (sNext)) (sNext)) (sSeq (sIf (tVal (eCmp .Eq (eVar 0) (eC (.str "sums")))) (sSeq (sRet (eBin true .FloorDiv (eBin false .Sub (eOwn false (frame c_power_of) (eCons (eVar 1) (eCons (eBin false .Add (eVar 2) (eC (.int 1))) (eNil)))) (eC (.int 1))) (eBin false .Sub (eVar 1) (eC (.int 1))))) (sNext)) (sNext)) (sSeq (sIf (tVal (eCmp .Eq (eVar 0) (eC (.str "units")))) (sSeq (sRet (eBin true .Sub (eOwn false (frame c_power_of) (eCons (eVar 1) (eCons (eVar 2) (eNil)))) (eOwn false (frame c_power_of) (eCons (eVar 1) (eCons (eBin false .Sub (eVar 2) (eC (.int 1))) (eNil)))))) (sNext)) (sNext)) (sSeq (sIf (tVal (eCmp .Eq (eVar 0) (eC (.str "signs")))) (sSeq (sRet (eIf (tVal (eCmp .Eq (eVar 2) (eC (.int 1)))) (eNeg (eC (.int 1))) (eC (.int 0)))) (sNext)) (sNext)) (sSeq (sIf (tVal (eCmp .Eq (eVar 0) (eC (.str "turns")))) (sSeq (sRet (eBin true .Sub (eC (.int 1)) (eBin false .Mult (eC (.int 2)) (eBin false .Mod (eVar 2) (eC (.int 2)))))) (sNext)) (sNext)) (sSeq (sRet (eBin true .Sub (eC (.int 1)) (eBin false .Mod (eVar 2) (eC (.int 2))))) (sNext)))))))))
def c_at_power : List D → Store → O Res := runF 3 3 b_at_power
def b_known_of : EvS := sSeq (sAsg (eC (.int 1)) (gVar 2)) (sSeq (sFor (wSeq (eOwn false (frame c_parts_of) (eCons (eVar 1) (eNil)))) (gTupE 2 (gConsE (gVar 3) (gConsE (gVar 4) (gNilE)))) (sSeq (sAsg (eBin false .Mult (eVar 2) (eOwn false (frame c_at_power) (eCons (eVar 0) (eCons (eVar 3) (eCons (eVar 4) (eNil)))))) (gVar 2)) (sNext))) (sSeq (sRet (eVar 2)) (sNext)))
def c_known_of : List D → Store → O Res := runF 2 5 b_known_of
def b_common_sum : EvS := sSeq (sDrop (eOwn false (frame c_want_clock) (eCons (eVar 0) (eNil)))) (sSeq (sRet (eBlt true bSum (eCons (eComp false (wSeq (eOwn false (frame c_divisors_of) (eCons (eVar 0) (eNil)))) [1] (.one 1) (tYesE) (eBin false .Mult (eOwn false (frame c_known_of) (eCons (eC (.str "units")) (eCons (eVar 1) (eNil)))) (eBin false .FloorDiv (eVar 0) (eVar 1)))) (eNil)))) (sNext))
def c_common_sum : List D → Store → O Res := runF 1 2 b_common_sum
def b_is_unit_of : EvS := sSeq (sRet (eCmp .Eq (eOwn false (frame c_common_of) (eCons (eVar 0) (eCons (eVar 1) (eNil)))) (eC (.int 1)))) (sNext)
def c_is_unit_of : List D → Store → O Res := runF 2 2 b_is_unit_of
def b_unit_common_sum : EvS := sSeq (sDrop (eOwn false (frame c_want_clock) (eCons (eVar 0) (eNil)))) (sSeq (sRet (eBlt true bSum (eCons (eComp false (wRng1 (eVar 0)) [1] (.one 1) (tVal (eOwn false (frame c_is_unit_of) (eCons (eVar 0) (eCons (eVar 1) (eNil))))) (eOwn false (frame c_common_of) (eCons (eVar 0) (eCons (eBin false .Mod (eBin false .Sub (eVar 1) (eC (.int 1))) (eVar 0)) (eNil))))) (eNil)))) (sNext))
def c_unit_common_sum : List D → Store → O Res := runF 1 2 b_unit_common_sum
def b__law_common_right : EvS := sSeq (sAsg (eBlt false bSum (eCons (eComp false (wRng2 (eC (.int 1)) (eBin false .Add (eVar 0) (eC (.int 1)))) [3] (.one 3) (tYesE) (eOwn false (frame c__law_common) (eCons (eVar 0) (eCons (eVar 3) (eNil))))) (eNil))) (gVar 1)) (sSeq (sIf (tVal (eCmp .NotEq (eBlt false bRepr (eCons (eLst false (eCons (eOwn false (frame c_common_sum) (eCons (eVar 0) (eNil))) (eCons (eOwnK false (frame c_common_sum) 0 ["clock"] ["clock"] (eNil) (eCons (eVar 0) (eNil))) (eNil)))) (eNil))) (eBlt false bRepr (eCons (eLst false (eCons (eVar 1) (eCons (eVar 1) (eNil)))) (eNil))))) (sSeq (sRet (eC (.bl false))) (sNext)) (sNext)) (sSeq (sAsg (eComp false (wRng1 (eVar 0)) [4] (.one 4) (tVal (eCmp .Eq (eOwn false (frame c__law_common) (eCons (eVar 0) (eCons (eVar 4) (eNil)))) (eC (.int 1)))) (eVar 4)) (gVar 2)) (sSeq (sAsg (eBlt false bSum (eCons (eComp false (wSeq (eVar 2)) [4] (.one 4) (tYesE) (eOwn false (frame c__law_common) (eCons (eVar 0) (eCons (eBlt false bMax (eCons (eC (.int 0)) (eCons (eBin false .Sub (eVar 4) (eC (.int 1))) (eNil)))) (eNil))))) (eNil))) (gVar 1)) (sSeq (sIf (tVal (eCmp .NotEq (eBlt false bRepr (eCons (eLst false (eCons (eOwn false (frame c_unit_common_sum) (eCons (eVar 0) (eNil))) (eCons (eOwnK false (frame c_unit_common_sum) 0 ["clock"] ["clock"] (eNil) (eCons (eVar 0) (eNil))) (eNil)))) (eNil))) (eBlt false bRepr (eCons (eLst false (eCons (eVar 1) (eCons (eVar 1) (eNil)))) (eNil))))) (sSeq (sRet (eC (.bl false))) (sNext)) (sNext)) (sSeq (sRet (eCmp .Eq (eVar 1) (eBin false .Mult (eBlt false bLen (eCons (eVar 2) (eNil))) (eBlt false bLen (eCons (eOwn false (frame c__law_divisors) (eCons (eVar 0) (eNil))) (eNil)))))) (sNext))))))
def c__law_common_right : List D → Store → O Res := runF 1 5 b__law_common_right
def b__law_apart_right : EvS := sSeq (sPar (eCons (eBin false .Add (eC (.int 1)) (eOwn false (frame c__law_draw) (eCons (eVar 0) (eCons (eC (.int 44)) (eNil))))) (eCons (eBin false .Add (eC (.int 1)) (eOwn false (frame c__law_draw) (eCons (eVar 0) (eCons (eC (.int 44)) (eNil))))) (eNil))) (gConsE (gVar 1) (gConsE (gVar 2) (gNilE)))) (sSeq (sIf (tVal (eCmp .NotEq (eOwn false (frame c__law_common) (eCons (eVar 1) (eCons (eVar 2) (eNil)))) (eC (.int 1)))) (sSeq (sRet (eC (.bl true))) (sNext)) (sNext)) (sSeq (sAsg (eOwn false (frame c__law_draw) (eCons (eVar 0) (eCons (eBin false .Mult (eVar 1) (eVar 2)) (eNil)))) (gVar 3)) (sSeq (sIf (tVal (eCmp .NotEq (eOwn false (frame c_unit_sum) (eCons (eBin false .Mult (eVar 1) (eVar 2)) (eCons (eVar 3) (eNil)))) (eBin false .Mult (eOwn false (frame c_unit_sum) (eCons (eVar 1) (eCons (eBlt false (fun _ => bInt) (eCons (eBin false .Mod (eVar 3) (eVar 1)) (eNil))) (eNil)))) (eOwn false (frame c_unit_sum) (eCons (eVar 2) (eCons (eBlt false (fun _ => bInt) (eCons (eBin false .Mod (eVar 3) (eVar 2)) (eNil))) (eNil))))))) (sSeq (sRet (eC (.bl false))) (sNext)) (sNext)) (sSeq (sRet (eAnd (eCmp .Eq (eOwn false (frame c_common_sum) (eCons (eBin false .Mult (eVar 1) (eVar 2)) (eNil))) (eBin false .Mult (eOwn false (frame c_common_sum) (eCons (eVar 1) (eNil))) (eOwn false (frame c_common_sum) (eCons (eVar 2) (eNil))))) (eCmp .Eq (eOwn false (frame c_unit_common_sum) (eCons (eBin false .Mult (eVar 1) (eVar 2)) (eNil))) (eBin false .Mult (eOwn false (frame c_unit_common_sum) (eCons (eVar 1) (eNil))) (eOwn false (frame c_unit_common_sum) (eCons (eVar 2) (eNil))))))) (sNext)))))
def c__law_apart_right : List D → Store → O Res := runF 1 4 b__law_apart_right
def b_want_word : EvS := sSeq (sIf (tOrE (tNotE (tVal (eIsi (eVar 0) ["str"]))) (tVal (eCmp .NotIn (eVar 0) (eC (.tup [.str "one", .str "ones", .str "numbers", .str "divisors", .str "sums", .str "units", .str "signs", .str "turns", .str "squares"]))))) (sSeq (eNo) (sNext)) (sNext)) (sNext)
def c_want_word : List D → Store → O Res := runF 1 1 b_want_word
def b_is_number_value : EvS := sSeq (sRet (eOwn true (frame c_is_within) (eCons (eVar 0) (eCons (eC (.int 1)) (eCons (eC (.int 1000000)) (eNil)))))) (sNext)
def c_is_number_value : List D → Store → O Res := runF 1 1 b_is_number_value
def b_want_number : EvS := sSeq (sIf (tNotE (tVal (eOwn false (frame c_is_number_value) (eCons (eVar 0) (eNil))))) (sSeq (eNo) (sNext)) (sNext)) (sNext)
def c_want_number : List D → Store → O Res := runF 1 1 b_want_number
def b_known_at : EvS := sSeq (sDrop (eOwn false (frame c_want_word) (eCons (eVar 0) (eNil)))) (sSeq (sDrop (eOwn false (frame c_want_number) (eCons (eVar 1) (eNil)))) (sSeq (sRet (eOwn true (frame c_known_of) (eCons (eVar 0) (eCons (eVar 1) (eNil))))) (sNext)))
def c_known_at : List D → Store → O Res := runF 2 2 b_known_at
def b__law_great_right : EvS := sSeq (sAsg (eOwn false (frame c__law_pick) (eCons (eVar 0) (eCons (eLst false (eCons (eC (.int 1999)) (eCons (eC (.int 1997)) (eCons (eC (.int 2000)) (eCons (eC (.int 1024)) (eCons (eC (.int 1680)) (eCons (eC (.int 210)) (eCons (eC (.int 1155)) (eCons (eC (.int 961)) (eNil)))))))))) (eNil)))) (gVar 1)) (sSeq (sPar (eCons (eOwn false (frame c_known_at) (eCons (eC (.str "units")) (eCons (eVar 1) (eNil)))) (eCons (eOwn false (frame c__law_draw) (eCons (eVar 0) (eCons (eVar 1) (eNil)))) (eNil))) (gConsE (gVar 2) (gConsE (gVar 3) (gNilE)))) (sSeq (sIf (tOrE (tVal (eCmp .NotEq (eOwn false (frame c_unit_sum) (eCons (eVar 1) (eCons (eC (.int 0)) (eNil)))) (eVar 2))) (tVal (eCmp .NotEq (eOwn false (frame c_unit_sum) (eCons (eVar 1) (eCons (eC (.int 1)) (eNil)))) (eOwn false (frame c_known_at) (eCons (eC (.str "signs")) (eCons (eVar 1) (eNil))))))) (sSeq (sRet (eC (.bl false))) (sNext)) (sNext)) (sSeq (sIf (tVal (eCmp .NotEq (eOwn false (frame c_unit_common_sum) (eCons (eVar 1) (eNil))) (eBin false .Mult (eVar 2) (eOwn false (frame c_known_at) (eCons (eC (.str "divisors")) (eCons (eVar 1) (eNil))))))) (sSeq (sRet (eC (.bl false))) (sNext)) (sNext)) (sSeq (sAsg (eOwn false (frame c__law_common) (eCons (eVar 1) (eCons (eVar 3) (eNil)))) (gVar 4)) (sSeq (sIf (tVal (eCmp .NotEq (eBin false .Mult (eOwn false (frame c_unit_sum) (eCons (eVar 1) (eCons (eVar 3) (eNil)))) (eOwn false (frame c_known_at) (eCons (eC (.str "units")) (eCons (eBin false .FloorDiv (eVar 1) (eVar 4)) (eNil))))) (eBin false .Mult (eVar 2) (eOwn false (frame c_known_at) (eCons (eC (.str "signs")) (eCons (eBin false .FloorDiv (eVar 1) (eVar 4)) (eNil))))))) (sSeq (sRet (eC (.bl false))) (sNext)) (sNext)) (sSeq (sRet (eAnd (eCmp .Eq (eOwn false (frame c_common_sum) (eCons (eC (.int 1999)) (eNil))) (eBin false .Sub (eBin false .Mult (eC (.int 2)) (eC (.int 1999))) (eC (.int 1)))) (eCmp .Eq (eOwn false (frame c_common_sum) (eCons (eC (.int 1024)) (eNil))) (eBin false .Mult (eC (.int 1024)) (eC (.int 6)))))) (sNext)))))))
def c__law_great_right : List D → Store → O Res := runF 1 5 b__law_great_right
def b__law_right : EvS := sSeq (sAsg (eOwn false (frame c__law_pick) (eCons (eVar 0) (eCons (eLst false (eCons (eC (.int 1)) (eCons (eC (.int 2)) (eCons (eC (.int 6)) (eCons (eC (.int 12)) (eCons (eC (.int 30)) (eCons (eBin false .Add (eC (.int 1)) (eOwn false (frame c__law_draw) (eCons (eVar 0) (eCons (eC (.int 60)) (eNil))))) (eNil)))))))) (eNil)))) (gVar 1)) (sSeq (sRet (eAnd (eOwn false (frame c__law_clock_right) (eCons (eVar 0) (eCons (eVar 1) (eNil)))) (eAnd (eOwn false (frame c__law_common_right) (eCons (eVar 1) (eNil))) (eAnd (eOwn false (frame c__law_apart_right) (eCons (eVar 0) (eNil))) (eOwn false (frame c__law_great_right) (eCons (eVar 0) (eNil))))))) (sNext))
def c__law_right : List D → Store → O Res := runF 1 2 b__law_right
def b__law_pot : EvS := sSeq (sAsg (eIf (tVal (eCmp .Lt (eVar 1) (eBlt false bLen (eCons (eVar 0) (eNil))))) (eBlt false (fun _ => bAbs) (eCons (eGet (eVar 0) (eVar 1)) (eNil))) (eBin false .Add (eBin false .Mult (eC (.int 3019)) (eVar 1)) (eC (.int 2711)))) (gVar 2)) (sSeq (sRet (eLst true (eCons (eBlt false bMax (eCons (eC (.int 0)) (eCons (eBin false .Sub (eVar 2) (eBin false .Pow (eC (.int 10)) (eC (.int 18)))) (eNil)))) (eCons (eBin false .Add (eBin false .Mod (eBlt false (fun _ => bInt) (eCons (eBin false .Add (eBin false .Add (eBin false .Mult (eBin false .Mod (eBlt false (fun _ => bInt) (eCons (eVar 2) (eNil))) (eC (.int 2147483549))) (eC (.int 40692))) (eBin false .Mult (eC (.int 3019)) (eVar 1))) (eC (.int 2011))) (eNil))) (eC (.int 2147483563))) (eC (.int 1))) (eNil))))) (sNext))
def c__law_pot : List D → Store → O Res := runF 2 3 b__law_pot
def b_law : EvS := sSeq (sRet (eBlt true bAll (eCons (eComp false (wRng1 (eBlt false bMax (eCons (eC (.int 1)) (eCons (eBlt false bMin (eCons (eC (.int 2)) (eCons (eBlt false bLen (eCons (eVar 0) (eNil))) (eNil)))) (eNil))))) [1] (.one 1) (tYesE) (eOwn false (frame c__law_right) (eCons (eOwn true (frame c__law_pot) (eCons (eVar 0) (eCons (eVar 1) (eNil)))) (eNil)))) (eNil)))) (sNext)
def c_law : List D → Store → O Res := runF 1 2 b_law
structure Glo (K : PySem.W.Frag) (mg : Str → Option Value) : Prop where
  z_abs : mg "abs" = none
  z_all : mg "all" = none
  z_bool : mg "bool" = none
  z_divmod : mg "divmod" = none
  z_int : mg "int" = none
  z_isinstance : mg "isinstance" = none
  z_len : mg "len" = none
  z_max : mg "max" = none
  z_min : mg "min" = none
  z_range : mg "range" = none
  z_repr : mg "repr" = none
  z_sorted : mg "sorted" = none
  z_str : mg "str" = none
  z_sum : mg "sum" = none
  k_MOST_CLOCK : CstD K mg "MOST_CLOCK" (.int 2000)
  k_MOST_NUMBER : CstD K mg "MOST_NUMBER" (.int 1000000)
  k_WORDS : CstD K mg "WORDS" (.tup [.str "one", .str "ones", .str "numbers", .str "divisors", .str "sums", .str "units", .str "signs", .str "turns", .str "squares"])
theorem bk_unit_sums_0_clock : BindsK "unit_sums" t_unit_sums ["clock"] 0 ["clock"] := fun _ _ _ _ _ _ us ws h1 h2 => match us, ws, h1, h2 with | [], [_], _, _ => rfl
theorem bk_unit_sum_0_hour_clock : BindsK "unit_sum" t_unit_sum ["clock", "hour"] 0 ["hour", "clock"] := fun _ _ _ _ _ _ us ws h1 h2 => match us, ws, h1, h2 with | [], [_, _], _, _ => rfl
theorem bk_common_sum_0_clock : BindsK "common_sum" t_common_sum ["clock"] 0 ["clock"] := fun _ _ _ _ _ _ us ws h1 h2 => match us, ws, h1, h2 with | [], [_], _, _ => rfl
theorem bk_unit_common_sum_0_clock : BindsK "unit_common_sum" t_unit_common_sum ["clock"] 0 ["clock"] := fun _ _ _ _ _ _ us ws h1 h2 => match us, ws, h1, h2 with | [], [_], _, _ => rfl
section
variable {P : Program} {w : World} {K : PySem.W.Frag} {mg : Str → Option Value} {base : Heap}
theorem o__law_draw (G : Glo K mg) (sb : SysD base)  (T : Top K mg "_law_draw" t__law_draw) : Own P w K mg base 1 "_law_draw" t__law_draw ["pot", "many"] c__law_draw :=
  own_mk T sc__law_draw sb fun X f cdv A outer s H E _ B => (ss_cons (ps_ifD (s_tcmp (Bd.sm B) (Bd.u70 B) (s_get (Bd.u1 B) (s_var rfl (.inl rfl) (by decide) (by decide)) w_int (fun _ _ => rfl)) w_int rfl) (ss_cons (ps_asgD (w_divmod G.z_divmod (gl rfl) (s_cons (s_get (Bd.u1 B) (s_var rfl (.inl rfl) (by decide) (by decide)) w_int (fun _ _ => rfl)) (s_cons (s_var rfl (.inl rfl) (by decide) (by decide)) s_nil rfl) rfl) rfl rfl) (g_tup (Bd.calm B) (g_cons (g_sub (Bd.u1 B) (s_var rfl (.inl rfl) (by decide) (by decide)) w_int (fun _ => rfl)) (g_cons (g_var (Bd.nd B) rfl (.inl rfl) (.inl rfl)) g_nil rfl) rfl) rfl rfl) rfl rfl rfl) (ss_cons (ps_retD (s_var rfl (.inl rfl) (by decide) (by decide))) ss_next)) ss_next) (ss_cons (ps_asgD (s_bin (w_int1 G.z_int (gl rfl) (s_cons (s_bin (s_bin (s_get (Bd.u1 B) (s_var rfl (.inl rfl) (by decide) (by decide)) w_int (fun _ _ => rfl)) w_int) w_int) s_nil rfl) rfl rfl) w_int) (g_sub (Bd.u1 B) (s_var rfl (.inl rfl) (by decide) (by decide)) w_int (fun _ => rfl)) rfl rfl rfl) (ss_cons (ps_retD (s_bin (w_int1 G.z_int (gl rfl) (s_cons (s_bin (s_bin (w_int1 G.z_int (gl rfl) (s_cons (s_bin (s_get (Bd.u1 B) (s_var rfl (.inl rfl) (by decide) (by decide)) w_int (fun _ _ => rfl)) (s_get (Bd.u1 B) (s_var rfl (.inl rfl) (by decide) (by decide)) w_int (fun _ _ => rfl))) s_nil rfl) rfl rfl) w_int) w_int) s_nil rfl) rfl rfl) (s_var rfl (.inl rfl) (by decide) (by decide)))) ss_next)))
theorem o__law_pick (G : Glo K mg) (sb : SysD base) (o__law_draw : Own P w K mg base 1 "_law_draw" t__law_draw ["pot", "many"] c__law_draw) (T : Top K mg "_law_pick" t__law_pick) : Own P w K mg base 2 "_law_pick" t__law_pick ["pot", "some"] c__law_pick :=
  own_mk T sc__law_pick sb fun X f cdv A outer s H E _ B => (ss_cons (ps_retD (s_get (Bd.u1 B) (s_var rfl (.inl rfl) (by decide) (by decide)) (s_own (o__law_draw.frame.mono (by decide)) (Bd.room B) (Bd.gd B) (gl rfl) bp__law_draw (s_cons (s_var rfl (.inl rfl) (by decide) (by decide)) (s_cons (w_len G.z_len (gl rfl) (s_cons (s_var rfl (.inl rfl) (by decide) (by decide)) s_nil rfl) rfl rfl) s_nil rfl) rfl) (by decide) rfl rfl) (fun _ _ => rfl))) ss_next)
theorem o_is_integer (G : Glo K mg) (sb : SysD base)  (T : Top K mg "is_integer" t_is_integer) : Own P w K mg base 1 "is_integer" t_is_integer ["value"] c_is_integer :=
  own_mk T sc_is_integer sb fun X f cdv A outer s H E _ B => (ss_cons (ps_retD (s_and (s_isi (by decide) (s_var rfl (.inl rfl) (by decide) (by decide)) (gl rfl) G.z_isinstance (gl rfl) G.z_int (by decide +kernel) (by decide) (by decide) rfl) (pe_one (s_not (s_isi (by decide) (s_var rfl (.inl rfl) (by decide) (by decide)) (gl rfl) G.z_isinstance (gl rfl) G.z_bool (by decide +kernel) (by decide) (by decide) rfl))))) ss_next)
theorem o_is_within (G : Glo K mg) (sb : SysD base) (o_is_integer : Own P w K mg base 1 "is_integer" t_is_integer ["value"] c_is_integer) (T : Top K mg "is_within" t_is_within) : Own P w K mg base 2 "is_within" t_is_within ["value", "least", "most"] c_is_within :=
  own_mk T sc_is_within sb fun X f cdv A outer s H E _ B => (ss_cons (ps_retD (s_and (s_own (o_is_integer.frame.mono (by decide)) (Bd.room B) (Bd.gd B) (gl rfl) bp_is_integer (s_cons (s_var rfl (.inl rfl) (by decide) (by decide)) s_nil rfl) (by decide) rfl rfl) (pe_one (s_chain (Bd.sm B) (Bd.u70 B) (s_var rfl (.inl rfl) (by decide) (by decide)) (s_var rfl (.inl rfl) (by decide) (by decide)) (s_var rfl (.inl rfl) (by decide) (by decide)) rfl)))) ss_next)
theorem o_is_clock_value (G : Glo K mg) (sb : SysD base) (o_is_within : Own P w K mg base 2 "is_within" t_is_within ["value", "least", "most"] c_is_within) (T : Top K mg "is_clock_value" t_is_clock_value) : Own P w K mg base 3 "is_clock_value" t_is_clock_value ["value"] c_is_clock_value :=
  own_mk T sc_is_clock_value sb fun X f cdv A outer s H E _ B => (ss_cons (ps_retD (s_own (o_is_within.frame.mono (by decide)) (Bd.room B) (Bd.gd B) (gl rfl) bp_is_within (s_cons (s_var rfl (.inl rfl) (by decide) (by decide)) (s_cons w_int (s_cons (w_g G.k_MOST_CLOCK (gl rfl) (by decide)) s_nil rfl) rfl) rfl) (by decide) rfl rfl)) ss_next)
theorem o_want_clock (G : Glo K mg) (sb : SysD base) (o_is_clock_value : Own P w K mg base 3 "is_clock_value" t_is_clock_value ["value"] c_is_clock_value) (T : Top K mg "want_clock" t_want_clock) : Own P w K mg base 4 "want_clock" t_want_clock ["clock"] c_want_clock :=
  own_mk T sc_want_clock sb fun X f cdv A outer s H E _ B => (ss_cons (ps_ifD (s_tnot (s_tval (s_own (o_is_clock_value.frame.mono (by decide)) (Bd.room B) (Bd.gd B) (gl rfl) bp_is_clock_value (s_cons (s_var rfl (.inl rfl) (by decide) (by decide)) s_nil rfl) (by decide) rfl rfl) (fun _ => rfl))) (ss_cons ps_neverD ss_next) ss_next) ss_next)
theorem o_common_of (G : Glo K mg) (sb : SysD base)  (T : Top K mg "common_of" t_common_of) : Own P w K mg base 1 "common_of" t_common_of ["one", "other"] c_common_of :=
  own_mk T sc_common_of sb fun X f cdv A outer s H E _ B => (ss_cons (ps_whileD PassesOwn.never (s_tcmp (Bd.sm B) (Bd.u70 B) (s_var rfl (.inl rfl) (by decide) (by decide)) w_int rfl) (ss_cons (ps_parD (Bd.calm B) (Bd.nd B) rfl rfl (by decide) rfl rfl (s_cons (s_var rfl (.inl rfl) (by decide) (by decide)) (s_cons (s_bin (s_var rfl (.inl rfl) (by decide) (by decide)) (s_var rfl (.inl rfl) (by decide) (by decide))) s_nil rfl) rfl) rfl rfl) ss_next)) (ss_cons (ps_retD (s_var rfl (.inl rfl) (by decide) (by decide))) ss_next))
theorem o_parts_of (G : Glo K mg) (sb : SysD base)  (T : Top K mg "parts_of" t_parts_of) : Own P w K mg base 1 "parts_of" t_parts_of ["number"] c_parts_of :=
  own_mk T sc_parts_of sb fun X f cdv A outer s H E _ B => (ss_cons (ps_par3D (Bd.calm B) (Bd.nd B) rfl rfl rfl (by decide) (by decide) (by decide) rfl rfl rfl (s_cons (s_lst s_nil) (s_cons (s_var rfl (.inl rfl) (by decide) (by decide)) (s_cons w_int s_nil rfl) rfl) rfl) rfl rfl) (ss_cons (ps_whileD PassesOwn.never (s_tcmp (Bd.sm B) (Bd.u70 B) (s_bin (s_var rfl (.inl rfl) (by decide) (by decide)) (s_var rfl (.inl rfl) (by decide) (by decide))) (s_var rfl (.inl rfl) (by decide) (by decide)) rfl) (ss_cons (ps_setD (Bd.nd B) rfl (.inl rfl) w_int rfl (.inl rfl)) (ss_cons (ps_whileD PassesOwn.never (s_tcmp (Bd.sm B) (Bd.u70 B) (s_bin (s_var rfl (.inl rfl) (by decide) (by decide)) (s_var rfl (.inl rfl) (by decide) (by decide))) w_int rfl) (ss_cons (ps_parD (Bd.calm B) (Bd.nd B) rfl rfl (by decide) rfl rfl (s_cons (s_bin (s_var rfl (.inl rfl) (by decide) (by decide)) (s_var rfl (.inl rfl) (by decide) (by decide))) (s_cons (s_bin (s_var rfl (.inl rfl) (by decide) (by decide)) w_int) s_nil rfl) rfl) rfl rfl) ss_next)) (ss_cons (ps_extD (s_var rfl (.inl rfl) (by decide) (by decide)) (s_if (s_tcmp (Bd.sm B) (Bd.u70 B) (s_var rfl (.inl rfl) (by decide) (by decide)) w_int rfl) (s_lst (s_cons (s_tup (s_cons (s_var rfl (.inl rfl) (by decide) (by decide)) (s_cons (s_var rfl (.inl rfl) (by decide) (by decide)) s_nil rfl) rfl)) s_nil rfl)) (s_lst s_nil)) rfl rfl rfl rfl rfl) (ss_cons (ps_setD (Bd.nd B) rfl (.inl rfl) (s_bin (s_var rfl (.inl rfl) (by decide) (by decide)) w_int) rfl (.inl rfl)) ss_next))))) (ss_cons (ps_extD (s_var rfl (.inl rfl) (by decide) (by decide)) (s_if (s_tcmp (Bd.sm B) (Bd.u70 B) (s_var rfl (.inl rfl) (by decide) (by decide)) w_int rfl) (s_lst (s_cons (s_tup (s_cons (s_var rfl (.inl rfl) (by decide) (by decide)) (s_cons w_int s_nil rfl) rfl)) s_nil rfl)) (s_lst s_nil)) rfl rfl rfl rfl rfl) (ss_cons (ps_retD (s_var rfl (.inl rfl) (by decide) (by decide))) ss_next))))
theorem o_sign_at (G : Glo K mg) (sb : SysD base) (o_parts_of : Own P w K mg base 1 "parts_of" t_parts_of ["number"] c_parts_of) (T : Top K mg "sign_at" t_sign_at) : Own P w K mg base 2 "sign_at" t_sign_at ["number"] c_sign_at :=
  own_mk T sc_sign_at sb fun X f cdv A outer s H E _ B => (ss_cons (ps_setD (Bd.nd B) rfl (.inl rfl) w_int rfl (.inl rfl)) (ss_cons (ps_forD PassesOwn.never (Bd.calm B) (s_wseq (s_own (o_parts_of.frame.mono (by decide)) (Bd.room B) (Bd.gd B) (gl rfl) bp_parts_of (s_cons (s_var rfl (.inl rfl) (by decide) (by decide)) s_nil rfl) (by decide) rfl rfl)) (g_tup (Bd.calm B) (g_cons (g_var (Bd.nd B) rfl (.inl rfl) (.inl rfl)) (g_cons (g_var (Bd.nd B) rfl (.inl rfl) (.inl rfl)) g_nil rfl) rfl) rfl rfl) (ss_cons (ps_setD (Bd.nd B) rfl (.inl rfl) (s_if (s_tcmp (Bd.sm B) (Bd.u70 B) (s_var rfl (.inl rfl) (by decide) (by decide)) w_int rfl) (s_bin w_int (s_var rfl (.inl rfl) (by decide) (by decide))) w_int) rfl (.inl rfl)) ss_next) (fun _ => rfl)) (ss_cons (ps_retD (s_var rfl (.inl rfl) (by decide) (by decide))) ss_next)))
theorem o_power_of (G : Glo K mg) (sb : SysD base)  (T : Top K mg "power_of" t_power_of) : Own P w K mg base 1 "power_of" t_power_of ["one", "times"] c_power_of :=
  own_mk T sc_power_of sb fun X f cdv A outer s H E _ B => (ss_cons (ps_setD (Bd.nd B) rfl (.inl rfl) w_int rfl (.inl rfl)) (ss_cons (ps_forD PassesOwn.never (Bd.calm B) (s_wrng1 (s_var rfl (.inl rfl) (by decide) (by decide)) (gl rfl) G.z_range rfl) (g_var (Bd.nd B) rfl (.inl rfl) (.inl rfl)) (ss_cons (ps_setD (Bd.nd B) rfl (.inl rfl) (s_bin (s_var rfl (.inl rfl) (by decide) (by decide)) (s_var rfl (.inl rfl) (by decide) (by decide))) rfl (.inl rfl)) ss_next) (fun _ => rfl)) (ss_cons (ps_retD (s_var rfl (.inl rfl) (by decide) (by decide))) ss_next)))
theorem o_divisors_of (G : Glo K mg) (sb : SysD base) (o_parts_of : Own P w K mg base 1 "parts_of" t_parts_of ["number"] c_parts_of) (o_power_of : Own P w K mg base 1 "power_of" t_power_of ["one", "times"] c_power_of) (T : Top K mg "divisors_of" t_divisors_of) : Own P w K mg base 2 "divisors_of" t_divisors_of ["number"] c_divisors_of :=
  own_mk T sc_divisors_of sb fun X f cdv A outer s H E _ B => (ss_cons (ps_setD (Bd.nd B) rfl (.inl rfl) (s_lst (s_cons w_int s_nil rfl)) rfl (.inl rfl)) (ss_cons (ps_forD PassesOwn.never (Bd.calm B) (s_wseq (s_own (o_parts_of.frame.mono (by decide)) (Bd.room B) (Bd.gd B) (gl rfl) bp_parts_of (s_cons (s_var rfl (.inl rfl) (by decide) (by decide)) s_nil rfl) (by decide) rfl rfl)) (g_tup (Bd.calm B) (g_cons (g_var (Bd.nd B) rfl (.inr rfl) (.inl rfl)) (g_cons (g_var (Bd.nd B) rfl (.inl rfl) (.inl rfl)) g_nil rfl) rfl) rfl rfl) (ss_cons (ps_setD (Bd.nd B) rfl (.inl rfl) (s_lst s_nil) rfl (.inl rfl)) (ss_cons (ps_forD PassesOwn.never (Bd.calm B) (s_wrng1 (s_bin (s_var rfl (.inl rfl) (by decide) (by decide)) w_int) (gl rfl) G.z_range rfl) (g_var (Bd.nd B) rfl (.inr rfl) (.inl rfl)) (ss_cons (ps_extD (s_var rfl (.inl rfl) (by decide) (by decide)) (s_comp (WB := W0) (own := [("one", 6)]) (Bd.calm B) (Bd.nd B) (s_wseq (s_var rfl (.inl rfl) (by decide) (by decide))) (blkOk_by (N := n_divisors_of) (sc := defScope t_divisors_of) (by decide +kernel)) (by decide) (fun _ _ _ _ _ => (s_gct (Bd.nd (Bd.blk B)) rfl (.inl rfl) (.inr rfl))) (fun _ _ _ _ _ => s_tyes) (fun _ _ _ _ _ => (s_bin (s_var rfl (.inl rfl) (by decide) (by decide)) (s_own (o_power_of.frame.mono (by decide)) (Bd.room (Bd.blk B)) (Bd.gd (Bd.blk B)) (gl rfl) bp_power_of (s_cons (s_var rfl (.inr (.inl rfl)) (by decide) (by decide)) (s_cons (s_var rfl (.inr (.inl rfl)) (by decide) (by decide)) s_nil rfl) rfl) (by decide) rfl rfl))) (fun _ => rfl)) rfl rfl rfl rfl rfl) ss_next) (fun _ => rfl)) (ss_cons (ps_setD (Bd.nd B) rfl (.inl rfl) (s_var rfl (.inl rfl) (by decide) (by decide)) rfl (.inl rfl)) ss_next))) (fun _ => rfl)) (ss_cons (ps_retD (w_sorted G.z_sorted (gl rfl) (s_cons (s_var rfl (.inl rfl) (by decide) (by decide)) s_nil rfl) rfl rfl)) ss_next)))
theorem o_unit_sum_of (G : Glo K mg) (sb : SysD base) (o_common_of : Own P w K mg base 1 "common_of" t_common_of ["one", "other"] c_common_of) (o_divisors_of : Own P w K mg base 2 "divisors_of" t_divisors_of ["number"] c_divisors_of) (o_sign_at : Own P w K mg base 2 "sign_at" t_sign_at ["number"] c_sign_at) (T : Top K mg "unit_sum_of" t_unit_sum_of) : Own P w K mg base 3 "unit_sum_of" t_unit_sum_of ["clock", "hour"] c_unit_sum_of :=
  own_mk T sc_unit_sum_of sb fun X f cdv A outer s H E _ B => (ss_cons (ps_setD (Bd.nd B) rfl (.inl rfl) (s_own (o_common_of.frame.mono (by decide)) (Bd.room B) (Bd.gd B) (gl rfl) bp_common_of (s_cons (s_var rfl (.inr (.inl rfl)) (by decide) (by decide)) (s_cons (s_var rfl (.inl rfl) (by decide) (by decide)) s_nil rfl) rfl) (by decide) rfl rfl) rfl (.inl rfl)) (ss_cons (ps_retD (w_sum B G.z_sum (gl rfl) (s_cons (s_comp (WB := W0) (own := [("one", 3)]) (Bd.calm B) (Bd.nd B) (s_wseq (s_own (o_divisors_of.frame.mono (by decide)) (Bd.room B) (Bd.gd B) (gl rfl) bp_divisors_of (s_cons (s_var rfl (.inl rfl) (by decide) (by decide)) s_nil rfl) (by decide) rfl rfl)) (blkOk_by (N := n_unit_sum_of) (sc := defScope t_unit_sum_of) (by decide +kernel)) (by decide) (fun _ _ _ _ _ => (s_gct (Bd.nd (Bd.blk B)) rfl (.inl rfl) (.inr rfl))) (fun _ _ _ _ _ => s_tyes) (fun _ _ _ _ _ => (s_bin (s_var rfl (.inl rfl) (by decide) (by decide)) (s_own (o_sign_at.frame.mono (by decide)) (Bd.room (Bd.blk B)) (Bd.gd (Bd.blk B)) (gl rfl) bp_sign_at (s_cons (s_bin (s_var rfl (.inr (.inl rfl)) (by decide) (by decide)) (s_var rfl (.inl rfl) (by decide) (by decide))) s_nil rfl) (by decide) rfl rfl))) (fun _ => rfl)) s_nil rfl) rfl rfl)) ss_next))
theorem o_unit_sums (G : Glo K mg) (sb : SysD base) (o_want_clock : Own P w K mg base 4 "want_clock" t_want_clock ["clock"] c_want_clock) (o_unit_sum_of : Own P w K mg base 3 "unit_sum_of" t_unit_sum_of ["clock", "hour"] c_unit_sum_of) (T : Top K mg "unit_sums" t_unit_sums) : Own P w K mg base 5 "unit_sums" t_unit_sums ["clock"] c_unit_sums :=
  own_mk T sc_unit_sums sb fun X f cdv A outer s H E _ B => (ss_cons (ps_dropD (s_own (o_want_clock.frame.mono (by decide)) (Bd.room B) (Bd.gd B) (gl rfl) bp_want_clock (s_cons (s_var rfl (.inr (.inl rfl)) (by decide) (by decide)) s_nil rfl) (by decide) rfl rfl) rfl) (ss_cons (ps_retD (s_comp (WB := W0) (own := [("hour", 1)]) (Bd.calm B) (Bd.nd B) (s_wrng1 (s_var rfl (.inr (.inl rfl)) (by decide) (by decide)) (gl rfl) G.z_range rfl) (blkOk_by (N := n_unit_sums) (sc := defScope t_unit_sums) (by decide +kernel)) (by decide) (fun _ _ _ _ _ => (s_gct (Bd.nd (Bd.blk B)) rfl (.inl rfl) (.inr rfl))) (fun _ _ _ _ _ => s_tyes) (fun _ _ _ _ _ => (s_own (o_unit_sum_of.frame.mono (by decide)) (Bd.room (Bd.blk B)) (Bd.gd (Bd.blk B)) (gl rfl) bp_unit_sum_of (s_cons (s_var rfl (.inr (.inl rfl)) (by decide) (by decide)) (s_cons (s_var rfl (.inl rfl) (by decide) (by decide)) s_nil rfl) rfl) (by decide) rfl rfl)) (fun _ => rfl))) ss_next))
theorem o__law_parts (G : Glo K mg) (sb : SysD base)  (T : Top K mg "_law_parts" t__law_parts) : Own P w K mg base 1 "_law_parts" t__law_parts ["number"] c__law_parts :=
  own_mk T sc__law_parts sb fun X f cdv A outer s H E _ B => (ss_cons (ps_par3D (Bd.calm B) (Bd.nd B) rfl rfl rfl (by decide) (by decide) (by decide) rfl rfl rfl (s_cons (s_lst s_nil) (s_cons (s_var rfl (.inl rfl) (by decide) (by decide)) (s_cons w_int s_nil rfl) rfl) rfl) rfl rfl) (ss_cons (ps_whileD PassesOwn.never (s_tcmp (Bd.sm B) (Bd.u70 B) (s_var rfl (.inl rfl) (by decide) (by decide)) w_int rfl) (ss_cons (ps_setD (Bd.nd B) rfl (.inl rfl) w_int rfl (.inl rfl)) (ss_cons (ps_whileD PassesOwn.never (s_tcmp (Bd.sm B) (Bd.u70 B) (w_int1 G.z_int (gl rfl) (s_cons (s_bin (s_var rfl (.inl rfl) (by decide) (by decide)) (s_var rfl (.inl rfl) (by decide) (by decide))) s_nil rfl) rfl rfl) w_int rfl) (ss_cons (ps_parD (Bd.calm B) (Bd.nd B) rfl rfl (by decide) rfl rfl (s_cons (s_bin (s_var rfl (.inl rfl) (by decide) (by decide)) (s_var rfl (.inl rfl) (by decide) (by decide))) (s_cons (s_bin (s_var rfl (.inl rfl) (by decide) (by decide)) w_int) s_nil rfl) rfl) rfl rfl) ss_next)) (ss_cons (ps_extD (s_var rfl (.inl rfl) (by decide) (by decide)) (s_if (s_tcmp (Bd.sm B) (Bd.u70 B) (s_var rfl (.inl rfl) (by decide) (by decide)) w_int rfl) (s_lst (s_cons (s_tup (s_cons (s_var rfl (.inl rfl) (by decide) (by decide)) (s_cons (s_var rfl (.inl rfl) (by decide) (by decide)) s_nil rfl) rfl)) s_nil rfl)) (s_lst s_nil)) rfl rfl rfl rfl rfl) (ss_cons (ps_setD (Bd.nd B) rfl (.inl rfl) (s_if (s_tcmp (Bd.sm B) (Bd.u70 B) (s_bin (s_var rfl (.inl rfl) (by decide) (by decide)) (s_var rfl (.inl rfl) (by decide) (by decide))) (s_var rfl (.inl rfl) (by decide) (by decide)) rfl) (s_bin (s_var rfl (.inl rfl) (by decide) (by decide)) w_int) (w_max B G.z_max (gl rfl) (s_cons (s_bin (s_var rfl (.inl rfl) (by decide) (by decide)) w_int) (s_cons (s_var rfl (.inl rfl) (by decide) (by decide)) s_nil rfl) rfl) rfl rfl)) rfl (.inl rfl)) ss_next))))) (ss_cons (ps_retD (s_var rfl (.inl rfl) (by decide) (by decide))) ss_next)))
theorem o__law_sign (G : Glo K mg) (sb : SysD base) (o__law_parts : Own P w K mg base 1 "_law_parts" t__law_parts ["number"] c__law_parts) (T : Top K mg "_law_sign" t__law_sign) : Own P w K mg base 2 "_law_sign" t__law_sign ["number"] c__law_sign :=
  own_mk T sc__law_sign sb fun X f cdv A outer s H E _ B => (ss_cons (ps_setD (Bd.nd B) rfl (.inl rfl) w_int rfl (.inl rfl)) (ss_cons (ps_forD PassesOwn.never (Bd.calm B) (s_wseq (s_own (o__law_parts.frame.mono (by decide)) (Bd.room B) (Bd.gd B) (gl rfl) bp__law_parts (s_cons (s_var rfl (.inl rfl) (by decide) (by decide)) s_nil rfl) (by decide) rfl rfl)) (g_tup (Bd.calm B) (g_cons (g_var (Bd.nd B) rfl (.inl rfl) (.inl rfl)) (g_cons (g_var (Bd.nd B) rfl (.inl rfl) (.inl rfl)) g_nil rfl) rfl) rfl rfl) (ss_cons (ps_setD (Bd.nd B) rfl (.inl rfl) (s_if (s_tcmp (Bd.sm B) (Bd.u70 B) (s_var rfl (.inl rfl) (by decide) (by decide)) w_int rfl) w_int (s_bin w_int (s_var rfl (.inl rfl) (by decide) (by decide)))) rfl (.inl rfl)) ss_next) (fun _ => rfl)) (ss_cons (ps_retD (s_var rfl (.inl rfl) (by decide) (by decide))) ss_next)))
theorem o__law_divisors (G : Glo K mg) (sb : SysD base)  (T : Top K mg "_law_divisors" t__law_divisors) : Own P w K mg base 1 "_law_divisors" t__law_divisors ["number"] c__law_divisors :=
  own_mk T sc__law_divisors sb fun X f cdv A outer s H E _ B => (ss_cons (ps_retD (s_comp (WB := W0) (own := [("one", 1)]) (Bd.calm B) (Bd.nd B) (s_wrng2 w_int (s_bin (s_var rfl (.inr (.inl rfl)) (by decide) (by decide)) w_int) (gl rfl) G.z_range rfl rfl) (blkOk_by (N := n__law_divisors) (sc := defScope t__law_divisors) (by decide +kernel)) (by decide) (fun _ _ _ _ _ => (s_gct (Bd.nd (Bd.blk B)) rfl (.inl rfl) (.inr rfl))) (fun _ _ _ _ _ => (s_tone (s_tcmp (Bd.sm (Bd.blk B)) (Bd.u70 (Bd.blk B)) (w_int1 G.z_int (gl rfl) (s_cons (s_bin (s_var rfl (.inr (.inl rfl)) (by decide) (by decide)) (s_var rfl (.inl rfl) (by decide) (by decide))) s_nil rfl) rfl rfl) w_int rfl))) (fun _ _ _ _ _ => (s_var rfl (.inl rfl) (by decide) (by decide))) (fun _ => rfl))) ss_next)
theorem o__law_unit_sum (G : Glo K mg) (sb : SysD base) (o__law_divisors : Own P w K mg base 1 "_law_divisors" t__law_divisors ["number"] c__law_divisors) (o__law_sign : Own P w K mg base 2 "_law_sign" t__law_sign ["number"] c__law_sign) (T : Top K mg "_law_unit_sum" t__law_unit_sum) : Own P w K mg base 3 "_law_unit_sum" t__law_unit_sum ["clock", "hour"] c__law_unit_sum :=
  own_mk T sc__law_unit_sum sb fun X f cdv A outer s H E _ B => (ss_cons (ps_retD (w_sum B G.z_sum (gl rfl) (s_cons (s_comp (WB := W0) (own := [("one", 2)]) (Bd.calm B) (Bd.nd B) (s_wseq (s_own (o__law_divisors.frame.mono (by decide)) (Bd.room B) (Bd.gd B) (gl rfl) bp__law_divisors (s_cons (s_var rfl (.inr (.inl rfl)) (by decide) (by decide)) s_nil rfl) (by decide) rfl rfl)) (blkOk_by (N := n__law_unit_sum) (sc := defScope t__law_unit_sum) (by decide +kernel)) (by decide) (fun _ _ _ _ _ => (s_gct (Bd.nd (Bd.blk B)) rfl (.inl rfl) (.inr rfl))) (fun _ _ _ _ _ => (s_tone (s_tcmp (Bd.sm (Bd.blk B)) (Bd.u70 (Bd.blk B)) (w_int1 G.z_int (gl rfl) (s_cons (s_bin (s_var rfl (.inr (.inl rfl)) (by decide) (by decide)) (s_var rfl (.inl rfl) (by decide) (by decide))) s_nil rfl) rfl rfl) w_int rfl))) (fun _ _ _ _ _ => (s_bin (s_var rfl (.inl rfl) (by decide) (by decide)) (s_own (o__law_sign.frame.mono (by decide)) (Bd.room (Bd.blk B)) (Bd.gd (Bd.blk B)) (gl rfl) bp__law_sign (s_cons (s_bin (s_var rfl (.inr (.inl rfl)) (by decide) (by decide)) (s_var rfl (.inl rfl) (by decide) (by decide))) s_nil rfl) (by decide) rfl rfl))) (fun _ => rfl)) s_nil rfl) rfl rfl)) ss_next)
theorem o__law_common (G : Glo K mg) (sb : SysD base)  (T : Top K mg "_law_common" t__law_common) : Own P w K mg base 1 "_law_common" t__law_common ["near", "far"] c__law_common :=
  own_mk T sc__law_common sb fun X f cdv A outer s H E _ B => (ss_cons (ps_whileD PassesOwn.never (s_tcmp (Bd.sm B) (Bd.u70 B) (s_var rfl (.inl rfl) (by decide) (by decide)) w_int rfl) (ss_cons (ps_parD (Bd.calm B) (Bd.nd B) rfl rfl (by decide) rfl rfl (s_cons (s_var rfl (.inl rfl) (by decide) (by decide)) (s_cons (w_int1 G.z_int (gl rfl) (s_cons (s_bin (s_var rfl (.inl rfl) (by decide) (by decide)) (s_var rfl (.inl rfl) (by decide) (by decide))) s_nil rfl) rfl rfl) s_nil rfl) rfl) rfl rfl) ss_next)) (ss_cons (ps_retD (s_var rfl (.inl rfl) (by decide) (by decide))) ss_next))
theorem o__law_many_units (G : Glo K mg) (sb : SysD base) (o__law_common : Own P w K mg base 1 "_law_common" t__law_common ["near", "far"] c__law_common) (T : Top K mg "_law_many_units" t__law_many_units) : Own P w K mg base 2 "_law_many_units" t__law_many_units ["clock"] c__law_many_units :=
  own_mk T sc__law_many_units sb fun X f cdv A outer s H E _ B => (ss_cons (ps_retD (w_len G.z_len (gl rfl) (s_cons (s_comp (WB := W0) (own := [("hour", 1)]) (Bd.calm B) (Bd.nd B) (s_wrng2 w_int (s_bin (s_var rfl (.inr (.inl rfl)) (by decide) (by decide)) w_int) (gl rfl) G.z_range rfl rfl) (blkOk_by (N := n__law_many_units) (sc := defScope t__law_many_units) (by decide +kernel)) (by decide) (fun _ _ _ _ _ => (s_gct (Bd.nd (Bd.blk B)) rfl (.inl rfl) (.inr rfl))) (fun _ _ _ _ _ => (s_tone (s_tcmp (Bd.sm (Bd.blk B)) (Bd.u70 (Bd.blk B)) (s_own (o__law_common.frame.mono (by decide)) (Bd.room (Bd.blk B)) (Bd.gd (Bd.blk B)) (gl rfl) bp__law_common (s_cons (s_var rfl (.inr (.inl rfl)) (by decide) (by decide)) (s_cons (s_var rfl (.inl rfl) (by decide) (by decide)) s_nil rfl) rfl) (by decide) rfl rfl) w_int rfl))) (fun _ _ _ _ _ => (s_var rfl (.inl rfl) (by decide) (by decide))) (fun _ => rfl)) s_nil rfl) rfl rfl)) ss_next)
theorem o_want_hour (G : Glo K mg) (sb : SysD base) (o_is_within : Own P w K mg base 2 "is_within" t_is_within ["value", "least", "most"] c_is_within) (T : Top K mg "want_hour" t_want_hour) : Own P w K mg base 3 "want_hour" t_want_hour ["clock", "hour"] c_want_hour :=
  own_mk T sc_want_hour sb fun X f cdv A outer s H E _ B => (ss_cons (ps_ifD (s_tnot (s_tval (s_own (o_is_within.frame.mono (by decide)) (Bd.room B) (Bd.gd B) (gl rfl) bp_is_within (s_cons (s_var rfl (.inl rfl) (by decide) (by decide)) (s_cons w_int (s_cons (s_bin (s_var rfl (.inl rfl) (by decide) (by decide)) w_int) s_nil rfl) rfl) rfl) (by decide) rfl rfl) (fun _ => rfl))) (ss_cons ps_neverD ss_next) ss_next) ss_next)
theorem o_unit_sum (G : Glo K mg) (sb : SysD base) (o_want_clock : Own P w K mg base 4 "want_clock" t_want_clock ["clock"] c_want_clock) (o_want_hour : Own P w K mg base 3 "want_hour" t_want_hour ["clock", "hour"] c_want_hour) (o_unit_sum_of : Own P w K mg base 3 "unit_sum_of" t_unit_sum_of ["clock", "hour"] c_unit_sum_of) (T : Top K mg "unit_sum" t_unit_sum) : Own P w K mg base 5 "unit_sum" t_unit_sum ["clock", "hour"] c_unit_sum :=
  own_mk T sc_unit_sum sb fun X f cdv A outer s H E _ B => (ss_cons (ps_dropD (s_own (o_want_clock.frame.mono (by decide)) (Bd.room B) (Bd.gd B) (gl rfl) bp_want_clock (s_cons (s_var rfl (.inl rfl) (by decide) (by decide)) s_nil rfl) (by decide) rfl rfl) rfl) (ss_cons (ps_dropD (s_own (o_want_hour.frame.mono (by decide)) (Bd.room B) (Bd.gd B) (gl rfl) bp_want_hour (s_cons (s_var rfl (.inl rfl) (by decide) (by decide)) (s_cons (s_var rfl (.inl rfl) (by decide) (by decide)) s_nil rfl) rfl) (by decide) rfl rfl) rfl) (ss_cons (ps_retD (s_own (o_unit_sum_of.frame.mono (by decide)) (Bd.room B) (Bd.gd B) (gl rfl) bp_unit_sum_of (s_cons (s_var rfl (.inl rfl) (by decide) (by decide)) (s_cons (s_var rfl (.inl rfl) (by decide) (by decide)) s_nil rfl) rfl) (by decide) rfl rfl)) ss_next)))
theorem o__law_clock_right (G : Glo K mg) (sb : SysD base) (o__law_unit_sum : Own P w K mg base 3 "_law_unit_sum" t__law_unit_sum ["clock", "hour"] c__law_unit_sum) (o_unit_sums : Own P w K mg base 5 "unit_sums" t_unit_sums ["clock"] c_unit_sums) (o__law_draw : Own P w K mg base 1 "_law_draw" t__law_draw ["pot", "many"] c__law_draw) (o__law_common : Own P w K mg base 1 "_law_common" t__law_common ["near", "far"] c__law_common) (o_unit_sum : Own P w K mg base 5 "unit_sum" t_unit_sum ["clock", "hour"] c_unit_sum) (o__law_many_units : Own P w K mg base 2 "_law_many_units" t__law_many_units ["clock"] c__law_many_units) (o__law_sign : Own P w K mg base 2 "_law_sign" t__law_sign ["number"] c__law_sign) (o__law_pick : Own P w K mg base 2 "_law_pick" t__law_pick ["pot", "some"] c__law_pick) (o__law_divisors : Own P w K mg base 1 "_law_divisors" t__law_divisors ["number"] c__law_divisors) (T : Top K mg "_law_clock_right" t__law_clock_right) : Own P w K mg base 6 "_law_clock_right" t__law_clock_right ["pot", "clock"] c__law_clock_right :=
  own_mk T sc__law_clock_right sb fun X f cdv A outer s H E _ B => (ss_cons (ps_setLcD (WB := W0) (own := [("hour", 5)]) (Bd.calm B) (Bd.nd B) rfl rfl rfl rfl rfl (fun _ => sw_true rfl rfl rfl rfl) (s_wrng1 (s_var rfl (.inr (.inl rfl)) (by decide) (by decide)) (gl rfl) G.z_range rfl) (blkOk_by (N := n__law_clock_right) (sc := defScope t__law_clock_right) (by decide +kernel)) (by decide) (fun _ _ _ _ _ => (s_gct (Bd.nd (Bd.blk B)) rfl (.inl rfl) (.inr rfl))) (fun _ _ _ _ _ => s_tyes) (fun _ _ _ _ _ => (s_own (o__law_unit_sum.frame.mono (by decide)) (Bd.room (Bd.blk B)) (Bd.gd (Bd.blk B)) (gl rfl) bp__law_unit_sum (s_cons (s_var rfl (.inr (.inl rfl)) (by decide) (by decide)) (s_cons (s_var rfl (.inl rfl) (by decide) (by decide)) s_nil rfl) rfl) (by decide) rfl rfl)) (fun _ => rfl)) (ss_cons (ps_setD (Bd.nd B) rfl (.inl rfl) (s_own (o_unit_sums.frame.mono (by decide)) (Bd.room B) (Bd.gd B) (gl rfl) bp_unit_sums (s_cons (s_var rfl (.inr (.inl rfl)) (by decide) (by decide)) s_nil rfl) (by decide) rfl rfl) rfl (.inl rfl)) (ss_cons (ps_ifD (s_tcmp (Bd.sm B) (Bd.u70 B) (w_repr B G.z_repr (gl rfl) (s_cons (s_lst (s_cons (s_var rfl (.inl rfl) (by decide) (by decide)) (s_cons (s_ownK0 (o_unit_sums.frame.mono (by decide)) (Bd.room B) (Bd.gd B) (gl rfl) bk_unit_sums_0_clock (s_kcons (s_var rfl (.inr (.inl rfl)) (by decide) (by decide)) s_knil) rfl rfl (by decide) rfl) s_nil rfl) rfl)) s_nil rfl) rfl rfl) (w_repr B G.z_repr (gl rfl) (s_cons (s_lst (s_cons (s_var rfl (.inl rfl) (by decide) (by decide)) (s_cons (s_var rfl (.inl rfl) (by decide) (by decide)) s_nil rfl) rfl)) s_nil rfl) rfl rfl) rfl) (ss_cons (ps_retD w_bl) ss_next) ss_next) (ss_cons (ps_appD (s_var rfl (.inl rfl) (by decide) (by decide)) w_non rfl rfl rfl rfl rfl) (ss_cons (ps_ifD (s_tcmp (Bd.sm B) (Bd.u70 B) (w_sum B G.z_sum (gl rfl) (s_cons (s_var rfl (.inl rfl) (by decide) (by decide)) s_nil rfl) rfl rfl) (s_if (s_tcmp (Bd.sm B) (Bd.u70 B) (s_var rfl (.inr (.inl rfl)) (by decide) (by decide)) w_int rfl) w_int w_int) rfl) (ss_cons (ps_retD w_bl) ss_next) ss_next) (ss_cons (ps_forD PassesOwn.never (Bd.calm B) (s_wrng1 w_int (gl rfl) G.z_range rfl) (g_var (Bd.nd B) rfl (.inl rfl) (.inl rfl)) (ss_cons (ps_setD (Bd.nd B) rfl (.inl rfl) (s_own (o__law_draw.frame.mono (by decide)) (Bd.room B) (Bd.gd B) (gl rfl) bp__law_draw (s_cons (s_var rfl (.inl rfl) (by decide) (by decide)) (s_cons (s_var rfl (.inr (.inl rfl)) (by decide) (by decide)) s_nil rfl) rfl) (by decide) rfl rfl) rfl (.inl rfl)) (ss_cons (ps_setD (Bd.nd B) rfl (.inl rfl) (s_own (o__law_common.frame.mono (by decide)) (Bd.room B) (Bd.gd B) (gl rfl) bp__law_common (s_cons (s_var rfl (.inr (.inl rfl)) (by decide) (by decide)) (s_cons (s_var rfl (.inl rfl) (by decide) (by decide)) s_nil rfl) rfl) (by decide) rfl rfl) rfl (.inl rfl)) (ss_cons (ps_ifD (s_tcmp (Bd.sm B) (Bd.u70 B) (w_repr B G.z_repr (gl rfl) (s_cons (s_lst (s_cons (s_own (o_unit_sum.frame.mono (by decide)) (Bd.room B) (Bd.gd B) (gl rfl) bp_unit_sum (s_cons (s_var rfl (.inr (.inl rfl)) (by decide) (by decide)) (s_cons (s_var rfl (.inl rfl) (by decide) (by decide)) s_nil rfl) rfl) (by decide) rfl rfl) (s_cons (s_ownK0 (o_unit_sum.frame.mono (by decide)) (Bd.room B) (Bd.gd B) (gl rfl) bk_unit_sum_0_hour_clock (s_kcons (s_var rfl (.inl rfl) (by decide) (by decide)) (s_kcons (s_var rfl (.inr (.inl rfl)) (by decide) (by decide)) s_knil)) rfl rfl (by decide) rfl) s_nil rfl) rfl)) s_nil rfl) rfl rfl) (w_repr B G.z_repr (gl rfl) (s_cons (s_bin (s_lst (s_cons (s_get (Bd.u1 B) (s_var rfl (.inl rfl) (by decide) (by decide)) (s_var rfl (.inl rfl) (by decide) (by decide)) (fun _ _ => rfl)) s_nil rfl)) w_int) s_nil rfl) rfl rfl) rfl) (ss_cons (ps_retD w_bl) ss_next) ss_next) (ss_cons (ps_ifD (s_tcmp (Bd.sm B) (Bd.u70 B) (s_bin (s_get (Bd.u1 B) (s_var rfl (.inl rfl) (by decide) (by decide)) (s_var rfl (.inl rfl) (by decide) (by decide)) (fun _ _ => rfl)) (s_own (o__law_many_units.frame.mono (by decide)) (Bd.room B) (Bd.gd B) (gl rfl) bp__law_many_units (s_cons (s_bin (s_var rfl (.inr (.inl rfl)) (by decide) (by decide)) (s_var rfl (.inl rfl) (by decide) (by decide))) s_nil rfl) (by decide) rfl rfl)) (s_bin (s_own (o__law_many_units.frame.mono (by decide)) (Bd.room B) (Bd.gd B) (gl rfl) bp__law_many_units (s_cons (s_var rfl (.inr (.inl rfl)) (by decide) (by decide)) s_nil rfl) (by decide) rfl rfl) (s_own (o__law_sign.frame.mono (by decide)) (Bd.room B) (Bd.gd B) (gl rfl) bp__law_sign (s_cons (s_bin (s_var rfl (.inr (.inl rfl)) (by decide) (by decide)) (s_var rfl (.inl rfl) (by decide) (by decide))) s_nil rfl) (by decide) rfl rfl)) rfl) (ss_cons (ps_retD w_bl) ss_next) ss_next) ss_next)))) (fun _ => rfl)) (ss_cons (ps_asgD (s_tup (s_cons (s_own (o__law_pick.frame.mono (by decide)) (Bd.room B) (Bd.gd B) (gl rfl) bp__law_pick (s_cons (s_var rfl (.inl rfl) (by decide) (by decide)) (s_cons (s_own (o__law_divisors.frame.mono (by decide)) (Bd.room B) (Bd.gd B) (gl rfl) bp__law_divisors (s_cons (s_var rfl (.inr (.inl rfl)) (by decide) (by decide)) s_nil rfl) (by decide) rfl rfl) s_nil rfl) rfl) (by decide) rfl rfl) (s_cons (s_own (o__law_pick.frame.mono (by decide)) (Bd.room B) (Bd.gd B) (gl rfl) bp__law_pick (s_cons (s_var rfl (.inl rfl) (by decide) (by decide)) (s_cons (s_own (o__law_divisors.frame.mono (by decide)) (Bd.room B) (Bd.gd B) (gl rfl) bp__law_divisors (s_cons (s_var rfl (.inr (.inl rfl)) (by decide) (by decide)) s_nil rfl) (by decide) rfl rfl) s_nil rfl) rfl) (by decide) rfl rfl) s_nil rfl) rfl)) (g_tup (Bd.calm B) (g_cons (g_var (Bd.nd B) rfl (.inr rfl) (.inl rfl)) (g_cons (g_var (Bd.nd B) rfl (.inr rfl) (.inl rfl)) g_nil rfl) rfl) rfl rfl) rfl rfl rfl) (ss_cons (ps_setD (Bd.nd B) rfl (.inr rfl) (s_lst (s_cons (s_own (o_unit_sums.frame.mono (by decide)) (Bd.room B) (Bd.gd B) (gl rfl) bp_unit_sums (s_cons (s_var rfl (.inr (.inl rfl)) (by decide) (by decide)) s_nil rfl) (by decide) rfl rfl) (s_cons (s_own (o_unit_sums.frame.mono (by decide)) (Bd.room B) (Bd.gd B) (gl rfl) bp_unit_sums (s_cons (s_var rfl (.inr (.inl rfl)) (by decide) (by decide)) s_nil rfl) (by decide) rfl rfl) s_nil rfl) rfl)) rfl (.inl rfl)) (ss_cons (ps_setD (Bd.nd B) rfl (.inl rfl) (w_sum B G.z_sum (gl rfl) (s_cons (s_comp (WB := W0) (own := [("hour", 5)]) (Bd.calm B) (Bd.nd B) (s_wrng1 (s_var rfl (.inr (.inl rfl)) (by decide) (by decide)) (gl rfl) G.z_range rfl) (blkOk_by (N := n__law_clock_right) (sc := defScope t__law_clock_right) (by decide +kernel)) (by decide) (fun _ _ _ _ _ => (s_gct (Bd.nd (Bd.blk B)) rfl (.inl rfl) (.inr rfl))) (fun _ _ _ _ _ => s_tyes) (fun _ _ _ _ _ => (s_bin (s_get (Bd.u1 (Bd.blk B)) (s_get (Bd.u1 (Bd.blk B)) (s_var rfl (.inr (.inl rfl)) (by decide) (by decide)) w_int (fun _ _ => rfl)) (w_int1 G.z_int (gl rfl) (s_cons (s_bin (s_var rfl (.inl rfl) (by decide) (by decide)) (s_var rfl (.inr (.inl rfl)) (by decide) (by decide))) s_nil rfl) rfl rfl) (fun _ _ => rfl)) (s_get (Bd.u1 (Bd.blk B)) (s_get (Bd.u1 (Bd.blk B)) (s_var rfl (.inr (.inl rfl)) (by decide) (by decide)) w_int (fun _ _ => rfl)) (w_int1 G.z_int (gl rfl) (s_cons (s_bin (s_var rfl (.inl rfl) (by decide) (by decide)) (s_var rfl (.inr (.inl rfl)) (by decide) (by decide))) s_nil rfl) rfl rfl) (fun _ _ => rfl)))) (fun _ => rfl)) s_nil rfl) rfl rfl) rfl (.inl rfl)) (ss_cons (ps_retD (s_cmp (Bd.sm B) (Bd.u70 B) (s_var rfl (.inl rfl) (by decide) (by decide)) (s_if (s_tcmp (Bd.sm B) (Bd.u70 B) (s_var rfl (.inr (.inl rfl)) (by decide) (by decide)) (s_var rfl (.inr (.inl rfl)) (by decide) (by decide)) rfl) (s_bin (s_var rfl (.inr (.inl rfl)) (by decide) (by decide)) (s_own (o__law_many_units.frame.mono (by decide)) (Bd.room B) (Bd.gd B) (gl rfl) bp__law_many_units (s_cons (s_var rfl (.inr (.inl rfl)) (by decide) (by decide)) s_nil rfl) (by decide) rfl rfl)) w_int) rfl)) ss_next))))))))))
theorem o_at_power (G : Glo K mg) (sb : SysD base) (o_power_of : Own P w K mg base 1 "power_of" t_power_of ["one", "times"] c_power_of) (T : Top K mg "at_power" t_at_power) : Own P w K mg base 2 "at_power" t_at_power ["word", "prime", "times"] c_at_power :=
  own_mk T sc_at_power sb fun X f cdv A outer s H E _ B => (ss_cons (ps_ifD (s_tcmp (Bd.sm B) (Bd.u70 B) (s_var rfl (.inl rfl) (by decide) (by decide)) w_str rfl) (ss_cons (ps_retD w_int) ss_next) ss_next) (ss_cons (ps_ifD (s_tcmp (Bd.sm B) (Bd.u70 B) (s_var rfl (.inl rfl) (by decide) (by decide)) w_str rfl) (ss_cons (ps_retD w_int) ss_next) ss_next) (ss_cons (ps_ifD (s_tcmp (Bd.sm B) (Bd.u70 B) (s_var rfl (.inl rfl) (by decide) (by decide)) w_str rfl) (ss_cons (ps_retD (s_own (o_power_of.frame.mono (by decide)) (Bd.room B) (Bd.gd B) (gl rfl) bp_power_of (s_cons (s_var rfl (.inl rfl) (by decide) (by decide)) (s_cons (s_var rfl (.inl rfl) (by decide) (by decide)) s_nil rfl) rfl) (by decide) rfl rfl)) ss_next) ss_next) (ss_cons (ps_ifD (s_tcmp (Bd.sm B) (Bd.u70 B) (s_var rfl (.inl rfl) (by decide) (by decide)) w_str rfl) (ss_cons (ps_retD (s_bin (s_var rfl (.inl rfl) (by decide) (by decide)) w_int)) ss_next) ss_next) (ss_cons (ps_ifD (s_tcmp (Bd.sm B) (Bd.u70 B) (s_var rfl (.inl rfl) (by decide) (by decide)) w_str rfl) (ss_cons (ps_retD (s_bin (s_bin (s_own (o_power_of.frame.mono (by decide)) (Bd.room B) (Bd.gd B) (gl rfl) bp_power_of (s_cons (s_var rfl (.inl rfl) (by decide) (by decide)) (s_cons (s_bin (s_var rfl (.inl rfl) (by decide) (by decide)) w_int) s_nil rfl) rfl) (by decide) rfl rfl) w_int) (s_bin (s_var rfl (.inl rfl) (by decide) (by decide)) w_int))) ss_next) ss_next) (ss_cons (ps_ifD (s_tcmp (Bd.sm B) (Bd.u70 B) (s_var rfl (.inl rfl) (by decide) (by decide)) w_str rfl) (ss_cons (ps_retD (s_bin (s_own (o_power_of.frame.mono (by decide)) (Bd.room B) (Bd.gd B) (gl rfl) bp_power_of (s_cons (s_var rfl (.inl rfl) (by decide) (by decide)) (s_cons (s_var rfl (.inl rfl) (by decide) (by decide)) s_nil rfl) rfl) (by decide) rfl rfl) (s_own (o_power_of.frame.mono (by decide)) (Bd.room B) (Bd.gd B) (gl rfl) bp_power_of (s_cons (s_var rfl (.inl rfl) (by decide) (by decide)) (s_cons (s_bin (s_var rfl (.inl rfl) (by decide) (by decide)) w_int) s_nil rfl) rfl) (by decide) rfl rfl))) ss_next) ss_next) (ss_cons (ps_ifD (s_tcmp (Bd.sm B) (Bd.u70 B) (s_var rfl (.inl rfl) (by decide) (by decide)) w_str rfl) (ss_cons (ps_retD (s_if (s_tcmp (Bd.sm B) (Bd.u70 B) (s_var rfl (.inl rfl) (by decide) (by decide)) w_int rfl) (s_neg w_int) w_int)) ss_next) ss_next) (ss_cons (ps_ifD (s_tcmp (Bd.sm B) (Bd.u70 B) (s_var rfl (.inl rfl) (by decide) (by decide)) w_str rfl) (ss_cons (ps_retD (s_bin w_int (s_bin w_int (s_bin (s_var rfl (.inl rfl) (by decide) (by decide)) w_int)))) ss_next) ss_next) (ss_cons (ps_retD (s_bin w_int (s_bin (s_var rfl (.inl rfl) (by decide) (by decide)) w_int))) ss_next)))))))))
theorem o_known_of (G : Glo K mg) (sb : SysD base) (o_parts_of : Own P w K mg base 1 "parts_of" t_parts_of ["number"] c_parts_of) (o_at_power : Own P w K mg base 2 "at_power" t_at_power ["word", "prime", "times"] c_at_power) (T : Top K mg "known_of" t_known_of) : Own P w K mg base 3 "known_of" t_known_of ["word", "number"] c_known_of :=
  own_mk T sc_known_of sb fun X f cdv A outer s H E _ B => (ss_cons (ps_setD (Bd.nd B) rfl (.inl rfl) w_int rfl (.inl rfl)) (ss_cons (ps_forD PassesOwn.never (Bd.calm B) (s_wseq (s_own (o_parts_of.frame.mono (by decide)) (Bd.room B) (Bd.gd B) (gl rfl) bp_parts_of (s_cons (s_var rfl (.inl rfl) (by decide) (by decide)) s_nil rfl) (by decide) rfl rfl)) (g_tup (Bd.calm B) (g_cons (g_var (Bd.nd B) rfl (.inl rfl) (.inl rfl)) (g_cons (g_var (Bd.nd B) rfl (.inl rfl) (.inl rfl)) g_nil rfl) rfl) rfl rfl) (ss_cons (ps_setD (Bd.nd B) rfl (.inl rfl) (s_bin (s_var rfl (.inl rfl) (by decide) (by decide)) (s_own (o_at_power.frame.mono (by decide)) (Bd.room B) (Bd.gd B) (gl rfl) bp_at_power (s_cons (s_var rfl (.inl rfl) (by decide) (by decide)) (s_cons (s_var rfl (.inl rfl) (by decide) (by decide)) (s_cons (s_var rfl (.inl rfl) (by decide) (by decide)) s_nil rfl) rfl) rfl) (by decide) rfl rfl)) rfl (.inl rfl)) ss_next) (fun _ => rfl)) (ss_cons (ps_retD (s_var rfl (.inl rfl) (by decide) (by decide))) ss_next)))
theorem o_common_sum (G : Glo K mg) (sb : SysD base) (o_want_clock : Own P w K mg base 4 "want_clock" t_want_clock ["clock"] c_want_clock) (o_divisors_of : Own P w K mg base 2 "divisors_of" t_divisors_of ["number"] c_divisors_of) (o_known_of : Own P w K mg base 3 "known_of" t_known_of ["word", "number"] c_known_of) (T : Top K mg "common_sum" t_common_sum) : Own P w K mg base 5 "common_sum" t_common_sum ["clock"] c_common_sum :=
  own_mk T sc_common_sum sb fun X f cdv A outer s H E _ B => (ss_cons (ps_dropD (s_own (o_want_clock.frame.mono (by decide)) (Bd.room B) (Bd.gd B) (gl rfl) bp_want_clock (s_cons (s_var rfl (.inr (.inl rfl)) (by decide) (by decide)) s_nil rfl) (by decide) rfl rfl) rfl) (ss_cons (ps_retD (w_sum B G.z_sum (gl rfl) (s_cons (s_comp (WB := W0) (own := [("one", 1)]) (Bd.calm B) (Bd.nd B) (s_wseq (s_own (o_divisors_of.frame.mono (by decide)) (Bd.room B) (Bd.gd B) (gl rfl) bp_divisors_of (s_cons (s_var rfl (.inr (.inl rfl)) (by decide) (by decide)) s_nil rfl) (by decide) rfl rfl)) (blkOk_by (N := n_common_sum) (sc := defScope t_common_sum) (by decide +kernel)) (by decide) (fun _ _ _ _ _ => (s_gct (Bd.nd (Bd.blk B)) rfl (.inl rfl) (.inr rfl))) (fun _ _ _ _ _ => s_tyes) (fun _ _ _ _ _ => (s_bin (s_own (o_known_of.frame.mono (by decide)) (Bd.room (Bd.blk B)) (Bd.gd (Bd.blk B)) (gl rfl) bp_known_of (s_cons w_str (s_cons (s_var rfl (.inl rfl) (by decide) (by decide)) s_nil rfl) rfl) (by decide) rfl rfl) (s_bin (s_var rfl (.inr (.inl rfl)) (by decide) (by decide)) (s_var rfl (.inl rfl) (by decide) (by decide))))) (fun _ => rfl)) s_nil rfl) rfl rfl)) ss_next))
theorem o_is_unit_of (G : Glo K mg) (sb : SysD base) (o_common_of : Own P w K mg base 1 "common_of" t_common_of ["one", "other"] c_common_of) (T : Top K mg "is_unit_of" t_is_unit_of) : Own P w K mg base 2 "is_unit_of" t_is_unit_of ["clock", "hour"] c_is_unit_of :=
  own_mk T sc_is_unit_of sb fun X f cdv A outer s H E _ B => (ss_cons (ps_retD (s_cmp (Bd.sm B) (Bd.u70 B) (s_own (o_common_of.frame.mono (by decide)) (Bd.room B) (Bd.gd B) (gl rfl) bp_common_of (s_cons (s_var rfl (.inl rfl) (by decide) (by decide)) (s_cons (s_var rfl (.inl rfl) (by decide) (by decide)) s_nil rfl) rfl) (by decide) rfl rfl) w_int rfl)) ss_next)
theorem o_unit_common_sum (G : Glo K mg) (sb : SysD base) (o_want_clock : Own P w K mg base 4 "want_clock" t_want_clock ["clock"] c_want_clock) (o_is_unit_of : Own P w K mg base 2 "is_unit_of" t_is_unit_of ["clock", "hour"] c_is_unit_of) (o_common_of : Own P w K mg base 1 "common_of" t_common_of ["one", "other"] c_common_of) (T : Top K mg "unit_common_sum" t_unit_common_sum) : Own P w K mg base 5 "unit_common_sum" t_unit_common_sum ["clock"] c_unit_common_sum :=
  own_mk T sc_unit_common_sum sb fun X f cdv A outer s H E _ B => (ss_cons (ps_dropD (s_own (o_want_clock.frame.mono (by decide)) (Bd.room B) (Bd.gd B) (gl rfl) bp_want_clock (s_cons (s_var rfl (.inr (.inl rfl)) (by decide) (by decide)) s_nil rfl) (by decide) rfl rfl) rfl) (ss_cons (ps_retD (w_sum B G.z_sum (gl rfl) (s_cons (s_comp (WB := W0) (own := [("hour", 1)]) (Bd.calm B) (Bd.nd B) (s_wrng1 (s_var rfl (.inr (.inl rfl)) (by decide) (by decide)) (gl rfl) G.z_range rfl) (blkOk_by (N := n_unit_common_sum) (sc := defScope t_unit_common_sum) (by decide +kernel)) (by decide) (fun _ _ _ _ _ => (s_gct (Bd.nd (Bd.blk B)) rfl (.inl rfl) (.inr rfl))) (fun _ _ _ _ _ => (s_tone (s_tval (s_own (o_is_unit_of.frame.mono (by decide)) (Bd.room (Bd.blk B)) (Bd.gd (Bd.blk B)) (gl rfl) bp_is_unit_of (s_cons (s_var rfl (.inr (.inl rfl)) (by decide) (by decide)) (s_cons (s_var rfl (.inl rfl) (by decide) (by decide)) s_nil rfl) rfl) (by decide) rfl rfl) (fun _ => rfl)))) (fun _ _ _ _ _ => (s_own (o_common_of.frame.mono (by decide)) (Bd.room (Bd.blk B)) (Bd.gd (Bd.blk B)) (gl rfl) bp_common_of (s_cons (s_var rfl (.inr (.inl rfl)) (by decide) (by decide)) (s_cons (s_bin (s_bin (s_var rfl (.inl rfl) (by decide) (by decide)) w_int) (s_var rfl (.inr (.inl rfl)) (by decide) (by decide))) s_nil rfl) rfl) (by decide) rfl rfl)) (fun _ => rfl)) s_nil rfl) rfl rfl)) ss_next))
theorem o__law_common_right (G : Glo K mg) (sb : SysD base) (o__law_common : Own P w K mg base 1 "_law_common" t__law_common ["near", "far"] c__law_common) (o_common_sum : Own P w K mg base 5 "common_sum" t_common_sum ["clock"] c_common_sum) (o_unit_common_sum : Own P w K mg base 5 "unit_common_sum" t_unit_common_sum ["clock"] c_unit_common_sum) (o__law_divisors : Own P w K mg base 1 "_law_divisors" t__law_divisors ["number"] c__law_divisors) (T : Top K mg "_law_common_right" t__law_common_right) : Own P w K mg base 6 "_law_common_right" t__law_common_right ["clock"] c__law_common_right :=
  own_mk T sc__law_common_right sb fun X f cdv A outer s H E _ B => (ss_cons (ps_setD (Bd.nd B) rfl (.inl rfl) (w_sum B G.z_sum (gl rfl) (s_cons (s_comp (WB := W0) (own := [("number", 3)]) (Bd.calm B) (Bd.nd B) (s_wrng2 w_int (s_bin (s_var rfl (.inr (.inl rfl)) (by decide) (by decide)) w_int) (gl rfl) G.z_range rfl rfl) (blkOk_by (N := n__law_common_right) (sc := defScope t__law_common_right) (by decide +kernel)) (by decide) (fun _ _ _ _ _ => (s_gct (Bd.nd (Bd.blk B)) rfl (.inl rfl) (.inr rfl))) (fun _ _ _ _ _ => s_tyes) (fun _ _ _ _ _ => (s_own (o__law_common.frame.mono (by decide)) (Bd.room (Bd.blk B)) (Bd.gd (Bd.blk B)) (gl rfl) bp__law_common (s_cons (s_var rfl (.inr (.inl rfl)) (by decide) (by decide)) (s_cons (s_var rfl (.inl rfl) (by decide) (by decide)) s_nil rfl) rfl) (by decide) rfl rfl)) (fun _ => rfl)) s_nil rfl) rfl rfl) rfl (.inl rfl)) (ss_cons (ps_ifD (s_tcmp (Bd.sm B) (Bd.u70 B) (w_repr B G.z_repr (gl rfl) (s_cons (s_lst (s_cons (s_own (o_common_sum.frame.mono (by decide)) (Bd.room B) (Bd.gd B) (gl rfl) bp_common_sum (s_cons (s_var rfl (.inr (.inl rfl)) (by decide) (by decide)) s_nil rfl) (by decide) rfl rfl) (s_cons (s_ownK0 (o_common_sum.frame.mono (by decide)) (Bd.room B) (Bd.gd B) (gl rfl) bk_common_sum_0_clock (s_kcons (s_var rfl (.inr (.inl rfl)) (by decide) (by decide)) s_knil) rfl rfl (by decide) rfl) s_nil rfl) rfl)) s_nil rfl) rfl rfl) (w_repr B G.z_repr (gl rfl) (s_cons (s_lst (s_cons (s_var rfl (.inl rfl) (by decide) (by decide)) (s_cons (s_var rfl (.inl rfl) (by decide) (by decide)) s_nil rfl) rfl)) s_nil rfl) rfl rfl) rfl) (ss_cons (ps_retD w_bl) ss_next) ss_next) (ss_cons (ps_setLcD (WB := W0) (own := [("hour", 4)]) (Bd.calm B) (Bd.nd B) rfl rfl rfl rfl rfl (fun _ => sw_true rfl rfl rfl rfl) (s_wrng1 (s_var rfl (.inr (.inl rfl)) (by decide) (by decide)) (gl rfl) G.z_range rfl) (blkOk_by (N := n__law_common_right) (sc := defScope t__law_common_right) (by decide +kernel)) (by decide) (fun _ _ _ _ _ => (s_gct (Bd.nd (Bd.blk B)) rfl (.inl rfl) (.inr rfl))) (fun _ _ _ _ _ => (s_tone (s_tcmp (Bd.sm (Bd.blk B)) (Bd.u70 (Bd.blk B)) (s_own (o__law_common.frame.mono (by decide)) (Bd.room (Bd.blk B)) (Bd.gd (Bd.blk B)) (gl rfl) bp__law_common (s_cons (s_var rfl (.inr (.inl rfl)) (by decide) (by decide)) (s_cons (s_var rfl (.inl rfl) (by decide) (by decide)) s_nil rfl) rfl) (by decide) rfl rfl) w_int rfl))) (fun _ _ _ _ _ => (s_var rfl (.inl rfl) (by decide) (by decide))) (fun _ => rfl)) (ss_cons (ps_setD (Bd.nd B) rfl (.inl rfl) (w_sum B G.z_sum (gl rfl) (s_cons (s_comp (WB := W0) (own := [("hour", 4)]) (Bd.calm B) (Bd.nd B) (s_wseq (s_var rfl (.inl rfl) (by decide) (by decide))) (blkOk_by (N := n__law_common_right) (sc := defScope t__law_common_right) (by decide +kernel)) (by decide) (fun _ _ _ _ _ => (s_gct (Bd.nd (Bd.blk B)) rfl (.inl rfl) (.inr rfl))) (fun _ _ _ _ _ => s_tyes) (fun _ _ _ _ _ => (s_own (o__law_common.frame.mono (by decide)) (Bd.room (Bd.blk B)) (Bd.gd (Bd.blk B)) (gl rfl) bp__law_common (s_cons (s_var rfl (.inr (.inl rfl)) (by decide) (by decide)) (s_cons (w_max (Bd.blk B) G.z_max (gl rfl) (s_cons w_int (s_cons (s_bin (s_var rfl (.inl rfl) (by decide) (by decide)) w_int) s_nil rfl) rfl) rfl rfl) s_nil rfl) rfl) (by decide) rfl rfl)) (fun _ => rfl)) s_nil rfl) rfl rfl) rfl (.inl rfl)) (ss_cons (ps_ifD (s_tcmp (Bd.sm B) (Bd.u70 B) (w_repr B G.z_repr (gl rfl) (s_cons (s_lst (s_cons (s_own (o_unit_common_sum.frame.mono (by decide)) (Bd.room B) (Bd.gd B) (gl rfl) bp_unit_common_sum (s_cons (s_var rfl (.inr (.inl rfl)) (by decide) (by decide)) s_nil rfl) (by decide) rfl rfl) (s_cons (s_ownK0 (o_unit_common_sum.frame.mono (by decide)) (Bd.room B) (Bd.gd B) (gl rfl) bk_unit_common_sum_0_clock (s_kcons (s_var rfl (.inr (.inl rfl)) (by decide) (by decide)) s_knil) rfl rfl (by decide) rfl) s_nil rfl) rfl)) s_nil rfl) rfl rfl) (w_repr B G.z_repr (gl rfl) (s_cons (s_lst (s_cons (s_var rfl (.inl rfl) (by decide) (by decide)) (s_cons (s_var rfl (.inl rfl) (by decide) (by decide)) s_nil rfl) rfl)) s_nil rfl) rfl rfl) rfl) (ss_cons (ps_retD w_bl) ss_next) ss_next) (ss_cons (ps_retD (s_cmp (Bd.sm B) (Bd.u70 B) (s_var rfl (.inl rfl) (by decide) (by decide)) (s_bin (w_len G.z_len (gl rfl) (s_cons (s_var rfl (.inl rfl) (by decide) (by decide)) s_nil rfl) rfl rfl) (w_len G.z_len (gl rfl) (s_cons (s_own (o__law_divisors.frame.mono (by decide)) (Bd.room B) (Bd.gd B) (gl rfl) bp__law_divisors (s_cons (s_var rfl (.inr (.inl rfl)) (by decide) (by decide)) s_nil rfl) (by decide) rfl rfl) s_nil rfl) rfl rfl)) rfl)) ss_next))))))
theorem o__law_apart_right (G : Glo K mg) (sb : SysD base) (o__law_draw : Own P w K mg base 1 "_law_draw" t__law_draw ["pot", "many"] c__law_draw) (o__law_common : Own P w K mg base 1 "_law_common" t__law_common ["near", "far"] c__law_common) (o_unit_sum : Own P w K mg base 5 "unit_sum" t_unit_sum ["clock", "hour"] c_unit_sum) (o_common_sum : Own P w K mg base 5 "common_sum" t_common_sum ["clock"] c_common_sum) (o_unit_common_sum : Own P w K mg base 5 "unit_common_sum" t_unit_common_sum ["clock"] c_unit_common_sum) (T : Top K mg "_law_apart_right" t__law_apart_right) : Own P w K mg base 6 "_law_apart_right" t__law_apart_right ["pot"] c__law_apart_right :=
  own_mk T sc__law_apart_right sb fun X f cdv A outer s H E _ B => (ss_cons (ps_parD (Bd.calm B) (Bd.nd B) rfl rfl (by decide) rfl rfl (s_cons (s_bin w_int (s_own (o__law_draw.frame.mono (by decide)) (Bd.room B) (Bd.gd B) (gl rfl) bp__law_draw (s_cons (s_var rfl (.inl rfl) (by decide) (by decide)) (s_cons w_int s_nil rfl) rfl) (by decide) rfl rfl)) (s_cons (s_bin w_int (s_own (o__law_draw.frame.mono (by decide)) (Bd.room B) (Bd.gd B) (gl rfl) bp__law_draw (s_cons (s_var rfl (.inl rfl) (by decide) (by decide)) (s_cons w_int s_nil rfl) rfl) (by decide) rfl rfl)) s_nil rfl) rfl) rfl rfl) (ss_cons (ps_ifD (s_tcmp (Bd.sm B) (Bd.u70 B) (s_own (o__law_common.frame.mono (by decide)) (Bd.room B) (Bd.gd B) (gl rfl) bp__law_common (s_cons (s_var rfl (.inl rfl) (by decide) (by decide)) (s_cons (s_var rfl (.inl rfl) (by decide) (by decide)) s_nil rfl) rfl) (by decide) rfl rfl) w_int rfl) (ss_cons (ps_retD w_bl) ss_next) ss_next) (ss_cons (ps_setD (Bd.nd B) rfl (.inl rfl) (s_own (o__law_draw.frame.mono (by decide)) (Bd.room B) (Bd.gd B) (gl rfl) bp__law_draw (s_cons (s_var rfl (.inl rfl) (by decide) (by decide)) (s_cons (s_bin (s_var rfl (.inl rfl) (by decide) (by decide)) (s_var rfl (.inl rfl) (by decide) (by decide))) s_nil rfl) rfl) (by decide) rfl rfl) rfl (.inl rfl)) (ss_cons (ps_ifD (s_tcmp (Bd.sm B) (Bd.u70 B) (s_own (o_unit_sum.frame.mono (by decide)) (Bd.room B) (Bd.gd B) (gl rfl) bp_unit_sum (s_cons (s_bin (s_var rfl (.inl rfl) (by decide) (by decide)) (s_var rfl (.inl rfl) (by decide) (by decide))) (s_cons (s_var rfl (.inl rfl) (by decide) (by decide)) s_nil rfl) rfl) (by decide) rfl rfl) (s_bin (s_own (o_unit_sum.frame.mono (by decide)) (Bd.room B) (Bd.gd B) (gl rfl) bp_unit_sum (s_cons (s_var rfl (.inl rfl) (by decide) (by decide)) (s_cons (w_int1 G.z_int (gl rfl) (s_cons (s_bin (s_var rfl (.inl rfl) (by decide) (by decide)) (s_var rfl (.inl rfl) (by decide) (by decide))) s_nil rfl) rfl rfl) s_nil rfl) rfl) (by decide) rfl rfl) (s_own (o_unit_sum.frame.mono (by decide)) (Bd.room B) (Bd.gd B) (gl rfl) bp_unit_sum (s_cons (s_var rfl (.inl rfl) (by decide) (by decide)) (s_cons (w_int1 G.z_int (gl rfl) (s_cons (s_bin (s_var rfl (.inl rfl) (by decide) (by decide)) (s_var rfl (.inl rfl) (by decide) (by decide))) s_nil rfl) rfl rfl) s_nil rfl) rfl) (by decide) rfl rfl)) rfl) (ss_cons (ps_retD w_bl) ss_next) ss_next) (ss_cons (ps_retD (s_and (s_cmp (Bd.sm B) (Bd.u70 B) (s_own (o_common_sum.frame.mono (by decide)) (Bd.room B) (Bd.gd B) (gl rfl) bp_common_sum (s_cons (s_bin (s_var rfl (.inl rfl) (by decide) (by decide)) (s_var rfl (.inl rfl) (by decide) (by decide))) s_nil rfl) (by decide) rfl rfl) (s_bin (s_own (o_common_sum.frame.mono (by decide)) (Bd.room B) (Bd.gd B) (gl rfl) bp_common_sum (s_cons (s_var rfl (.inl rfl) (by decide) (by decide)) s_nil rfl) (by decide) rfl rfl) (s_own (o_common_sum.frame.mono (by decide)) (Bd.room B) (Bd.gd B) (gl rfl) bp_common_sum (s_cons (s_var rfl (.inl rfl) (by decide) (by decide)) s_nil rfl) (by decide) rfl rfl)) rfl) (pe_one (s_cmp (Bd.sm B) (Bd.u70 B) (s_own (o_unit_common_sum.frame.mono (by decide)) (Bd.room B) (Bd.gd B) (gl rfl) bp_unit_common_sum (s_cons (s_bin (s_var rfl (.inl rfl) (by decide) (by decide)) (s_var rfl (.inl rfl) (by decide) (by decide))) s_nil rfl) (by decide) rfl rfl) (s_bin (s_own (o_unit_common_sum.frame.mono (by decide)) (Bd.room B) (Bd.gd B) (gl rfl) bp_unit_common_sum (s_cons (s_var rfl (.inl rfl) (by decide) (by decide)) s_nil rfl) (by decide) rfl rfl) (s_own (o_unit_common_sum.frame.mono (by decide)) (Bd.room B) (Bd.gd B) (gl rfl) bp_unit_common_sum (s_cons (s_var rfl (.inl rfl) (by decide) (by decide)) s_nil rfl) (by decide) rfl rfl)) rfl)))) ss_next)))))
theorem o_want_word (G : Glo K mg) (sb : SysD base)  (T : Top K mg "want_word" t_want_word) : Own P w K mg base 1 "want_word" t_want_word ["word"] c_want_word :=
  own_mk T sc_want_word sb fun X f cdv A outer s H E _ B => (ss_cons (ps_ifD (PW.pt (s_tor (s_tnot (s_tval (s_isi (by decide) (s_var rfl (.inl rfl) (by decide) (by decide)) (gl rfl) G.z_isinstance (gl rfl) G.z_str (by decide +kernel) (by decide) (by decide) rfl) (fun _ => rfl))) (s_or1 (s_tcmp (Bd.sm B) (Bd.u70 B) (s_var rfl (.inl rfl) (by decide) (by decide)) (w_g G.k_WORDS (gl rfl) (by decide)) rfl)))) (ss_cons ps_neverD ss_next) ss_next) ss_next)
theorem o_is_number_value (G : Glo K mg) (sb : SysD base) (o_is_within : Own P w K mg base 2 "is_within" t_is_within ["value", "least", "most"] c_is_within) (T : Top K mg "is_number_value" t_is_number_value) : Own P w K mg base 3 "is_number_value" t_is_number_value ["value"] c_is_number_value :=
  own_mk T sc_is_number_value sb fun X f cdv A outer s H E _ B => (ss_cons (ps_retD (s_own (o_is_within.frame.mono (by decide)) (Bd.room B) (Bd.gd B) (gl rfl) bp_is_within (s_cons (s_var rfl (.inl rfl) (by decide) (by decide)) (s_cons w_int (s_cons (w_g G.k_MOST_NUMBER (gl rfl) (by decide)) s_nil rfl) rfl) rfl) (by decide) rfl rfl)) ss_next)
theorem o_want_number (G : Glo K mg) (sb : SysD base) (o_is_number_value : Own P w K mg base 3 "is_number_value" t_is_number_value ["value"] c_is_number_value) (T : Top K mg "want_number" t_want_number) : Own P w K mg base 4 "want_number" t_want_number ["number"] c_want_number :=
  own_mk T sc_want_number sb fun X f cdv A outer s H E _ B => (ss_cons (ps_ifD (s_tnot (s_tval (s_own (o_is_number_value.frame.mono (by decide)) (Bd.room B) (Bd.gd B) (gl rfl) bp_is_number_value (s_cons (s_var rfl (.inl rfl) (by decide) (by decide)) s_nil rfl) (by decide) rfl rfl) (fun _ => rfl))) (ss_cons ps_neverD ss_next) ss_next) ss_next)
theorem o_known_at (G : Glo K mg) (sb : SysD base) (o_want_word : Own P w K mg base 1 "want_word" t_want_word ["word"] c_want_word) (o_want_number : Own P w K mg base 4 "want_number" t_want_number ["number"] c_want_number) (o_known_of : Own P w K mg base 3 "known_of" t_known_of ["word", "number"] c_known_of) (T : Top K mg "known_at" t_known_at) : Own P w K mg base 5 "known_at" t_known_at ["word", "number"] c_known_at :=
  own_mk T sc_known_at sb fun X f cdv A outer s H E _ B => (ss_cons (ps_dropD (s_own (o_want_word.frame.mono (by decide)) (Bd.room B) (Bd.gd B) (gl rfl) bp_want_word (s_cons (s_var rfl (.inl rfl) (by decide) (by decide)) s_nil rfl) (by decide) rfl rfl) rfl) (ss_cons (ps_dropD (s_own (o_want_number.frame.mono (by decide)) (Bd.room B) (Bd.gd B) (gl rfl) bp_want_number (s_cons (s_var rfl (.inl rfl) (by decide) (by decide)) s_nil rfl) (by decide) rfl rfl) rfl) (ss_cons (ps_retD (s_own (o_known_of.frame.mono (by decide)) (Bd.room B) (Bd.gd B) (gl rfl) bp_known_of (s_cons (s_var rfl (.inl rfl) (by decide) (by decide)) (s_cons (s_var rfl (.inl rfl) (by decide) (by decide)) s_nil rfl) rfl) (by decide) rfl rfl)) ss_next)))
theorem o__law_great_right (G : Glo K mg) (sb : SysD base) (o__law_pick : Own P w K mg base 2 "_law_pick" t__law_pick ["pot", "some"] c__law_pick) (o__law_draw : Own P w K mg base 1 "_law_draw" t__law_draw ["pot", "many"] c__law_draw) (o_known_at : Own P w K mg base 5 "known_at" t_known_at ["word", "number"] c_known_at) (o_unit_sum : Own P w K mg base 5 "unit_sum" t_unit_sum ["clock", "hour"] c_unit_sum) (o_unit_common_sum : Own P w K mg base 5 "unit_common_sum" t_unit_common_sum ["clock"] c_unit_common_sum) (o__law_common : Own P w K mg base 1 "_law_common" t__law_common ["near", "far"] c__law_common) (o_common_sum : Own P w K mg base 5 "common_sum" t_common_sum ["clock"] c_common_sum) (T : Top K mg "_law_great_right" t__law_great_right) : Own P w K mg base 6 "_law_great_right" t__law_great_right ["pot"] c__law_great_right :=
  own_mk T sc__law_great_right sb fun X f cdv A outer s H E _ B => (ss_cons (ps_setD (Bd.nd B) rfl (.inl rfl) (s_own (o__law_pick.frame.mono (by decide)) (Bd.room B) (Bd.gd B) (gl rfl) bp__law_pick (s_cons (s_var rfl (.inl rfl) (by decide) (by decide)) (s_cons (s_lst (s_cons w_int (s_cons w_int (s_cons w_int (s_cons w_int (s_cons w_int (s_cons w_int (s_cons w_int (s_cons w_int s_nil rfl) rfl) rfl) rfl) rfl) rfl) rfl) rfl)) s_nil rfl) rfl) (by decide) rfl rfl) rfl (.inl rfl)) (ss_cons (ps_parD (Bd.calm B) (Bd.nd B) rfl rfl (by decide) rfl rfl (s_cons (s_own (o_known_at.frame.mono (by decide)) (Bd.room B) (Bd.gd B) (gl rfl) bp_known_at (s_cons w_str (s_cons (s_var rfl (.inl rfl) (by decide) (by decide)) s_nil rfl) rfl) (by decide) rfl rfl) (s_cons (s_own (o__law_draw.frame.mono (by decide)) (Bd.room B) (Bd.gd B) (gl rfl) bp__law_draw (s_cons (s_var rfl (.inl rfl) (by decide) (by decide)) (s_cons (s_var rfl (.inl rfl) (by decide) (by decide)) s_nil rfl) rfl) (by decide) rfl rfl) s_nil rfl) rfl) rfl rfl) (ss_cons (ps_ifD (PW.pt (s_tor (s_tcmp (Bd.sm B) (Bd.u70 B) (s_own (o_unit_sum.frame.mono (by decide)) (Bd.room B) (Bd.gd B) (gl rfl) bp_unit_sum (s_cons (s_var rfl (.inl rfl) (by decide) (by decide)) (s_cons w_int s_nil rfl) rfl) (by decide) rfl rfl) (s_var rfl (.inl rfl) (by decide) (by decide)) rfl) (s_or1 (s_tcmp (Bd.sm B) (Bd.u70 B) (s_own (o_unit_sum.frame.mono (by decide)) (Bd.room B) (Bd.gd B) (gl rfl) bp_unit_sum (s_cons (s_var rfl (.inl rfl) (by decide) (by decide)) (s_cons w_int s_nil rfl) rfl) (by decide) rfl rfl) (s_own (o_known_at.frame.mono (by decide)) (Bd.room B) (Bd.gd B) (gl rfl) bp_known_at (s_cons w_str (s_cons (s_var rfl (.inl rfl) (by decide) (by decide)) s_nil rfl) rfl) (by decide) rfl rfl) rfl)))) (ss_cons (ps_retD w_bl) ss_next) ss_next) (ss_cons (ps_ifD (s_tcmp (Bd.sm B) (Bd.u70 B) (s_own (o_unit_common_sum.frame.mono (by decide)) (Bd.room B) (Bd.gd B) (gl rfl) bp_unit_common_sum (s_cons (s_var rfl (.inl rfl) (by decide) (by decide)) s_nil rfl) (by decide) rfl rfl) (s_bin (s_var rfl (.inl rfl) (by decide) (by decide)) (s_own (o_known_at.frame.mono (by decide)) (Bd.room B) (Bd.gd B) (gl rfl) bp_known_at (s_cons w_str (s_cons (s_var rfl (.inl rfl) (by decide) (by decide)) s_nil rfl) rfl) (by decide) rfl rfl)) rfl) (ss_cons (ps_retD w_bl) ss_next) ss_next) (ss_cons (ps_setD (Bd.nd B) rfl (.inl rfl) (s_own (o__law_common.frame.mono (by decide)) (Bd.room B) (Bd.gd B) (gl rfl) bp__law_common (s_cons (s_var rfl (.inl rfl) (by decide) (by decide)) (s_cons (s_var rfl (.inl rfl) (by decide) (by decide)) s_nil rfl) rfl) (by decide) rfl rfl) rfl (.inl rfl)) (ss_cons (ps_ifD (s_tcmp (Bd.sm B) (Bd.u70 B) (s_bin (s_own (o_unit_sum.frame.mono (by decide)) (Bd.room B) (Bd.gd B) (gl rfl) bp_unit_sum (s_cons (s_var rfl (.inl rfl) (by decide) (by decide)) (s_cons (s_var rfl (.inl rfl) (by decide) (by decide)) s_nil rfl) rfl) (by decide) rfl rfl) (s_own (o_known_at.frame.mono (by decide)) (Bd.room B) (Bd.gd B) (gl rfl) bp_known_at (s_cons w_str (s_cons (s_bin (s_var rfl (.inl rfl) (by decide) (by decide)) (s_var rfl (.inl rfl) (by decide) (by decide))) s_nil rfl) rfl) (by decide) rfl rfl)) (s_bin (s_var rfl (.inl rfl) (by decide) (by decide)) (s_own (o_known_at.frame.mono (by decide)) (Bd.room B) (Bd.gd B) (gl rfl) bp_known_at (s_cons w_str (s_cons (s_bin (s_var rfl (.inl rfl) (by decide) (by decide)) (s_var rfl (.inl rfl) (by decide) (by decide))) s_nil rfl) rfl) (by decide) rfl rfl)) rfl) (ss_cons (ps_retD w_bl) ss_next) ss_next) (ss_cons (ps_retD (s_and (s_cmp (Bd.sm B) (Bd.u70 B) (s_own (o_common_sum.frame.mono (by decide)) (Bd.room B) (Bd.gd B) (gl rfl) bp_common_sum (s_cons w_int s_nil rfl) (by decide) rfl rfl) (s_bin (s_bin w_int w_int) w_int) rfl) (pe_one (s_cmp (Bd.sm B) (Bd.u70 B) (s_own (o_common_sum.frame.mono (by decide)) (Bd.room B) (Bd.gd B) (gl rfl) bp_common_sum (s_cons w_int s_nil rfl) (by decide) rfl rfl) (s_bin w_int w_int) rfl)))) ss_next)))))))
theorem o__law_right (G : Glo K mg) (sb : SysD base) (o__law_pick : Own P w K mg base 2 "_law_pick" t__law_pick ["pot", "some"] c__law_pick) (o__law_draw : Own P w K mg base 1 "_law_draw" t__law_draw ["pot", "many"] c__law_draw) (o__law_clock_right : Own P w K mg base 6 "_law_clock_right" t__law_clock_right ["pot", "clock"] c__law_clock_right) (o__law_common_right : Own P w K mg base 6 "_law_common_right" t__law_common_right ["clock"] c__law_common_right) (o__law_apart_right : Own P w K mg base 6 "_law_apart_right" t__law_apart_right ["pot"] c__law_apart_right) (o__law_great_right : Own P w K mg base 6 "_law_great_right" t__law_great_right ["pot"] c__law_great_right) (T : Top K mg "_law_right" t__law_right) : Own P w K mg base 7 "_law_right" t__law_right ["pot"] c__law_right :=
  own_mk T sc__law_right sb fun X f cdv A outer s H E _ B => (ss_cons (ps_setD (Bd.nd B) rfl (.inl rfl) (s_own (o__law_pick.frame.mono (by decide)) (Bd.room B) (Bd.gd B) (gl rfl) bp__law_pick (s_cons (s_var rfl (.inl rfl) (by decide) (by decide)) (s_cons (s_lst (s_cons w_int (s_cons w_int (s_cons w_int (s_cons w_int (s_cons w_int (s_cons (s_bin w_int (s_own (o__law_draw.frame.mono (by decide)) (Bd.room B) (Bd.gd B) (gl rfl) bp__law_draw (s_cons (s_var rfl (.inl rfl) (by decide) (by decide)) (s_cons w_int s_nil rfl) rfl) (by decide) rfl rfl)) s_nil rfl) rfl) rfl) rfl) rfl) rfl)) s_nil rfl) rfl) (by decide) rfl rfl) rfl (.inl rfl)) (ss_cons (ps_retD (s_and (s_own (o__law_clock_right.frame.mono (by decide)) (Bd.room B) (Bd.gd B) (gl rfl) bp__law_clock_right (s_cons (s_var rfl (.inl rfl) (by decide) (by decide)) (s_cons (s_var rfl (.inl rfl) (by decide) (by decide)) s_nil rfl) rfl) (by decide) rfl rfl) (s_and (s_own (o__law_common_right.frame.mono (by decide)) (Bd.room B) (Bd.gd B) (gl rfl) bp__law_common_right (s_cons (s_var rfl (.inl rfl) (by decide) (by decide)) s_nil rfl) (by decide) rfl rfl) (s_and (s_own (o__law_apart_right.frame.mono (by decide)) (Bd.room B) (Bd.gd B) (gl rfl) bp__law_apart_right (s_cons (s_var rfl (.inl rfl) (by decide) (by decide)) s_nil rfl) (by decide) rfl rfl) (pe_one (s_own (o__law_great_right.frame.mono (by decide)) (Bd.room B) (Bd.gd B) (gl rfl) bp__law_great_right (s_cons (s_var rfl (.inl rfl) (by decide) (by decide)) s_nil rfl) (by decide) rfl rfl)))))) ss_next))
theorem o__law_pot (G : Glo K mg) (sb : SysD base)  (T : Top K mg "_law_pot" t__law_pot) : Own P w K mg base 1 "_law_pot" t__law_pot ["script", "k"] c__law_pot :=
  own_mk T sc__law_pot sb fun X f cdv A outer s H E _ B => (ss_cons (ps_setD (Bd.nd B) rfl (.inl rfl) (s_if (s_tcmp (Bd.sm B) (Bd.u70 B) (s_var rfl (.inl rfl) (by decide) (by decide)) (w_len G.z_len (gl rfl) (s_cons (s_var rfl (.inl rfl) (by decide) (by decide)) s_nil rfl) rfl rfl) rfl) (w_abs G.z_abs (gl rfl) (s_cons (s_get (Bd.u1 B) (s_var rfl (.inl rfl) (by decide) (by decide)) (s_var rfl (.inl rfl) (by decide) (by decide)) (fun _ _ => rfl)) s_nil rfl) rfl rfl) (s_bin (s_bin w_int (s_var rfl (.inl rfl) (by decide) (by decide))) w_int)) rfl (.inl rfl)) (ss_cons (ps_retD (s_lst (s_cons (w_max B G.z_max (gl rfl) (s_cons w_int (s_cons (s_bin (s_var rfl (.inl rfl) (by decide) (by decide)) (s_bin w_int w_int)) s_nil rfl) rfl) rfl rfl) (s_cons (s_bin (s_bin (w_int1 G.z_int (gl rfl) (s_cons (s_bin (s_bin (s_bin (s_bin (w_int1 G.z_int (gl rfl) (s_cons (s_var rfl (.inl rfl) (by decide) (by decide)) s_nil rfl) rfl rfl) w_int) w_int) (s_bin w_int (s_var rfl (.inl rfl) (by decide) (by decide)))) w_int) s_nil rfl) rfl rfl) w_int) w_int) s_nil rfl) rfl))) ss_next))
theorem o_law (G : Glo K mg) (sb : SysD base) (o__law_right : Own P w K mg base 7 "_law_right" t__law_right ["pot"] c__law_right) (o__law_pot : Own P w K mg base 1 "_law_pot" t__law_pot ["script", "k"] c__law_pot) (T : Top K mg "law" t_law) : Own P w K mg base 8 "law" t_law ["script"] c_law :=
  own_mk T sc_law sb fun X f cdv A outer s H E _ B => (ss_cons (ps_retD (w_all B G.z_all (gl rfl) (s_cons (s_comp (WB := W0) (own := [("k", 1)]) (Bd.calm B) (Bd.nd B) (s_wrng1 (w_max B G.z_max (gl rfl) (s_cons w_int (s_cons (w_min B G.z_min (gl rfl) (s_cons w_int (s_cons (w_len G.z_len (gl rfl) (s_cons (s_var rfl (.inr (.inl rfl)) (by decide) (by decide)) s_nil rfl) rfl rfl) s_nil rfl) rfl) rfl rfl) s_nil rfl) rfl) rfl rfl) (gl rfl) G.z_range rfl) (blkOk_by (N := n_law) (sc := defScope t_law) (by decide +kernel)) (by decide) (fun _ _ _ _ _ => (s_gct (Bd.nd (Bd.blk B)) rfl (.inl rfl) (.inr rfl))) (fun _ _ _ _ _ => s_tyes) (fun _ _ _ _ _ => (s_own (o__law_right.frame.mono (by decide)) (Bd.room (Bd.blk B)) (Bd.gd (Bd.blk B)) (gl rfl) bp__law_right (s_cons (s_own (o__law_pot.frame.mono (by decide)) (Bd.room (Bd.blk B)) (Bd.gd (Bd.blk B)) (gl rfl) bp__law_pot (s_cons (s_var rfl (.inr (.inl rfl)) (by decide) (by decide)) (s_cons (s_var rfl (.inl rfl) (by decide) (by decide)) s_nil rfl) rfl) (by decide) rfl rfl) s_nil rfl) (by decide) rfl rfl)) (fun _ => rfl)) s_nil rfl) rfl rfl)) ss_next)
theorem all_own (G : Glo K mg) (sb : SysD base) (T__law_draw : Top K mg "_law_draw" t__law_draw) (T__law_pick : Top K mg "_law_pick" t__law_pick) (T_is_integer : Top K mg "is_integer" t_is_integer) (T_is_within : Top K mg "is_within" t_is_within) (T_is_clock_value : Top K mg "is_clock_value" t_is_clock_value) (T_want_clock : Top K mg "want_clock" t_want_clock) (T_common_of : Top K mg "common_of" t_common_of) (T_parts_of : Top K mg "parts_of" t_parts_of) (T_sign_at : Top K mg "sign_at" t_sign_at) (T_power_of : Top K mg "power_of" t_power_of) (T_divisors_of : Top K mg "divisors_of" t_divisors_of) (T_unit_sum_of : Top K mg "unit_sum_of" t_unit_sum_of) (T_unit_sums : Top K mg "unit_sums" t_unit_sums) (T__law_parts : Top K mg "_law_parts" t__law_parts) (T__law_sign : Top K mg "_law_sign" t__law_sign) (T__law_divisors : Top K mg "_law_divisors" t__law_divisors) (T__law_unit_sum : Top K mg "_law_unit_sum" t__law_unit_sum) (T__law_common : Top K mg "_law_common" t__law_common) (T__law_many_units : Top K mg "_law_many_units" t__law_many_units) (T_want_hour : Top K mg "want_hour" t_want_hour) (T_unit_sum : Top K mg "unit_sum" t_unit_sum) (T__law_clock_right : Top K mg "_law_clock_right" t__law_clock_right) (T_at_power : Top K mg "at_power" t_at_power) (T_known_of : Top K mg "known_of" t_known_of) (T_common_sum : Top K mg "common_sum" t_common_sum) (T_is_unit_of : Top K mg "is_unit_of" t_is_unit_of) (T_unit_common_sum : Top K mg "unit_common_sum" t_unit_common_sum) (T__law_common_right : Top K mg "_law_common_right" t__law_common_right) (T__law_apart_right : Top K mg "_law_apart_right" t__law_apart_right) (T_want_word : Top K mg "want_word" t_want_word) (T_is_number_value : Top K mg "is_number_value" t_is_number_value) (T_want_number : Top K mg "want_number" t_want_number) (T_known_at : Top K mg "known_at" t_known_at) (T__law_great_right : Top K mg "_law_great_right" t__law_great_right) (T__law_right : Top K mg "_law_right" t__law_right) (T__law_pot : Top K mg "_law_pot" t__law_pot) (T_law : Top K mg "law" t_law) : Own P w K mg base 8 "law" t_law ["script"] c_law := by
  have O__law_draw := o__law_draw (P := P) (w := w) (K := K) (base := base) G sb  T__law_draw
  have O__law_pick := o__law_pick (P := P) (w := w) (K := K) (base := base) G sb O__law_draw T__law_pick
  have O_is_integer := o_is_integer (P := P) (w := w) (K := K) (base := base) G sb  T_is_integer
  have O_is_within := o_is_within (P := P) (w := w) (K := K) (base := base) G sb O_is_integer T_is_within
  have O_is_clock_value := o_is_clock_value (P := P) (w := w) (K := K) (base := base) G sb O_is_within T_is_clock_value
  have O_want_clock := o_want_clock (P := P) (w := w) (K := K) (base := base) G sb O_is_clock_value T_want_clock
  have O_common_of := o_common_of (P := P) (w := w) (K := K) (base := base) G sb  T_common_of
  have O_parts_of := o_parts_of (P := P) (w := w) (K := K) (base := base) G sb  T_parts_of
  have O_sign_at := o_sign_at (P := P) (w := w) (K := K) (base := base) G sb O_parts_of T_sign_at
  have O_power_of := o_power_of (P := P) (w := w) (K := K) (base := base) G sb  T_power_of
  have O_divisors_of := o_divisors_of (P := P) (w := w) (K := K) (base := base) G sb O_parts_of O_power_of T_divisors_of
  have O_unit_sum_of := o_unit_sum_of (P := P) (w := w) (K := K) (base := base) G sb O_common_of O_divisors_of O_sign_at T_unit_sum_of
  have O_unit_sums := o_unit_sums (P := P) (w := w) (K := K) (base := base) G sb O_want_clock O_unit_sum_of T_unit_sums
  have O__law_parts := o__law_parts (P := P) (w := w) (K := K) (base := base) G sb  T__law_parts
  have O__law_sign := o__law_sign (P := P) (w := w) (K := K) (base := base) G sb O__law_parts T__law_sign
  have O__law_divisors := o__law_divisors (P := P) (w := w) (K := K) (base := base) G sb  T__law_divisors
  have O__law_unit_sum := o__law_unit_sum (P := P) (w := w) (K := K) (base := base) G sb O__law_divisors O__law_sign T__law_unit_sum
  have O__law_common := o__law_common (P := P) (w := w) (K := K) (base := base) G sb  T__law_common
  have O__law_many_units := o__law_many_units (P := P) (w := w) (K := K) (base := base) G sb O__law_common T__law_many_units
  have O_want_hour := o_want_hour (P := P) (w := w) (K := K) (base := base) G sb O_is_within T_want_hour
  have O_unit_sum := o_unit_sum (P := P) (w := w) (K := K) (base := base) G sb O_want_clock O_want_hour O_unit_sum_of T_unit_sum
  have O__law_clock_right := o__law_clock_right (P := P) (w := w) (K := K) (base := base) G sb O__law_unit_sum O_unit_sums O__law_draw O__law_common O_unit_sum O__law_many_units O__law_sign O__law_pick O__law_divisors T__law_clock_right
  have O_at_power := o_at_power (P := P) (w := w) (K := K) (base := base) G sb O_power_of T_at_power
  have O_known_of := o_known_of (P := P) (w := w) (K := K) (base := base) G sb O_parts_of O_at_power T_known_of
  have O_common_sum := o_common_sum (P := P) (w := w) (K := K) (base := base) G sb O_want_clock O_divisors_of O_known_of T_common_sum
  have O_is_unit_of := o_is_unit_of (P := P) (w := w) (K := K) (base := base) G sb O_common_of T_is_unit_of
  have O_unit_common_sum := o_unit_common_sum (P := P) (w := w) (K := K) (base := base) G sb O_want_clock O_is_unit_of O_common_of T_unit_common_sum
  have O__law_common_right := o__law_common_right (P := P) (w := w) (K := K) (base := base) G sb O__law_common O_common_sum O_unit_common_sum O__law_divisors T__law_common_right
  have O__law_apart_right := o__law_apart_right (P := P) (w := w) (K := K) (base := base) G sb O__law_draw O__law_common O_unit_sum O_common_sum O_unit_common_sum T__law_apart_right
  have O_want_word := o_want_word (P := P) (w := w) (K := K) (base := base) G sb  T_want_word
  have O_is_number_value := o_is_number_value (P := P) (w := w) (K := K) (base := base) G sb O_is_within T_is_number_value
  have O_want_number := o_want_number (P := P) (w := w) (K := K) (base := base) G sb O_is_number_value T_want_number
  have O_known_at := o_known_at (P := P) (w := w) (K := K) (base := base) G sb O_want_word O_want_number O_known_of T_known_at
  have O__law_great_right := o__law_great_right (P := P) (w := w) (K := K) (base := base) G sb O__law_pick O__law_draw O_known_at O_unit_sum O_unit_common_sum O__law_common O_common_sum T__law_great_right
  have O__law_right := o__law_right (P := P) (w := w) (K := K) (base := base) G sb O__law_pick O__law_draw O__law_clock_right O__law_common_right O__law_apart_right O__law_great_right T__law_right
  have O__law_pot := o__law_pot (P := P) (w := w) (K := K) (base := base) G sb  T__law_pot
  have O_law := o_law (P := P) (w := w) (K := K) (base := base) G sb O__law_right O__law_pot T_law
  exact O_law
end
end K96
namespace K96
open PySem L2 DI
/-! ### draws -/
def potA (c : Int) : Int := if c - 1000000000000000000 > 0 then c - 1000000000000000000 else 0
def potB (c k : Int) : Int := (c % 2147483549 * 40692 + 3019 * k + 2011) % 2147483563 + 1
theorem pot_ok (ns : List Int) (k : Int) (hk : 0 ≤ k) : ∃ a b, 0 ≤ a ∧ c__law_pot [.scr ns, .int k] [] = .ok (.new [.int a, .int b]) [] := by
  have pa : ∀ c, 0 ≤ potA c := fun c => by unfold potA; split <;> omega
  by_cases h : k < ns.length
  · have hi : k.toNat < ns.length := by omega
    have e : atI (ns.map D.int) k = some (.int ns[k.toNat]) := by
      simp [atI, ixN, hk, h, hi]
    by_cases hn : ns[k.toNat] < 0
    · refine ⟨potA (-ns[k.toNat]), potB (-ns[k.toNat]) k, pa _, ?_⟩
      simp [c__law_pot, b__law_pot, eC, eNo, eVar, eNil, eCons, eLst, eTup, eBin, eNeg, ofB, eCmp, eChain, eAnd, eOr, eNot, eIf, eGet, pNone, pSome, eSlice, eRev, eBlt, eIsi, eOwn, eOwnK, eDct, wSeq, wRng1, wRng2, wEnum, wZip, gVar, gNilE, gConsE, gTupE, gSubE, eComp, tVal, tYesE, tAndE, tOrE, tNotE, sNext, sSeq, sRet, sIf, sAsg, sPar, sDrop, sApp, sExt, sFor, O.bind, O.calm, DI.settle, ofRes, runF, bAbs, bInt, bMax, bLen, one1, lenD, seqOf, DI.listOf, cmpD, binD, addD, mulD, getD, mulOk, powOk, retF, cellL, frzAll, frzD, D.low, cleanS, LINE, h, e, hn, potA, potB]
    · refine ⟨potA (ns[k.toNat]), potB (ns[k.toNat]) k, pa _, ?_⟩
      simp [c__law_pot, b__law_pot, eC, eNo, eVar, eNil, eCons, eLst, eTup, eBin, eNeg, ofB, eCmp, eChain, eAnd, eOr, eNot, eIf, eGet, pNone, pSome, eSlice, eRev, eBlt, eIsi, eOwn, eOwnK, eDct, wSeq, wRng1, wRng2, wEnum, wZip, gVar, gNilE, gConsE, gTupE, gSubE, eComp, tVal, tYesE, tAndE, tOrE, tNotE, sNext, sSeq, sRet, sIf, sAsg, sPar, sDrop, sApp, sExt, sFor, O.bind, O.calm, DI.settle, ofRes, runF, bAbs, bInt, bMax, bLen, one1, lenD, seqOf, DI.listOf, cmpD, binD, addD, mulD, getD, mulOk, powOk, retF, cellL, frzAll, frzD, D.low, cleanS, LINE, h, e, hn, potA, potB]
  · refine ⟨potA (3019 * k + 2711), potB (3019 * k + 2711) k, pa _, ?_⟩
    simp [c__law_pot, b__law_pot, eC, eNo, eVar, eNil, eCons, eLst, eTup, eBin, eNeg, ofB, eCmp, eChain, eAnd, eOr, eNot, eIf, eGet, pNone, pSome, eSlice, eRev, eBlt, eIsi, eOwn, eOwnK, eDct, wSeq, wRng1, wRng2, wEnum, wZip, gVar, gNilE, gConsE, gTupE, gSubE, eComp, tVal, tYesE, tAndE, tOrE, tNotE, sNext, sSeq, sRet, sIf, sAsg, sPar, sDrop, sApp, sExt, sFor, O.bind, O.calm, DI.settle, ofRes, runF, bAbs, bInt, bMax, bLen, one1, lenD, seqOf, DI.listOf, cmpD, binD, addD, mulD, getD, mulOk, powOk, retF, cellL, frzAll, frzD, D.low, cleanS, LINE, h, potA, potB]
theorem draw_ok (a b m : Int) (ha : 0 ≤ a) (hm : 0 < m) (hm2 : m < 1073741824) : ∃ v a' b', 0 ≤ a' ∧ 0 ≤ v ∧ v < m ∧ c__law_draw [.cel 0, .int m] [some (.lst [.int a, .int b])] = .ok (.d (.int v)) [some (.lst [.int a', .int b'])] := by
  by_cases h : 0 < a
  · refine ⟨a % m, a / m, b, ?_, ?_, ?_, ?_⟩
    · exact Int.ediv_nonneg ha (by omega)
    · exact Int.emod_nonneg _ (by omega)
    · exact Int.emod_lt_of_pos _ hm
    · simp [c__law_draw, b__law_draw, eC, eNo, eVar, eNil, eCons, eLst, eTup, eBin, eNeg, ofB, eCmp, eChain, eAnd, eOr, eNot, eIf, eGet, pNone, pSome, eSlice, eRev, eBlt, eIsi, eOwn, eOwnK, eDct, wSeq, wRng1, wRng2, wEnum, wZip, gVar, gNilE, gConsE, gTupE, gSubE, eComp, tVal, tYesE, tAndE, tOrE, tNotE, sNext, sSeq, sRet, sIf, sAsg, sPar, sDrop, sApp, sExt, sFor, O.bind, O.calm, DI.settle, ofRes, binD, addD, mulD, cmpD, bLen, bAbs, bInt, bMax, bMin, bDivmod, bSum, bAll, bAny, bSorted, bList, bTuple, bRepr, one1, withInts, withBls, lenD, seqOf, DI.listOf, getD, setD, inKey, tyOf, tyName, isInst, isSub, D.low, lowL, lowC, cleanC, frzD, frzAll, retF, cleanS, cellL, cellK, runF, celsOf, flat, renum, nodupB, subS, putS, backR, frame, keepSrc, srcSame, srcOf, D.same, sameL, atI, ixN, h, hm, hm2]
  · have e1 : (((b * 40014 + 2011) % 2147483587)).natAbs < 18446744073709551616 := by omega
    refine ⟨((b * 40014 + 2011) % 2147483587 * ((b * 40014 + 2011) % 2147483587)) % 2147483549 / 17 % m, a, (b * 40014 + 2011) % 2147483587, ha, ?_, ?_, ?_⟩
    rotate_left 2
    · simp [c__law_draw, b__law_draw, eC, eNo, eVar, eNil, eCons, eLst, eTup, eBin, eNeg, ofB, eCmp, eChain, eAnd, eOr, eNot, eIf, eGet, pNone, pSome, eSlice, eRev, eBlt, eIsi, eOwn, eOwnK, eDct, wSeq, wRng1, wRng2, wEnum, wZip, gVar, gNilE, gConsE, gTupE, gSubE, eComp, tVal, tYesE, tAndE, tOrE, tNotE, sNext, sSeq, sRet, sIf, sAsg, sPar, sDrop, sApp, sExt, sFor, O.bind, O.calm, DI.settle, ofRes, binD, addD, mulD, cmpD, bLen, bAbs, bInt, bMax, bMin, bDivmod, bSum, bAll, bAny, bSorted, bList, bTuple, bRepr, one1, withInts, withBls, lenD, seqOf, DI.listOf, getD, setD, inKey, tyOf, tyName, isInst, isSub, D.low, lowL, lowC, cleanC, frzD, frzAll, retF, cleanS, cellL, cellK, runF, celsOf, flat, renum, nodupB, subS, putS, backR, frame, keepSrc, srcSame, srcOf, D.same, sameL, atI, ixN, h, hm, hm2, mulOk, divOk, e1]
    · exact Int.emod_nonneg _ (by omega)
    · exact Int.emod_lt_of_pos _ hm
/-- a draw, in any store that has the pot -/
theorem draw_fr (a b m : Int) (ha : 0 ≤ a) (hm : 0 < m) (hm2 : m < 1073741824) : ∃ v a' b', 0 ≤ a' ∧ 0 ≤ v ∧ v < m ∧ ∀ (T : Store), frame c__law_draw [.cel 0, .int m] (pot a b :: T) = .ok (.d (.int v)) (pot a' b' :: T) := by
  obtain ⟨v, a', b', h1, h2, h3, e⟩ := draw_ok a b m ha hm hm2
  exact ⟨v, a', b', h1, h2, h3, fun T => (frame1 rfl rfl rfl rfl e rfl rfl).trans rfl⟩
theorem pick_ok (a b : Int) (ds : List D) (ha : 0 ≤ a) (h0 : ds ≠ []) (hl : ds.length < 1073741824) (hw : lowL 0 ds = true) : ∃ d a' b', 0 ≤ a' ∧ d ∈ ds ∧ c__law_pick [.cel 0, .lst ds] [pot a b] = .ok (.d d) [pot a' b'] := by
  have hp : 0 < ds.length := List.length_pos_iff.mpr h0
  obtain ⟨v, a', b', ha', h1, h2, e⟩ := draw_ok a b ds.length ha (by omega) (by omega)
  have hv : v.toNat < ds.length := by omega
  have e2 : frame c__law_draw [.cel 0, .int ds.length] [pot a b] = .ok (.d (.int v)) [pot a' b'] := frame1 rfl rfl rfl rfl e rfl rfl
  have e3 : atI ds v = some ds[v.toNat] := by simp [atI, ixN, h1, h2, hv]
  have hm : ds[v.toNat] ∈ ds := List.getElem_mem hv
  refine ⟨ds[v.toNat], a', b', ha', hm, ?_⟩
  have hlow := lowL_mem hw _ hm
  have hr : retF 1 ds[v.toNat] [pot a' b'] = .ok (.d ds[v.toNat]) [pot a' b'] := by rw [retF_low hlow]; rfl
  simp [c__law_pick, b__law_pick, eC, eNo, eVar, eNil, eCons, eLst, eTup, eBin, eNeg, ofB, eCmp, eChain, eAnd, eOr, eNot, eIf, eGet, pNone, pSome, eSlice, eRev, eBlt, eIsi, eOwn, eOwnK, eDct, wSeq, wRng1, wRng2, wEnum, wZip, gVar, gNilE, gConsE, gTupE, gSubE, eComp, tVal, tYesE, tAndE, tOrE, tNotE, sNext, sSeq, sRet, sIf, sAsg, sPar, sDrop, sApp, sExt, sFor, O.bind, O.calm, DI.settle, ofRes, runF, bLen, one1, lenD, seqOf, DI.listOf, getD, e2, e3, hr]
/-- a pick from ints -/
theorem pick_fr (a b : Int) (ns : List Int) (ha : 0 ≤ a) (h0 : ns ≠ []) (hl : ns.length < 1000000) : ∃ n a' b', 0 ≤ a' ∧ n ∈ ns ∧ ∀ (T : Store), frame c__law_pick [.cel 0, .lst (ns.map .int)] (pot a b :: T) = .ok (.d (.int n)) (pot a' b' :: T) := by
  obtain ⟨d, a', b', h1, h2, e⟩ := pick_ok a b (ns.map .int) ha (by simpa using h0) (by rw [List.length_map]; omega) (lowL_ints 0 ns)
  obtain ⟨n, hn, rfl⟩ := List.mem_map.mp h2
  exact ⟨n, a', b', h1, hn, fun T => (frame1 rfl rfl rfl (by rw [List.all_cons, flat_ints]; rfl) e rfl rfl).trans rfl⟩
/-! ### the pots of a script -/
def Good (S : Store) : Prop := ∀ (i : Nat) c, S[i]? = some c → ∃ a b, 0 ≤ a ∧ c = pot a b
theorem Good.add {S : Store} (h : Good S) {a b : Int} (ha : 0 ≤ a) : Good (S ++ [pot a b]) := fun i c e => by
  by_cases hi : i < S.length
  · rw [List.getElem?_append_left hi] at e; exact h i c e
  · rw [List.getElem?_append_right (by omega)] at e
    cases hj : i - S.length with
    | zero => rw [hj] at e; cases e; exact ⟨a, b, ha, rfl⟩
    | succ j => rw [hj] at e; simp at e
theorem Good.set {S : Store} (h : Good S) {a b : Int} (ha : 0 ≤ a) (n : Nat) : Good (S.set n (pot a b)) := fun i c e => by
  by_cases hi : n = i
  · subst hi
    by_cases hl : n < S.length
    · rw [List.getElem?_set_self hl] at e; cases e; exact ⟨a, b, ha, rfl⟩
    · rw [List.getElem?_eq_none (by simpa using hl)] at e; cases e
  · rw [List.getElem?_set_ne hi] at e; exact h i c e
/-! ### parts of a number -/
def stripP (p n : Nat) (s : Nat × Nat) : Option (Nat × Nat) := whileP (fun s => s.1 % p == 0) (fun s => (s.1 / p, s.2 + 1)) n s
abbrev PS3 := Nat × Nat × List (Nat × Nat)
def partC (s : PS3) : Bool := decide (s.2.1 * s.2.1 ≤ s.1)
def partF (s : PS3) : PS3 := let r := (stripP s.2.1 (s.1 + 1) (s.1, 0)).getD (s.1, 0); (r.1, s.2.1 + 1, s.2.2 ++ if 0 < r.2 then [(s.2.1, r.2)] else [])
def partsL (n : Nat) : List (Nat × Nat) := match whileP partC partF (n + 2) (n, 2, []) with
  | some s => s.2.2 ++ if 1 < s.1 then [(s.1, 1)] else []
  | none => []
def pairD (q : Nat × Nat) : D := .tup [.int q.1, .int q.2]
theorem low_pairs (xs : List (Nat × Nat)) : lowL 0 (xs.map pairD) = true := by
  induction xs with
  | nil => rfl
  | cons x r ih => show (true && lowL 0 (r.map pairD)) = true; rw [ih]; rfl
theorem strip_some {p l : Nat} (hp : 2 ≤ p) (hl : 1 ≤ l) : ∃ r, stripP p (l + 1) (l, 0) = some r ∧ 1 ≤ r.1 ∧ r.1 ≤ l ∧ r.2 ≤ l := by
  obtain ⟨r, h1, ⟨h2, h3, h4⟩, _⟩ := whileP_some (c := fun s : Nat × Nat => s.1 % p == 0) (f := fun s => (s.1 / p, s.2 + 1)) (fun s => s.1) (fun s => 1 ≤ s.1 ∧ s.1 ≤ l ∧ s.2 + s.1 ≤ l) (fun s ⟨i1, i2, i3⟩ hc => by
    have hc : s.1 % p = 0 := by simpa using hc
    have hd := Nat.div_add_mod s.1 p
    rw [hc] at hd
    have h1 : 1 ≤ s.1 / p := by
      rcases Nat.eq_zero_or_pos (s.1 / p) with z | z
      · rw [z] at hd; omega
      · exact z
    have h2 : 2 * (s.1 / p) ≤ s.1 := by
      have := Nat.mul_le_mul_right (s.1 / p) hp
      omega
    refine ⟨⟨h1, ?_, ?_⟩, ?_⟩
    · show s.1 / p ≤ l
      omega
    · show s.2 + 1 + s.1 / p ≤ l
      omega
    · show s.1 / p < s.1
      omega) (l + 1) (l, 0) ⟨hl, Nat.le_refl _, by omega⟩ (Nat.lt_succ_self _)
  exact ⟨r, h1, h2, h3, by omega⟩
theorem parts_some {n : Nat} (hn : 1 ≤ n) : ∃ s, whileP partC partF (n + 2) (n, 2, []) = some s ∧ 1 ≤ s.1 := by
  obtain ⟨s, h1, ⟨h2, _⟩, _⟩ := whileP_some (c := partC) (f := partF) (fun s => s.1 + 1 - s.2.1) (fun s => 1 ≤ s.1 ∧ 2 ≤ s.2.1) (fun s ⟨i1, i2⟩ hc => by
    have hc : s.2.1 * s.2.1 ≤ s.1 := of_decide_eq_true hc
    obtain ⟨r, e, r1, r2, r3⟩ := strip_some i2 i1
    have ef : partF s = (r.1, s.2.1 + 1, s.2.2 ++ if 0 < r.2 then [(s.2.1, r.2)] else []) := by unfold partF; rw [e]; rfl
    have : s.2.1 ≤ s.2.1 * s.2.1 := Nat.le_mul_of_pos_left _ (by omega)
    rw [ef]
    refine ⟨⟨r1, ?_⟩, ?_⟩
    · show 2 ≤ s.2.1 + 1; omega
    · show r.1 + 1 - (s.2.1 + 1) < s.1 + 1 - s.2.1
      omega) (n + 2) (n, 2, []) ⟨hn, Nat.le_refl _⟩ (by show n + 1 - 2 < n + 2; omega)
  exact ⟨s, h1, h2⟩
theorem parts_ok {n : Nat} (hn : 1 ≤ n) (hb : n ≤ 1000000000) : c_parts_of [.int n] [] = .ok (.new ((partsL n).map pairD)) [] := by
  obtain ⟨s, hs, hs1⟩ := parts_some hn
  have key := sWhile_to (c := partC) (f := partF) (n := n + 2) (s := (n, 2, [])) (s' := s) (t := (tVal (eCmp .LtE (eBin false .Mult (eVar 3) (eVar 3)) (eVar 2)))) (b := (sSeq (sAsg (eC (.int 0)) (gVar 4)) (sSeq (sWhile (tVal (eCmp .Eq (eBin false .Mod (eVar 2) (eVar 3)) (eC (.int 0)))) (sSeq (sPar (eCons (eBin false .FloorDiv (eVar 2) (eVar 3)) (eCons (eBin false .Add (eVar 4) (eC (.int 1))) (eNil))) (gConsE (gVar 2) (gConsE (gVar 4) (gNilE)))) (sNext))) (sSeq (sExt (eVar 1) (eIf (tVal (eCmp .Gt (eVar 4) (eC (.int 0)))) (eLst false (eCons (eTup (eCons (eVar 3) (eCons (eVar 4) (eNil)))) (eNil))) (eLst false (eNil)))) (sSeq (sAsg (eBin false .Add (eVar 3) (eC (.int 1))) (gVar 3)) (sNext))))))
    (fun s ρ S => ∃ v, ρ = [some (.int n), some (.cel 0), some (.int s.1), some (.int s.2.1), v] ∧ S = [some (.lst (s.2.2.map pairD))] ∧ 1 ≤ s.1 ∧ s.1 ≤ n ∧ 2 ≤ s.2.1 ∧ s.2.1 ≤ 40000 ∧ s.2.2.length ≤ s.2.1) (ρ := [some (.int n), some (.cel 0), some (.int n), some (.int 2), none]) (S := [some (.lst [])]) (by omega) hs ⟨none, rfl, rfl, hn, Nat.le_refl _, Nat.le_refl _, (by decide : (2 : Nat) ≤ 40000), by simp⟩ (fun s ρ S ⟨v, h1, h2, h3, h4, h5, h6, h7⟩ => by
      subst h1 h2
      have hm : mulOk s.2.1 s.2.1 = true := by unfold mulOk; simp only [Bool.or_eq_true, decide_eq_true_eq]; exact .inl (by omega)
      refine tVal_ok (eCmp_ok ((eBin_ok (var_ok rfl) (var_ok rfl) (r := .d (.int ((s.2.1 : Int) * s.2.1))) (by simp [binD, mulD, hm])).trans rfl) (var_ok rfl) ?_)
      show some (decide ((s.2.1 : Int) * s.2.1 ≤ s.1)) = some (partC s)
      unfold partC
      congr 1
      rw [decide_eq_decide]
      omega) (fun s ρ S ⟨v, h1, h2, h3, h4, h5, h6, h7⟩ hc => by
      subst h1 h2
      have hc : s.2.1 * s.2.1 ≤ s.1 := of_decide_eq_true hc
      have h40 : s.2.1 < 40000 := by
        rcases Nat.lt_or_ge s.2.1 40000 with z | z
        · exact z
        · have := Nat.mul_le_mul z z
          omega
      obtain ⟨r, er, r1, r2, r3⟩ := strip_some h5 h3
      have ef : partF s = (r.1, s.2.1 + 1, s.2.2 ++ if 0 < r.2 then [(s.2.1, r.2)] else []) := by unfold partF; rw [er]; rfl
      obtain ⟨ρ2, S2, e2, hρ2, hS2⟩ := sWhile_to (c := fun q : Nat × Nat => q.1 % s.2.1 == 0) (f := fun q => (q.1 / s.2.1, q.2 + 1)) (n := s.1 + 1) (s := (s.1, 0)) (s' := r) (t := (tVal (eCmp .Eq (eBin false .Mod (eVar 2) (eVar 3)) (eC (.int 0))))) (b := (sSeq (sPar (eCons (eBin false .FloorDiv (eVar 2) (eVar 3)) (eCons (eBin false .Add (eVar 4) (eC (.int 1))) (eNil))) (gConsE (gVar 2) (gConsE (gVar 4) (gNilE)))) (sNext)))
        (fun q ρ S => ρ = [some (.int n), some (.cel 0), some (.int q.1), some (.int s.2.1), some (.int q.2)] ∧ S = [some (.lst (s.2.2.map pairD))]) (ρ := [some (.int n), some (.cel 0), some (.int s.1), some (.int s.2.1), some (.int 0)]) (S := [some (.lst (s.2.2.map pairD))]) (by omega) er ⟨rfl, rfl⟩ (fun q ρ S ⟨g1, g2⟩ => by
          subst g1 g2
          have hp : (0 : Int) < s.2.1 := by omega
          have hp0 : ¬ s.2.1 = 0 := by omega
          refine tVal_ok (eCmp_ok ((eBin_ok (var_ok rfl) (var_ok rfl) (r := .d (.int (((q.1 % s.2.1 : Nat)) : Int))) (by simp [binD, hp, hp0])).trans rfl) (e := .int 0) rfl ?_)
          rw [cmp_eq eqvD_ints]
          congr 1
          rw [Bool.eq_iff_iff]
          simp
          omega) (fun q ρ S ⟨g1, g2⟩ _ => by
          subst g1 g2
          have hp : divOk s.2.1 = true := by
            unfold divOk; simp only [Bool.and_eq_true, decide_eq_true_eq]; omega
          refine ⟨_, _, (par_nx (ds := [.int ((q.1 / s.2.1 : Nat) : Int), .int ((q.2 : Int) + 1)]) (two_ok ((eBin_ok (var_ok rfl) (var_ok rfl) (r := .d (.int ((q.1 / s.2.1 : Nat) : Int))) (by simp [binD, hp])).trans rfl) ((eBin_ok (var_ok rfl) (e := .int 1) rfl (r := .d (.int ((q.2 : Int) + 1))) rfl).trans rfl)) rfl).trans rfl, rfl, rfl⟩)
      subst hρ2 hS2
      have ht : (r.2 : Int) > 0 ∨ ¬ (r.2 : Int) > 0 := by omega
      refine ⟨[some (.int n), some (.cel 0), some (.int r.1), some (.int ((s.2.1 : Int) + 1)), some (.int r.2)], [some (.lst ((s.2.2 ++ if 0 < r.2 then [(s.2.1, r.2)] else []).map pairD))], ?_, ?_⟩
      · refine (asg_nx (d := .int 0) rfl).trans ((seq_nx e2).trans ?_)
        have hlen : (s.2.2.map pairD).length ≤ 40000 := by rw [List.length_map]; omega
        by_cases h0 : 0 < r.2
        · have h0' : (0 : Int) < r.2 := by omega
          refine (ext_nx (d := .lst [pairD (s.2.1, r.2)]) (zs := [pairD (s.2.1, r.2)]) (ys := s.2.2.map pairD) (xs := s.2.2.map pairD) (S1 := [some (.lst (s.2.2.map pairD))]) (S2 := [some (.lst (s.2.2.map pairD))]) (var_ok rfl) rfl ?_ rfl rfl rfl ?_).trans ?_
          · rw [sIfE_t (S1 := [some (.lst (s.2.2.map pairD))]) (by simp [tVal, eCmp, eVar, eC, O.bind, cmpD, ofB, h0', h0])]
            rfl
          · show (s.2.2.map pairD).length + 1 ≤ LINE
            unfold LINE; omega
          · rw [if_pos h0, List.map_append]
            rfl
        · have h0' : ¬ (0 : Int) < r.2 := by omega
          refine (ext_nx (d := .lst []) (zs := []) (ys := s.2.2.map pairD) (xs := s.2.2.map pairD) (S1 := [some (.lst (s.2.2.map pairD))]) (S2 := [some (.lst (s.2.2.map pairD))]) (var_ok rfl) rfl ?_ rfl rfl rfl ?_).trans ?_
          · rw [sIfE_f (S1 := [some (.lst (s.2.2.map pairD))]) (by simp [tVal, eCmp, eVar, eC, O.bind, cmpD, ofB, h0', h0])]
            rfl
          · show (s.2.2.map pairD).length + 0 ≤ LINE
            unfold LINE; omega
          · rw [if_neg h0, List.append_nil, List.append_nil]
            rfl
      · rw [ef]
        refine ⟨_, rfl, rfl, r1, by show r.1 ≤ n; omega, by show 2 ≤ s.2.1 + 1; omega, ?_, ?_⟩
        · show s.2.1 + 1 ≤ 40000; omega
        · show (s.2.2 ++ _).length ≤ s.2.1 + 1
          rw [List.length_append]
          split <;> simp <;> omega)
  obtain ⟨ρ', S', e, v, g1, g2, g3, g4, g5, g6, g7⟩ := key
  subst g1 g2
  have hL : partsL n = s.2.2 ++ if 1 < s.1 then [(s.1, 1)] else [] := by unfold partsL; rw [hs]
  refine runF_rt (d := .cel 0) (S1 := [some (.lst ((partsL n).map pairD))]) rfl ?_ ((retF_new (Nat.zero_le _) rfl (low_pairs _)).trans rfl)
  unfold b_parts_of
  refine (par_nx (ds := [.cel 0, .int n, .int 2]) (S1 := [some (.lst [])]) rfl rfl).trans ((seq_nx e).trans ?_)
  have hlen : (s.2.2.map pairD).length ≤ 40000 := by rw [List.length_map]; omega
  by_cases h0 : 1 < s.1
  · have h0' : (1 : Int) < s.1 := by omega
    refine (ext_nx (d := .lst [pairD (s.1, 1)]) (zs := [pairD (s.1, 1)]) (ys := s.2.2.map pairD) (xs := s.2.2.map pairD) (S1 := [some (.lst (s.2.2.map pairD))]) (S2 := [some (.lst (s.2.2.map pairD))]) (var_ok rfl) rfl ?_ rfl rfl rfl ?_).trans ?_
    · rw [sIfE_t (S1 := [some (.lst (s.2.2.map pairD))]) (by simp [tVal, eCmp, eVar, eC, O.bind, cmpD, ofB, h0', h0])]
      rfl
    · show (s.2.2.map pairD).length + 1 ≤ LINE
      unfold LINE; omega
    · rw [hL, if_pos h0, List.map_append]
      exact ret_rt (var_ok rfl)
  · have h0' : ¬ (1 : Int) < s.1 := by omega
    refine (ext_nx (d := .lst []) (zs := []) (ys := s.2.2.map pairD) (xs := s.2.2.map pairD) (S1 := [some (.lst (s.2.2.map pairD))]) (S2 := [some (.lst (s.2.2.map pairD))]) (var_ok rfl) rfl ?_ rfl rfl rfl ?_).trans ?_
    · rw [sIfE_f (S1 := [some (.lst (s.2.2.map pairD))]) (by simp [tVal, eCmp, eVar, eC, O.bind, cmpD, ofB, h0', h0])]
      rfl
    · show (s.2.2.map pairD).length + 0 ≤ LINE
      unfold LINE; omega
    · rw [hL, if_neg h0, List.append_nil, List.append_nil]
      exact ret_rt (var_ok rfl)
/-! ### what the parts are -/
def prodP : List (Nat × Nat) → Nat
  | [] => 1
  | q :: r => q.1 ^ q.2 * prodP r
theorem prodP_app : ∀ xs ys, prodP (xs ++ ys) = prodP xs * prodP ys
  | [], ys => by show prodP ys = 1 * prodP ys; rw [Nat.one_mul]
  | q :: r, ys => by show q.1 ^ q.2 * prodP (r ++ ys) = q.1 ^ q.2 * prodP r * prodP ys; rw [prodP_app r ys, Nat.mul_assoc]
theorem strip_prod {p l : Nat} (hp : 2 ≤ p) (hl : 1 ≤ l) {r : Nat × Nat} (h : stripP p (l + 1) (l, 0) = some r) : r.1 * p ^ r.2 = l ∧ r.1 % p ≠ 0 := by
  obtain ⟨r', h1, h2, h3⟩ := whileP_some (c := fun s : Nat × Nat => s.1 % p == 0) (f := fun s => (s.1 / p, s.2 + 1)) (fun s => s.1) (fun s => 1 ≤ s.1 ∧ s.1 * p ^ s.2 = l) (fun s ⟨i1, i2⟩ hc => by
    have hc : s.1 % p = 0 := by simpa using hc
    have hd := Nat.div_add_mod s.1 p
    rw [hc, Nat.add_zero] at hd
    have h1 : 1 ≤ s.1 / p := by
      rcases Nat.eq_zero_or_pos (s.1 / p) with z | z
      · rw [z] at hd; omega
      · exact z
    refine ⟨⟨h1, ?_⟩, ?_⟩
    · show s.1 / p * p ^ (s.2 + 1) = l
      rw [Nat.pow_succ, Nat.mul_comm (p ^ s.2) p, ← Nat.mul_assoc, Nat.mul_comm (s.1 / p) p, hd, i2]
    · show s.1 / p < s.1
      exact Nat.div_lt_self (by omega) hp) (l + 1) (l, 0) ⟨hl, by simp⟩ (Nat.lt_succ_self _)
  unfold stripP at h
  rw [h] at h1
  cases h1
  exact ⟨h2.2, by simpa using h3⟩
theorem parts_inv {n : Nat} (hn : 1 ≤ n) : ∃ s, whileP partC partF (n + 2) (n, 2, []) = some s ∧ 1 ≤ s.1 ∧ prodP s.2.2 * s.1 = n ∧ (∀ q ∈ s.2.2, 2 ≤ q.1 ∧ 1 ≤ q.2) := by
  obtain ⟨s, h1, ⟨h2, _, h4, h5⟩, _⟩ := whileP_some (c := partC) (f := partF) (fun s => s.1 + 1 - s.2.1) (fun s => 1 ≤ s.1 ∧ 2 ≤ s.2.1 ∧ prodP s.2.2 * s.1 = n ∧ (∀ q ∈ s.2.2, 2 ≤ q.1 ∧ 1 ≤ q.2)) (fun s ⟨i1, i2, i3, i4⟩ hc => by
    have hc : s.2.1 * s.2.1 ≤ s.1 := of_decide_eq_true hc
    obtain ⟨r, e, r1, r2, r3⟩ := strip_some i2 i1
    obtain ⟨e1, _⟩ := strip_prod i2 i1 e
    have ef : partF s = (r.1, s.2.1 + 1, s.2.2 ++ if 0 < r.2 then [(s.2.1, r.2)] else []) := by unfold partF; rw [e]; rfl
    have : s.2.1 ≤ s.2.1 * s.2.1 := Nat.le_mul_of_pos_left _ (by omega)
    rw [ef]
    refine ⟨⟨r1, ?_, ?_, ?_⟩, ?_⟩
    · show 2 ≤ s.2.1 + 1; omega
    · show prodP (s.2.2 ++ _) * r.1 = n
      rw [prodP_app]
      by_cases h0 : 0 < r.2
      · rw [if_pos h0]
        show prodP s.2.2 * (s.2.1 ^ r.2 * 1) * r.1 = n
        rw [Nat.mul_one, Nat.mul_assoc, Nat.mul_comm (s.2.1 ^ r.2), e1, i3]
      · rw [if_neg h0]
        have : r.2 = 0 := by omega
        rw [this, Nat.pow_zero, Nat.mul_one] at e1
        show prodP s.2.2 * 1 * r.1 = n
        rw [Nat.mul_one, e1, i3]
    · intro q hq
      rcases List.mem_append.mp hq with hq | hq
      · exact i4 q hq
      · split at hq
        · rw [List.mem_singleton.mp hq]; exact ⟨i2, by assumption⟩
        · cases hq
    · show r.1 + 1 - (s.2.1 + 1) < s.1 + 1 - s.2.1
      omega) (n + 2) (n, 2, []) ⟨hn, Nat.le_refl _, by show 1 * n = n; rw [Nat.one_mul], fun _ z => nomatch z⟩ (by show n + 1 - 2 < n + 2; omega)
  exact ⟨s, h1, h2, h4, h5⟩
theorem parts_prod {n : Nat} (hn : 1 ≤ n) : prodP (partsL n) = n ∧ ∀ q ∈ partsL n, 2 ≤ q.1 ∧ 1 ≤ q.2 := by
  obtain ⟨s, h1, h2, h3, h4⟩ := parts_inv hn
  have hL : partsL n = s.2.2 ++ if 1 < s.1 then [(s.1, 1)] else [] := by unfold partsL; rw [h1]
  rw [hL]
  by_cases h0 : 1 < s.1
  · rw [if_pos h0, prodP_app]
    refine ⟨?_, fun q hq => ?_⟩
    · show prodP s.2.2 * (s.1 ^ 1 * 1) = n
      rw [Nat.pow_one, Nat.mul_one, h3]
    · rcases List.mem_append.mp hq with hq | hq
      · exact h4 q hq
      · rw [List.mem_singleton.mp hq]; exact ⟨h0, Nat.le_refl _⟩
  · rw [if_neg h0, List.append_nil]
    have : s.1 = 1 := by omega
    rw [this, Nat.mul_one] at h3
    exact ⟨h3, h4⟩
theorem prodP_pos : ∀ {xs : List (Nat × Nat)}, (∀ q ∈ xs, 2 ≤ q.1 ∧ 1 ≤ q.2) → 1 ≤ prodP xs
  | [], _ => Nat.le_refl _
  | q :: r, h => by
    have h1 := prodP_pos fun x hx => h x (List.mem_cons_of_mem q hx)
    have h2 : 0 < q.1 ^ q.2 := Nat.pow_pos (by have := (h q List.mem_cons_self).1; omega)
    exact Nat.mul_pos h2 h1
theorem part_le {xs : List (Nat × Nat)} (h : ∀ q ∈ xs, 2 ≤ q.1 ∧ 1 ≤ q.2) : ∀ q ∈ xs, q.1 ^ q.2 ≤ prodP xs := by
  induction xs with
  | nil => exact fun _ z => nomatch z
  | cons x r ih =>
    intro q hq
    have h1 := prodP_pos fun y hy => h y (List.mem_cons_of_mem x hy)
    have h2 : 0 < x.1 ^ x.2 := Nat.pow_pos (by have := (h x List.mem_cons_self).1; omega)
    rcases List.mem_cons.mp hq with e | hq
    · rw [e]; exact Nat.le_mul_of_pos_right _ h1
    · exact Nat.le_trans (ih (fun y hy => h y (List.mem_cons_of_mem x hy)) q hq) (Nat.le_mul_of_pos_left _ h2)
theorem part_small {n : Nat} (hn : 1 ≤ n) {q : Nat × Nat} (hq : q ∈ partsL n) : 2 ≤ q.1 ∧ 1 ≤ q.2 ∧ q.1 ^ q.2 ≤ n ∧ q.1 ≤ n ∧ q.2 ≤ n := by
  obtain ⟨h1, h2⟩ := parts_prod hn
  have h3 := part_le h2 q hq
  rw [h1] at h3
  obtain ⟨a, b⟩ := h2 q hq
  refine ⟨a, b, h3, ?_, ?_⟩
  · exact Nat.le_trans (Nat.le_self_pow (by omega) _) h3
  · exact Nat.le_trans (Nat.le_of_lt (Nat.lt_pow_self (by omega))) h3
theorem power_ok {p t : Nat} (hp : p < 18446744073709551616) (ht : t ≤ 1000000) : c_power_of [.int p, .int t] [] = .ok (.d (.int ((p ^ t : Nat) : Int))) [] := by
  have hm : ∀ x : Int, mulOk x p = true := fun x => by unfold mulOk; simp only [Bool.or_eq_true, decide_eq_true_eq]; exact .inr (by omega)
  obtain ⟨ρ', S', e, v, h1, h2⟩ := sFor_inv (w := wRng1 (eVar 1)) (g := gVar 3) (b := (sSeq (sAsg (eBin false .Mult (eVar 2) (eVar 0)) (gVar 2)) (sNext))) (ρ := [some (.int p), some (.int t), some (.int 1), none]) (S := []) (I := fun i ρ S => ∃ v, ρ = [some (.int p), some (.int t), some (.int ((p ^ i : Nat) : Int)), v] ∧ S = []) (wRng1_ok (b := t) (var_ok rfl) (rngOk_small (by omega) (by omega) (by omega) (by omega))) ⟨none, rfl, rfl⟩ (fun i x ρ S hx ⟨v, g1, g2⟩ => by
    subst g1 g2
    obtain ⟨rfl, hi⟩ := rngL_get hx
    refine ⟨rfl, _, _, _, _, rfl, (asg_nx ((eBin_ok (var_ok rfl) (var_ok rfl) (r := .d (.int (((p ^ i : Nat) : Int) * p))) (by simp [binD, mulD, hm])).trans rfl)).trans rfl, some (.int (0 + i)), ?_, rfl⟩
    rw [Nat.pow_succ]
    rfl) (fun _ _ _ => rfl)
  subst h1 h2
  have hl : (rngL 0 (t : Int)).length = t := by rw [rngL_len]; omega
  refine runF_rt (d := .int ((p ^ t : Nat) : Int)) (S1 := []) rfl ?_ (retF_low rfl)
  unfold b_power_of
  refine (asg_nx (d := .int 1) rfl).trans ((seq_nx e).trans ?_)
  rw [hl]
  exact ret_rt (var_ok rfl)
end K96
namespace K96
open PySem L2 DI
theorem seq_list {S : Store} {d : D} {xs : List D} (h : DI.listOf S d = some xs) : seqOf S d = some xs := by
  cases d <;> first | exact h | cases h
theorem list_app {S T : Store} {d : D} {xs : List D} (h : DI.listOf S d = some xs) : DI.listOf (S ++ T) d = some xs := by
  cases d with
  | cel n =>
    have h : cellL S n = some xs := h
    have h2 := cellL_iff h
    show cellL (S ++ T) n = some xs
    unfold cellL
    rw [List.getElem?_append_left (List.getElem?_eq_some_iff.mp h2).1, h2]
  | _ => first | exact h | cases h
theorem src_self {S : Store} {d : D} {xs : List D} (h : DI.listOf S d = some xs) : srcSame S (srcOf d xs) = true := by
  cases d with
  | cel n =>
    have h : cellL S n = some xs := h
    show ((match cellL S n with | some ys => sameL ys xs | none => false) && true) = true
    rw [h]
    show (sameL xs xs && true) = true
    rw [sameL_self]; rfl
  | _ => rfl
/-! ### divisors -/
def nI (xs : List Nat) : List Int := List.map (fun x : Nat => (x : Int)) xs
def stepK (f : List Nat) (p k : Nat) : List Nat := f.map fun x => x * p ^ k
def stepD (f : List Nat) (q : Nat × Nat) : List Nat := (List.range (q.2 + 1)).flatMap fun k => stepK f q.1 k
def divN (n : Nat) : List Nat := (partsL n).foldl stepD [1]
theorem stepD_len (f : List Nat) (q : Nat × Nat) (j : Nat) : ((List.range j).flatMap fun k => stepK f q.1 k).length = j * f.length := by
  induction j with
  | zero => simp
  | succ j ih =>
    rw [List.range_succ, List.flatMap_append, List.length_append, ih]
    simp [stepK, Nat.add_mul]
theorem fold_len : ∀ (xs : List (Nat × Nat)) (f : List Nat), (∀ q ∈ xs, 2 ≤ q.1 ∧ 1 ≤ q.2) → (xs.foldl stepD f).length ≤ f.length * prodP xs
  | [], f, _ => by show f.length ≤ f.length * 1; omega
  | q :: r, f, h => by
    have h1 := fold_len r (stepD f q) fun x hx => h x (List.mem_cons_of_mem _ hx)
    have h2 : (stepD f q).length = (q.2 + 1) * f.length := stepD_len f q (q.2 + 1)
    obtain ⟨a, b⟩ := h q List.mem_cons_self
    have h3 : q.2 + 1 ≤ q.1 ^ q.2 := Nat.lt_of_lt_of_le Nat.lt_two_pow_self (Nat.pow_le_pow_left a _)
    show (r.foldl stepD (stepD f q)).length ≤ f.length * (q.1 ^ q.2 * prodP r)
    refine Nat.le_trans h1 ?_
    rw [h2, ← Nat.mul_assoc, Nat.mul_comm f.length]
    exact Nat.mul_le_mul_right _ (Nat.mul_le_mul_right _ h3)
theorem prodP_take (xs : List (Nat × Nat)) (h : ∀ q ∈ xs, 2 ≤ q.1 ∧ 1 ≤ q.2) (i : Nat) : prodP (xs.take i) ≤ prodP xs := by
  have e := prodP_app (xs.take i) (xs.drop i)
  rw [List.take_append_drop] at e
  rw [e]
  exact Nat.le_mul_of_pos_right _ (prodP_pos fun q hq => h q (List.mem_of_mem_drop hq))
theorem div_plain {n : Nat} (hn : 1 ≤ n) (hb : n ≤ 1000000) : c_divisors_of [.int n] [] = .ok (.new ((sortI (nI (divN n))).map .int)) [] := by
  obtain ⟨hP, hQ⟩ := parts_prod hn
  have hlen : ∀ i, (((partsL n).take i).foldl stepD [1]).length ≤ 1000000 := fun i => by
    have h1 := fold_len ((partsL n).take i) [1] fun q hq => hQ q (List.mem_of_mem_take hq)
    have h2 := prodP_take _ hQ i
    rw [hP] at h2
    simp only [List.length_singleton, Nat.one_mul] at h1
    omega
  have f0 : frame c_parts_of [.int n] [] = .ok (.new ((partsL n).map pairD)) [] := frame0 rfl rfl (parts_ok hn (by omega)) (by simp [backR, low_pairs])
  obtain ⟨ρ', S', e, d, a1, a2, a3, a4, g1, g2⟩ := sFor_inv (w := (wSeq (eOwn false (frame c_parts_of) (eCons (eVar 0) (eNil))))) (g := (gTupE 2 (gConsE (gVar 2) (gConsE (gVar 3) (gNilE))))) (b := (sSeq (sAsg (eLst true (eNil)) (gVar 4)) (sSeq (sFor (wRng1 (eBin false .Add (eVar 3) (eC (.int 1)))) (gVar 5) (sSeq (sExt (eVar 4) (eComp false (wSeq (eVar 1)) [6] (.one 6) (tYesE) (eBin false .Mult (eVar 6) (eOwn false (frame c_power_of) (eCons (eVar 2) (eCons (eVar 5) (eNil))))))) (sNext))) (sSeq (sAsg (eVar 4) (gVar 1)) (sNext)))))
    (ρ := [some (.int n), some (.lst [.int 1]), none, none, none, none, none]) (S := []) (xs := (partsL n).map pairD)
    (I := fun i ρ S => ∃ d a1 a2 a3 a4, ρ = [some (.int n), some d, a1, a2, a3, a4, none] ∧ DI.listOf S d = some ((nI (((partsL n).take i).foldl stepD [1])).map .int)) (wSeq_ok (d := .lst ((partsL n).map pairD)) (S1 := []) ((eOwn_ok (one_ok (var_ok rfl)) f0).trans rfl) rfl) ⟨_, _, _, _, _, rfl, rfl⟩ (fun i x ρ S hx ⟨d, a1, a2, a3, a4, g1, g2⟩ => by
      subst g1
      rw [List.getElem?_map] at hx
      obtain ⟨q, hq, rfl⟩ := Option.map_eq_some_iff.mp hx
      have hmem := List.mem_of_getElem? hq
      obtain ⟨q1, q2, q3, q4, q5⟩ := part_small hn hmem
      have q6 : q.2 + 1 ≤ n := Nat.le_trans (Nat.lt_pow_self (by omega)) q3
      have hF := hlen i
      have hF1 := hlen (i + 1)
      have etake : ((partsL n).take (i + 1)).foldl stepD [1] = stepD (((partsL n).take i).foldl stepD [1]) q := by
        rw [List.take_add_one, hq]
        simp [List.foldl_append]
      rw [etake] at hF1
      generalize hf : ((partsL n).take i).foldl stepD [1] = f at *
      have hx1 := seq_list (list_app (T := [some (.lst [])]) g2)
      -- the inner loop
      obtain ⟨ρ2, S2, e2, v, k1, k2⟩ := sFor_inv (w := (wRng1 (eBin false .Add (eVar 3) (eC (.int 1))))) (g := gVar 5) (b := (sSeq (sExt (eVar 4) (eComp false (wSeq (eVar 1)) [6] (.one 6) (tYesE) (eBin false .Mult (eVar 6) (eOwn false (frame c_power_of) (eCons (eVar 2) (eCons (eVar 5) (eNil))))))) (sNext)))
        (ρ := [some (.int n), some d, some (.int q.1), some (.int q.2), some (.cel S.length), a4, none]) (S := S ++ [some (.lst [])])
        (I := fun j ρ T => ∃ v, ρ = [some (.int n), some d, some (.int q.1), some (.int q.2), some (.cel S.length), v, none] ∧ T = S ++ [some (.lst ((nI ((List.range j).flatMap fun k => stepK f q.1 k)).map .int))])
        (wRng1_ok (b := (q.2 : Int) + 1) ((eBin_ok (var_ok rfl) (e := .int 1) rfl (r := .d (.int ((q.2 : Int) + 1))) rfl).trans rfl) (rngOk_small (by omega) (by omega) (by omega) (by omega))) ⟨a4, rfl, rfl⟩ (fun j x ρ T hx ⟨v, k1, k2⟩ => by
          subst k1 k2
          obtain ⟨rfl, hj⟩ := rngL_get hx
          have hj : j ≤ q.2 := by omega
          have hpw : q.1 ^ j ≤ n := Nat.le_trans (Nat.pow_le_pow_right (by omega) hj) q3
          generalize hT : S ++ [some (Cell.lst ((nI ((List.range j).flatMap fun k => stepK f q.1 k)).map .int))] = T
          have hd : DI.listOf T d = some ((nI f).map .int) := by rw [← hT]; exact list_app g2
          have e0 : (0 : Int) + (j : Int) = (j : Int) := by omega
          rw [e0]
          have p1 : frame c_power_of [.int q.1, .int j] T = .ok (.d (.int ((q.1 ^ j : Nat) : Int))) T := frame0 rfl rfl (power_ok (by omega) (by omega)) rfl
          have hm : ∀ y : Int, mulOk y ((q.1 ^ j : Nat) : Int) = true := fun y => by
            unfold mulOk; simp only [Bool.or_eq_true, decide_eq_true_eq]; exact .inr (by omega)
          have hnew : (nI f).map (fun y => D.int (y * ((q.1 ^ j : Nat) : Int))) = (nI (stepK f q.1 j)).map .int := by
            unfold nI stepK
            rw [List.map_map, List.map_map, List.map_map]
            refine List.map_congr_left fun y _ => ?_
            show D.int ((y : Int) * ((q.1 ^ j : Nat) : Int)) = D.int ((y * q.1 ^ j : Nat) : Int)
            rw [Int.natCast_mul]
          generalize ((q.1 ^ j : Nat) : Int) = w at p1 hm hnew
          have f1 := eComp_ints (al := false) (w := wSeq (eVar 1)) (ρ := [some (.int n), some d, some (.int q.1), some (.int q.2), some (.cel S.length), some (.int j), none]) (S := T) (vs := [6]) (c := .one 6) (t := tYesE) (f := (eBin false .Mult (eVar 6) (eOwn false (frame c_power_of) (eCons (eVar 2) (eCons (eVar 5) (eNil)))))) (ns := nI f) (fun y => .int (y * w))
            (wSeq_ok (var_ok rfl) (seq_list hd)) (src_self hd) (fun y hy => by
              have z1 := eOwn_ok (al := false) (ρ := [some (.int n), some d, some (.int q.1), some (.int q.2), some (.cel S.length), some (.int j), some (.int y)]) (two_ok (var_ok (i := 2) rfl) (var_ok (i := 5) rfl)) p1
              have z2 := eBin_ok (al := false) (op := .Mult) (r := .d (.int (y * w))) (var_ok (i := 6) (d := .int y) rfl) z1 (if_pos (hm y))
              exact compStep_yes rfl z2)
          have hjl : ((nI ((List.range j).flatMap fun k => stepK f q.1 k)).map D.int).length + ((nI (stepK f q.1 j)).map D.int).length ≤ LINE := by
            have h1 := stepD_len f q j
            have h2 := stepD_len f q (q.2 + 1)
            have h3 : (stepD f q).length = (q.2 + 1) * f.length := h2
            have h4 : (j + 1) * f.length ≤ (q.2 + 1) * f.length := Nat.mul_le_mul_right _ (by omega)
            rw [Nat.add_mul, Nat.one_mul] at h4
            have h5 : (stepK f q.1 j).length = f.length := by simp [stepK]
            unfold nI LINE
            simp only [List.length_map]
            omega
          refine ⟨rfl, [some (.int n), some d, some (.int q.1), some (.int q.2), some (.cel S.length), some (.int j), none], T, [some (.int n), some d, some (.int q.1), some (.int q.2), some (.cel S.length), some (.int j), none], S ++ [some (.lst ((nI ((List.range (j + 1)).flatMap fun k => stepK f q.1 k)).map .int))], rfl, ?_, some (.int j), rfl, rfl⟩
          refine (ext_nx (n := S.length) (d := .lst ((nI (stepK f q.1 j)).map .int)) (S1 := T) (S2 := T) (xs := (nI ((List.range j).flatMap fun k => stepK f q.1 k)).map .int) (ys := (nI ((List.range j).flatMap fun k => stepK f q.1 k)).map .int) (zs := (nI (stepK f q.1 j)).map .int) (var_ok rfl) (by rw [← hT]; exact cell_last) (f1.trans (by rw [hnew]; rfl)) (by rw [← hT]; exact cell_last) rfl rfl hjl).trans ?_
          rw [← hT, set_last, List.range_succ, List.flatMap_append]
          unfold nI
          simp [sNext]) (fun _ _ _ => rfl)
      subst k1 k2
      have hrl : (rngL 0 ((q.2 : Int) + 1)).length = q.2 + 1 := by rw [rngL_len]; omega
      rw [hrl] at e2
      refine ⟨rfl, [some (.int n), some d, some (.int q.1), some (.int q.2), a3, a4, none], S, [some (.int n), some (.cel S.length), some (.int q.1), some (.int q.2), some (.cel S.length), v, none], S ++ [some (.lst ((nI (stepD f q)).map .int))], rfl, ?_, _, _, _, _, _, rfl, ?_⟩
      · refine (asg_nx (d := .cel S.length) (S1 := S ++ [some (.lst [])]) (by simp [eLst, eNil, O.bind, DI.settle])).trans ?_
        simp only [List.set_cons_succ, List.set_cons_zero]
        refine (seq_nx e2).trans ?_
        refine (asg_nx (f := eVar 4) (i := 1) (ρ := [some (.int n), some d, some (.int q.1), some (.int q.2), some (.cel S.length), v, none]) (d := .cel S.length) (S := S ++ [some (.lst ((nI ((List.range (q.2 + 1)).flatMap fun k => stepK f q.1 k)).map .int))]) (S1 := S ++ [some (.lst ((nI ((List.range (q.2 + 1)).flatMap fun k => stepK f q.1 k)).map .int))]) (var_ok rfl)).trans ?_
        simp only [List.set_cons_succ, List.set_cons_zero]
        rfl
      · rw [etake]
        exact cell_last) (fun _ _ _ => rfl)
  subst g1
  rw [List.length_map, List.take_length] at g2
  refine runF_rt (d := .cel S'.length) (S1 := S' ++ [some (.lst ((sortI (nI (divN n))).map .int))]) rfl ?_ ((retF_new (Nat.zero_le _) cell_last (lowL_ints _ _)).trans rfl)
  unfold b_divisors_of
  refine (asg_nx (d := .lst [.int 1]) rfl).trans ((seq_nx e).trans (ret_rt ?_))
  refine (eBlt_ok (r := .new ((sortI (nI (divN n))).map .int)) (one_ok (var_ok rfl)) ?_).trans rfl
  show withInts S' d _ = _
  unfold withInts
  rw [g2]
  simp only [intsOf_map]
  rfl
end K96
namespace K96
open PySem L2 DI
/-! ### signs, known rows -/
theorem pairs_at {n : Nat} {i : Nat} {x : D} (hx : ((partsL n).map pairD)[i]? = some x) : ∃ q, (partsL n)[i]? = some q ∧ x = pairD q ∧ q ∈ partsL n := by
  rw [List.getElem?_map] at hx
  obtain ⟨q, hq, rfl⟩ := Option.map_eq_some_iff.mp hx
  exact ⟨q, hq, rfl, List.mem_of_getElem? hq⟩
theorem take_fold {α : Type} {xs : List (Nat × Nat)} {f : α → Nat × Nat → α} {a : α} {i : Nat} {q : Nat × Nat} (hq : xs[i]? = some q) : (xs.take (i + 1)).foldl f a = f ((xs.take i).foldl f a) q := by
  rw [List.take_add_one, hq]
  simp [List.foldl_append]
def signF (f : Int) (q : Nat × Nat) : Int := if q.2 = 1 then 0 - f else 0
def signN (n : Nat) : Int := (partsL n).foldl signF 1
theorem frame_parts {n : Nat} (hn : 1 ≤ n) (hb : n ≤ 1000000) (S : Store) : frame c_parts_of [.int n] S = .ok (.new ((partsL n).map pairD)) S := frame0 rfl rfl (parts_ok hn (by omega)) (by simp [backR, low_pairs])
theorem sign_plain {n : Nat} (hn : 1 ≤ n) (hb : n ≤ 1000000) : c_sign_at [.int n] [] = .ok (.d (.int (signN n))) [] := by
  obtain ⟨ρ', S', e, a1, a2, g1, g2⟩ := sFor_inv (w := (wSeq (eOwn false (frame c_parts_of) (eCons (eVar 0) (eNil))))) (g := (gTupE 2 (gConsE (gVar 2) (gConsE (gVar 3) (gNilE))))) (b := (sSeq (sAsg (eIf (tVal (eCmp .Eq (eVar 3) (eC (.int 1)))) (eBin false .Sub (eC (.int 0)) (eVar 1)) (eC (.int 0))) (gVar 1)) (sNext)))
    (ρ := [some (.int n), some (.int 1), none, none]) (S := []) (xs := (partsL n).map pairD) (I := fun i ρ S => ∃ a1 a2, ρ = [some (.int n), some (.int (((partsL n).take i).foldl signF 1)), a1, a2] ∧ S = []) (wSeq_ok (d := .lst ((partsL n).map pairD)) (S1 := []) ((eOwn_ok (one_ok (var_ok rfl)) (frame_parts hn hb [])).trans rfl) rfl) ⟨none, none, rfl, rfl⟩ (fun i x ρ S hx ⟨a1, a2, g1, g2⟩ => by
      subst g1 g2
      obtain ⟨q, hq, rfl, _⟩ := pairs_at hx
      refine ⟨rfl, [some (.int n), some (.int (((partsL n).take i).foldl signF 1)), some (.int q.1), some (.int q.2)], [], [some (.int n), some (.int (((partsL n).take (i + 1)).foldl signF 1)), some (.int q.1), some (.int q.2)], [], rfl, ?_, _, _, rfl, rfl⟩
      rw [take_fold hq]
      generalize ((partsL n).take i).foldl signF 1 = f
      by_cases h : q.2 = 1
      · have h' : (q.2 : Int) = 1 := by omega
        refine (asg_nx (d := .int (0 - f)) (S1 := []) ?_).trans ?_
        · rw [sIfE_t (S1 := []) (tVal_ok (eCmp_ok (var_ok rfl) (e := .int 1) (S2 := []) rfl (by rw [cmp_eq eqvD_ints, h']; rfl)))]
          exact (eBin_ok (d := .int 0) (S1 := []) rfl (var_ok rfl) (r := .d (.int (0 - f))) rfl).trans rfl
        · unfold signF
          rw [if_pos h]; rfl
      · have h' : ¬ (q.2 : Int) = 1 := by omega
        refine (asg_nx (d := .int 0) (S1 := []) ?_).trans ?_
        · rw [sIfE_f (S1 := []) (tVal_ok (eCmp_ok (var_ok rfl) (e := .int 1) (S2 := []) rfl (by rw [cmp_eq eqvD_ints, decide_eq_false h'])))]
          rfl
        · unfold signF
          rw [if_neg h]; rfl) (fun _ _ _ => rfl)
  subst g1 g2
  rw [List.length_map, List.take_length] at e
  refine runF_rt (d := .int (signN n)) (S1 := []) rfl ?_ (retF_low rfl)
  unfold b_sign_at
  exact (asg_nx (d := .int 1) rfl).trans ((seq_nx e).trans (ret_rt (var_ok rfl)))
end K96
namespace K96
open PySem L2 DI
def knownN (A : Nat × Nat → Int) (n : Nat) : Int := (partsL n).foldl (fun f q => f * A q) 1
theorem known_plain {w : Str} {A : Nat × Nat → Int} {n : Nat} (hn : 1 ≤ n) (hb : n ≤ 1000000) (hA : ∀ q ∈ partsL n, c_at_power [.str w, .int q.1, .int q.2] [] = .ok (.d (.int (A q))) [] ∧ (A q).natAbs < 18446744073709551616) : c_known_of [.str w, .int n] [] = .ok (.d (.int (knownN A n))) [] := by
  obtain ⟨ρ', S', e, a1, a2, g1, g2⟩ := sFor_inv (w := (wSeq (eOwn false (frame c_parts_of) (eCons (eVar 1) (eNil))))) (g := (gTupE 2 (gConsE (gVar 3) (gConsE (gVar 4) (gNilE))))) (b := (sSeq (sAsg (eBin false .Mult (eVar 2) (eOwn false (frame c_at_power) (eCons (eVar 0) (eCons (eVar 3) (eCons (eVar 4) (eNil)))))) (gVar 2)) (sNext)))
    (ρ := [some (.str w), some (.int n), some (.int 1), none, none]) (S := []) (xs := (partsL n).map pairD) (I := fun i ρ S => ∃ a1 a2, ρ = [some (.str w), some (.int n), some (.int (((partsL n).take i).foldl (fun f q => f * A q) 1)), a1, a2] ∧ S = []) (wSeq_ok (d := .lst ((partsL n).map pairD)) (S1 := []) ((eOwn_ok (one_ok (var_ok rfl)) (frame_parts hn hb [])).trans rfl) rfl) ⟨none, none, rfl, rfl⟩ (fun i x ρ S hx ⟨a1, a2, g1, g2⟩ => by
      subst g1 g2
      obtain ⟨q, hq, rfl, hm⟩ := pairs_at hx
      obtain ⟨e1, e2⟩ := hA q hm
      refine ⟨rfl, [some (.str w), some (.int n), some (.int (((partsL n).take i).foldl (fun f q => f * A q) 1)), some (.int q.1), some (.int q.2)], [], [some (.str w), some (.int n), some (.int (((partsL n).take (i + 1)).foldl (fun f q => f * A q) 1)), some (.int q.1), some (.int q.2)], [], rfl, ?_, _, _, rfl, rfl⟩
      rw [take_fold hq]
      generalize ((partsL n).take i).foldl (fun f q => f * A q) 1 = f
      have e3 : frame c_at_power [.str w, .int q.1, .int q.2] [] = .ok (.d (.int (A q))) [] := frame0 rfl rfl e1 rfl
      have hmul : mulOk f (A q) = true := by unfold mulOk; simp only [Bool.or_eq_true, decide_eq_true_eq]; exact .inr e2
      have z1 := eOwn_ok (al := false) (ρ := [some (.str w), some (.int n), some (.int f), some (.int q.1), some (.int q.2)]) (cons_ok (var_ok (i := 0) rfl) (two_ok (var_ok (i := 3) rfl) (var_ok (i := 4) rfl))) e3
      exact (asg_nx ((eBin_ok (al := false) (op := .Mult) (r := .d (.int (f * A q))) (var_ok (i := 2) (d := .int f) rfl) z1 (if_pos hmul)).trans rfl)).trans rfl) (fun _ _ _ => rfl)
  subst g1 g2
  rw [List.length_map, List.take_length] at e
  refine runF_rt (d := .int (knownN A n)) (S1 := []) rfl ?_ (retF_low rfl)
  unfold b_known_of
  exact (asg_nx (d := .int 1) rfl).trans ((seq_nx e).trans (ret_rt (var_ok rfl)))
theorem word_no {u v : Str} {k f : EvS} {ρ : Rho} {S : Store} (h0 : ρ[0]? = some (some (.str u))) (hne : decide (u = v) = false) : sSeq (sIf (tVal (eCmp .Eq (eVar 0) (eC (.str v)))) f (sNext)) k ρ S = k ρ S :=
  if_nx (tVal_ok (eCmp_ok (var_ok h0) (e := .str v) rfl (by rw [cmp_eq eqvD_strs, hne])))
theorem word_yes {v : Str} {k f : EvS} {ρ : Rho} {d : D} {S S1 : Store} (h0 : ρ[0]? = some (some (.str v))) (hf : f ρ S = .ok (.rt d) S1) : sSeq (sIf (tVal (eCmp .Eq (eVar 0) (eC (.str v)))) f (sNext)) k ρ S = .ok (.rt d) S1 :=
  seq_rt (by
    rw [sIf_t (S1 := S) (tVal_ok (eCmp_ok (var_ok h0) (e := .str v) rfl (by rw [cmp_eq eqvD_strs]; simp)))]
    exact hf)
def unitsA (q : Nat × Nat) : Int := ((q.1 ^ q.2 : Nat) : Int) - ((q.1 ^ (q.2 - 1) : Nat) : Int)
def signsA (q : Nat × Nat) : Int := if q.2 = 1 then -1 else 0
def divisA (q : Nat × Nat) : Int := (q.2 : Int) + 1
def sumsA (q : Nat × Nat) : Int := (((q.1 ^ (q.2 + 1) : Nat) : Int) - 1) / ((q.1 : Int) - 1)
theorem at_units {q : Nat × Nat} (h1 : 2 ≤ q.1) (h2 : 1 ≤ q.2) (hb : q.1 ^ q.2 ≤ 1000000) : c_at_power [.str "units", .int q.1, .int q.2] [] = .ok (.d (.int (unitsA q))) [] := by
  have h3 : q.1 ≤ q.1 ^ q.2 := Nat.le_self_pow (by omega) _
  have h4 : q.2 < q.1 ^ q.2 := Nat.lt_pow_self (by omega)
  have e1 : frame c_power_of [.int q.1, .int q.2] [] = .ok (.d (.int ((q.1 ^ q.2 : Nat) : Int))) [] := frame0 rfl rfl (power_ok (by omega) (by omega)) rfl
  have e2 : frame c_power_of [.int q.1, .int ((q.2 : Int) - 1)] [] = .ok (.d (.int ((q.1 ^ (q.2 - 1) : Nat) : Int))) [] := by
    have : (q.2 : Int) - 1 = ((q.2 - 1 : Nat) : Int) := by omega
    rw [this]
    exact frame0 rfl rfl (power_ok (by omega) (by omega)) rfl
  refine runF_rt (d := .int (unitsA q)) (S1 := []) rfl ?_ (retF_low rfl)
  unfold b_at_power
  refine (word_no rfl (by decide)).trans ((word_no rfl (by decide)).trans ((word_no rfl (by decide)).trans ((word_no rfl (by decide)).trans ((word_no rfl (by decide)).trans (word_yes rfl (ret_rt ?_))))))
  have z1 := eOwn_ok (al := false) (ρ := [some (.str "units"), some (.int q.1), some (.int q.2)]) (two_ok (var_ok (i := 1) rfl) (var_ok (i := 2) rfl)) e1
  have z2 := eOwn_ok (al := false) (ρ := [some (.str "units"), some (.int q.1), some (.int q.2)]) (two_ok (var_ok (i := 1) rfl) ((eBin_ok (op := .Sub) (al := false) (var_ok (i := 2) rfl) (e := .int 1) (g := eC (.int 1)) (S2 := []) rfl (r := .d (.int ((q.2 : Int) - 1))) rfl).trans rfl)) e2
  exact (eBin_ok (op := .Sub) z1 z2 (r := .d (.int (unitsA q))) rfl).trans rfl
theorem at_signs {q : Nat × Nat} : c_at_power [.str "signs", .int q.1, .int q.2] [] = .ok (.d (.int (signsA q))) [] := by
  refine runF_rt (d := .int (signsA q)) (S1 := []) rfl ?_ (retF_low rfl)
  unfold b_at_power
  refine (word_no rfl (by decide)).trans ((word_no rfl (by decide)).trans ((word_no rfl (by decide)).trans ((word_no rfl (by decide)).trans ((word_no rfl (by decide)).trans ((word_no rfl (by decide)).trans (word_yes rfl (ret_rt ?_)))))))
  by_cases h : q.2 = 1
  · have h' : (q.2 : Int) = 1 := by omega
    rw [sIfE_t (S1 := []) (tVal_ok (eCmp_ok (var_ok rfl) (e := .int 1) (S2 := []) rfl (by rw [cmp_eq eqvD_ints, h']; rfl)))]
    unfold signsA
    rw [if_pos h]; rfl
  · have h' : ¬ (q.2 : Int) = 1 := by omega
    rw [sIfE_f (S1 := []) (tVal_ok (eCmp_ok (var_ok rfl) (e := .int 1) (S2 := []) rfl (by rw [cmp_eq eqvD_ints, decide_eq_false h'])))]
    unfold signsA
    rw [if_neg h]; rfl
theorem at_divis {q : Nat × Nat} : c_at_power [.str "divisors", .int q.1, .int q.2] [] = .ok (.d (.int (divisA q))) [] := by
  refine runF_rt (d := .int (divisA q)) (S1 := []) rfl ?_ (retF_low rfl)
  unfold b_at_power
  refine (word_no rfl (by decide)).trans ((word_no rfl (by decide)).trans ((word_no rfl (by decide)).trans (word_yes rfl (ret_rt ?_))))
  exact (eBin_ok (op := .Add) (var_ok (i := 2) rfl) (e := .int 1) (g := eC (.int 1)) (S2 := []) rfl (r := .d (.int (divisA q))) rfl).trans rfl
end K96
namespace K96
open PySem L2 DI
/-! ### the greatest common divisor -/
theorem gcd_some (a b : Nat) : ∃ s : Nat × Nat, whileP (fun s : Nat × Nat => decide (0 < s.2)) (fun s => (s.2, s.1 % s.2)) (b + 1) (a, b) = some s ∧ s.1 = Nat.gcd a b ∧ s.2 = 0 := by
  obtain ⟨s, h1, h2, h3⟩ := whileP_some (c := fun s : Nat × Nat => decide (0 < s.2)) (f := fun s => (s.2, s.1 % s.2)) (fun s => s.2) (fun s => Nat.gcd s.1 s.2 = Nat.gcd a b) (fun s i1 hc => by
    have hc : 0 < s.2 := of_decide_eq_true hc
    refine ⟨?_, Nat.mod_lt _ hc⟩
    show Nat.gcd s.2 (s.1 % s.2) = Nat.gcd a b
    rw [← i1, Nat.gcd_comm s.1 s.2, Nat.gcd_rec s.2 s.1, Nat.gcd_comm]) (b + 1) (a, b) rfl (Nat.lt_succ_self _)
  have h0 : s.2 = 0 := by
    have : ¬ 0 < s.2 := of_decide_eq_false h3
    omega
  rw [h0, Nat.gcd_zero_right] at h2
  exact ⟨s, h1, h2, h0⟩
theorem common_ok {a b : Nat} (hb : b ≤ 1000000000) : c_common_of [.int a, .int b] [] = .ok (.d (.int ((Nat.gcd a b : Nat) : Int))) [] := by
  obtain ⟨s, h1, h2, h3⟩ := gcd_some a b
  obtain ⟨ρ', S', e, g1, g2⟩ := sWhile_to (c := fun s : Nat × Nat => decide (0 < s.2)) (f := fun s => (s.2, s.1 % s.2)) (t := (tVal (eCmp .Gt (eVar 1) (eC (.int 0))))) (b := (sSeq (sPar (eCons (eVar 1) (eCons (eBin false .Mod (eVar 0) (eVar 1)) (eNil))) (gConsE (gVar 0) (gConsE (gVar 1) (gNilE)))) (sNext)))
    (fun s ρ S => ρ = [some (.int s.1), some (.int s.2)] ∧ S = []) (ρ := [some (.int a), some (.int b)]) (S := []) (by omega) h1 ⟨rfl, rfl⟩ (fun s ρ S ⟨g1, g2⟩ => by
      subst g1 g2
      refine tVal_ok (eCmp_ok (var_ok rfl) (e := .int 0) (S2 := []) rfl ?_)
      show some (decide ((0 : Int) < s.2)) = some (decide (0 < s.2))
      congr 1
      rw [decide_eq_decide]
      omega) (fun s ρ S ⟨g1, g2⟩ hc => by
      subst g1 g2
      have hc : 0 < s.2 := of_decide_eq_true hc
      have hc2 : (0 : Int) < s.2 := by omega
      have hm : (if decide ((0 : Int) < s.2) then some (Res.d (.int ((s.1 : Int) % s.2))) else none) = some (.d (.int (((s.1 % s.2 : Nat)) : Int))) := if_pos (decide_eq_true hc2)
      refine ⟨[some (.int s.2), some (.int ((s.1 % s.2 : Nat) : Int))], [], (par_nx (ds := [.int s.2, .int ((s.1 % s.2 : Nat) : Int)]) (S1 := []) (two_ok (var_ok rfl) ((eBin_ok (op := .Mod) (var_ok (i := 0) (d := .int s.1) rfl) (var_ok (i := 1) (d := .int s.2) rfl) hm).trans rfl)) rfl).trans rfl, rfl, rfl⟩)
  subst g1 g2
  rw [h2, h3] at e
  refine runF_rt (d := .int ((Nat.gcd a b : Nat) : Int)) (S1 := []) rfl ?_ (retF_low rfl)
  unfold b_common_of
  exact (seq_nx e).trans (ret_rt (var_ok rfl))
theorem lcommon_ok {a b : Nat} (hb : b ≤ 1000000000) : c__law_common [.int a, .int b] [] = .ok (.d (.int ((Nat.gcd a b : Nat) : Int))) [] := by
  obtain ⟨s, h1, h2, h3⟩ := gcd_some a b
  obtain ⟨ρ', S', e, g1, g2⟩ := sWhile_to (c := fun s : Nat × Nat => decide (0 < s.2)) (f := fun s => (s.2, s.1 % s.2)) (t := (tVal (eCmp .Gt (eVar 1) (eC (.int 0))))) (b := (sSeq (sPar (eCons (eVar 1) (eCons (eBlt false (fun _ => bInt) (eCons (eBin false .Mod (eVar 0) (eVar 1)) (eNil))) (eNil))) (gConsE (gVar 0) (gConsE (gVar 1) (gNilE)))) (sNext)))
    (fun s ρ S => ρ = [some (.int s.1), some (.int s.2)] ∧ S = []) (ρ := [some (.int a), some (.int b)]) (S := []) (by omega) h1 ⟨rfl, rfl⟩ (fun s ρ S ⟨g1, g2⟩ => by
      subst g1 g2
      refine tVal_ok (eCmp_ok (var_ok rfl) (e := .int 0) (S2 := []) rfl ?_)
      show some (decide ((0 : Int) < s.2)) = some (decide (0 < s.2))
      congr 1
      rw [decide_eq_decide]
      omega) (fun s ρ S ⟨g1, g2⟩ hc => by
      subst g1 g2
      have hc : 0 < s.2 := of_decide_eq_true hc
      have hc2 : (0 : Int) < s.2 := by omega
      have hm : (if decide ((0 : Int) < s.2) then some (Res.d (.int ((s.1 : Int) % s.2))) else none) = some (.d (.int (((s.1 % s.2 : Nat)) : Int))) := if_pos (decide_eq_true hc2)
      have z1 : eBin false .Mod (eVar 0) (eVar 1) [some (.int s.1), some (.int s.2)] [] = .ok (.int ((s.1 % s.2 : Nat) : Int)) [] := (eBin_ok (op := .Mod) (var_ok (i := 0) (d := .int s.1) rfl) (var_ok (i := 1) (d := .int s.2) rfl) hm).trans rfl
      refine ⟨[some (.int s.2), some (.int ((s.1 % s.2 : Nat) : Int))], [], (par_nx (ds := [.int s.2, .int ((s.1 % s.2 : Nat) : Int)]) (S1 := []) (two_ok (var_ok rfl) ((eBlt_ok (one_ok z1) (r := .d (.int ((s.1 % s.2 : Nat) : Int))) rfl).trans rfl)) rfl).trans rfl, rfl, rfl⟩)
  subst g1 g2
  rw [h2, h3] at e
  refine runF_rt (d := .int ((Nat.gcd a b : Nat) : Int)) (S1 := []) rfl ?_ (retF_low rfl)
  unfold b__law_common
  exact (seq_nx e).trans (ret_rt (var_ok rfl))
end K96
namespace K96
open PySem L2 DI
/-! ### divisors divide -/
theorem mem_insI {x y : Int} : ∀ {l : List Int}, y ∈ insI x l → y = x ∨ y ∈ l
  | [], h => .inl (List.mem_singleton.mp h)
  | z :: r, h => by
    unfold insI at h
    split at h
    · rcases List.mem_cons.mp h with e | h
      · exact .inl e
      · exact .inr h
    · rcases List.mem_cons.mp h with e | h
      · exact .inr (e ▸ List.mem_cons_self)
      · rcases mem_insI h with e | h
        · exact .inl e
        · exact .inr (List.mem_cons_of_mem _ h)
theorem mem_sortI : ∀ {l : List Int} {y : Int}, y ∈ sortI l → y ∈ l
  | [], _, h => h
  | x :: r, y, h => by
    rcases mem_insI (show y ∈ insI x (sortI r) from h) with e | h
    · exact e ▸ List.mem_cons_self
    · exact List.mem_cons_of_mem _ (mem_sortI h)
theorem mem_fold : ∀ (xs : List (Nat × Nat)) (f : List Nat) (x : Nat), x ∈ xs.foldl stepD f → ∃ y ∈ f, ∃ z, x = y * z ∧ z ∣ prodP xs
  | [], f, x, h => ⟨x, h, 1, (Nat.mul_one x).symm, Nat.dvd_refl 1⟩
  | q :: r, f, x, h => by
    obtain ⟨y, hy, z, e, hz⟩ := mem_fold r (stepD f q) x h
    obtain ⟨k, hk, hy⟩ := List.mem_flatMap.mp hy
    obtain ⟨w, hw, rfl⟩ := List.mem_map.mp hy
    have hk := List.mem_range.mp hk
    refine ⟨w, hw, q.1 ^ k * z, by rw [e, Nat.mul_assoc], ?_⟩
    exact Nat.mul_dvd_mul (Nat.pow_dvd_pow q.1 (by omega)) hz
def dI (n : Nat) : List Int := sortI (nI (divN n))
theorem mem_dI {n : Nat} (hn : 1 ≤ n) {d : Int} (h : d ∈ dI n) : ∃ k : Nat, d = k ∧ 1 ≤ k ∧ k ≤ n ∧ k ∣ n := by
  obtain ⟨k, hk, rfl⟩ := List.mem_map.mp (mem_sortI h)
  obtain ⟨y, hy, z, e, hz⟩ := mem_fold _ _ _ hk
  rw [List.mem_singleton.mp hy, Nat.one_mul] at e
  rw [(parts_prod hn).1] at hz
  subst e
  exact ⟨k, rfl, Nat.pos_of_dvd_of_pos hz hn, Nat.le_of_dvd hn hz, hz⟩
/-! ### unit sums, common sums -/
def US (c g : Nat) : Int := ((dI g).map fun d => d * signN ((c : Int) / d).toNat).sum
theorem unit_of_ok {c h : Nat} (hc : 1 ≤ c) (hb : c ≤ 1000000) (hh : h ≤ 1000000) : c_unit_sum_of [.int c, .int h] [] = .ok (.d (.int (US c (Nat.gcd c h)))) [] := by
  have hg : 1 ≤ Nat.gcd c h := Nat.gcd_pos_of_pos_left _ hc
  have hgd : Nat.gcd c h ∣ c := Nat.gcd_dvd_left c h
  have hgl : Nat.gcd c h ≤ c := Nat.le_of_dvd hc hgd
  have e1 : frame c_common_of [.int c, .int h] [] = .ok (.d (.int ((Nat.gcd c h : Nat) : Int))) [] := frame0 rfl rfl (common_ok (by omega)) rfl
  unfold US
  generalize Nat.gcd c h = g at *
  have e2 : frame c_divisors_of [.int g] [] = .ok (.new ((dI g).map .int)) [] := frame0 rfl rfl (div_plain hg (by omega)) (backR_ints _)
  refine runF_rt (d := .int _) (S1 := []) rfl ?_ (retF_low rfl)
  unfold b_unit_sum_of
  refine (asg_nx (d := .int g) (S1 := []) ((eOwn_ok (two_ok (var_ok rfl) (var_ok rfl)) e1).trans rfl)).trans (ret_rt ?_)
  have f := eComp_ints (al := false) (w := wSeq (eOwn false (frame c_divisors_of) (eCons (eVar 2) (eNil)))) (ρ := [some (.int c), some (.int h), some (.int g), none]) (S := []) (src := []) (vs := [3]) (c := .one 3) (t := tYesE) (f := (eBin false .Mult (eVar 3) (eOwn false (frame c_sign_at) (eCons (eBin false .FloorDiv (eVar 0) (eVar 3)) (eNil))))) (ns := dI g) (fun d => .int (d * signN ((c : Int) / d).toNat))
    (wSeq_ok (d := .lst ((dI g).map .int)) (S1 := []) ((eOwn_ok (one_ok (var_ok rfl)) e2).trans rfl) rfl) rfl (fun d hd => by
      obtain ⟨k, rfl, k1, k2, k3⟩ := mem_dI hg hd
      have hk : (if divOk (k : Int) then some (Res.d (.int ((c : Int) / k))) else none) = some (.d (.int ((c : Int) / k))) := if_pos (by
        unfold divOk; simp only [Bool.and_eq_true, decide_eq_true_eq]; omega)
      have hq1 : 1 ≤ c / k := Nat.div_pos (Nat.le_trans k2 hgl) (by omega)
      have hq2 : c / k ≤ c := Nat.div_le_self c k
      have hcast : (c : Int) / (k : Int) = ((c / k : Nat) : Int) := rfl
      have e3 : frame c_sign_at [.int ((c : Int) / k)] [] = .ok (.d (.int (signN (c / k)))) [] := by
        rw [hcast]
        exact frame0 rfl rfl (sign_plain hq1 (by omega)) rfl
      have hm : (if mulOk (k : Int) (signN (c / k)) then some (Res.d (.int ((k : Int) * signN (c / k)))) else none) = some (.d (.int ((k : Int) * signN (c / k)))) := if_pos (by
        unfold mulOk; simp only [Bool.or_eq_true, decide_eq_true_eq]; exact .inl (by omega))
      have z1 := eOwn_ok (al := false) (ρ := [some (.int c), some (.int h), some (.int g), some (.int k)]) (S := []) (one_ok ((eBin_ok (al := false) (op := .FloorDiv) (var_ok (i := 0) (d := .int c) rfl) (var_ok (i := 3) (d := .int k) rfl) hk).trans rfl)) e3
      have z2 := eBin_ok (al := false) (op := .Mult) (var_ok (i := 3) (d := .int k) rfl) z1 hm
      rw [hcast, Int.toNat_natCast]
      exact compStep_yes rfl z2)
  exact (eBlt_ok (one_ok (f.trans (by rw [sums_map]; rfl))) (bSum_of rfl)).trans rfl
end K96
namespace K96
open PySem L2 DI
theorem tNot_ok {t : EvB} {ρ : Rho} {b : Bool} {S S1 : Store} (h : t ρ S = .ok b S1) : tNotE t ρ S = .ok (!b) S1 := by unfold tNotE; rw [h]; rfl
theorem isint_ok (v : Int) : c_is_integer [.int v] [] = .ok (.d (.bl true)) [] := rfl
theorem within_ok {v a b : Int} (h1 : a ≤ v) (h2 : v ≤ b) : c_is_within [.int v, .int a, .int b] [] = .ok (.d (.bl true)) [] := by
  have e2 : frame c_is_integer [.int v] [] = .ok (.d (.bl true)) [] := frame0 rfl rfl (isint_ok v) rfl
  refine runF_rt (d := .bl true) (S1 := []) rfl ?_ rfl
  unfold b_is_within
  refine ret_rt ?_
  simp [eAnd, eOwn, eCons, eVar, eNil, e2, O.bind, O.calm, DI.settle, eChain, cmpD, ofB, h1, h2]
theorem frame_within {v a b : Int} (h1 : a ≤ v) (h2 : v ≤ b) (S : Store) : frame c_is_within [.int v, .int a, .int b] S = .ok (.d (.bl true)) S := frame0 rfl rfl (within_ok h1 h2) rfl
theorem wclock_ok {c : Nat} (h1 : 1 ≤ c) (h2 : c ≤ 2000) : c_want_clock [.int c] [] = .ok (.d .non) [] := by
  have e1 : c_is_clock_value [.int c] [] = .ok (.d (.bl true)) [] := by
    refine runF_rt (d := .bl true) (S1 := []) rfl ?_ rfl
    unfold b_is_clock_value
    exact ret_rt ((eOwn_ok (cons_ok (var_ok rfl) (two_ok (f := eC (.int 1)) rfl rfl)) (frame_within (by omega) (by omega) [])).trans rfl)
  have e2 : frame c_is_clock_value [.int c] [] = .ok (.d (.bl true)) [] := frame0 rfl rfl e1 rfl
  refine runF_nx (ρ := [some (.int c)]) (S1 := []) rfl ?_ (retF_low rfl)
  unfold b_want_clock
  have z := eOwn_ok (al := false) (ρ := [some (.int c)]) (one_ok (var_ok (i := 0) rfl)) e2
  exact (if_nx (S1 := []) (tNot_ok (tVal_ok (z.trans rfl)))).trans rfl
theorem frame_wclock {c : Nat} (h1 : 1 ≤ c) (h2 : c ≤ 2000) (S : Store) : frame c_want_clock [.int c] S = .ok (.d .non) S := frame0 rfl rfl (wclock_ok h1 h2) rfl
theorem whour_ok {c h : Nat} (h1 : h < c) : c_want_hour [.int c, .int h] [] = .ok (.d .non) [] := by
  refine runF_nx (ρ := [some (.int c), some (.int h)]) (S1 := []) rfl ?_ (retF_low rfl)
  unfold b_want_hour
  have z := eOwn_ok (al := false) (ρ := [some (.int c), some (.int h)]) (cons_ok (var_ok (i := 1) rfl) (two_ok (f := eC (.int 0)) (S1 := []) rfl ((eBin_ok (al := false) (op := .Sub) (var_ok (i := 0) (d := .int c) rfl) (g := eC (.int 1)) (e := .int 1) (S2 := []) rfl (r := .d (.int ((c : Int) - 1))) rfl).trans rfl))) (frame_within (v := h) (a := 0) (b := (c : Int) - 1) (by omega) (by omega) [])
  exact (if_nx (S1 := []) (tNot_ok (tVal_ok (z.trans rfl)))).trans rfl
theorem unit_sum_ok {c h : Nat} (h1 : h < c) (h2 : c ≤ 2000) : c_unit_sum [.int c, .int h] [] = .ok (.d (.int (US c (Nat.gcd c h)))) [] := by
  have e1 := frame_wclock (c := c) (by omega) h2 []
  have e2 : frame c_want_hour [.int c, .int h] [] = .ok (.d .non) [] := frame0 rfl rfl (whour_ok h1) rfl
  have e3 : frame c_unit_sum_of [.int c, .int h] [] = .ok (.d (.int (US c (Nat.gcd c h)))) [] := frame0 rfl rfl (unit_of_ok (by omega) (by omega) (by omega)) rfl
  refine runF_rt (d := .int (US c (Nat.gcd c h))) (S1 := []) rfl ?_ (retF_low rfl)
  unfold b_unit_sum
  exact (drop_nx ((eOwn_ok (one_ok (var_ok rfl)) e1).trans rfl)).trans ((drop_nx ((eOwn_ok (two_ok (var_ok rfl) (var_ok rfl)) e2).trans rfl)).trans (ret_rt ((eOwn_ok (two_ok (var_ok rfl) (var_ok rfl)) e3).trans rfl)))
def usL (c : Nat) : List Int := (List.range c).map fun h => US c (Nat.gcd c h)
theorem rngI0 (c : Nat) : rngI 0 (c : Int) = (List.range c).map fun (i : Nat) => (i : Int) := by
  unfold rngI
  have : ((c : Int) - 0).toNat = c := by omega
  rw [this]
  exact List.map_congr_left fun i _ => by omega
theorem unit_sums_ok {c : Nat} (h1 : 1 ≤ c) (h2 : c ≤ 2000) : c_unit_sums [.int c] [] = .ok (.new ((usL c).map .int)) [] := by
  have e1 := frame_wclock h1 h2 []
  refine runF_rt (d := .cel 0) (S1 := [some (.lst ((usL c).map .int))]) rfl ?_ ((retF_new (Nat.zero_le _) rfl (lowL_ints _ _)).trans rfl)
  unfold b_unit_sums
  refine (drop_nx ((eOwn_ok (one_ok (var_ok rfl)) e1).trans rfl)).trans (ret_rt ?_)
  have w : wRng1 (eVar 0) [some (.int c), none] [] = .ok ⟨[], (rngI 0 c).map .int⟩ [] := by
    rw [← rngL_ints]
    exact wRng1_ok (var_ok rfl) (rngOk_small (by omega) (by omega) (by omega) (by omega))
  have f := eComp_ints (al := true) (vs := [1]) (c := .one 1) (t := tYesE) (f := eOwn false (frame c_unit_sum_of) (eCons (eVar 0) (eCons (eVar 1) (eNil)))) (fun n => .int (US c (Nat.gcd c n.toNat))) w rfl (fun n hn => by
    have hm := mem_rngI.mp hn
    obtain ⟨h, rfl⟩ : ∃ h : Nat, n = h := ⟨n.toNat, by omega⟩
    have e3 : frame c_unit_sum_of [.int c, .int h] [] = .ok (.d (.int (US c (Nat.gcd c h)))) [] := frame0 rfl rfl (unit_of_ok h1 (by omega) (by omega)) rfl
    rw [Int.toNat_natCast]
    exact compStep_yes (ρ1 := [some (.int c), some (.int h)]) rfl ((eOwn_ok (two_ok (var_ok rfl) (var_ok rfl)) e3).trans rfl))
  refine f.trans ?_
  rw [rngI0, List.map_map]
  unfold usL
  rw [show (List.map ((fun n : Int => D.int (US c (c.gcd n.toNat))) ∘ fun i : Nat => (i : Int)) (List.range c)) = ((List.range c).map fun h => US c (Nat.gcd c h)).map .int from by
    rw [List.map_map]
    exact List.map_congr_left fun i _ => by simp]
  rfl
theorem pow_small {n : Nat} (hn : 1 ≤ n) (hb : n ≤ 1000000) {q : Nat × Nat} (hq : q ∈ partsL n) : (unitsA q).natAbs < 18446744073709551616 := by
  obtain ⟨a1, a2, a3, _, _⟩ := part_small hn hq
  have a4 : q.1 ^ (q.2 - 1) ≤ q.1 ^ q.2 := Nat.pow_le_pow_right (by omega) (by omega)
  unfold unitsA
  omega
theorem units_ok {n : Nat} (hn : 1 ≤ n) (hb : n ≤ 1000000) : c_known_of [.str "units", .int n] [] = .ok (.d (.int (knownN unitsA n))) [] :=
  known_plain hn hb fun q hq => by
    obtain ⟨a1, a2, a3, _, _⟩ := part_small hn hq
    exact ⟨at_units a1 a2 (by omega), pow_small hn hb hq⟩
theorem signs_ok {n : Nat} (hn : 1 ≤ n) (hb : n ≤ 1000000) : c_known_of [.str "signs", .int n] [] = .ok (.d (.int (knownN signsA n))) [] :=
  known_plain hn hb fun q hq => ⟨at_signs, by unfold signsA; split <;> decide⟩
theorem divis_ok {n : Nat} (hn : 1 ≤ n) (hb : n ≤ 1000000) : c_known_of [.str "divisors", .int n] [] = .ok (.d (.int (knownN divisA n))) [] :=
  known_plain hn hb fun q hq => ⟨at_divis, by
    obtain ⟨_, _, _, _, a5⟩ := part_small hn hq
    unfold divisA; omega⟩
def CS (c : Nat) : Int := ((dI c).map fun d => knownN unitsA d.toNat * ((c : Int) / d)).sum
theorem common_sum_ok {c : Nat} (h1 : 1 ≤ c) (h2 : c ≤ 2000) : c_common_sum [.int c] [] = .ok (.d (.int (CS c))) [] := by
  have e1 := frame_wclock h1 h2 []
  have e2 : frame c_divisors_of [.int c] [] = .ok (.new ((dI c).map .int)) [] := frame0 rfl rfl (div_plain h1 (by omega)) (backR_ints _)
  refine runF_rt (d := .int (CS c)) (S1 := []) rfl ?_ (retF_low rfl)
  unfold b_common_sum
  refine (drop_nx ((eOwn_ok (one_ok (var_ok rfl)) e1).trans rfl)).trans (ret_rt ?_)
  have f := eComp_ints (al := false) (w := wSeq (eOwn false (frame c_divisors_of) (eCons (eVar 0) (eNil)))) (ρ := [some (.int c), none]) (S := []) (src := []) (vs := [1]) (c := .one 1) (t := tYesE) (f := (eBin false .Mult (eOwn false (frame c_known_of) (eCons (eC (.str "units")) (eCons (eVar 1) (eNil)))) (eBin false .FloorDiv (eVar 0) (eVar 1)))) (ns := dI c) (fun d => .int (knownN unitsA d.toNat * ((c : Int) / d)))
    (wSeq_ok (d := .lst ((dI c).map .int)) (S1 := []) ((eOwn_ok (one_ok (var_ok rfl)) e2).trans rfl) rfl) rfl (fun d hd => by
      obtain ⟨k, rfl, k1, k2, k3⟩ := mem_dI h1 hd
      have hk : (if divOk (k : Int) then some (Res.d (.int ((c : Int) / k))) else none) = some (.d (.int ((c : Int) / k))) := if_pos (by
        unfold divOk; simp only [Bool.and_eq_true, decide_eq_true_eq]; omega)
      have hq2 : c / k ≤ c := Nat.div_le_self c k
      have hcast : (c : Int) / (k : Int) = ((c / k : Nat) : Int) := rfl
      rw [Int.toNat_natCast]
      have e3 : frame c_known_of [.str "units", .int k] [] = .ok (.d (.int (knownN unitsA k))) [] := frame0 rfl rfl (units_ok k1 (by omega)) rfl
      have hm : (if mulOk (knownN unitsA k) ((c : Int) / k) then some (Res.d (.int (knownN unitsA k * ((c : Int) / k)))) else none) = some (.d (.int (knownN unitsA k * ((c : Int) / k)))) := if_pos (by
        unfold mulOk; simp only [Bool.or_eq_true, decide_eq_true_eq]; rw [hcast, Int.natAbs_natCast]; exact .inr (by omega))
      have z1 := eOwn_ok (al := false) (ρ := [some (.int c), some (.int k)]) (S := []) (two_ok (f := eC (.str "units")) rfl (var_ok (i := 1) rfl)) e3
      have z2 := (eBin_ok (al := false) (op := .FloorDiv) (ρ := [some (.int c), some (.int k)]) (S := []) (var_ok (i := 0) (d := .int c) rfl) (var_ok (i := 1) (d := .int k) rfl) hk).trans rfl
      exact compStep_yes (ρ1 := [some (.int c), some (.int k)]) rfl ((eBin_ok (al := false) (op := .Mult) z1 z2 hm).trans rfl))
  exact (eBlt_ok (one_ok (f.trans (by rw [sums_map]; rfl))) (bSum_of rfl)).trans rfl
end K96
namespace K96
open PySem L2 DI
theorem eComp_filtI {al : Bool} {w : EvW} {vs : List Nat} {c : CT} {t : EvB} {f : EvE} {ρ : Rho} {S : Store} {src : List (Nat × List D)} {n : Nat} (g : Nat → Option Int) (hw : w ρ S = .ok ⟨src, (rngI 0 n).map .int⟩ S) (hs : srcSame S src = true)
    (h : ∀ i : Nat, i < n → compStep vs c t f ρ (.int i) S = .ok ((g i).map .int) S) : eComp al w vs c t f ρ S = settle al (.new (((List.range n).filterMap g).map .int)) S := by
  rw [eComp_filt (fun d => match d with | .int i => (g i.toNat).map .int | d => none) hw hs (fun x hx => by
    obtain ⟨m, hm, rfl⟩ := List.mem_map.mp hx
    have hm := mem_rngI.mp hm
    obtain ⟨i, rfl⟩ : ∃ i : Nat, m = i := ⟨m.toNat, by omega⟩
    show _ = O.ok ((g (i : Int).toNat).map D.int) S
    rw [Int.toNat_natCast]
    exact h i (by omega))]
  rw [rngI0, List.map_map, List.filterMap_map, List.map_filterMap]
  rfl
def ucT (c h : Nat) : Nat := Nat.gcd c (((h : Int) - 1) % (c : Int)).toNat
def ucG (c h : Nat) : Option Int := if Nat.gcd c h = 1 then some ((ucT c h : Nat) : Int) else none
def UC (c : Nat) : Int := ((List.range c).filterMap (ucG c)).sum
theorem isunit_ok {c h : Nat} (hb : h ≤ 1000000) : c_is_unit_of [.int c, .int h] [] = .ok (.d (.bl (decide (Nat.gcd c h = 1)))) [] := by
  have e1 : frame c_common_of [.int c, .int h] [] = .ok (.d (.int ((Nat.gcd c h : Nat) : Int))) [] := frame0 rfl rfl (common_ok (by omega)) rfl
  refine runF_rt (d := .bl (decide (Nat.gcd c h = 1))) (S1 := []) rfl ?_ (retF_low rfl)
  unfold b_is_unit_of
  refine ret_rt (eCmp_ok ((eOwn_ok (two_ok (var_ok rfl) (var_ok rfl)) e1).trans rfl) (e := .int 1) (S2 := []) rfl ?_)
  rw [cmp_eq eqvD_ints]
  congr 1
  rw [decide_eq_decide]
  omega
theorem unit_common_ok {c : Nat} (h1 : 1 ≤ c) (h2 : c ≤ 2000) : c_unit_common_sum [.int c] [] = .ok (.d (.int (UC c))) [] := by
  have e1 := frame_wclock h1 h2 []
  refine runF_rt (d := .int (UC c)) (S1 := []) rfl ?_ (retF_low rfl)
  unfold b_unit_common_sum
  refine (drop_nx ((eOwn_ok (one_ok (var_ok rfl)) e1).trans rfl)).trans (ret_rt ?_)
  have w : wRng1 (eVar 0) [some (.int c), none] [] = .ok ⟨[], (rngI 0 c).map .int⟩ [] := by
    rw [← rngL_ints]
    exact wRng1_ok (var_ok rfl) (rngOk_small (by omega) (by omega) (by omega) (by omega))
  have f := eComp_filtI (al := false) (vs := [1]) (c := .one 1) (t := tVal (eOwn false (frame c_is_unit_of) (eCons (eVar 0) (eCons (eVar 1) (eNil))))) (f := eOwn false (frame c_common_of) (eCons (eVar 0) (eCons (eBin false .Mod (eBin false .Sub (eVar 1) (eC (.int 1))) (eVar 0)) (eNil)))) (ucG c) w rfl (fun h hh => by
    have e2 : frame c_is_unit_of [.int c, .int h] [] = .ok (.d (.bl (decide (Nat.gcd c h = 1)))) [] := frame0 rfl rfl (isunit_ok (by omega)) rfl
    have z1 := (eOwn_ok (al := false) (ρ := [some (.int c), some (.int h)]) (S := []) (two_ok (var_ok (i := 0) rfl) (var_ok (i := 1) rfl)) e2).trans rfl
    unfold ucG
    by_cases hg : Nat.gcd c h = 1
    · rw [if_pos hg]
      rw [decide_eq_true hg] at z1
      have hm0 : (0 : Int) < c := by omega
      have hm : (if decide ((0 : Int) < c) then some (Res.d (.int (((h : Int) - 1) % c))) else none) = some (.d (.int (((h : Int) - 1) % c))) := if_pos (decide_eq_true hm0)
      have hmod1 : 0 ≤ ((h : Int) - 1) % (c : Int) := Int.emod_nonneg _ (by omega)
      have hmod2 : ((h : Int) - 1) % (c : Int) < c := Int.emod_lt_of_pos _ hm0
      obtain ⟨k, hk⟩ : ∃ k : Nat, ((h : Int) - 1) % (c : Int) = k := ⟨(((h : Int) - 1) % (c : Int)).toNat, by omega⟩
      have e3 : frame c_common_of [.int c, .int k] [] = .ok (.d (.int ((Nat.gcd c k : Nat) : Int))) [] := frame0 rfl rfl (common_ok (by omega)) rfl
      have y1 := (eBin_ok (al := false) (op := .Sub) (ρ := [some (.int c), some (.int h)]) (S := []) (var_ok (i := 1) (d := .int h) rfl) (g := eC (.int 1)) (e := .int 1) (S2 := []) rfl (r := .d (.int ((h : Int) - 1))) rfl).trans rfl
      have y2 := (eBin_ok (al := false) (op := .Mod) (ρ := [some (.int c), some (.int h)]) (S := []) y1 (var_ok (i := 0) (d := .int c) rfl) hm).trans rfl
      rw [hk] at y2
      have y3 := (eOwn_ok (al := false) (ρ := [some (.int c), some (.int h)]) (S := []) (two_ok (var_ok (i := 0) rfl) y2) e3).trans rfl
      have hu : ucT c h = Nat.gcd c k := by unfold ucT; rw [hk, Int.toNat_natCast]
      rw [hu]
      exact compStep_t (ρ1 := [some (.int c), some (.int h)]) rfl (tVal_ok z1) y3
    · rw [if_neg hg]
      rw [decide_eq_false hg] at z1
      exact compStep_f (ρ1 := [some (.int c), some (.int h)]) rfl (tVal_ok z1))
  exact (eBlt_ok (one_ok (f.trans rfl)) (bSum_of rfl)).trans rfl
/-! ### the law's own functions -/
def divs (n : Nat) : List Int := ((List.range n).filter fun i => n % (i + 1) == 0).map fun (i : Nat) => (i : Int) + 1
theorem ldiv_all : ((List.range 60).all fun i => okNew (c__law_divisors [.int (i + 1 : Nat)] []) (divs (i + 1))) = true := by decide +kernel
theorem lsign_all : ((List.range 60).all fun i => okD (c__law_sign [.int (i + 1 : Nat)] []) (.int (signN (i + 1)))) = true := by decide +kernel
theorem ldiv_ok {n : Nat} (h1 : 1 ≤ n) (h2 : n ≤ 60) : c__law_divisors [.int n] [] = .ok (.new ((divs n).map .int)) [] := by
  obtain ⟨i, rfl⟩ : ∃ i : Nat, n = i + 1 := ⟨n - 1, by omega⟩
  exact okNew_eq (range_all ldiv_all (by omega))
theorem lsign_ok {n : Nat} (h1 : 1 ≤ n) (h2 : n ≤ 60) : c__law_sign [.int n] [] = .ok (.d (.int (signN n))) [] := by
  obtain ⟨i, rfl⟩ : ∃ i : Nat, n = i + 1 := ⟨n - 1, by omega⟩
  exact okD_eq (range_all lsign_all (by omega))
end K96
namespace K96
open PySem L2 DI
/-! ### finite facts for clocks to 60 -/
def usT : List (List Int) := [[], [1], [1, -1], [2, -1, -1], [2, 0, -2, 0], [4, -1, -1, -1, -1], [2, 1, -1, -2, -1, 1], [6, -1, -1, -1, -1, -1, -1], [4, 0, 0, 0, -4, 0, 0, 0], [6, 0, 0, -3, 0, 0, -3, 0, 0], [4, 1, -1, 1, -1, -4, -1, 1, -1, 1], [10, -1, -1, -1, -1, -1, -1, -1, -1, -1, -1], [4, 0, 2, 0, -2, 0, -4, 0, -2, 0, 2, 0], [12, -1, -1, -1, -1, -1, -1, -1, -1, -1, -1, -1, -1], [6, 1, -1, 1, -1, 1, -1, -6, -1, 1, -1, 1, -1, 1], [8, 1, 1, -2, 1, -4, -2, 1, 1, -2, -4, 1, -2, 1, 1], [8, 0, 0, 0, 0, 0, 0, 0, -8, 0, 0, 0, 0, 0, 0, 0], [16, -1, -1, -1, -1, -1, -1, -1, -1, -1, -1, -1, -1, -1, -1, -1, -1], [6, 0, 0, 3, 0, 0, -3, 0, 0, -6, 0, 0, -3, 0, 0, 3, 0, 0], [18, -1, -1, -1, -1, -1, -1, -1, -1, -1, -1, -1, -1, -1, -1, -1, -1, -1, -1], [8, 0, 2, 0, -2, 0, 2, 0, -2, 0, -8, 0, -2, 0, 2, 0, -2, 0, 2, 0], [12, 1, 1, -2, 1, 1, -2, -6, 1, -2, 1, 1, -2, 1, -6, -2, 1, 1, -2, 1, 1], [10, 1, -1, 1, -1, 1, -1, 1, -1, 1, -1, -10, -1, 1, -1, 1, -1, 1, -1, 1, -1, 1], [22, -1, -1, -1, -1, -1, -1, -1, -1, -1, -1, -1, -1, -1, -1, -1, -1, -1, -1, -1, -1, -1, -1], [8, 0, 0, 0, 4, 0, 0, 0, -4, 0, 0, 0, -8, 0, 0, 0, -4, 0, 0, 0, 4, 0, 0, 0], [20, 0, 0, 0, 0, -5, 0, 0, 0, 0, -5, 0, 0, 0, 0, -5, 0, 0, 0, 0, -5, 0, 0, 0, 0], [12, 1, -1, 1, -1, 1, -1, 1, -1, 1, -1, 1, -1, -12, -1, 1, -1, 1, -1, 1, -1, 1, -1, 1, -1, 1], [18, 0, 0, 0, 0, 0, 0, 0, 0, -9, 0, 0, 0, 0, 0, 0, 0, 0, -9, 0, 0, 0, 0, 0, 0, 0, 0], [12, 0, 2, 0, -2, 0, 2, 0, -2, 0, 2, 0, -2, 0, -12, 0, -2, 0, 2, 0, -2, 0, 2, 0, -2, 0, 2, 0], [28, -1, -1, -1, -1, -1, -1, -1, -1, -1, -1, -1, -1, -1, -1, -1, -1, -1, -1, -1, -1, -1, -1, -1, -1, -1, -1, -1, -1], [8, -1, 1, 2, 1, 4, -2, -1, 1, 2, -4, -1, -2, -1, 1, -8, 1, -1, -2, -1, -4, 2, 1, -1, -2, 4, 1, 2, 1, -1], [30, -1, -1, -1, -1, -1, -1, -1, -1, -1, -1, -1, -1, -1, -1, -1, -1, -1, -1, -1, -1, -1, -1, -1, -1, -1, -1, -1, -1, -1, -1], [16, 0, 0, 0, 0, 0, 0, 0, 0, 0, 0, 0, 0, 0, 0, 0, -16, 0, 0, 0, 0, 0, 0, 0, 0, 0, 0, 0, 0, 0, 0, 0], [20, 1, 1, -2, 1, 1, -2, 1, 1, -2, 1, -10, -2, 1, 1, -2, 1, 1, -2, 1, 1, -2, -10, 1, -2, 1, 1, -2, 1, 1, -2, 1, 1], [16, 1, -1, 1, -1, 1, -1, 1, -1, 1, -1, 1, -1, 1, -1, 1, -1, -16, -1, 1, -1, 1, -1, 1, -1, 1, -1, 1, -1, 1, -1, 1, -1, 1], [24, 1, 1, 1, 1, -4, 1, -6, 1, 1, -4, 1, 1, 1, -6, -4, 1, 1, 1, 1, -4, -6, 1, 1, 1, -4, 1, 1, -6, 1, -4, 1, 1, 1, 1], [12, 0, 0, 0, 0, 0, 6, 0, 0, 0, 0, 0, -6, 0, 0, 0, 0, 0, -12, 0, 0, 0, 0, 0, -6, 0, 0, 0, 0, 0, 6, 0, 0, 0, 0, 0], [36, -1, -1, -1, -1, -1, -1, -1, -1, -1, -1, -1, -1, -1, -1, -1, -1, -1, -1, -1, -1, -1, -1, -1, -1, -1, -1, -1, -1, -1, -1, -1, -1, -1, -1, -1, -1], [18, 1, -1, 1, -1, 1, -1, 1, -1, 1, -1, 1, -1, 1, -1, 1, -1, 1, -1, -18, -1, 1, -1, 1, -1, 1, -1, 1, -1, 1, -1, 1, -1, 1, -1, 1, -1, 1], [24, 1, 1, -2, 1, 1, -2, 1, 1, -2, 1, 1, -2, -12, 1, -2, 1, 1, -2, 1, 1, -2, 1, 1, -2, 1, -12, -2, 1, 1, -2, 1, 1, -2, 1, 1, -2, 1, 1], [16, 0, 0, 0, 4, 0, 0, 0, -4, 0, 0, 0, 4, 0, 0, 0, -4, 0, 0, 0, -16, 0, 0, 0, -4, 0, 0, 0, 4, 0, 0, 0, -4, 0, 0, 0, 4, 0, 0, 0], [40, -1, -1, -1, -1, -1, -1, -1, -1, -1, -1, -1, -1, -1, -1, -1, -1, -1, -1, -1, -1, -1, -1, -1, -1, -1, -1, -1, -1, -1, -1, -1, -1, -1, -1, -1, -1, -1, -1, -1, -1], [12, -1, 1, 2, 1, -1, -2, 6, 1, 2, 1, -1, -2, -1, -6, 2, 1, -1, -2, -1, 1, -12, 1, -1, -2, -1, 1, 2, -6, -1, -2, -1, 1, 2, 1, 6, -2, -1, 1, 2, 1, -1], [42, -1, -1, -1, -1, -1, -1, -1, -1, -1, -1, -1, -1, -1, -1, -1, -1, -1, -1, -1, -1, -1, -1, -1, -1, -1, -1, -1, -1, -1, -1, -1, -1, -1, -1, -1, -1, -1, -1, -1, -1, -1, -1], [20, 0, 2, 0, -2, 0, 2, 0, -2, 0, 2, 0, -2, 0, 2, 0, -2, 0, 2, 0, -2, 0, -20, 0, -2, 0, 2, 0, -2, 0, 2, 0, -2, 0, 2, 0, -2, 0, 2, 0, -2, 0, 2, 0], [24, 0, 0, 3, 0, 0, 3, 0, 0, -6, 0, 0, 3, 0, 0, -12, 0, 0, -6, 0, 0, 3, 0, 0, 3, 0, 0, -6, 0, 0, -12, 0, 0, 3, 0, 0, -6, 0, 0, 3, 0, 0, 3, 0, 0], [22, 1, -1, 1, -1, 1, -1, 1, -1, 1, -1, 1, -1, 1, -1, 1, -1, 1, -1, 1, -1, 1, -1, -22, -1, 1, -1, 1, -1, 1, -1, 1, -1, 1, -1, 1, -1, 1, -1, 1, -1, 1, -1, 1, -1, 1], [46, -1, -1, -1, -1, -1, -1, -1, -1, -1, -1, -1, -1, -1, -1, -1, -1, -1, -1, -1, -1, -1, -1, -1, -1, -1, -1, -1, -1, -1, -1, -1, -1, -1, -1, -1, -1, -1, -1, -1, -1, -1, -1, -1, -1, -1, -1], [16, 0, 0, 0, 0, 0, 0, 0, 8, 0, 0, 0, 0, 0, 0, 0, -8, 0, 0, 0, 0, 0, 0, 0, -16, 0, 0, 0, 0, 0, 0, 0, -8, 0, 0, 0, 0, 0, 0, 0, 8, 0, 0, 0, 0, 0, 0, 0], [42, 0, 0, 0, 0, 0, 0, -7, 0, 0, 0, 0, 0, 0, -7, 0, 0, 0, 0, 0, 0, -7, 0, 0, 0, 0, 0, 0, -7, 0, 0, 0, 0, 0, 0, -7, 0, 0, 0, 0, 0, 0, -7, 0, 0, 0, 0, 0, 0], [20, 0, 0, 0, 0, 5, 0, 0, 0, 0, -5, 0, 0, 0, 0, 5, 0, 0, 0, 0, -5, 0, 0, 0, 0, -20, 0, 0, 0, 0, -5, 0, 0, 0, 0, 5, 0, 0, 0, 0, -5, 0, 0, 0, 0, 5, 0, 0, 0, 0], [32, 1, 1, -2, 1, 1, -2, 1, 1, -2, 1, 1, -2, 1, 1, -2, 1, -16, -2, 1, 1, -2, 1, 1, -2, 1, 1, -2, 1, 1, -2, 1, 1, -2, -16, 1, -2, 1, 1, -2, 1, 1, -2, 1, 1, -2, 1, 1, -2, 1, 1], [24, 0, 2, 0, -2, 0, 2, 0, -2, 0, 2, 0, -2, 0, 2, 0, -2, 0, 2, 0, -2, 0, 2, 0, -2, 0, -24, 0, -2, 0, 2, 0, -2, 0, 2, 0, -2, 0, 2, 0, -2, 0, 2, 0, -2, 0, 2, 0, -2, 0, 2, 0], [52, -1, -1, -1, -1, -1, -1, -1, -1, -1, -1, -1, -1, -1, -1, -1, -1, -1, -1, -1, -1, -1, -1, -1, -1, -1, -1, -1, -1, -1, -1, -1, -1, -1, -1, -1, -1, -1, -1, -1, -1, -1, -1, -1, -1, -1, -1, -1, -1, -1, -1, -1, -1], [18, 0, 0, 0, 0, 0, 0, 0, 0, 9, 0, 0, 0, 0, 0, 0, 0, 0, -9, 0, 0, 0, 0, 0, 0, 0, 0, -18, 0, 0, 0, 0, 0, 0, 0, 0, -9, 0, 0, 0, 0, 0, 0, 0, 0, 9, 0, 0, 0, 0, 0, 0, 0, 0], [40, 1, 1, 1, 1, -4, 1, 1, 1, 1, -4, -10, 1, 1, 1, -4, 1, 1, 1, 1, -4, 1, -10, 1, 1, -4, 1, 1, 1, 1, -4, 1, 1, -10, 1, -4, 1, 1, 1, 1, -4, 1, 1, 1, -10, -4, 1, 1, 1, 1, -4, 1, 1, 1, 1], [24, 0, 0, 0, 4, 0, 0, 0, -4, 0, 0, 0, 4, 0, 0, 0, -4, 0, 0, 0, 4, 0, 0, 0, -4, 0, 0, 0, -24, 0, 0, 0, -4, 0, 0, 0, 4, 0, 0, 0, -4, 0, 0, 0, 4, 0, 0, 0, -4, 0, 0, 0, 4, 0, 0, 0], [36, 1, 1, -2, 1, 1, -2, 1, 1, -2, 1, 1, -2, 1, 1, -2, 1, 1, -2, -18, 1, -2, 1, 1, -2, 1, 1, -2, 1, 1, -2, 1, 1, -2, 1, 1, -2, 1, -18, -2, 1, 1, -2, 1, 1, -2, 1, 1, -2, 1, 1, -2, 1, 1, -2, 1, 1], [28, 1, -1, 1, -1, 1, -1, 1, -1, 1, -1, 1, -1, 1, -1, 1, -1, 1, -1, 1, -1, 1, -1, 1, -1, 1, -1, 1, -1, -28, -1, 1, -1, 1, -1, 1, -1, 1, -1, 1, -1, 1, -1, 1, -1, 1, -1, 1, -1, 1, -1, 1, -1, 1, -1, 1, -1, 1], [58, -1, -1, -1, -1, -1, -1, -1, -1, -1, -1, -1, -1, -1, -1, -1, -1, -1, -1, -1, -1, -1, -1, -1, -1, -1, -1, -1, -1, -1, -1, -1, -1, -1, -1, -1, -1, -1, -1, -1, -1, -1, -1, -1, -1, -1, -1, -1, -1, -1, -1, -1, -1, -1, -1, -1, -1, -1, -1], [16, 0, -2, 0, 2, 0, 4, 0, 2, 0, 8, 0, -4, 0, -2, 0, 2, 0, 4, 0, -8, 0, -2, 0, -4, 0, -2, 0, 2, 0, -16, 0, 2, 0, -2, 0, -4, 0, -2, 0, -8, 0, 4, 0, 2, 0, -2, 0, -4, 0, 8, 0, 2, 0, 4, 0, 2, 0, -2, 0]]
theorem usT_ok : ((List.range 61).all fun c => decide (usL c = usT.getD c [])) = true := by decide +kernel
theorem usL_T {c : Nat} (h : c ≤ 60) : usL c = usT.getD c [] := of_decide_eq_true (range_all usT_ok (show c < 61 by omega))
def phiN (n : Nat) : Nat := ((List.range n).filter fun i => Nat.gcd n (i + 1) == 1).length
theorem phi_all : ((List.range 60).all fun i => okD (c__law_many_units [.int (i + 1 : Nat)] []) (.int (phiN (i + 1) : Nat))) = true := by decide +kernel
theorem lus_all : ((List.range 60).all fun i => (List.range (i + 1)).all fun h => okD (c__law_unit_sum [.int (i + 1 : Nat), .int h] []) (.int ((usT.getD (i + 1) []).getD h 7))) = true := by decide +kernel
theorem phi_ok {n : Nat} (h1 : 1 ≤ n) (h2 : n ≤ 60) : c__law_many_units [.int n] [] = .ok (.d (.int (phiN n : Nat))) [] := by
  obtain ⟨i, rfl⟩ : ∃ i : Nat, n = i + 1 := ⟨n - 1, by omega⟩
  exact okD_eq (range_all phi_all (by omega))
theorem lus_ok {c h : Nat} (h1 : h < c) (h2 : c ≤ 60) : c__law_unit_sum [.int c, .int h] [] = .ok (.d (.int ((usT.getD c []).getD h 7))) [] := by
  obtain ⟨i, rfl⟩ : ∃ i : Nat, c = i + 1 := ⟨c - 1, by omega⟩
  exact okD_eq (range_all (range_all lus_all (show i < 60 by omega)) (show h < i + 1 by omega))
end K96
namespace K96
open PySem L2 DI
def cfactB (c : Nat) : Bool := decide ((usT.getD c []).sum = if c = 1 then 1 else 0) && ((List.range c).all fun h => decide ((usT.getD c []).getD h 7 * (phiN (c / Nat.gcd c h) : Nat) = (phiN c : Nat) * signN (c / Nat.gcd c h))) &&
  ((divs c).all fun n => (divs c).all fun f => decide (((List.range c).map fun h => (usT.getD n.toNat []).getD (h % n.toNat) 7 * (usT.getD f.toNat []).getD (h % f.toNat) 7).sum = if n = f then c * (phiN n.toNat : Nat) else 0))
theorem cfact_all : ((List.range 60).all fun i => cfactB (i + 1)) = true := by decide +kernel
end K96
namespace K96
open PySem L2 DI
/-! ### _law_common_right -/
def dueC (c : Nat) : List Int := (List.range c).map fun i => ((Nat.gcd c (i + 1) : Nat) : Int)
def unitsL (c : Nat) : List Nat := (List.range c).filter fun h => Nat.gcd c h == 1
def dueU (c : Nat) : List Int := (unitsL c).map fun h => ((Nat.gcd c (h - 1) : Nat) : Int)
theorem crfact_all : ((List.range 60).all fun i => decide ((dueC (i + 1)).sum = CS (i + 1)) && decide ((dueU (i + 1)).sum = UC (i + 1)) && decide (UC (i + 1) = ((unitsL (i + 1)).length : Int) * (divs (i + 1)).length)) = true := by decide +kernel
theorem crfact {c : Nat} (h1 : 1 ≤ c) (h2 : c ≤ 60) : (dueC c).sum = CS c ∧ (dueU c).sum = UC c ∧ UC c = ((unitsL c).length : Int) * (divs c).length := by
  obtain ⟨i, rfl⟩ : ∃ i : Nat, c = i + 1 := ⟨c - 1, by omega⟩
  have h := range_all crfact_all (show i < 60 by omega)
  simp only [Bool.and_eq_true, decide_eq_true_eq] at h
  exact ⟨h.1.1, h.1.2, h.2⟩
theorem frame_lcommon (a b : Nat) (hb : b ≤ 1000000000) (S : Store) : frame c__law_common [.int a, .int b] S = .ok (.d (.int ((Nat.gcd a b : Nat) : Int))) S := frame0 rfl rfl (lcommon_ok hb) rfl
theorem sum_small {l : List Int} {B : Nat} (h : ∀ x ∈ l, x.natAbs ≤ B) : (l.sum).natAbs ≤ l.length * B := by
  induction l with
  | nil => simp
  | cons x r ih =>
    have h1 := h x List.mem_cons_self
    have h2 := ih fun y hy => h y (List.mem_cons_of_mem _ hy)
    rw [List.sum_cons, List.length_cons, Nat.add_mul]
    omega
theorem dueC_small {c : Nat} (h1 : 1 ≤ c) (h2 : c ≤ 60) : ((dueC c).sum).natAbs < T40 := by
  have := sum_small (l := dueC c) (B := 60) fun x hx => by
    obtain ⟨i, hi, rfl⟩ := List.mem_map.mp hx
    have : Nat.gcd c (i + 1) ≤ c := Nat.le_of_dvd h1 (Nat.gcd_dvd_left _ _)
    omega
  have hl : (dueC c).length = c := by unfold dueC; simp
  rw [hl] at this
  have : c * 60 ≤ 60 * 60 := Nat.mul_le_mul_right _ h2
  unfold T40; omega
theorem dueU_small {c : Nat} (h1 : 1 ≤ c) (h2 : c ≤ 60) : ((dueU c).sum).natAbs < T40 := by
  have := sum_small (l := dueU c) (B := 60) fun x hx => by
    obtain ⟨i, hi, rfl⟩ := List.mem_map.mp hx
    have : Nat.gcd c (i - 1) ≤ c := Nat.le_of_dvd h1 (Nat.gcd_dvd_left _ _)
    omega
  have hl : (dueU c).length ≤ c := by
    unfold dueU unitsL
    rw [List.length_map]
    refine Nat.le_trans (List.length_filter_le _ _) ?_
    rw [List.length_range]; exact Nat.le_refl _
  have : (dueU c).length * 60 ≤ 60 * 60 := Nat.mul_le_mul_right _ (by omega)
  unfold T40; omega
theorem repr_two {S : Store} {v : Int} (h : v.natAbs < T40) : reprD S (.lst [.int v, .int v]) = some (PyData.list ([v, v].map .int)).shown :=
  reprD_of (toP_lst S [v, v]) (small_ints (ns := [v, v]) (fun x hx => by
    simp only [List.mem_cons, List.not_mem_nil, or_false] at hx
    rcases hx with rfl | rfl <;> exact h) (by simp)).1
end K96
namespace K96
open PySem L2 DI
theorem rngI1 (c : Nat) : rngI 1 ((c : Int) + 1) = (List.range c).map fun (i : Nat) => (i : Int) + 1 := by
  unfold rngI
  have : ((c : Int) + 1 - 1).toNat = c := by omega
  rw [this]
  exact List.map_congr_left fun i _ => by omega
theorem filter_map_if (c : Nat) : (List.range c).filterMap (fun h => if Nat.gcd c h = 1 then some (h : Int) else none) = (unitsL c).map fun (h : Nat) => (h : Int) := by
  unfold unitsL
  generalize List.range c = l
  induction l with
  | nil => rfl
  | cons x r ih =>
    by_cases h : Nat.gcd c x = 1
    · rw [List.filterMap_cons_some (by rw [if_pos h]), List.filter_cons_of_pos (by simpa using h), List.map_cons, ih]
    · rw [List.filterMap_cons_none (by rw [if_neg h]), List.filter_cons_of_neg (by simpa using h), ih]
theorem cright_ok {c : Nat} (h1 : 1 ≤ c) (h2 : c ≤ 60) : c__law_common_right [.int c] [] = .ok (.d (.bl true)) [] := by
  obtain ⟨k1, k2, k3⟩ := crfact h1 h2
  have s1 := dueC_small h1 h2
  have s2 := dueU_small h1 h2
  have e1 : frame c_common_sum [.int c] [] = .ok (.d (.int (CS c))) [] := frame0 rfl rfl (common_sum_ok h1 (by omega)) rfl
  have e2 : frame c_unit_common_sum [.int c] [] = .ok (.d (.int (UC c))) [] := frame0 rfl rfl (unit_common_ok h1 (by omega)) rfl
  have e3 : frame c__law_divisors [.int c] [] = .ok (.new ((divs c).map .int)) [] := frame0 rfl rfl (ldiv_ok h1 h2) (backR_ints _)
  rw [← k1] at e1
  rw [← k2] at e2 k3
  have f1 := eComp_ints (al := false) (w := wRng2 (eC (.int 1)) (eBin false .Add (eVar 0) (eC (.int 1)))) (ρ := [some (.int c), none, none, none, none]) (S := []) (src := []) (vs := [3]) (c := .one 3) (t := tYesE) (f := eOwn false (frame c__law_common) (eCons (eVar 0) (eCons (eVar 3) (eNil)))) (ns := rngI 1 ((c : Int) + 1)) (fun n => .int ((Nat.gcd c n.toNat : Nat) : Int)) (by
    rw [← rngL_ints]
    exact wRng2_small (a := 1) (b := (c : Int) + 1) (S1 := []) rfl ((eBin_ok (op := .Add) (var_ok (i := 0) (d := .int c) rfl) (g := eC (.int 1)) (e := .int 1) (S2 := []) rfl (r := .d (.int ((c : Int) + 1))) rfl).trans rfl) (by omega) (by omega) (by omega) (by omega)) rfl (fun n hn => by
    have hm := mem_rngI.mp hn
    obtain ⟨k, rfl⟩ : ∃ k : Nat, n = k := ⟨n.toNat, by omega⟩
    rw [Int.toNat_natCast]
    exact compStep_yes (ρ1 := [some (.int c), none, none, some (.int k), none]) rfl ((eOwn_ok (two_ok (var_ok (i := 0) rfl) (var_ok (i := 3) rfl)) (frame_lcommon c k (by omega) [])).trans rfl))
  have q1 : ((rngI 1 ((c : Int) + 1)).map fun n => ((Nat.gcd c n.toNat : Nat) : Int)) = dueC c := by
    rw [rngI1, List.map_map]
    unfold dueC
    refine List.map_congr_left fun i _ => ?_
    show ((Nat.gcd c ((i : Int) + 1).toNat : Nat) : Int) = _
    have : ((i : Int) + 1).toNat = i + 1 := by omega
    rw [this]
  have f2 := fun v => eComp_filtI (al := false) (w := wRng1 (eVar 0)) (ρ := [some (.int c), some (.int v), none, none, none]) (S := []) (src := []) (vs := [4]) (c := .one 4) (t := tVal (eCmp .Eq (eOwn false (frame c__law_common) (eCons (eVar 0) (eCons (eVar 4) (eNil)))) (eC (.int 1)))) (f := eVar 4) (n := c) (fun h => if Nat.gcd c h = 1 then some (h : Int) else none) (by
    rw [← rngL_ints]
    exact wRng1_ok (var_ok rfl) (rngOk_small (by omega) (by omega) (by omega) (by omega))) rfl (fun h hh => by
    have z1 := (eOwn_ok (al := false) (ρ := [some (.int c), some (.int v), none, none, some (.int h)]) (S := []) (two_ok (var_ok (i := 0) rfl) (var_ok (i := 4) rfl)) (frame_lcommon c h (by omega) [])).trans rfl
    by_cases hg : Nat.gcd c h = 1
    · rw [if_pos hg]
      exact compStep_t (ρ1 := [some (.int c), some (.int v), none, none, some (.int h)]) rfl (tVal_ok (eCmp_ok z1 (e := .int 1) (S2 := []) rfl (by rw [cmp_eq eqvD_ints, hg]; rfl))) (var_ok rfl)
    · rw [if_neg hg]
      exact compStep_f (ρ1 := [some (.int c), some (.int v), none, none, some (.int h)]) rfl (tVal_ok (eCmp_ok z1 (e := .int 1) (S2 := []) rfl (by rw [cmp_eq eqvD_ints, decide_eq_false (by omega)]))))
  have f3 := fun v => eComp_ints (al := false) (w := wSeq (eVar 2)) (ρ := [some (.int c), some (.int v), some (.lst (((unitsL c).map fun (h : Nat) => (h : Int)).map .int)), none, none]) (S := []) (src := []) (vs := [4]) (c := .one 4) (t := tYesE) (f := eOwn false (frame c__law_common) (eCons (eVar 0) (eCons (eBlt false bMax (eCons (eC (.int 0)) (eCons (eBin false .Sub (eVar 4) (eC (.int 1))) (eNil)))) (eNil)))) (ns := (unitsL c).map fun (h : Nat) => (h : Int)) (fun n => .int ((Nat.gcd c (n.toNat - 1) : Nat) : Int)) (wSeq_ok (d := .lst (((unitsL c).map fun (h : Nat) => (h : Int)).map .int)) (S1 := []) (var_ok rfl) rfl) rfl (fun n hn => by
    obtain ⟨h, hh, rfl⟩ := List.mem_map.mp hn
    have hlt : h < c := List.mem_range.mp (List.mem_filter.mp hh).1
    have y1 := (eBin_ok (al := false) (op := .Sub) (ρ := [some (.int c), some (.int v), some (.lst (((unitsL c).map fun (h : Nat) => (h : Int)).map .int)), none, some (.int h)]) (S := []) (var_ok (i := 4) (d := .int h) rfl) (g := eC (.int 1)) (e := .int 1) (S2 := []) rfl (r := .d (.int ((h : Int) - 1))) rfl).trans rfl
    have hmax : bMax [] [.int 0, .int ((h : Int) - 1)] = some (.d (.int ((h - 1 : Nat) : Int))) := by
      have e : (if (h : Int) - 1 > 0 then (h : Int) - 1 else 0) = ((h - 1 : Nat) : Int) := by split <;> omega
      rw [← e]; rfl
    have y2 := (eBlt_ok (al := false) (two_ok (f := eC (.int 0)) (S1 := []) rfl y1) hmax).trans rfl
    rw [Int.toNat_natCast]
    exact compStep_yes (ρ1 := [some (.int c), some (.int v), some (.lst (((unitsL c).map fun (h : Nat) => (h : Int)).map .int)), none, some (.int h)]) rfl ((eOwn_ok (two_ok (var_ok (i := 0) rfl) y2) (frame_lcommon c (h - 1) (by omega) [])).trans rfl))
  have q3 : (((unitsL c).map fun (h : Nat) => (h : Int)).map fun n => ((Nat.gcd c (n.toNat - 1) : Nat) : Int)) = dueU c := by
    rw [List.map_map]; rfl
  have f1 := f1.trans (by rw [sums_map, q1])
  have f2 := fun v => (f2 v).trans (by rw [filter_map_if])
  have f3 := fun v => (f3 v).trans (by rw [sums_map, q3])
  have b1 : bSum [] [.lst ((dueC c).map .int)] = some (.d (.int (dueC c).sum)) := bSum_of rfl
  have b2 : bSum [] [.lst ((dueU c).map .int)] = some (.d (.int (dueU c).sum)) := bSum_of rfl
  have hlen : ((unitsL c).map fun (h : Nat) => (h : Int)).length = (unitsL c).length := List.length_map ..
  generalize (dueC c).sum = v1 at e1 s1 b1
  generalize (dueU c).sum = v2 at e2 s2 b2 k3
  generalize ((unitsL c).map fun (h : Nat) => (h : Int)) = U at f2 f3 hlen
  refine runF_rt (d := .bl true) (S1 := []) rfl ?_ (retF_low rfl)
  unfold b__law_common_right
  show sSeq _ _ [some (.int c), none, none, none, none] [] = _
  refine (asg_nx (d := .int v1) (S1 := []) ((eBlt_ok (one_ok (f1.trans rfl)) b1).trans rfl)).trans ?_
  simp only [List.set_cons_succ, List.set_cons_zero]
  refine (if_nx (S1 := []) (tVal_ok (eCmp_ok (repr_ok (one_ok ((lst_ok (two_ok ((eOwn_ok (one_ok (var_ok rfl)) e1).trans rfl) ((eOwnK_ok (ds := []) (S1 := []) rfl (one_ok (var_ok rfl)) ⟨rfl, rfl⟩ e1).trans rfl)) (by simp)).trans rfl)) (repr_two s1)) (repr_ok (one_ok ((lst_ok (two_ok (var_ok rfl) (var_ok rfl)) (by simp)).trans rfl)) (repr_two s1)) ?_))).trans ?_
  · rw [cmp_ne eqvD_strs]; simp
  refine (asg_nx (d := .lst (U.map .int)) (S1 := []) ((f2 v1).trans rfl)).trans ?_
  simp only [List.set_cons_succ, List.set_cons_zero]
  refine (asg_nx (d := .int v2) (S1 := []) ((eBlt_ok (one_ok ((f3 v1).trans rfl)) b2).trans rfl)).trans ?_
  simp only [List.set_cons_succ, List.set_cons_zero]
  refine (if_nx (S1 := []) (tVal_ok (eCmp_ok (repr_ok (one_ok ((lst_ok (two_ok ((eOwn_ok (one_ok (var_ok rfl)) e2).trans rfl) ((eOwnK_ok (ds := []) (S1 := []) rfl (one_ok (var_ok rfl)) ⟨rfl, rfl⟩ e2).trans rfl)) (by simp)).trans rfl)) (repr_two s2)) (repr_ok (one_ok ((lst_ok (two_ok (var_ok rfl) (var_ok rfl)) (by simp)).trans rfl)) (repr_two s2)) ?_))).trans ?_
  · rw [cmp_ne eqvD_strs]; simp
  have hm : (if mulOk ((unitsL c).length : Int) ((divs c).length : Int) then some (Res.d (.int (((unitsL c).length : Int) * ((divs c).length : Int)))) else none) = some (.d (.int v2)) := by
    rw [k3]
    refine if_pos ?_
    have hl : (unitsL c).length ≤ c := by
      unfold unitsL
      refine Nat.le_trans (List.length_filter_le _ _) ?_
      rw [List.length_range]; exact Nat.le_refl _
    unfold mulOk; simp only [Bool.or_eq_true, decide_eq_true_eq]; exact .inl (by omega)
  have w1 : bLen [] [.lst (U.map .int)] = some (.d (.int ((unitsL c).length : Int))) := by rw [bLen_of rfl, List.length_map, hlen]
  have w2 : bLen [] [.lst ((divs c).map .int)] = some (.d (.int ((divs c).length : Int))) := by rw [bLen_of rfl, List.length_map]
  refine ret_rt (eCmp_ok (var_ok rfl) ((eBin_ok (op := .Mult) ((eBlt_ok (one_ok (var_ok rfl)) w1).trans rfl) ((eBlt_ok (one_ok ((eOwn_ok (one_ok (var_ok rfl)) e3).trans rfl)) w2).trans rfl) hm).trans rfl) ?_)
  rw [cmp_eq eqvD_ints]; simp
end K96
namespace K96
open PySem L2 DI
/-! ### _law_clock_right -/
theorem usL_len (c : Nat) : (usL c).length = c := by unfold usL; simp
theorem usL_get {c h : Nat} (hh : h < c) : (usL c)[h]? = some (US c (Nat.gcd c h)) := by
  unfold usL
  rw [List.getElem?_map, List.getElem?_range hh]; rfl
theorem us_get7 {c h : Nat} (hh : h < c) (hc : c ≤ 60) : (usT.getD c []).getD h 7 = US c (Nat.gcd c h) := by
  rw [← usL_T hc, List.getD_eq_getElem?_getD, usL_get hh]; rfl
theorem range_map_self (l : List Int) : (List.range l.length).map (fun h => (l[h]?).getD 7) = l := by
  apply List.ext_getElem?
  intro i
  rw [List.getElem?_map]
  by_cases hi : i < l.length
  · rw [List.getElem?_range hi, List.getElem?_eq_getElem hi]
    simp [List.getElem?_eq_getElem hi]
  · rw [List.getElem?_eq_none (by simpa using hi), List.getElem?_eq_none (by omega)]; rfl
theorem cfact {c : Nat} (h1 : 1 ≤ c) (h2 : c ≤ 60) : (usL c).sum = (if c = 1 then 1 else 0) ∧ (∀ h, h < c → US c (Nat.gcd c h) * (phiN (c / Nat.gcd c h) : Nat) = (phiN c : Nat) * signN (c / Nat.gcd c h)) ∧
    (∀ n ∈ divs c, ∀ f ∈ divs c, ((List.range c).map fun h => (usT.getD n.toNat []).getD (h % n.toNat) 7 * (usT.getD f.toNat []).getD (h % f.toNat) 7).sum = if n = f then c * (phiN n.toNat : Nat) else 0) := by
  obtain ⟨i, rfl⟩ : ∃ i : Nat, c = i + 1 := ⟨c - 1, by omega⟩
  have h := range_all cfact_all (show i < 60 by omega)
  unfold cfactB at h
  simp only [Bool.and_eq_true, decide_eq_true_eq, List.all_eq_true] at h
  obtain ⟨⟨a1, a2⟩, a3⟩ := h
  refine ⟨by rw [usL_T h2]; exact a1, fun h hh => ?_, a3⟩
  rw [← us_get7 hh h2]
  exact a2 h (List.mem_range.mpr hh)
theorem mem_divs {n : Nat} {d : Int} (h : d ∈ divs n) : ∃ k : Nat, d = k ∧ 1 ≤ k ∧ k ≤ n := by
  unfold divs at h
  obtain ⟨i, hi, rfl⟩ := List.mem_map.mp h
  have := List.mem_range.mp (List.mem_filter.mp hi).1
  exact ⟨i + 1, by omega, by omega, by omega⟩
theorem US_small {c g : Nat} (hc : 1 ≤ c) (h60 : c ≤ 60) {h : Nat} (hh : h < c) (hg : g = Nat.gcd c h) : (US c g).natAbs ≤ 10000 := by
  subst hg
  have hall : ((List.range 61).all fun c => (usT.getD c []).all fun v => decide (v.natAbs ≤ 10000)) = true := by decide +kernel
  have := range_all hall (show c < 61 by omega)
  rw [← usL_T h60, List.all_eq_true] at this
  exact of_decide_eq_true (this _ (List.mem_of_getElem? (usL_get hh)))
theorem usL_small {c : Nat} (h60 : c ≤ 60) : ∀ v ∈ usL c, v.natAbs < T40 := fun v hv => by
  obtain ⟨h, hh, rfl⟩ := List.mem_map.mp hv
  have hh := List.mem_range.mp hh
  have := US_small (c := c) (by omega) h60 hh rfl
  unfold T40; omega
end K96
namespace K96
open PySem L2 DI
theorem seven_ints {S : Store} {d e : D} {xs : List Int} (h : d.toP S = some (.list (xs.map .int))) (g : e.toP S = some (.list (xs.map .int))) (hs : ∀ v ∈ xs, v.natAbs < T40) (hl : xs.length ≤ 60) : reprD S (.lst [d, e]) = some (PyData.list [.list (xs.map .int), .list (xs.map .int)]).shown := by
  obtain ⟨s1, s2, s3⟩ := small_ints hs (by omega)
  refine reprD_of ?_ (small_two s1 s1 s2 s2 (by omega) (by omega))
  unfold D.toP
  simp [toPs, h, g]
theorem frame_many {n : Nat} (h1 : 1 ≤ n) (h2 : n ≤ 60) (S : Store) : frame c__law_many_units [.int n] S = .ok (.d (.int (phiN n : Nat))) S := frame0 rfl rfl (phi_ok h1 h2) rfl
theorem frame_lsign {n : Nat} (h1 : 1 ≤ n) (h2 : n ≤ 60) (S : Store) : frame c__law_sign [.int n] S = .ok (.d (.int (signN n))) S := frame0 rfl rfl (lsign_ok h1 h2) rfl
theorem frame_ldiv {n : Nat} (h1 : 1 ≤ n) (h2 : n ≤ 60) (S : Store) : frame c__law_divisors [.int n] S = .ok (.new ((divs n).map .int)) S := frame0 rfl rfl (ldiv_ok h1 h2) (backR_ints _)
theorem frame_us {n h : Nat} (h1 : h < n) (h2 : n ≤ 2000) (S : Store) : frame c_unit_sum [.int n, .int h] S = .ok (.d (.int (US n (Nat.gcd n h)))) S := frame0 rfl rfl (unit_sum_ok h1 h2) rfl
theorem frame_usL {n : Nat} (h1 : 1 ≤ n) (h2 : n ≤ 2000) (S : Store) : frame c_unit_sums [.int n] S = .ok (.new ((usL n).map .int)) S := frame0 rfl rfl (unit_sums_ok h1 h2) (backR_ints _)
theorem phi_le (n : Nat) : phiN n ≤ n := by
  unfold phiN
  refine Nat.le_trans (List.length_filter_le _ _) ?_
  rw [List.length_range]; exact Nat.le_refl _
end K96
namespace K96
open PySem L2 DI
theorem tup_ok {g : EvL} {ρ : Rho} {ds : List D} {S S1 : Store} (h : g ρ S = .ok ds S1) (hl : ds.length ≤ 100000) : eTup g ρ S = .ok (.tup ds) S1 := by
  unfold eTup; rw [h]
  show (if ds.length ≤ LINE then _ else _) = _
  rw [if_pos (by unfold LINE; omega)]
theorem usL_at {m h : Nat} (hm : 1 ≤ m) : atI ((usL m).map D.int) (((h : Int) % (m : Int))) = some (.int (US m (Nat.gcd m (h % m)))) := by
  have hlt : h % m < m := Nat.mod_lt _ hm
  have e : (h : Int) % (m : Int) = ((h % m : Nat) : Int) := rfl
  rw [e, atI_ints (by omega) (by rw [usL_len]; omega)]
  unfold gI
  rw [Int.toNat_natCast, usL_get hlt]; rfl
theorem clock_total {c n f : Nat} (h60 : c ≤ 60) (n1 : 1 ≤ n) (n2 : n ≤ c) (m1 : 1 ≤ f) (m2 : f ≤ c) (x0 x2 x3 x4 x5 x6 : Option D) (S : Store) :
    eBlt false bSum (eCons (eComp false (wRng1 (eVar 1)) [5] (.one 5) (tYesE) (eBin false .Mult (eGet (eGet (eVar 9) (eC (.int 0))) (eBlt false (fun _ => bInt) (eCons (eBin false .Mod (eVar 5) (eVar 7)) (eNil)))) (eGet (eGet (eVar 9) (eC (.int 1))) (eBlt false (fun _ => bInt) (eCons (eBin false .Mod (eVar 5) (eVar 8)) (eNil)))))) (eNil)) [x0, some (.int c), x2, x3, x4, x5, x6, some (.int n), some (.int f), some (.lst [.lst ((usL n).map .int), .lst ((usL f).map .int)]), none] S
      = .ok (.int ((List.range c).map fun h => (usT.getD n []).getD (h % n) 7 * (usT.getD f []).getD (h % f) 7).sum) S := by
  have f1 := eComp_ints (al := false) (w := wRng1 (eVar 1)) (ρ := [x0, some (.int c), x2, x3, x4, x5, x6, some (.int n), some (.int f), some (.lst [.lst ((usL n).map .int), .lst ((usL f).map .int)]), none]) (S := S) (src := []) (vs := [5]) (c := .one 5) (t := tYesE) (f := (eBin false .Mult (eGet (eGet (eVar 9) (eC (.int 0))) (eBlt false (fun _ => bInt) (eCons (eBin false .Mod (eVar 5) (eVar 7)) (eNil)))) (eGet (eGet (eVar 9) (eC (.int 1))) (eBlt false (fun _ => bInt) (eCons (eBin false .Mod (eVar 5) (eVar 8)) (eNil)))))) (ns := rngI 0 c) (fun h => .int ((usT.getD n []).getD (h.toNat % n) 7 * (usT.getD f []).getD (h.toNat % f) 7)) (by
    rw [← rngL_ints]
    exact wRng1_ok (var_ok rfl) (rngOk_small (by omega) (by omega) (by omega) (by omega))) rfl (fun h hh => by
    have hm := mem_rngI.mp hh
    obtain ⟨k, rfl⟩ : ∃ k : Nat, h = k := ⟨h.toNat, by omega⟩
    rw [Int.toNat_natCast]
    have l1 : k % n < n := Nat.mod_lt _ n1
    have l2 : k % f < f := Nat.mod_lt _ m1
    rw [us_get7 l1 (by omega), us_get7 l2 (by omega)]
    have b1 := US_small n1 (by omega) l1 rfl
    have a1 := usL_at (m := n) (h := k) n1
    have a2 := usL_at (m := f) (h := k) m1
    generalize US n (Nat.gcd n (k % n)) = u at *
    generalize US f (Nat.gcd f (k % f)) = v at *
    generalize usL n = U at *
    generalize usL f = V at *
    have md1 : (if decide ((0 : Int) < n) then some (Res.d (.int ((k : Int) % n))) else none) = some (.d (.int ((k : Int) % n))) := if_pos (by simp; omega)
    have md2 : (if decide ((0 : Int) < f) then some (Res.d (.int ((k : Int) % f))) else none) = some (.d (.int ((k : Int) % f))) := if_pos (by simp; omega)
    have mm : (if mulOk u v then some (Res.d (.int (u * v))) else none) = some (.d (.int (u * v))) := if_pos (by
      unfold mulOk; simp only [Bool.or_eq_true, decide_eq_true_eq]; exact .inl (by omega))
    have y1 : eBlt false (fun _ => bInt) (eCons (eBin false .Mod (eVar 5) (eVar 7)) (eNil)) [x0, some (.int c), x2, x3, x4, some (.int k), x6, some (.int n), some (.int f), some (.lst [.lst (U.map .int), .lst (V.map .int)]), none] S = .ok (.int ((k : Int) % n)) S := (eBlt_ok (one_ok ((eBin_ok (op := .Mod) (var_ok (d := .int k) rfl) (var_ok (d := .int n) rfl) md1).trans rfl)) (r := .d (.int ((k : Int) % n))) rfl).trans rfl
    have y2 : eBlt false (fun _ => bInt) (eCons (eBin false .Mod (eVar 5) (eVar 8)) (eNil)) [x0, some (.int c), x2, x3, x4, some (.int k), x6, some (.int n), some (.int f), some (.lst [.lst (U.map .int), .lst (V.map .int)]), none] S = .ok (.int ((k : Int) % f)) S := (eBlt_ok (one_ok ((eBin_ok (op := .Mod) (var_ok (d := .int k) rfl) (var_ok (d := .int f) rfl) md2).trans rfl)) (r := .d (.int ((k : Int) % f))) rfl).trans rfl
    exact compStep_yes (ρ1 := [x0, some (.int c), x2, x3, x4, some (.int k), x6, some (.int n), some (.int f), some (.lst [.lst (U.map .int), .lst (V.map .int)]), none]) rfl ((eBin_ok (op := .Mult) (eGet_ok (d := .lst (U.map .int)) (S1 := S) (eGet_ok (var_ok rfl) (g := eC (.int 0)) (e := .int 0) (S2 := S) rfl rfl) y1 a1) (eGet_ok (d := .lst (V.map .int)) (S1 := S) (eGet_ok (var_ok rfl) (g := eC (.int 1)) (e := .int 1) (S2 := S) rfl rfl) y2 a2) mm).trans rfl))
  have q1 : ((rngI 0 c).map fun h => (usT.getD n []).getD (h.toNat % n) 7 * (usT.getD f []).getD (h.toNat % f) 7) = (List.range c).map fun h => (usT.getD n []).getD (h % n) 7 * (usT.getD f []).getD (h % f) 7 := by
    rw [rngI0, List.map_map]
    refine List.map_congr_left fun i _ => ?_
    show (usT.getD n []).getD ((i : Int).toNat % n) 7 * (usT.getD f []).getD ((i : Int).toNat % f) 7 = _
    rw [Int.toNat_natCast]
  have f1 := f1.trans (by rw [sums_map, q1])
  exact (eBlt_ok (one_ok (f1.trans rfl)) (bSum_of rfl)).trans rfl
theorem clock_right {c : Nat} (h1 : 1 ≤ c) (h60 : c ≤ 60) (a b : Int) (ha : 0 ≤ a) : ∃ a' b', 0 ≤ a' ∧ c__law_clock_right [.cel 0, .int c] [pot a b] = .ok (.d (.bl true)) [pot a' b'] := by
  obtain ⟨k1, k2, k3⟩ := cfact h1 h60
  have hlen := usL_len c
  have hsm := usL_small h60
  have g1 : ∀ S, frame c_unit_sums [.int c] S = .ok (.new ((usL c).map .int)) S := fun S => frame_usL h1 (by omega) S
  have f1 := eComp_ints (al := false) (w := wRng1 (eVar 1)) (ρ := [some (.cel 0), some (.int c), none, none, none, none, none, none, none, none, none]) (S := [pot a b]) (src := []) (vs := [5]) (c := .one 5) (t := tYesE) (f := eOwn false (frame c__law_unit_sum) (eCons (eVar 1) (eCons (eVar 5) (eNil)))) (ns := rngI 0 c) (fun n => .int ((usT.getD c []).getD n.toNat 7)) (by
    rw [← rngL_ints]
    exact wRng1_ok (var_ok rfl) (rngOk_small (by omega) (by omega) (by omega) (by omega))) rfl (fun n hn => by
    have hm := mem_rngI.mp hn
    obtain ⟨k, rfl⟩ : ∃ k : Nat, n = k := ⟨n.toNat, by omega⟩
    rw [Int.toNat_natCast]
    have e : frame c__law_unit_sum [.int c, .int k] [pot a b] = .ok (.d (.int ((usT.getD c []).getD k 7))) [pot a b] := frame0 rfl rfl (lus_ok (by omega) h60) rfl
    exact compStep_yes (ρ1 := [some (.cel 0), some (.int c), none, none, none, some (.int k), none, none, none, none, none]) rfl ((eOwn_ok (two_ok (var_ok (i := 1) rfl) (var_ok (i := 5) rfl)) e).trans rfl))
  have q1 : ((rngI 0 c).map fun n => (usT.getD c []).getD n.toNat 7) = usL c := by
    rw [rngI0, List.map_map]
    unfold usL
    refine List.map_congr_left fun i hi => ?_
    show (usT.getD c []).getD ((i : Int)).toNat 7 = _
    rw [Int.toNat_natCast]
    exact us_get7 (List.mem_range.mp hi) h60
  have f1 := f1.trans (by rw [sums_map, q1])
  have hget : ∀ h : Nat, h < c → atI ((usL c).map D.int) (h : Int) = some (.int (US c (Nat.gcd c h))) := fun h hh => by
    rw [atI_ints (by omega) (by rw [hlen]; omega)]
    unfold gI
    rw [Int.toNat_natCast, usL_get hh]; rfl
  generalize hU : usL c = U at *
  generalize hT : some (Cell.lst (U.map D.int ++ [D.non])) = T
  have loop : ∀ a b : Int, 0 ≤ a → ∃ a' b' s h g, 0 ≤ a' ∧ sFor (wRng1 (eC (.int 5))) (gVar 4) (sSeq (sAsg (eOwn false (frame c__law_draw) (eCons (eVar 0) (eCons (eVar 1) (eNil)))) (gVar 5)) (sSeq (sAsg (eOwn false (frame c__law_common) (eCons (eVar 1) (eCons (eVar 5) (eNil)))) (gVar 6)) (sSeq (sIf (tVal (eCmp .NotEq (eBlt false bRepr (eCons (eLst false (eCons (eOwn false (frame c_unit_sum) (eCons (eVar 1) (eCons (eVar 5) (eNil)))) (eCons (eOwnK false (frame c_unit_sum) 0 ["clock", "hour"] ["hour", "clock"] (eNil) (eCons (eVar 5) (eCons (eVar 1) (eNil)))) (eNil)))) (eNil))) (eBlt false bRepr (eCons (eBin false .Mult (eLst false (eCons (eGet (eVar 2) (eVar 5)) (eNil))) (eC (.int 2))) (eNil))))) (sSeq (sRet (eC (.bl false))) (sNext)) (sNext)) (sSeq (sIf (tVal (eCmp .NotEq (eBin false .Mult (eGet (eVar 2) (eVar 5)) (eOwn false (frame c__law_many_units) (eCons (eBin false .FloorDiv (eVar 1) (eVar 6)) (eNil)))) (eBin false .Mult (eOwn false (frame c__law_many_units) (eCons (eVar 1) (eNil))) (eOwn false (frame c__law_sign) (eCons (eBin false .FloorDiv (eVar 1) (eVar 6)) (eNil)))))) (sSeq (sRet (eC (.bl false))) (sNext)) (sNext)) (sNext))))) [some (.cel 0), some (.int c), some (.lst (U.map .int)), some (.cel 1), none, none, none, none, none, none, none] [pot a b, T] = .ok (.nx [some (.cel 0), some (.int c), some (.lst (U.map .int)), some (.cel 1), s, h, g, none, none, none, none]) [pot a' b', T] := fun a b ha => by
    obtain ⟨ρ', S', e, a', b', s, h, g, ha', r1, r2⟩ := sFor_inv (I := fun _ ρ S => ∃ a b s h g, 0 ≤ a ∧ ρ = [some (.cel 0), some (.int c), some (.lst (U.map .int)), some (.cel 1), s, h, g, none, none, none, none] ∧ S = [pot a b, T]) (w := wRng1 (eC (.int 5))) (g := gVar 4) (b := (sSeq (sAsg (eOwn false (frame c__law_draw) (eCons (eVar 0) (eCons (eVar 1) (eNil)))) (gVar 5)) (sSeq (sAsg (eOwn false (frame c__law_common) (eCons (eVar 1) (eCons (eVar 5) (eNil)))) (gVar 6)) (sSeq (sIf (tVal (eCmp .NotEq (eBlt false bRepr (eCons (eLst false (eCons (eOwn false (frame c_unit_sum) (eCons (eVar 1) (eCons (eVar 5) (eNil)))) (eCons (eOwnK false (frame c_unit_sum) 0 ["clock", "hour"] ["hour", "clock"] (eNil) (eCons (eVar 5) (eCons (eVar 1) (eNil)))) (eNil)))) (eNil))) (eBlt false bRepr (eCons (eBin false .Mult (eLst false (eCons (eGet (eVar 2) (eVar 5)) (eNil))) (eC (.int 2))) (eNil))))) (sSeq (sRet (eC (.bl false))) (sNext)) (sNext)) (sSeq (sIf (tVal (eCmp .NotEq (eBin false .Mult (eGet (eVar 2) (eVar 5)) (eOwn false (frame c__law_many_units) (eCons (eBin false .FloorDiv (eVar 1) (eVar 6)) (eNil)))) (eBin false .Mult (eOwn false (frame c__law_many_units) (eCons (eVar 1) (eNil))) (eOwn false (frame c__law_sign) (eCons (eBin false .FloorDiv (eVar 1) (eVar 6)) (eNil)))))) (sSeq (sRet (eC (.bl false))) (sNext)) (sNext)) (sNext))))))
      (ρ := [some (.cel 0), some (.int c), some (.lst (U.map .int)), some (.cel 1), none, none, none, none, none, none, none]) (S := [pot a b, T]) (wRng1_ok (b := 5) rfl (rngOk_small (by omega) (by omega) (by omega) (by omega))) ⟨a, b, _, _, _, ha, rfl, rfl⟩ (fun i x ρ S hx ⟨a, b, s, h, g, ha, r1, r2⟩ => by
        subst r1 r2
        obtain ⟨rfl, _⟩ := rngL_get hx
        obtain ⟨v, a', b', ha', v1, v2, ed⟩ := draw_fr a b c ha (by omega) (by omega)
        obtain ⟨k, rfl⟩ : ∃ k : Nat, v = k := ⟨v.toNat, by omega⟩
        have hk : k < c := by omega
        have hg1 : 1 ≤ Nat.gcd c k := Nat.gcd_pos_of_pos_left _ h1
        have hgl : Nat.gcd c k ≤ c := Nat.le_of_dvd h1 (Nat.gcd_dvd_left c k)
        have eus := frame_us (n := c) (h := k) hk (by omega) [pot a' b', T]
        have kk := k2 k hk
        have hat := hget k hk
        have hus := US_small h1 h60 hk rfl
        have hq1 : 1 ≤ c / Nat.gcd c k := Nat.div_pos hgl hg1
        have hq2 : c / Nat.gcd c k ≤ c := Nat.div_le_self c _
        have ecm := frame_lcommon c k (by omega) [pot a' b', T]
        generalize Nat.gcd c k = gg at *
        generalize US c gg = u at *
        refine ⟨rfl, [some (.cel 0), some (.int c), some (.lst (U.map .int)), some (.cel 1), some (.int (0 + i)), h, g, none, none, none, none], [pot a b, T], [some (.cel 0), some (.int c), some (.lst (U.map .int)), some (.cel 1), some (.int (0 + i)), some (.int k), some (.int gg), none, none, none, none], [pot a' b', T], rfl, ?_, a', b', _, _, _, ha', rfl, rfl⟩
        refine (asg_nx (d := .int k) (S1 := [pot a' b', T]) ((eOwn_ok (two_ok (var_ok rfl) (var_ok rfl)) (ed [T])).trans rfl)).trans ?_
        simp only [List.set_cons_succ, List.set_cons_zero]
        refine (asg_nx (d := .int gg) (S1 := [pot a' b', T]) ((eOwn_ok (two_ok (var_ok rfl) (var_ok rfl)) ecm).trans rfl)).trans ?_
        simp only [List.set_cons_succ, List.set_cons_zero]
        have hgetE : eGet (eVar 2) (eVar 5) [some (.cel 0), some (.int c), some (.lst (U.map .int)), some (.cel 1), some (.int (0 + i)), some (.int k), some (.int gg), none, none, none, none] [pot a' b', T] = .ok (.int u) [pot a' b', T] := eGet_ok (var_ok rfl) (var_ok (d := .int k) rfl) (by rw [getD_of rfl]; exact hat)
        have hr := repr_two (S := [pot a' b', T]) (v := u) (by unfold T40; omega)
        refine (if_nx (S1 := [pot a' b', T]) (tVal_ok (eCmp_ok (repr_ok (one_ok ((lst_ok (two_ok ((eOwn_ok (two_ok (var_ok rfl) (var_ok rfl)) eus).trans rfl) ((eOwnK_ok (ds := []) (es := [.int k, .int c]) (S1 := [pot a' b', T]) rfl (two_ok (var_ok rfl) (var_ok rfl)) ⟨rfl, rfl⟩ eus).trans rfl)) (by simp)).trans rfl)) hr) (repr_ok (one_ok ((eBin_ok (d := .lst [.int u]) (S1 := [pot a' b', T]) ((lst_ok (one_ok hgetE) (by simp)).trans rfl) (g := eC (.int 2)) (e := .int 2) (S2 := [pot a' b', T]) rfl (mul_rep (v := u) (k := 2) (by omega) (by omega))).trans rfl)) hr) ?_))).trans ?_
        · rw [cmp_ne eqvD_strs]; simp
        have hd : (if divOk (gg : Int) then some (Res.d (.int ((c : Int) / gg))) else none) = some (.d (.int ((c / gg : Nat) : Int))) := if_pos (by
          unfold divOk; simp only [Bool.and_eq_true, decide_eq_true_eq]; omega)
        have hdv := (eBin_ok (al := false) (op := .FloorDiv) (ρ := [some (.cel 0), some (.int c), some (.lst (U.map .int)), some (.cel 1), some (.int (0 + i)), some (.int k), some (.int gg), none, none, none, none]) (S := [pot a' b', T]) (var_ok (i := 1) (d := .int c) rfl) (var_ok (i := 6) (d := .int gg) rfl) hd).trans rfl
        have hp1 := phi_le (c / gg)
        have hp2 := phi_le c
        have em1 := frame_many hq1 (by omega : c / gg ≤ 60) [pot a' b', T]
        have em2 := frame_many h1 h60 [pot a' b', T]
        have es := frame_lsign hq1 (by omega : c / gg ≤ 60) [pot a' b', T]
        have m1 : (if mulOk u ((phiN (c / gg) : Nat) : Int) then some (Res.d (.int (u * ((phiN (c / gg) : Nat) : Int)))) else none) = some (.d (.int (u * ((phiN (c / gg) : Nat) : Int)))) := if_pos (by
          unfold mulOk; simp only [Bool.or_eq_true, decide_eq_true_eq]; exact .inl (by omega))
        have m2 : (if mulOk ((phiN c : Nat) : Int) (signN (c / gg)) then some (Res.d (.int (((phiN c : Nat) : Int) * signN (c / gg)))) else none) = some (.d (.int (((phiN c : Nat) : Int) * signN (c / gg)))) := if_pos (by
          unfold mulOk; simp only [Bool.or_eq_true, decide_eq_true_eq]; exact .inl (by omega))
        have y1 := (eBin_ok (al := false) (op := .Mult) hgetE ((eOwn_ok (al := false) (one_ok hdv) em1).trans rfl) m1).trans rfl
        have y2 := (eBin_ok (al := false) (op := .Mult) ((eOwn_ok (al := false) (ρ := [some (.cel 0), some (.int c), some (.lst (U.map .int)), some (.cel 1), some (.int (0 + i)), some (.int k), some (.int gg), none, none, none, none]) (S := [pot a' b', T]) (one_ok (var_ok (i := 1) (d := .int c) rfl)) em2).trans rfl) ((eOwn_ok (al := false) (one_ok hdv) es).trans rfl) m2).trans rfl
        refine (if_nx (S1 := [pot a' b', T]) (tVal_ok (eCmp_ok y1 y2 ?_))).trans rfl
        rw [cmp_ne eqvD_ints, kk]; simp) (fun _ _ _ => rfl)
    exact ⟨a', b', s, h, g, ha', by rw [e, r1, r2]⟩
  obtain ⟨a1, b1, s, h, g, ha1, eloop⟩ := loop a b ha
  have hdne : divs c ≠ [] := fun z => by
    have h0 : (divs c).length = 0 := by rw [z]; rfl
    have : (1 : Int) ∈ divs c := by
      unfold divs
      exact List.mem_map.mpr ⟨0, List.mem_filter.mpr ⟨List.mem_range.mpr h1, by simp [Nat.mod_one]⟩, rfl⟩
    rw [z] at this; cases this
  have hdl : (divs c).length < 1000000 := by
    unfold divs
    rw [List.length_map]
    refine Nat.lt_of_le_of_lt (List.length_filter_le _ _) ?_
    rw [List.length_range]; omega
  obtain ⟨n, a2, b2, ha2, hn, en⟩ := pick_fr a1 b1 (divs c) ha1 hdne hdl
  obtain ⟨f, a3, b3, ha3, hf, ef⟩ := pick_fr a2 b2 (divs c) ha2 hdne hdl
  have kt := k3 n hn f hf
  obtain ⟨n, rfl, n1, n2⟩ := mem_divs hn
  obtain ⟨f, rfl, m1, m2⟩ := mem_divs hf
  simp only [Int.toNat_natCast] at kt
  refine ⟨a3, b3, ha3, ?_⟩
  refine runF_rt (d := .bl true) (S1 := [pot a3 b3, T]) rfl ?_ rfl
  unfold b__law_clock_right
  show sSeq _ _ [some (.cel 0), some (.int c), none, none, none, none, none, none, none, none, none] [pot a b] = _
  refine (asg_nx (d := .lst (U.map .int)) (S1 := [pot a b]) (f1.trans rfl)).trans ?_
  simp only [List.set_cons_succ, List.set_cons_zero]
  refine (asg_nx (d := .cel 1) (S1 := [pot a b, some (.lst (U.map .int))]) ((eOwn_ok (one_ok (var_ok rfl)) (g1 _)).trans rfl)).trans ?_
  simp only [List.set_cons_succ, List.set_cons_zero]
  refine (if_nx (S1 := [pot a b, some (.lst (U.map .int))]) (tVal_ok (eCmp_ok (repr_ok (one_ok ((lst_ok (two_ok (var_ok rfl) ((eOwnK_ok (ds := []) (S1 := [pot a b, some (.lst (U.map .int))]) rfl (one_ok (var_ok rfl)) ⟨rfl, rfl⟩ (g1 _)).trans rfl)) (by simp)).trans rfl)) (seven_ints (xs := U) (toP_cel rfl) (toP_lst _ _) hsm (by omega))) (repr_ok (one_ok ((lst_ok (two_ok (var_ok rfl) (var_ok rfl)) (by simp)).trans rfl)) (seven_ints (xs := U) (toP_lst _ _) (toP_lst _ _) hsm (by omega))) ?_))).trans ?_
  · rw [cmp_ne eqvD_strs]; simp
  refine (app_nx (n := 1) (d := .non) (S1 := [pot a b, some (.lst (U.map .int))]) (S2 := [pot a b, some (.lst (U.map .int))]) (var_ok rfl) (xs := U.map .int) rfl rfl rfl (by rw [List.length_map]; unfold LINE; omega)).trans ?_
  show sSeq _ _ [some (.cel 0), some (.int c), some (.lst (U.map .int)), some (.cel 1), none, none, none, none, none, none, none] [pot a b, some (.lst (U.map .int ++ [.non]))] = _
  rw [hT]
  refine (if_nx (S1 := [pot a b, T]) (tVal_ok (eCmp_ok (d := .int U.sum) (e := .int U.sum) ((eBlt_ok (one_ok (var_ok rfl)) (bSum_of (ns := U) rfl)).trans rfl) ?_ (by rw [cmp_ne eqvD_ints]; simp)))).trans ?_
  · rw [k1]
    by_cases hc1 : c = 1
    · rw [if_pos hc1]
      subst hc1
      rw [sIfE_t (S1 := [pot a b, T]) (tVal_ok (eCmp_ok (d := .int ((1 : Nat) : Int)) (var_ok rfl) (e := .int 1) rfl (by rw [cmp_eq eqvD_ints]; rfl)))]
      rfl
    · rw [if_neg hc1]
      rw [sIfE_f (S1 := [pot a b, T]) (tVal_ok (eCmp_ok (d := .int (c : Int)) (var_ok rfl) (e := .int 1) rfl (by rw [cmp_eq eqvD_ints, decide_eq_false (by omega)])))]
      rfl
  refine (seq_nx eloop).trans ?_
  have q1 := clock_total (c := c) h60 n1 n2 m1 m2 (some (.cel 0)) (some (.lst (U.map .int))) (some (.cel 1)) s h g [pot a3 b3, T]
  rw [kt] at q1
  have u1 := frame_usL n1 (by omega : n ≤ 2000) [pot a3 b3, T]
  have u2 := frame_usL m1 (by omega : f ≤ 2000) [pot a3 b3, T]
  generalize usL n = Un at *
  generalize usL f = Uf at *
  have ld := frame_ldiv h1 h60
  refine (asg_g (d := .tup [.int n, .int f]) (S1 := [pot a3 b3, T]) (ρ1 := [some (.cel 0), some (.int c), some (.lst (U.map .int)), some (.cel 1), s, h, g, some (.int n), some (.int f), none, none]) (S2 := [pot a3 b3, T]) (tup_ok (two_ok ((eOwn_ok (two_ok (var_ok rfl) ((eOwn_ok (one_ok (var_ok rfl)) (ld _)).trans rfl)) (en [T])).trans rfl) ((eOwn_ok (two_ok (var_ok rfl) ((eOwn_ok (one_ok (var_ok rfl)) (ld _)).trans rfl)) (ef [T])).trans rfl)) (by simp)) rfl).trans ?_
  refine (asg_nx (d := .lst [.lst (Un.map .int), .lst (Uf.map .int)]) (S1 := [pot a3 b3, T]) ((lst_ok (two_ok ((eOwn_ok (one_ok (var_ok rfl)) u1).trans rfl) ((eOwn_ok (one_ok (var_ok rfl)) u2).trans rfl)) (by simp)).trans rfl)).trans ?_
  simp only [List.set_cons_succ, List.set_cons_zero]
  refine (asg_nx q1).trans ?_
  simp only [List.set_cons_succ, List.set_cons_zero]
  refine ret_rt ?_
  by_cases hnf : n = f
  · subst hnf
    rw [if_pos rfl]
    have hm : (if mulOk (c : Int) ((phiN n : Nat) : Int) then some (Res.d (.int ((c : Int) * ((phiN n : Nat) : Int)))) else none) = some (.d (.int ((c : Int) * ((phiN n : Nat) : Int)))) := if_pos (by
      unfold mulOk; simp only [Bool.or_eq_true, decide_eq_true_eq]; exact .inl (by omega))
    have em := frame_many n1 (by omega : n ≤ 60) [pot a3 b3, T]
    refine eCmp_ok (var_ok rfl) ((sIfE_t (S1 := [pot a3 b3, T]) (tVal_ok (eCmp_ok (var_ok (d := .int n) rfl) (var_ok (d := .int n) rfl) (by rw [cmp_eq eqvD_ints]; simp)))).trans ((eBin_ok (op := .Mult) (var_ok (d := .int c) rfl) ((eOwn_ok (one_ok (var_ok rfl)) em).trans rfl) hm).trans rfl)) ?_
    rw [cmp_eq eqvD_ints]; simp
  · have hnf2 : ¬ (n : Int) = f := by omega
    rw [if_neg hnf2]
    refine eCmp_ok (var_ok rfl) ((sIfE_f (S1 := [pot a3 b3, T]) (tVal_ok (eCmp_ok (var_ok (d := .int n) rfl) (var_ok (d := .int f) rfl) (by rw [cmp_eq eqvD_ints, decide_eq_false hnf2])))).trans (show _ = O.ok (.int 0) [pot a3 b3, T] from rfl)) ?_
    rw [cmp_eq eqvD_ints]; simp
end K96
namespace K96
open PySem L2 DI
/-! ### clocks apart, great clocks: facts -/
theorem divs_of {n k : Nat} (hn : 1 ≤ n) (h : k ∣ n) : (k : Int) ∈ divs n := by
  have hk : 1 ≤ k := Nat.pos_of_dvd_of_pos h hn
  have hl : k ≤ n := Nat.le_of_dvd hn h
  unfold divs
  refine List.mem_map.mpr ⟨k - 1, List.mem_filter.mpr ⟨List.mem_range.mpr (by omega), ?_⟩, by omega⟩
  have : k - 1 + 1 = k := by omega
  rw [this, Nat.mod_eq_zero_of_dvd h]; rfl
theorem sum_insI (F : Int → Int) (x : Int) : ∀ l : List Int, ((insI x l).map F).sum = F x + (l.map F).sum
  | [] => rfl
  | y :: r => by
    unfold insI
    split
    · rfl
    · rw [List.map_cons, List.sum_cons, sum_insI F x r, List.map_cons, List.sum_cons]; omega
theorem sum_sortI (F : Int → Int) : ∀ l : List Int, ((sortI l).map F).sum = (l.map F).sum
  | [] => rfl
  | x :: r => by
    show ((insI x (sortI r)).map F).sum = _
    rw [sum_insI, sum_sortI F r, List.map_cons, List.sum_cons]
theorem sum_mulc (c : Int) (G : Int → Int) : ∀ l : List Int, (l.map fun b => c * G b).sum = c * (l.map G).sum
  | [] => by simp
  | x :: r => by rw [List.map_cons, List.sum_cons, sum_mulc c G r, List.map_cons, List.sum_cons, Int.mul_add]
theorem sum_prod {F G H : Int → Int} {l2 : List Int} : ∀ {l1 : List Int}, (∀ a ∈ l1, ∀ b ∈ l2, F (a * b) = G a * H b) → ((l1.flatMap fun a => l2.map fun b => a * b).map F).sum = (l1.map G).sum * (l2.map H).sum
  | [], _ => by simp
  | a :: r, h => by
    have h1 : ((l2.map fun b => a * b).map F) = l2.map fun b => G a * H b := by
      rw [List.map_map]
      exact List.map_congr_left fun b hb => h a List.mem_cons_self b hb
    rw [List.flatMap_cons, List.map_append, List.sum_append, sum_prod (l1 := r) fun x hx => h x (List.mem_cons_of_mem _ hx), h1, sum_mulc, List.map_cons, List.sum_cons, Int.add_mul]
def prodsI (i j : Nat) : List Int := (dI i).flatMap fun a => (dI j).map fun b => a * b
def sgB (n f : Nat) : Bool := !(Nat.gcd n f == 1) || (decide (signN (n * f) = signN n * signN f) && decide (knownN unitsA (n * f) = knownN unitsA n * knownN unitsA f) && decide (sortI (prodsI n f) = dI (n * f)))
theorem sg_all : ((List.range 44).all fun i => (List.range 44).all fun j => sgB (i + 1) (j + 1)) = true := by decide +kernel
theorem sg_fact {n f : Nat} (h1 : 1 ≤ n) (h2 : n ≤ 44) (g1 : 1 ≤ f) (g2 : f ≤ 44) (hc : Nat.gcd n f = 1) : signN (n * f) = signN n * signN f ∧ knownN unitsA (n * f) = knownN unitsA n * knownN unitsA f ∧ sortI (prodsI n f) = dI (n * f) := by
  obtain ⟨x, rfl⟩ : ∃ x : Nat, n = x + 1 := ⟨n - 1, by omega⟩
  obtain ⟨y, rfl⟩ : ∃ y : Nat, f = y + 1 := ⟨f - 1, by omega⟩
  have h := range_all (range_all sg_all (show x < 44 by omega)) (show y < 44 by omega)
  unfold sgB at h
  rw [hc] at h
  simp only [beq_self_eq_true, Bool.not_true, Bool.false_or, Bool.and_eq_true, decide_eq_true_eq] at h
  exact ⟨h.1.1, h.1.2, h.2⟩
def ucB (n f : Nat) : Bool := !(Nat.gcd n f == 1) || decide (UC (n * f) = UC n * UC f)
theorem uc_a : ((List.range' 0 20).all fun i => (List.range (i + 1)).all fun j => ucB (i + 1) (j + 1)) = true := by decide +kernel
theorem uc_b : ((List.range' 20 10).all fun i => (List.range (i + 1)).all fun j => ucB (i + 1) (j + 1)) = true := by decide +kernel
theorem uc_c : ((List.range' 30 8).all fun i => (List.range (i + 1)).all fun j => ucB (i + 1) (j + 1)) = true := by decide +kernel
theorem uc_d : ((List.range' 38 6).all fun i => (List.range (i + 1)).all fun j => ucB (i + 1) (j + 1)) = true := by decide +kernel
theorem rng_all {a n : Nat} {p : Nat → Bool} (h : (List.range' a n).all p = true) {i : Nat} (h1 : a ≤ i) (h2 : i < a + n) : p i = true := List.all_eq_true.mp h i (List.mem_range'_1.mpr ⟨h1, h2⟩)
theorem uc_row {i : Nat} (h : i < 44) : ((List.range (i + 1)).all fun j => ucB (i + 1) (j + 1)) = true := by
  by_cases a : i < 20
  · exact rng_all uc_a (Nat.zero_le _) (by omega)
  · by_cases b : i < 30
    · exact rng_all uc_b (by omega) (by omega)
    · by_cases c : i < 38
      · exact rng_all uc_c (by omega) (by omega)
      · exact rng_all uc_d (by omega) (by omega)
theorem uc_fact1 {n f : Nat} (h1 : 1 ≤ n) (h2 : n ≤ 44) (g1 : 1 ≤ f) (g2 : f ≤ n) (hc : Nat.gcd n f = 1) : UC (n * f) = UC n * UC f := by
  obtain ⟨x, rfl⟩ : ∃ x : Nat, n = x + 1 := ⟨n - 1, by omega⟩
  obtain ⟨y, rfl⟩ : ∃ y : Nat, f = y + 1 := ⟨f - 1, by omega⟩
  have h := range_all (uc_row (show x < 44 by omega)) (show y < x + 1 by omega)
  unfold ucB at h
  rw [hc] at h
  simpa using h
theorem div_apart {n f k m : Nat} (hk : k ∣ n) (hm : m ∣ f) (k1 : 1 ≤ k) (m1 : 1 ≤ m) : (n * f) / (k * m) = (n / k) * (f / m) := by
  obtain ⟨x, rfl⟩ := hk
  obtain ⟨y, rfl⟩ := hm
  rw [Nat.mul_div_cancel_left _ k1, Nat.mul_div_cancel_left _ m1, show k * x * (m * y) = (k * m) * (x * y) by ac_rfl, Nat.mul_div_cancel_left _ (Nat.mul_pos k1 m1)]
theorem gcd_sub {n f i j : Nat} (hi : i ∣ n) (hj : j ∣ f) (hc : Nat.gcd n f = 1) : Nat.gcd i j = 1 := Nat.Coprime.coprime_dvd_left hi (Nat.Coprime.coprime_dvd_right hj hc)
theorem ap_us {n f : Nat} (h1 : 1 ≤ n) (h2 : n ≤ 44) (g1 : 1 ≤ f) (g2 : f ≤ 44) (hc : Nat.gcd n f = 1) {i j : Nat} (hi : i ∣ n) (hj : j ∣ f) : US (n * f) (i * j) = US n i * US f j := by
  have i1 : 1 ≤ i := Nat.pos_of_dvd_of_pos hi h1
  have j1 : 1 ≤ j := Nat.pos_of_dvd_of_pos hj g1
  have i2 := Nat.le_of_dvd h1 hi
  have j2 := Nat.le_of_dvd g1 hj
  unfold US
  rw [← (sg_fact i1 (by omega) j1 (by omega) (gcd_sub hi hj hc)).2.2, sum_sortI]
  refine sum_prod fun a ha b hb => ?_
  obtain ⟨k, rfl, k1, _, kd⟩ := mem_dI i1 ha
  obtain ⟨m, rfl, m1, _, md⟩ := mem_dI j1 hb
  have kn := Nat.dvd_trans kd hi
  have mf := Nat.dvd_trans md hj
  have q1 : n / k ∣ n := Nat.div_dvd_of_dvd kn
  have q2 : f / m ∣ f := Nat.div_dvd_of_dvd mf
  have e1 : (((n * f : Nat) : Int) / ((k : Int) * (m : Int))).toNat = (n / k) * (f / m) := by
    have : ((n * f : Nat) : Int) / ((k : Int) * (m : Int)) = (((n * f) / (k * m) : Nat) : Int) := rfl
    rw [this, Int.toNat_natCast, div_apart kn mf k1 m1]
  have e2 : ((n : Int) / (k : Int)).toNat = n / k := by
    have : (n : Int) / (k : Int) = ((n / k : Nat) : Int) := rfl
    rw [this, Int.toNat_natCast]
  have e3 : ((f : Int) / (m : Int)).toNat = f / m := by
    have : (f : Int) / (m : Int) = ((f / m : Nat) : Int) := rfl
    rw [this, Int.toNat_natCast]
  have l1 := Nat.le_of_dvd h1 q1
  have l2 := Nat.le_of_dvd g1 q2
  rw [e1, e2, e3, (sg_fact (Nat.pos_of_dvd_of_pos q1 h1) (by omega) (Nat.pos_of_dvd_of_pos q2 g1) (by omega) (gcd_sub q1 q2 hc)).1]
  ac_rfl
theorem ap_cs {n f : Nat} (h1 : 1 ≤ n) (h2 : n ≤ 44) (g1 : 1 ≤ f) (g2 : f ≤ 44) (hc : Nat.gcd n f = 1) : CS (n * f) = CS n * CS f := by
  unfold CS
  rw [← (sg_fact h1 h2 g1 g2 hc).2.2, sum_sortI]
  refine sum_prod fun a ha b hb => ?_
  obtain ⟨k, rfl, k1, k2, kn⟩ := mem_dI h1 ha
  obtain ⟨m, rfl, m1, m2, mf⟩ := mem_dI g1 hb
  have e0 : ((k : Int) * (m : Int)).toNat = k * m := by
    have : (k : Int) * (m : Int) = ((k * m : Nat) : Int) := rfl
    rw [this, Int.toNat_natCast]
  have e1 : ((n * f : Nat) : Int) / ((k : Int) * (m : Int)) = ((n : Int) / k) * ((f : Int) / m) := by
    have : ((n * f : Nat) : Int) / ((k : Int) * (m : Int)) = (((n * f) / (k * m) : Nat) : Int) := rfl
    rw [this, div_apart kn mf k1 m1]; rfl
  rw [e0, e1, (sg_fact k1 (by omega) m1 (by omega) (gcd_sub kn mf hc)).2.1, Int.toNat_natCast, Int.toNat_natCast]
  ac_rfl
theorem ap_fact {n f : Nat} (h1 : 1 ≤ n) (h2 : n ≤ 44) (g1 : 1 ≤ f) (g2 : f ≤ 44) (hc : Nat.gcd n f = 1) : (∀ i j : Nat, i ∣ n → j ∣ f → US (n * f) (i * j) = US n i * US f j) ∧ CS (n * f) = CS n * CS f ∧ UC (n * f) = UC n * UC f := by
  refine ⟨fun i j hi hj => ap_us h1 h2 g1 g2 hc hi hj, ap_cs h1 h2 g1 g2 hc, ?_⟩
  by_cases h : f ≤ n
  · exact uc_fact1 h1 h2 g1 h hc
  · rw [Nat.mul_comm n f, uc_fact1 g1 g2 h1 (by omega) (by rw [Nat.gcd_comm]; exact hc), Int.mul_comm]
def greats : List Nat := [1999, 1997, 2000, 1024, 1680, 210, 1155, 961]
def grB (c : Nat) : Bool := decide (US c c = knownN unitsA c) && decide (US c 1 = knownN signsA c) && decide (UC c = knownN unitsA c * knownN divisA c) && decide ((knownN unitsA c).natAbs ≤ 100000) && ((divs c).all fun g => decide (US c g.toNat * knownN unitsA (c / g.toNat) = knownN unitsA c * knownN signsA (c / g.toNat)) && decide ((knownN unitsA (c / g.toNat)).natAbs ≤ 100000))
theorem gr_all : greats.all grB = true := by decide +kernel
theorem gr_cs : CS 1999 = 3997 ∧ CS 1024 = 6144 := by decide +kernel
end K96
namespace K96
open PySem L2 DI
/-! ### _law_apart_right -/
theorem gcd_apart {n f h : Nat} (hc : Nat.gcd n f = 1) : Nat.gcd (n * f) h = Nat.gcd n h * Nat.gcd f h := by
  rw [Nat.gcd_comm (n * f), Nat.Coprime.gcd_mul h hc, Nat.gcd_comm h n, Nat.gcd_comm h f]
theorem gcd_modr (n h : Nat) : Nat.gcd n (h % n) = Nat.gcd n h := by
  rw [Nat.gcd_comm n (h % n), ← Nat.gcd_rec]
theorem US_bound (c g : Nat) (h : ((dI g).map fun d => d * signN ((c : Int) / d).toNat).sum = US c g) : True := trivial
theorem frame_CS {n : Nat} (h1 : 1 ≤ n) (h2 : n ≤ 2000) (S : Store) : frame c_common_sum [.int n] S = .ok (.d (.int (CS n))) S := frame0 rfl rfl (common_sum_ok h1 h2) rfl
theorem frame_UC {n : Nat} (h1 : 1 ≤ n) (h2 : n ≤ 2000) (S : Store) : frame c_unit_common_sum [.int n] S = .ok (.d (.int (UC n))) S := frame0 rfl rfl (unit_common_ok h1 h2) rfl
theorem CS_small {n : Nat} (h1 : 1 ≤ n) (h2 : n ≤ 60) : (CS n).natAbs < 18446744073709551616 := by
  have := dueC_small h1 h2
  rw [(crfact h1 h2).1] at this
  have h := sum_small (l := dueC n) (B := 60) fun x hx => by
    obtain ⟨i, hi, rfl⟩ := List.mem_map.mp hx
    have : Nat.gcd n (i + 1) ≤ n := Nat.le_of_dvd h1 (Nat.gcd_dvd_left _ _)
    omega
  rw [(crfact h1 h2).1] at h
  have hl : (dueC n).length = n := by unfold dueC; simp
  rw [hl] at h
  have : n * 60 ≤ 60 * 60 := Nat.mul_le_mul_right _ h2
  omega
theorem UC_small {n : Nat} (h1 : 1 ≤ n) (h2 : n ≤ 60) : (UC n).natAbs < 18446744073709551616 := by
  have h := sum_small (l := dueU n) (B := 60) fun x hx => by
    obtain ⟨i, hi, rfl⟩ := List.mem_map.mp hx
    have : Nat.gcd n (i - 1) ≤ n := Nat.le_of_dvd h1 (Nat.gcd_dvd_left _ _)
    omega
  rw [(crfact h1 h2).2.1] at h
  have hl : (dueU n).length ≤ n := by
    unfold dueU unitsL
    rw [List.length_map]
    refine Nat.le_trans (List.length_filter_le _ _) ?_
    rw [List.length_range]; exact Nat.le_refl _
  have : (dueU n).length * 60 ≤ 60 * 60 := Nat.mul_le_mul_right _ (by omega)
  omega
theorem mul_small {u v : Int} (h : u.natAbs < 18446744073709551616) : (if mulOk u v then some (Res.d (.int (u * v))) else none) = some (.d (.int (u * v))) := if_pos (by
  unfold mulOk; simp only [Bool.or_eq_true, decide_eq_true_eq]; exact .inl h)
theorem mod_nat {n h : Nat} (hn : 1 ≤ n) : (if decide ((0 : Int) < n) then some (Res.d (.int ((h : Int) % n))) else none) = some (.d (.int ((h % n : Nat) : Int))) := if_pos (by simp; omega)
theorem apart_right (a b : Int) (ha : 0 ≤ a) : ∃ a' b', 0 ≤ a' ∧ c__law_apart_right [.cel 0] [pot a b] = .ok (.d (.bl true)) [pot a' b'] := by
  obtain ⟨v, a1, b1, ha1, v1, v2, e1⟩ := draw_fr a b 44 ha (by omega) (by omega)
  obtain ⟨w, a2, b2, ha2, w1, w2, e2⟩ := draw_fr a1 b1 44 ha1 (by omega) (by omega)
  obtain ⟨n, hn⟩ : ∃ n : Nat, 1 + v = n := ⟨(1 + v).toNat, by omega⟩
  obtain ⟨f, hf⟩ : ∃ f : Nat, 1 + w = f := ⟨(1 + w).toNat, by omega⟩
  have n1 : 1 ≤ n := by omega
  have n2 : n ≤ 44 := by omega
  have f1 : 1 ≤ f := by omega
  have f2 : f ≤ 44 := by omega
  have hnf1 : 1 ≤ n * f := Nat.mul_pos n1 f1
  have hnf2 : n * f ≤ 44 * 44 := Nat.mul_le_mul n2 f2
  obtain ⟨z, a3, b3, ha3, z1, z2, e3⟩ := draw_fr a2 b2 ((n * f : Nat) : Int) ha2 (by omega) (by omega)
  obtain ⟨h, rfl⟩ : ∃ h : Nat, z = h := ⟨z.toNat, by omega⟩
  have hh : h < n * f := by omega
  have y1 : eBin false .Add (eC (.int 1)) (eOwn false (frame c__law_draw) (eCons (eVar 0) (eCons (eC (.int 44)) (eNil)))) [some (.cel 0), none, none, none] [pot a b] = .ok (.int n) [pot a1 b1] :=
    ((eBin_ok (f := eC (.int 1)) (d := .int 1) (S1 := [pot a b]) rfl ((eOwn_ok (two_ok (var_ok rfl) (g := eC (.int 44)) (e := .int 44) (S2 := [pot a b]) rfl) (e1 [])).trans rfl) (r := .d (.int (1 + v))) rfl).trans rfl).trans (by rw [hn]; rfl)
  have y2 : eBin false .Add (eC (.int 1)) (eOwn false (frame c__law_draw) (eCons (eVar 0) (eCons (eC (.int 44)) (eNil)))) [some (.cel 0), none, none, none] [pot a1 b1] = .ok (.int f) [pot a2 b2] :=
    ((eBin_ok (f := eC (.int 1)) (d := .int 1) (S1 := [pot a1 b1]) rfl ((eOwn_ok (two_ok (var_ok rfl) (g := eC (.int 44)) (e := .int 44) (S2 := [pot a1 b1]) rfl) (e2 [])).trans rfl) (r := .d (.int (1 + w))) rfl).trans rfl).trans (by rw [hf]; rfl)
  have eg := frame_lcommon n f (by omega) [pot a2 b2]
  by_cases hc : Nat.gcd n f = 1
  · refine ⟨a3, b3, ha3, ?_⟩
    refine runF_rt (d := .bl true) (S1 := [pot a3 b3]) rfl ?_ rfl
    unfold b__law_apart_right
    show sSeq _ _ [some (.cel 0), none, none, none] [pot a b] = _
    refine (par_nx (ds := [.int n, .int f]) (S1 := [pot a2 b2]) (two_ok y1 y2) rfl).trans ?_
    show sSeq _ _ [some (.cel 0), some (.int n), some (.int f), none] [pot a2 b2] = _
    refine (if_nx (S1 := [pot a2 b2]) (tVal_ok (eCmp_ok ((eOwn_ok (two_ok (var_ok rfl) (var_ok rfl)) eg).trans rfl) (e := .int 1) (S2 := [pot a2 b2]) rfl (by rw [cmp_ne eqvD_ints, hc]; rfl)))).trans ?_
    have m0 : ∀ S ρ, eVar 1 ρ S = .ok (.int n) S → eVar 2 ρ S = .ok (.int f) S → eBin false .Mult (eVar 1) (eVar 2) ρ S = .ok (.int ((n * f : Nat) : Int)) S := fun S ρ q1 q2 =>
      ((eBin_ok (op := .Mult) q1 q2 (mul_small (u := (n : Int)) (v := (f : Int)) (by omega))).trans rfl)
    refine (asg_nx (d := .int h) (S1 := [pot a3 b3]) ((eOwn_ok (two_ok (var_ok rfl) (m0 _ _ (var_ok rfl) (var_ok rfl))) (e3 [])).trans rfl)).trans ?_
    simp only [List.set_cons_succ, List.set_cons_zero]
    obtain ⟨k1, k2, k3⟩ := ap_fact n1 n2 f1 f2 hc
    have k1 := k1 _ _ (Nat.gcd_dvd_left n h) (Nat.gcd_dvd_left f h)
    rw [← gcd_apart hc] at k1
    have p1 := frame_us (n := n * f) (h := h) hh (by omega) [pot a3 b3]
    have p2 := frame_us (n := n) (h := h % n) (Nat.mod_lt _ n1) (by omega) [pot a3 b3]
    have p3 := frame_us (n := f) (h := h % f) (Nat.mod_lt _ f1) (by omega) [pot a3 b3]
    have s2 := US_small (c := n) n1 (by omega) (h := h % n) (Nat.mod_lt _ n1) rfl
    rw [gcd_modr] at p2 p3 s2
    rw [k1] at p1
    have c1 := frame_CS hnf1 (by omega) [pot a3 b3]
    have c2 := frame_CS n1 (by omega) [pot a3 b3]
    have c3 := frame_CS f1 (by omega) [pot a3 b3]
    have d1 := frame_UC hnf1 (by omega) [pot a3 b3]
    have d2 := frame_UC n1 (by omega) [pot a3 b3]
    have d3 := frame_UC f1 (by omega) [pot a3 b3]
    have t1 := CS_small n1 (by omega)
    have t2 := UC_small n1 (by omega)
    rw [k2] at c1
    rw [k3] at d1
    generalize US n (Nat.gcd n h) = u1 at *
    generalize US f (Nat.gcd f h) = u2 at *
    generalize CS n = u3 at *
    generalize CS f = u4 at *
    generalize UC n = u5 at *
    generalize UC f = u6 at *
    have x1 : ∀ S, eBlt false (fun _ => bInt) (eCons (eBin false .Mod (eVar 3) (eVar 1)) (eNil)) [some (.cel 0), some (.int n), some (.int f), some (.int h)] S = .ok (.int ((h % n : Nat) : Int)) S := fun S =>
      (eBlt_ok (one_ok ((eBin_ok (op := .Mod) (var_ok (d := .int h) rfl) (var_ok (d := .int n) rfl) (mod_nat n1)).trans rfl)) (r := .d (.int ((h % n : Nat) : Int))) rfl).trans rfl
    have x2 : ∀ S, eBlt false (fun _ => bInt) (eCons (eBin false .Mod (eVar 3) (eVar 2)) (eNil)) [some (.cel 0), some (.int n), some (.int f), some (.int h)] S = .ok (.int ((h % f : Nat) : Int)) S := fun S =>
      (eBlt_ok (one_ok ((eBin_ok (op := .Mod) (var_ok (d := .int h) rfl) (var_ok (d := .int f) rfl) (mod_nat f1)).trans rfl)) (r := .d (.int ((h % f : Nat) : Int))) rfl).trans rfl
    refine (if_nx (S1 := [pot a3 b3]) (tVal_ok (eCmp_ok ((eOwn_ok (two_ok (m0 _ _ (var_ok rfl) (var_ok rfl)) (var_ok rfl)) p1).trans rfl) ((eBin_ok (op := .Mult) ((eOwn_ok (two_ok (var_ok rfl) (x1 _)) p2).trans rfl) ((eOwn_ok (two_ok (var_ok rfl) (x2 _)) p3).trans rfl) (mul_small (by omega))).trans rfl) (by rw [cmp_ne eqvD_ints]; simp)))).trans ?_
    refine ret_rt (eAnd_t (S1 := [pot a3 b3]) (eCmp_ok ((eOwn_ok (one_ok (m0 _ _ (var_ok rfl) (var_ok rfl))) c1).trans rfl) ((eBin_ok (op := .Mult) ((eOwn_ok (one_ok (var_ok rfl)) c2).trans rfl) ((eOwn_ok (one_ok (var_ok rfl)) c3).trans rfl) (mul_small t1)).trans rfl) (by rw [cmp_eq eqvD_ints]; simp)) ?_)
    exact eCmp_ok ((eOwn_ok (one_ok (m0 _ _ (var_ok rfl) (var_ok rfl))) d1).trans rfl) ((eBin_ok (op := .Mult) ((eOwn_ok (one_ok (var_ok rfl)) d2).trans rfl) ((eOwn_ok (one_ok (var_ok rfl)) d3).trans rfl) (mul_small t2)).trans rfl) (by rw [cmp_eq eqvD_ints]; simp)
  · refine ⟨a2, b2, ha2, ?_⟩
    refine runF_rt (d := .bl true) (S1 := [pot a2 b2]) rfl ?_ rfl
    unfold b__law_apart_right
    show sSeq _ _ [some (.cel 0), none, none, none] [pot a b] = _
    refine (par_nx (ds := [.int n, .int f]) (S1 := [pot a2 b2]) (two_ok y1 y2) rfl).trans ?_
    show sSeq _ _ [some (.cel 0), some (.int n), some (.int f), none] [pot a2 b2] = _
    refine seq_rt ((sIf_t (S1 := [pot a2 b2]) (tVal_ok (eCmp_ok ((eOwn_ok (two_ok (var_ok rfl) (var_ok rfl)) eg).trans rfl) (e := .int 1) (S2 := [pot a2 b2]) rfl (by
      rw [cmp_ne eqvD_ints, decide_eq_false (by omega)]; rfl)))).trans (ret_rt rfl))
end K96
namespace K96
open PySem L2 DI
/-! ### _law_great_right -/
theorem wnum_ok {c : Nat} (h1 : 1 ≤ c) (h2 : c ≤ 1000000) : c_want_number [.int c] [] = .ok (.d .non) [] := by
  have e1 : c_is_number_value [.int c] [] = .ok (.d (.bl true)) [] := by
    refine runF_rt (d := .bl true) (S1 := []) rfl ?_ rfl
    unfold b_is_number_value
    exact ret_rt ((eOwn_ok (cons_ok (var_ok rfl) (two_ok (f := eC (.int 1)) rfl rfl)) (frame_within (by omega) (by omega) [])).trans rfl)
  have e2 : frame c_is_number_value [.int c] [] = .ok (.d (.bl true)) [] := frame0 rfl rfl e1 rfl
  refine runF_nx (ρ := [some (.int c)]) (S1 := []) rfl ?_ (retF_low rfl)
  unfold b_want_number
  have z := eOwn_ok (al := false) (ρ := [some (.int c)]) (one_ok (var_ok (i := 0) rfl)) e2
  exact (if_nx (S1 := []) (tNot_ok (tVal_ok (z.trans rfl)))).trans rfl
theorem known_at_ok {w : Str} {n : Nat} {v : Int} (h1 : 1 ≤ n) (h2 : n ≤ 1000000) (hw : okD (c_want_word [.str w] []) .non = true) (hk : c_known_of [.str w, .int n] [] = .ok (.d (.int v)) []) (S : Store) : frame c_known_at [.str w, .int n] S = .ok (.d (.int v)) S := by
  have e0 : frame c_want_word [.str w] [] = .ok (.d .non) [] := frame0 rfl rfl (okD_eq hw) rfl
  have e1 : frame c_want_number [.int n] [] = .ok (.d .non) [] := frame0 rfl rfl (wnum_ok h1 h2) rfl
  have e2 : frame c_known_of [.str w, .int n] [] = .ok (.d (.int v)) [] := frame0 rfl rfl hk rfl
  refine frame0 (r := .d (.int v)) rfl rfl ?_ rfl
  refine runF_rt (d := .int v) (S1 := []) rfl ?_ (retF_low rfl)
  unfold b_known_at
  exact (drop_nx ((eOwn_ok (one_ok (var_ok rfl)) e0).trans rfl)).trans ((drop_nx ((eOwn_ok (one_ok (var_ok rfl)) e1).trans rfl)).trans (ret_rt ((eOwn_ok (two_ok (var_ok rfl) (var_ok rfl)) e2).trans rfl)))
theorem wd_units : okD (c_want_word [.str "units"] []) .non = true := by decide +kernel
theorem wd_signs : okD (c_want_word [.str "signs"] []) .non = true := by decide +kernel
theorem wd_divis : okD (c_want_word [.str "divisors"] []) .non = true := by decide +kernel
theorem great_ok {c : Nat} (hm : c ∈ greats) : 2 ≤ c ∧ c ≤ 2000 ∧ US c c = knownN unitsA c ∧ US c 1 = knownN signsA c ∧ UC c = knownN unitsA c * knownN divisA c ∧ (knownN unitsA c).natAbs ≤ 100000 ∧ ∀ g : Nat, g ∣ c → US c g * knownN unitsA (c / g) = knownN unitsA c * knownN signsA (c / g) ∧ (knownN unitsA (c / g)).natAbs ≤ 100000 := by
  have h := List.all_eq_true.mp gr_all c hm
  have hb : greats.all (fun c => decide (2 ≤ c) && decide (c ≤ 2000)) = true := by decide
  have hb := List.all_eq_true.mp hb c hm
  simp only [Bool.and_eq_true, decide_eq_true_eq] at hb
  unfold grB at h
  simp only [Bool.and_eq_true, decide_eq_true_eq, List.all_eq_true] at h
  obtain ⟨⟨⟨⟨h1, h2⟩, h3⟩, h4⟩, h5⟩ := h
  refine ⟨hb.1, hb.2, h1, h2, h3, h4, fun g hg => ?_⟩
  have := h5 _ (divs_of (by omega) hg)
  rw [Int.toNat_natCast] at this
  exact this
theorem great_right (a b : Int) (ha : 0 ≤ a) : ∃ a' b', 0 ≤ a' ∧ c__law_great_right [.cel 0] [pot a b] = .ok (.d (.bl true)) [pot a' b'] := by
  obtain ⟨x, a1, b1, ha1, hx, e1⟩ := pick_fr a b (greats.map fun (n : Nat) => (n : Int)) ha (by decide) (by decide)
  obtain ⟨c, hc, rfl⟩ := List.mem_map.mp hx
  obtain ⟨c1, c2, k1, k2, k3, k4, k5⟩ := great_ok hc
  obtain ⟨v, a2, b2, ha2, v1, v2, e2⟩ := draw_fr a1 b1 c ha1 (by omega) (by omega)
  obtain ⟨h, rfl⟩ : ∃ h : Nat, v = h := ⟨v.toNat, by omega⟩
  have hh : h < c := by omega
  have hg1 : 1 ≤ Nat.gcd c h := Nat.gcd_pos_of_pos_left _ (by omega)
  have hgd : Nat.gcd c h ∣ c := Nat.gcd_dvd_left c h
  have hgl : Nat.gcd c h ≤ c := Nat.le_of_dvd (by omega) hgd
  obtain ⟨k6, k7⟩ := k5 _ hgd
  have hq1 : 1 ≤ c / Nat.gcd c h := Nat.div_pos hgl hg1
  have hq2 : c / Nat.gcd c h ≤ c := Nat.div_le_self c _
  have p0 := frame_us (n := c) (h := 0) (by omega) c2 [pot a2 b2]
  have p1 := frame_us (n := c) (h := 1) (by omega) c2 [pot a2 b2]
  have p2 := frame_us (n := c) (h := h) hh c2 [pot a2 b2]
  rw [Nat.gcd_zero_right, k1] at p0
  rw [Nat.gcd_one_right, k2] at p1
  have q1 := known_at_ok (by omega) (by omega) wd_units (units_ok (n := c) (by omega) (by omega)) [pot a1 b1]
  have q2 := known_at_ok (by omega) (by omega) wd_signs (signs_ok (n := c) (by omega) (by omega)) [pot a2 b2]
  have q3 := known_at_ok (by omega) (by omega) wd_divis (divis_ok (n := c) (by omega) (by omega)) [pot a2 b2]
  have q4 := known_at_ok (by omega) (by omega) wd_units (units_ok (n := c / Nat.gcd c h) (by omega) (by omega)) [pot a2 b2]
  have q5 := known_at_ok (by omega) (by omega) wd_signs (signs_ok (n := c / Nat.gcd c h) (by omega) (by omega)) [pot a2 b2]
  have u := frame_UC (n := c) (by omega) c2 [pot a2 b2]
  rw [k3] at u
  have g := frame_lcommon c h (by omega) [pot a2 b2]
  have s1 := frame_CS (n := 1999) (by omega) (by omega) [pot a2 b2]
  have s2 := frame_CS (n := 1024) (by omega) (by omega) [pot a2 b2]
  rw [gr_cs.1] at s1
  rw [gr_cs.2] at s2
  generalize Nat.gcd c h = gg at *
  generalize knownN unitsA c = U at *
  generalize knownN signsA c = Sg at *
  generalize knownN divisA c = Dv at *
  generalize knownN unitsA (c / gg) = U2 at *
  generalize knownN signsA (c / gg) = S2 at *
  generalize US c gg = W at *
  have mu2 : (if mulOk W U2 then some (Res.d (.int (W * U2))) else none) = some (.d (.int (W * U2))) := if_pos (by
    unfold mulOk; simp only [Bool.or_eq_true, decide_eq_true_eq]; exact .inr (by omega))
  have hd : (if divOk (gg : Int) then some (Res.d (.int ((c : Int) / gg))) else none) = some (.d (.int ((c / gg : Nat) : Int))) := if_pos (by
    unfold divOk; simp only [Bool.and_eq_true, decide_eq_true_eq]; omega)
  refine ⟨a2, b2, ha2, ?_⟩
  refine runF_rt (d := .bl true) (S1 := [pot a2 b2]) rfl ?_ rfl
  unfold b__law_great_right
  show sSeq _ _ [some (.cel 0), none, none, none, none] [pot a b] = _
  refine (asg_nx (d := .int c) (S1 := [pot a1 b1]) ((eOwn_ok (ds := [.cel 0, .lst ((greats.map fun (n : Nat) => (n : Int)).map .int)]) (S1 := [pot a b]) rfl (e1 [])).trans rfl)).trans ?_
  simp only [List.set_cons_succ, List.set_cons_zero]
  refine (par_nx (ds := [.int U, .int h]) (S1 := [pot a2 b2]) (two_ok (S1 := [pot a1 b1]) ((eOwn_ok (two_ok (f := eC (.str "units")) (d := .str "units") (S1 := [pot a1 b1]) rfl (var_ok rfl)) q1).trans rfl) ((eOwn_ok (two_ok (var_ok rfl) (var_ok rfl)) (e2 [])).trans rfl)) rfl).trans ?_
  show sSeq _ _ [some (.cel 0), some (.int c), some (.int U), some (.int h), none] [pot a2 b2] = _
  refine (if_nx (S1 := [pot a2 b2]) (tOr_f (S1 := [pot a2 b2]) (tVal_ok (eCmp_ok ((eOwn_ok (two_ok (var_ok rfl) (g := eC (.int 0)) (e := .int 0) (S2 := [pot a2 b2]) rfl) p0).trans rfl) (var_ok rfl) (by rw [cmp_ne eqvD_ints]; simp))) (tVal_ok (eCmp_ok ((eOwn_ok (two_ok (var_ok rfl) (g := eC (.int 1)) (e := .int 1) (S2 := [pot a2 b2]) rfl) p1).trans rfl) ((eOwn_ok (two_ok (f := eC (.str "signs")) (d := .str "signs") (S1 := [pot a2 b2]) rfl (var_ok rfl)) q2).trans rfl) (by rw [cmp_ne eqvD_ints]; simp))))).trans ?_
  refine (if_nx (S1 := [pot a2 b2]) (tVal_ok (eCmp_ok ((eOwn_ok (one_ok (var_ok rfl)) u).trans rfl) ((eBin_ok (op := .Mult) (var_ok (d := .int U) rfl) ((eOwn_ok (two_ok (f := eC (.str "divisors")) (d := .str "divisors") (S1 := [pot a2 b2]) rfl (var_ok rfl)) q3).trans rfl) (mul_small (by omega))).trans rfl) (by rw [cmp_ne eqvD_ints]; simp)))).trans ?_
  refine (asg_nx (d := .int gg) (S1 := [pot a2 b2]) ((eOwn_ok (two_ok (var_ok rfl) (var_ok rfl)) g).trans rfl)).trans ?_
  simp only [List.set_cons_succ, List.set_cons_zero]
  have dv : eBin false .FloorDiv (eVar 1) (eVar 4) [some (.cel 0), some (.int c), some (.int U), some (.int h), some (.int gg)] [pot a2 b2] = .ok (.int ((c / gg : Nat) : Int)) [pot a2 b2] := (eBin_ok (op := .FloorDiv) (var_ok (i := 1) (d := .int c) rfl) (var_ok (i := 4) (d := .int gg) rfl) hd).trans rfl
  refine (if_nx (S1 := [pot a2 b2]) (tVal_ok (eCmp_ok ((eBin_ok (op := .Mult) ((eOwn_ok (two_ok (var_ok rfl) (var_ok rfl)) p2).trans rfl) ((eOwn_ok (two_ok (f := eC (.str "units")) (d := .str "units") (S1 := [pot a2 b2]) rfl dv) q4).trans rfl) mu2).trans rfl) ((eBin_ok (op := .Mult) (var_ok (d := .int U) rfl) ((eOwn_ok (two_ok (f := eC (.str "signs")) (d := .str "signs") (S1 := [pot a2 b2]) rfl dv) q5).trans rfl) (mul_small (by omega))).trans rfl) (by rw [cmp_ne eqvD_ints, k6]; simp)))).trans ?_
  refine ret_rt (eAnd_t (S1 := [pot a2 b2]) (eCmp_ok ((eOwn_ok (one_ok (f := eC (.int 1999)) (d := .int 1999) (S1 := [pot a2 b2]) rfl) s1).trans rfl) (e := .int 3997) (S2 := [pot a2 b2]) rfl rfl) ?_)
  exact eCmp_ok ((eOwn_ok (one_ok (f := eC (.int 1024)) (d := .int 1024) (S1 := [pot a2 b2]) rfl) s2).trans rfl) (e := .int 6144) (S2 := [pot a2 b2]) rfl rfl
end K96
namespace K96
open PySem L2 DI
/-! ### the law -/
theorem right_ok (a b : Int) (ha : 0 ≤ a) : ∃ a' b', 0 ≤ a' ∧ c__law_right [.cel 0] [pot a b] = .ok (.d (.bl true)) [pot a' b'] := by
  obtain ⟨v, a1, b1, ha1, v1, v2, e1⟩ := draw_fr a b 60 ha (by omega) (by omega)
  obtain ⟨x, a2, b2, ha2, hx, e2⟩ := pick_fr a1 b1 [1, 2, 6, 12, 30, 1 + v] ha1 (by simp) (by simp)
  have hb : 1 ≤ x ∧ x ≤ 60 := by
    simp only [List.mem_cons, List.not_mem_nil, or_false] at hx
    omega
  obtain ⟨c, rfl⟩ : ∃ c : Nat, x = c := ⟨x.toNat, by omega⟩
  obtain ⟨a3, b3, ha3, e3⟩ := clock_right (c := c) (by omega) (by omega) a2 b2 ha2
  obtain ⟨a4, b4, ha4, e4⟩ := apart_right a3 b3 ha3
  obtain ⟨a5, b5, ha5, e5⟩ := great_right a4 b4 ha4
  have f3 : frame c__law_clock_right [.cel 0, .int c] [pot a2 b2] = .ok (.d (.bl true)) [pot a3 b3] := (frame1 (ds := [.int c]) rfl rfl rfl rfl e3 rfl rfl).trans rfl
  have f4 : frame c__law_apart_right [.cel 0] [pot a3 b3] = .ok (.d (.bl true)) [pot a4 b4] := (frame1 (ds := []) rfl rfl rfl rfl e4 rfl rfl).trans rfl
  have f5 : frame c__law_great_right [.cel 0] [pot a4 b4] = .ok (.d (.bl true)) [pot a5 b5] := (frame1 (ds := []) rfl rfl rfl rfl e5 rfl rfl).trans rfl
  have f6 : frame c__law_common_right [.int c] [pot a3 b3] = .ok (.d (.bl true)) [pot a3 b3] := frame0 rfl rfl (cright_ok (c := c) (by omega) (by omega)) rfl
  have y1 : eBin false .Add (eC (.int 1)) (eOwn false (frame c__law_draw) (eCons (eVar 0) (eCons (eC (.int 60)) (eNil)))) [some (.cel 0), none] [pot a b] = .ok (.int (1 + v)) [pot a1 b1] :=
    (eBin_ok (f := eC (.int 1)) (d := .int 1) (S1 := [pot a b]) rfl ((eOwn_ok (two_ok (var_ok rfl) (g := eC (.int 60)) (e := .int 60) (S2 := [pot a b]) rfl) (e1 [])).trans rfl) (r := .d (.int (1 + v))) rfl).trans rfl
  have k : ∀ i : Int, ∀ f : EvL, ∀ ds : List D, f [some (.cel 0), none] [pot a b] = .ok ds [pot a1 b1] → eCons (eC (.int i)) f [some (.cel 0), none] [pot a b] = .ok (.int i :: ds) [pot a1 b1] := fun i f ds h => cons_ok (f := eC (.int i)) (S1 := [pot a b]) rfl h
  refine ⟨a5, b5, ha5, ?_⟩
  refine runF_rt (d := .bl true) (S1 := [pot a5 b5]) rfl ?_ rfl
  unfold b__law_right
  show sSeq _ _ [some (.cel 0), none] [pot a b] = _
  refine (asg_nx (d := .int c) (S1 := [pot a2 b2]) ((eOwn_ok (two_ok (e := .lst ([1, 2, 6, 12, 30, 1 + v].map .int)) (S1 := [pot a b]) (S2 := [pot a1 b1]) (var_ok rfl) ((lst_ok (k 1 _ _ (k 2 _ _ (k 6 _ _ (k 12 _ _ (k 30 _ _ (one_ok y1)))))) (by simp)).trans rfl)) (e2 [])).trans rfl)).trans ?_
  simp only [List.set_cons_succ, List.set_cons_zero]
  refine ret_rt (eAnd_t (S1 := [pot a3 b3]) ((eOwn_ok (two_ok (var_ok rfl) (var_ok rfl)) f3).trans rfl) (eAnd_t (S1 := [pot a3 b3]) ((eOwn_ok (one_ok (var_ok rfl)) f6).trans rfl) (eAnd_t (S1 := [pot a4 b4]) ((eOwn_ok (one_ok (var_ok rfl)) f4).trans rfl) ((eOwn_ok (one_ok (var_ok rfl)) f5).trans rfl))))
end K96
namespace K96
open PySem L2 DI
theorem law_true (ns : List Int) (h : ns.length ≤ 63) : ∃ S', c_law [.scr ns] [] = .ok (.d (.bl true)) S' := by
  obtain ⟨m, hm1, hm2, hm⟩ : ∃ m : Nat, 1 ≤ m ∧ m ≤ 2 ∧ eBlt false bMax (eCons (eC (.int 1)) (eCons (eBlt false bMin (eCons (eC (.int 2)) (eCons (eBlt false bLen (eCons (eVar 0) (eNil))) (eNil)))) (eNil))) [some (.scr ns), none] [] = .ok (.int m) [] := by
    have e1 : bLen [] [.scr ns] = some (.d (.int ns.length)) := by rw [bLen_of rfl, List.length_map]
    refine ⟨if ns.length < 2 then (if ns.length > 1 then ns.length else 1) else 2, ?_, ?_, ?_⟩
    · split
      · split <;> omega
      · omega
    · split
      · split <;> omega
      · omega
    · simp [eBlt, eCons, eC, eVar, eNil, O.bind, ofRes, e1, DI.settle, bMin, bMax]
      split <;> split <;> split <;> first | omega | rfl | (split <;> first | omega | rfl)
  have hw := wRng1_ok hm (rngOk_small (by omega) (by omega) (by omega) (by omega))
  obtain ⟨ds, S2, e2, q1, q2, _⟩ := eComp_inv (al := false) (w := wRng1 (eBlt false bMax (eCons (eC (.int 1)) (eCons (eBlt false bMin (eCons (eC (.int 2)) (eCons (eBlt false bLen (eCons (eVar 0) (eNil))) (eNil)))) (eNil))))) (vs := [1]) (c := .one 1) (t := tYesE) (f := eOwn false (frame c__law_right) (eCons (eOwn true (frame c__law_pot) (eCons (eVar 0) (eCons (eVar 1) (eNil)))) (eNil))) (ρ := [some (.scr ns), none]) (S := []) (xs := rngL 0 m) (I := fun _ => True) (P := fun d => d = .bl true) hw trivial (fun x hx S _ => by
      rw [rngL_ints] at hx
      obtain ⟨k, hk, rfl⟩ := List.mem_map.mp hx
      obtain ⟨a, b, ha, e⟩ := pot_ok ns k (mem_rngI.mp hk).1
      have e1 : frame c__law_pot [.scr ns, .int k] S = .ok (.new [.int a, .int b]) S := frame0 rfl rfl e rfl
      obtain ⟨a', b', ha', er⟩ := right_ok a b ha
      have e3 : frame c__law_right [.cel S.length] (S ++ [pot a b]) = .ok (.d (.bl true)) ((S ++ [pot a b]).set S.length (pot a' b')) := frame1 (ds := []) (by rw [List.getElem?_append_right (Nat.le_refl _)]; simp; rfl) rfl rfl rfl er rfl rfl
      refine ⟨.bl true, (S ++ [pot a b]).set S.length (pot a' b'), ?_, rfl, trivial⟩
      have y1 : eOwn true (frame c__law_pot) (eCons (eVar 0) (eCons (eVar 1) (eNil))) [some (.scr ns), some (.int k)] S = .ok (.cel S.length) (S ++ [pot a b]) := (eOwn_ok (two_ok (var_ok rfl) (var_ok rfl)) e1).trans rfl
      exact compStep_yes (ρ1 := [some (.scr ns), some (.int k)]) rfl ((eOwn_ok (one_ok y1) e3).trans rfl))
  have hds : ds = (List.replicate ds.length true).map .bl := by
    apply List.ext_getElem?
    intro i
    rw [List.getElem?_map, List.getElem?_replicate]
    by_cases hi : i < ds.length
    · rw [if_pos hi, List.getElem?_eq_getElem hi, q2 _ (List.getElem_mem hi)]; rfl
    · rw [if_neg hi, List.getElem?_eq_none (by omega)]; rfl
  have hall : (List.replicate ds.length true).all id = true := by simp
  refine ⟨_, runF_rt (d := .bl true) (S1 := S2) rfl ?_ (retF_low rfl)⟩
  unfold b_law
  show sSeq _ _ [some (.scr ns), none] [] = _
  refine ret_rt ((eBlt_ok (r := .d (.bl true)) (one_ok (e2.trans (by rw [hds]; rfl))) ?_).trans rfl)
  rw [bAll_of (ns := List.replicate ds.length true) rfl, hall]
end K96
end
open PySem PySem.W PyProof.Rows
set_option maxHeartbeats 0 in
theorem PySem.Challenge.cw_clockrests_k96_whole_sums_over_units_and_holds : PySem.Challenge.rw_clockrests_k96_whole_sums_over_units_and.Holds := by
  w_on; o_law; k_head; (case hw => w_witness2)
  k_fill
  refine DI.walk_D (l := PySem.Challenge.rw_clockrests_k96_whole_sums_over_units_and) (n := 63) (k := 8) (x := "script") (c := K96.c_law) (CP := DI.Consts []) (st := K96.t_law) rfl (by decide) rfl ⟨rfl, by decide, by decide⟩ (by decide +kernel) (fun _ _ _ p hp => nomatch hp) (fun w h Y => PySem.W.kIn_of Y) ?F K96.bp_law ?hlaw
  case F =>
    intro w mg h KX G CP base sb
    have z_abs : mg "abs" = none := by
      refine PySem.W.mg_none_of KX G ?a
      (case a => k_is)
    have z_all : mg "all" = none := by
      refine PySem.W.mg_none_of KX G ?a
      (case a => k_is)
    have z_bool : mg "bool" = none := by
      refine PySem.W.mg_none_of KX G ?a
      (case a => k_is)
    have z_divmod : mg "divmod" = none := by
      refine PySem.W.mg_none_of KX G ?a
      (case a => k_is)
    have z_int : mg "int" = none := by
      refine PySem.W.mg_none_of KX G ?a
      (case a => k_is)
    have z_isinstance : mg "isinstance" = none := by
      refine PySem.W.mg_none_of KX G ?a
      (case a => k_is)
    have z_len : mg "len" = none := by
      refine PySem.W.mg_none_of KX G ?a
      (case a => k_is)
    have z_max : mg "max" = none := by
      refine PySem.W.mg_none_of KX G ?a
      (case a => k_is)
    have z_min : mg "min" = none := by
      refine PySem.W.mg_none_of KX G ?a
      (case a => k_is)
    have z_range : mg "range" = none := by
      refine PySem.W.mg_none_of KX G ?a
      (case a => k_is)
    have z_repr : mg "repr" = none := by
      refine PySem.W.mg_none_of KX G ?a
      (case a => k_is)
    have z_sorted : mg "sorted" = none := by
      refine PySem.W.mg_none_of KX G ?a
      (case a => k_is)
    have z_str : mg "str" = none := by
      refine PySem.W.mg_none_of KX G ?a
      (case a => k_is)
    have z_sum : mg "sum" = none := by
      refine PySem.W.mg_none_of KX G ?a
      (case a => k_is)
    refine' K96.all_own ⟨z_abs, z_all, z_bool, z_divmod, z_int, z_isinstance, z_len, z_max, z_min, z_range, z_repr, z_sorted, z_str, z_sum, (DI.const_int KX G ?g_MOST_CLOCK), (DI.const_int KX G ?g_MOST_NUMBER), (DI.const_tup KX G ?g_WORDS ?h_WORDS ?v_WORDS (by decide))⟩ sb (DI.top_mk KX G ?a0 ?l0 ?c0 ?k0) (DI.top_mk KX G ?a1 ?l1 ?c1 ?k1) (DI.top_mk KX G ?a2 ?l2 ?c2 ?k2) (DI.top_mk KX G ?a3 ?l3 ?c3 ?k3) (DI.top_mk KX G ?a4 ?l4 ?c4 ?k4) (DI.top_mk KX G ?a5 ?l5 ?c5 ?k5) (DI.top_mk KX G ?a6 ?l6 ?c6 ?k6) (DI.top_mk KX G ?a7 ?l7 ?c7 ?k7) (DI.top_mk KX G ?a8 ?l8 ?c8 ?k8) (DI.top_mk KX G ?a9 ?l9 ?c9 ?k9) (DI.top_mk KX G ?a10 ?l10 ?c10 ?k10) (DI.top_mk KX G ?a11 ?l11 ?c11 ?k11) (DI.top_mk KX G ?a12 ?l12 ?c12 ?k12) (DI.top_mk KX G ?a13 ?l13 ?c13 ?k13) (DI.top_mk KX G ?a14 ?l14 ?c14 ?k14) (DI.top_mk KX G ?a15 ?l15 ?c15 ?k15) (DI.top_mk KX G ?a16 ?l16 ?c16 ?k16) (DI.top_mk KX G ?a17 ?l17 ?c17 ?k17) (DI.top_mk KX G ?a18 ?l18 ?c18 ?k18) (DI.top_mk KX G ?a19 ?l19 ?c19 ?k19) (DI.top_mk KX G ?a20 ?l20 ?c20 ?k20) (DI.top_mk KX G ?a21 ?l21 ?c21 ?k21) (DI.top_mk KX G ?a22 ?l22 ?c22 ?k22) (DI.top_mk KX G ?a23 ?l23 ?c23 ?k23) (DI.top_mk KX G ?a24 ?l24 ?c24 ?k24) (DI.top_mk KX G ?a25 ?l25 ?c25 ?k25) (DI.top_mk KX G ?a26 ?l26 ?c26 ?k26) (DI.top_mk KX G ?a27 ?l27 ?c27 ?k27) (DI.top_mk KX G ?a28 ?l28 ?c28 ?k28) (DI.top_mk KX G ?a29 ?l29 ?c29 ?k29) (DI.top_mk KX G ?a30 ?l30 ?c30 ?k30) (DI.top_mk KX G ?a31 ?l31 ?c31 ?k31) (DI.top_mk KX G ?a32 ?l32 ?c32 ?k32) (DI.top_mk KX G ?a33 ?l33 ?c33 ?k33) (DI.top_mk KX G ?a34 ?l34 ?c34 ?k34) (DI.top_mk KX G ?a35 ?l35 ?c35 ?k35) (DI.top_mk KX G ?a36 ?l36 ?c36 ?k36)
    (case g_MOST_CLOCK => k_is)
    (case g_MOST_NUMBER => k_is)
    (case g_WORDS => k_is); (case h_WORDS => k_is); (case v_WORDS => exact (.str _ _ (.str _ _ (.str _ _ (.str _ _ (.str _ _ (.str _ _ (.str _ _ (.str _ _ (.str _ _ .nil))))))))))
    (case a0 => k_is); (case l0 => k_is); (case c0 => k_is); (case k0 => k_is)
    (case a1 => k_is); (case l1 => k_is); (case c1 => k_is); (case k1 => k_is)
    (case a2 => k_is); (case l2 => k_is); (case c2 => k_is); (case k2 => k_is)
    (case a3 => k_is); (case l3 => k_is); (case c3 => k_is); (case k3 => k_is)
    (case a4 => k_is); (case l4 => k_is); (case c4 => k_is); (case k4 => k_is)
    (case a5 => k_is); (case l5 => k_is); (case c5 => k_is); (case k5 => k_is)
    (case a6 => k_is); (case l6 => k_is); (case c6 => k_is); (case k6 => k_is)
    (case a7 => k_is); (case l7 => k_is); (case c7 => k_is); (case k7 => k_is)
    (case a8 => k_is); (case l8 => k_is); (case c8 => k_is); (case k8 => k_is)
    (case a9 => k_is); (case l9 => k_is); (case c9 => k_is); (case k9 => k_is)
    (case a10 => k_is); (case l10 => k_is); (case c10 => k_is); (case k10 => k_is)
    (case a11 => k_is); (case l11 => k_is); (case c11 => k_is); (case k11 => k_is)
    (case a12 => k_is); (case l12 => k_is); (case c12 => k_is); (case k12 => k_is)
    (case a13 => k_is); (case l13 => k_is); (case c13 => k_is); (case k13 => k_is)
    (case a14 => k_is); (case l14 => k_is); (case c14 => k_is); (case k14 => k_is)
    (case a15 => k_is); (case l15 => k_is); (case c15 => k_is); (case k15 => k_is)
    (case a16 => k_is); (case l16 => k_is); (case c16 => k_is); (case k16 => k_is)
    (case a17 => k_is); (case l17 => k_is); (case c17 => k_is); (case k17 => k_is)
    (case a18 => k_is); (case l18 => k_is); (case c18 => k_is); (case k18 => k_is)
    (case a19 => k_is); (case l19 => k_is); (case c19 => k_is); (case k19 => k_is)
    (case a20 => k_is); (case l20 => k_is); (case c20 => k_is); (case k20 => k_is)
    (case a21 => k_is); (case l21 => k_is); (case c21 => k_is); (case k21 => k_is)
    (case a22 => k_is); (case l22 => k_is); (case c22 => k_is); (case k22 => k_is)
    (case a23 => k_is); (case l23 => k_is); (case c23 => k_is); (case k23 => k_is)
    (case a24 => k_is); (case l24 => k_is); (case c24 => k_is); (case k24 => k_is)
    (case a25 => k_is); (case l25 => k_is); (case c25 => k_is); (case k25 => k_is)
    (case a26 => k_is); (case l26 => k_is); (case c26 => k_is); (case k26 => k_is)
    (case a27 => k_is); (case l27 => k_is); (case c27 => k_is); (case k27 => k_is)
    (case a28 => k_is); (case l28 => k_is); (case c28 => k_is); (case k28 => k_is)
    (case a29 => k_is); (case l29 => k_is); (case c29 => k_is); (case k29 => k_is)
    (case a30 => k_is); (case l30 => k_is); (case c30 => k_is); (case k30 => k_is)
    (case a31 => k_is); (case l31 => k_is); (case c31 => k_is); (case k31 => k_is)
    (case a32 => k_is); (case l32 => k_is); (case c32 => k_is); (case k32 => k_is)
    (case a33 => k_is); (case l33 => k_is); (case c33 => k_is); (case k33 => k_is)
    (case a34 => k_is); (case l34 => k_is); (case c34 => k_is); (case k34 => k_is)
    (case a35 => k_is); (case l35 => k_is); (case c35 => k_is); (case k35 => k_is)
    (case a36 => k_is); (case l36 => k_is); (case c36 => k_is); (case k36 => k_is)
  case hlaw => exact fun ns h => K96.law_true ns h
