import PyProof.Rows.All
import Wide.All
import OpenK.AllK
import Wide.FinOn
import HandS.ForMost
import HandS.IsInst
import HandS.Zip
import HandS.SortInts
import HandS.Style
import HandS.Wide
import HandS.Conv
import HandS.TryOnly
import HandS.Defaults
import HandS.TupAny
import HandS.Walk
import HandS.Small
import HandS.Words
import HandS.Ends
import Wide.Loose
import PyProof.ReprLen
import PySem.Challenge.RW_clockrests_k91_whole_sums_and_rows_taken
set_option Elab.async false
set_option linter.all false
set_option maxRecDepth 100000
set_option maxHeartbeats 4000000
noncomputable section
/-! DI: an interpreter over plain data. Values of the language without the heap; lists that a program changes are cells of a store, all others are values. -/
namespace DI
open PySem L2
inductive D where
  | non | bl (b : Bool) | int (i : Int) | str (x : Str)
  | lst (xs : List D) | tup (xs : List D) | scr (ns : List Int) | emp | cel (n : Nat)
  deriving Inhabited
inductive Cell where
  | lst (xs : List D) | dct (kvs : List (Key × D))
abbrev Store := List (Option Cell)
abbrev Rho := List (Option D)
structure Ex where
  name : Str
  args : List (Str × D)
inductive O (α : Type) where
  | ok (a : α) (S : Store) | er (x : Ex) (ρ : Rho) (S : Store) | no
def O.holds {α : Type} : O α → (α → Store → Prop) → (Ex → Rho → Store → Prop) → Prop
  | .ok a S, Q, _ => Q a S
  | .er x ρ S, _, E => E x ρ S
  | .no, _, _ => False
def O.bind {α β : Type} (o : O α) (k : α → Store → O β) : O β := match o with
  | .ok a S => k a S
  | .er x ρ S => .er x ρ S
  | .no => .no
@[simp] theorem O.bind_ok {α β : Type} (a : α) (S : Store) (k : α → Store → O β) : (O.ok a S).bind k = k a S := rfl
@[simp] theorem O.bind_er {α β : Type} (x : Ex) (ρ : Rho) (S : Store) (k : α → Store → O β) : (O.er x ρ S : O α).bind k = .er x ρ S := rfl
@[simp] theorem O.bind_no {α β : Type} (k : α → Store → O β) : (O.no : O α).bind k = .no := rfl
theorem O.bind_holds {α β : Type} {o : O α} {k : α → Store → O β} {Q : β → Store → Prop} {E : Ex → Rho → Store → Prop} :
    (o.bind k).holds Q E = o.holds (fun a S => (k a S).holds Q E) E := by cases o <;> rfl
theorem O.holds_mono {α : Type} {o : O α} {Q Q' : α → Store → Prop} {E E' : Ex → Rho → Store → Prop} (h : o.holds Q E) (hq : ∀ a S, Q a S → Q' a S) (he : ∀ x ρ S, E x ρ S → E' x ρ S) : o.holds Q' E' := by
  cases o with
  | ok a S => exact hq a S h
  | er x ρ S => exact he x ρ S h
  | no => exact h
/-- nothing may be raised -/
def O.calm {α : Type} : O α → O α
  | .er _ _ _ => .no
  | o => o
@[simp] theorem O.calm_ok {α : Type} (a : α) (S : Store) : (O.ok a S).calm = .ok a S := rfl
/-- what an operation gives: a value, or a list that nobody else has -/
inductive Res where
  | d (d : D) | new (xs : List D)
def LINE : Nat := 16777216
/-- a new list becomes a cell, or a value -/
def settle (al : Bool) (r : Res) (S : Store) : O D := match r with
  | .d d => .ok d S
  | .new xs => if al then .ok (.cel S.length) (S ++ [some (.lst xs)]) else .ok (.lst xs) S
def ofRes (al : Bool) (r : Option Res) (S : Store) : O D := match r with
  | some r => settle al r S
  | none => .no
/-! ### looking into values -/
def cellL (S : Store) (n : Nat) : Option (List D) := match S[n]? with
  | some (some (.lst xs)) => some xs
  | _ => none
def cellK (S : Store) (n : Nat) : Option (List (Key × D)) := match S[n]? with
  | some (some (.dct xs)) => some xs
  | _ => none
/-- the items of a list -/
def listOf (S : Store) : D → Option (List D)
  | .lst xs => some xs
  | .cel n => cellL S n
  | .scr ns => some (ns.map .int)
  | _ => none
/-- .. that stands as itself (a sum, a repetition) -/
def plainL : D → Bool
  | .scr _ => false
  | _ => true
/-- the items of a list or a tuple -/
def seqOf (S : Store) : D → Option (List D)
  | .tup xs => some xs
  | d => listOf S d
/-- ints, bools -/
def intsOf : List D → Option (List Int)
  | [] => some []
  | .int i :: r => (intsOf r).map (i :: ·)
  | _ => none
def blsOf : List D → Option (List Bool)
  | [] => some []
  | .bl i :: r => (blsOf r).map (i :: ·)
  | _ => none
theorem intsOf_map (ns : List Int) : intsOf (ns.map .int) = some ns := by
  induction ns with
  | nil => rfl
  | cons n r ih => simp [intsOf, ih]
theorem blsOf_map (ns : List Bool) : blsOf (ns.map .bl) = some ns := by
  induction ns with
  | nil => rfl
  | cons n r ih => simp [blsOf, ih]
theorem intsOf_eq : ∀ {xs : List D} {ns : List Int}, intsOf xs = some ns → xs = ns.map .int
  | [], ns, h => by cases h; rfl
  | .int i :: r, ns, h => by
    simp only [intsOf, Option.map_eq_some_iff] at h
    obtain ⟨m, h1, rfl⟩ := h
    rw [intsOf_eq h1]; rfl
  | .non :: _, _, h => by cases h
  | .bl _ :: _, _, h => by cases h
  | .str _ :: _, _, h => by cases h
  | .lst _ :: _, _, h => by cases h
  | .tup _ :: _, _, h => by cases h
  | .scr _ :: _, _, h => by cases h
  | .emp :: _, _, h => by cases h
  | .cel _ :: _, _, h => by cases h
theorem blsOf_eq : ∀ {xs : List D} {ns : List Bool}, blsOf xs = some ns → xs = ns.map .bl
  | [], ns, h => by cases h; rfl
  | .bl i :: r, ns, h => by
    simp only [blsOf, Option.map_eq_some_iff] at h
    obtain ⟨m, h1, rfl⟩ := h
    rw [blsOf_eq h1]; rfl
  | .non :: _, _, h => by cases h
  | .int _ :: _, _, h => by cases h
  | .str _ :: _, _, h => by cases h
  | .lst _ :: _, _, h => by cases h
  | .tup _ :: _, _, h => by cases h
  | .scr _ :: _, _, h => by cases h
  | .emp :: _, _, h => by cases h
  | .cel _ :: _, _, h => by cases h
/-! ### the same value; values that name no cell from b on -/
mutual
def D.same : D → D → Bool
  | .non, .non => true
  | .bl a, .bl b => a == b
  | .int a, .int b => decide (a = b)
  | .str a, .str b => decide (a = b)
  | .lst xs, .lst ys => sameL xs ys
  | .tup xs, .tup ys => sameL xs ys
  | .scr a, .scr b => decide (a = b)
  | .emp, .emp => true
  | .cel a, .cel b => decide (a = b)
  | _, _ => false
def sameL : List D → List D → Bool
  | [], [] => true
  | x :: r, y :: t => x.same y && sameL r t
  | _, _ => false
end
mutual
theorem D.same_eq : ∀ {a b : D}, a.same b = true → a = b
  | .non, b, h => by cases b <;> first | rfl | cases h
  | .bl a, b, h => by cases b <;> first | (have h : (a == _) = true := h; rw [beq_iff_eq] at h; rw [h]) | cases h
  | .int a, b, h => by cases b <;> first | (have h : decide (a = _) = true := h; rw [of_decide_eq_true h]) | cases h
  | .str a, b, h => by cases b <;> first | (have h : decide (a = _) = true := h; rw [of_decide_eq_true h]) | cases h
  | .lst xs, b, h => by cases b <;> first | (have h : sameL xs _ = true := h; rw [sameL_eq h]) | cases h
  | .tup xs, b, h => by cases b <;> first | (have h : sameL xs _ = true := h; rw [sameL_eq h]) | cases h
  | .scr a, b, h => by cases b <;> first | (have h : decide (a = _) = true := h; rw [of_decide_eq_true h]) | cases h
  | .emp, b, h => by cases b <;> first | rfl | cases h
  | .cel a, b, h => by cases b <;> first | (have h : decide (a = _) = true := h; rw [of_decide_eq_true h]) | cases h
theorem sameL_eq : ∀ {a b : List D}, sameL a b = true → a = b
  | [], b, h => by cases b <;> first | rfl | cases h
  | x :: r, b, h => by
    cases b with
    | nil => cases h
    | cons y t =>
      have h : (x.same y && sameL r t) = true := h
      rw [Bool.and_eq_true] at h
      rw [D.same_eq h.1, sameL_eq h.2]
end
mutual
theorem D.same_refl : ∀ a : D, a.same a = true
  | .non => rfl
  | .bl a => (beq_iff_eq).mpr rfl
  | .int _ => decide_eq_true rfl
  | .str _ => decide_eq_true rfl
  | .lst xs => sameL_refl xs
  | .tup xs => sameL_refl xs
  | .scr _ => decide_eq_true rfl
  | .emp => rfl
  | .cel _ => decide_eq_true rfl
theorem sameL_refl : ∀ a : List D, sameL a a = true
  | [] => rfl
  | x :: r => by
    show (x.same x && sameL r r) = true
    rw [D.same_refl x, sameL_refl r]; rfl
end
mutual
def D.low (b : Nat) : D → Bool
  | .lst xs => lowL b xs
  | .tup xs => lowL b xs
  | .cel n => decide (n < b)
  | _ => true
def lowL (b : Nat) : List D → Bool
  | [] => true
  | x :: r => x.low b && lowL b r
end
def lowC (b : Nat) : Cell → Bool
  | .lst xs => lowL b xs
  | .dct kvs => lowL b (kvs.map (·.2))
def cleanC (b : Nat) : Option Cell → Option Cell
  | some c => if lowC b c then some c else none
  | none => none
/-- the store behind a call -/
def cleanS (b : Nat) (S : Store) : Store := (S.take b).map (cleanC b)
def frzAll (f : D → Option D) : List D → Option (List D)
  | [] => some []
  | x :: r => match f x, frzAll f r with
    | some y, some t => some (y :: t)
    | _, _ => none
/-- cells from b on become values -/
def frzD (S : Store) (b : Nat) : Nat → D → Option D
  | 0, d => if d.low b then some d else none
  | k + 1, d => if d.low b then some d else match d with
    | .cel n => (match cellL S n with
      | some xs => (frzAll (frzD S b k) xs).map .lst
      | none => none)
    | .lst xs => (frzAll (frzD S b k) xs).map .lst
    | .tup xs => (frzAll (frzD S b k) xs).map .tup
    | _ => none
/-- what a call gives -/
def retF (b : Nat) (d : D) (S : Store) : O Res := match d with
  | .cel n => if n < b then .ok (.d (.cel n)) (cleanS b S) else match cellL S n with
    | some xs => (match frzAll (frzD (S.set n none) b 3) xs with
      | some ys => .ok (.new ys) (cleanS b S)
      | none => .no)
    | none => .no
  | d => match frzD S b 3 d with
    | some e => .ok (.d e) (cleanS b S)
    | none => .no
/-! a value as the data of the library: cells are opened one deep -/
mutual
def D.toP0 : D → Option PyData
  | .non => some .none
  | .bl b => some (.bool b)
  | .int i => some (.int i)
  | .str x => some (.str x)
  | .lst xs => (toPs0 xs).map .list
  | .tup xs => (toPs0 xs).map .tuple
  | .scr ns => some (.list (ns.map .int))
  | .emp => some (.dict [])
  | .cel _ => none
def toPs0 : List D → Option (List PyData)
  | [] => some []
  | x :: r => match x.toP0, toPs0 r with
    | some a, some b => some (a :: b)
    | _, _ => none
end
mutual
def D.toP (S : Store) : D → Option PyData
  | .non => some .none
  | .bl b => some (.bool b)
  | .int i => some (.int i)
  | .str x => some (.str x)
  | .lst xs => (toPs S xs).map .list
  | .tup xs => (toPs S xs).map .tuple
  | .scr ns => some (.list (ns.map .int))
  | .emp => some (.dict [])
  | .cel n => match cellL S n with
    | some xs => (toPs0 xs).map .list
    | none => none
def toPs (S : Store) : List D → Option (List PyData)
  | [] => some []
  | x :: r => match x.toP S, toPs S r with
    | some a, some b => some (a :: b)
    | _, _ => none
end
/-! ### operators -/
def mulOk (i j : Int) : Bool := decide (i.natAbs < 18446744073709551616) || decide (j.natAbs < 18446744073709551616)
def divOk (j : Int) : Bool := decide (0 < j) && decide (j.natAbs < 18446744073709551616)
def powOk (i j : Int) : Bool := decide (0 ≤ j) && decide (j ≤ 1000000) && decide (i.natAbs < 18446744073709551616)
def addD (S : Store) : D → D → Option Res
  | .int i, .int j => some (.d (.int (i + j)))
  | .str x, .str y => if x.length + y.length ≤ LINE then some (.d (.str (x ++ y))) else none
  | .tup xs, .tup ys => if xs.length + ys.length ≤ LINE then some (.d (.tup (xs ++ ys))) else none
  | .lst xs, d => match d with
    | .lst ys => if xs.length + ys.length ≤ LINE then some (.new (xs ++ ys)) else none
    | .cel n => match cellL S n with
      | some ys => if xs.length + ys.length ≤ LINE then some (.new (xs ++ ys)) else none
      | none => none
    | _ => none
  | .cel m, d => match cellL S m with
    | some xs => match d with
      | .lst ys => if xs.length + ys.length ≤ LINE then some (.new (xs ++ ys)) else none
      | .cel n => match cellL S n with
        | some ys => if xs.length + ys.length ≤ LINE then some (.new (xs ++ ys)) else none
        | none => none
      | _ => none
    | none => none
  | _, _ => none
def mulD (S : Store) : D → D → Option Res
  | .int i, .int j => if mulOk i j then some (.d (.int (i * j))) else none
  | .lst xs, .int k => if decide (k ≤ 16777216) && decide (-16777216 ≤ k) && decide (xs.length * k.toNat ≤ LINE) then some (.new (List.replicate k.toNat xs).flatten) else none
  | .cel n, .int k => match cellL S n with
    | some xs => if decide (k ≤ 16777216) && decide (-16777216 ≤ k) && decide (xs.length * k.toNat ≤ LINE) then some (.new (List.replicate k.toNat xs).flatten) else none
    | none => none
  | _, _ => none
def binD (S : Store) : Operator → D → D → Option Res
  | .Add, d, e => addD S d e
  | .Sub, .int i, .int j => some (.d (.int (i - j)))
  | .Mult, d, e => mulD S d e
  | .Mod, .int i, .int j => if decide (0 < j) then some (.d (.int (i % j))) else none
  | .FloorDiv, .int i, .int j => if divOk j then some (.d (.int (i / j))) else none
  | .Pow, .int i, .int j => if powOk i j then some (.d (.int (i ^ j.toNat))) else none
  | _, _, _ => none
/-! ### comparisons -/
def strEq : D → D → Option Bool
  | .str x, .str y => some (decide (x = y))
  | .int x, .int y => some (decide (x = y))
  | _, _ => none
def eqvD0 (S : Store) (d e : D) : Option Bool := match d.toP S, e.toP S with
  | some p, some q => if SeqAt.shaped p && SeqAt.shaped q then some (PyData.eqv p q) else none
  | _, _ => none
def eqvD (S : Store) (d e : D) : Option Bool := match strEq d e with
  | some b => some b
  | none => eqvD0 S d e
def anyD (S : Store) (d : D) (e : D) : Option Bool := match seqOf S e with
  | some es => match d.toP S, (toPs S es) with
    | some p, some qs => if SeqAt.shaped p && SeqAt.shaped (.list qs) then some (qs.any fun z => PyData.eqv z p) else none
    | _, _ => none
  | none => none
def inKey : D → Option Key
  | .int i => some (.inl i)
  | .str x => some (.inr x)
  | _ => none
def valK {κ : Type} [DecidableEq κ] (kvs : List (κ × D)) (k : κ) : Option D := (kvs.find? fun kv => decide (kv.1 = k)).map (·.2)
def setK {κ : Type} [DecidableEq κ] (kvs : List (κ × D)) (k : κ) (v : D) : List (κ × D) :=
  if (kvs.any fun kv => decide (kv.1 = k)) = true then kvs.map (fun kv => if kv.1 = k then (kv.1, v) else kv) else kvs ++ [(k, v)]
/-- in a dict's cell, else in a list or a tuple -/
def inD (S : Store) (d e : D) : Option Bool := match e with
  | .cel n => (match cellK S n with
    | some kvs => (match inKey d with
      | some k => some (valK kvs k).isSome
      | none => none)
    | none => anyD S d (.cel n))
  | e => anyD S d e
def cmpD (S : Store) : CmpOp → D → D → Option Bool
  | .Eq, d, e => eqvD S d e
  | .NotEq, d, e => (eqvD S d e).map (!·)
  | .Lt, .int i, .int j => some (decide (i < j))
  | .LtE, .int i, .int j => some (decide (i ≤ j))
  | .Gt, .int i, .int j => some (decide (j < i))
  | .GtE, .int i, .int j => some (decide (j ≤ i))
  | .Is, d, .non => some (match d with | .non => true | _ => false)
  | .IsNot, d, .non => some (match d with | .non => false | _ => true)
  | .Is, .bl a, .bl b => some (decide (a = b))
  | .IsNot, .bl a, .bl b => some (!decide (a = b))
  | .In, d, e => inD S d e
  | .NotIn, d, e => (inD S d e).map (!·)
  | _, _, _ => none
/-! ### places, cuts -/
def getD (S : Store) (o i : D) : Option D := match seqOf S o with
  | some xs => (match i with
    | .int i => atI xs i
    | _ => none)
  | none => (match o with
    | .cel n => (match cellK S n, inKey i with
      | some kvs, some k => valK kvs k
      | _, _ => none)
    | _ => none)
def cutL {α : Type} (xs : List α) (lo hi : Option Int) : List α := (xs.drop (HT.sIx xs.length 0 lo)).take (HT.sIx xs.length xs.length hi - HT.sIx xs.length 0 lo)
def sliceD (S : Store) (o : D) (lo hi : Option Int) : Option Res := match o with
  | .tup xs => if HT.sIx xs.length 0 lo = 0 ∧ HT.sIx xs.length xs.length hi = xs.length then some (.d (.tup xs)) else some (.d (.tup (cutL xs lo hi)))
  | o => match listOf S o with
    | some xs => some (.new (cutL xs lo hi))
    | none => none
def revD (S : Store) (o : D) : Option Res := match listOf S o with
  | some xs => some (.new xs.reverse)
  | none => none
/-! ### built-in functions -/
/-- a built-in type's name, for isinstance -/
def tyName : D → Option String
  | .non => some "NoneType"
  | .bl _ => some "bool"
  | .int _ => some "int"
  | .str _ => some "str"
  | .lst _ => some "list"
  | .tup _ => some "tuple"
  | .scr _ => some "list"
  | .emp => some "dict"
  | .cel _ => none
def tyOf (S : Store) : D → Option String
  | .cel n => match S[n]? with
    | some (some (.lst _)) => some "list"
    | some (some (.dct _)) => some "dict"
    | _ => none
  | d => tyName d
def isSub (a b : String) : Bool := (a == b) || (a == "bool" && b == "int")
def isInst (S : Store) (d : D) (ts : List String) : Option Bool := (tyOf S d).map fun a => ts.any fun b => isSub a b
def reprD (S : Store) (d : D) : Option Str := match d.toP S with
  | some p => if p.showable && decide (p.shown.length ≤ LINE) && decide (p.depth ≤ 64) then some p.shown else none
  | none => none
def insI (x : Int) : List Int → List Int
  | [] => [x]
  | y :: r => if x ≤ y then x :: y :: r else y :: insI x r
def sortI : List Int → List Int
  | [] => []
  | x :: r => insI x (sortI r)
def maxI : List Int → Int
  | [] => 0
  | [x] => x
  | x :: r => let m := maxI r; if m < x then x else m
def minI : List Int → Int
  | [] => 0
  | [x] => x
  | x :: r => let m := minI r; if x < m then x else m
def lenD (S : Store) (d : D) : Option Nat := match d with
  | .str x => if x.length ≤ LINE then some x.length else none
  | .emp => some 0
  | .cel n => match cellK S n with
    | some kvs => some kvs.length
    | none => (cellL S n).map (·.length)
  | d => (seqOf S d).map (·.length)
/-- a built-in function of values -/
def one1 (ds : List D) (f : D → Option Res) : Option Res := match ds with
  | [d] => f d
  | _ => none
def withInts (S : Store) (d : D) (f : List Int → Option Res) : Option Res := match listOf S d with
  | some xs => (match intsOf xs with | some ns => f ns | none => none)
  | none => none
def withBls (S : Store) (d : D) (f : List Bool → Option Res) : Option Res := match listOf S d with
  | some xs => (match blsOf xs with | some ns => f ns | none => none)
  | none => none
def bAbs (ds : List D) : Option Res := match ds with
  | [.int i] => some (.d (.int (if i < 0 then -i else i)))
  | _ => none
def bInt (ds : List D) : Option Res := match ds with
  | [.int i] => some (.d (.int i))
  | [.bl k] => some (.d (.int (if k then 1 else 0)))
  | _ => none
def bMax (S : Store) (ds : List D) : Option Res := match ds with
  | [.int i, .int j] => some (.d (.int (if j > i then j else i)))
  | [d] => withInts S d fun ns => if ns.length = 0 then none else some (.d (.int (maxI ns)))
  | _ => none
def bMin (S : Store) (ds : List D) : Option Res := match ds with
  | [.int i, .int j] => some (.d (.int (if j < i then j else i)))
  | [d] => withInts S d fun ns => if ns.length = 0 then none else some (.d (.int (minI ns)))
  | _ => none
def bDivmod (ds : List D) : Option Res := match ds with
  | [.int i, .int j] => if decide (0 < j) && decide (j < 1073741824) then some (.d (.tup [.int (i / j), .int (i % j)])) else none
  | _ => none
def bLen (S : Store) (ds : List D) : Option Res := one1 ds fun d => (lenD S d).map fun n => .d (.int n)
def bSum (S : Store) (ds : List D) : Option Res := one1 ds fun d => withInts S d fun ns => some (.d (.int ns.sum))
def bAll (S : Store) (ds : List D) : Option Res := one1 ds fun d => withBls S d fun bs => some (.d (.bl (bs.all id)))
def bAny (S : Store) (ds : List D) : Option Res := one1 ds fun d => withBls S d fun bs => some (.d (.bl (bs.any id)))
def bSorted (S : Store) (ds : List D) : Option Res := one1 ds fun d => withInts S d fun ns => some (.new ((sortI ns).map .int))
def bList (S : Store) (ds : List D) : Option Res := one1 ds fun d => (seqOf S d).map .new
def bTuple (S : Store) (ds : List D) : Option Res := one1 ds fun d => (seqOf S d).map fun xs => .d (.tup xs)
def bRepr (S : Store) (ds : List D) : Option Res := one1 ds fun d => (reprD S d).map fun t => .d (.str t)
/-! ### what a loop walks -/
def BIG : Int := 4611686018427387904
def rngOk (a b : Int) : Bool := decide (-BIG ≤ a) && decide (a < BIG) && decide (-BIG ≤ b) && decide (b < BIG) && decide ((b - a).toNat ≤ LINE)
def rngL (a b : Int) : List D := (List.range (b - a).toNat).map fun (i : Nat) => D.int (a + i)
/-- the items of a walk, and the cells that must stay as they are meanwhile -/
structure Walked where
  src : List (Nat × List D)
  its : List D
def srcOf (d : D) (xs : List D) : List (Nat × List D) := match d with
  | .cel n => [(n, xs)]
  | _ => []
def SrcOk (S : Store) (src : List (Nat × List D)) : Prop := ∀ p ∈ src, cellL S p.1 = some p.2
def enumL (xs : List D) : List D := List.zipWith (fun (i : Nat) x => D.tup [.int i, x]) (List.range xs.length) xs
def zipL (xs ys : List D) : List D := List.zipWith (fun x y => .tup [x, y]) xs ys
/-! ### the judgements' values -/
abbrev EvE := Rho → Store → O D
abbrev EvL := Rho → Store → O (List D)
abbrev EvB := Rho → Store → O Bool
abbrev EvW := Rho → Store → O Walked
abbrev EvG := D → Rho → Store → O Rho
inductive Fl where
  | nx (ρ : Rho) | rt (d : D)
abbrev EvS := Rho → Store → O Fl
/-! ### expressions -/
def eC (d : D) : EvE := fun _ S => .ok d S
def eNo {α : Type} : Rho → Store → O α := fun _ _ => .no
def eVar (i : Nat) : EvE := fun ρ S => match ρ[i]? with
  | some (some d) => .ok d S
  | _ => .no
def eNil : EvL := fun _ S => .ok [] S
def eCons (f : EvE) (g : EvL) : EvL := fun ρ S => (f ρ S).bind fun d S1 => (g ρ S1).bind fun ds S2 => .ok (d :: ds) S2
def eLst (al : Bool) (g : EvL) : EvE := fun ρ S => (g ρ S).bind fun ds S1 => if ds.length ≤ LINE then settle al (.new ds) S1 else .no
def eTup (g : EvL) : EvE := fun ρ S => (g ρ S).bind fun ds S1 => if ds.length ≤ LINE then .ok (.tup ds) S1 else .no
def eBin (al : Bool) (op : Operator) (f g : EvE) : EvE := fun ρ S => (f ρ S).bind fun d S1 => (g ρ S1).bind fun e S2 => ofRes al (binD S2 op d e) S2
def eNeg (f : EvE) : EvE := fun ρ S => (f ρ S).bind fun d S1 => match d with
  | .int i => .ok (.int (-i)) S1
  | _ => .no
def ofB (o : Option Bool) (S : Store) : O D := match o with
  | some b => .ok (.bl b) S
  | none => .no
def eCmp (op : CmpOp) (f g : EvE) : EvE := fun ρ S => (f ρ S).bind fun d S1 => (g ρ S1).bind fun e S2 => ofB (cmpD S2 op d e) S2
def eChain (op op2 : CmpOp) (f g h : EvE) : EvE := fun ρ S => (f ρ S).bind fun d S1 => (g ρ S1).bind fun e S2 => match cmpD S2 op d e with
  | some true => (h ρ S2).bind fun k S3 => ofB (cmpD S3 op2 e k) S3
  | some false => .ok (.bl false) S2
  | none => .no
def eAnd (f g : EvE) : EvE := fun ρ S => (f ρ S).bind fun d S1 => match d with
  | .bl true => g ρ S1
  | .bl false => .ok (.bl false) S1
  | _ => .no
def eOr (f g : EvE) : EvE := fun ρ S => (f ρ S).bind fun d S1 => match d with
  | .bl true => .ok (.bl true) S1
  | .bl false => g ρ S1
  | _ => .no
def eNot (f : EvE) : EvE := fun ρ S => (f ρ S).bind fun d S1 => match d with
  | .bl b => .ok (.bl (!b)) S1
  | _ => .no
def eIf (t : EvB) (f g : EvE) : EvE := fun ρ S => (t ρ S).bind fun b S1 => if b then f ρ S1 else g ρ S1
def eGet (f g : EvE) : EvE := fun ρ S => (f ρ S).bind fun d S1 => (g ρ S1).bind fun e S2 => match getD S2 d e with
  | some v => .ok v S2
  | none => .no
def pNone : Rho → Store → O (Option Int) := fun _ S => .ok none S
def pSome (f : EvE) : Rho → Store → O (Option Int) := fun ρ S => (f ρ S).bind fun d S1 => match d with
  | .int i => .ok (some i) S1
  | _ => .no
def eSlice (al : Bool) (f : EvE) (l h : Rho → Store → O (Option Int)) : EvE := fun ρ S => (f ρ S).bind fun d S1 => (l ρ S1).bind fun lo S2 => (h ρ S2).bind fun hi S3 => ofRes al (sliceD S3 d lo hi) S3
def eRev (al : Bool) (f : EvE) : EvE := fun ρ S => (f ρ S).bind fun d S1 => ofRes al (revD S1 d) S1
def eBlt (al : Bool) (b : Store → List D → Option Res) (g : EvL) : EvE := fun ρ S => (g ρ S).bind fun ds S1 => ofRes al (b S1 ds) S1
def eIsi (f : EvE) (ts : List String) : EvE := fun ρ S => (f ρ S).bind fun d S1 => ofB (isInst S1 d ts) S1
def eOwn (al : Bool) (call : List D → Store → O Res) (g : EvL) : EvE := fun ρ S => (g ρ S).bind fun ds S1 => (call ds S1).calm.bind fun r S2 => settle al r S2
/-- positional values and keywords' values in the parameters' order -/
def arr {α : Type} (ps ks : List Str) (us ws : List α) : List α := us ++ (ps.drop us.length).filterMap fun p => (ks.zip ws).lookup p
def eOwnK (al : Bool) (call : List D → Store → O Res) (m : Nat) (ps ks : List Str) (g k : EvL) : EvE := fun ρ S => (g ρ S).bind fun ds S1 => (k ρ S1).bind fun es S2 =>
  if ds.length = m ∧ es.length = ks.length then (call (arr ps ks ds es) S2).calm.bind fun r S3 => settle al r S3 else .no
/-! ### walks -/
def srcSame (S : Store) : List (Nat × List D) → Bool
  | [] => true
  | p :: r => (match cellL S p.1 with | some xs => sameL xs p.2 | none => false) && srcSame S r
theorem srcOk_of {S : Store} : ∀ {src : List (Nat × List D)}, srcSame S src = true → SrcOk S src
  | [], _ => fun _ z => nomatch z
  | p :: r, h => by
    simp only [srcSame, Bool.and_eq_true] at h
    intro q hq
    rcases List.mem_cons.mp hq with e | hq
    · subst e
      obtain ⟨h1, _⟩ := h
      split at h1
      · rename_i xs hx
        rw [hx, sameL_eq h1]
      · cases h1
    · exact srcOk_of h.2 q hq
def keepSrc {α : Type} (src : List (Nat × List D)) (S : Store) (o : O α) : O α := if srcSame S src then o else .no
def wSeq (f : EvE) : EvW := fun ρ S => (f ρ S).bind fun d S1 => match seqOf S1 d with
  | some xs => .ok ⟨srcOf d xs, xs⟩ S1
  | none => .no
def wRng1 (f : EvE) : EvW := fun ρ S => (f ρ S).bind fun d S1 => match d with
  | .int b => if rngOk 0 b then .ok ⟨[], rngL 0 b⟩ S1 else .no
  | _ => .no
def wRng2 (f g : EvE) : EvW := fun ρ S => (f ρ S).bind fun d S1 => (g ρ S1).bind fun e S2 => match d, e with
  | .int a, .int b => if rngOk a b then .ok ⟨[], rngL a b⟩ S2 else .no
  | _, _ => .no
def wEnum (f : EvE) : EvW := fun ρ S => (f ρ S).bind fun d S1 => match listOf S1 d with
  | some xs => .ok ⟨srcOf d xs, enumL xs⟩ S1
  | none => .no
def wZip (f g : EvE) : EvW := fun ρ S => (f ρ S).bind fun d S1 => (g ρ S1).bind fun e S2 => match listOf S2 d, listOf S2 e with
  | some xs, some ys => .ok ⟨srcOf d xs ++ srcOf e ys, zipL xs ys⟩ S2
  | _, _ => match d, e with
    | .tup xs, .tup ys => .ok ⟨[], zipL xs ys⟩ S2
    | _, _ => .no
/-! ### targets -/
def gVar (i : Nat) : EvG := fun d ρ S => .ok (ρ.set i (some d)) S
def gNilE : List D → Rho → Store → O Rho := fun ds ρ S => match ds with
  | [] => .ok ρ S
  | _ => .no
def gConsE (g : EvG) (h : List D → Rho → Store → O Rho) : List D → Rho → Store → O Rho := fun ds ρ S => match ds with
  | d :: r => (g d ρ S).bind fun ρ1 S1 => h r ρ1 S1
  | [] => .no
def gTupE (n : Nat) (h : List D → Rho → Store → O Rho) : EvG := fun d ρ S => match d with
  | .tup xs => if xs.length = n then h xs ρ S else .no
  | _ => .no
def setD (S : Store) (o i v : D) : Option Store := match o with
  | .cel n => match S[n]? with
    | some (some (.lst xs)) => match i with
      | .int k => (ixN xs.length k).map fun j => S.set n (some (.lst (xs.set j v)))
      | _ => none
    | some (some (.dct kvs)) => match inKey i with
      | some k => if kvs.length < LINE then some (S.set n (some (.dct (setK kvs k v)))) else none
      | none => none
    | _ => none
  | _ => none
def gSubE (f g : EvE) : EvG := fun d ρ S => (f ρ S).bind fun o S1 => (g ρ S1).bind fun i S2 => match setD S2 o i d with
  | some S3 => .ok ρ S3
  | none => .no
/-! ### a comprehension -/
def wipeR (ρ : Rho) : List Nat → Rho
  | [] => ρ
  | v :: vs => (wipeR ρ vs).set v none
/-- what a clause binds: a name, or several -/
inductive CT where
  | one (i : Nat) | many (is : List Nat)
def CT.slots : CT → List Nat
  | .one i => [i]
  | .many is => is
def bindMany : List Nat → List D → Rho → Option Rho
  | [], [], ρ => some ρ
  | i :: is, d :: ds, ρ => bindMany is ds (ρ.set i (some d))
  | _, _, _ => none
def bindC (c : CT) (d : D) (ρ : Rho) : Option Rho := match c with
  | .one i => some (ρ.set i (some d))
  | .many is => (match d with
    | .tup ds => bindMany is ds ρ
    | _ => none)
def compL (step : D → Store → O (Option D)) (src : List (Nat × List D)) : List D → List D → Store → O (List D)
  | [], acc, S => keepSrc src S (.ok acc S)
  | x :: r, acc, S => keepSrc src S ((step x S).bind fun v S1 => match v with
    | some d => compL step src r (acc ++ [d]) S1
    | none => compL step src r acc S1)
def compStep (vs : List Nat) (c : CT) (t : EvB) (f : EvE) (ρ : Rho) : D → Store → O (Option D) := fun x S => match bindC c x (wipeR ρ vs) with
  | some ρ1 => (t ρ1 S).bind fun b S2 => if b then (f ρ1 S2).bind fun d S3 => .ok (some d) S3 else .ok none S2
  | none => .no
def eComp (al : Bool) (w : EvW) (vs : List Nat) (c : CT) (t : EvB) (f : EvE) : EvE := fun ρ S => (w ρ S).bind fun k S1 =>
  (compL (compStep vs c t f ρ) k.src k.its [] S1).calm.bind fun xs S2 => settle al (.new xs) S2
/-! ### tests -/
def tVal (f : EvE) : EvB := fun ρ S => (f ρ S).bind fun d S1 => match d with
  | .bl b => .ok b S1
  | _ => .no
def tYesE : EvB := fun _ S => .ok true S
def tAndE (t u : EvB) : EvB := fun ρ S => (t ρ S).bind fun b S1 => if b then u ρ S1 else .ok false S1
def tOrE (t u : EvB) : EvB := fun ρ S => (t ρ S).bind fun b S1 => if b then .ok true S1 else u ρ S1
def tNotE (t : EvB) : EvB := fun ρ S => (t ρ S).bind fun b S1 => .ok (!b) S1
/-! ### statements -/
def sNext : EvS := fun ρ S => .ok (.nx ρ) S
def sSeq (f g : EvS) : EvS := fun ρ S => (f ρ S).bind fun r S1 => match r with
  | .nx ρ1 => g ρ1 S1
  | .rt d => .ok (.rt d) S1
def sRet (f : EvE) : EvS := fun ρ S => (f ρ S).bind fun d S1 => .ok (.rt d) S1
def sIf (t : EvB) (f g : EvS) : EvS := fun ρ S => (t ρ S).bind fun b S1 => if b then f ρ S1 else g ρ S1
def sAsg (f : EvE) (g : EvG) : EvS := fun ρ S => (f ρ S).bind fun d S1 => (g d ρ S1).bind fun ρ1 S2 => .ok (.nx ρ1) S2
/-- x = y where y's cell becomes a value, for y (slot j) too -/
def sFrz (i j : Nat) : EvS := fun ρ S => match ρ[j]? with
  | some (some (.cel n)) => match cellL S n with
    | some xs => if i < ρ.length then .ok (.nx ((ρ.set j (some (.lst xs))).set i (some (.lst xs)))) (S.set n none) else .no
    | none => .no
  | _ => .no
/-- several stored at once -/
def sPar (g : EvL) (h : List D → Rho → Store → O Rho) : EvS := fun ρ S => (g ρ S).bind fun ds S1 => (h ds ρ S1).bind fun ρ1 S2 => .ok (.nx ρ1) S2
def sDrop (f : EvE) : EvS := fun ρ S => (f ρ S).bind fun _ S1 => .ok (.nx ρ) S1
def sApp (f g : EvE) : EvS := fun ρ S => (f ρ S).bind fun o S1 => match o with
  | .cel n => match cellL S1 n with
    | some _ => (g ρ S1).bind fun d S2 => match cellL S2 n with
      | some xs => if xs.length < LINE then .ok (.nx ρ) (S2.set n (some (.lst (xs ++ [d])))) else .no
      | none => .no
    | none => .no
  | _ => .no
def sExt (f g : EvE) : EvS := fun ρ S => (f ρ S).bind fun o S1 => match o with
  | .cel n => match cellL S1 n with
    | some _ => (g ρ S1).bind fun d S2 => match cellL S2 n, (if plainL d then listOf S2 d else none) with
      | some xs, some ys => if xs.length + ys.length ≤ LINE then .ok (.nx ρ) (S2.set n (some (.lst (xs ++ ys)))) else .no
      | _, _ => .no
    | none => .no
  | _ => .no
def FU : Nat := 10 ^ 30
def whileL (t : EvB) (b : EvS) : Nat → EvS
  | 0, _, _ => .no
  | n + 1, ρ, S => (t ρ S).bind fun c S1 => if c then (b ρ S1).bind fun r S2 => (match r with
      | .nx ρ2 => whileL t b n ρ2 S2
      | .rt d => .ok (.rt d) S2) else .ok (.nx ρ) S1
def sWhile (t : EvB) (b : EvS) : EvS := fun ρ S => whileL t b FU ρ S
def forL (g : EvG) (b : EvS) (src : List (Nat × List D)) : List D → EvS
  | [], ρ, S => keepSrc src S (.ok (.nx ρ) S)
  | x :: r, ρ, S => keepSrc src S ((g x ρ S).bind fun ρ1 S1 => (b ρ1 S1).bind fun fl S2 => match fl with
    | .nx ρ2 => forL g b src r ρ2 S2
    | .rt d => .ok (.rt d) S2)
def sFor (w : EvW) (g : EvG) (b : EvS) : EvS := fun ρ S => (w ρ S).bind fun k S1 => forL g b k.src k.its ρ S1
/-! ### a def -/
def runF (n N : Nat) (s : EvS) : List D → Store → O Res := fun ds S => if ds.length = n then (s (ds.map some ++ List.replicate (N - n) none) S).bind fun fl S1 => (match fl with
  | .nx _ => retF S.length .non S1
  | .rt d => retF S.length d S1) else .no
/-! ### a call sees its own cells alone -/
def celsOf : List D → List Nat
  | [] => []
  | .cel n :: r => n :: celsOf r
  | _ :: r => celsOf r
def flat : D → Bool
  | .cel _ => true
  | d => d.low 0
def renum (ns : List Nat) : D → D
  | .cel n => .cel (ns.idxOf n)
  | d => d
def nodupB : List Nat → Bool
  | [] => true
  | n :: r => !(r.contains n) && nodupB r
def subS (S : Store) : List Nat → Option Store
  | [] => some []
  | n :: r => match S[n]?, subS S r with
    | some (some c), some t => if lowC 0 c then some (some c :: t) else none
    | _, _ => none
def putS (S : Store) : List Nat → Store → Store
  | n :: ns, c :: cs => putS (S.set n (cleanC 0 c)) ns cs
  | _, _ => S
def backR (ns : List Nat) : Res → Option Res
  | .d (.cel i) => (ns[i]?).map fun n => .d (.cel n)
  | .d d => if d.low 0 then some (.d d) else none
  | .new xs => if lowL 0 xs then some (.new xs) else none
def frame (c : List D → Store → O Res) : List D → Store → O Res := fun ds S =>
  if nodupB (celsOf ds) && ds.all flat then match subS S (celsOf ds) with
    | some sub => (c (ds.map (renum (celsOf ds))) sub).calm.bind fun r S' => if S'.length = sub.length then (match backR (celsOf ds) r with
      | some r' => .ok r' (putS S (celsOf ds) S')
      | none => .no) else .no
    | none => .no
  else .no
end DI
/-! DI: how values, stores and slots stand for the heap. F: what is a value for good; p: where the cells stand. -/
namespace DI
open PySem PySem.Spec L2
open PyProof.Rows hiding St
mutual
inductive IsD (K : PySem.W.Frag) (F : Hp) (p : List Addr) : V → D → Prop
  | non : IsD K F p .non .non
  | bl (b : Bool) : IsD K F p (.bl b) (.bl b)
  | int (i : Int) : IsD K F p (.int i) (.int i)
  | str (x : Str) : IsD K F p (.str x) (.str x)
  | lst {a : Addr} {vs : List V} {ds : List D} : F a = some (.lst vs) → ds.length ≤ LINE → IsDs K F p vs ds → IsD K F p (.ref a) (.lst ds)
  | tup {a : Addr} {vs : List V} {ds : List D} : SqT K F a vs → ds.length ≤ LINE → IsDs K F p vs ds → IsD K F p (.ref a) (.tup ds)
  | scr {a : Addr} {ns : List Int} : SqL K F a (ns.map V.int) → ns.length ≤ 63 → IsD K F p (.ref a) (.scr ns)
  | emp {a : Addr} : F a = some (.dK []) → IsD K F p (.ref a) .emp
  | cel {a : Addr} {n : Nat} : p[n]? = some a → IsD K F p (.ref a) (.cel n)
inductive IsDs (K : PySem.W.Frag) (F : Hp) (p : List Addr) : List V → List D → Prop
  | nil : IsDs K F p [] []
  | cons {v : V} {vs : List V} {d : D} {ds : List D} : IsD K F p v d → IsDs K F p vs ds → IsDs K F p (v :: vs) (d :: ds)
end
theorem LINE_eq : LINE = sizeLine := by rw [sizeLine_eq]; rfl
theorem IsDs.length {K : PySem.W.Frag} {F : Hp} {p : List Addr} : ∀ {vs : List V} {ds : List D}, IsDs K F p vs ds → vs.length = ds.length
  | _, _, .nil => rfl
  | _, _, .cons _ t => by simp [IsDs.length t]
theorem IsDs.append {K : PySem.W.Frag} {F : Hp} {p : List Addr} : ∀ {vs ws : List V} {ds es : List D}, IsDs K F p vs ds → IsDs K F p ws es → IsDs K F p (vs ++ ws) (ds ++ es)
  | _, _, _, _, .nil, t => t
  | _, _, _, _, .cons h t, u => .cons h (IsDs.append t u)
theorem IsDs.get {K : PySem.W.Frag} {F : Hp} {p : List Addr} : ∀ {vs : List V} {ds : List D} {i : Nat} {d : D}, IsDs K F p vs ds → ds[i]? = some d → ∃ v, vs[i]? = some v ∧ IsD K F p v d
  | _, _, _, _, .nil, e => by simp at e
  | _, _, 0, _, .cons h t, e => by simp at e; subst e; exact ⟨_, rfl, h⟩
  | _, _, i + 1, _, .cons h t, e => by
    obtain ⟨v, h1, h2⟩ := IsDs.get (i := i) t (by simpa using e)
    exact ⟨v, by simpa using h1, h2⟩
theorem IsDs.get' {K : PySem.W.Frag} {F : Hp} {p : List Addr} {vs : List V} {ds : List D} {i : Nat} {v : V} (h : IsDs K F p vs ds) (e : vs[i]? = some v) : ∃ d, ds[i]? = some d ∧ IsD K F p v d := by
  have hi : i < ds.length := by
    have := (List.getElem?_eq_some_iff.mp e).1
    rw [← h.length]; exact this
  obtain ⟨v', h1, h2⟩ := h.get (List.getElem?_eq_getElem hi)
  rw [e] at h1; cases h1
  exact ⟨_, List.getElem?_eq_getElem hi, h2⟩
theorem IsDs.take {K : PySem.W.Frag} {F : Hp} {p : List Addr} : ∀ (n : Nat) {vs : List V} {ds : List D}, IsDs K F p vs ds → IsDs K F p (vs.take n) (ds.take n)
  | 0, _, _, _ => .nil
  | _ + 1, _, _, .nil => .nil
  | n + 1, _, _, .cons h t => .cons h (IsDs.take n t)
theorem IsDs.drop {K : PySem.W.Frag} {F : Hp} {p : List Addr} : ∀ (n : Nat) {vs : List V} {ds : List D}, IsDs K F p vs ds → IsDs K F p (vs.drop n) (ds.drop n)
  | 0, _, _, t => t
  | _ + 1, _, _, .nil => .nil
  | n + 1, _, _, .cons _ t => IsDs.drop n t
theorem IsDs.set {K : PySem.W.Frag} {F : Hp} {p : List Addr} {v : V} {d : D} (h : IsD K F p v d) : ∀ (i : Nat) {vs : List V} {ds : List D}, IsDs K F p vs ds → IsDs K F p (vs.set i v) (ds.set i d)
  | _, _, _, .nil => .nil
  | 0, _, _, .cons _ t => .cons h t
  | i + 1, _, _, .cons g t => .cons g (IsDs.set h i t)
theorem IsDs.reverse {K : PySem.W.Frag} {F : Hp} {p : List Addr} : ∀ {vs : List V} {ds : List D}, IsDs K F p vs ds → IsDs K F p vs.reverse ds.reverse
  | _, _, .nil => .nil
  | _, _, .cons h t => by
    rw [List.reverse_cons, List.reverse_cons]
    exact (IsDs.reverse t).append (.cons h .nil)
theorem IsDs.rep {K : PySem.W.Frag} {F : Hp} {p : List Addr} {vs : List V} {ds : List D} (h : IsDs K F p vs ds) : ∀ k : Nat, IsDs K F p (List.replicate k vs).flatten (List.replicate k ds).flatten
  | 0 => .nil
  | k + 1 => by
    rw [List.replicate_succ, List.replicate_succ, List.flatten_cons, List.flatten_cons]
    exact h.append (IsDs.rep h k)
theorem IsDs.ints {K : PySem.W.Frag} {F : Hp} {p : List Addr} : ∀ {vs : List V} {ns : List Int}, IsDs K F p vs (ns.map .int) → vs = ns.map V.int
  | _, [], h => by cases h; rfl
  | _, n :: r, h => by
    cases h with
    | cons h1 h2 => cases h1; rw [IsDs.ints h2]; rfl
theorem IsDs.bls {K : PySem.W.Frag} {F : Hp} {p : List Addr} : ∀ {vs : List V} {ns : List Bool}, IsDs K F p vs (ns.map .bl) → vs = ns.map V.bl
  | _, [], h => by cases h; rfl
  | _, n :: r, h => by
    cases h with
    | cons h1 h2 => cases h1; rw [IsDs.bls h2]; rfl
theorem isDs_ints {K : PySem.W.Frag} {F : Hp} {p : List Addr} : ∀ (ns : List Int), IsDs K F p (ns.map V.int) (ns.map .int)
  | [] => .nil
  | n :: r => .cons (.int n) (isDs_ints r)
/-! ### a larger ground -/
theorem same_rd {F F' : Hp} (e : ∀ a o, F a = some o → F' a = some o) {a : Addr} {u : HO} (h : Rd F a u) : Rd F' a u := by
  rcases h with h | ⟨o, h⟩
  · exact .inl (e _ _ h)
  · exact .inr ⟨o, e _ _ h⟩
theorem same_sqT {K : PySem.W.Frag} {F F' : Hp} (e : ∀ a o, F a = some o → F' a = some o) {a : Addr} {xs : List V} (h : SqT K F a xs) : SqT K F' a xs := by
  rcases h with h | h
  · exact .inl (same_rd e h)
  · exact .inr h
theorem same_sqL {K : PySem.W.Frag} {F F' : Hp} (e : ∀ a o, F a = some o → F' a = some o) {a : Addr} {xs : List V} (h : SqL K F a xs) : SqL K F' a xs := by
  rcases h with h | h
  · exact .inl (same_rd e h)
  · exact .inr h
section
variable {K : PySem.W.Frag} {F F' : Hp} {p p' : List Addr}
mutual
theorem IsD.mono (e : ∀ a o, F a = some o → F' a = some o) (q : ∀ (n : Nat) (a : Addr), p[n]? = some a → p'[n]? = some a) : ∀ {v : V} {d : D}, IsD K F p v d → IsD K F' p' v d
  | _, _, .non => .non
  | _, _, .bl b => .bl b
  | _, _, .int i => .int i
  | _, _, .str x => .str x
  | _, _, .lst h l t => .lst (e _ _ h) l (IsDs.mono e q t)
  | _, _, .tup h l t => .tup (same_sqT e h) l (IsDs.mono e q t)
  | _, _, .scr h l => .scr (same_sqL e h) l
  | _, _, .emp h => .emp (e _ _ h)
  | _, _, .cel h => .cel (q _ _ h)
theorem IsDs.mono (e : ∀ a o, F a = some o → F' a = some o) (q : ∀ (n : Nat) (a : Addr), p[n]? = some a → p'[n]? = some a) : ∀ {vs : List V} {ds : List D}, IsDs K F p vs ds → IsDs K F' p' vs ds
  | _, _, .nil => .nil
  | _, _, .cons h t => .cons (IsD.mono e q h) (IsDs.mono e q t)
end
end
/-! ### cells -/
inductive IsK (K : PySem.W.Frag) (F : Hp) (p : List Addr) : List (Key × V) → List (Key × D) → Prop
  | nil : IsK K F p [] []
  | cons {k : Key} {v : V} {ws : List (Key × V)} {d : D} {kvs : List (Key × D)} : IsD K F p v d → IsK K F p ws kvs → IsK K F p ((k, v) :: ws) ((k, d) :: kvs)
def CellAt (K : PySem.W.Frag) (F : Hp) (p : List Addr) (H : Hp) (a : Addr) : Cell → Prop
  | .lst ds => ∃ vs, H a = some (.lst vs) ∧ ds.length ≤ LINE ∧ IsDs K F p vs ds
  | .dct kvs => ∃ ws, H a = some (.dK ws) ∧ IsK K F p ws kvs
theorem IsK.mono {K : PySem.W.Frag} {F F' : Hp} {p p' : List Addr} (e : ∀ a o, F a = some o → F' a = some o) (q : ∀ (n : Nat) (a : Addr), p[n]? = some a → p'[n]? = some a) : ∀ {ws : List (Key × V)} {kvs : List (Key × D)}, IsK K F p ws kvs → IsK K F' p' ws kvs
  | _, _, .nil => .nil
  | _, _, .cons h t => .cons (h.mono e q) (IsK.mono e q t)
theorem CellAt.mono {K : PySem.W.Frag} {F F' : Hp} {p p' : List Addr} {H H' : Hp} {a : Addr} (e : ∀ a o, F a = some o → F' a = some o) (q : ∀ (n : Nat) (a : Addr), p[n]? = some a → p'[n]? = some a) (h : H' a = H a) : ∀ {c : Cell}, CellAt K F p H a c → CellAt K F' p' H' a c
  | .lst _, ⟨vs, h1, l, h2⟩ => ⟨vs, h.trans h1, l, h2.mono e q⟩
  | .dct _, ⟨ws, h1, h2⟩ => ⟨ws, h.trans h1, h2.mono e q⟩
structure Hld (K : PySem.W.Frag) (S : Store) (F : Hp) (p : List Addr) (H : Hp) : Prop where
  sub : ∀ a o, F a = some o → H a = some o
  len : p.length = S.length
  nd : p.Nodup
  there : ∀ a, a ∈ p → H a ≠ none
  cell : ∀ (n : Nat) (a : Addr) (c : Cell), p[n]? = some a → S[n]? = some (some c) → F a = none ∧ CellAt K F p H a c
/-- what may have come meanwhile -/
structure Nx (F : Hp) (p : List Addr) (H : Hp) (F' : Hp) (p' : List Addr) (H' : Hp) : Prop where
  ext : ∀ a o, F a = some o → F' a = some o
  pre : p <+: p'
  keep : ∀ a o, H a = some o → a ∉ p → H' a = some o
  newp : ∀ a, a ∈ p' → a ∉ p → H a = none
  newF : ∀ a, F' a ≠ none → F a = none → H a = none ∨ a ∈ p
theorem pre_get {p p' : List Addr} (h : p <+: p') : ∀ (n : Nat) (a : Addr), p[n]? = some a → p'[n]? = some a := fun n a e => by
  obtain ⟨t, rfl⟩ := h
  rw [List.getElem?_append_left (List.getElem?_eq_some_iff.mp e).1]
  exact e
theorem Nx.refl {F : Hp} {p : List Addr} {H : Hp} : Nx F p H F p H := ⟨fun _ _ h => h, List.prefix_refl _, fun _ _ h _ => h, fun a h n => absurd h n, fun a h n => absurd n h⟩
theorem Nx.get {F F' : Hp} {p p' : List Addr} {H H' : Hp} (n : Nx F p H F' p' H') : ∀ (i : Nat) (a : Addr), p[i]? = some a → p'[i]? = some a := pre_get n.pre
theorem Nx.trans {F F1 F2 : Hp} {p p1 p2 : List Addr} {H H1 H2 : Hp} (a : Nx F p H F1 p1 H1) (b : Nx F1 p1 H1 F2 p2 H2) : Nx F p H F2 p2 H2 where
  ext := fun x o h => b.ext x o (a.ext x o h)
  pre := a.pre.trans b.pre
  keep := fun x o h hn => b.keep x o (a.keep x o h hn) fun hx => by
    have := a.newp x hx hn
    rw [h] at this; cases this
  newp := fun x h hn => by
    by_cases hx : x ∈ p1
    · exact a.newp x hx hn
    · have := b.newp x h hx
      cases q : H x with
      | none => rfl
      | some o => rw [a.keep x o q hn] at this; cases this
  newF := fun x h hn => by
    by_cases hx : F1 x = none
    · rcases b.newF x h hx with q | q
      · cases r : H x with
        | none => exact .inl rfl
        | some o =>
          by_cases hp : x ∈ p
          · exact .inr hp
          · rw [a.keep x o r hp] at q; cases q
      · by_cases hp : x ∈ p
        · exact .inr hp
        · exact .inl (a.newp x q hp)
    · exact a.newF x hx hn
theorem IsD.nx {K : PySem.W.Frag} {F F' : Hp} {p p' : List Addr} {H H' : Hp} {v : V} {d : D} (h : IsD K F p v d) (n : Nx F p H F' p' H') : IsD K F' p' v d := h.mono n.ext n.get
theorem IsDs.nx {K : PySem.W.Frag} {F F' : Hp} {p p' : List Addr} {H H' : Hp} {v : List V} {d : List D} (h : IsDs K F p v d) (n : Nx F p H F' p' H') : IsDs K F' p' v d := h.mono n.ext n.get
structure Slt (K : PySem.W.Frag) (F : Hp) (p : List Addr) (σ : St) (ρ : Rho) : Prop where
  len : σ.length = ρ.length
  at_ : ∀ (i : Nat) d, ρ[i]? = some (some d) → ∃ v, σ[i]? = some (some v) ∧ IsD K F p v d
theorem Slt.nx {K : PySem.W.Frag} {F F' : Hp} {p p' : List Addr} {H H' : Hp} {σ : St} {ρ : Rho} (h : Slt K F p σ ρ) (n : Nx F p H F' p' H') : Slt K F' p' σ ρ :=
  ⟨h.len, fun i d e => let ⟨v, h1, h2⟩ := h.at_ i d e; ⟨v, h1, h2.nx n⟩⟩
theorem Slt.set {K : PySem.W.Frag} {F : Hp} {p : List Addr} {σ : St} {ρ : Rho} {i : Nat} {v : V} {d : D} (h : Slt K F p σ ρ) (hd : IsD K F p v d) : Slt K F p (σ.set i (some v)) (ρ.set i (some d)) := by
  refine ⟨by simp [h.len], fun j e q => ?_⟩
  by_cases hj : i = j
  · subst hj
    by_cases hi : i < ρ.length
    · rw [List.getElem?_set_self hi] at q
      cases q
      exact ⟨v, by rw [List.getElem?_set_self (by rw [h.len]; exact hi)], hd⟩
    · rw [List.getElem?_eq_none (by simpa using hi)] at q
      cases q
  · rw [List.getElem?_set_ne hj] at q ⊢
    exact h.at_ j e q
theorem Slt.wipe {K : PySem.W.Frag} {F : Hp} {p : List Addr} {σ : St} {ρ : Rho} (h : Slt K F p σ ρ) : ∀ vs : List Nat, Slt K F p (wipe σ vs) (wipeR ρ vs)
  | [] => h
  | v :: vs => by
    have ih := Slt.wipe h vs
    unfold L2.wipe wipeR
    refine ⟨by simp [ih.len], fun j e q => ?_⟩
    by_cases hj : v = j
    · subst hj
      by_cases hi : v < (wipeR ρ vs).length
      · rw [List.getElem?_set_self hi] at q
        cases q
      · rw [List.getElem?_eq_none (by simpa using hi)] at q
        cases q
    · rw [List.getElem?_set_ne hj] at q ⊢
      exact ih.at_ j e q
/-! ### the ways a state goes on -/
theorem ne_p {K : PySem.W.Frag} {S : Store} {F : Hp} {p : List Addr} {H : Hp} (R : Hld K S F p H) {q : Addr} (h : H q = none) : q ∉ p := fun hq => R.there q hq h
theorem F_none {K : PySem.W.Frag} {S : Store} {F : Hp} {p : List Addr} {H : Hp} (R : Hld K S F p H) {q : Addr} (h : H q = none) : F q = none := by
  cases e : F q with
  | none => rfl
  | some o => rw [R.sub q o e] at h; cases h
/-- a new object that is a value -/
theorem Hld.val {K : PySem.W.Frag} {S : Store} {F : Hp} {p : List Addr} {H : Hp} {q : Addr} {o : HO} (R : Hld K S F p H) (h : H q = none) : Hld K S (upd F q o) p (upd H q o) ∧ Nx F p H (upd F q o) p (upd H q o) := by
  have e : ∀ a u, F a = some u → upd F q o a = some u := fun a u z => by
    rw [upd_ne (ne_of_none z (F_none R h))]; exact z
  refine ⟨⟨fun a u z => ?_, R.len, R.nd, fun a ha => ?_, fun n a c hp hs => ?_⟩, ⟨e, List.prefix_refl _, fun a u z _ => ?_, fun a z n => absurd z n, fun a z n => ?_⟩⟩
  · by_cases ha : a = q
    · subst ha; rw [upd_same] at z ⊢; exact z
    · rw [upd_ne ha] at z ⊢; exact R.sub a u z
  · by_cases hq : a = q
    · subst hq; rw [upd_same]; exact fun z => nomatch z
    · rw [upd_ne hq]; exact R.there a ha
  · obtain ⟨h1, h2⟩ := R.cell n a c hp hs
    have ha : a ≠ q := fun z => by subst z; exact ne_p R h (List.mem_of_getElem? hp)
    exact ⟨by rw [upd_ne ha]; exact h1, h2.mono e (fun _ _ z => z) (upd_ne ha)⟩
  · rw [upd_ne (ne_of_none z h)]; exact z
  · by_cases ha : a = q
    · subst ha; exact .inl h
    · rw [upd_ne ha] at z; exact absurd n z
/-- a new object that is a cell -/
theorem Hld.new {K : PySem.W.Frag} {S : Store} {F : Hp} {p : List Addr} {H : Hp} {q : Addr} {o : HO} {c : Cell} (R : Hld K S F p H) (h : H q = none) (hc : ∀ H' : Hp, H' q = some o → CellAt K F p H' q c) :
    Hld K (S ++ [some c]) F (p ++ [q]) (upd H q o) ∧ Nx F p H F (p ++ [q]) (upd H q o) := by
  have e : ∀ a u, F a = some u → F a = some u := fun _ _ z => z
  have g : ∀ (n : Nat) (a : Addr), p[n]? = some a → (p ++ [q])[n]? = some a := pre_get (List.prefix_append _ _)
  refine ⟨⟨fun a u z => ?_, by simp [R.len], ?_, fun a ha => ?_, fun n a c' hp hs => ?_⟩, ⟨e, List.prefix_append _ _, fun a u z _ => ?_, fun a z n => ?_, fun a z n => absurd n z⟩⟩
  · rw [upd_ne (fun x => by subst x; rw [F_none R h] at z; cases z)]; exact R.sub a u z
  · rw [List.nodup_append]
    refine ⟨R.nd, by simp, fun a ha b hb => ?_⟩
    have : b = q := by simpa using hb
    subst this
    exact fun z => ne_p R h (z ▸ ha)
  · rcases List.mem_append.mp ha with ha | ha
    · have : a ≠ q := fun z => ne_p R h (z ▸ ha)
      rw [upd_ne this]; exact R.there a ha
    · have : a = q := by simpa using ha
      subst this; rw [upd_same]; exact fun z => nomatch z
  · by_cases hn : n < p.length
    · rw [List.getElem?_append_left hn] at hp
      rw [List.getElem?_append_left (by rw [← R.len]; exact hn)] at hs
      obtain ⟨h1, h2⟩ := R.cell n a c' hp hs
      have ha : a ≠ q := fun z => by subst z; exact ne_p R h (List.mem_of_getElem? hp)
      exact ⟨h1, h2.mono e g (upd_ne ha)⟩
    · have hn' : n = p.length := by
        have := (List.getElem?_eq_some_iff.mp hp).1
        simp at this; omega
      subst hn'
      rw [List.getElem?_append_right (Nat.le_refl _)] at hp
      rw [R.len, List.getElem?_append_right (Nat.le_refl _)] at hs
      simp at hp hs
      subst hp hs
      exact ⟨F_none R h, (hc (upd H q o) upd_same).mono e g rfl⟩
  · rw [upd_ne (ne_of_none z h)]; exact z
  · rcases List.mem_append.mp z with z | z
    · exact absurd z n
    · have : a = q := by simpa using z
      subst this; exact h
theorem nodup_get {p : List Addr} (nd : p.Nodup) {n m : Nat} {a : Addr} (h1 : p[n]? = some a) (h2 : p[m]? = some a) : n = m := by
  obtain ⟨l1, e1⟩ := List.getElem?_eq_some_iff.mp h1
  obtain ⟨l2, e2⟩ := List.getElem?_eq_some_iff.mp h2
  exact (List.getElem_inj nd).mp (e1.trans e2.symm)
/-- a cell is written -/
theorem Hld.put {K : PySem.W.Frag} {S : Store} {F : Hp} {p : List Addr} {H : Hp} {n : Nat} {a : Addr} {o : HO} {c0 c : Cell} (R : Hld K S F p H) (hp : p[n]? = some a) (hs : S[n]? = some (some c0)) (hc : ∀ H' : Hp, H' a = some o → CellAt K F p H' a c) :
    Hld K (S.set n (some c)) F p (upd H a o) ∧ Nx F p H F p (upd H a o) := by
  have fa : F a = none := (R.cell n a c0 hp hs).1
  refine ⟨⟨fun b u z => ?_, by simp [R.len], R.nd, fun b hb => ?_, fun m b c' hq hm => ?_⟩, ⟨fun _ _ z => z, List.prefix_refl _, fun b u z hb => ?_, fun b z n => absurd z n, fun b z n => absurd n z⟩⟩
  · rw [upd_ne (fun x => by subst x; rw [fa] at z; cases z)]; exact R.sub b u z
  · by_cases hq : b = a
    · subst hq; rw [upd_same]; exact fun z => nomatch z
    · rw [upd_ne hq]; exact R.there b hb
  · by_cases hb : m = n
    · subst hb
      rw [hp] at hq; cases hq
      have hl : m < S.length := (List.getElem?_eq_some_iff.mp hs).1
      rw [List.getElem?_set_self hl] at hm
      cases hm
      exact ⟨fa, hc _ upd_same⟩
    · rw [List.getElem?_set_ne (Ne.symm hb)] at hm
      obtain ⟨h1, h2⟩ := R.cell m b c' hq hm
      have : b ≠ a := fun z => by subst z; exact hb (nodup_get R.nd hq hp)
      exact ⟨h1, h2.mono (fun _ _ z => z) (fun _ _ z => z) (upd_ne this)⟩
  · rw [upd_ne (fun x => by subst x; exact hb (List.mem_of_getElem? hp))]; exact z
/-- a cell becomes a value -/
theorem Hld.frz {K : PySem.W.Frag} {S : Store} {F : Hp} {p : List Addr} {H : Hp} {n : Nat} {a : Addr} {vs : List V} (R : Hld K S F p H) (hp : p[n]? = some a) (hH : H a = some (.lst vs)) :
    Hld K (S.set n none) (upd F a (.lst vs)) p H ∧ Nx F p H (upd F a (.lst vs)) p H ∨ F a ≠ none := by
  by_cases fa : F a = none
  · refine .inl ?_
    have e : ∀ b u, F b = some u → upd F a (.lst vs) b = some u := fun b u z => by
      rw [upd_ne (ne_of_none z fa)]; exact z
    refine ⟨⟨fun b u z => ?_, by simp [R.len], R.nd, R.there, fun m b c' hq hm => ?_⟩, ⟨e, List.prefix_refl _, fun b u z _ => z, fun b z n => absurd z n, fun b z n => ?_⟩⟩
    · by_cases hb : b = a
      · subst hb; rw [upd_same] at z; cases z; exact hH
      · rw [upd_ne hb] at z; exact R.sub b u z
    · by_cases hb : m = n
      · subst hb
        by_cases hl : m < S.length
        · rw [List.getElem?_set_self hl] at hm; cases hm
        · rw [List.getElem?_eq_none (by simpa using hl)] at hm; cases hm
      · rw [List.getElem?_set_ne (Ne.symm hb)] at hm
        obtain ⟨h1, h2⟩ := R.cell m b c' hq hm
        have : b ≠ a := fun z => by subst z; exact hb (nodup_get R.nd hq hp)
        exact ⟨by rw [upd_ne this]; exact h1, h2.mono e (fun _ _ z => z) rfl⟩
    · by_cases hb : b = a
      · subst hb; exact .inr (List.mem_of_getElem? hp)
      · rw [upd_ne hb] at z; exact absurd n z
  · exact .inr fa
theorem cellL_iff {S : Store} {n : Nat} {xs : List D} (h : cellL S n = some xs) : S[n]? = some (some (.lst xs)) := by
  unfold cellL at h
  split at h
  · cases h; assumption
  · cases h
theorem cellK_iff {S : Store} {n : Nat} {xs : List (Key × D)} (h : cellK S n = some xs) : S[n]? = some (some (.dct xs)) := by
  unfold cellK at h
  split at h
  · cases h; assumption
  · cases h
theorem Hld.cellL {K : PySem.W.Frag} {S : Store} {F : Hp} {p : List Addr} {H : Hp} {n : Nat} {a : Addr} {ds : List D} (R : Hld K S F p H) (hp : p[n]? = some a) (h : cellL S n = some ds) : ∃ vs, H a = some (.lst vs) ∧ ds.length ≤ LINE ∧ IsDs K F p vs ds :=
  (R.cell n a _ hp (cellL_iff h)).2
/-- a list that is read -/
theorem Hld.list {K : PySem.W.Frag} {S : Store} {F : Hp} {p : List Addr} {H : Hp} {v : V} {d : D} {ds : List D} (R : Hld K S F p H) (h : IsD K F p v d) (e : listOf S d = some ds) : ∃ a vs, v = .ref a ∧ SqL K H a vs ∧ ds.length ≤ LINE ∧ IsDs K F p vs ds := by
  cases h with
  | lst h l t => cases e; exact ⟨_, _, rfl, .inl (.inl (R.sub _ _ h)), l, t⟩
  | scr h l =>
    cases e
    exact ⟨_, _, rfl, same_sqL R.sub h, by rw [List.length_map]; exact Nat.le_trans l (by decide), isDs_ints _⟩
  | cel h =>
    obtain ⟨vs, h1, l, h2⟩ := R.cellL h e
    exact ⟨_, vs, rfl, .inl (.inl h1), l, h2⟩
  | _ => cases e
theorem Hld.list' {K : PySem.W.Frag} {S : Store} {F : Hp} {p : List Addr} {H : Hp} {v : V} {d : D} {ds : List D} (R : Hld K S F p H) (h : IsD K F p v d) (e : listOf S d = some ds) (pl : plainL d = true) : ∃ a vs, v = .ref a ∧ H a = some (.lst vs) ∧ ds.length ≤ LINE ∧ IsDs K F p vs ds := by
  cases h with
  | lst h l t => cases e; exact ⟨_, _, rfl, R.sub _ _ h, l, t⟩
  | scr h l => cases pl
  | cel h =>
    obtain ⟨vs, h1, l, h2⟩ := R.cellL h e
    exact ⟨_, vs, rfl, h1, l, h2⟩
  | _ => cases e
theorem Hld.seq {K : PySem.W.Frag} {S : Store} {F : Hp} {p : List Addr} {H : Hp} {v : V} {d : D} {ds : List D} (R : Hld K S F p H) (h : IsD K F p v d) (e : seqOf S d = some ds) :
    ∃ a vs, v = .ref a ∧ (SqL K H a vs ∨ SqT K H a vs) ∧ ds.length ≤ LINE ∧ IsDs K F p vs ds := by
  cases h with
  | tup h l t => cases e; exact ⟨_, _, rfl, .inr (same_sqT R.sub h), l, t⟩
  | lst h l t => cases e; exact ⟨_, _, rfl, .inl (.inl (.inl (R.sub _ _ h))), l, t⟩
  | scr h l =>
    cases e
    exact ⟨_, _, rfl, .inl (same_sqL R.sub h), by rw [List.length_map]; exact Nat.le_trans l (by decide), isDs_ints _⟩
  | cel h =>
    obtain ⟨vs, h1, l, h2⟩ := R.cellL h e
    exact ⟨_, vs, rfl, .inl (.inl (.inl h1)), l, h2⟩
  | _ => cases e
end DI
/-! DI: the operators on values are the language's. -/
namespace DI
open PySem PySem.Spec L2
open PyProof.Rows hiding St
def IsX (K : PySem.W.Frag) (F : Hp) (p : List Addr) (H : Hp) (c : Value) (dx : Option Addr) (x : Ex) : Prop := False
def ErP (K : PySem.W.Frag) (W : WX) (F : Hp) (p : List Addr) (H : Hp) : Ex → Rho → Store → Prop := fun x ρ' S' =>
  ∀ c dx σ' F' p' H', Nx F p H F' p' H' → Hld K S' F' p' H' → Slt K F' p' σ' ρ' → IsX K F' p' H' c dx x → W c dx σ' H'
theorem ErP.nx {K : PySem.W.Frag} {W : WX} {F F1 : Hp} {p p1 : List Addr} {H H1 : Hp} (n : Nx F p H F1 p1 H1) (x : Ex) (ρ : Rho) (S : Store) (h : ErP K W F p H x ρ S) : ErP K W F1 p1 H1 x ρ S :=
  fun c dx σ' F' p' H' n' => h c dx σ' F' p' H' (n.trans n')
def OkE (K : PySem.W.Frag) (F : Hp) (p : List Addr) (H : Hp) (Q : VK) : D → Store → Prop := fun d S' =>
  ∀ v F' p' H', Nx F p H F' p' H' → Hld K S' F' p' H' → IsD K F' p' v d → Q v H'
theorem OkE.nx {K : PySem.W.Frag} {Q : VK} {F F1 : Hp} {p p1 : List Addr} {H H1 : Hp} (n : Nx F p H F1 p1 H1) (d : D) (S : Store) (h : OkE K F p H Q d S) : OkE K F1 p1 H1 Q d S :=
  fun v F' p' H' n' => h v F' p' H' (n.trans n')
theorem OkE.here {K : PySem.W.Frag} {Q : VK} {F : Hp} {p : List Addr} {H : Hp} {d : D} {S : Store} {v : V} (h : OkE K F p H Q d S) (R : Hld K S F p H) (hd : IsD K F p v d) : Q v H := h v F p H Nx.refl R hd
def E1 : Ex → Rho → Store → Prop := fun _ _ _ => False
section
variable {K : PySem.W.Frag} {S : Store} {F : Hp} {p : List Addr} {H : Hp} {Q : VK} {q : Addr} {E : Ex → Rho → Store → Prop}
theorem settle_new {al : Bool} {vs : List V} {ds : List D} (R : Hld K S F p H) (hq : H q = none) (l : ds.length ≤ LINE) (t : IsDs K F p vs ds)
    (h : (settle al (.new ds) S).holds (OkE K F p H Q) E) : Q (.ref q) (upd H q (.lst vs)) := by
  cases al with
  | true =>
    obtain ⟨R', n⟩ := R.new (o := .lst vs) (c := .lst ds) hq fun H' e => ⟨vs, e, l, t⟩
    refine (show OkE K F p H Q (.cel S.length) (S ++ [some (.lst ds)]) from h) _ F (p ++ [q]) _ n R' (.cel ?_)
    rw [← R.len, List.getElem?_append_right (Nat.le_refl _)]
    simp
  | false =>
    obtain ⟨R', n⟩ := R.val (o := .lst vs) hq
    exact (show OkE K F p H Q (.lst ds) S from h) _ (upd F q (.lst vs)) p _ n R' (.lst upd_same l (t.nx n))
theorem tup_new {vs : List V} {ds : List D} (R : Hld K S F p H) (hq : H q = none) (l : ds.length ≤ LINE) (t : IsDs K F p vs ds)
    (h : OkE K F p H Q (.tup ds) S) : Q (.ref q) (upd H q (.tup vs)) := by
  obtain ⟨R', n⟩ := R.val (o := .tup vs) hq
  exact h _ (upd F q (.tup vs)) p _ n R' (.tup (.inl (.inl upd_same)) l (t.nx n))
end
def rRes (K : PySem.W.Frag) (al : Bool) (b : Store → D → D → Option Res) : R2 := fun x y H Q =>
  ∃ S F p d e, Hld K S F p H ∧ IsD K F p x d ∧ IsD K F p y e ∧ (ofRes al (b S d e) S).holds (OkE K F p H Q) E1
theorem ofRes_if {al : Bool} {c : Prop} [Decidable c] {r : Res} {S : Store} {Q : D → Store → Prop} {E : Ex → Rho → Store → Prop} (h : (ofRes al (if c then some r else none) S).holds Q E) : c ∧ (settle al r S).holds Q E := by
  by_cases hc : c
  · rw [if_pos hc] at h; exact ⟨hc, h⟩
  · rw [if_neg hc] at h; exact False.elim h
theorem listOf_cel {S : Store} {n : Nat} {ys : List D} (h : cellL S n = some ys) : listOf S (.cel n) = some ys := h
section
variable {X : Cx} {al : Bool}
theorem cat_list {pins : List (Addr × Obj)} {s : Shared} {σ : St} {H : Hp} {x y : V} {v u : Value} {Q : VK} {S : Store} {F : Hp} {p : List Addr} {d e : D} {xs ys : List D} (I : Inv X pins σ H s) (rx : RelV x v) (ry : RelV y u)
    (R : Hld X.K S F p H) (hx : IsD X.K F p x d) (hy : IsD X.K F p y e) (lx : listOf S d = some xs) (ly : listOf S e = some ys) (px : plainL d = true) (py : plainL e = true)
    (h : (ofRes al (if xs.length + ys.length ≤ LINE then some (.new (xs ++ ys)) else none) S).holds (OkE X.K F p H Q) E1) : wpAny (model X.prog X.w) X.A (binaryOp .Add v u) (EP X pins σ Q) X.xe s := by
  obtain ⟨hl, h⟩ := ofRes_if h
  obtain ⟨a, vs, rfl, ha, l1, t1⟩ := R.list' hx lx px
  obtain ⟨b, ws, rfl, hb, l2, t2⟩ := R.list' hy ly py
  refine op_cat pins s σ H _ _ v u Q I rx ry ⟨a, b, vs, ws, rfl, rfl, ha, hb, ?_, fun q hq => ?_⟩
  · rw [t1.length, t2.length, ← LINE_eq]; exact hl
  · exact settle_new R hq (by rw [List.length_append]; exact hl) (t1.append t2) h
theorem op_addD : OpR X (binaryOp .Add) (rRes X.K al addD) := by
  intro pins s σ H x y v u Q I rx ry h
  obtain ⟨S, F, p, d, e, R, hx, hy, h⟩ := h
  cases d with
  | int i =>
    cases e with
    | int j => cases hx; cases hy; exact op_add pins s σ H _ _ v u Q I rx ry ⟨i, j, rfl, rfl, OkE.here (d := .int (i + j)) h R (.int _)⟩
    | _ => exact False.elim h
  | str i =>
    cases e with
    | str j =>
      cases hx; cases hy
      obtain ⟨hl, h⟩ := ofRes_if (c := i.length + j.length ≤ LINE) h
      exact op_add_str pins s σ H _ _ v u Q I rx ry ⟨i, j, rfl, rfl, by rw [← LINE_eq]; exact hl, OkE.here (d := .str (i ++ j)) h R (.str _)⟩
    | _ => exact False.elim h
  | tup xs =>
    cases e with
    | tup ys =>
      obtain ⟨hl, h⟩ := ofRes_if (c := xs.length + ys.length ≤ LINE) h
      have h : OkE X.K F p H Q (.tup (xs ++ ys)) S := h
      cases hx with
      | @tup a vs _ h1 l1 t1 =>
        cases hy with
        | @tup b ws _ h2 l2 t2 =>
          refine op_catA pins s σ H _ _ v u Q I rx ry ⟨a, b, vs, ws, rfl, rfl, same_sqT R.sub h1, same_sqT R.sub h2, ?_, fun e0 => ?_, fun _ e0 => ?_, fun _ _ q hq => ?_⟩
          · rw [t1.length, t2.length, ← LINE_eq]; exact hl
          · subst e0
            have e1 : xs = [] := List.length_eq_zero_iff.mp (by rw [← t1.length]; rfl)
            subst e1
            exact h.here R (.tup h2 l2 t2)
          · subst e0
            have e1 : ys = [] := List.length_eq_zero_iff.mp (by rw [← t2.length]; rfl)
            subst e1
            rw [List.append_nil] at h
            exact h.here R (.tup h1 l1 t1)
          · exact tup_new R hq (by rw [List.length_append]; exact hl) (t1.append t2) h
    | _ => exact False.elim h
  | lst xs =>
    cases e with
    | lst ys => exact cat_list I rx ry R hx hy rfl rfl rfl rfl h
    | cel n =>
      cases hc : cellL S n with
      | none => simp only [addD, hc] at h; exact False.elim h
      | some ys =>
        simp only [addD, hc] at h
        exact cat_list I rx ry R hx hy rfl hc rfl rfl h
    | _ => exact False.elim h
  | cel m =>
    cases hm : cellL S m with
    | none => simp only [addD, hm] at h; exact False.elim h
    | some xs =>
      simp only [addD, hm] at h
      cases e with
      | lst ys => exact cat_list I rx ry R hx hy hm rfl rfl rfl h
      | cel n =>
        simp only at h
        cases hc : cellL S n with
        | none => simp only [hc] at h; exact False.elim h
        | some ys =>
          simp only [hc] at h
          exact cat_list I rx ry R hx hy hm hc rfl rfl h
      | _ => exact False.elim h
  | _ => exact False.elim h
theorem mul_ok {i j : Int} (h : mulOk i j = true) : CMul i j := by
  unfold mulOk at h
  simp only [Bool.or_eq_true, decide_eq_true_eq] at h
  unfold CMul
  omega
theorem rep_list {pins : List (Addr × Obj)} {s : Shared} {σ : St} {H : Hp} {x y : V} {v u : Value} {Q : VK} {S : Store} {F : Hp} {p : List Addr} {d : D} {xs : List D} {k : Int} (I : Inv X pins σ H s) (rx : RelV x v) (ry : RelV y u)
    (R : Hld X.K S F p H) (hx : IsD X.K F p x d) (hy : IsD X.K F p y (.int k)) (lx : listOf S d = some xs) (px : plainL d = true)
    (h : (ofRes al (if decide (k ≤ 16777216) && decide (-16777216 ≤ k) && decide (xs.length * k.toNat ≤ LINE) then some (.new (List.replicate k.toNat xs).flatten) else none) S).holds (OkE X.K F p H Q) E1) :
    wpAny (model X.prog X.w) X.A (binaryOp .Mult v u) (EP X pins σ Q) X.xe s := by
  obtain ⟨hl, h⟩ := ofRes_if h
  simp only [Bool.and_eq_true, decide_eq_true_eq] at hl
  obtain ⟨a, vs, rfl, ha, l1, t1⟩ := R.list' hx lx px
  cases hy
  refine op_rep pins s σ H _ _ v u Q I rx ry ⟨a, k, vs, rfl, rfl, ha, by omega, by omega, ?_, fun q hq => ?_⟩
  · rw [t1.length, ← LINE_eq]; exact hl.2
  · refine settle_new R hq ?_ (t1.rep _) h
    have e : ∀ (n : Nat), (List.replicate n xs).flatten.length = xs.length * n := fun n => by
      induction n with
      | zero => simp
      | succ n ih => rw [List.replicate_succ, List.flatten_cons, List.length_append, ih, Nat.mul_succ]; omega
    rw [e]; exact hl.2
theorem op_mulD : OpR X (binaryOp .Mult) (rRes X.K al mulD) := by
  intro pins s σ H x y v u Q I rx ry h
  obtain ⟨S, F, p, d, e, R, hx, hy, h⟩ := h
  cases d with
  | int i =>
    cases e with
    | int j =>
      obtain ⟨hl, h⟩ := ofRes_if (c := mulOk i j = true) h
      cases hx; cases hy
      exact op_mul pins s σ H _ _ v u Q I rx ry ⟨i, j, rfl, rfl, mul_ok hl, OkE.here (d := .int (i * j)) h R (.int _)⟩
    | _ => exact False.elim h
  | lst xs =>
    cases e with
    | int k => exact rep_list I rx ry R hx hy rfl rfl h
    | _ => exact False.elim h
  | cel n =>
    cases e with
    | int k =>
      cases hc : cellL S n with
      | none => simp only [mulD, hc] at h; exact False.elim h
      | some xs =>
        simp only [mulD, hc] at h
        exact rep_list I rx ry R hx hy hc rfl h
    | _ => exact False.elim h
  | _ => exact False.elim h
theorem op_binD {op : Operator} : OpR X (binaryOp op) (rRes X.K al fun S => binD S op) := by
  intro pins s σ H x y v u Q I rx ry h
  obtain ⟨S, F, p, d, e, R, hx, hy, h⟩ := h
  cases op with
  | Add => exact op_addD pins s σ H x y v u Q I rx ry ⟨S, F, p, d, e, R, hx, hy, h⟩
  | Mult => exact op_mulD pins s σ H x y v u Q I rx ry ⟨S, F, p, d, e, R, hx, hy, h⟩
  | Sub =>
    cases d with
    | int i =>
      cases e with
      | int j => cases hx; cases hy; exact op_sub pins s σ H _ _ v u Q I rx ry ⟨i, j, rfl, rfl, OkE.here (d := .int (i - j)) h R (.int _)⟩
      | _ => exact False.elim h
    | _ => exact False.elim h
  | Mod =>
    cases d with
    | int i =>
      cases e with
      | int j =>
        obtain ⟨hl, h⟩ := ofRes_if (c := decide (0 < j) = true) h
        cases hx; cases hy; exact op_mod pins s σ H _ _ v u Q I rx ry ⟨i, j, rfl, rfl, of_decide_eq_true hl, OkE.here (d := .int (i % j)) h R (.int _)⟩
      | _ => exact False.elim h
    | _ => exact False.elim h
  | FloorDiv =>
    cases d with
    | int i =>
      cases e with
      | int j =>
        obtain ⟨hl, h⟩ := ofRes_if (c := divOk j = true) h
        unfold divOk at hl
        simp only [Bool.and_eq_true, decide_eq_true_eq] at hl
        cases hx; cases hy; exact op_fdivW pins s σ H _ _ v u Q I rx ry ⟨i, j, rfl, rfl, wide_div (b := 64) hl.1 hl.2 (by decide) (by decide), OkE.here (d := .int (i / j)) h R (.int _)⟩
      | _ => exact False.elim h
    | _ => exact False.elim h
  | Pow =>
    cases d with
    | int i =>
      cases e with
      | int j =>
        obtain ⟨hl, h⟩ := ofRes_if (c := powOk i j = true) h
        unfold powOk at hl
        simp only [Bool.and_eq_true, decide_eq_true_eq] at hl
        cases hx; cases hy; exact op_pow pins s σ H _ _ v u Q I rx ry ⟨i, j, rfl, rfl, ⟨hl.1.1, hl.1.2, hl.2⟩, OkE.here (d := .int (i ^ j.toNat)) h R (.int _)⟩
      | _ => exact False.elim h
    | _ => exact False.elim h
  | _ => exact False.elim h
end
/-! ### values read as data -/
def Sysm (X : Cx) : Prop := ∃ o es ep, X.base.get? sysModules = some o ∧ o.data = .dict es ep
section
variable {X : Cx} {pins : List (Addr × Obj)} {σ : St} {H : Hp} {s : Shared} {S : Store} {F : Hp} {p : List Addr}
theorem sys_ne (I : Inv X pins σ H s) (sm : Sysm X) {a : Addr} {o : Obj} {its : Array Value} {n : Nat} (h : s.heap.get? a = some o) (hd : o.data = .seq its n) : a ≠ sysModules := fun z => by
  obtain ⟨o', es, ep, e, d⟩ := sm
  have := I.bk _ _ e
  rw [← z, h] at this; cases this
  rw [hd] at d; cases d
theorem toPs_len {S : Store} : ∀ {ds : List D} {qs : List PyData}, toPs S ds = some qs → qs.length = ds.length
  | [], _, h => by cases h; rfl
  | d :: r, qs, h => by
    simp only [toPs] at h
    split at h
    · rename_i h1 h2
      cases h
      simp [toPs_len h2]
    · cases h
mutual
theorem IsD.reads0 (I : Inv X pins σ H s) (sm : Sysm X) (R : Hld X.K S F p H) : ∀ (d : D) (v : V) (u : Value) (q : PyData), IsD X.K F p v d → RelV v u → d.toP0 = some q → ∃ as, Reads s.heap u q as ∧ sysModules ∉ as
  | .non, _, _, _, h, r, e => by cases h; cases r; cases e; exact ⟨_, .none, by simp⟩
  | .bl b, _, _, _, h, r, e => by cases h; cases r; cases e; exact ⟨_, .bool b, by simp⟩
  | .int i, _, _, _, h, r, e => by cases h; obtain ⟨t, rfl⟩ := r; cases e; exact ⟨_, .int i t, by simp⟩
  | .str x, _, _, _, h, r, e => by cases h; obtain ⟨t, rfl⟩ := r; cases e; exact ⟨_, .str x t, by simp⟩
  | .lst ds, _, _, _, h, r, e => by
    cases h with
    | lst h l t =>
      cases r
      simp only [D.toP0, Option.map_eq_some_iff] at e
      obtain ⟨qs, e, rfl⟩ := e
      obtain ⟨its, rv, ⟨o, n, ho, hc, _, hd⟩, _⟩ := I.list (.inl (.inl (R.sub _ _ h)))
      obtain ⟨as, hr, hn⟩ := IsDs.reads0 I sm R ds _ its qs t rv e
      exact ⟨_, .list ho hc hd hr, fun z => (List.mem_cons.mp z).elim (fun z => sys_ne I sm ho hd z.symm) hn⟩
  | .tup ds, _, _, _, h, r, e => by
    cases h with
    | tup h l t =>
      cases r
      simp only [D.toP0, Option.map_eq_some_iff] at e
      obtain ⟨qs, e, rfl⟩ := e
      obtain ⟨its, rv, ⟨o, ho, hc, n, hd⟩, _⟩ := I.tuple (same_sqT R.sub h)
      obtain ⟨as, hr, hn⟩ := IsDs.reads0 I sm R ds _ its qs t rv e
      exact ⟨_, .tuple ho hc hd hr, hn⟩
  | .scr ns, _, _, _, h, r, e => by
    cases h with
    | scr h l =>
      cases r
      cases e
      obtain ⟨its, rv, ⟨o, n, ho, hc, _, hd⟩, _⟩ := I.list (same_sqL R.sub h)
      obtain ⟨as, hr, hn⟩ := reads_ints rv
      exact ⟨_, .list ho hc hd hr, fun z => (List.mem_cons.mp z).elim (fun z => sys_ne I sm ho hd z.symm) hn⟩
  | .emp, _, _, _, h, r, e => by
    cases h with
    | emp h =>
      cases r
      cases e
      obtain ⟨_, hs, vs, kv, o, es, ep, ho, hx, hd, he⟩ := I.hok _ _ (R.sub _ _ h)
      cases kv
      have he0 : es.toList = [] := by
        cases h' : es.toList with
        | nil => rfl
        | cons a b => rw [h'] at he; exact absurd he.2.1 (by intro z; cases z)
      exact ⟨_, .dict (kvs := []) ho hx.1 hd (by rw [he0]; exact .nil) (by rw [he0]; exact .nil), fun z => by
        have z := List.mem_singleton.mp z
        rw [← z] at hs
        simp at hs⟩
  | .cel n, _, _, _, h, r, e => by cases e
theorem IsDs.reads0 (I : Inv X pins σ H s) (sm : Sysm X) (R : Hld X.K S F p H) : ∀ (ds : List D) (vs : List V) (us : List Value) (qs : List PyData), IsDs X.K F p vs ds → Vals vs us → toPs0 ds = some qs → ∃ as, ReadsAll s.heap us qs as ∧ sysModules ∉ as
  | [], _, _, _, h, r, e => by cases h; cases r; cases e; exact ⟨_, .nil, by simp⟩
  | d :: ds, _, _, _, h, r, e => by
    cases h with
    | cons h1 h2 =>
      cases r with
      | cons r1 r2 =>
        simp only [toPs0] at e
        split at e
        · rename_i e1 e2
          cases e
          obtain ⟨as, q1, n1⟩ := IsD.reads0 I sm R d _ _ _ h1 r1 e1
          obtain ⟨bs, q2, n2⟩ := IsDs.reads0 I sm R ds _ _ _ h2 r2 e2
          exact ⟨_, .cons q1 q2, fun z => (List.mem_append.mp z).elim n1 n2⟩
        · cases e
theorem reads_ints : ∀ {ns : List Int} {us : List Value}, Vals (ns.map V.int) us → ∃ as, ReadsAll s.heap us (ns.map .int) as ∧ sysModules ∉ as
  | [], _, r => by cases r; exact ⟨_, .nil, by simp⟩
  | n :: r, _, h => by
    cases h with
    | cons h1 h2 =>
      obtain ⟨t, rfl⟩ := h1
      obtain ⟨as, q, hn⟩ := reads_ints h2
      exact ⟨_, .cons (.int n t) q, by simpa using hn⟩
end
mutual
theorem IsD.reads (I : Inv X pins σ H s) (sm : Sysm X) (R : Hld X.K S F p H) : ∀ (d : D) (v : V) (u : Value) (q : PyData), IsD X.K F p v d → RelV v u → d.toP S = some q → ∃ as, Reads s.heap u q as ∧ sysModules ∉ as
  | .non, _, _, _, h, r, e => by cases h; cases r; cases e; exact ⟨_, .none, by simp⟩
  | .bl b, _, _, _, h, r, e => by cases h; cases r; cases e; exact ⟨_, .bool b, by simp⟩
  | .int i, _, _, _, h, r, e => by cases h; obtain ⟨t, rfl⟩ := r; cases e; exact ⟨_, .int i t, by simp⟩
  | .str x, _, _, _, h, r, e => by cases h; obtain ⟨t, rfl⟩ := r; cases e; exact ⟨_, .str x t, by simp⟩
  | .lst ds, _, _, _, h, r, e => by
    cases h with
    | lst h l t =>
      cases r
      simp only [D.toP, Option.map_eq_some_iff] at e
      obtain ⟨qs, e, rfl⟩ := e
      obtain ⟨its, rv, ⟨o, n, ho, hc, _, hd⟩, _⟩ := I.list (.inl (.inl (R.sub _ _ h)))
      obtain ⟨as, hr, hn⟩ := IsDs.reads I sm R ds _ its qs t rv e
      exact ⟨_, .list ho hc hd hr, fun z => (List.mem_cons.mp z).elim (fun z => sys_ne I sm ho hd z.symm) hn⟩
  | .tup ds, _, _, _, h, r, e => by
    cases h with
    | tup h l t =>
      cases r
      simp only [D.toP, Option.map_eq_some_iff] at e
      obtain ⟨qs, e, rfl⟩ := e
      obtain ⟨its, rv, ⟨o, ho, hc, n, hd⟩, _⟩ := I.tuple (same_sqT R.sub h)
      obtain ⟨as, hr, hn⟩ := IsDs.reads I sm R ds _ its qs t rv e
      exact ⟨_, .tuple ho hc hd hr, hn⟩
  | .scr ns, _, _, _, h, r, e => IsD.reads0 I sm R (.scr ns) _ _ _ h r (by cases e; rfl)
  | .emp, _, _, _, h, r, e => IsD.reads0 I sm R .emp _ _ _ h r (by cases e; rfl)
  | .cel n, _, _, _, h, r, e => by
    cases h with
    | cel h =>
      cases r
      simp only [D.toP] at e
      split at e
      · rename_i xs hx
        obtain ⟨qs, e1, rfl⟩ := Option.map_eq_some_iff.mp e
        obtain ⟨vs, h1, l, t⟩ := R.cellL h hx
        obtain ⟨its, rv, ⟨o, n, ho, hc, _, hd⟩, _⟩ := I.list (.inl (.inl h1))
        obtain ⟨as, hr, hn⟩ := IsDs.reads0 I sm R xs _ its qs t rv e1
        exact ⟨_, .list ho hc hd hr, fun z => (List.mem_cons.mp z).elim (fun z => sys_ne I sm ho hd z.symm) hn⟩
      · cases e
theorem IsDs.reads (I : Inv X pins σ H s) (sm : Sysm X) (R : Hld X.K S F p H) : ∀ (ds : List D) (vs : List V) (us : List Value) (qs : List PyData), IsDs X.K F p vs ds → Vals vs us → toPs S ds = some qs → ∃ as, ReadsAll s.heap us qs as ∧ sysModules ∉ as
  | [], _, _, _, h, r, e => by cases h; cases r; cases e; exact ⟨_, .nil, by simp⟩
  | d :: ds, _, _, _, h, r, e => by
    cases h with
    | cons h1 h2 =>
      cases r with
      | cons r1 r2 =>
        simp only [toPs] at e
        split at e
        · rename_i e1 e2
          cases e
          obtain ⟨as, q1, n1⟩ := IsD.reads I sm R d _ _ _ h1 r1 e1
          obtain ⟨bs, q2, n2⟩ := IsDs.reads I sm R ds _ _ _ h2 r2 e2
          exact ⟨_, .cons q1 q2, fun z => (List.mem_append.mp z).elim n1 n2⟩
        · cases e
end
end
end DI
/-! DI: comparisons, places, cuts. -/
namespace DI
open PySem PySem.Spec L2
open PyProof.Rows hiding St
def rBo (K : PySem.W.Frag) (b : Store → D → D → Option Bool) : R2 := fun x y H Q =>
  ∃ S F p d e, Hld K S F p H ∧ IsD K F p x d ∧ IsD K F p y e ∧ (ofB (b S d e) S).holds (OkE K F p H Q) E1
theorem ofB_some {b : Option Bool} {S : Store} {Q : D → Store → Prop} {E : Ex → Rho → Store → Prop} (h : (ofB b S).holds Q E) : ∃ c, b = some c ∧ Q (.bl c) S := by
  cases b with
  | none => exact False.elim h
  | some c => exact ⟨c, rfl, h⟩
section
variable {X : Cx} {pins : List (Addr × Obj)} {σ : St} {H : Hp} {s : Shared} {S : Store} {F : Hp} {p : List Addr} {Q : VK}
theorem eqv_ok (sm : Sysm X) {x y : V} {v u : Value} {d e : D} (I : Inv X pins σ H s) (rx : RelV x v) (ry : RelV y u) (R : Hld X.K S F p H) (hx : IsD X.K F p x d) (hy : IsD X.K F p y e) {b : Bool} (h : eqvD0 S d e = some b) :
    ∃ a c as bs, Reads s.heap v a as ∧ Reads s.heap u c bs ∧ SeqAt.shaped a = true ∧ SeqAt.shaped c = true ∧ b = PyData.eqv a c := by
  unfold eqvD0 at h
  split at h
  · rename_i a c h1 h2
    split at h
    · rename_i hs
      cases h
      simp only [Bool.and_eq_true] at hs
      obtain ⟨as, r1, _⟩ := IsD.reads I sm R d x v a hx rx h1
      obtain ⟨bs, r2, _⟩ := IsD.reads I sm R e y u c hy ry h2
      exact ⟨a, c, as, bs, r1, r2, hs.1, hs.2, rfl⟩
    · cases h
  · cases h
theorem seq_reads (sm : Sysm X) {y : V} {u : Value} {e : D} {es : List D} {qs : List PyData} (I : Inv X pins σ H s) (ry : RelV y u) (R : Hld X.K S F p H) (hy : IsD X.K F p y e) (he : seqOf S e = some es) (hq : toPs S es = some qs) :
    ∃ as, Reads s.heap u (.list qs) as ∨ Reads s.heap u (.tuple qs) as := by
  obtain ⟨a, vs, rfl, ha, l, t⟩ := R.seq hy he
  cases ry
  rcases ha with ha | ha
  · obtain ⟨its, rv, ⟨o, n, ho, hc, _, hd⟩, _⟩ := I.list ha
    obtain ⟨as, hr, _⟩ := IsDs.reads I sm R es _ its qs t rv hq
    exact ⟨_, .inl (.list ho hc hd hr)⟩
  · obtain ⟨its, rv, ⟨o, ho, hc, n, hd⟩, _⟩ := I.tuple ha
    obtain ⟨as, hr, _⟩ := IsDs.reads I sm R es _ its qs t rv hq
    exact ⟨_, .inr (.tuple ho hc hd hr)⟩
theorem any_ok (sm : Sysm X) (hu : X.A.units + 70 < cLine) {x y : V} {v u : Value} {d e : D} (I : Inv X pins σ H s) (rx : RelV x v) (ry : RelV y u) (R : Hld X.K S F p H) (hx : IsD X.K F p x d) (hy : IsD X.K F p y e) {b : Bool} (h : anyD S d e = some b) :
    (Q (.bl b) H → wpAny (model X.prog X.w) X.A (compareOp .In v u) (EP X pins σ Q) X.xe s) ∧ (Q (.bl (!b)) H → wpAny (model X.prog X.w) X.A (compareOp .NotIn v u) (EP X pins σ Q) X.xe s) := by
  unfold anyD at h
  split at h
  · rename_i es he
    split at h
    · rename_i a qs h1 h2
      split at h
      · rename_i hs
        cases h
        simp only [Bool.and_eq_true] at hs
        obtain ⟨as, r1, _⟩ := IsD.reads I sm R d x v a hx rx h1
        have hl : PyData.canLayAll0 qs = true := SeqAt.canLay_of_shaped hs.2
        have hd := SeqAt.depth_of_shaped hs.1
        have hroom : X.A.units + 1 + min (PyData.depthAll qs) a.depth < cLine := by
          have : min (PyData.depthAll qs) a.depth ≤ a.depth := Nat.min_le_right _ _
          omega
        obtain ⟨bs, r2 | r2⟩ := seq_reads sm I ry R hy he h2
        · exact ⟨fun q => SeqAt.in_list_reads r2 r1 hl (SeqAt.canLay_of_shaped hs.1) hroom ⟨.bl _, H, I, rfl, q⟩, fun q => SeqAt.notIn_list_reads r2 r1 hl (SeqAt.canLay_of_shaped hs.1) hroom ⟨.bl _, H, I, rfl, q⟩⟩
        · exact ⟨fun q => SeqAt.in_tuple_reads r2 r1 hl (SeqAt.canLay_of_shaped hs.1) hroom ⟨.bl _, H, I, rfl, q⟩, fun q => SeqAt.notIn_tuple_reads r2 r1 hl (SeqAt.canLay_of_shaped hs.1) hroom ⟨.bl _, H, I, rfl, q⟩⟩
      · cases h
    · cases h
  · cases h
theorem key_of {x : V} {d : D} {k : Key} (h : IsD X.K F p x d) (e : inKey d = some k) : x = kV k := by
  cases h <;> cases e <;> rfl
theorem IsK.val {K : PySem.W.Frag} (k : Key) : ∀ {ws : List (Key × V)} {kvs : List (Key × D)}, IsK K F p ws kvs → (valV ws k = none ∧ valK kvs k = none) ∨ ∃ v d, valV ws k = some v ∧ valK kvs k = some d ∧ IsD K F p v d
  | _, _, .nil => .inl ⟨rfl, rfl⟩
  | _, _, .cons (k := j) (v := v) (d := d) h t => by
    by_cases e : j = k
    · refine .inr ⟨v, d, valV_pos (p := (j, v)) e, ?_, h⟩
      simp [valK, List.find?_cons, e]
    · rcases IsK.val k t with ⟨h1, h2⟩ | ⟨v', d', h1, h2, h3⟩
      · refine .inl ⟨(valV_neg (p := (j, v)) e).trans h1, ?_⟩
        rw [← h2]; simp [valK, List.find?_cons, e]
      · refine .inr ⟨v', d', (valV_neg (p := (j, v)) e).trans h1, ?_, h3⟩
        rw [← h2]; simp [valK, List.find?_cons, e]
theorem Hld.cellK {K : PySem.W.Frag} {n : Nat} {a : Addr} {kvs : List (Key × D)} (R : Hld K S F p H) (hp : p[n]? = some a) (h : cellK S n = some kvs) : ∃ ws, H a = some (.dK ws) ∧ IsK K F p ws kvs :=
  (R.cell n a _ hp (cellK_iff h)).2
theorem in_ok (sm : Sysm X) (hu : X.A.units + 70 < cLine) {x y : V} {v u : Value} {d e : D} (I : Inv X pins σ H s) (rx : RelV x v) (ry : RelV y u) (R : Hld X.K S F p H) (hx : IsD X.K F p x d) (hy : IsD X.K F p y e) {b : Bool} (h : inD S d e = some b) :
    (Q (.bl b) H → wpAny (model X.prog X.w) X.A (compareOp .In v u) (EP X pins σ Q) X.xe s) ∧ (Q (.bl (!b)) H → wpAny (model X.prog X.w) X.A (compareOp .NotIn v u) (EP X pins σ Q) X.xe s) := by
  unfold inD at h
  split at h
  · rename_i n
    split at h
    · rename_i kvs hk
      split at h
      · rename_i k hkey
        cases h
        have ex := key_of hx hkey
        subst ex
        cases hy with
        | @cel a _ hp =>
          cases ry
          obtain ⟨ws, hw, t⟩ := R.cellK hp hk
          have g : DGet H a (kV k) (valV ws k) := DGet.k hw
          have e : (valV ws k).isSome = (valK kvs k).isSome := by
            rcases t.val k with ⟨h1, h2⟩ | ⟨v', d', h1, h2, _⟩ <;> rw [h1, h2] <;> rfl
          refine ⟨fun q => d_in (by omega) I g rx fun s' I' => ⟨.bl _, H, I', rfl, by rw [e]; exact q⟩, fun q => d_notIn (by omega) I g rx fun s' I' => ⟨.bl _, H, I', rfl, by rw [e]; exact q⟩⟩
      · cases h
    · exact any_ok sm hu I rx ry R hx hy h
  · exact any_ok sm hu I rx ry R hx hy h
theorem strEq_ok {K : PySem.W.Frag} {x y : V} {d e : D} (hx : IsD K F p x d) (hy : IsD K F p y e) {b : Bool} (h : strEq d e = some b) : scal x y = true ∧ decide (x = y) = b := by
  cases hx <;> cases hy <;> first | (cases h; exact ⟨rfl, by simp⟩) | cases h
theorem non_iff {K : PySem.W.Frag} {x : V} {d : D} (h : IsD K F p x d) : decide (x = .non) = match d with | .non => true | _ => false := by
  cases h <;> simp
end
section
variable {X : Cx}
theorem op_cmpD (sm : Sysm X) (hu : X.A.units + 70 < cLine) {op : CmpOp} : OpR X (compareOp op) (rBo X.K fun S => cmpD S op) := by
  intro pins s σ H x y v u Q I rx ry h
  obtain ⟨S, F, p, d, e, R, hx, hy, h⟩ := h
  obtain ⟨b, hb, h⟩ := ofB_some h
  have q : Q (.bl b) H := h.here R (.bl b)
  cases op with
  | Eq =>
    have hb : eqvD S d e = some b := hb
    unfold eqvD at hb
    split at hb
    · rename_i b' he
      cases hb
      obtain ⟨e1, e2⟩ := strEq_ok hx hy he
      exact op_eq pins s σ H x y v u Q I rx ry ⟨e1, by rw [e2]; exact q⟩
    obtain ⟨a, c, as, bs, r1, r2, s1, s2, rfl⟩ := eqv_ok sm I rx ry R hx hy hb
    exact SeqAt.compareEq_shaped r1 r2 s1 s2 (by omega) ⟨.bl _, H, I, rfl, q⟩
  | NotEq =>
    obtain ⟨b', hb', rfl⟩ := Option.map_eq_some_iff.mp (show (eqvD S d e).map (!·) = some b from hb)
    unfold eqvD at hb'
    split at hb'
    · rename_i b2 he
      cases hb'
      obtain ⟨e1, e2⟩ := strEq_ok hx hy he
      exact op_ne pins s σ H x y v u Q I rx ry ⟨e1, by rw [e2]; exact q⟩
    obtain ⟨a, c, as, bs, r1, r2, s1, s2, rfl⟩ := eqv_ok sm I rx ry R hx hy hb'
    exact SeqAt.compareNe_shaped r1 r2 s1 s2 (by omega) ⟨.bl _, H, I, rfl, q⟩
  | Lt =>
    cases d <;> cases e <;> cases hb
    cases hx; cases hy; exact op_lt pins s σ H _ _ v u Q I rx ry ⟨_, _, rfl, rfl, q⟩
  | LtE =>
    cases d <;> cases e <;> cases hb
    cases hx; cases hy; exact op_le pins s σ H _ _ v u Q I rx ry ⟨_, _, rfl, rfl, q⟩
  | Gt =>
    cases d <;> cases e <;> cases hb
    cases hx; cases hy; exact op_gt pins s σ H _ _ v u Q I rx ry ⟨_, _, rfl, rfl, q⟩
  | GtE =>
    cases d <;> cases e <;> cases hb
    cases hx; cases hy; exact op_ge pins s σ H _ _ v u Q I rx ry ⟨_, _, rfl, rfl, q⟩
  | Is =>
    cases e with
    | non =>
      cases hy
      have e1 : b = decide (x = .non) := by rw [non_iff hx]; cases d <;> cases hb <;> rfl
      exact op_isN pins s σ H _ _ v u Q I rx ry ⟨rfl, by rw [← e1]; exact q⟩
    | bl c =>
      cases d with
      | bl a => cases hb; cases hx; cases hy; exact op_isBl pins s σ H _ _ v u Q I rx ry ⟨a, c, rfl, rfl, q⟩
      | _ => cases hb
    | _ => cases d <;> cases hb
  | IsNot =>
    cases e with
    | non =>
      cases hy
      have e1 : b = !decide (x = .non) := by rw [non_iff hx]; cases d <;> cases hb <;> rfl
      exact op_notN pins s σ H _ _ v u Q I rx ry ⟨rfl, by rw [← e1]; exact q⟩
    | bl c =>
      cases d with
      | bl a => cases hb; cases hx; cases hy; exact op_notBl pins s σ H _ _ v u Q I rx ry ⟨a, c, rfl, rfl, q⟩
      | _ => cases hb
    | _ => cases d <;> cases hb
  | In => exact (in_ok sm hu I rx ry R hx hy (show inD S d e = some b from hb)).1 q
  | NotIn =>
    obtain ⟨b', hb', rfl⟩ := Option.map_eq_some_iff.mp (show (inD S d e).map (!·) = some b from hb)
    exact (in_ok sm hu I rx ry R hx hy hb').2 q
/-! ### o[i] -/
def rGet (K : PySem.W.Frag) : R2 := fun x y H Q => ∃ S F p d e z, Hld K S F p H ∧ IsD K F p x d ∧ IsD K F p y e ∧ getD S d e = some z ∧ OkE K F p H Q z S
theorem at_rel {K : PySem.W.Frag} {F : Hp} {p : List Addr} {vs : List V} {ds : List D} {i : Int} {d : D} (t : IsDs K F p vs ds) (h : atI ds i = some d) : ∃ v, atI vs i = some v ∧ IsD K F p v d := by
  unfold atI at h ⊢
  rw [t.length]
  cases e : ixN ds.length i with
  | none => rw [e] at h; cases h
  | some j =>
    rw [e] at h
    exact t.get h
theorem ix_getD (hu : X.A.units + 1 < cLine) : IxR X (rGet X.K) := by
  intro value slice pins s σ H x y v u Q I rx ry h hs
  obtain ⟨S, F, p, d, e, z, R, hx, hy, hz, h⟩ := h
  unfold getD at hz
  split at hz
  · rename_i xs hxs
    split at hz
    · rename_i i
      obtain ⟨a, vs, rfl, ha, l, t⟩ := R.seq hx hxs
      obtain ⟨w, hw, hd⟩ := at_rel t hz
      cases hy
      rcases ha with ha | ha
      · exact ix_list value slice pins s σ H _ _ v u Q I rx ry ⟨a, vs, i, w, rfl, rfl, ha, hw, h.here R hd⟩ hs
      · exact ix_tup value slice pins s σ H _ _ v u Q I rx ry ⟨a, vs, i, w, rfl, rfl, ha, hw, h.here R hd⟩ hs
    · cases hz
  · split at hz
    · rename_i n _
      split at hz
      · rename_i kvs k hk he
        have ey := key_of hy he
        subst ey
        cases hx with
        | @cel a _ hp =>
          cases rx
          obtain ⟨ws, hw, t⟩ := R.cellK hp hk
          rcases t.val k with ⟨h1, h2⟩ | ⟨v', d', h1, h2, h3⟩
          · rw [h2] at hz; cases hz
          · rw [h2] at hz
            cases hz
            have g : DGet H a (kV k) (some v') := by rw [← h1]; exact DGet.k hw
            exact tail_any (dict_typeIs I g) PySem.F.slot_dict_getitem.lookup (d_getItem hu I g ry fun w' s' I' rw' => ⟨v', H, I', rw', h.here R h3⟩) hs
      · cases hz
    · cases hz
/-! ### o[i:j], o[::-1] -/
theorem sIx_eq {K : PySem.W.Frag} {F : Hp} {p : List Addr} {vs : List V} {ds : List D} (t : IsDs K F p vs ds) (lo hi : Option Int) : IsDs K F p (cutV vs lo hi) (cutL ds lo hi) := by
  unfold cutV cutL
  rw [t.length]
  exact (t.drop _).take _
theorem cutL_len {α : Type} (xs : List α) (lo hi : Option Int) : (cutL xs lo hi).length ≤ xs.length := by
  unfold cutL
  rw [List.length_take, List.length_drop]; omega
def rSl (K : PySem.W.Frag) (al : Bool) : V → Option Int → Option Int → Hp → VK → Prop := fun x lo hi H Q => ∃ S F p d, Hld K S F p H ∧ IsD K F p x d ∧ (ofRes al (sliceD S d lo hi) S).holds (OkE K F p H Q) E1
end
end DI
/-! DI: cuts and built-in functions. -/
namespace DI
open PySem PySem.Spec L2
open PyProof.Rows hiding St
section
variable {X : Cx} {al : Bool}
theorem sl_D : SlR X (rSl X.K al) := by
  intro pins s σ H x v vl vu lo hi sl Q I rx hs pl pu h
  obtain ⟨S, F, p, d, R, hx, h⟩ := h
  have lists : ∀ ds, listOf S d = some ds → (ofRes al (some (.new (cutL ds lo hi))) S).holds (OkE X.K F p H Q) E1 → ∃ T id, typeLookup (.type T) "__getitem__" = pure (some (.builtin id)) ∧ s.TypeIs v T ∧ wpAny (model X.prog X.w) X.A (getItem v (.ref sl)) (EP X pins σ Q) X.xe s := fun ds hd h => by
    obtain ⟨a, vs, rfl, ha, l, t⟩ := R.list hx hd
    exact sl_list pins s σ H _ v vl vu lo hi sl Q I rx hs pl pu ⟨a, vs, rfl, ha, fun q hq => settle_new R hq (Nat.le_trans (cutL_len _ _ _) l) (sIx_eq t lo hi) h⟩
  cases d with
  | tup xs =>
    have h : (ofRes al (if HT.sIx xs.length 0 lo = 0 ∧ HT.sIx xs.length xs.length hi = xs.length then some (.d (.tup xs)) else some (.d (.tup (cutL xs lo hi)))) S).holds (OkE X.K F p H Q) E1 := h
    cases hx with
    | @tup a vs _ h1 l1 t1 =>
      refine sl_tupA pins s σ H _ v vl vu lo hi sl Q I rx hs pl pu ⟨a, vs, rfl, same_sqT R.sub h1, fun c => ?_, fun c q hq => ?_⟩
      · rw [t1.length] at c
        rw [if_pos c] at h
        exact OkE.here (d := .tup xs) h R (.tup h1 l1 t1)
      · rw [t1.length] at c
        rw [if_neg c] at h
        exact tup_new R hq (Nat.le_trans (cutL_len _ _ _) l1) (sIx_eq t1 lo hi) h
  | lst xs => exact lists xs rfl h
  | scr ns => exact lists _ rfl h
  | cel n =>
    cases hc : cellL S n with
    | none => simp only [sliceD, listOf, hc] at h; exact False.elim h
    | some xs => simp only [sliceD, listOf, hc] at h; exact lists xs hc h
  | _ => exact False.elim h
def rBl (K : PySem.W.Frag) (al : Bool) (b : Store → List D → Option Res) : List V → Hp → VK → Prop := fun xs H Q =>
  ∃ S F p ds, Hld K S F p H ∧ IsDs K F p xs ds ∧ (ofRes al (b S ds) S).holds (OkE K F p H Q) E1
theorem one1_of {al : Bool} {S : Store} {ds : List D} {f : D → Option Res} {Q : D → Store → Prop} (h : (ofRes al (one1 ds f) S).holds Q E1) : ∃ d, ds = [d] ∧ (ofRes al (f d) S).holds Q E1 := by
  match ds, h with
  | [d], h => exact ⟨d, rfl, h⟩
  | [], h => exact False.elim h
  | _ :: _ :: _, h => exact False.elim h
theorem IsDs.one {K : PySem.W.Frag} {F : Hp} {p : List Addr} {xs : List V} {d : D} (h : IsDs K F p xs [d]) : ∃ x, xs = [x] ∧ IsD K F p x d := by
  cases h with
  | cons h t => cases t; exact ⟨_, rfl, h⟩
theorem ints_of {al : Bool} {S : Store} {d : D} {f : List Int → Option Res} {Q : D → Store → Prop} (h : (ofRes al (withInts S d f) S).holds Q E1) : ∃ ns, listOf S d = some (ns.map .int) ∧ (ofRes al (f ns) S).holds Q E1 := by
  unfold withInts at h
  split at h
  · rename_i xs hx
    split at h
    · rename_i ns hn
      exact ⟨ns, by rw [hx, intsOf_eq hn], h⟩
    · exact False.elim h
  · exact False.elim h
theorem bls_of {al : Bool} {S : Store} {d : D} {f : List Bool → Option Res} {Q : D → Store → Prop} (h : (ofRes al (withBls S d f) S).holds Q E1) : ∃ ns, listOf S d = some (ns.map .bl) ∧ (ofRes al (f ns) S).holds Q E1 := by
  unfold withBls at h
  split at h
  · rename_i xs hx
    split at h
    · rename_i ns hn
      exact ⟨ns, by rw [hx, blsOf_eq hn], h⟩
    · exact False.elim h
  · exact False.elim h
theorem ints_list {K : PySem.W.Frag} {S : Store} {F : Hp} {p : List Addr} {H : Hp} {x : V} {d : D} {ns : List Int} (R : Hld K S F p H) (hx : IsD K F p x d) (h : listOf S d = some (ns.map .int)) : ∃ a, x = .ref a ∧ SqL K H a (ns.map V.int) := by
  obtain ⟨a, vs, rfl, ha, _, t⟩ := R.list hx h
  rw [t.ints] at ha
  exact ⟨a, rfl, ha⟩
theorem call_bAbs : CallR X (.builtin "abs") (rBl X.K al fun _ => bAbs) := by
  intro pins s σ H xs us Q I r h
  obtain ⟨S, F, p, ds, R, hx, h⟩ := h
  have h0 : (ofRes al (bAbs ds) S).holds (OkE X.K F p H Q) E1 := h
  clear h
  unfold bAbs at h0
  split at h0
  · rename_i i
    have hx0 := hx.one; clear hx; obtain ⟨x, rfl, hx⟩ := hx0
    cases hx
    exact call_abs pins s σ H _ us Q I r ⟨i, rfl, OkE.here (d := .int _) h0 R (.int _)⟩
  · exact False.elim h0
theorem call_bInt : CallR X (.type "int") (rBl X.K al fun _ => bInt) := by
  intro pins s σ H xs us Q I r h
  obtain ⟨S, F, p, ds, R, hx, h⟩ := h
  have h0 : (ofRes al (bInt ds) S).holds (OkE X.K F p H Q) E1 := h
  clear h
  unfold bInt at h0
  split at h0
  · rename_i i
    have hx0 := hx.one; clear hx; obtain ⟨x, rfl, hx⟩ := hx0
    cases hx
    exact call_int1 pins s σ H _ us Q I r (.inl ⟨i, rfl, OkE.here (d := .int _) h0 R (.int _)⟩)
  · rename_i i
    have hx0 := hx.one; clear hx; obtain ⟨x, rfl, hx⟩ := hx0
    cases hx
    exact call_int1 pins s σ H _ us Q I r (.inr ⟨i, rfl, OkE.here (d := .int _) h0 R (.int _)⟩)
  · exact False.elim h0
theorem maxI_uniq : ∀ (ns : List Int), 0 < ns.length → maxI ns ∈ ns ∧ ∀ y ∈ ns, y ≤ maxI ns
  | [x], _ => ⟨by simp [maxI], fun y h => by simp at h; subst h; exact Int.le_refl _⟩
  | x :: z :: r, _ => by
    obtain ⟨h1, h2⟩ := maxI_uniq (z :: r) (by simp)
    have e : maxI (x :: z :: r) = if maxI (z :: r) < x then x else maxI (z :: r) := rfl
    rw [e]
    by_cases c : maxI (z :: r) < x
    · rw [if_pos c]
      refine ⟨List.mem_cons_self, fun y hy => ?_⟩
      rcases List.mem_cons.mp hy with rfl | hy
      · exact Int.le_refl _
      · have := h2 y hy; omega
    · rw [if_neg c]
      refine ⟨List.mem_cons_of_mem _ h1, fun y hy => ?_⟩
      rcases List.mem_cons.mp hy with rfl | hy
      · omega
      · exact h2 y hy
theorem minI_uniq : ∀ (ns : List Int), 0 < ns.length → minI ns ∈ ns ∧ ∀ y ∈ ns, minI ns ≤ y
  | [x], _ => ⟨by simp [minI], fun y h => by simp at h; subst h; exact Int.le_refl _⟩
  | x :: z :: r, _ => by
    obtain ⟨h1, h2⟩ := minI_uniq (z :: r) (by simp)
    have e : minI (x :: z :: r) = if x < minI (z :: r) then x else minI (z :: r) := rfl
    rw [e]
    by_cases c : x < minI (z :: r)
    · rw [if_pos c]
      refine ⟨List.mem_cons_self, fun y hy => ?_⟩
      rcases List.mem_cons.mp hy with rfl | hy
      · exact Int.le_refl _
      · have := h2 y hy; omega
    · rw [if_neg c]
      refine ⟨List.mem_cons_of_mem _ h1, fun y hy => ?_⟩
      rcases List.mem_cons.mp hy with rfl | hy
      · omega
      · exact h2 y hy
theorem max_list (hc : X.calm = true) {pins : List (Addr × Obj)} {s : Shared} {σ : St} {H : Hp} {xs : List V} {us : List Value} {Q : VK} {S : Store} {F : Hp} {p : List Addr} {d : D} (I : Inv X pins σ H s) (r : Vals xs us) (R : Hld X.K S F p H) (hx : IsDs X.K F p xs [d])
    (h : (ofRes al (withInts S d fun ns => if ns.length = 0 then none else some (.d (.int (maxI ns)))) S).holds (OkE X.K F p H Q) E1) : wpAny (model X.prog X.w) X.A (call (.builtin "max") us) (EP X pins σ Q) X.xe s := by
  have hx0 := hx.one; clear hx; obtain ⟨x, rfl, hx⟩ := hx0
  obtain ⟨ns, hl, h⟩ := ints_of h
  obtain ⟨a, rfl, ha⟩ := ints_list R hx hl
  by_cases h0 : ns.length = 0
  · rw [if_pos h0] at h; exact False.elim h
  · rw [if_neg h0] at h
    refine cr_max hc pins s σ H _ us Q I r ⟨a, ns, rfl, ha, by omega, fun m hm hle => ?_⟩
    obtain ⟨h1, h2⟩ := maxI_uniq ns (by omega)
    have e : m = maxI ns := by have := hle _ h1; have := h2 _ hm; omega
    subst e
    exact OkE.here (d := .int _) h R (.int _)
theorem min_list (hc : X.calm = true) {pins : List (Addr × Obj)} {s : Shared} {σ : St} {H : Hp} {xs : List V} {us : List Value} {Q : VK} {S : Store} {F : Hp} {p : List Addr} {d : D} (I : Inv X pins σ H s) (r : Vals xs us) (R : Hld X.K S F p H) (hx : IsDs X.K F p xs [d])
    (h : (ofRes al (withInts S d fun ns => if ns.length = 0 then none else some (.d (.int (minI ns)))) S).holds (OkE X.K F p H Q) E1) : wpAny (model X.prog X.w) X.A (call (.builtin "min") us) (EP X pins σ Q) X.xe s := by
  have hx0 := hx.one; clear hx; obtain ⟨x, rfl, hx⟩ := hx0
  obtain ⟨ns, hl, h⟩ := ints_of h
  obtain ⟨a, rfl, ha⟩ := ints_list R hx hl
  by_cases h0 : ns.length = 0
  · rw [if_pos h0] at h; exact False.elim h
  · rw [if_neg h0] at h
    refine cr_min hc pins s σ H _ us Q I r ⟨a, ns, rfl, ha, by omega, fun m hm hle => ?_⟩
    obtain ⟨h1, h2⟩ := minI_uniq ns (by omega)
    have e : m = minI ns := by have := hle _ h1; have := h2 _ hm; omega
    subst e
    exact OkE.here (d := .int _) h R (.int _)
theorem call_bMax (hc : X.calm = true) : CallR X (.builtin "max") (rBl X.K al bMax) := by
  intro pins s σ H xs us Q I r h
  obtain ⟨S, F, p, ds, R, hx, h⟩ := h
  unfold bMax at h
  split at h
  · rename_i i j
    cases hx with
    | cons h1 t =>
      obtain ⟨x, rfl, h2⟩ := t.one
      cases h1; cases h2
      exact call_max2 hc pins s σ H _ us Q I r ⟨i, j, rfl, OkE.here (d := .int _) h R (.int _)⟩
  · exact max_list hc I r R hx h
  · exact False.elim h
theorem call_bMin (hc : X.calm = true) : CallR X (.builtin "min") (rBl X.K al bMin) := by
  intro pins s σ H xs us Q I r h
  obtain ⟨S, F, p, ds, R, hx, h⟩ := h
  unfold bMin at h
  split at h
  · rename_i i j
    cases hx with
    | cons h1 t =>
      obtain ⟨x, rfl, h2⟩ := t.one
      cases h1; cases h2
      exact call_min2 hc pins s σ H _ us Q I r ⟨i, j, rfl, OkE.here (d := .int _) h R (.int _)⟩
  · exact min_list hc I r R hx h
  · exact False.elim h
theorem call_bDivmod : CallR X (.builtin "divmod") (rBl X.K al fun _ => bDivmod) := by
  intro pins s σ H xs us Q I r h
  obtain ⟨S, F, p, ds, R, hx, h⟩ := h
  have h0 : (ofRes al (bDivmod ds) S).holds (OkE X.K F p H Q) E1 := h
  clear h
  unfold bDivmod at h0
  split at h0
  · rename_i i j
    obtain ⟨hl, h⟩ := ofRes_if h0
    simp only [Bool.and_eq_true, decide_eq_true_eq] at hl
    cases hx with
    | cons h1 t =>
      obtain ⟨x, rfl, h2⟩ := t.one
      cases h1; cases h2
      refine call_divmod pins s σ H _ us Q I r ⟨i, j, rfl, hl, fun q hq => tup_new R hq (by show 2 ≤ LINE; decide) (.cons (.int _) (.cons (.int _) .nil)) h⟩
  · exact False.elim h0
theorem call_bSum (hc : X.calm = true) : CallR X (.builtin "sum") (rBl X.K al bSum) := by
  intro pins s σ H xs us Q I r h
  obtain ⟨S, F, p, ds, R, hx, h⟩ := h
  have h0 := one1_of h; clear h; obtain ⟨d, rfl, h⟩ := h0
  have hx0 := hx.one; clear hx; obtain ⟨x, rfl, hx⟩ := hx0
  obtain ⟨ns, hl, h⟩ := ints_of h
  obtain ⟨a, rfl, ha⟩ := ints_list R hx hl
  exact cr_sum hc pins s σ H _ us Q I r ⟨a, ns, rfl, ha, OkE.here (d := .int _) h R (.int _)⟩
theorem call_bAll (hc : X.calm = true) : CallR X (.builtin "all") (rBl X.K al bAll) := by
  intro pins s σ H xs us Q I r h
  obtain ⟨S, F, p, ds, R, hx, h⟩ := h
  have h0 := one1_of h; clear h; obtain ⟨d, rfl, h⟩ := h0
  have hx0 := hx.one; clear hx; obtain ⟨x, rfl, hx⟩ := hx0
  obtain ⟨ns, hl, h⟩ := bls_of h
  obtain ⟨a, vs, rfl, ha, _, t⟩ := R.list hx hl
  rw [t.bls] at ha
  exact cr_all hc pins s σ H _ us Q I r ⟨a, ns, rfl, ha, OkE.here (d := .bl _) h R (.bl _)⟩
theorem call_bAny (hc : X.calm = true) : CallR X (.builtin "any") (rBl X.K al bAny) := by
  intro pins s σ H xs us Q I r h
  obtain ⟨S, F, p, ds, R, hx, h⟩ := h
  have h0 := one1_of h; clear h; obtain ⟨d, rfl, h⟩ := h0
  have hx0 := hx.one; clear hx; obtain ⟨x, rfl, hx⟩ := hx0
  obtain ⟨ns, hl, h⟩ := bls_of h
  obtain ⟨a, vs, rfl, ha, _, t⟩ := R.list hx hl
  rw [t.bls] at ha
  exact cr_any hc pins s σ H _ us Q I r ⟨a, ns, rfl, ha, OkE.here (d := .bl _) h R (.bl _)⟩
theorem IsK.length {K : PySem.W.Frag} {F : Hp} {p : List Addr} : ∀ {ws : List (Key × V)} {kvs : List (Key × D)}, IsK K F p ws kvs → ws.length = kvs.length
  | _, _, .nil => rfl
  | _, _, .cons _ t => by simp [IsK.length t]
theorem call_bLen : CallR X (.builtin "len") (rBl X.K al bLen) := by
  intro pins s σ H xs us Q I r h
  obtain ⟨S, F, p, ds, R, hx, h⟩ := h
  have h0 := one1_of h; clear h; obtain ⟨d, rfl, h⟩ := h0
  have hx0 := hx.one; clear hx; obtain ⟨x, rfl, hx⟩ := hx0
  cases hl : lenD S d with
  | none => rw [hl] at h; exact False.elim h
  | some n =>
    rw [hl] at h
    have q : Q (.int n) H := OkE.here (d := .int _) h R (.int _)
    have seqs : ∀ ds, seqOf S d = some ds → ds.length = n → wpAny (model X.prog X.w) X.A (call (.builtin "len") us) (EP X pins σ Q) X.xe s := fun ds hd e => by
      obtain ⟨a, vs, rfl, ha, l, t⟩ := R.seq hx hd
      exact call_len_seq pins s σ H _ us Q I r ⟨a, vs, rfl, ha, by rw [t.length, e]; exact q⟩
    cases d with
    | str z =>
      cases hx
      have hl : (if z.length ≤ LINE then some z.length else none) = some n := hl
      by_cases hz : z.length ≤ LINE
      · rw [if_pos hz] at hl
        cases hl
        exact call_len_str pins s σ H _ us Q I r ⟨z, rfl, by rw [← LINE_eq]; exact hz, q⟩
      · rw [if_neg hz] at hl; cases hl
    | lst xs => cases hl; exact seqs xs rfl rfl
    | tup xs => cases hl; exact seqs xs rfl rfl
    | scr xs => cases hl; exact seqs _ rfl rfl
    | emp =>
      cases hl
      cases hx with
      | emp h1 =>
        obtain ⟨u, rfl, ru⟩ := vals1 r
        cases ru
        exact d_len I (.inl (R.sub _ _ h1)) fun t s' I' => ⟨.int 0, H, I', ⟨t, rfl⟩, q⟩
    | cel m =>
      have hl : (match cellK S m with | some kvs => some kvs.length | none => (cellL S m).map (·.length)) = some n := hl
      cases hk : cellK S m with
      | some kvs =>
        rw [hk] at hl
        cases hl
        cases hx with
        | @cel a _ hp =>
          obtain ⟨ws, hw, t⟩ := R.cellK hp hk
          have e : ws.length = kvs.length := t.length
          obtain ⟨u, rfl, ru⟩ := vals1 r
          cases ru
          exact d_len I (.inl hw) fun t s' I' => ⟨.int kvs.length, H, I', ⟨t, by rw [e]⟩, q⟩
      | none =>
        rw [hk] at hl
        obtain ⟨xs, h1, h2⟩ := Option.map_eq_some_iff.mp hl
        exact seqs xs h1 h2
    | _ => cases hl
theorem insI_perm (x : Int) : ∀ l : List Int, (insI x l).Perm (x :: l)
  | [] => .refl _
  | y :: r => by
    unfold insI
    split
    · exact .refl _
    · exact ((insI_perm x r).cons y).trans (.swap x y r)
theorem sortI_perm : ∀ l : List Int, (sortI l).Perm l
  | [] => .refl _
  | x :: r => (insI_perm x (sortI r)).trans ((sortI_perm r).cons x)
theorem insI_sorted (x : Int) : ∀ {l : List Int}, l.Pairwise (· ≤ ·) → (insI x l).Pairwise (· ≤ ·)
  | [], _ => by simp [insI]
  | y :: r, h => by
    unfold insI
    obtain ⟨h1, h2⟩ := List.pairwise_cons.mp h
    split
    · rename_i c
      exact List.pairwise_cons.mpr ⟨fun z hz => (List.mem_cons.mp hz).elim (fun e => by subst e; exact c) fun hz => Int.le_trans c (h1 z hz), h⟩
    · rename_i c
      refine List.pairwise_cons.mpr ⟨fun z hz => ?_, insI_sorted x h2⟩
      rcases List.mem_cons.mp ((insI_perm x r).mem_iff.mp hz) with e | hz
      · subst e; omega
      · exact h1 z hz
theorem sortI_sorted : ∀ l : List Int, (sortI l).Pairwise (· ≤ ·)
  | [] => .nil
  | x :: r => insI_sorted x (sortI_sorted r)
theorem sorted_uniq : ∀ {l m : List Int}, l.Perm m → l.Pairwise (· ≤ ·) → m.Pairwise (· ≤ ·) → l = m := fun {l m} h h1 h2 =>
  List.Perm.eq_of_pairwise (fun a b _ _ h1 h2 => Int.le_antisymm h1 h2) h1 h2 h
theorem call_bSorted : CallR X (.builtin "sorted") (rBl X.K al bSorted) := by
  intro pins s σ H xs us Q I r h
  obtain ⟨S, F, p, ds, R, hx, h⟩ := h
  have h0 := one1_of h; clear h; obtain ⟨d, rfl, h⟩ := h0
  have hx0 := hx.one; clear hx; obtain ⟨x, rfl, hx⟩ := hx0
  obtain ⟨ns, hl, h⟩ := ints_of h
  obtain ⟨a, vs, rfl, ha, l, t⟩ := R.list hx hl
  rw [t.ints] at ha
  refine cr_sortedI pins s σ H _ us Q I r ⟨a, ns, rfl, ha, fun ns' q pe so hq => ?_⟩
  have e : ns' = sortI ns := sorted_uniq (pe.trans (sortI_perm ns).symm) so (sortI_sorted ns)
  subst e
  refine settle_new R hq ?_ (isDs_ints _) h
  rw [List.length_map] at l ⊢
  rw [(sortI_perm ns).length_eq]; exact l
theorem call_bList : CallR X (.type "list") (rBl X.K al bList) := by
  intro pins s σ H xs us Q I r h
  obtain ⟨S, F, p, ds, R, hx, h⟩ := h
  have h0 := one1_of h; clear h; obtain ⟨d, rfl, h⟩ := h0
  have hx0 := hx.one; clear hx; obtain ⟨x, rfl, hx⟩ := hx0
  cases hs : seqOf S d with
  | none => rw [hs] at h; exact False.elim h
  | some ds =>
    rw [hs] at h
    obtain ⟨a, vs, rfl, ha, l, t⟩ := R.seq hx hs
    exact call_list_of pins s σ H _ us Q I r ⟨a, vs, rfl, ha, fun q hq => settle_new R hq l t h⟩
theorem call_bTuple : CallR X (.type "tuple") (rBl X.K al bTuple) := by
  intro pins s σ H xs us Q I r h
  obtain ⟨S, F, p, ds, R, hx, h⟩ := h
  have h0 := one1_of h; clear h; obtain ⟨d, rfl, h⟩ := h0
  have hx0 := hx.one; clear hx; obtain ⟨x, rfl, hx⟩ := hx0
  cases hs : seqOf S d with
  | none => rw [hs] at h; exact False.elim h
  | some ds =>
    rw [hs] at h
    have h : OkE X.K F p H Q (.tup ds) S := h
    have lists : ∀ {x}, listOf S d = some ds → IsD X.K F p x d → Vals [x] us → wpAny (model X.prog X.w) X.A (call (.type "tuple") us) (EP X pins σ Q) X.xe s := fun {x} hl hx r => by
      obtain ⟨a, vs, rfl, ha, l, t⟩ := R.list hx hl
      exact call_tuple_of pins s σ H _ us Q I r ⟨a, vs, rfl, .inl ⟨ha, fun q hq => tup_new R hq l t h⟩⟩
    cases d with
    | tup xs =>
      cases hs
      cases hx with
      | @tup a vs _ h1 l1 t1 => exact call_tuple_of pins s σ H _ us Q I r ⟨a, vs, rfl, .inr ⟨same_sqT R.sub h1, h.here R (.tup h1 l1 t1)⟩⟩
    | lst xs => exact lists hs hx r
    | scr xs => exact lists hs hx r
    | cel xs => exact lists hs hx r
    | _ => cases hs
theorem call_bRepr (sm : Sysm X) (hg : X.A.guards = some []) (hu : X.A.units + 70 < cLine) : CallR X (.builtin "repr") (rBl X.K al bRepr) := by
  intro pins s σ H xs us Q I r h
  obtain ⟨S, F, p, ds, R, hx, h⟩ := h
  have h0 := one1_of h; clear h; obtain ⟨d, rfl, h⟩ := h0
  have hx0 := hx.one; clear hx; obtain ⟨x, rfl, hx⟩ := hx0
  cases hs : reprD S d with
  | none => rw [hs] at h; exact False.elim h
  | some t =>
    rw [hs] at h
    have q : Q (.str t) H := OkE.here (d := .str _) h R (.str _)
    unfold reprD at hs
    split at hs
    · rename_i z hz
      split at hs
      · rename_i hc
        cases hs
        simp only [Bool.and_eq_true, decide_eq_true_eq] at hc
        obtain ⟨⟨h1, h2⟩, h3⟩ := hc
        obtain ⟨u, rfl, ru⟩ := vals1 r
        obtain ⟨as, rd, hn⟩ := IsD.reads I sm R d x u z hx ru hz
        rw [LINE_eq] at h2
        cases rd with
        | none => exact PySem.P.repr_of_none ⟨.str _, H, I.tok _, ⟨_, rfl⟩, q⟩
        | bool b => exact PySem.P.repr_of_bool ⟨.str _, H, I.tok _, ⟨_, rfl⟩, q⟩
        | int i t => exact PySem.P.repr_of_int (of_decide_eq_true h1) ⟨.str _, H, I.tok _, ⟨_, rfl⟩, q⟩
        | str y t => exact PySem.P.repr_of_str ⟨.str _, H, I.tok _, ⟨_, rfl⟩, q⟩ h2
        | list a1 a2 a3 a4 => exact repr_of_reads' (.list a1 a2 a3 a4) h1 (fun _ => hn) hg (by omega) (fun _ _ e => e) (fun h' u tk hk => ⟨.str _, H, I.kept hk, ⟨_, rfl⟩, q⟩) h2
        | tuple a1 a2 a3 a4 => exact repr_of_reads' (.tuple a1 a2 a3 a4) h1 (fun _ => hn) hg (by omega) (fun _ _ e => e) (fun h' u tk hk => ⟨.str _, H, I.kept hk, ⟨_, rfl⟩, q⟩) h2
        | dict a1 a2 a3 a4 a5 => exact repr_of_reads' (.dict a1 a2 a3 a4 a5) h1 (fun _ => hn) hg (by omega) (fun _ _ e => e) (fun h' u tk hk => ⟨.str _, H, I.kept hk, ⟨_, rfl⟩, q⟩) h2
      · cases hs
    · cases hs
end
end DI
/-! DI: expressions. -/
namespace DI
open PySem PySem.Spec L2
open PyProof.Rows hiding St
abbrev Post (β : Type) := Hp → List Addr → Hp → β → Store → Prop
def PMono {β : Type} (P : Post β) : Prop := ∀ F p H F1 p1 H1 b S, Nx F p H F1 p1 H1 → P F p H b S → P F1 p1 H1 b S
def OkL (K : PySem.W.Frag) (Q : List V → Hp → Prop) : Post (List D) := fun F p H ds S' => ∀ vs F' p' H', Nx F p H F' p' H' → Hld K S' F' p' H' → IsDs K F' p' vs ds → Q vs H'
def OkB (K : PySem.W.Frag) (Q : Bool → Hp → Prop) : Post Bool := fun F p H b S' => ∀ F' p' H', Nx F p H F' p' H' → Hld K S' F' p' H' → Q b H'
def OkP (K : PySem.W.Frag) (Q : Option Int → Hp → Prop) : Post (Option Int) := fun F p H b S' => ∀ F' p' H', Nx F p H F' p' H' → Hld K S' F' p' H' → Q b H'
def OkG (K : PySem.W.Frag) (Q : St → Hp → Prop) : Post Rho := fun F p H ρ' S' => ∀ σ' F' p' H', Nx F p H F' p' H' → Hld K S' F' p' H' → Slt K F' p' σ' ρ' → Q σ' H'
def OkEE (K : PySem.W.Frag) (Q : VK) : Post D := fun F p H d S' => OkE K F p H Q d S'
theorem OkEE.mono {K : PySem.W.Frag} {Q : VK} : PMono (OkEE K Q) := fun _ _ _ _ _ _ _ _ n h => h.nx n
theorem OkL.mono {K : PySem.W.Frag} {Q : List V → Hp → Prop} : PMono (OkL K Q) := fun _ _ _ _ _ _ _ _ n h vs F' p' H' n' => h vs F' p' H' (n.trans n')
theorem OkB.mono {K : PySem.W.Frag} {Q : Bool → Hp → Prop} : PMono (OkB K Q) := fun _ _ _ _ _ _ _ _ n h F' p' H' n' => h F' p' H' (n.trans n')
theorem OkP.mono {K : PySem.W.Frag} {Q : Option Int → Hp → Prop} : PMono (OkP K Q) := fun _ _ _ _ _ _ _ _ n h F' p' H' n' => h F' p' H' (n.trans n')
theorem OkG.mono {K : PySem.W.Frag} {Q : St → Hp → Prop} : PMono (OkG K Q) := fun _ _ _ _ _ _ _ _ n h σ' F' p' H' n' => h σ' F' p' H' (n.trans n')
/-- what is wanted, from some state that stands for (σ, H) -/
def tR {β : Type} (K : PySem.W.Frag) (W : WX) (f : Rho → Store → O β) (P : Post β) (σ : St) (H : Hp) : Prop :=
  ∃ ρ S F p, Hld K S F p H ∧ Slt K F p σ ρ ∧ (f ρ S).holds (P F p H) (ErP K W F p H)
def tE (K : PySem.W.Frag) (W : WX) (f : EvE) : TE := fun σ H Q => tR K W f (OkEE K Q) σ H
def tL (K : PySem.W.Frag) (W : WX) (f : EvL) : TA := fun σ H Q => tR K W f (OkL K Q) σ H
def tT (K : PySem.W.Frag) (W : WX) (f : EvB) : TT := fun σ H Q => tR K W f (OkB K Q) σ H
def tP (K : PySem.W.Frag) (W : WX) (f : Rho → Store → O (Option Int)) : TO := fun σ H Q => tR K W f (OkP K Q) σ H
def tG (K : PySem.W.Frag) (W : WX) (g : EvG) : TG := fun v σ H Q => ∃ ρ S F p d, Hld K S F p H ∧ Slt K F p σ ρ ∧ IsD K F p v d ∧ (g d ρ S).holds (OkG K Q F p H) (ErP K W F p H)
def tGs (K : PySem.W.Frag) (W : WX) (g : List D → Rho → Store → O Rho) : TGs := fun v σ H Q => ∃ ρ S F p d, Hld K S F p H ∧ Slt K F p σ ρ ∧ IsDs K F p v d ∧ (g d ρ S).holds (OkG K Q F p H) (ErP K W F p H)
section
variable {K : PySem.W.Frag} {W : WX} {β : Type} {P : Post β} {ρ : Rho} {S : Store} {F : Hp} {p : List Addr} {H : Hp} {σ : St}
theorem holds_nx (m : PMono P) {F1 : Hp} {p1 : List Addr} {H1 : Hp} (n : Nx F p H F1 p1 H1) {o : O β} (h : o.holds (P F p H) (ErP K W F p H)) : o.holds (P F1 p1 H1) (ErP K W F1 p1 H1) :=
  O.holds_mono h (fun a S q => m _ _ _ _ _ _ a S n q) fun x ρ S q => q.nx n
theorem seqE (m : PMono P) {f : EvE} {k : D → Store → O β} (R : Hld K S F p H) (L : Slt K F p σ ρ) (h : ((f ρ S).bind k).holds (P F p H) (ErP K W F p H)) {Q : VK}
    (q : ∀ d S1 v F1 p1 H1, Nx F p H F1 p1 H1 → Hld K S1 F1 p1 H1 → Slt K F1 p1 σ ρ → IsD K F1 p1 v d → (k d S1).holds (P F1 p1 H1) (ErP K W F1 p1 H1) → Q v H1) : tE K W f σ H Q :=
  ⟨ρ, S, F, p, R, L, O.holds_mono (O.bind_holds.mp h) (fun d S1 h v F1 p1 H1 n R1 hd => q d S1 v F1 p1 H1 n R1 (L.nx n) hd (holds_nx m n h)) fun _ _ _ h => h⟩
theorem seqL (m : PMono P) {f : EvL} {k : List D → Store → O β} (R : Hld K S F p H) (L : Slt K F p σ ρ) (h : ((f ρ S).bind k).holds (P F p H) (ErP K W F p H)) {Q : List V → Hp → Prop}
    (q : ∀ d S1 v F1 p1 H1, Nx F p H F1 p1 H1 → Hld K S1 F1 p1 H1 → Slt K F1 p1 σ ρ → IsDs K F1 p1 v d → (k d S1).holds (P F1 p1 H1) (ErP K W F1 p1 H1) → Q v H1) : tL K W f σ H Q :=
  ⟨ρ, S, F, p, R, L, O.holds_mono (O.bind_holds.mp h) (fun d S1 h v F1 p1 H1 n R1 hd => q d S1 v F1 p1 H1 n R1 (L.nx n) hd (holds_nx m n h)) fun _ _ _ h => h⟩
theorem seqT (m : PMono P) {f : EvB} {k : Bool → Store → O β} (R : Hld K S F p H) (L : Slt K F p σ ρ) (h : ((f ρ S).bind k).holds (P F p H) (ErP K W F p H)) {Q : Bool → Hp → Prop}
    (q : ∀ d S1 F1 p1 H1, Nx F p H F1 p1 H1 → Hld K S1 F1 p1 H1 → Slt K F1 p1 σ ρ → (k d S1).holds (P F1 p1 H1) (ErP K W F1 p1 H1) → Q d H1) : tT K W f σ H Q :=
  ⟨ρ, S, F, p, R, L, O.holds_mono (O.bind_holds.mp h) (fun d S1 h F1 p1 H1 n R1 => q d S1 F1 p1 H1 n R1 (L.nx n) (holds_nx m n h)) fun _ _ _ h => h⟩
theorem seqP (m : PMono P) {f : Rho → Store → O (Option Int)} {k : Option Int → Store → O β} (R : Hld K S F p H) (L : Slt K F p σ ρ) (h : ((f ρ S).bind k).holds (P F p H) (ErP K W F p H)) {Q : Option Int → Hp → Prop}
    (q : ∀ d S1 F1 p1 H1, Nx F p H F1 p1 H1 → Hld K S1 F1 p1 H1 → Slt K F1 p1 σ ρ → (k d S1).holds (P F1 p1 H1) (ErP K W F1 p1 H1) → Q d H1) : tP K W f σ H Q :=
  ⟨ρ, S, F, p, R, L, O.holds_mono (O.bind_holds.mp h) (fun d S1 h F1 p1 H1 n R1 => q d S1 F1 p1 H1 n R1 (L.nx n) (holds_nx m n h)) fun _ _ _ h => h⟩
theorem seqG (m : PMono P) {g : EvG} {v : V} {d : D} {k : Rho → Store → O β} (R : Hld K S F p H) (L : Slt K F p σ ρ) (hd : IsD K F p v d) (h : ((g d ρ S).bind k).holds (P F p H) (ErP K W F p H)) {Q : St → Hp → Prop}
    (q : ∀ ρ1 S1 σ1 F1 p1 H1, Nx F p H F1 p1 H1 → Hld K S1 F1 p1 H1 → Slt K F1 p1 σ1 ρ1 → (k ρ1 S1).holds (P F1 p1 H1) (ErP K W F1 p1 H1) → Q σ1 H1) : tG K W g v σ H Q :=
  ⟨ρ, S, F, p, d, R, L, hd, O.holds_mono (O.bind_holds.mp h) (fun d S1 h σ1 F1 p1 H1 n R1 L1 => q d S1 σ1 F1 p1 H1 n R1 L1 (holds_nx m n h)) fun _ _ _ h => h⟩
theorem holds_E1 {α : Type} {o : O α} {Q : α → Store → Prop} {E : Ex → Rho → Store → Prop} (h : o.holds Q E) (ne : ∀ x ρ S, o ≠ .er x ρ S) : o.holds Q E1 := by
  cases o with
  | ok a S => exact h
  | er x ρ S => exact absurd rfl (ne x ρ S)
  | no => exact h
theorem ofRes_ne {al : Bool} {r : Option Res} {S : Store} : ∀ x ρ S', ofRes al r S ≠ .er x ρ S' := by
  intro x ρ S' h
  cases r with
  | none => cases h
  | some r =>
    cases r with
    | d _ => cases h
    | new _ => cases al <;> cases h
theorem ofB_ne {r : Option Bool} {S : Store} : ∀ x ρ S', ofB r S ≠ .er x ρ S' := by
  intro x ρ S' h
  cases r <;> cases h
theorem settle_ne {al : Bool} {r : Res} {S : Store} : ∀ x ρ S', settle al r S ≠ .er x ρ S' := by
  intro x ρ S' h
  cases r with
  | d _ => cases h
  | new _ => cases al <;> cases h
end
theorem PE.imp {X : Cx} {e : Expr} {t t' : TE} (h : PE X e t) (i : ∀ σ H Q, t' σ H Q → t σ H Q) : PE X e t' := ⟨fun pins s σ H Q I q => h.run pins s σ H Q I (i σ H Q q)⟩
theorem PA.imp {X : Cx} {e : List Expr} {t t' : TA} (h : PA X e t) (i : ∀ σ H Q, t' σ H Q → t σ H Q) : PA X e t' := ⟨fun pos pins s σ H Q I q => h.run pos pins s σ H Q I (i σ H Q q)⟩
theorem PK.imp {X : Cx} {e : List Keyword} {t t' : TA} (h : PK X e t) (i : ∀ σ H Q, t' σ H Q → t σ H Q) : PK X e t' := ⟨fun pos pins s σ H Q I q => h.run pos pins s σ H Q I (i σ H Q q)⟩
theorem PT.imp {X : Cx} {e : Expr} {t t' : TT} (h : PT X e t) (i : ∀ σ H Q, t' σ H Q → t σ H Q) : PT X e t' := ⟨fun pins s σ H Q I q => h.run pins s σ H Q I (i σ H Q q)⟩
theorem PW.imp {X : Cx} {e : Expr} {t t' : TT} (h : PW X e t) (i : ∀ σ H Q, t' σ H Q → t σ H Q) : PW X e t' := ⟨fun wh pins s σ H Q I q => h.run wh pins s σ H Q I (i σ H Q q)⟩
theorem PO.imp {X : Cx} {e : Option Expr} {t t' : TO} (h : PO X e t) (i : ∀ σ H Q, t' σ H Q → t σ H Q) : PO X e t' := ⟨fun pins s σ H Q I q => h.run pins s σ H Q I (i σ H Q q)⟩
theorem PG.imp {X : Cx} {e : Expr} {t t' : TG} (h : PG X e t) (i : ∀ v σ H Q, t' v σ H Q → t v σ H Q) : PG X e t' := ⟨fun pins s σ H v u Q I r q => h.run pins s σ H v u Q I r (i v σ H Q q)⟩
theorem PGs.imp {X : Cx} {e : List Expr} {t t' : TGs} (h : PGs X e t) (i : ∀ v σ H Q, t' v σ H Q → t v σ H Q) : PGs X e t' := ⟨fun pins s σ H v u Q I r q => h.run pins s σ H v u Q I r (i v σ H Q q)⟩
section
variable {X : Cx} {W : WX} {a b c : Expr} {f g h : EvE} {pos : Pos} {al : Bool}
/-! ### names and constants -/
theorem s_c {e : Expr} {v : V} {d : D} (h : PE X e (tC v)) (hd : ∀ F p, IsD X.K F p v d) : PE X e (tE X.K W (eC d)) :=
  PE.imp h fun σ H Q ⟨ρ, S, F, p, R, L, q⟩ => OkE.here (d := d) q R (hd F p)
theorem s_no {e : Expr} {α : Type} : PE X e (tE X.K W eNo) := ⟨fun _ _ _ _ _ _ ⟨_, _, _, _, _, _, q⟩ => False.elim q⟩
theorem s_var {i : Nat} {x : Str} (hN : X.N[i]? = some x) (hv : Vis X.env.scope x) (hd : (x == ("__debug__" : Str)) = false) (hcd : (x == ("__classdict__" : Str)) = false) : PE X (.Name x pos) (tE X.K W (eVar i)) :=
  PE.imp (pe_var hN hv hd hcd) fun σ H Q ⟨ρ, S, F, p, R, L, q⟩ => by
    unfold eVar at q
    split at q
    · rename_i d hd
      obtain ⟨v, h1, h2⟩ := L.at_ i d hd
      exact ⟨v, h1, OkE.here (d := d) q R h2⟩
    · exact False.elim q
/-! ### lists of expressions -/
theorem s_nil : PA X [] (tL X.K W eNil) := PA.imp pa_nil fun σ H Q ⟨ρ, S, F, p, R, L, q⟩ => q [] F p H Nx.refl R .nil
theorem cons_imp {te : TE} {tr : TA} {g : EvL} (he : ∀ σ H Q, tE X.K W f σ H Q → te σ H Q) (hr : ∀ σ H Q, tL X.K W g σ H Q → tr σ H Q) (mono : ∀ σ H Q Q', (∀ v H, Q v H → Q' v H) → te σ H Q → te σ H Q') : True := trivial
theorem s_cons {es : List Expr} {g : EvL} (ha : PE X a (tE X.K W f)) (hr : PA X es (tL X.K W g)) (hs : starEach (a :: es) X.env = (false, eval a X.env) :: starEach es X.env) : PA X (a :: es) (tL X.K W (eCons f g)) :=
  PA.imp (pa_cons ha hr hs) fun σ H Q ⟨ρ, S, F, p, R, L, q⟩ => seqE OkL.mono R L q fun d S1 v F1 p1 H1 n R1 L1 hd q =>
    seqL OkL.mono R1 L1 q fun ds S2 vs F2 p2 H2 n2 R2 L2 hds q => q (v :: vs) F2 p2 H2 Nx.refl R2 (.cons (hd.nx n2) hds)
theorem s_knil : PK X [] (tL X.K W eNil) := PK.imp pk_nil fun σ H Q ⟨ρ, S, F, p, R, L, q⟩ => q [] F p H Nx.refl R .nil
theorem s_kcons {nm : Option Str} {kpos : Pos} {kws : List Keyword} {g : EvL} (ha : PE X a (tE X.K W f)) (hr : PK X kws (tL X.K W g)) : PK X (⟨nm, a, kpos⟩ :: kws) (tL X.K W (eCons f g)) :=
  PK.imp (pk_cons ha hr) fun σ H Q ⟨ρ, S, F, p, R, L, q⟩ => seqE OkL.mono R L q fun d S1 v F1 p1 H1 n R1 L1 hd q =>
    seqL OkL.mono R1 L1 q fun ds S2 vs F2 p2 H2 n2 R2 L2 hds q => q (v :: vs) F2 p2 H2 Nx.refl R2 (.cons (hd.nx n2) hds)
theorem s_lst {es : List Expr} {g : EvL} (ha : PA X es (tL X.K W g)) : PE X (.List es pos) (tE X.K W (eLst al g)) :=
  PE.imp (pe_lst ha) fun σ H Q ⟨ρ, S, F, p, R, L, q⟩ => seqL OkEE.mono R L q fun ds S1 vs F1 p1 H1 n R1 L1 hd q => by
    by_cases hl : ds.length ≤ LINE
    · rw [if_pos hl] at q
      exact ⟨by rw [hd.length, ← LINE_eq]; exact hl, fun a ha => settle_new R1 ha hl hd q⟩
    · rw [if_neg hl] at q
      exact False.elim q
theorem s_tup {es : List Expr} {k : Nat} {g : EvL} (ha : PA X es (tL X.K W g)) : PE X (.Tuple es k pos) (tE X.K W (eTup g)) :=
  PE.imp (pe_tup ha) fun σ H Q ⟨ρ, S, F, p, R, L, q⟩ => seqL OkEE.mono R L q fun ds S1 vs F1 p1 H1 n R1 L1 hd q => by
    by_cases hl : ds.length ≤ LINE
    · rw [if_pos hl] at q
      exact ⟨by rw [hd.length, ← LINE_eq]; exact hl, fun a ha => tup_new R1 ha hl hd q⟩
    · rw [if_neg hl] at q
      exact False.elim q
theorem s_emp : PE X (.Dict [] [] pos) (tE X.K W (eC .emp)) := PE.imp pe_dnewK fun σ H Q ⟨ρ, S, F, p, R, L, q⟩ a ha => by
  obtain ⟨R', n⟩ := R.val (o := .dK []) ha
  exact (show OkE X.K F p H Q .emp S from q) _ _ _ _ n R' (.emp upd_same)
def eDct : EvE := fun _ S => .ok (.cel S.length) (S ++ [some (.dct [])])
theorem s_dct : PE X (.Dict [] [] pos) (tE X.K W eDct) := PE.imp pe_dnewK fun σ H Q ⟨ρ, S, F, p, R, L, q⟩ a ha => by
  obtain ⟨R', n⟩ := R.new (o := .dK []) (c := .dct []) ha fun H' e => ⟨[], e, .nil⟩
  refine (show OkE X.K F p H Q (.cel S.length) (S ++ [some (.dct [])]) from q) _ _ _ _ n R' (.cel ?_)
  rw [← R.len, List.getElem?_append_right (Nat.le_refl _)]
  simp
/-! ### operators -/
theorem s_bin {op : Operator} (ha : PE X a (tE X.K W f)) (hb : PE X b (tE X.K W g)) : PE X (.BinOp a op b pos) (tE X.K W (eBin al op f g)) :=
  PE.imp (pe_op (op_binD (al := al)) ha hb) fun σ H Q ⟨ρ, S, F, p, R, L, q⟩ => seqE OkEE.mono R L q fun d S1 v F1 p1 H1 n R1 L1 hd q =>
    seqE OkEE.mono R1 L1 q fun e S2 u F2 p2 H2 n2 R2 L2 he q => ⟨S2, F2, p2, d, e, R2, hd.nx n2, he, holds_E1 q ofRes_ne⟩
theorem s_neg (ha : PE X a (tE X.K W f)) : PE X (.UnaryOp .USub a pos) (tE X.K W (eNeg f)) :=
  PE.imp (pe_un un_neg ha) fun σ H Q ⟨ρ, S, F, p, R, L, q⟩ => seqE OkEE.mono R L q fun d S1 v F1 p1 H1 n R1 L1 hd q => by
    cases d with
    | int i => cases hd; exact ⟨i, rfl, OkE.here (d := .int (-i)) q R1 (.int _)⟩
    | _ => exact False.elim q
theorem s_cmp (sm : Sysm X) (hu : X.A.units + 70 < cLine) {op : CmpOp} (ha : PE X a (tE X.K W f)) (hb : PE X b (tE X.K W g)) (hm : behindInMarks op b = false) : PE X (.Compare a [op] [b] pos) (tE X.K W (eCmp op f g)) :=
  PE.imp (pe_cmpR (op_cmpD sm hu) ha hb hm) fun σ H Q ⟨ρ, S, F, p, R, L, q⟩ => seqE OkEE.mono R L q fun d S1 v F1 p1 H1 n R1 L1 hd q =>
    seqE OkEE.mono R1 L1 q fun e S2 u F2 p2 H2 n2 R2 L2 he q => ⟨S2, F2, p2, d, e, R2, hd.nx n2, he, holds_E1 q ofB_ne⟩
theorem s_and (ha : PE X a (tE X.K W f)) {rest : List Expr} (hb : PE X (.BoolOp .And (b :: rest) pos) (tE X.K W g)) : PE X (.BoolOp .And (a :: b :: rest) pos) (tE X.K W (eAnd f g)) :=
  PE.imp (pe_and ha hb) fun σ H Q ⟨ρ, S, F, p, R, L, q⟩ => seqE OkEE.mono R L q fun d S1 v F1 p1 H1 n R1 L1 hd q => by
    cases d with
    | bl c =>
      cases hd
      refine ⟨c, rfl, ?_⟩
      cases c with
      | true => exact ⟨ρ, S1, F1, p1, R1, L1, q⟩
      | false => exact OkE.here (d := .bl false) q R1 (.bl _)
    | _ => exact False.elim q
theorem s_or (ha : PE X a (tE X.K W f)) {rest : List Expr} (hb : PE X (.BoolOp .Or (b :: rest) pos) (tE X.K W g)) : PE X (.BoolOp .Or (a :: b :: rest) pos) (tE X.K W (eOr f g)) :=
  PE.imp (pe_or ha hb) fun σ H Q ⟨ρ, S, F, p, R, L, q⟩ => seqE OkEE.mono R L q fun d S1 v F1 p1 H1 n R1 L1 hd q => by
    cases d with
    | bl c =>
      cases hd
      refine ⟨c, rfl, ?_⟩
      cases c with
      | false => exact ⟨ρ, S1, F1, p1, R1, L1, q⟩
      | true => exact OkE.here (d := .bl true) q R1 (.bl _)
    | _ => exact False.elim q
theorem s_not (ha : PE X a (tE X.K W f)) : PE X (.UnaryOp .Not a pos) (tE X.K W (eNot f)) :=
  PE.imp (pe_not ha) fun σ H Q ⟨ρ, S, F, p, R, L, q⟩ => seqE OkEE.mono R L q fun d S1 v F1 p1 H1 n R1 L1 hd q => by
    cases d with
    | bl c => cases hd; exact ⟨c, rfl, OkE.here (d := .bl (!c)) q R1 (.bl _)⟩
    | _ => exact False.elim q
theorem s_if {t : EvB} (hc : PT X c (tT X.K W t)) (ha : PE X a (tE X.K W f)) (hb : PE X b (tE X.K W g)) : PE X (.IfExp c a b pos) (tE X.K W (eIf t f g)) :=
  PE.imp (pe_ifExp hc ha hb) fun σ H Q ⟨ρ, S, F, p, R, L, q⟩ => seqT OkEE.mono R L q fun d S1 F1 p1 H1 n R1 L1 q => by
    cases d with
    | true => exact ⟨ρ, S1, F1, p1, R1, L1, q⟩
    | false => exact ⟨ρ, S1, F1, p1, R1, L1, q⟩
theorem chain_imp {op op' : CmpOp} (σ : St) (H : Hp) (Q : VK) (z : tE X.K W (eChain op op' f g h) σ H Q) : tChain (rBo X.K fun S => cmpD S op) (rBo X.K fun S => cmpD S op') (tE X.K W f) (tE X.K W g) (tE X.K W h) σ H Q := by
  obtain ⟨ρ, S, F, p, R, L, q⟩ := z
  exact seqE OkEE.mono R L q fun d S1 v F1 p1 H1 n R1 L1 hd q =>
    seqE OkEE.mono R1 L1 q fun e S2 u F2 p2 H2 n2 R2 L2 he q => by
      refine ⟨S2, F2, p2, d, e, R2, hd.nx n2, he, ?_⟩
      cases hb : cmpD S2 op d e with
      | none => simp only [hb] at q; exact False.elim q
      | some k =>
        simp only [hb] at q
        rw [show ((fun S => cmpD S op) S2 d e) = some k from hb]
        intro z F3 p3 H3 n3 R3 hz
        cases hz
        refine ⟨k, rfl, ?_⟩
        cases k with
        | true =>
          refine iteT ?_
          refine seqE OkEE.mono R3 (L2.nx n3) (holds_nx OkEE.mono n3 q) fun w S4 y F4 p4 H4 n4 R4 L4 hw q => ?_
          exact ⟨S4, F4, p4, e, w, R4, (he.nx n3).nx n4, hw, holds_E1 q ofB_ne⟩
        | false =>
          refine iteF ?_
          exact OkE.here (d := .bl false) (holds_nx (W := W) OkEE.mono n3 (o := O.ok (D.bl false) S2) q) R3 (.bl _)
theorem s_chain (sm : Sysm X) (hu : X.A.units + 70 < cLine) {op op' : CmpOp} (ha : PE X a (tE X.K W f)) (hb : PE X b (tE X.K W g)) (hc : PE X c (tE X.K W h)) (h2 : behindInMarks op' c = false) : PE X (.Compare a [op, op'] [b, c] pos) (tE X.K W (eChain op op' f g h)) :=
  PE.imp (pe_chain (op_cmpD sm hu) (op_cmpD sm hu) ha hb hc h2) chain_imp
/-! ### tests -/
theorem tval_imp {te : TE} (i : ∀ σ H Q, tE X.K W f σ H Q → te σ H Q) (σ : St) (H : Hp) (Q : Bool → Hp → Prop) (z : tT X.K W (tVal f) σ H Q) : te σ H fun x H' => ∃ k, x = .bl k ∧ Q k H' := by
  obtain ⟨ρ, S, F, p, R, L, q⟩ := z
  refine i _ _ _ (seqE OkB.mono R L q fun d S1 v F1 p1 H1 n R1 L1 hd q => ?_)
  cases d with
  | bl c => cases hd; exact ⟨c, rfl, q F1 p1 H1 Nx.refl R1⟩
  | _ => exact False.elim q
theorem s_tval {e : Expr} (h : PE X e (tE X.K W f)) (he : ∀ whole, isTrue e X.env whole = (do let v ← whole; standAt e.pos; holding [v] (truthy v))) : PT X e (tT X.K W (tVal f)) :=
  PT.imp (pt_val h he) fun σ H Q z => tval_imp (fun _ _ _ z => z) σ H Q z
theorem s_tcmp (sm : Sysm X) (hu : X.A.units + 70 < cLine) {op : CmpOp} (ha : PE X a (tE X.K W f)) (hb : PE X b (tE X.K W g)) (hm : behindInMarks op b = false) : PT X (.Compare a [op] [b] pos) (tT X.K W (tVal (eCmp op f g))) :=
  PT.imp (pt_cmpR (op_cmpD sm hu) ha hb hm) fun σ H Q z => tval_imp (fun σ H Q ⟨ρ, S, F, p, R, L, q⟩ => seqE OkEE.mono R L q fun d S1 v F1 p1 H1 n R1 L1 hd q =>
    seqE OkEE.mono R1 L1 q fun e S2 u F2 p2 H2 n2 R2 L2 he q => ⟨S2, F2, p2, d, e, R2, hd.nx n2, he, holds_E1 q ofB_ne⟩) σ H Q z
theorem s_tchain (sm : Sysm X) (hu : X.A.units + 70 < cLine) {op op' : CmpOp} (ha : PE X a (tE X.K W f)) (hb : PE X b (tE X.K W g)) (hc : PE X c (tE X.K W h)) (h2 : behindInMarks op' c = false) : PT X (.Compare a [op, op'] [b, c] pos) (tT X.K W (tVal (eChain op op' f g h))) :=
  PT.imp (pt_chain (op_cmpD sm hu) (op_cmpD sm hu) ha hb hc h2) fun σ H Q z => tval_imp chain_imp σ H Q z
variable {t u : EvB} {rest : List Expr}
theorem s_and1 (ha : PT X a (tT X.K W t)) : PW X (.BoolOp .And [a] pos) (tT X.K W t) := pw_and1 ha
theorem s_or1 (ha : PT X a (tT X.K W t)) : PW X (.BoolOp .Or [a] pos) (tT X.K W t) := pw_or1 ha
theorem s_tand (ha : PT X a (tT X.K W t)) (hb : PW X (.BoolOp .And (b :: rest) pos) (tT X.K W u)) : PW X (.BoolOp .And (a :: b :: rest) pos) (tT X.K W (tAndE t u)) :=
  PW.imp (pw_and ha hb) fun σ H Q ⟨ρ, S, F, p, R, L, q⟩ => seqT OkB.mono R L q fun d S1 F1 p1 H1 n R1 L1 q => by
    cases d with
    | true => exact iteT ⟨ρ, S1, F1, p1, R1, L1, q⟩
    | false => exact iteF (q F1 p1 H1 Nx.refl R1)
theorem s_tor (ha : PT X a (tT X.K W t)) (hb : PW X (.BoolOp .Or (b :: rest) pos) (tT X.K W u)) : PW X (.BoolOp .Or (a :: b :: rest) pos) (tT X.K W (tOrE t u)) :=
  PW.imp (pw_or ha hb) fun σ H Q ⟨ρ, S, F, p, R, L, q⟩ => seqT OkB.mono R L q fun d S1 F1 p1 H1 n R1 L1 q => by
    cases d with
    | false => exact iteF ⟨ρ, S1, F1, p1, R1, L1, q⟩
    | true => exact iteT (q F1 p1 H1 Nx.refl R1)
theorem s_tnot (ha : PT X a (tT X.K W t)) : PT X (.UnaryOp .Not a pos) (tT X.K W (tNotE t)) :=
  PT.imp (pt_not ha) fun σ H Q ⟨ρ, S, F, p, R, L, q⟩ => seqT OkB.mono R L q fun d S1 F1 p1 H1 n R1 L1 q => q F1 p1 H1 Nx.refl R1
/-! ### places, cuts -/
theorem s_get (hu : X.A.units + 1 < cLine) (ha : PE X a (tE X.K W f)) (hb : PE X b (tE X.K W g)) (hs : PlainIx b) : PE X (.Subscript a b pos) (tE X.K W (eGet f g)) :=
  PE.imp (pe_ix (ix_getD hu) ha hb hs) fun σ H Q ⟨ρ, S, F, p, R, L, q⟩ => seqE OkEE.mono R L q fun d S1 v F1 p1 H1 n R1 L1 hd q =>
    seqE OkEE.mono R1 L1 q fun e S2 u F2 p2 H2 n2 R2 L2 he q => by
      cases hg : getD S2 d e with
      | none => simp only [hg] at q; exact False.elim q
      | some z => simp only [hg] at q; exact ⟨S2, F2, p2, d, e, z, R2, hd.nx n2, he, hg, q⟩
theorem s_pnone : PO X none (tP X.K W pNone) := PO.imp po_none fun σ H Q ⟨ρ, S, F, p, R, L, q⟩ => q F p H Nx.refl R
theorem s_psome (ha : PE X a (tE X.K W f)) : PO X (some a) (tP X.K W (pSome f)) :=
  PO.imp (po_some ha) fun σ H Q ⟨ρ, S, F, p, R, L, q⟩ => seqE OkP.mono R L q fun d S1 v F1 p1 H1 n R1 L1 hd q => by
    cases d with
    | int i => cases hd; exact ⟨i, rfl, q F1 p1 H1 Nx.refl R1⟩
    | _ => exact False.elim q
theorem s_slice {lo hi : Option Expr} {l k : Rho → Store → O (Option Int)} {p2 : Pos} (ha : PE X a (tE X.K W f)) (hl : PO X lo (tP X.K W l)) (hh : PO X hi (tP X.K W k)) : PE X (.Subscript a (.Slice lo hi none p2) pos) (tE X.K W (eSlice al f l k)) :=
  PE.imp (pe_slice (sl_D (al := al)) ha hl hh) fun σ H Q ⟨ρ, S, F, p, R, L, q⟩ => seqE OkEE.mono R L q fun d S1 v F1 p1 H1 n R1 L1 hd q =>
    seqP OkEE.mono R1 L1 q fun lo S2 F2 p2 H2 n2 R2 L2 q => seqP OkEE.mono R2 L2 q fun hi S3 F3 p3 H3 n3 R3 L3 q => ⟨S3, F3, p3, d, R3, (hd.nx n2).nx n3, holds_E1 q ofRes_ne⟩
/-! ### calls -/
theorem s_blt {id : String} {bf : Store → List D → Option Res} {x : Str} {p0 : Pos} {es : List Expr} {gl : EvL} (hc : CallR X (.builtin id) (rBl X.K al bf)) (hg : Gl X x) (hm : X.mg x = none) (hv : bootBuiltins x = some (.builtin id)) (ha : PA X (a :: es) (tL X.K W gl))
    (hn : x ≠ "__name__") (hdb : (x == ("__debug__" : Str)) = false) (he : starEach (a :: es) X.env = (false, eval a X.env) :: starEach es X.env) (hpl : (backTo pos (starEach es X.env)).any (·.1) = false) : PE X (.Call (.Name x p0) (a :: es) [] pos) (tE X.K W (eBlt al bf gl)) :=
  PE.imp (pe_callB hc hg hm hv ha hn hdb he hpl) fun σ H Q ⟨ρ, S, F, p, R, L, q⟩ => seqL OkEE.mono R L q fun ds S1 vs F1 p1 H1 n R1 L1 hd q => ⟨S1, F1, p1, ds, R1, hd, holds_E1 q ofRes_ne⟩
theorem s_bty {T : String} {bf : Store → List D → Option Res} {x : Str} {p0 : Pos} {es : List Expr} {gl : EvL} (hc : CallR X (.type T) (rBl X.K al bf)) (hg : Gl X x) (hm : X.mg x = none) (hv : bootBuiltins x = some (.type T)) (ha : PA X (a :: es) (tL X.K W gl))
    (hn : x ≠ "__name__") (hdb : (x == ("__debug__" : Str)) = false) (he : starEach (a :: es) X.env = (false, eval a X.env) :: starEach es X.env) (hpl : (backTo pos (starEach es X.env)).any (·.1) = false) : PE X (.Call (.Name x p0) (a :: es) [] pos) (tE X.K W (eBlt al bf gl)) :=
  PE.imp (pe_callTy hc hg hm hv ha hn hdb he hpl) fun σ H Q ⟨ρ, S, F, p, R, L, q⟩ => seqL OkEE.mono R L q fun ds S1 vs F1 p1 H1 n R1 L1 hd q => ⟨S1, F1, p1, ds, R1, hd, holds_E1 q ofRes_ne⟩
end
end DI
/-! DI: isinstance, walks. -/
namespace DI
open PySem PySem.Spec L2
open PyProof.Rows hiding St
/-! ### isinstance -/
def okTys : List String := ["int", "bool", "str", "tuple", "list", "dict"]
theorem kit_sub {K : PySem.W.Frag} {d : D} {S : Store} {a b : String} (ha : tyOf S d = some a) (hb : b ∈ okTys) : PySem.W.kitOne K (.type a) (.type b) = some (isSub a b) := by
  have h : a ∈ ["NoneType", "bool", "int", "str", "list", "tuple", "dict"] := by
    cases d with
    | cel n =>
      have ha : (match S[n]? with | some (some (.lst _)) => some "list" | some (some (.dct _)) => some "dict" | _ => none) = some a := ha
      split at ha <;> cases ha <;> simp
    | _ => cases ha; simp
  simp only [List.mem_cons, List.not_mem_nil, or_false] at h
  simp only [okTys, List.mem_cons, List.not_mem_nil, or_false] at hb
  rcases h with rfl | rfl | rfl | rfl | rfl | rfl | rfl <;> rcases hb with rfl | rfl | rfl | rfl | rfl | rfl <;> exact kit_ty (by decide +kernel)
theorem kit_any {K : PySem.W.Frag} {d : D} {S : Store} {a : String} (ha : tyOf S d = some a) : ∀ {bs : List String}, (∀ b ∈ bs, b ∈ okTys) → PySem.W.kitAny K (.type a) (bs.map .type) = some (bs.any (isSub a))
  | [], _ => rfl
  | b :: r, h => by
    rw [List.map_cons, List.any_cons]
    refine kitAny_cons (kit_sub ha (h b List.mem_cons_self)) (fun e => ?_) (fun e => by rw [e]; rfl)
    rw [e, Bool.false_or]
    exact kit_any ha fun c hc => h c (List.mem_cons_of_mem _ hc)
theorem tyX_of {K : PySem.W.Frag} {S : Store} {F : Hp} {p : List Addr} {H : Hp} {x : V} {d : D} {a : String} (R : Hld K S F p H) (h : IsD K F p x d) (ha : tyOf S d = some a) : TyX K H x (.type a) := by
  cases h with
  | non => cases ha; exact .base .non
  | bl b => cases ha; exact .base (.bl b)
  | int b => cases ha; exact .base (.int b)
  | str b => cases ha; exact .base (.str b)
  | lst h _ _ => cases ha; exact .base (.lst (R.sub _ _ h))
  | tup h _ _ =>
    cases ha
    rcases h with (h | ⟨o, h⟩) | ⟨o, its, n, h, hc, _⟩
    · exact .base (.tup (R.sub _ _ h))
    · exact .fTuple (R.sub _ _ h)
    · exact .kTuple h hc
  | scr h _ =>
    cases ha
    rcases h with (h | ⟨o, h⟩) | ⟨o, its, n, h, hc, _⟩
    · exact .base (.lst (R.sub _ _ h))
    · exact .base (.frz (R.sub _ _ h))
    · exact .kList h hc
  | emp h => cases ha; exact .base (.dK (R.sub _ _ h))
  | @cel a0 n hp =>
    have ha : (match S[n]? with | some (some (.lst _)) => some "list" | some (some (.dct _)) => some "dict" | _ => none) = some a := ha
    split at ha
    · rename_i xs hs
      cases ha
      obtain ⟨_, vs, h1, _⟩ := R.cell n a0 _ hp hs
      exact .base (.lst h1)
    · rename_i xs hs
      cases ha
      obtain ⟨_, vs, h1, _⟩ := R.cell n a0 _ hp hs
      exact .base (.dK h1)
    · cases ha
section
variable {X : Cx} {W : WX} {a b c : Expr} {f g h : EvE} {pos : Pos} {al : Bool}
theorem s_isi {T : String} {x : Str} {p0 px : Pos} (hT : T ∈ okTys) (ha : PE X a (tE X.K W f)) (hg : Gl X "isinstance") (hm : X.mg "isinstance" = none) (hgx : Gl X x) (hmx : X.mg x = none) (hv : bootBuiltins x = some (.type T)) (hn : x ≠ "__name__") (hdb : (x == ("__debug__" : Str)) = false)
    (he : starEach [a, .Name x px] X.env = (false, eval a X.env) :: starEach [.Name x px] X.env) : PE X (.Call (.Name "isinstance" p0) [a, .Name x px] [] pos) (tE X.K W (eIsi f [T])) :=
  PE.imp (pe_callB call_isi hg hm (by decide +kernel) (pa_cons ha (pa_cons (pe_bltn (v := .ty T) hgx hmx hv rfl hn hdb) pa_nil rfl) he) (by decide) (by decide) he rfl) fun σ H Q ⟨ρ, S, F, p, R, L, q⟩ => seqE OkEE.mono R L q fun d S1 v F1 p1 H1 n R1 L1 hd q => by
    obtain ⟨b, hb, q⟩ := ofB_some q
    obtain ⟨t, ht, rfl⟩ := Option.map_eq_some_iff.mp (show (tyOf S1 d).map _ = some b from hb)
    refine ⟨v, .ty T, .type t, .type T, isSub t T, rfl, .ty T, tyX_of R1 hd ht, kit_sub ht hT, ?_⟩
    have e : ([T].any fun b => isSub t b) = isSub t T := by simp
    rw [e] at q
    exact OkE.here (d := .bl _) q R1 (.bl _)
/-- the names of built-in types, as a display -/
inductive TyNames (X : Cx) : List Expr → List String → Prop where
  | nil : TyNames X [] []
  | cons {x : Str} {T : String} {px : Pos} {es : List Expr} {Ts : List String} (hT : T ∈ okTys) (hgx : Gl X x) (hmx : X.mg x = none) (hv : bootBuiltins x = some (.type T)) (hn : x ≠ "__name__") (hdb : (x == ("__debug__" : Str)) = false) (r : TyNames X es Ts) : TyNames X (.Name x px :: es) (T :: Ts)
def tTys (Ts : List String) : TA := fun _ H Q => Q (Ts.map V.ty) H
theorem TyNames.pa {X : Cx} : ∀ {es : List Expr} {Ts : List String}, TyNames X es Ts → PA X es (tTys Ts)
  | _, _, .nil => PA.imp pa_nil fun σ H Q q => q
  | _, _, .cons (T := T) hT hgx hmx hv hn hdb r => PA.imp (pa_cons (pe_bltn (v := .ty T) hgx hmx hv rfl hn hdb) r.pa rfl) fun σ H Q q => q
theorem TyNames.ok {X : Cx} : ∀ {es : List Expr} {Ts : List String}, TyNames X es Ts → ∀ b ∈ Ts, b ∈ okTys
  | _, _, .nil, _, h => by cases h
  | _, _, .cons hT _ _ _ _ _ r, b, h => (List.mem_cons.mp h).elim (fun e => e ▸ hT) (r.ok b)
theorem clsV_tys : ∀ Ts : List String, Paired ClsV (Ts.map V.ty) (Ts.map Value.type)
  | [] => .nil
  | T :: r => .cons (.ty T) (clsV_tys r)
theorem s_isiT {es : List Expr} {Ts : List String} {k : Nat} {p0 pt : Pos} (hT : TyNames X es Ts) (hl : Ts.length ≤ LINE) (ha : PE X a (tE X.K W f)) (hg : Gl X "isinstance") (hm : X.mg "isinstance" = none)
    (he : starEach [a, .Tuple es k pt] X.env = (false, eval a X.env) :: starEach [.Tuple es k pt] X.env) : PE X (.Call (.Name "isinstance" p0) [a, .Tuple es k pt] [] pos) (tE X.K W (eIsi f Ts)) :=
  PE.imp (pe_callB call_isiT hg hm (by decide +kernel) (pa_cons ha (pa_cons (pe_tup hT.pa) pa_nil rfl) he) (by decide) (by decide) he rfl) fun σ H Q ⟨ρ, S, F, p, R, L, q⟩ => seqE OkEE.mono R L q fun d S1 v F1 p1 H1 n R1 L1 hd q => by
    obtain ⟨b, hb, q⟩ := ofB_some q
    obtain ⟨t, ht, rfl⟩ := Option.map_eq_some_iff.mp (show (tyOf S1 d).map _ = some b from hb)
    refine ⟨by rw [List.length_map, ← LINE_eq]; exact hl, fun w hw => ?_⟩
    obtain ⟨R2, n2⟩ := R1.val (o := .tup (Ts.map V.ty)) hw
    refine ⟨v, w, _, .type t, Ts.map .type, Ts.any (isSub t), rfl, upd_same, clsV_tys Ts, tyX_of R2 (hd.nx n2) ht, kit_any ht hT.ok, ?_⟩
    exact (show OkE X.K F1 p1 H1 Q (.bl _) S1 from q) _ _ _ _ n2 R2 (.bl _)
end
/-! ### walks -/
structure WOk (K : PySem.W.Frag) (F : Hp) (p : List Addr) (H : Hp) (J : It) (k : Walked) : Prop where
  go : ∀ i S' F' p' H', Nx F p H F' p' H' → Hld K S' F' p' H' → SrcOk S' k.src → i < k.its.length → J.go i H'
  stop : ∀ S' F' p' H', Nx F p H F' p' H' → Hld K S' F' p' H' → SrcOk S' k.src → J.stop k.its.length H'
  yld : ∀ i S' F' p' H' x H2, Nx F p H F' p' H' → Hld K S' F' p' H' → SrcOk S' k.src → i < k.its.length → J.yld i H' x H2 → ∃ F2, Nx F' p' H' F2 p' H2 ∧ Hld K S' F2 p' H2 ∧ ∃ d, k.its[i]? = some d ∧ IsD K F2 p' x d
  len : k.its.length ≤ LINE
theorem WOk.nx {K : PySem.W.Frag} {F F1 : Hp} {p p1 : List Addr} {H H1 : Hp} {J : It} {k : Walked} (w : WOk K F p H J k) (n : Nx F p H F1 p1 H1) : WOk K F1 p1 H1 J k :=
  ⟨fun i S' F' p' H' n' => w.go i S' F' p' H' (n.trans n'), fun S' F' p' H' n' => w.stop S' F' p' H' (n.trans n'), fun i S' F' p' H' x H2 n' => w.yld i S' F' p' H' x H2 (n.trans n'), w.len⟩
def OkW (K : PySem.W.Frag) (R : It → Hp → Prop) : Post Walked := fun F p H k S' => ∀ J F' p' H', Nx F p H F' p' H' → Hld K S' F' p' H' → WOk K F' p' H' J k → R J H'
theorem OkW.mono {K : PySem.W.Frag} {R : It → Hp → Prop} : PMono (OkW K R) := fun _ _ _ _ _ _ _ _ n h J F' p' H' n' => h J F' p' H' (n.trans n')
def tW (K : PySem.W.Frag) (W : WX) (f : EvW) : TI := fun σ H R => tR K W f (OkW K R) σ H
theorem listOf_src {S S' : Store} {d : D} {xs : List D} (h : listOf S d = some xs) (e : SrcOk S' (srcOf d xs)) : listOf S' d = some xs := by
  cases d with
  | cel n => exact e (n, xs) (List.mem_singleton.mpr rfl)
  | lst _ => exact h
  | scr _ => exact h
  | _ => cases h
theorem wok_list {K : PySem.W.Frag} {S : Store} {F : Hp} {p : List Addr} {H : Hp} {a : Addr} {d : D} {xs : List D} (R : Hld K S F p H) (hd : IsD K F p (.ref a) d) (h : listOf S d = some xs) : (∃ vs, SqL K H a vs) ∧ WOk K F p H (Itl K a) ⟨srcOf d xs, xs⟩ := by
  have key : ∀ S' F' p' H', Nx F p H F' p' H' → Hld K S' F' p' H' → SrcOk S' (srcOf d xs) → ∃ vs, SqL K H' a vs ∧ xs.length ≤ LINE ∧ IsDs K F' p' vs xs := fun S' F' p' H' n R' e => by
    obtain ⟨b, vs, eb, h1, h2, h3⟩ := R'.list (hd.nx n) (listOf_src h e)
    cases eb
    exact ⟨vs, h1, h2, h3⟩
  obtain ⟨b, vs, eb, h1, h2, h3⟩ := R.list hd h
  cases eb
  refine ⟨⟨vs, h1⟩, fun i S' F' p' H' n R' e hi => ?_, fun S' F' p' H' n R' e => ?_, fun i S' F' p' H' x H2 n R' e hi y => ?_, h2⟩
  · obtain ⟨vs, g1, _, g3⟩ := key S' F' p' H' n R' e
    obtain ⟨v, e1, _⟩ := g3.get (List.getElem?_eq_getElem hi)
    exact ⟨vs, v, g1, e1⟩
  · obtain ⟨vs, g1, _, g3⟩ := key S' F' p' H' n R' e
    exact ⟨vs, g1, by rw [g3.length]; exact Nat.le_refl _⟩
  · obtain ⟨vs, g1, _, g3⟩ := key S' F' p' H' n R' e
    obtain ⟨rfl, y⟩ := y
    obtain ⟨d', e1, e2⟩ := g3.get' (y vs g1)
    exact ⟨F', Nx.refl, R', d', e1, e2⟩
theorem wok_tup {K : PySem.W.Frag} {S : Store} {F : Hp} {p : List Addr} {H : Hp} {a : Addr} {xs : List D} (R : Hld K S F p H) (hd : IsD K F p (.ref a) (.tup xs)) : (∃ vs, SqT K H a vs) ∧ WOk K F p H (Itt K a) ⟨[], xs⟩ := by
  cases hd with
  | @tup _ vs _ h1 h2 h3 =>
    have key : ∀ S' F' p' H', Nx F p H F' p' H' → Hld K S' F' p' H' → SqT K H' a vs ∧ IsDs K F' p' vs xs := fun S' F' p' H' n R' => ⟨same_sqT R'.sub (same_sqT n.ext h1), h3.nx n⟩
    refine ⟨⟨vs, same_sqT R.sub h1⟩, fun i S' F' p' H' n R' e hi => ?_, fun S' F' p' H' n R' e => ?_, fun i S' F' p' H' x H2 n R' e hi y => ?_, h2⟩
    · obtain ⟨g1, g3⟩ := key S' F' p' H' n R'
      obtain ⟨v, e1, _⟩ := g3.get (List.getElem?_eq_getElem hi)
      exact ⟨vs, v, g1, e1⟩
    · obtain ⟨g1, g3⟩ := key S' F' p' H' n R'
      exact ⟨vs, g1, by rw [g3.length]; exact Nat.le_refl _⟩
    · obtain ⟨g1, g3⟩ := key S' F' p' H' n R'
      obtain ⟨rfl, y⟩ := y
      obtain ⟨d', e1, e2⟩ := g3.get' (y vs g1)
      exact ⟨F', Nx.refl, R', d', e1, e2⟩
theorem wok_rng {K : PySem.W.Frag} {F : Hp} {p : List Addr} {H : Hp} {a b : Int} (h : rngOk a b = true) : WOk K F p H (Itr a (b - a).toNat) ⟨[], rngL a b⟩ := by
  have hl : (rngL a b).length = (b - a).toNat := by simp [rngL]
  refine ⟨fun i S' F' p' H' n R' e hi => ?_, fun S' F' p' H' n R' e => ?_, fun i S' F' p' H' x H2 n R' e hi y => ?_, ?_⟩
  · show i < _; rw [← hl]; exact hi
  · show _ ≤ _; rw [← hl]; exact Nat.le_refl _
  · obtain ⟨rfl, rfl⟩ := y
    refine ⟨F', Nx.refl, R', .int (a + i), ?_, .int _⟩
    have hi : i < (b - a).toNat := by rw [← hl]; exact hi
    show (rngL a b)[i]? = _
    simp [rngL, hi]
  · show (rngL a b).length ≤ LINE
    rw [hl]
    unfold rngOk at h
    simp only [Bool.and_eq_true, decide_eq_true_eq] at h
    exact h.2
/-- pairs that are made on the way -/
theorem pair_new {K : PySem.W.Frag} {S : Store} {F : Hp} {p : List Addr} {H H2 : Hp} {T : Addr} {x y : V} {d e : D} (R : Hld K S F p H) (hT : H T = none) (hH : H2 = upd H T (.tup [x, y])) (hx : IsD K F p x d) (hy : IsD K F p y e) :
    ∃ F2, Nx F p H F2 p H2 ∧ Hld K S F2 p H2 ∧ IsD K F2 p (.ref T) (.tup [d, e]) := by
  subst hH
  obtain ⟨R', n⟩ := R.val (o := .tup [x, y]) hT
  exact ⟨_, n, R', .tup (.inl (.inl upd_same)) (by show 2 ≤ LINE; decide) (.cons (hx.nx n) (.cons (hy.nx n) .nil))⟩
theorem wok_enum {K : PySem.W.Frag} {S : Store} {F : Hp} {p : List Addr} {H : Hp} {a : Addr} {d : D} {xs : List D} (R : Hld K S F p H) (hd : IsD K F p (.ref a) d) (h : listOf S d = some xs) : (∃ vs, SqL K H a vs) ∧ WOk K F p H (Ite K a) ⟨srcOf d xs, enumL xs⟩ := by
  obtain ⟨⟨vs, hvs⟩, w⟩ := wok_list R hd h
  have hl : (enumL xs).length = xs.length := by simp [enumL]
  have key : ∀ S' F' p' H', Nx F p H F' p' H' → Hld K S' F' p' H' → SrcOk S' (srcOf d xs) → ∃ vs, SqL K H' a vs ∧ xs.length ≤ LINE ∧ IsDs K F' p' vs xs := fun S' F' p' H' n R' e => by
    obtain ⟨b, vs, eb, h1, h2, h3⟩ := R'.list (hd.nx n) (listOf_src h e)
    cases eb
    exact ⟨vs, h1, h2, h3⟩
  refine ⟨⟨vs, hvs⟩, fun i S' F' p' H' n R' e hi => ?_, fun S' F' p' H' n R' e => ?_, fun i S' F' p' H' x H2 n R' e hi y => ?_, ?_⟩
  · obtain ⟨vs, g1, _, g3⟩ := key S' F' p' H' n R' e
    obtain ⟨v, e1, _⟩ := g3.get (List.getElem?_eq_getElem (show i < xs.length by rw [← hl]; exact hi))
    exact ⟨vs, v, g1, e1⟩
  · obtain ⟨vs, g1, _, g3⟩ := key S' F' p' H' n R' e
    exact ⟨vs, g1, by rw [g3.length]; show _ ≤ (enumL xs).length; rw [hl]; exact Nat.le_refl _⟩
  · obtain ⟨vs, g1, _, g3⟩ := key S' F' p' H' n R' e
    obtain ⟨T, z, rfl, hT, hH, y⟩ := y
    obtain ⟨d', e1, e2⟩ := g3.get' (y vs g1)
    obtain ⟨F2, n2, R2, hd2⟩ := pair_new (d := .int (i : Nat)) R' hT hH (.int _) e2
    refine ⟨F2, n2, R2, _, ?_, hd2⟩
    have hi' : i < xs.length := (List.getElem?_eq_some_iff.mp e1).1
    show (List.zipWith (fun (i : Nat) x => D.tup [.int i, x]) (List.range xs.length) xs)[i]? = _
    rw [List.getElem?_zipWith, e1, List.getElem?_range hi']
  · show (enumL xs).length ≤ LINE
    rw [hl]; exact w.len
theorem wok_zip {K : PySem.W.Frag} {S : Store} {F : Hp} {p : List Addr} {H : Hp} {a b : Addr} {d e : D} {xs ys : List D} (R : Hld K S F p H) (hd : IsD K F p (.ref a) d) (he : IsD K F p (.ref b) e) (h : listOf S d = some xs) (h' : listOf S e = some ys) :
    WOk K F p H (Itz K a b) ⟨srcOf d xs ++ srcOf e ys, zipL xs ys⟩ := by
  obtain ⟨_, w⟩ := wok_list R hd h
  have hl : (zipL xs ys).length = min xs.length ys.length := by simp [zipL]
  have key : ∀ S' F' p' H', Nx F p H F' p' H' → Hld K S' F' p' H' → SrcOk S' (srcOf d xs ++ srcOf e ys) → ∃ vs ws, SqL K H' a vs ∧ SqL K H' b ws ∧ IsDs K F' p' vs xs ∧ IsDs K F' p' ws ys := fun S' F' p' H' n R' e => by
    obtain ⟨c, vs, eb, h1, h2, h3⟩ := R'.list (hd.nx n) (listOf_src h fun q hq => e q (List.mem_append_left _ hq))
    cases eb
    obtain ⟨c, ws, eb, g1, g2, g3⟩ := R'.list (he.nx n) (listOf_src h' fun q hq => e q (List.mem_append_right _ hq))
    cases eb
    exact ⟨vs, ws, h1, g1, h3, g3⟩
  refine ⟨fun i S' F' p' H' n R' e hi => ?_, fun S' F' p' H' n R' e => ?_, fun i S' F' p' H' x H2 n R' e hi y => ?_, ?_⟩
  · obtain ⟨vs, ws, g1, g2, g3, g4⟩ := key S' F' p' H' n R' e
    have hi : i < (zipL xs ys).length := hi
    rw [hl] at hi
    obtain ⟨v, e1, _⟩ := g3.get (List.getElem?_eq_getElem (show i < xs.length by omega))
    obtain ⟨w, e2, _⟩ := g4.get (List.getElem?_eq_getElem (show i < ys.length by omega))
    exact ⟨vs, ws, v, w, g1, g2, e1, e2⟩
  · obtain ⟨vs, ws, g1, g2, g3, g4⟩ := key S' F' p' H' n R' e
    refine ⟨vs, ws, g1, g2, ?_⟩
    rw [g3.length, g4.length]
    show _ ≤ (zipL xs ys).length ∨ _ ≤ (zipL xs ys).length
    rw [hl]; omega
  · obtain ⟨vs, ws, g1, g2, g3, g4⟩ := key S' F' p' H' n R' e
    obtain ⟨T, z, u, rfl, hT, hH, y1, y2⟩ := y
    obtain ⟨d1, e1, e2⟩ := g3.get' (y1 vs g1)
    obtain ⟨d2, e3, e4⟩ := g4.get' (y2 ws g2)
    obtain ⟨F2, n2, R2, hd2⟩ := pair_new R' hT hH e2 e4
    refine ⟨F2, n2, R2, _, ?_, hd2⟩
    show (List.zipWith (fun x y => D.tup [x, y]) xs ys)[i]? = _
    rw [List.getElem?_zipWith, e1, e3]
  · show (zipL xs ys).length ≤ LINE
    rw [hl]
    have : xs.length ≤ LINE := w.len
    omega
theorem wok_zipT {K : PySem.W.Frag} {S : Store} {F : Hp} {p : List Addr} {H : Hp} {a b : Addr} {xs ys : List D} {vs ws : List V} (h1 : SqT K F a vs) (h2 : SqT K F b ws) (hx : IsDs K F p vs xs) (hy : IsDs K F p ws ys) (l : xs.length ≤ LINE) : WOk K F p H (RZ.ItzT K a b) ⟨[], zipL xs ys⟩ := by
  have hl : (zipL xs ys).length = min xs.length ys.length := by simp [zipL]
  have key : ∀ S' F' p' H', Nx F p H F' p' H' → Hld K S' F' p' H' → SqT K H' a vs ∧ SqT K H' b ws ∧ IsDs K F' p' vs xs ∧ IsDs K F' p' ws ys := fun S' F' p' H' n R' => ⟨same_sqT R'.sub (same_sqT n.ext h1), same_sqT R'.sub (same_sqT n.ext h2), hx.nx n, hy.nx n⟩
  refine ⟨fun i S' F' p' H' n R' e hi => ?_, fun S' F' p' H' n R' e => ?_, fun i S' F' p' H' x H2 n R' e hi y => ?_, ?_⟩
  · obtain ⟨g1, g2, g3, g4⟩ := key S' F' p' H' n R'
    have hi : i < (zipL xs ys).length := hi
    rw [hl] at hi
    obtain ⟨v, e1, _⟩ := g3.get (List.getElem?_eq_getElem (show i < xs.length by omega))
    obtain ⟨w, e2, _⟩ := g4.get (List.getElem?_eq_getElem (show i < ys.length by omega))
    exact ⟨vs, ws, v, w, g1, g2, e1, e2⟩
  · obtain ⟨g1, g2, g3, g4⟩ := key S' F' p' H' n R'
    refine ⟨vs, ws, g1, g2, ?_⟩
    rw [g3.length, g4.length]
    show _ ≤ (zipL xs ys).length ∨ _ ≤ (zipL xs ys).length
    rw [hl]; omega
  · obtain ⟨g1, g2, g3, g4⟩ := key S' F' p' H' n R'
    obtain ⟨T, z, u, rfl, hT, hH, y1, y2⟩ := y
    obtain ⟨d1, e1, e2⟩ := g3.get' (y1 vs g1)
    obtain ⟨d2, e3, e4⟩ := g4.get' (y2 ws g2)
    obtain ⟨F2, n2, R2, hd2⟩ := pair_new R' hT hH e2 e4
    refine ⟨F2, n2, R2, _, ?_, hd2⟩
    show (List.zipWith (fun x y => D.tup [x, y]) xs ys)[i]? = _
    rw [List.getElem?_zipWith, e1, e3]
  · show (zipL xs ys).length ≤ LINE
    rw [hl]
    omega
section
variable {X : Cx} {W : WX} {a b c tg : Expr} {f g h : EvE} {pos : Pos}
theorem PI.imp {iter : Expr} {t t' : TI} (h : PI X tg iter t) (i : ∀ σ H R, t' σ H R → t σ H R) : PI X tg iter t' := ⟨fun pins s σ H R I q => h.run pins s σ H R I (i σ H R q)⟩
def iSeq (K : PySem.W.Frag) (tl : TE) : TI := fun σ H R => tl σ H fun x H1 => ∃ a, x = .ref a ∧ (((∃ xs, SqL K H1 a xs) ∧ R (Itl K a) H1) ∨ ((∃ xs, SqT K H1 a xs) ∧ R (Itt K a) H1))
theorem pi_seq {l : Expr} {tl : TE} (hl : PE X l tl) : PI X tg l (iSeq X.K tl) := by
  refine ⟨fun pins s σ H R I h => ?_⟩
  refine thn (hl.run pins s σ H _ I h) fun v s1 ⟨x, H1, I1, r1, q1⟩ => ?_
  obtain ⟨a, e, ⟨⟨xs, hq⟩, q⟩ | ⟨⟨xs, hq⟩, q⟩⟩ := q1
  · subst e
    cases r1
    obtain ⟨its, rv, p, hz⟩ := I1.list hq
    refine wpAny_pyIter_list p.isList ?_
    refine ⟨s1.heap.objs.size, [s1.heap.objs.size], _, _, H1, rfl, I1.kept (t' := s1.toks) fun b o e => Heap.get?_push_of_some _ e, turn_list a _, ⟨_, Heap.get?_push_size _ rfl, rfl, rfl⟩, fun b hb => ?_, q⟩
    have e : b = s1.heap.objs.size := by simpa using hb
    subst e
    exact I1.fpOk (Nat.le_refl _) (I1.hok.fresh (Nat.le_refl _))
  · subst e
    cases r1
    obtain ⟨its, rv, p, hz⟩ := I1.tuple hq
    refine wpAny_pyIter_tuple (show s1.heap.IsTuple a its.toArray from p) ?_
    refine ⟨s1.heap.objs.size, [s1.heap.objs.size], _, _, H1, rfl, I1.kept (t' := s1.toks) fun b o e => Heap.get?_push_of_some _ e, turn_tuple a _, ⟨_, Heap.get?_push_size _ rfl, rfl, rfl⟩, fun b hb => ?_, q⟩
    have e : b = s1.heap.objs.size := by simpa using hb
    subst e
    exact I1.fpOk (Nat.le_refl _) (I1.hok.fresh (Nat.le_refl _))
theorem s_wseq (ha : PE X a (tE X.K W f)) : PI X tg a (tW X.K W (wSeq f)) :=
  PI.imp (pi_seq ha) fun σ H Q ⟨ρ, S, F, p, R, L, q⟩ => seqE OkW.mono R L q fun d S1 v F1 p1 H1 n R1 L1 hd q => by
    cases hs : seqOf S1 d with
    | none => simp only [hs] at q; exact False.elim q
    | some xs =>
      simp only [hs] at q
      obtain ⟨a, vs, rfl, _, l, t⟩ := R1.seq hd hs
      refine ⟨a, rfl, ?_⟩
      have lists : listOf S1 d = some xs → (∃ xs, SqL X.K H1 a xs) ∧ Q (Itl X.K a) H1 := fun hl => by
        obtain ⟨w1, w2⟩ := wok_list R1 hd hl
        exact ⟨w1, q _ F1 p1 H1 Nx.refl R1 w2⟩
      cases d with
      | tup ys =>
        cases hs
        obtain ⟨w1, w2⟩ := wok_tup R1 hd
        exact .inr ⟨w1, q _ F1 p1 H1 Nx.refl R1 w2⟩
      | lst _ => exact .inl (lists hs)
      | scr _ => exact .inl (lists hs)
      | cel _ => exact .inl (lists hs)
      | _ => cases hs
theorem s_wrng1 {p0 : Pos} (ha : PE X a (tE X.K W f)) (hg : Gl X "range") (hm : X.mg "range" = none) (hs : starEach [a] X.env = [(false, eval a X.env)]) : PI X tg (.Call (.Name "range" p0) [a] [] pos) (tW X.K W (wRng1 f)) :=
  PI.imp (pi_range1 hg hm (pa_cons ha pa_nil hs) hs) fun σ H Q ⟨ρ, S, F, p, R, L, q⟩ => seqE OkW.mono R L q fun d S1 v F1 p1 H1 n R1 L1 hd q => by
    cases d with
    | int j =>
      cases hd
      by_cases hr : rngOk 0 j = true
      · have q : (if rngOk 0 j = true then O.ok (Walked.mk [] (rngL 0 j)) S1 else .no).holds (OkW X.K Q F1 p1 H1) _ := q
        rw [if_pos hr] at q
        have hr' := hr
        unfold rngOk BIG at hr'
        simp only [Bool.and_eq_true, decide_eq_true_eq] at hr'
        refine ⟨j, rfl, by omega, by omega, ?_⟩
        have w := wok_rng (K := X.K) (F := F1) (p := p1) (H := H1) hr
        have e : (j - 0).toNat = j.toNat := by simp
        rw [e] at w
        exact q _ F1 p1 H1 Nx.refl R1 w
      · have q : (if rngOk 0 j = true then O.ok (Walked.mk [] (rngL 0 j)) S1 else .no).holds (OkW X.K Q F1 p1 H1) _ := q
        rw [if_neg hr] at q
        exact False.elim q
    | _ => exact False.elim q
theorem s_wrng2 {p0 : Pos} (ha : PE X a (tE X.K W f)) (hb : PE X b (tE X.K W g)) (hg : Gl X "range") (hm : X.mg "range" = none) (hs : starEach [a, b] X.env = [(false, eval a X.env), (false, eval b X.env)]) (hs2 : starEach [b] X.env = [(false, eval b X.env)]) :
    PI X tg (.Call (.Name "range" p0) [a, b] [] pos) (tW X.K W (wRng2 f g)) :=
  PI.imp (pi_range2 hg hm (pa_cons ha (pa_cons hb pa_nil hs2) (by rw [hs, hs2])) hs hs2) fun σ H Q ⟨ρ, S, F, p, R, L, q⟩ => seqE OkW.mono R L q fun d S1 v F1 p1 H1 n R1 L1 hd q =>
    seqE OkW.mono R1 L1 q fun e S2 u F2 p2 H2 n2 R2 L2 he q => by
      cases d with
      | int i =>
        cases e with
        | int j =>
          cases hd; cases he
          by_cases hr : rngOk i j = true
          · have q : (if rngOk i j = true then O.ok (Walked.mk [] (rngL i j)) S2 else .no).holds (OkW X.K Q F2 p2 H2) _ := q
            rw [if_pos hr] at q
            have hr' := hr
            unfold rngOk BIG at hr'
            simp only [Bool.and_eq_true, decide_eq_true_eq] at hr'
            exact ⟨i, j, rfl, by omega, q _ F2 p2 H2 Nx.refl R2 (wok_rng hr)⟩
          · have q : (if rngOk i j = true then O.ok (Walked.mk [] (rngL i j)) S2 else .no).holds (OkW X.K Q F2 p2 H2) _ := q
            rw [if_neg hr] at q
            exact False.elim q
        | _ => exact False.elim q
      | _ => exact False.elim q
theorem s_wenum {p0 tpos : Pos} {elts : List Expr} {kk : Nat} (ha : PE X a (tE X.K W f)) (hg : Gl X "enumerate") (hm : X.mg "enumerate" = none) (hs : starEach [a] X.env = [(false, eval a X.env)]) : PI X (.Tuple elts kk tpos) (.Call (.Name "enumerate" p0) [a] [] pos) (tW X.K W (wEnum f)) :=
  PI.imp (pi_enum hg hm (pa_cons ha pa_nil hs) hs) fun σ H Q ⟨ρ, S, F, p, R, L, q⟩ => seqE OkW.mono R L q fun d S1 v F1 p1 H1 n R1 L1 hd q => by
    cases hs : listOf S1 d with
    | none => simp only [hs] at q; exact False.elim q
    | some xs =>
      simp only [hs] at q
      obtain ⟨a, vs, rfl, _, l, t⟩ := R1.list hd hs
      obtain ⟨⟨ys, w1⟩, w2⟩ := wok_enum R1 hd hs
      exact ⟨a, ys, rfl, w1, q _ F1 p1 H1 Nx.refl R1 w2⟩
theorem s_wzip {p0 tpos : Pos} {elts : List Expr} {kk : Nat} (ha : PE X a (tE X.K W f)) (hb : PE X b (tE X.K W g)) (hg : Gl X "zip") (hm : X.mg "zip" = none) (hs : starEach [a, b] X.env = (false, eval a X.env) :: starEach [b] X.env) (hs2 : starEach [b] X.env = (false, eval b X.env) :: starEach [] X.env) (hpl : (backTo pos (starEach [b] X.env)).any (·.1) = false) :
    PI X (.Tuple elts kk tpos) (.Call (.Name "zip" p0) [a, b] [] pos) (tW X.K W (wZip f g)) :=
  PI.imp (RZ.pi_zipA hg hm (pa_cons ha (pa_cons hb pa_nil hs2) hs) hs hpl) fun σ H Q ⟨ρ, S, F, p, R, L, q⟩ => seqE OkW.mono R L q fun d S1 v F1 p1 H1 n R1 L1 hd q =>
    seqE OkW.mono R1 L1 q fun e S2 u F2 p2 H2 n2 R2 L2 he q => by
      have hd := hd.nx n2
      have two : ∀ xs ys, listOf S2 d = some xs → listOf S2 e = some ys → ∃ a b xs ys, ([v, u] : List V) = [.ref a, .ref b] ∧ ((SqL X.K H2 a xs ∧ SqL X.K H2 b ys ∧ Q (Itz X.K a b) H2) ∨ (SqT X.K H2 a xs ∧ SqT X.K H2 b ys ∧ Q (RZ.ItzT X.K a b) H2)) := fun xs ys h1 h2 => by
        rw [h1, h2] at q
        obtain ⟨a, vs, rfl, w1, l, t⟩ := R2.list hd h1
        obtain ⟨b, ws, rfl, w2, l2, t2⟩ := R2.list he h2
        exact ⟨a, b, vs, ws, rfl, .inl ⟨w1, w2, q _ F2 p2 H2 Nx.refl R2 (wok_zip R2 hd he h1 h2)⟩⟩
      cases h1 : listOf S2 d with
      | some xs =>
        cases h2 : listOf S2 e with
        | some ys => exact two xs ys h1 h2
        | none =>
          simp only [h1, h2] at q
          cases d with
          | tup _ => cases h1
          | _ => exact False.elim q
      | none =>
        simp only [h1] at q
        cases d with
        | tup xs =>
          cases e with
          | tup ys =>
            cases hd with
            | @tup a vs _ a1 a2 a3 =>
              cases he with
              | @tup b ws _ b1 b2 b3 => exact ⟨a, b, vs, ws, rfl, .inr ⟨same_sqT R2.sub a1, same_sqT R2.sub b1, q _ F2 p2 H2 Nx.refl R2 (wok_zipT (S := S2) a1 b1 a3 b3 a2)⟩⟩
          | _ => exact False.elim q
        | _ => exact False.elim q
end
end DI
/-! DI: comprehensions. -/
namespace DI
open PySem PySem.Spec L2
open PyProof.Rows hiding St
/-! ### objects that stand already -/
section
variable {K : PySem.W.Frag} {S : Store} {F F1 : Hp} {p p1 : List Addr} {H H1 : Hp} {q : Addr} {o : HO} {Q : VK} {E : Ex → Rho → Store → Prop}
theorem Hld.other (R : Hld K S F p H) (fq : F q = none) (pq : q ∉ p) : Hld K S F p (upd H q o) := by
  refine ⟨fun a u z => ?_, R.len, R.nd, fun a ha => ?_, fun n a c hp hs => ?_⟩
  · rw [upd_ne (fun x => by subst x; rw [fq] at z; cases z)]; exact R.sub a u z
  · rw [upd_ne (show a ≠ q from fun x => pq (by rw [← x]; exact ha))]; exact R.there a ha
  · obtain ⟨h1, h2⟩ := R.cell n a c hp hs
    exact ⟨h1, h2.mono (fun _ _ z => z) (fun _ _ z => z) (upd_ne (show a ≠ q from fun x => pq (by rw [← x]; exact List.mem_of_getElem? hp)))⟩
theorem Nx.other (n : Nx F1 p1 H1 F p H) (hq : H1 q = none) : Nx F1 p1 H1 F p (upd H q o) :=
  ⟨n.ext, n.pre, fun a u z hn => by rw [upd_ne (ne_of_none z hq)]; exact n.keep a u z hn, n.newp, n.newF⟩
/-- .. becomes a value -/
theorem Hld.asVal (R : Hld K S F p H) (fq : F q = none) (pq : q ∉ p) (hq : H q = some o) : Hld K S (upd F q o) p H := by
  have e : ∀ a u, F a = some u → upd F q o a = some u := fun a u z => by rw [upd_ne (ne_of_none z fq)]; exact z
  refine ⟨fun a u z => ?_, R.len, R.nd, R.there, fun n a c hp hs => ?_⟩
  · by_cases ha : a = q
    · subst ha; rw [upd_same] at z; cases z; exact hq
    · rw [upd_ne ha] at z; exact R.sub a u z
  · obtain ⟨h1, h2⟩ := R.cell n a c hp hs
    exact ⟨by rw [upd_ne (show a ≠ q from fun x => pq (by rw [← x]; exact List.mem_of_getElem? hp))]; exact h1, h2.mono e (fun _ _ z => z) rfl⟩
theorem Nx.asVal (n : Nx F1 p1 H1 F p H) (fq : F q = none) (hq : H1 q = none) : Nx F1 p1 H1 (upd F q o) p H :=
  ⟨fun a u z => by rw [upd_ne (ne_of_none (n.ext a u z) fq)]; exact n.ext a u z, n.pre, n.keep, n.newp, fun a z h => by
    by_cases ha : a = q
    · subst ha; exact .inl hq
    · rw [upd_ne ha] at z; exact n.newF a z h⟩
/-- .. becomes a cell -/
theorem Hld.asCell {c : Cell} (R : Hld K S F p H) (fq : F q = none) (pq : q ∉ p) (hq : H q ≠ none) (hc : CellAt K F p H q c) : Hld K (S ++ [some c]) F (p ++ [q]) H := by
  have g : ∀ (n : Nat) (a : Addr), p[n]? = some a → (p ++ [q])[n]? = some a := pre_get (List.prefix_append _ _)
  refine ⟨R.sub, by simp [R.len], ?_, fun a ha => ?_, fun n a c' hp hs => ?_⟩
  · rw [List.nodup_append]
    refine ⟨R.nd, by simp, fun a ha b hb => ?_⟩
    have : b = q := by simpa using hb
    subst this
    exact fun z => pq (by rw [← z]; exact ha)
  · rcases List.mem_append.mp ha with ha | ha
    · exact R.there a ha
    · have : a = q := by simpa using ha
      subst this; exact hq
  · by_cases hn : n < p.length
    · rw [List.getElem?_append_left hn] at hp
      rw [List.getElem?_append_left (by rw [← R.len]; exact hn)] at hs
      obtain ⟨h1, h2⟩ := R.cell n a c' hp hs
      exact ⟨h1, h2.mono (fun _ _ z => z) g rfl⟩
    · have hn' : n = p.length := by
        have := (List.getElem?_eq_some_iff.mp hp).1
        simp at this; omega
      subst hn'
      rw [List.getElem?_append_right (Nat.le_refl _)] at hp
      rw [R.len, List.getElem?_append_right (Nat.le_refl _)] at hs
      simp at hp hs
      subst hp hs
      exact ⟨fq, hc.mono (fun _ _ z => z) g rfl⟩
theorem Nx.asCell (n : Nx F1 p1 H1 F p H) (hq : H1 q = none) : Nx F1 p1 H1 F (p ++ [q]) H :=
  ⟨n.ext, n.pre.trans (List.prefix_append _ _), n.keep, fun a z h => by
    rcases List.mem_append.mp z with z | z
    · exact n.newp a z h
    · have : a = q := by simpa using z
      subst this; exact hq, n.newF⟩
theorem settle_at {al : Bool} {vs : List V} {ds : List D} (R : Hld K S F p H) (n : Nx F1 p1 H1 F p H) (fq : F q = none) (pq : q ∉ p) (hq : H1 q = none) (hH : H q = some (.lst vs)) (l : ds.length ≤ LINE) (t : IsDs K F p vs ds)
    (h : (settle al (.new ds) S).holds (OkE K F1 p1 H1 Q) E) : Q (.ref q) H := by
  cases al with
  | true =>
    have R' := R.asCell (c := .lst ds) fq pq (by rw [hH]; exact fun z => nomatch z) ⟨vs, hH, l, t⟩
    refine (show OkE K F1 p1 H1 Q (.cel S.length) (S ++ [some (.lst ds)]) from h) _ F (p ++ [q]) _ (n.asCell hq) R' (.cel ?_)
    rw [← R.len, List.getElem?_append_right (Nat.le_refl _)]
    simp
  | false =>
    have R' := R.asVal fq pq hH
    refine (show OkE K F1 p1 H1 Q (.lst ds) S from h) _ (upd F q (.lst vs)) p _ (n.asVal fq hq) R' (.lst upd_same l ?_)
    exact t.mono (fun a u z => by rw [upd_ne (ne_of_none z fq)]; exact z) fun _ _ z => z
end
/-! ### what a clause binds -/
theorem wipe_get {σ : St} {j : Nat} : ∀ {vs : List Nat}, (wipe σ vs)[j]? = if j ∈ vs then (if j < σ.length then some none else none) else σ[j]?
  | [] => by simp [wipe]
  | v :: vs => by
    unfold wipe
    by_cases hj : v = j
    · subst hj
      rw [List.getElem?_set, if_pos rfl, wipe_length]
      simp
    · rw [List.getElem?_set_ne hj, wipe_get]
      by_cases hm : j ∈ vs
      · rw [if_pos hm, if_pos (List.mem_cons_of_mem _ hm)]
      · rw [if_neg hm, if_neg (by simp only [List.mem_cons, not_or]; exact ⟨fun e => hj e.symm, hm⟩)]
theorem wipe_set {σ : St} {vs : List Nat} {i : Nat} {v : Option V} (h : i ∈ vs) : wipe (σ.set i v) vs = wipe σ vs := by
  apply List.ext_getElem?
  intro j
  rw [wipe_get, wipe_get]
  by_cases hj : j ∈ vs
  · rw [if_pos hj, if_pos hj, List.length_set]
  · rw [if_neg hj, if_neg hj, List.getElem?_set_ne (fun e => hj (by rw [← e]; exact h))]
def gNames : List Nat → TGs
  | [] => gNil
  | i :: r => gCons (gName i) (gNames r)
def gCT (K : PySem.W.Frag) : CT → TG
  | .one i => gName i
  | .many is => gTup K is.length (gNames is)
theorem names_ok {K : PySem.W.Frag} {F : Hp} {p : List Addr} {H : Hp} {vs : List Nat} {σ0 : St} {Q : St → Hp → Prop} : ∀ {is : List Nat} {xs : List V} {ds : List D} {σ : St} {ρ ρ' : Rho}, IsDs K F p xs ds → Slt K F p σ ρ → wipe σ vs = σ0 → (∀ i ∈ is, i ∈ vs) → bindMany is ds ρ = some ρ' →
    (∀ σ', Slt K F p σ' ρ' → wipe σ' vs = σ0 → Q σ' H) → gNames is xs σ H Q
  | [], _, _, σ, ρ, ρ', .nil, L, w, hi, e, q => by cases e; exact ⟨rfl, q σ L w⟩
  | i :: is, _, _, σ, ρ, ρ', .cons (v := v) (d := d) hd t, L, w, hi, e, q =>
    ⟨v, _, rfl, names_ok t (L.set hd) (by rw [wipe_set (hi i List.mem_cons_self)]; exact w) (fun j hj => hi j (List.mem_cons_of_mem _ hj)) e q⟩
  | [], _, _, _, _, _, .cons _ _, _, _, _, e, _ => by cases e
  | _ :: _, _, _, _, _, _, .nil, _, _, _, e, _ => by cases e
theorem ct_ok {K : PySem.W.Frag} {S : Store} {F : Hp} {p : List Addr} {H : Hp} {vs : List Nat} {σ : St} {ρ ρ' : Rho} {Q : St → Hp → Prop} {c : CT} {x : V} {d : D} (R : Hld K S F p H) (hd : IsD K F p x d) (L : Slt K F p σ ρ) (hi : ∀ i ∈ c.slots, i ∈ vs) (e : bindC c d ρ = some ρ')
    (q : ∀ σ', Slt K F p σ' ρ' → wipe σ' vs = wipe σ vs → Q σ' H) : gCT K c x σ H Q := by
  cases c with
  | one i =>
    cases e
    exact q _ (L.set hd) (wipe_set (hi i (List.mem_singleton.mpr rfl)))
  | many is =>
    cases hd with
    | @tup a xs ds h1 h2 h3 =>
      have e : bindMany is ds ρ = some ρ' := e
      have hl : ∀ {is : List Nat} {ds : List D} {ρ ρ' : Rho}, bindMany is ds ρ = some ρ' → is.length = ds.length := fun {is} => by
        induction is with
        | nil => intro ds ρ ρ' e; cases ds with
          | nil => rfl
          | cons _ _ => cases e
        | cons i is ih => intro ds ρ ρ' e; cases ds with
          | nil => cases e
          | cons _ _ => simp [ih e]
      exact ⟨a, xs, rfl, same_sqT R.sub h1, by rw [h3.length, hl e], names_ok h3 L rfl hi e q⟩
    | _ => cases e
theorem keep_of {α : Type} {src : List (Nat × List D)} {S : Store} {o : O α} {Q : α → Store → Prop} {E : Ex → Rho → Store → Prop} (h : (keepSrc src S o).holds Q E) : SrcOk S src ∧ o.holds Q E := by
  unfold keepSrc at h
  split at h
  · exact ⟨srcOk_of (by assumption), h⟩
  · exact False.elim h
def EF : Ex → Rho → Store → Prop := fun _ _ _ => False
theorem calm_holds {α : Type} {o : O α} {Q : α → Store → Prop} {E : Ex → Rho → Store → Prop} (h : o.calm.holds Q E) : o.holds Q EF := by
  cases o with
  | ok _ _ => exact h
  | er _ _ _ => exact False.elim h
  | no => exact h
theorem ef_any {α : Type} {o : O α} {Q : α → Store → Prop} {E : Ex → Rho → Store → Prop} (h : o.holds Q EF) : o.holds Q E := O.holds_mono h (fun _ _ q => q) fun _ _ _ z => False.elim z
theorem settle_calm {al : Bool} {o : O (List D)} {K : PySem.W.Frag} {F : Hp} {p : List Addr} {H : Hp} {Q : VK} {E : Ex → Rho → Store → Prop} (h : (o.calm.bind fun xs S2 => settle al (.new xs) S2).holds (OkE K F p H Q) E) :
    o.holds (fun xs S2 => (settle al (.new xs) S2).holds (OkE K F p H Q) EF) EF := by
  cases o with
  | ok xs S2 => cases al <;> exact h
  | er _ _ _ => exact False.elim h
  | no => exact h
section
variable {X : Cx} {W WB : WX} {tg iter elt : Expr} {ifs : List Expr} {f : EvE} {t : EvB} {w : EvW} {pos : Pos} {al : Bool} {c : CT} {own : List (Str × Nat)} {scope : Scope}
theorem comp_imp (hi : ∀ i ∈ c.slots, i ∈ own.map (·.2)) (σ : St) (H : Hp) (Q : VK) (z : tE X.K W (eComp al w (own.map (·.2)) c t f) σ H Q) : tLc (tW X.K W w) (gCT X.K c) (tT X.K WB t) (tE X.K WB f) (own.map (·.2)) σ H Q := by
  obtain ⟨ρ, S, F, p, R, L, q⟩ := z
  generalize own.map (·.2) = vs at *
  refine ⟨ρ, S, F, p, R, L, O.holds_mono (O.bind_holds.mp q) (fun k S0 q J F0 p0 H0 n0 R0 wk D hD => ?_) fun _ _ _ h => h⟩
  have q := holds_nx OkEE.mono n0 q
  have L0 := L.nx n0
  have q := settle_calm q
  refine ⟨fun i m H' => i ≤ k.its.length ∧ m = k.its.length - i ∧ ∃ S' F' p' acc vacc, Nx F0 p0 H0 F' p' H' ∧ Hld X.K S' F' p' H' ∧ F' D = none ∧ D ∉ p' ∧ H' D = some (.lst vacc) ∧ IsDs X.K F' p' vacc acc ∧ acc.length ≤ i ∧
    (compL (compStep vs c t f ρ) k.src (k.its.drop i) acc S').holds (fun xs S2 => (settle al (.new xs) S2).holds (OkE X.K F0 p0 H0 Q) EF) EF, ⟨k.its.length, Nat.zero_le _, by simp, S0, F0, p0, [], [], ?_, ?_, F_none R0 hD, ne_p R0 hD, upd_same, .nil, Nat.le_refl _, ?_⟩, ?_⟩
  · exact Nx.refl.other hD
  · exact R0.other (F_none R0 hD) (ne_p R0 hD)
  · rw [List.drop_zero]; exact q
  · rintro i m H' ⟨hi', rfl, S', F', p', acc, vacc, n', R', fD, pD, hHD, ta, la, q'⟩
    by_cases hlt : i < k.its.length
    · right
      rw [List.drop_eq_getElem_cons hlt] at q'
      obtain ⟨so, q'⟩ := keep_of (show (keepSrc k.src S' _).holds _ _ from q')
      refine ⟨wk.go i S' F' p' H' n' R' so hlt, fun H2 => i + 1 ≤ k.its.length ∧ ∃ S2 F2 p2 acc vacc, Nx F0 p0 H0 F2 p2 H2 ∧ Hld X.K S2 F2 p2 H2 ∧ F2 D = none ∧ D ∉ p2 ∧ H2 D = some (.lst vacc) ∧ IsDs X.K F2 p2 vacc acc ∧ acc.length ≤ i + 1 ∧
        (compL (compStep vs c t f ρ) k.src (k.its.drop (i + 1)) acc S2).holds (fun xs S2 => (settle al (.new xs) S2).holds (OkE X.K F0 p0 H0 Q) EF) EF, fun H2 ⟨h1, h2⟩ => ⟨k.its.length - (i + 1), by omega, h1, rfl, h2⟩, fun x H2 y => ?_⟩
      obtain ⟨F2, n2, R2, d, ed, hd⟩ := wk.yld i S' F' p' H' x H2 n' R' so hlt y
      have edd : k.its[i] = d := by rw [List.getElem?_eq_getElem hlt] at ed; exact Option.some.inj ed
      rw [edd] at q'
      have keepD : ∀ {Fa pa Ha Fb pb Hb}, Nx Fa pa Ha Fb pb Hb → Fa D = none → D ∉ pa → Ha D = some (.lst vacc) → Fb D = none ∧ D ∉ pb ∧ Hb D = some (.lst vacc) := fun {Fa pa Ha Fb pb Hb} n a1 a2 a3 => by
        refine ⟨?_, fun z => ?_, n.keep D _ a3 a2⟩
        · cases e : Fb D with
          | none => rfl
          | some o =>
            rcases n.newF D (by rw [e]; exact fun z => nomatch z) a1 with z | z
            · rw [a3] at z; cases z
            · exact absurd z a2
        · have := n.newp D z a2
          rw [a3] at this; cases this
      have Lw : Slt X.K F2 p' (wipe σ vs) (wipeR ρ vs) := ((L0.nx n').nx n2).wipe vs
      have q' := O.bind_holds.mp q'
      unfold compStep at q'
      cases hb : bindC c d (wipeR ρ vs) with
      | none => simp only [hb] at q'; exact False.elim q'
      | some ρ1 =>
        simp only [hb] at q'
        refine ct_ok R2 hd Lw hi hb fun σ' L' hw => ⟨hw.trans (by apply List.ext_getElem?; intro j; rw [wipe_get, wipe_get]; by_cases hj : j ∈ vs <;> simp [hj, wipe_length, wipe_get]), ?_⟩
        have q' := O.bind_holds.mp q'
        refine ⟨ρ1, S', F2, p', R2, L', O.holds_mono q' (fun b S3 q3 F3 p3 H3 n3 R3 => ?_) fun _ _ _ z => False.elim z⟩
        cases b with
        | true =>
          refine iteT ?_
          have q3 := O.bind_holds.mp ((show (((f ρ1 S3).bind fun d S3 => O.ok (some d) S3).holds _ EF) from q3))
          refine ⟨ρ1, S3, F3, p3, R3, L'.nx n3, O.holds_mono (show (f ρ1 S3).holds _ EF from O.holds_mono q3 (fun _ _ z => z) fun _ _ _ z => z) (fun e S4 q4 v F4 p4 H4 n4 R4 he => ?_) fun _ _ _ z => False.elim z⟩
          have n24 : Nx F2 p' H2 F4 p4 H4 := n3.trans n4
          obtain ⟨d1, d2, d3⟩ := keepD (n2.trans n24) fD pD hHD
          refine ⟨vacc, d3, ?_, hlt, S4, F4, p4, acc ++ [e], vacc ++ [v], (n'.trans (n2.trans n24)).other hD, R4.other d1 d2, d1, d2, upd_same, ((ta.nx n2).nx n24).append (.cons he .nil), by simp; exact la, q4⟩
          have hlen := wk.len
          rw [ta.length, ← LINE_eq]
          omega
        | false =>
          refine iteF ?_
          have n23 : Nx F' p' H' F3 p3 H3 := n2.trans n3
          obtain ⟨d1, d2, d3⟩ := keepD n23 fD pD hHD
          exact ⟨hlt, S3, F3, p3, acc, vacc, n'.trans n23, R3, d1, d2, d3, ta.nx n23, by omega, q3⟩
    · left
      have e : i = k.its.length := by omega
      subst e
      rw [List.drop_length] at q'
      obtain ⟨so, q'⟩ := keep_of (show (keepSrc k.src S' _).holds _ _ from q')
      refine ⟨wk.stop S' F' p' H' n' R' so, settle_at R' n' fD pD hD hHD (Nat.le_trans la wk.len) ta q'⟩
theorem s_tyes : PTs X [] (tT X.K W tYesE) := ⟨fun pins s σ H Q I ⟨ρ, S, F, p, R, L, q⟩ => pts_nil.run pins s σ H Q I (q F p H Nx.refl R)⟩
theorem s_tone {e : Expr} (h : PT X e (tT X.K W t)) : PTs X [e] (tT X.K W t) := pts_one h
theorem s_gct {x : Str} {i : Nat} {pos : Pos} (hN : X.N.Nodup) (hi : X.N[i]? = some x) (hx : Loc X.env.scope x) (hf : X.fn x = true ∨ X.env.scope.names.lookup x = some .local) : PG X (.Name x pos) (gCT X.K (.one i)) := pg_name hN hi hx hf
inductive CNames (X : Cx) : List Expr → List Nat → Prop where
  | nil : CNames X [] []
  | cons {x : Str} {i : Nat} {pos : Pos} {es : List Expr} {is : List Nat} (hN : X.N.Nodup) (hi : X.N[i]? = some x) (hx : Loc X.env.scope x) (hf : X.fn x = true ∨ X.env.scope.names.lookup x = some .local) (r : CNames X es is) : CNames X (.Name x pos :: es) (i :: is)
theorem CNames.pg {X : Cx} : ∀ {es : List Expr} {is : List Nat}, CNames X es is → PGs X es (gNames is)
  | _, _, .nil => pgs_nil
  | _, _, .cons hN hi hx hf r => pgs_cons (pg_name hN hi hx hf) r.pg rfl
theorem CNames.len {X : Cx} : ∀ {es : List Expr} {is : List Nat}, CNames X es is → (assignEach es X.env).length = is.length ∧ (assignEach es X.env).findIdx? (·.1) = none
  | _, _, .nil => ⟨rfl, rfl⟩
  | _, _, .cons (x := x) (pos := pos) (es := es) hN hi hx hf r => by
    obtain ⟨h1, h2⟩ := r.len
    have e : assignEach (.Name x pos :: es) X.env = (false, assign (.Name x pos) X.env) :: assignEach es X.env := rfl
    rw [e]
    refine ⟨by rw [List.length_cons, List.length_cons, h1], ?_⟩
    rw [List.findIdx?_cons]
    simp [h2]
theorem s_gctT {es : List Expr} {is : List Nat} {k : Nat} {pos : Pos} (hc : X.calm = true) (h : CNames X es is) : PG X (.Tuple es k pos) (gCT X.K (.many is)) :=
  pg_tup hc h.pg h.len.1 h.len.2
theorem s_comp (hc : X.calm = true) (hN : X.N.Nodup) (hi : PI X tg iter (tW X.K W w)) (ok : BlkOk X.N X.env.scope scope own) (hs : ∀ i ∈ c.slots, i ∈ own.map (·.2))
    (hg : ∀ (s : Shared) (H : Hp) (C : Addr) (cl : List (Str × Addr)) (fp : List Addr), PG (X.blk s H scope (compEnvC scope cl C X.env) fp) tg (gCT X.K c)) (ht : ∀ (s : Shared) (H : Hp) (C : Addr) (cl : List (Str × Addr)) (fp : List Addr), PTs (X.blk s H scope (compEnvC scope cl C X.env) fp) ifs (tT X.K WB t))
    (he : ∀ (s : Shared) (H : Hp) (C : Addr) (cl : List (Str × Addr)) (fp : List Addr), PE (X.blk s H scope (compEnvC scope cl C X.env) fp) elt (tE X.K WB f)) (hf : ∀ x, foldedSetIterable iter X.env x = pure x) :
    PE X (.ListComp elt [⟨tg, iter, ifs, 0⟩] scope pos) (tE X.K W (eComp al w (own.map (·.2)) c t f)) :=
  PE.imp (pe_lc hc hN hi ok hg ht he hf) fun σ H Q q => comp_imp hs σ H Q q
end
end DI
/-! DI: targets and statements. -/
namespace DI
open PySem PySem.Spec L2
open PyProof.Rows hiding St
def OkS (K : PySem.W.Frag) (E : Ends) : Post Fl := fun F p H fl S' => match fl with
  | .nx ρ' => ∀ σ' F' p' H', Nx F p H F' p' H' → Hld K S' F' p' H' → Slt K F' p' σ' ρ' → E.nx σ' H'
  | .rt d => ∀ v F' p' H', Nx F p H F' p' H' → Hld K S' F' p' H' → IsD K F' p' v d → E.rt v H'
theorem OkS.mono {K : PySem.W.Frag} {E : Ends} : PMono (OkS K E) := fun _ _ _ _ _ _ fl _ n h => match fl with
  | .nx _ => fun σ' F' p' H' n' => h σ' F' p' H' (n.trans n')
  | .rt _ => fun v F' p' H' n' => h v F' p' H' (n.trans n')
def tS (K : PySem.W.Frag) (W : WX) (f : EvS) : TS := fun E σ H => tR K W f (OkS K E) σ H
theorem PS.imp {X : Cx} {e : Stmt} {t t' : TS} (h : PS X e t) (i : ∀ E σ H, t' E σ H → t E σ H) : PS X e t' := ⟨fun pins s σ H E I q => h.run pins s σ H E I (i E σ H q)⟩
theorem PSs.imp {X : Cx} {e : List Stmt} {t t' : TS} (h : PSs X e t) (i : ∀ E σ H, t' E σ H → t E σ H) : PSs X e t' := ⟨fun pins s σ H E I q => h.run pins s σ H E I (i E σ H q)⟩
section
variable {X : Cx} {W : WX} {a b c : Expr} {f g h : EvE} {pos : Pos} {al : Bool}
/-! ### targets -/
theorem g_var {i : Nat} {x : Str} (hN : X.N.Nodup) (hi : X.N[i]? = some x) (hx : Loc X.env.scope x) (hf : X.fn x = true ∨ X.env.scope.names.lookup x = some .local) : PG X (.Name x pos) (tG X.K W (gVar i)) :=
  PG.imp (pg_name hN hi hx hf) fun v σ H Q ⟨ρ, S, F, p, d, R, L, hd, q⟩ => (show OkG X.K Q F p H (ρ.set i (some d)) S from q) _ F p H Nx.refl R (L.set hd)
theorem g_nil : PGs X [] (tGs X.K W gNilE) := PGs.imp pgs_nil fun v σ H Q ⟨ρ, S, F, p, d, R, L, hd, q⟩ => by
  cases hd with
  | nil => exact ⟨rfl, (show OkG X.K Q F p H ρ S from q) _ F p H Nx.refl R L⟩
  | cons _ _ => exact False.elim q
theorem g_cons {es : List Expr} {t : EvG} {u : List D → Rho → Store → O Rho} (h1 : PG X a (tG X.K W t)) (h2 : PGs X es (tGs X.K W u)) (hs : (assignEach (a :: es) X.env).map (·.2) = assign a X.env :: (assignEach es X.env).map (·.2)) : PGs X (a :: es) (tGs X.K W (gConsE t u)) :=
  PGs.imp (pgs_cons h1 h2 hs) fun v σ H Q ⟨ρ, S, F, p, d, R, L, hd, q⟩ => by
    cases hd with
    | nil => exact False.elim q
    | @cons v vs d ds hd hr =>
      refine ⟨v, vs, rfl, seqG OkG.mono R L hd q fun ρ1 S1 σ1 F1 p1 H1 n R1 L1 q => ⟨ρ1, S1, F1, p1, ds, R1, L1, hr.nx n, q⟩⟩
theorem g_tup {es : List Expr} {k n : Nat} {u : List D → Rho → Store → O Rho} (hc : X.calm = true) (hp : PGs X es (tGs X.K W u)) (hn : (assignEach es X.env).length = n) (hst : (assignEach es X.env).findIdx? (·.1) = none) : PG X (.Tuple es k pos) (tG X.K W (gTupE n u)) :=
  PG.imp (pg_tup hc hp hn hst) fun v σ H Q ⟨ρ, S, F, p, d, R, L, hd, q⟩ => by
    cases hd with
    | @tup a vs ds h1 h2 h3 =>
      have q : (if ds.length = n then u ds ρ S else .no).holds (OkG X.K Q F p H) (ErP X.K W F p H) := q
      split at q
      · rename_i e
        exact ⟨a, vs, rfl, same_sqT R.sub h1, by rw [h3.length]; exact e, ρ, S, F, p, ds, R, L, h3, q⟩
      · exact False.elim q
    | _ => exact False.elim q
theorem IsK.any {K : PySem.W.Frag} {F : Hp} {p : List Addr} (k : Key) : ∀ {ws : List (Key × V)} {kvs : List (Key × D)}, IsK K F p ws kvs → (ws.any fun kv => decide (kv.1 = k)) = (kvs.any fun kv => decide (kv.1 = k))
  | _, _, .nil => rfl
  | _, _, .cons _ t => by rw [List.any_cons, List.any_cons, IsK.any k t]
theorem IsK.app {K : PySem.W.Frag} {F : Hp} {p : List Addr} : ∀ {ws ws' : List (Key × V)} {kvs kvs' : List (Key × D)}, IsK K F p ws kvs → IsK K F p ws' kvs' → IsK K F p (ws ++ ws') (kvs ++ kvs')
  | _, _, _, _, .nil, t => t
  | _, _, _, _, .cons h t, u => .cons h (IsK.app t u)
theorem IsK.mapset {K : PySem.W.Frag} {F : Hp} {p : List Addr} {k : Key} {v : V} {d : D} (h : IsD K F p v d) : ∀ {ws : List (Key × V)} {kvs : List (Key × D)}, IsK K F p ws kvs →
    IsK K F p (ws.map fun kv => if kv.1 = k then (kv.1, v) else kv) (kvs.map fun kv => if kv.1 = k then (kv.1, d) else kv)
  | _, _, .nil => .nil
  | _, _, .cons (k := k') h1 t => by
    rw [List.map_cons, List.map_cons]
    by_cases e : k' = k
    · rw [if_pos e, if_pos e]; exact .cons h (IsK.mapset h t)
    · rw [if_neg e, if_neg e]; exact .cons h1 (IsK.mapset h t)
theorem IsK.len {K : PySem.W.Frag} {F : Hp} {p : List Addr} : ∀ {ws : List (Key × V)} {kvs : List (Key × D)}, IsK K F p ws kvs → ws.length = kvs.length
  | _, _, .nil => rfl
  | _, _, .cons _ t => by simp [IsK.len t]
theorem IsK.set {K : PySem.W.Frag} {F : Hp} {p : List Addr} {k : Key} {v : V} {d : D} {ws : List (Key × V)} {kvs : List (Key × D)} (h : IsD K F p v d) (t : IsK K F p ws kvs) : IsK K F p (putK ws k v) (setK kvs k d) := by
  unfold putK setK
  rw [t.any k]
  split
  · exact t.mapset h
  · exact t.app (.cons h .nil)
def tSetD (K : PySem.W.Frag) (W : WX) : TSet := fun o i v H Q => ∃ S F p o' i' d, Hld K S F p H ∧ IsD K F p o o' ∧ IsD K F p i i' ∧ IsD K F p v d ∧ ∃ S', setD S o' i' d = some S' ∧ ∀ F' p' H', Nx F p H F' p' H' → Hld K S' F' p' H' → Q H'
theorem kV_of {K : PySem.W.Frag} {F : Hp} {p : List Addr} {v : V} {d : D} {k : Key} (h : IsD K F p v d) (e : inKey d = some k) : v = kV k := by
  cases h <;> first | (cases e; rfl) | cases e
theorem set_D (hu : X.A.units + 1 < cLine) : PSet X (tSetD X.K W) := by
  intro pins s σ H o i v ov iv u Q I ro ri rv ⟨S, F, p, o', i', d, R, ho, hi, hd, S', e, q⟩
  cases ho with
  | @cel a n hp =>
    unfold setD at e
    simp only [] at e
    split at e
    · rename_i xs hs
      split at e
      · rename_i k
        cases hi
        obtain ⟨j, hj, rfl⟩ := Option.map_eq_some_iff.mp e
        obtain ⟨fa, vs, h1, h2, h3⟩ := R.cell n a _ hp hs
        refine set_list pins s σ H _ _ v ov iv u Q I ro ri rv ⟨a, vs, k, j, rfl, rfl, h1, by rw [h3.length]; exact hj, ?_⟩
        obtain ⟨R', n'⟩ := R.put (o := .lst (vs.set j v)) (c := .lst (xs.set j d)) hp hs fun H' z => ⟨_, z, by rw [List.length_set]; exact h2, h3.set hd j⟩
        exact q _ _ _ n' R'
      · cases e
    · rename_i kvs hs
      split at e
      · rename_i k hk
        split at e
        · rename_i hl
          cases e
          obtain ⟨fa, ws, h1, h3⟩ := R.cell n a _ hp hs
          obtain rfl := kV_of hi hk
          obtain ⟨R', n'⟩ := R.put (o := .dK (putK ws k v)) (c := .dct (setK kvs k d)) hp hs fun H' z => ⟨_, z, h3.set hd⟩
          refine set_dict hu pins s σ H _ _ v ov iv u Q I ro ri rv ⟨a, _, rfl, .k h1 (by rw [h3.len, ← LINE_eq]; exact hl), ?_⟩
          exact q _ _ _ n' R'
        · cases e
      · cases e
    · cases e
  | _ => cases e
theorem g_sub (hu : X.A.units + 1 < cLine) (ha : PE X a (tE X.K W f)) (hb : PE X b (tE X.K W g)) (h3 : ∀ v, assign (.Subscript a b pos) X.env v = (do
      let ov ← holding [v] (eval a X.env)
      let iv ← holding [v, ov] (eval b X.env)
      standAt pos
      holding [v, ov, iv] (setItem ov iv v)
      release [v, ov, iv] [])) : PG X (.Subscript a b pos) (tG X.K W (gSubE f g)) :=
  PG.imp (pg_sub ha hb (set_D (W := W) hu) h3) fun v σ H Q ⟨ρ, S, F, p, d, R, L, hd, q⟩ => seqE OkG.mono R L q fun o S1 vo F1 p1 H1 n R1 L1 ho q =>
    seqE OkG.mono R1 L1 q fun i S2 vi F2 p2 H2 n2 R2 L2 hi q => by
      cases e : setD S2 o i d with
      | none => simp only [e] at q; exact False.elim q
      | some S3 =>
        simp only [e] at q
        exact ⟨S2, F2, p2, o, i, d, R2, ho.nx n2, hi, (hd.nx n).nx n2, S3, e, fun F' p' H' n' R' => q σ F' p' H' n' R' (L2.nx n')⟩
/-! ### statements -/
theorem ss_next : PSs X [] (tS X.K W sNext) := PSs.imp pss_nil fun E σ H ⟨ρ, S, F, p, R, L, q⟩ => q σ F p H Nx.refl R L
theorem ss_cons {st : Stmt} {rest : List Stmt} {u v : EvS} (h1 : PS X st (tS X.K W u)) (h2 : PSs X rest (tS X.K W v)) : PSs X (st :: rest) (tS X.K W (sSeq u v)) :=
  PSs.imp (pss_cons h1 h2) fun E σ H ⟨ρ, S, F, p, R, L, q⟩ => ⟨ρ, S, F, p, R, L, O.holds_mono (O.bind_holds.mp q) (fun fl S1 q => by
    cases fl with
    | nx ρ1 => exact fun σ1 F1 p1 H1 n R1 L1 => ⟨ρ1, S1, F1, p1, R1, L1, holds_nx OkS.mono n q⟩
    | rt d => exact fun v F1 p1 H1 n R1 hd => (show OkS X.K E F p H (.rt d) S1 from q) v F1 p1 H1 n R1 hd) fun _ _ _ h => h⟩
theorem ps_retD (ha : PE X a (tE X.K W f)) : PS X (.Return (some a) pos) (tS X.K W (sRet f)) :=
  PS.imp (ps_ret ha) fun E σ H ⟨ρ, S, F, p, R, L, q⟩ => seqE OkS.mono R L q fun d S1 v F1 p1 H1 n R1 L1 hd q => (show OkS X.K E F1 p1 H1 (.rt d) S1 from q) v F1 p1 H1 Nx.refl R1 hd
theorem ps_ifD {t : EvB} {u v : EvS} {xs ys : List Stmt} (hc : PT X c (tT X.K W t)) (ha : PSs X xs (tS X.K W u)) (hb : PSs X ys (tS X.K W v)) : PS X (.If c xs ys pos) (tS X.K W (sIf t u v)) :=
  PS.imp (ps_if hc ha hb) fun E σ H ⟨ρ, S, F, p, R, L, q⟩ => seqT OkS.mono R L q fun b S1 F1 p1 H1 n R1 L1 q => by
    cases b with
    | true => exact iteT ⟨ρ, S1, F1, p1, R1, L1, q⟩
    | false => exact iteF ⟨ρ, S1, F1, p1, R1, L1, q⟩
theorem ps_neverD {st : Stmt} : PS X st (tS X.K W eNo) := ⟨fun _ _ _ _ _ _ ⟨_, _, _, _, _, _, q⟩ => False.elim q⟩
theorem asg_imp {t : EvG} {E : Ends} {σ : St} {H : Hp} (q : tS X.K W (sAsg f t) E σ H) : tAsg (tE X.K W f) (tG X.K W t) E σ H := by
  obtain ⟨ρ, S, F, p, R, L, q⟩ := q
  exact seqE OkS.mono R L q fun d S1 v F1 p1 H1 n R1 L1 hd q => seqG OkS.mono R1 L1 hd q fun ρ1 S2 σ1 F2 p2 H2 n2 R2 L2 q => (show OkS X.K E F2 p2 H2 (.nx ρ1) S2 from q) σ1 F2 p2 H2 Nx.refl R2 L2
theorem ps_asgD {t : EvG} (ha : PE X a (tE X.K W f)) (hg : PG X b (tG X.K W t)) (hs : swapsWithSole [b] a pos.line X.env = pure false) (hw : swappedStores [b] a X.env = pure none) (h1 : (assignEach [b] X.env).map (·.2) = [assign b X.env]) : PS X (.Assign [b] a pos) (tS X.K W (sAsg f t)) :=
  PS.imp (ps_asg ha hg hs hw h1) fun E σ H q => asg_imp q
theorem gName_imp {i : Nat} {v : V} {σ : St} {H : Hp} {Q : St → Hp → Prop} (h : tG X.K W (gVar i) v σ H Q) : gName i v σ H Q := by
  obtain ⟨ρ, S, F, p, d, R, L, hd, q⟩ := h
  exact (show OkG X.K Q F p H (ρ.set i (some d)) S from q) _ F p H Nx.refl R (L.set hd)
theorem ps_setD {i : Nat} {x : Str} {pos' : Pos} (hN : X.N.Nodup) (hi : X.N[i]? = some x) (hx : Loc X.env.scope x) (ha : PE X a (tE X.K W f)) (hs : swapsWith a (some (.Name x pos')) pos.line X.env = pure false) (hf : X.fn x = true ∨ X.env.scope.names.lookup x = some .local) :
    PS X (.Assign [.Name x pos'] a pos) (tS X.K W (sAsg f (gVar i))) :=
  PS.imp (ps_set hN hi hx ha hs hf) fun E σ H q => by
    obtain ⟨ρ, S, F, p, R, L, q⟩ := q
    exact seqE OkS.mono R L q fun d S1 v F1 p1 H1 n R1 L1 hd q => gName_imp (W := W) (seqG OkS.mono R1 L1 hd q fun ρ1 S2 σ1 F2 p2 H2 n2 R2 L2 q => (show OkS X.K E F2 p2 H2 (.nx ρ1) S2 from q) σ1 F2 p2 H2 Nx.refl R2 L2)
/-- name = [.. for ..] on one line -/
theorem ps_setLcD {WB : WX} {tg iter elt : Expr} {ifs : List Expr} {t : EvB} {w : EvW} {ct : CT} {own : List (Str × Nat)} {scope : Scope} {i : Nat} {y : Str} {py cpos : Pos} (hc : X.calm = true) (hN : X.N.Nodup) (hy : X.N[i]? = some y) (hyl : X.env.scope.names.lookup y = some .local)
    (hk : X.env.scope.kind = .function) (hl : (py.line == cpos.line) = true) (hown : (scope.names.any fun (n, k) => n == y && (k == .local || k == .cell)) = false) (hlp : (py.line == cpos.line) = true → swapsWith (.ListComp elt [⟨tg, iter, ifs, 0⟩] scope cpos) (some (.Name y py)) pos.line X.env = pure true)
    (hi : PI X tg iter (tW X.K W w)) (ok : BlkOk X.N X.env.scope scope own) (hs : ∀ i ∈ ct.slots, i ∈ own.map (·.2))
    (hg : ∀ (s : Shared) (H : Hp) (C : Addr) (cl : List (Str × Addr)) (fp : List Addr), PG (X.blk s H scope (compEnvC scope cl C X.env) fp) tg (gCT X.K ct)) (ht : ∀ (s : Shared) (H : Hp) (C : Addr) (cl : List (Str × Addr)) (fp : List Addr), PTs (X.blk s H scope (compEnvC scope cl C X.env) fp) ifs (tT X.K WB t))
    (he : ∀ (s : Shared) (H : Hp) (C : Addr) (cl : List (Str × Addr)) (fp : List Addr), PE (X.blk s H scope (compEnvC scope cl C X.env) fp) elt (tE X.K WB f)) (hf : ∀ x, foldedSetIterable iter X.env x = pure x) :
    PS X (.Assign [.Name y py] (.ListComp elt [⟨tg, iter, ifs, 0⟩] scope cpos) pos) (tS X.K W (sAsg (eComp al w (own.map (·.2)) ct t f) (gVar i))) :=
  PS.imp (ps_setLc hc hN hy hyl (hlp hl) hi ok hg ht he hf) fun E σ H q => by
    obtain ⟨ρ, S, F, p, R, L, q⟩ := q
    exact comp_imp hs σ H _ (seqE OkS.mono R L q fun d S1 v F1 p1 H1 n R1 L1 hd q => gName_imp (W := W) (seqG OkS.mono R1 L1 hd q fun ρ1 S2 σ1 F2 p2 H2 n2 R2 L2 q => (show OkS X.K E F2 p2 H2 (.nx ρ1) S2 from q) σ1 F2 p2 H2 Nx.refl R2 L2))
theorem ps_dropD (ha : PE X a (tE X.K W f)) (hs : swapsWith a none pos.line X.env = pure false) : PS X (.Expr a pos) (tS X.K W (sDrop f)) :=
  PS.imp (ps_expr ha hs) fun E σ H ⟨ρ, S, F, p, R, L, q⟩ => seqE OkS.mono R L q fun d S1 v F1 p1 H1 n R1 L1 hd q => (show OkS X.K E F1 p1 H1 (.nx ρ) S1 from q) σ F1 p1 H1 Nx.refl R1 L1
theorem ps_parD {k : EvL} {i j : Nat} {x y : Str} {px py pt : Pos} {kt k2 pt2} (hc : X.calm = true) (hN : X.N.Nodup) (hi : X.N[i]? = some x) (hj : X.N[j]? = some y) (hij : i ≠ j)
    (hx : X.env.scope.names.lookup x = some .local) (hy : X.env.scope.names.lookup y = some .local) (ha : PA X [a, b] (tL X.K W k))
    (hw : swappedStores [.Tuple [.Name x px, .Name y py] kt pt] (.Tuple [a, b] k2 pt2) X.env = pure (some [x, y]))
    (hs : swapsWithSole [.Tuple [.Name x px, .Name y py] kt pt] (.Tuple [a, b] k2 pt2) pos.line X.env = pure false) :
    PS X (.Assign [.Tuple [.Name x px, .Name y py] kt pt] (.Tuple [a, b] k2 pt2) pos) (tS X.K W (sPar k (gConsE (gVar i) (gConsE (gVar j) gNilE)))) :=
  PS.imp (ps_par hc hN hi hj hij hx hy ha hw hs) fun E σ H ⟨ρ, S, F, p, R, L, q⟩ => seqL OkS.mono R L q fun ds S1 vs F1 p1 H1 n R1 L1 hd q => by
    cases hd with
    | nil => exact False.elim q
    | cons h1 hd => cases hd with
      | nil => exact False.elim q
      | cons h2 hd => cases hd with
        | cons _ _ => exact False.elim q
        | nil => exact ⟨_, _, rfl, q _ F1 p1 H1 Nx.refl R1 ((L1.set h1).set h2)⟩
theorem ps_par3D {k : EvL} {i j l : Nat} {x y z : Str} {px py pz pt : Pos} {kt k2 pt2} (hc : X.calm = true) (hN : X.N.Nodup) (hi : X.N[i]? = some x) (hj : X.N[j]? = some y) (hl : X.N[l]? = some z) (hij : i ≠ j) (hil : i ≠ l) (hjl : j ≠ l)
    (hx : X.env.scope.names.lookup x = some .local) (hy : X.env.scope.names.lookup y = some .local) (hz : X.env.scope.names.lookup z = some .local) (ha : PA X [a, b, c] (tL X.K W k))
    (hw : swappedStores [.Tuple [.Name x px, .Name y py, .Name z pz] kt pt] (.Tuple [a, b, c] k2 pt2) X.env = pure (some [x, y, z]))
    (hs : swapsWithSole [.Tuple [.Name x px, .Name y py, .Name z pz] kt pt] (.Tuple [a, b, c] k2 pt2) pos.line X.env = pure false) :
    PS X (.Assign [.Tuple [.Name x px, .Name y py, .Name z pz] kt pt] (.Tuple [a, b, c] k2 pt2) pos) (tS X.K W (sPar k (gConsE (gVar i) (gConsE (gVar j) (gConsE (gVar l) gNilE))))) :=
  PS.imp (ps_par3 hc hN hi hj hl hij hil hjl hx hy hz ha hw hs) fun E σ H ⟨ρ, S, F, p, R, L, q⟩ => seqL OkS.mono R L q fun ds S1 vs F1 p1 H1 n R1 L1 hd q => by
    cases hd with
    | nil => exact False.elim q
    | cons h1 hd => cases hd with
      | nil => exact False.elim q
      | cons h2 hd => cases hd with
        | nil => exact False.elim q
        | cons h3 hd => cases hd with
          | cons _ _ => exact False.elim q
          | nil => exact ⟨_, _, _, rfl, q _ F1 p1 H1 Nx.refl R1 (((L1.set h1).set h2).set h3)⟩
/-! append, extend -/
theorem ps_appD {apos cpos : Pos} (ha : PE X a (tE X.K W f)) (hb : PE X b (tE X.K W g)) (hs : swapsWith (.Call (.Attribute a "append" apos) [b] [] cpos) none pos.line X.env = pure false)
    (hbase : attributeBase a "append" X.env (eval a X.env) = eval a X.env)
    (hfew : ((backTo cpos (starEach [b] X.env)).all (fun x => !x.1) && (backToKw cpos (keywordEach [] X.env)).all (fun x => x.1.isSome)
      && decide (([b] : List Expr).length + ([] : List Keyword).length + (if ([] : List Keyword).isEmpty then 0 else 1) < 30)) = true)
    (hline : (apos.endLine == cpos.line) = true) (hst : starEach [b] X.env = (false, eval b X.env) :: starEach [] X.env) :
    PS X (.Expr (.Call (.Attribute a "append" apos) [b] [] cpos) pos) (tS X.K W (sApp f g)) :=
  PS.imp (ps_expr (pe_bm PySem.F.plainAttrs_list PySem.F.slot_list_append PySem.F.type_list_append mt_append ha (pa_cons hb pa_nil hst) hbase hfew hline hst rfl) hs) fun E σ H ⟨ρ, S, F, p, R, L, q⟩ => by
    refine seqE OkS.mono R L q fun o S1 v F1 p1 H1 n R1 L1 ho q => ?_
    cases ho with
    | @cel a1 n1 hp =>
      cases hx0 : cellL S1 n1 with
      | none => simp only [hx0] at q; exact False.elim q
      | some xs0 =>
        simp only [hx0] at q
        obtain ⟨vs0, h10, _, _⟩ := R1.cellL hp hx0
        refine ⟨.inl ⟨rfl, _, .inl (.inl h10)⟩, seqE OkS.mono R1 L1 q fun d S2 u F2 p2 H2 n2 R2 L2 hd q => ?_⟩
        split at q
        · rename_i xs hx
          split at q
          · rename_i hl
            obtain ⟨vs, h1, h2, h3⟩ := R2.cellL (pre_get n2.pre _ _ hp) hx
            refine ⟨a1, vs, u, rfl, rfl, h1, by rw [h3.length, ← LINE_eq]; exact hl, ?_⟩
            obtain ⟨R', n'⟩ := R2.put (o := .lst (vs ++ [u])) (c := .lst (xs ++ [d])) (pre_get n2.pre _ _ hp) (cellL_iff hx) fun H' z => ⟨_, z, by simp; omega, h3.append (.cons hd .nil)⟩
            exact (show OkS X.K E F2 p2 H2 (.nx ρ) _ from q) σ _ _ _ n' R' (L2.nx n')
          · exact False.elim q
        · exact False.elim q
    | _ => exact False.elim q
theorem ps_extD {apos cpos : Pos} (ha : PE X a (tE X.K W f)) (hb : PE X b (tE X.K W g)) (hs : swapsWith (.Call (.Attribute a "extend" apos) [b] [] cpos) none pos.line X.env = pure false)
    (hbase : attributeBase a "extend" X.env (eval a X.env) = eval a X.env)
    (hfew : ((backTo cpos (starEach [b] X.env)).all (fun x => !x.1) && (backToKw cpos (keywordEach [] X.env)).all (fun x => x.1.isSome)
      && decide (([b] : List Expr).length + ([] : List Keyword).length + (if ([] : List Keyword).isEmpty then 0 else 1) < 30)) = true)
    (hline : (apos.endLine == cpos.line) = true) (hst : starEach [b] X.env = (false, eval b X.env) :: starEach [] X.env) :
    PS X (.Expr (.Call (.Attribute a "extend" apos) [b] [] cpos) pos) (tS X.K W (sExt f g)) :=
  PS.imp (ps_expr (pe_bm PySem.F.plainAttrs_list PySem.F.slot_list_extend PySem.F.type_list_extend mt_extend ha (pa_cons hb pa_nil hst) hbase hfew hline hst rfl) hs) fun E σ H ⟨ρ, S, F, p, R, L, q⟩ => by
    refine seqE OkS.mono R L q fun o S1 v F1 p1 H1 n R1 L1 ho q => ?_
    cases ho with
    | @cel a1 n1 hp =>
      cases hx0 : cellL S1 n1 with
      | none => simp only [hx0] at q; exact False.elim q
      | some xs0 =>
        simp only [hx0] at q
        obtain ⟨vs0, h10, _, _⟩ := R1.cellL hp hx0
        refine ⟨.inl ⟨rfl, _, .inl (.inl h10)⟩, seqE OkS.mono R1 L1 q fun d S2 u F2 p2 H2 n2 R2 L2 hd q => ?_⟩
        split at q
        · rename_i xs ys hx hy
          split at hy
          · rename_i pl
            split at q
            · rename_i hl
              obtain ⟨vs, h1, h2, h3⟩ := R2.cellL (pre_get n2.pre _ _ hp) hx
              obtain ⟨b1, us, rfl, g1, g2, g3⟩ := R2.list' hd hy pl
              refine ⟨a1, b1, vs, us, rfl, rfl, h1, g1, by rw [h3.length, g3.length, ← LINE_eq]; exact hl, ?_⟩
              obtain ⟨R', n'⟩ := R2.put (o := .lst (vs ++ us)) (c := .lst (xs ++ ys)) (pre_get n2.pre _ _ hp) (cellL_iff hx) fun H' z => ⟨_, z, by simp; omega, h3.append g3⟩
              exact (show OkS X.K E F2 p2 H2 (.nx ρ) _ from q) σ _ _ _ n' R' (L2.nx n')
            · exact False.elim q
          · cases hy
        · exact False.elim q
    | _ => exact False.elim q
/-! loops -/
theorem ps_whileD {t : EvB} {u : EvS} {ys : List Stmt} (hp : PassesOwn (model X.prog X.w) X.A X.env X.xe) (hc : PT X c (tT X.K W t)) (hb : PSs X ys (tS X.K W u)) : PS X (.While c ys [] pos) (tS X.K W (sWhile t u)) :=
  PS.imp (ps_while hp hc hb) fun E σ H ⟨ρ, S, F, p, R, L, q⟩ => by
    refine ⟨fun m σ' H' => ∃ ρ' S' F' p', Nx F p H F' p' H' ∧ Hld X.K S' F' p' H' ∧ Slt X.K F' p' σ' ρ' ∧ (whileL t u m ρ' S').holds (OkS X.K E F p H) (ErP X.K W F p H), ⟨FU, ρ, S, F, p, Nx.refl, R, L, q⟩, ?_⟩
    rintro m σ1 H1 ⟨ρ1, S1, F1, p1, n1, R1, L1, q1⟩
    cases m with
    | zero => exact False.elim q1
    | succ m =>
      have q1 := O.bind_holds.mp (show ((t ρ1 S1).bind _).holds (OkS X.K E F p H) (ErP X.K W F p H) from q1)
      refine ⟨ρ1, S1, F1, p1, R1, L1, O.holds_mono q1 (fun b S2 q2 F2 p2 H2 n2 R2 => ?_) fun _ _ _ z => z.nx n1⟩
      have n12 := n1.trans n2
      cases b with
      | false => exact iteF ((show OkS X.K E F p H (.nx ρ1) S2 from q2) σ1 F2 p2 H2 n12 R2 (L1.nx n2))
      | true =>
        refine iteT ⟨fun σ' H' => ∃ ρ' S' F' p', Nx F p H F' p' H' ∧ Hld X.K S' F' p' H' ∧ Slt X.K F' p' σ' ρ' ∧ (whileL t u m ρ' S').holds (OkS X.K E F p H) (ErP X.K W F p H), fun σ' H' h => ⟨m, Nat.lt_succ_self m, h⟩, ?_⟩
        have q2 := O.bind_holds.mp (show ((u ρ1 S2).bind _).holds (OkS X.K E F p H) (ErP X.K W F p H) from q2)
        refine ⟨ρ1, S2, F2, p2, R2, L1.nx n2, O.holds_mono q2 (fun fl S3 q3 => ?_) fun _ _ _ z => z.nx n12⟩
        cases fl with
        | nx ρ3 => exact fun σ3 F3 p3 H3 n3 R3 L3 => ⟨ρ3, S3, F3, p3, n12.trans n3, R3, L3, q3⟩
        | rt d => exact fun v F3 p3 H3 n3 R3 hd => (show OkS X.K E F p H (.rt d) S3 from q3) v F3 p3 H3 (n12.trans n3) R3 hd
theorem ps_forD {tg iter : Expr} {t : EvG} {w : EvW} {u : EvS} {ys : List Stmt} (hp : PassesOwn (model X.prog X.w) X.A X.env X.xe) (hc : X.calm = true) (hi : PI X tg iter (tW X.K W w)) (hg : PG X tg (tG X.K W t)) (hb : PSs X ys (tS X.K W u))
    (hf : ∀ x, foldedSetIterable iter X.env x = pure x) : PS X (.For tg iter ys [] pos) (tS X.K W (sFor w t u)) :=
  PS.imp (ps_for hp hc hi hg hb hf) fun E σ H ⟨ρ, S, F, p, R, L, q⟩ => by
    refine ⟨ρ, S, F, p, R, L, O.holds_mono (O.bind_holds.mp q) (fun k S0 q J F0 p0 H0 n0 R0 wk => ?_) fun _ _ _ h => h⟩
    refine ⟨fun i m σ' H' => i ≤ k.its.length ∧ m = k.its.length - i ∧ ∃ ρ' S' F' p', Nx F0 p0 H0 F' p' H' ∧ Hld X.K S' F' p' H' ∧ Slt X.K F' p' σ' ρ' ∧ (forL t u k.src (k.its.drop i) ρ' S').holds (OkS X.K E F p H) (ErP X.K W F p H), ⟨k.its.length, Nat.zero_le _, by simp, ρ, S0, F0, p0, Nx.refl, R0, L.nx n0, by rw [List.drop_zero]; exact q⟩, ?_⟩
    rintro i m σ1 H1 ⟨hi', rfl, ρ1, S1, F1, p1, n1, R1, L1, q1⟩
    have n01 := n0.trans n1
    by_cases hlt : i < k.its.length
    · right
      rw [List.drop_eq_getElem_cons hlt] at q1
      obtain ⟨so, q1⟩ := keep_of (show (keepSrc k.src S1 _).holds _ _ from q1)
      refine ⟨wk.go i S1 F1 p1 H1 n1 R1 so hlt, fun σ' H' => i + 1 ≤ k.its.length ∧ ∃ ρ' S' F' p', Nx F0 p0 H0 F' p' H' ∧ Hld X.K S' F' p' H' ∧ Slt X.K F' p' σ' ρ' ∧ (forL t u k.src (k.its.drop (i + 1)) ρ' S').holds (OkS X.K E F p H) (ErP X.K W F p H), fun σ' H' ⟨h1, h2⟩ => ⟨k.its.length - (i + 1), by omega, h1, rfl, h2⟩, fun x H2 y => ?_⟩
      obtain ⟨F2, n2, R2, d, ed, hd⟩ := wk.yld i S1 F1 p1 H1 x H2 n1 R1 so hlt y
      have edd : k.its[i] = d := by rw [List.getElem?_eq_getElem hlt] at ed; exact Option.some.inj ed
      rw [edd] at q1
      have n02 := n01.trans n2
      refine ⟨ρ1, S1, F2, p1, d, R2, L1.nx n2, hd, O.holds_mono (O.bind_holds.mp q1) (fun ρ3 S3 q3 σ3 F3 p3 H3 n3 R3 L3 => ?_) fun _ _ _ z => z.nx n02⟩
      have n03 := n02.trans n3
      refine ⟨ρ3, S3, F3, p3, R3, L3, O.holds_mono (O.bind_holds.mp q3) (fun fl S4 q4 => ?_) fun _ _ _ z => z.nx n03⟩
      cases fl with
      | nx ρ4 => exact fun σ4 F4 p4 H4 n4 R4 L4 => ⟨hlt, ρ4, S4, F4, p4, n1.trans (n2.trans (n3.trans n4)), R4, L4, q4⟩
      | rt d => exact fun v F4 p4 H4 n4 R4 hd => (show OkS X.K E F p H (.rt d) S4 from q4) v F4 p4 H4 (n03.trans n4) R4 hd
    · left
      have e : i = k.its.length := by omega
      subst e
      rw [List.drop_length] at q1
      obtain ⟨so, q1⟩ := keep_of (show (keepSrc k.src S1 _).holds _ _ from q1)
      exact ⟨wk.stop S1 F1 p1 H1 n1 R1 so, (show OkS X.K E F p H (.nx ρ1) S1 from q1) σ1 F1 p1 H1 n01 R1 L1⟩
end
end DI
/-! DI: defs and calls. -/
namespace DI
open PySem PySem.Spec L2
open PyProof.Rows hiding St
/-! ### behind a call: the store is cut, the cells of the call are values -/
def IsRes (K : PySem.W.Frag) (F : Hp) (p : List Addr) (H0 H : Hp) : V → Res → Prop
  | v, .d d => IsD K F p v d
  | v, .new xs => ∃ q vs, v = .ref q ∧ H q = some (.lst vs) ∧ F q = none ∧ q ∉ p ∧ H0 q = none ∧ xs.length ≤ LINE ∧ IsDs K F p vs xs
def OkR (K : PySem.W.Frag) (F : Hp) (p : List Addr) (H : Hp) (Q : VK) : Res → Store → Prop := fun r S' =>
  ∀ v F' p' H', Nx F p H F' p' H' → Hld K S' F' p' H' → IsRes K F' p' H H' v r → Q v H'
theorem OkR.nx {K : PySem.W.Frag} {Q : VK} {F F1 : Hp} {p p1 : List Addr} {H H1 : Hp} (n : Nx F p H F1 p1 H1) (R : ∀ a, a ∈ p → H a ≠ none) (r : Res) (S : Store) (h : OkR K F p H Q r S) : OkR K F1 p1 H1 Q r S :=
  fun v F' p' H' n' R' hr => h v F' p' H' (n.trans n') R' (by
    cases r with
    | d d => exact hr
    | new xs =>
      obtain ⟨q, vs, h1, h2, h3, h4, h5, h6, h7⟩ := hr
      refine ⟨q, vs, h1, h2, h3, h4, ?_, h6, h7⟩
      cases e : H q with
      | none => rfl
      | some o =>
        by_cases hq : q ∈ p
        · exact absurd ((n.trans n').pre.subset hq) h4
        · rw [n.keep q o e hq] at h5; cases h5)
section
variable {K : PySem.W.Frag} {F F2 : Hp} {p : List Addr} {b : Nat}
theorem take_get {n : Nat} {a : Addr} (h : p[n]? = some a) (hn : n < b) : (p.take b)[n]? = some a := by
  rw [List.getElem?_take_of_lt hn]; exact h
mutual
theorem IsD.lowT (e : ∀ a o, F a = some o → F2 a = some o) : ∀ {v : V} {d : D}, IsD K F p v d → d.low b = true → IsD K F2 (p.take b) v d
  | _, _, .non, _ => .non
  | _, _, .bl b, _ => .bl b
  | _, _, .int i, _ => .int i
  | _, _, .str x, _ => .str x
  | _, _, .lst h l t, w => .lst (e _ _ h) l (IsDs.lowT e t w)
  | _, _, .tup h l t, w => .tup (same_sqT e h) l (IsDs.lowT e t w)
  | _, _, .scr h l, _ => .scr (same_sqL e h) l
  | _, _, .emp h, _ => .emp (e _ _ h)
  | _, _, .cel h, w => .cel (take_get h (of_decide_eq_true w))
theorem IsDs.lowT (e : ∀ a o, F a = some o → F2 a = some o) : ∀ {vs : List V} {ds : List D}, IsDs K F p vs ds → lowL b ds = true → IsDs K F2 (p.take b) vs ds
  | _, _, .nil, _ => .nil
  | _, _, .cons (d := d) (ds := ds) h t, w => by
    have w : (d.low b && lowL b ds) = true := w
    rw [Bool.and_eq_true] at w
    exact .cons (IsD.lowT e h w.1) (IsDs.lowT e t w.2)
end
theorem IsK.lowT (e : ∀ a o, F a = some o → F2 a = some o) : ∀ {ws : List (Key × V)} {kvs : List (Key × D)}, IsK K F p ws kvs → lowL b (kvs.map (·.2)) = true → IsK K F2 (p.take b) ws kvs
  | _, _, .nil, _ => .nil
  | _, _, .cons (d := d) (kvs := kvs) h t, w => by
    have w : (d.low b && lowL b (kvs.map (·.2))) = true := w
    rw [Bool.and_eq_true] at w
    exact .cons (h.lowT e w.1) (IsK.lowT e t w.2)
theorem frzAll_len {f : D → Option D} : ∀ {xs ys : List D}, frzAll f xs = some ys → ys.length = xs.length
  | [], ys, h => by cases h; rfl
  | x :: r, ys, h => by
    unfold frzAll at h
    split at h
    · rename_i y t h1 h2
      cases h
      rw [List.length_cons, List.length_cons, frzAll_len h2]
    · cases h
theorem frzAll_ok {f : D → Option D} (hf : ∀ v d d', IsD K F p v d → f d = some d' → IsD K F2 (p.take b) v d') : ∀ {vs : List V} {ds ds' : List D}, IsDs K F p vs ds → frzAll f ds = some ds' → IsDs K F2 (p.take b) vs ds'
  | _, _, ds', .nil, h => by cases h; exact .nil
  | _, _, ds', .cons hd t, h => by
    unfold frzAll at h
    split at h
    · rename_i y t' h1 h2
      cases h
      exact .cons (hf _ _ _ hd h1) (frzAll_ok hf t h2)
    · cases h
theorem frz_ok {S : Store} (e : ∀ a o, F a = some o → F2 a = some o) (hc : ∀ n a xs, p[n]? = some a → b ≤ n → cellL S n = some xs → ∃ vs, F2 a = some (.lst vs) ∧ xs.length ≤ LINE ∧ IsDs K F p vs xs) :
    ∀ (k : Nat) (v : V) (d d' : D), IsD K F p v d → frzD S b k d = some d' → IsD K F2 (p.take b) v d'
  | 0, v, d, d', h, q => by
    unfold frzD at q
    split at q
    · cases q; exact h.lowT e (by assumption)
    · cases q
  | k + 1, v, d, d', h, q => by
    unfold frzD at q
    split at q
    · cases q; exact h.lowT e (by assumption)
    · rename_i hl
      cases h with
      | cel hp =>
        rename_i a n
        have hn : b ≤ n := by
          have : ¬ (decide (n < b) = true) := hl
          rw [decide_eq_true_eq] at this
          omega
        cases hx : cellL S n with
        | none => simp only [hx] at q; cases q
        | some xs =>
          simp only [hx] at q
          obtain ⟨ys, h1, rfl⟩ := Option.map_eq_some_iff.mp q
          obtain ⟨vs, g1, g2, g3⟩ := hc n a xs hp hn hx
          exact .lst g1 (by rw [frzAll_len h1]; exact g2) (frzAll_ok (frz_ok e hc k) g3 h1)
      | lst h1 h2 h3 =>
        obtain ⟨ys, h4, rfl⟩ := Option.map_eq_some_iff.mp (show (frzAll (frzD S b k) _).map _ = some d' from q)
        exact .lst (e _ _ h1) (by rw [frzAll_len h4]; exact h2) (frzAll_ok (frz_ok e hc k) h3 h4)
      | tup h1 h2 h3 =>
        obtain ⟨ys, h4, rfl⟩ := Option.map_eq_some_iff.mp (show (frzAll (frzD S b k) _).map _ = some d' from q)
        exact .tup (same_sqT e h1) (by rw [frzAll_len h4]; exact h2) (frzAll_ok (frz_ok e hc k) h3 h4)
      | _ => cases q
end
theorem cut_ok {K : PySem.W.Frag} {S0 S : Store} {F F1 : Hp} {p p1 : List Addr} {H H1 : Hp} (R0 : Hld K S0 F p H) (n : Nx F p H F1 p1 H1) (R : Hld K S F1 p1 H1) (ex : List Addr) (F2 : Hp)
    (h2 : ∀ a, F2 a = if a ∈ p1 ∧ a ∉ p ∧ a ∉ ex then H1 a else F1 a) : Hld K (cleanS S0.length S) F2 p H1 ∧ Nx F p H F2 p H1 ∧ (∀ a o, F1 a = some o → F2 a = some o) ∧ p1.take S0.length = p := by
  have ep : p1.take S0.length = p := by
    obtain ⟨t, rfl⟩ := n.pre
    rw [← R0.len]; simp
  have up : ∀ a o, F1 a = some o → F2 a = some o := fun a o z => by
    rw [h2]
    split
    · exact R.sub a o z
    · exact z
  refine ⟨⟨fun a o z => ?_, ?_, R0.nd, fun a ha => R.there a (n.pre.subset ha), fun m a c hp hs => ?_⟩, ⟨fun a o z => up a o (n.ext a o z), List.prefix_refl _, n.keep, fun a z h => absurd z h, fun a z h => ?_⟩, up, ep⟩
  · rw [h2] at z
    split at z
    · exact z
    · exact R.sub a o z
  · unfold cleanS
    rw [List.length_map, List.length_take, ← R.len, ← R0.len]
    exact (Nat.min_eq_left n.pre.length_le).symm
  · have hm : m < S0.length := by
      rw [← R0.len]; exact (List.getElem?_eq_some_iff.mp hp).1
    unfold cleanS at hs
    rw [List.getElem?_map, List.getElem?_take_of_lt hm] at hs
    have hp1 := n.get m a hp
    cases e : S[m]? with
    | none => rw [e] at hs; cases hs
    | some oc =>
      rw [e] at hs
      cases oc with
      | none => cases hs
      | some c0 =>
        have hs : cleanC S0.length (some c0) = some c := Option.some.inj hs
        unfold cleanC at hs
        simp only [] at hs
        split at hs
        · rename_i hl
          cases hs
          obtain ⟨f1, hc⟩ := R.cell m a c hp1 e
          refine ⟨?_, ?_⟩
          · rw [h2, if_neg (fun z => z.2.1 (List.mem_of_getElem? hp))]; exact f1
          · cases c with
            | lst xs =>
              obtain ⟨vs, g1, g2, g3⟩ := hc
              exact ⟨vs, g1, g2, by rw [← ep]; exact g3.lowT up hl⟩
            | dct kvs =>
              obtain ⟨ws, g1, g3⟩ := hc
              exact ⟨ws, g1, by rw [← ep]; exact g3.lowT up hl⟩
        · cases hs
  · rw [h2] at z
    split at z
    · rename_i q
      exact .inl (n.newp a q.1 q.2.1)
    · exact n.newF a z h
open Classical in
theorem ret_ok {K : PySem.W.Frag} {S0 S : Store} {F F1 : Hp} {p p1 : List Addr} {H H1 : Hp} {v : V} {d : D} {Q : VK} {E : Ex → Rho → Store → Prop} (R0 : Hld K S0 F p H) (n : Nx F p H F1 p1 H1) (R : Hld K S F1 p1 H1) (hd : IsD K F1 p1 v d)
    (h : (retF S0.length d S).holds (OkR K F p H Q) E) : Q v H1 := by
  have out : ∀ {m : Nat} {a : Addr}, p1[m]? = some a → S0.length ≤ m → a ∉ p := fun {m a} hp hm ha => by
    obtain ⟨j, hj⟩ := List.getElem?_of_mem ha
    have := nodup_get R.nd hp (n.get j a hj)
    have := (List.getElem?_eq_some_iff.mp hj).1
    rw [R0.len] at this
    omega
  -- with nothing kept back
  have plain : ∀ {d' : D}, frzD S S0.length 3 d = some d' → (O.ok (Res.d d') (cleanS S0.length S)).holds (OkR K F p H Q) E → Q v H1 := fun {d'} hz h => by
    obtain ⟨R', n', up, ep⟩ := cut_ok R0 n R [] (fun a => if a ∈ p1 ∧ a ∉ p ∧ a ∉ ([] : List Addr) then H1 a else F1 a) (fun _ => rfl)
    refine (show OkR K F p H Q (.d d') (cleanS S0.length S) from h) v _ p H1 n' R' ?_
    have q := frz_ok (b := S0.length) (S := S) up (fun m a xs hp hm hx => by
      obtain ⟨vs, g1, g2, g3⟩ := R.cellL hp hx
      exact ⟨vs, by rw [if_pos ⟨List.mem_of_getElem? hp, out hp hm, List.not_mem_nil⟩]; exact g1, g2, g3⟩) 3 v d d' hd hz
    rw [ep] at q
    exact q
  unfold retF at h
  split at h
  · rename_i m
    cases hd with
    | @cel a _ hp =>
      split at h
      · rename_i hm
        refine plain (d' := .cel m) ?_ h
        unfold frzD
        rw [if_pos (show (D.cel m).low S0.length = true from decide_eq_true hm)]
      · rename_i hm
        have hm : S0.length ≤ m := by omega
        split at h
        · rename_i xs hx
          split at h
          · rename_i ys hy
            obtain ⟨vs, g1, g2, g3⟩ := R.cellL hp hx
            obtain ⟨R', n', up, ep⟩ := cut_ok R0 n R [a] (fun x => if x ∈ p1 ∧ x ∉ p ∧ x ∉ [a] then H1 x else F1 x) (fun _ => rfl)
            have hap := out hp hm
            have fa : F1 a = none := (R.cell m a _ hp (cellL_iff hx)).1
            refine (show OkR K F p H Q (.new ys) (cleanS S0.length S) from h) (.ref a) _ p H1 n' R' ⟨a, vs, rfl, g1, ?_, hap, n.newp a (List.mem_of_getElem? hp) hap, by rw [frzAll_len hy]; exact g2, ?_⟩
            · show (if a ∈ p1 ∧ a ∉ p ∧ a ∉ [a] then H1 a else F1 a) = none
              rw [if_neg (fun z => z.2.2 (List.mem_singleton.mpr rfl))]; exact fa
            · have q := frzAll_ok (b := S0.length) (frz_ok (b := S0.length) (S := S.set m none) up (fun j x zs hpj hj hz => by
                have hjm : j ≠ m := fun z => by
                  subst z
                  unfold cellL at hz
                  by_cases hl : j < S.length
                  · rw [List.getElem?_set_self hl] at hz; cases hz
                  · rw [List.getElem?_eq_none (by simpa using hl)] at hz; cases hz
                have hz' : cellL S j = some zs := by
                  unfold cellL at hz ⊢
                  rw [List.getElem?_set_ne (Ne.symm hjm)] at hz; exact hz
                obtain ⟨us, k1, k2, k3⟩ := R.cellL hpj hz'
                have hxa : x ≠ a := fun z => by subst z; exact hjm (nodup_get R.nd hpj hp)
                exact ⟨us, by rw [if_pos ⟨List.mem_of_getElem? hpj, out hpj hj, fun z => hxa (List.mem_singleton.mp z)⟩]; exact k1, k2, k3⟩) 3) g3 hy
              rw [ep] at q
              exact q
          · exact False.elim h
        · exact False.elim h
  · split at h
    · rename_i e he
      exact plain he h
    · exact False.elim h
/-! ### defs -/
/-- a def's promise; the guards stand as at the caller -/
structure FnG (P : Program) (w : World) (K : PySem.W.Frag) (mg : Str → Option Value) (base : Heap) (CX : CXT) (k : Nat) (f : Addr) (fd : FuncData) (ps : List Str) (sp : Sp) : Prop where
  len : ∀ vs H Q E, sp vs H Q E → vs.length = ps.length
  run : ∀ (A : Around) (outer : List Env) (s : Shared) (H : Hp) (args : Args) (us : List Value) (vs : List V) (Q : VK) (E : XK), Room k A → A.guards = some [] → Env0 P w K mg base A outer s H → BindsTo s fd args (ps.zip us) → Vals vs us → sp vs H Q E →
    codeAny (model P w) A (.call (.ref f) args) (CR CX outer P w H s Q E) s
theorem fn_ofG {CX : CXT} {P : Program} {w : World} {K : PySem.W.Frag} {mg : Str → Option Value} {base : Heap} {k : Nat} {f : Addr} {name qual : Str} {params : Arguments} {body : List Stmt} {scope : Scope} {dV kV doc pm cdv ct oc : Value} {an od : Option Addr}
    {osl : Array (Option Value)} {N ps : List Str} {sp : Sp} (lk : K.lookup f = some ⟨oc, od, .func (PySem.W.fnOf name qual params body scope dV kV doc pm an cdv ct), osl⟩) (hcd : PySem.W.codeIn K cdv qual = true) (S : FnScope N ps scope)
    (len : ∀ vs H Q E, sp vs H Q E → vs.length = ps.length)
    (hbody : ∀ (A : Around) (outer : List Env) (s : Shared) (H : Hp) (vs : List V) (Q : VK) (E : XK), Room k (A.deeper (envOfC qual scope s.heap.objs.size f cdv)) → A.guards = some [] → sp vs H Q E →
      ∃ t, PSs (cxOf CX P w K mg base N qual scope f cdv A outer s H E) body t ∧ t { nx := fun _ H' => Q .non H', rt := Q } (start N vs) H) :
    FnG P w K mg base CX (k + 1) f (PySem.W.fnOf name qual params body scope dV kV doc pm an cdv ct) ps sp := by
  refine ⟨len, fun A outer s H args us vs Q E hr hg e0 hb r hsp => ?_⟩
  have hl := len _ _ _ _ hsp
  have KX : K.In s.heap := e0.mod.kin.keeps fun b o e => (e0.bs b o e).1
  have lim : s.heap.NoLimit := e0.mod.nolimit.keeps fun b o e => (e0.bs b o e).1
  have hkind : ∀ y ∈ ps.zip us, scope.names.lookup y.1 = some .local ∨ (scope.names.lookup y.1 = some .cell ∧ ((cellsFrom (s.heap.objs.size + 1) scope.names []).lookup y.1).isSome = true) := fun ⟨n, v⟩ hy => by
    rcases S.par n (List.of_mem_zip hy).1 with q | q
    · exact .inl q
    · exact .inr ⟨q, PySem.W.cellsFrom_some _ _ _ (.inl q)⟩
  refine codeAny_call_function hr.depth (KX _ _ lk) rfl S.co S.gen rfl (PySem.W.codeRec_of KX hcd) (hb _ _ _ _ ?_)
  refine wpAny_newFunctionEnv_cells S.kind hkind fun env he s1 x => ?_
  subst he
  refine ⟨lim.keeps x.toInCall.keep, codeAny_func ?_⟩
  obtain ⟨t, ht, hq⟩ := hbody A outer s H vs Q E (hr.deeper _) hg hsp
  have I : Inv (cxOf CX P w K mg base N qual scope f cdv A outer s H E) [] (start N vs) H s1 := inv_start S hr.hd e0 hl r x
  refine wpAny_mono (ht.run [] s1 (start N vs) H _ I hq) (fun fl s' hs => ?_) fun e s' hs => hs
  have fin : ∀ {σ' : St} {H' : Hp} {v : V} {u : Value}, Inv (cxOf CX P w K mg base N qual scope f cdv A outer s H E) [] σ' H' s' → RelV v u → Q v H' → CE outer P w H s Q u s' :=
    fun {σ' H' v u} J rv q => ⟨v, H', J.os, J.bare, J.base, J.hok, rv, q⟩
  cases fl with
  | ret u =>
    obtain ⟨v, σ', H', J, rv, q⟩ := hs
    exact fin J rv q
  | next =>
    obtain ⟨σ', H', J, q⟩ := hs
    exact fin (v := V.non) (u := Value.none) J rfl q
  | brk =>
    obtain ⟨_, _, _, q⟩ := hs
    exact False.elim q
  | cont =>
    obtain ⟨_, _, _, q⟩ := hs
    exact False.elim q
/-- a def's promise by plain data -/
def spF (K : PySem.W.Frag) (n : Nat) (c : List D → Store → O Res) : Sp := fun vs H Q _ => vs.length = n ∧ ∃ S F p ds, Hld K S F p H ∧ IsDs K F p vs ds ∧ (c ds S).calm.holds (OkR K F p H Q) EF
/-- an own def, as the text stands behind the top -/
structure Own (P : Program) (w : World) (K : PySem.W.Frag) (mg : Str → Option Value) (base : Heap) (k : Nat) (x : Str) (st : Stmt) (ps : List Str) (c : List D → Store → O Res) : Prop where
  ex : ∃ f fd, L2.Fun K x x st f fd ∧ FnG P w K mg base L2.CX0 k f fd ps (spF K ps.length c) ∧ mg x = some (.ref f)
  len : ∀ ds S, ds.length ≠ ps.length → c ds S = .no
theorem Own.mono {P : Program} {w : World} {K : PySem.W.Frag} {mg : Str → Option Value} {base : Heap} {j k : Nat} {x : Str} {st : Stmt} {ps : List Str} {c : List D → Store → O Res} (o : Own P w K mg base j x st ps c) (h : j ≤ k) : Own P w K mg base k x st ps c := by
  obtain ⟨f, fd, Fu, F, hm⟩ := o.ex
  exact ⟨⟨f, fd, Fu, ⟨F.len, fun A outer s H args us vs Q E hr => F.run A outer s H args us vs Q E (hr.mono h)⟩, hm⟩, o.len⟩
/-- positional values bind -/
def BindsP (x : Str) (st : Stmt) (ps : List Str) : Prop := ∀ (kV doc pm : Value) (an : Option Addr) (cdv ct : Value) (us : List Value), us.length = ps.length → bindArgs (PySem.W.fnOf x x (defArgs st) (defBody st) (defScope st) .none kV doc pm an cdv ct) ⟨us, []⟩ = pure (ps.zip us)
/-- .. with keywords -/
def BindsK (x : Str) (st : Stmt) (ps : List Str) (m : Nat) (ks : List Str) : Prop := ∀ (kV doc pm : Value) (an : Option Addr) (cdv ct : Value) (us ws : List Value), us.length = m → ws.length = ks.length → bindArgs (PySem.W.fnOf x x (defArgs st) (defBody st) (defScope st) .none kV doc pm an cdv ct) ⟨us, ks.zip ws⟩ = pure (ps.zip (arr ps ks us ws))
theorem BindsP.to {K : PySem.W.Frag} {x : Str} {st : Stmt} {ps : List Str} {f : Addr} {fd : FuncData} (b : BindsP x st ps) (F : L2.Fun K x x st f fd) (us : List Value) (hl : us.length = ps.length) : bindArgs fd ⟨us, []⟩ = pure (ps.zip us) := by
  obtain ⟨oc, od, kV, doc, pm, an, cdv, ct, osl, rfl, lk, hcd⟩ := F.ex
  exact b kV doc pm an cdv ct us hl
theorem BindsK.to {K : PySem.W.Frag} {x : Str} {st : Stmt} {ps ks : List Str} {m : Nat} {f : Addr} {fd : FuncData} (b : BindsK x st ps m ks) (F : L2.Fun K x x st f fd) (us ws : List Value) (h1 : us.length = m) (h2 : ws.length = ks.length) : bindArgs fd ⟨us, ks.zip ws⟩ = pure (ps.zip (arr ps ks us ws)) := by
  obtain ⟨oc, od, kV, doc, pm, an, cdv, ct, osl, rfl, lk, hcd⟩ := F.ex
  exact b kV doc pm an cdv ct us ws h1 h2
theorem lookup_rel (p : Str) : ∀ {ks : List Str} {zs : List V} {ws : List Value}, Vals zs ws → (List.lookup p (ks.zip zs) = none ∧ List.lookup p (ks.zip ws) = none) ∨ ∃ z w, List.lookup p (ks.zip zs) = some z ∧ List.lookup p (ks.zip ws) = some w ∧ RelV z w
  | [], _, _, _ => .inl ⟨rfl, rfl⟩
  | _ :: _, _, _, .nil => .inl ⟨rfl, rfl⟩
  | q :: ks, _, _, .cons (a := z) (b := w) r t => by
    rw [List.zip_cons_cons, List.zip_cons_cons, List.lookup_cons, List.lookup_cons]
    cases p == q with
    | true => exact .inr ⟨_, _, rfl, rfl, r⟩
    | false => exact lookup_rel (ks := ks) p t
theorem lookup_relD {K : PySem.W.Frag} {F : Hp} {q : List Addr} (p : Str) : ∀ {ks : List Str} {zs : List V} {ds : List D}, IsDs K F q zs ds → (List.lookup p (ks.zip zs) = none ∧ List.lookup p (ks.zip ds) = none) ∨ ∃ z d, List.lookup p (ks.zip zs) = some z ∧ List.lookup p (ks.zip ds) = some d ∧ IsD K F q z d
  | [], _, _, _ => .inl ⟨rfl, rfl⟩
  | _ :: _, _, _, .nil => .inl ⟨rfl, rfl⟩
  | k :: ks, _, _, .cons (v := z) (d := d) r t => by
    rw [List.zip_cons_cons, List.zip_cons_cons, List.lookup_cons, List.lookup_cons]
    cases p == k with
    | true => exact .inr ⟨_, _, rfl, rfl, r⟩
    | false => exact lookup_relD p t
theorem Paired.len {zs : List V} {ws : List Value} (h : Vals zs ws) : zs.length = ws.length := h.length
theorem arr_rel {ps ks : List Str} {vs zs : List V} {us ws : List Value} (h : Vals vs us) (g : Vals zs ws) : Vals (arr ps ks vs zs) (arr ps ks us ws) := by
  unfold arr
  rw [h.length]
  refine h.append ?_
  generalize ps.drop us.length = l
  induction l with
  | nil => exact .nil
  | cons p l ih =>
    rcases lookup_rel (ks := ks) p g with ⟨h1, h2⟩ | ⟨z, w, h1, h2, r⟩
    · rw [List.filterMap_cons_none (by exact h1), List.filterMap_cons_none (by exact h2)]; exact ih
    · rw [List.filterMap_cons_some (by exact h1), List.filterMap_cons_some (by exact h2)]; exact .cons r ih
theorem arr_relD {K : PySem.W.Frag} {F : Hp} {q : List Addr} {ps ks : List Str} {vs zs : List V} {ds es : List D} (h : IsDs K F q vs ds) (g : IsDs K F q zs es) : IsDs K F q (arr ps ks vs zs) (arr ps ks ds es) := by
  unfold arr
  rw [h.length]
  refine h.append ?_
  generalize ps.drop ds.length = l
  induction l with
  | nil => exact .nil
  | cons p l ih =>
    rcases lookup_relD (ks := ks) p g with ⟨h1, h2⟩ | ⟨z, w, h1, h2, r⟩
    · rw [List.filterMap_cons_none (by exact h1), List.filterMap_cons_none (by exact h2)]; exact ih
    · rw [List.filterMap_cons_some (by exact h1), List.filterMap_cons_some (by exact h2)]; exact .cons r ih
section
variable {X : Cx} {W : WX} {pos : Pos} {al : Bool} {k : Nat} {x : Str} {st : Stmt} {ps : List Str} {c : List D → Store → O Res}
theorem own_imp {Q : VK} {ds : List D} {S1 : Store} {vs : List V} {F1 : Hp} {p1 : List Addr} {H1 : Hp} {E : Ex → Rho → Store → Prop} {E2 : XK} (hn : ∀ ds S, ds.length ≠ ps.length → c ds S = .no) (R1 : Hld X.K S1 F1 p1 H1) (hd : IsDs X.K F1 p1 vs ds) (q : ((c ds S1).calm.bind fun r S2 => settle al r S2).holds (OkEE X.K Q F1 p1 H1) E) :
    spF X.K ps.length c vs H1 Q E2 := by
  have hl : ds.length = ps.length := by
    by_cases h : ds.length = ps.length
    · exact h
    · rw [hn ds S1 h] at q; exact False.elim q
  refine ⟨by rw [hd.length, hl], S1, F1, p1, ds, R1, hd, ?_⟩
  cases e : (c ds S1).calm with
  | no => rw [e] at q; exact False.elim q
  | er x ρ S => cases h : c ds S1 <;> rw [h] at e <;> cases e
  | ok r S2 =>
    rw [e] at q
    have q : (settle al r S2).holds (OkEE X.K Q F1 p1 H1) E := q
    show OkR X.K F1 p1 H1 Q r S2
    intro v F' p' H' n R' hr
    cases r with
    | d d => exact (show OkE X.K F1 p1 H1 Q d S2 from q) v F' p' H' n R' hr
    | new xs =>
      obtain ⟨a, us, rfl, g1, g2, g3, g4, g5, g6⟩ := hr
      exact settle_at R' n g2 g3 g4 g1 g5 g6 q
theorem run_fnG {CX : CXT} {f : Addr} {fd : FuncData} {sp : Sp} {E : XK} {pins : List (Addr × Obj)} {σ : St} {H : Hp} {s : Shared} {Q : VK} {args : Args} {us : List Value} {vs : List V} {kw : List (Str × Value)} {us0 : List Value} (F : FnG X.prog X.w X.K X.mg X.base CX k f fd ps sp) (hr : Room k X.A) (hgd : X.A.guards = some []) (hb : (us.length = ps.length) → BindsTo s fd ⟨us0, kw⟩ (ps.zip us)) (hx : Passes CX X E)
    (I : Inv X pins σ H s) (r : Vals vs us) (h : sp vs H Q E) : wpAny (model X.prog X.w) X.A (call (.ref f) us0 kw) (EP X pins σ Q) X.xe s := by
  have hl : us.length = ps.length := by rw [← r.length]; exact F.len _ _ _ _ h
  refine wpAny_call (codeAny_mono (F.run X.A X.stack s H ⟨us0, kw⟩ us vs Q E hr hgd I.env0 (hb hl) r h) fun r s' hq => ?_)
  cases r with
  | error e => exact hx pins σ H s e s' I hq
  | ok fl =>
    cases fl with
    | ret u => exact I.after hq
    | next => exact False.elim hq
    | brk => exact False.elim hq
    | cont => exact False.elim hq
theorem s_own {e : Expr} {es : List Expr} {g : EvL} {p : Pos} (ow : Own X.prog X.w X.K X.mg X.base k x st ps c) (hr : Room k X.A) (hgd : X.A.guards = some []) (hg : Gl X x) (hb : BindsP x st ps) (ha : PA X (e :: es) (tL X.K W g))
    (hdb : (x == ("__debug__" : Str)) = false) (he : starEach (e :: es) X.env = (false, eval e X.env) :: starEach es X.env) (hpl : (backTo pos (starEach es X.env)).any (·.1) = false) :
    PE X (.Call (.Name x p) (e :: es) [] pos) (tE X.K W (eOwn al c g)) := by
  obtain ⟨f, fd, Fu, F, hm⟩ := ow.ex
  have hk := Fu.kp
  refine ⟨fun pins s σ H Q I ⟨ρ, S, F0, p0, R, L, q⟩ => ?_⟩
  refine wpAny_Call_Name_kw (ld_glob I hg hm ?_ hdb)
  refine PySem.W.callWith_K (h₀ := X.base) I.ok.mod.kin hk (thn (ha.run pos pins s σ H _ I (seqL OkEE.mono R L q fun ds S1 vs F1 p1 H1 n R1 L1 hd q => own_imp (E2 := fun _ _ _ => False) ow.len R1 hd q)) fun us s1 ⟨vs, H1, I1, r, q⟩ => ⟨I1.kIn, ?_⟩) he hpl
  exact run_fnG (args := ⟨us, []⟩) F hr hgd (fun hl => .of_eq (hb.to Fu us hl)) (fun _ _ _ _ _ _ _ h => h.elim) I1 r q
theorem s_own0 {p : Pos} (ow : Own X.prog X.w X.K X.mg X.base k x st ps c) (hr : Room k X.A) (hgd : X.A.guards = some []) (hg : Gl X x) (hb : BindsP x st ps) (hdb : (x == ("__debug__" : Str)) = false) :
    PE X (.Call (.Name x p) [] [] pos) (tE X.K W (eOwn al c eNil)) := by
  obtain ⟨f, fd, Fu, F, hm⟩ := ow.ex
  have hk := Fu.kp
  refine ⟨fun pins s σ H Q I ⟨ρ, S, F0, p0, R, L, q⟩ => ?_⟩
  refine wpAny_Call_Name_kw (ld_glob I hg hm ?_ hdb)
  exact PySem.W.callWith_K0 I.kIn hk (run_fnG (us := []) (vs := []) (args := ⟨[], []⟩) F hr hgd (fun hl => .of_eq (hb.to Fu [] hl)) (fun _ _ _ _ _ _ _ h => h.elim) I .nil (own_imp (E2 := fun _ _ _ => False) ow.len R .nil q))
/-- with keywords -/
theorem s_ownK {m : Nat} {ks : List Str} {e : Expr} {es : List Expr} {kws : List Keyword} {g h : EvL} {p : Pos} (ow : Own X.prog X.w X.K X.mg X.base k x st ps c) (hr : Room k X.A) (hgd : X.A.guards = some []) (hg : Gl X x) (hb : BindsK x st ps m ks) (ha : PA X (e :: es) (tL X.K W g)) (hkw : PK X kws (tL X.K W h))
    (hall : (backToKw pos (keywordEach kws X.env)).all (·.1.isSome) = true) (hks : (backToKw pos (keywordEach kws X.env)).filterMap (·.1) = ks)
    (hdb : (x == ("__debug__" : Str)) = false) (he : starEach (e :: es) X.env = (false, eval e X.env) :: starEach es X.env)
    (hpl : ((backTo pos (starEach (e :: es) X.env)).any (·.1) || (backToKw pos (keywordEach kws X.env)).any (·.1.isNone)) = false) :
    PE X (.Call (.Name x p) (e :: es) kws pos) (tE X.K W (eOwnK al c m ps ks g h)) := by
  obtain ⟨f, fd, Fu, F, hm⟩ := ow.ex
  have hk := Fu.kp
  refine ⟨fun pins s σ H Q I ⟨ρ, S, F0, p0, R, L, q⟩ => ?_⟩
  refine wpAny_Call_Name_kw (ld_glob I hg hm ?_ hdb)
  refine PySem.W.callWith_KW (h₀ := X.base) I.ok.mod.kin hk hall (thn (ha.run pos pins s σ H (fun vs H1 => tL X.K W h σ H1 fun zs H2 => spF X.K ps.length c (arr ps ks vs zs) H2 Q (fun _ _ _ => False) ∧ vs.length = m ∧ zs.length = ks.length) I (seqL OkEE.mono R L q fun ds S1 vs F1 p1 H1 n R1 L1 hd q => seqL OkEE.mono R1 L1 q fun es S2 zs F2 p2 H2 n2 R2 L2 hz q => ?_)) fun us s1 ⟨vs, H1, I1, r, q⟩ => ?_) hpl he
  · split at q
    · rename_i hl
      exact ⟨own_imp ow.len R2 (arr_relD (hd.nx n2) hz) q, by rw [hd.length, hl.1], by rw [hz.length, hl.2]⟩
    · exact False.elim q
  · refine thn (hkw.run pos pins s1 σ H1 _ I1 q) fun ws s2 ⟨zs, H2, I2, rz, q2, l1, l2⟩ => ⟨I2.kIn, ?_⟩
    rw [hks]
    exact run_fnG (args := ⟨us, []⟩) F hr hgd (fun hl => .of_eq (hb.to Fu us ws (by rw [← r.length]; exact l1) (by rw [← rz.length]; exact l2))) (fun _ _ _ _ _ _ _ h => h.elim) I2 (arr_rel r rz) q2
theorem s_ownK0 {ks : List Str} {kws : List Keyword} {h : EvL} {p : Pos} (ow : Own X.prog X.w X.K X.mg X.base k x st ps c) (hr : Room k X.A) (hgd : X.A.guards = some []) (hg : Gl X x) (hb : BindsK x st ps 0 ks) (hkw : PK X kws (tL X.K W h))
    (hall : (backToKw pos (keywordEach kws X.env)).all (·.1.isSome) = true) (hks : (backToKw pos (keywordEach kws X.env)).filterMap (·.1) = ks)
    (hdb : (x == ("__debug__" : Str)) = false) (hpl : ((backTo pos (starEach [] X.env)).any (·.1) || (backToKw pos (keywordEach kws X.env)).any (·.1.isNone)) = false) :
    PE X (.Call (.Name x p) [] kws pos) (tE X.K W (eOwnK al c 0 ps ks eNil h)) := by
  obtain ⟨f, fd, Fu, F, hm⟩ := ow.ex
  have hk := Fu.kp
  refine ⟨fun pins s σ H Q I ⟨ρ, S, F0, p0, R, L, q⟩ => ?_⟩
  refine wpAny_Call_Name_kw (ld_glob I hg hm ?_ hdb)
  have q : ((h ρ S).bind fun es S2 => if ([] : List D).length = 0 ∧ es.length = ks.length then (c (arr ps ks [] es) S2).calm.bind fun r S3 => settle al r S3 else .no).holds (OkEE X.K Q F0 p0 H) (ErP X.K W F0 p0 H) := q
  refine PySem.W.callWith_KW0 (h₀ := X.base) I.ok.mod.kin hk hall (thn (hkw.run pos pins s σ H (fun zs H2 => spF X.K ps.length c (arr ps ks [] zs) H2 Q (fun _ _ _ => False) ∧ zs.length = ks.length) I (seqL OkEE.mono R L q fun es S2 zs F2 p2 H2 n2 R2 L2 hz q => ?_)) fun ws s2 ⟨zs, H2, I2, rz, q2, l2⟩ => ⟨I2.kIn, ?_⟩) hpl
  · split at q
    · rename_i hl
      exact ⟨own_imp ow.len R2 (arr_relD .nil hz) q, by rw [hz.length, hl.2]⟩
    · exact False.elim q
  · rw [hks]
    exact run_fnG (args := ⟨[], []⟩) F hr hgd (fun hl => .of_eq (hb.to Fu [] ws rfl (by rw [← rz.length]; exact l2))) (fun _ _ _ _ _ _ _ h => h.elim) I2 (arr_rel .nil rz) q2
end
/-- a def's body keeps the def's promise -/
theorem own_of {P : Program} {w : World} {K : PySem.W.Frag} {mg : Str → Option Value} {base : Heap} {k : Nat} {x : Str} {f : Addr} {st : Stmt} {fd : FuncData} {N ps : List Str} {b : EvS} (Fn : L2.Fun K x x st f fd) (hm : mg x = some (.ref f)) (S : FnScope N ps (defScope st))
    (hbody : ∀ (cdv : Value) (A : Around) (outer : List Env) (s : Shared) (H : Hp) (E : XK), Room k (A.deeper (envOfC x (defScope st) s.heap.objs.size f cdv)) → (A.deeper (envOfC x (defScope st) s.heap.objs.size f cdv)).guards = some [] →
      PSs (cxOf L2.CX0 P w K mg base N x (defScope st) f cdv A outer s H E).nox (defBody st) (tS K (fun _ _ _ _ => False) b)) : Own P w K mg base (k + 1) x st ps (runF ps.length N.length b) := by
  have hpl : ps.length ≤ N.length := by have := congrArg List.length S.pre; rw [List.length_take] at this; omega
  refine ⟨⟨f, fd, Fn, ?_, hm⟩, fun ds S h => if_neg h⟩
  obtain ⟨oc, od, kV, doc, pm, an, cdv, ct, osl, rfl, lk, hcd⟩ := Fn.ex
  refine fn_ofG lk hcd S (fun vs H Q E h => h.1) fun A outer s H vs Q E hr hg hsp => ⟨_, (hbody cdv A outer s H E hr hg).nox, ?_⟩
  obtain ⟨hl, S0, F, p, ds, R, hd, h⟩ := hsp
  have hdl : ds.length = ps.length := by rw [← hd.length]; exact hl
  have h : (((b (ds.map some ++ List.replicate (N.length - ps.length) none) S0).bind fun fl S1 => (match fl with
      | .nx _ => retF S0.length .non S1
      | .rt d => retF S0.length d S1)).calm).holds (OkR K F p H Q) EF := by
    have e : runF ps.length N.length b ds S0 = _ := if_pos hdl
    rw [e] at h
    exact h
  have h := O.bind_holds.mp (calm_holds h)
  refine ⟨ds.map some ++ List.replicate (N.length - ps.length) none, S0, F, p, R, ⟨?_, fun i d hi => ?_⟩, O.holds_mono h (fun fl S1 q => ?_) fun _ _ _ z => False.elim z⟩
  · unfold L2.start
    simp [hl, hdl]
  · have hi' : i < ds.length := by
      by_cases hi' : i < ds.length
      · exact hi'
      · rw [List.getElem?_append_right (by simpa using hi'), List.getElem?_replicate] at hi
        split at hi <;> cases hi
    rw [List.getElem?_append_left (by simpa using hi'), List.getElem?_map] at hi
    cases e : ds[i]? with
    | none => rw [e] at hi; cases hi
    | some d' =>
      rw [e] at hi
      cases hi
      obtain ⟨v, h1, h2⟩ := hd.get e
      refine ⟨v, ?_, h2⟩
      unfold L2.start
      rw [List.getElem?_append_left (by rw [List.length_map, hl, ← hdl]; exact hi'), List.getElem?_map, h1]
      rfl
  · cases fl with
    | nx ρ' => exact fun σ' F1 p1 H1 n R1 L1 => ret_ok R n R1 .non q
    | rt d => exact fun v F1 p1 H1 n R1 hv => ret_ok R n R1 hv q
end DI
/-! DI: a call in the part of the store that its arguments name. -/
namespace DI
open PySem PySem.Spec L2
open PyProof.Rows hiding St
section
variable {K : PySem.W.Frag} {F : Hp} {p q : List Addr}
mutual
theorem IsD.low0 : ∀ {v : V} {d : D}, IsD K F p v d → d.low 0 = true → IsD K F q v d
  | _, _, .non, _ => .non
  | _, _, .bl b, _ => .bl b
  | _, _, .int i, _ => .int i
  | _, _, .str x, _ => .str x
  | _, _, .lst h l t, w => .lst h l (IsDs.low0 t w)
  | _, _, .tup h l t, w => .tup h l (IsDs.low0 t w)
  | _, _, .scr h l, _ => .scr h l
  | _, _, .emp h, _ => .emp h
  | _, _, .cel (n := n) h, w => absurd (of_decide_eq_true (show decide (n < 0) = true from w)) (Nat.not_lt_zero _)
theorem IsDs.low0 : ∀ {vs : List V} {ds : List D}, IsDs K F p vs ds → lowL 0 ds = true → IsDs K F q vs ds
  | _, _, .nil, _ => .nil
  | _, _, .cons (d := d) (ds := ds) h t, w => by
    have w : (d.low 0 && lowL 0 ds) = true := w
    rw [Bool.and_eq_true] at w
    exact .cons (IsD.low0 h w.1) (IsDs.low0 t w.2)
end
theorem IsK.low0 : ∀ {ws : List (Key × V)} {kvs : List (Key × D)}, IsK K F p ws kvs → lowL 0 (kvs.map (·.2)) = true → IsK K F q ws kvs
  | _, _, .nil, _ => .nil
  | _, _, .cons (d := d) (kvs := kvs) h t, w => by
    have w : (d.low 0 && lowL 0 (kvs.map (·.2))) = true := w
    rw [Bool.and_eq_true] at w
    exact .cons (h.low0 w.1) (IsK.low0 t w.2)
theorem CellAt.low0 {H : Hp} {a : Addr} : ∀ {c : Cell}, CellAt K F p H a c → lowC 0 c = true → CellAt K F q H a c
  | .lst _, ⟨vs, h1, l, h2⟩, w => ⟨vs, h1, l, h2.low0 w⟩
  | .dct _, ⟨ws, h1, h2⟩, w => ⟨ws, h1, h2.low0 w⟩
theorem nodupB_nd : ∀ {ns : List Nat}, nodupB ns = true → ns.Nodup
  | [], _ => List.nodup_nil
  | n :: r, h => by
    simp only [nodupB, Bool.and_eq_true, Bool.not_eq_true'] at h
    refine List.nodup_cons.mpr ⟨fun z => ?_, nodupB_nd h.2⟩
    have := List.contains_iff_mem.mpr z
    rw [h.1] at this; cases this
end
/-- the cells ns of p: addresses -/
def subP (p : List Addr) (ns : List Nat) : List Addr := ns.filterMap fun n => p[n]?
theorem subS_ok {S : Store} {p : List Addr} (hl : p.length = S.length) : ∀ {ns : List Nat} {sub : Store}, subS S ns = some sub → sub.length = ns.length ∧ (subP p ns).length = ns.length ∧ (∀ (i n : Nat), ns[i]? = some n → ∃ a c, p[n]? = some a ∧ (subP p ns)[i]? = some a ∧ S[n]? = some (some c) ∧ sub[i]? = some (some c) ∧ lowC 0 c = true)
  | [], sub, h => by cases h; exact ⟨rfl, rfl, fun i n z => by simp at z⟩
  | n :: r, sub, h => by
    unfold subS at h
    split at h
    · rename_i c t h1 h2
      split at h
      · rename_i hc
        cases h
        obtain ⟨l1, l2, g⟩ := subS_ok hl h2
        have hn : n < p.length := by rw [hl]; exact (List.getElem?_eq_some_iff.mp h1).1
        have ha : p[n]? = some p[n] := List.getElem?_eq_getElem hn
        have e : subP p (n :: r) = p[n] :: subP p r := by unfold subP; rw [List.filterMap_cons_some ha]
        refine ⟨by simp [l1], by rw [e]; simp [l2], fun i m z => ?_⟩
        cases i with
        | zero =>
          simp at z; subst z
          exact ⟨p[n], c, ha, by rw [e]; rfl, h1, rfl, hc⟩
        | succ i =>
          obtain ⟨a, c', q1, q2, q3, q4, q5⟩ := g i m (by simpa using z)
          exact ⟨a, c', q1, by rw [e]; simpa using q2, q3, by simpa using q4, q5⟩
      · cases h
    · cases h
theorem subP_nd {p : List Addr} (nd : p.Nodup) : ∀ {ns : List Nat}, ns.Nodup → (subP p ns).Nodup
  | [], _ => List.nodup_nil
  | n :: r, hn => by
    obtain ⟨n1, n2⟩ := List.nodup_cons.mp hn
    unfold subP
    cases e : p[n]? with
    | none => rw [List.filterMap_cons_none e]; exact subP_nd nd n2
    | some a =>
      rw [List.filterMap_cons_some e]
      refine List.nodup_cons.mpr ⟨fun z => ?_, subP_nd nd n2⟩
      obtain ⟨m, hm, e2⟩ := List.mem_filterMap.mp z
      rw [nodup_get nd e e2] at n1
      exact n1 hm
theorem putS_len : ∀ {ns : List Nat} {S T : Store}, (putS S ns T).length = S.length
  | [], S, T => by cases T <;> rfl
  | n :: ns, S, [] => rfl
  | n :: ns, S, c :: cs => by
    unfold putS
    rw [putS_len, List.length_set]
theorem putS_get : ∀ {ns : List Nat} {S T : Store} {m : Nat} {c : Cell}, ns.Nodup → T.length = ns.length → (putS S ns T)[m]? = some (some c) → (m ∉ ns ∧ S[m]? = some (some c)) ∨ ∃ i : Nat, ns[i]? = some m ∧ T[i]? = some (some c) ∧ lowC 0 c = true
  | [], S, T, m, c, _, _, h => .inl ⟨List.not_mem_nil, by cases T <;> exact h⟩
  | n :: ns, S, [], m, c, _, hl, _ => by simp at hl
  | n :: ns, S, t :: T, m, c, nd, hl, h => by
    unfold putS at h
    obtain ⟨n1, n2⟩ := List.nodup_cons.mp nd
    rcases putS_get n2 (by simpa using hl) h with ⟨h1, h2⟩ | ⟨i, h1, h2, h3⟩
    · by_cases e : n = m
      · subst e
        right
        refine ⟨0, rfl, ?_⟩
        by_cases hs : n < S.length
        · rw [List.getElem?_set_self hs] at h2
          have h2 : cleanC 0 t = some c := Option.some.inj h2
          unfold cleanC at h2
          cases t with
          | none => cases h2
          | some c' =>
            simp only [] at h2
            split at h2
            · cases h2; exact ⟨rfl, by assumption⟩
            · cases h2
        · rw [List.getElem?_eq_none (by simpa using hs)] at h2; cases h2
      · rw [List.getElem?_set_ne e] at h2
        exact .inl ⟨fun z => (List.mem_cons.mp z).elim (fun z => e z.symm) h1, h2⟩
    · exact .inr ⟨i + 1, by simpa using h1, by simpa using h2, h3⟩
theorem frame_ds {K : PySem.W.Frag} {S : Store} {F : Hp} {p : List Addr} {ns : List Nat} {sub : Store} (hl : p.length = S.length) (h : subS S ns = some sub) : ∀ {vs : List V} {ds : List D}, IsDs K F p vs ds → (∀ n ∈ celsOf ds, n ∈ ns) → ds.all flat = true → IsDs K F (subP p ns) vs (ds.map (renum ns))
  | _, _, .nil, _, _ => .nil
  | _, _, .cons (d := d) (ds := ds) hd t, hm, hf => by
    rw [List.all_cons, Bool.and_eq_true] at hf
    rw [List.map_cons]
    cases hd with
    | @cel a n hp =>
      have hn : n ∈ ns := hm n List.mem_cons_self
      refine .cons (.cel ?_) (frame_ds hl h t (fun m z => hm m (List.mem_cons_of_mem _ z)) hf.2)
      obtain ⟨a', c, q1, q2, _⟩ := (subS_ok hl h).2.2 (ns.idxOf n) n (by rw [List.getElem?_eq_getElem (List.idxOf_lt_length_of_mem hn), List.getElem_idxOf (List.idxOf_lt_length_of_mem hn)])
      rw [hp] at q1; cases q1
      exact q2
    | non => exact .cons .non (frame_ds hl h t (fun m z => hm m z) hf.2)
    | bl b => exact .cons (.bl b) (frame_ds hl h t (fun m z => hm m z) hf.2)
    | int b => exact .cons (.int b) (frame_ds hl h t (fun m z => hm m z) hf.2)
    | str b => exact .cons (.str b) (frame_ds hl h t (fun m z => hm m z) hf.2)
    | lst h1 h2 h3 => exact .cons ((IsD.lst h1 h2 h3).low0 hf.1) (frame_ds hl h t (fun m z => hm m z) hf.2)
    | tup h1 h2 h3 => exact .cons ((IsD.tup h1 h2 h3).low0 hf.1) (frame_ds hl h t (fun m z => hm m z) hf.2)
    | scr h1 h2 => exact .cons (.scr h1 h2) (frame_ds hl h t (fun m z => hm m z) hf.2)
    | emp h1 => exact .cons (.emp h1) (frame_ds hl h t (fun m z => hm m z) hf.2)
theorem spF_frame {K : PySem.W.Frag} {n : Nat} {c : List D → Store → O Res} {vs : List V} {H : Hp} {Q : VK} {E : XK} (h : spF K n (frame c) vs H Q E) : spF K n c vs H Q E := by
  obtain ⟨hl, S, F, p, ds, R, hd, h⟩ := h
  unfold frame at h
  split at h
  · rename_i hcond
    rw [Bool.and_eq_true] at hcond
    split at h
    · rename_i sub hsub
      obtain ⟨l1, l2, g⟩ := subS_ok R.len hsub
      have nd := nodupB_nd hcond.1
      have ndP := subP_nd R.nd nd
      have mem : ∀ a, a ∈ subP p (celsOf ds) → a ∈ p := fun a ha => by
        obtain ⟨n, _, e⟩ := List.mem_filterMap.mp ha
        exact List.mem_of_getElem? e
      have R' : Hld K sub F (subP p (celsOf ds)) H := by
        refine ⟨R.sub, by rw [l1, l2], ndP, fun a ha => R.there a (mem a ha), fun i a c' hp hs => ?_⟩
        have hi : i < (celsOf ds).length := by rw [← l1]; exact (List.getElem?_eq_some_iff.mp hs).1
        obtain ⟨a', c'', q1, q2, q3, q4, q5⟩ := g i _ (List.getElem?_eq_getElem hi)
        rw [hp] at q2; cases q2
        rw [hs] at q4; cases q4
        obtain ⟨f1, f2⟩ := R.cell _ _ _ q1 q3
        exact ⟨f1, f2.low0 q5⟩
      refine ⟨hl, sub, F, subP p (celsOf ds), ds.map (renum (celsOf ds)), R', frame_ds R.len hsub hd (fun _ z => z) hcond.2, ?_⟩
      have h := O.bind_holds.mp (calm_holds h)
      have h : (c (ds.map (renum (celsOf ds))) sub).calm.holds _ EF := h
      refine O.holds_mono h (fun r S' q => ?_) fun _ _ _ z => z
      split at q
      · rename_i hlen
        split at q
        · rename_i r' hr'
          intro v F' p' H' n' R2 hres
          have ep : p' = subP p (celsOf ds) := by
            obtain ⟨t, rfl⟩ := n'.pre
            have : t = [] := by
              have := R2.len
              rw [List.length_append, hlen, l1, l2] at this
              exact List.eq_nil_of_length_eq_zero (by omega)
            rw [this, List.append_nil]
          subst ep
          have R3 : Hld K (putS S (celsOf ds) S') F' p H' := by
            refine ⟨R2.sub, by rw [putS_len, R.len], R.nd, fun a ha => ?_, fun m a c' hp hs => ?_⟩
            · by_cases hm : a ∈ subP p (celsOf ds)
              · exact R2.there a hm
              · cases e : H a with
                | none => exact absurd e (R.there a ha)
                | some o => rw [n'.keep a o e hm]; exact fun z => nomatch z
            · rcases putS_get nd (by rw [hlen, l1]) hs with ⟨h1, h2⟩ | ⟨i, h1, h2, h3⟩
              · obtain ⟨f1, f2⟩ := R.cell m a c' hp h2
                have na : a ∉ subP p (celsOf ds) := fun z => by
                  obtain ⟨m', hm', e⟩ := List.mem_filterMap.mp z
                  rw [nodup_get R.nd hp e] at h1
                  exact h1 hm'
                have ha : H a ≠ none := R.there a (List.mem_of_getElem? hp)
                refine ⟨?_, f2.mono n'.ext (fun _ _ z => z) ?_⟩
                · cases e : F' a with
                  | none => rfl
                  | some o =>
                    rcases n'.newF a (by rw [e]; exact fun z => nomatch z) f1 with z | z
                    · exact absurd z ha
                    · exact absurd z na
                · cases e : H a with
                  | none => exact absurd e ha
                  | some o => rw [n'.keep a o e na]
              · obtain ⟨a', c'', q1, q2, q3, q4, q5⟩ := g i m h1
                rw [hp] at q1; cases q1
                obtain ⟨f1, f2⟩ := R2.cell i a c' q2 h2
                exact ⟨f1, f2.low0 h3⟩
          have n3 : Nx F p H F' p H' := ⟨n'.ext, List.prefix_refl _, fun a o e ha => n'.keep a o e fun z => ha (mem a z), fun a z hn => absurd z hn, fun a z hn => (n'.newF a z hn).imp id (mem a)⟩
          refine (show OkR K F p H Q r' (putS S (celsOf ds) S') from q) v F' p H' n3 R3 ?_
          cases r with
          | new xs =>
            obtain ⟨x, us, rfl, g1, g2, g3, g4, g5, g6⟩ := hres
            have hr' : (if lowL 0 xs then some (Res.new xs) else none) = some r' := hr'
            split at hr'
            · rename_i hlow
              cases hr'
              refine ⟨x, us, rfl, g1, g2, fun z => R.there x z g4, g4, g5, g6.low0 hlow⟩
            · cases hr'
          | d d =>
            have hres : IsD K F' (subP p (celsOf ds)) v d := hres
            cases hres with
            | @cel a i hp =>
              obtain ⟨m, hm, rfl⟩ := Option.map_eq_some_iff.mp (show ((celsOf ds)[i]?).map _ = some r' from hr')
              obtain ⟨a', c'', q1, q2, _⟩ := g i m hm
              rw [hp] at q2; cases q2
              exact .cel q1
            | lst h1 h2 h3 =>
              have hr' : (if (D.lst _).low 0 then some (Res.d (.lst _)) else none) = some r' := hr'
              split at hr'
              · cases hr'; exact (IsD.lst h1 h2 h3).low0 (by assumption)
              · cases hr'
            | tup h1 h2 h3 =>
              have hr' : (if (D.tup _).low 0 then some (Res.d (.tup _)) else none) = some r' := hr'
              split at hr'
              · cases hr'; exact (IsD.tup h1 h2 h3).low0 (by assumption)
              · cases hr'
            | non => cases hr'; exact .non
            | bl b => cases hr'; exact .bl b
            | int b => cases hr'; exact .int b
            | str b => cases hr'; exact .str b
            | scr h1 h2 => cases hr'; exact .scr h1 h2
            | emp h1 => cases hr'; exact .emp h1
        · exact False.elim q
      · exact False.elim q
    · exact False.elim h
  · exact False.elim h
theorem Own.frame {P : Program} {w : World} {K : PySem.W.Frag} {mg : Str → Option Value} {base : Heap} {k : Nat} {x : Str} {st : Stmt} {ps : List Str} {c : List D → Store → O Res} (o : Own P w K mg base k x st ps c) : Own P w K mg base k x st ps (DI.frame c) := by
  obtain ⟨f, fd, Fu, F, hm⟩ := o.ex
  refine ⟨⟨f, fd, Fu, ⟨fun vs H Q E h => h.1, fun A outer s H args us vs Q E hr hg e hb hv h => F.run A outer s H args us vs Q E hr hg e hb hv (spF_frame h)⟩, hm⟩, fun ds S h => ?_⟩
  unfold DI.frame
  split
  · split
    · rw [o.len _ _ (by rw [List.length_map]; exact h)]; rfl
    · rfl
  · rfl
end DI
/-! DI: the law's own head. -/
namespace DI
open PySem PySem.Spec L2
open PyProof.Rows hiding St
def SysD (base : Heap) : Prop := ∃ o es ep, base.get? sysModules = some o ∧ o.data = .dict es ep
theorem law_callG {P : Program} {w : World} {K : PySem.W.Frag} {mg mb : Str → Option Value} {CX : CXT} {k : Nat} {fa a : Addr} {fd : FuncData} {x : Str} {sp : Sp} {s₁ : Shared} {vs : List Value} {ns : List Int}
    (KX : K.In s₁.heap) (hns : s₁.heap.Ns mainGlobals mg) (hb : s₁.heap.Ns builtinsNs mb) (hbb : ∀ x : Str, x ≠ "__name__" → mb x = bootBuiltins x) (hlim : s₁.heap.NoLimit) (hmm : ∃ mm, s₁.heap.Ns sysModules mm) (hg : s₁.gens = #[])
    (ha : s₁.heap.get? a = some { cls := .type "list", data := .seq vs.toArray }) (hi : IntsAre vs ns) (hl : ns.length ≤ sizeLine) (hr : Room k callerA)
    (F : ∀ base : Heap, K.In base → base.Ns mainGlobals mg → SysD base → FnG P w K mg base CX k fa fd [x] sp) (hbind : ∀ (s : Shared) (u : Value), BindsTo s fd ⟨[u], []⟩ [(x, u)])
    (hsp : ∀ H : Hp, Only H → SqL K H a (ns.map V.int) → sp [.ref a] H (fun v _ => v = .bl true) fun _ _ _ => False)
    (hCX : ∀ H e s', CX [] H s₁ (fun _ _ _ => False) e s' → False) :
    codeAny (model P w) callerA (.call (.ref fa) ⟨[.ref a], []⟩) (fun r s' => r = .ok (.ret (.bool true)) ∧ OldK s₁.heap s'.heap ∧ s'.os = s₁.os ∧ AllBare s'.gens) s₁ := by
  have rv := vals_ints hi
  have lenV := hi.length
  have core : ∀ H : Hp, Only H → SqL K H a (ns.map V.int) → HOk P w H s₁.heap → (∀ b, H b ≠ none → b = a) → (H a ≠ none → K.lookup a = none) →
      codeAny (model P w) callerA (.call (.ref fa) ⟨[.ref a], []⟩) (fun r s' => r = .ok (.ret (.bool true)) ∧ OldK s₁.heap s'.heap ∧ s'.os = s₁.os ∧ AllBare s'.gens) s₁ := by
    intro H hO hS hok hA hK
    have base_of : ∀ {b : Addr} {o : Obj}, s₁.heap.get? b = some o → H b = none → (hidT s₁.heap H).get? b = some o := fun e n => hidT_get e n
    have noA : ∀ {b : Addr} {o : Obj} {es : Array DictEntry} {ep : Nat}, s₁.heap.get? b = some o → o.data = .dict es ep → H b = none := fun {b o es ep} e d => by
      cases q : H b with
      | none => rfl
      | some u =>
        have e' : b = a := hA b (by rw [q]; simp)
        subst e'
        rw [ha] at e; cases e
        have d' : Data.seq vs.toArray _ = Data.dict es ep := d
        cases d'
    have nsK : ∀ {b : Addr} {m : Str → Option Value}, s₁.heap.Ns b m → (hidT s₁.heap H).Ns b m := fun {b m} ⟨o, es, ep, e, d, r⟩ => ⟨o, es, ep, base_of e (noA e d), d, r⟩
    have hKb : K.In (hidT s₁.heap H) := fun b o e => base_of (KX b o e) (by
      cases q : H b with
      | none => rfl
      | some u =>
        have e' : b = a := hA b (by rw [q]; simp)
        subst e'
        rw [hK (by rw [q]; simp)] at e; cases e)
    have hM : Mod K mg (hidT s₁.heap H) := ⟨hKb, nsK hns, ⟨mb, nsK hb, hbb⟩, let ⟨mc, h1, h2⟩ := hlim; ⟨mc, nsK h1, h2⟩⟩
    have hS2 : SysD (hidT s₁.heap H) := by
      obtain ⟨mm, h⟩ := hmm
      obtain ⟨o, es, ep, e, d, r⟩ := nsK h
      exact ⟨o, es, ep, e, d⟩
    have e0 : Env0 P w K mg (hidT s₁.heap H) callerA [] s₁ H := ⟨rfl, hM, fun b o e => of_hidT e, Nat.le_of_eq (hidT_size _ _), trivial, fun b hb => absurd (show b ∈ ([] : List Addr) from hb) (by simp), hok, .of_eq hg⟩
    refine codeAny_mono ((F _ hKb (nsK hns) hS2).run callerA [] s₁ H ⟨[.ref a], []⟩ [.ref a] [.ref a] _ _ hr rfl e0 (hbind s₁ (.ref a)) (.cons rfl .nil) (hsp H hO hS)) fun r s' h => ?_
    cases r with
    | error e => exact (hCX H e s' h).elim
    | ok fl =>
      cases fl with
      | next => exact False.elim h
      | brk => exact False.elim h
      | cont => exact False.elim h
      | ret u =>
        obtain ⟨v, H', os, bare, un, hok', r', q⟩ := h
        have q' : v = .bl true := q
        subst q'
        obtain rfl : u = Value.bool true := r'
        refine ⟨rfl, OldK.of_keep fun b o e => ?_, os, bare⟩
        cases q : H b with
        | none => exact un.keep b o e q (by intro z; exact absurd (show b ∈ ([] : List Addr) from z) (by simp)) (by simp)
        | some u =>
          rcases hO b with z | ⟨ob, xs, z⟩
          · rw [q] at z; cases z
          · have z2 := un.frzs b ob _ z
            obtain ⟨e1, _⟩ := hok b _ z
            obtain ⟨e2, _⟩ := hok' b _ z2
            rw [e] at e1; cases e1
            exact e2
  cases hk : K.lookup a with
  | some o =>
    have e := KX a o hk
    rw [ha] at e
    cases e
    refine core (fun _ => none) (fun _ => .inl rfl) (.inr ⟨_, vs.toArray, _, hk, rfl, rfl, rfl, by rw [List.size_toArray, lenV]; exact hl, by simpa using rv⟩) (fun b u z => by have z' : (none : Option HO) = some u := z; cases z') (fun b z => absurd rfl z) fun z => absurd rfl z
  | none =>
    refine core (fun b => if b = a then some (.frz { cls := .type "list", data := .seq vs.toArray } (.lst (ns.map V.int))) else none) (fun b => ?_) (.inl (.inr ⟨{ cls := .type "list", data := .seq vs.toArray }, if_pos rfl⟩)) (fun b u z => ?_) (fun b z => ?_) fun _ => hk
    · by_cases hb : b = a
      · exact .inr ⟨_, _, if_pos hb⟩
      · exact .inl (if_neg hb)
    · by_cases hb : b = a
      · have z' := (if_pos hb).symm.trans z
        cases z'
        subst hb
        exact ⟨ha, by rw [List.length_map]; exact hl, vs, _, rv, ha⟩
      · have z' := (if_neg hb).symm.trans z
        cases z'
    · by_cases hb : b = a
      · exact hb
      · exact absurd (if_neg hb) z
/-- constants that the top computes -/
def Consts (lv : List (Str × Int)) (mg : Str → Option Value) : Prop := ∀ p ∈ lv, ∃ v, mg p.1 = some v ∧ RelV (.int p.2) v
theorem consts_of {q : Program} {lv : List (Str × Int)} {mg : Str → Option Value} {h : Heap} (x : PySem.W.XL q (lv.map fun p => (p.1, PySem.W.WData.int p.2)) mg h) : Consts lv mg := fun p hp => by
  obtain ⟨v, h1, h2⟩ := x.2.val (p.1, .int p.2) (List.mem_map.mpr ⟨p, hp, rfl⟩)
  refine ⟨v, h1, ?_⟩
  cases h2
  exact ⟨_, rfl⟩
theorem walk_D {l : PySem.W.OpenLaw} {n k : Nat} {q : Program} {loose : List Str} {XP : (Str → Option Value) → Heap → Prop} {YP : World → Heap → Prop} {d : DefRec} {K : Params → PySem.W.Frag} {x : Str} {c : List D → Store → O Res} {CP : (Str → Option Value) → Prop} {st : Stmt}
    (hn : l.most = some n) (hn2 : n ≤ 63) (hdf : d.params.defaults = []) (hr : Room k callerA) (hsee : importsNone q = true) (hX : ∀ mg h, XP mg h → CP mg)
    (hY : ∀ (w : World) (h : Heap), YP w h → (K w.params).In h)
    (F : ∀ (w : World) (mg : Str → Option Value) (h : Heap), (K w.params).In h → h.Ns mainGlobals mg → CP mg → ∀ base : Heap, SysD base → Own l.prog w (K w.params) mg base k d.name st [x] c)
    (hb : BindsP d.name st [x])
    (hc : ∀ ns : List Int, ns.length ≤ n → ∃ S', c [.scr ns] [] = .ok (.d (.bl true)) S') :
    PySem.W.WalkO q loose XP YP l.row.toRowW d [] (fun f vs => PySem.call f vs) := by
  refine Att.attach_call hn hdf fun w s₀ s₁ mg mb fa o pm cd doc a vs ns G Y ho hd hcd hmg hobj hints hlen hg => ?_
  have KX := hY w _ Y
  have hsys : ∀ base, SysD base → Own l.prog w (K w.params) mg base k d.name st [x] c := fun base hs => F w mg _ KX G.T.g (hX mg _ G.X) base hs
  have hmm : ∃ mm, s₁.heap.Ns sysModules mm := (G.T.seer hsee).mods.elim fun mm h => ⟨mm, h.1⟩
  have s0 : SysD s₁.heap := by
    obtain ⟨mm, o, es, ep, e, d, r⟩ := hmm
    exact ⟨o, es, ep, e, d⟩
  obtain ⟨f, fd, Fu, _, hm⟩ := (hsys _ s0).ex
  rw [hmg] at hm; cases hm
  refine law_callG (CX := L2.CX0) (sp := spF (K w.params) 1 c) KX G.T.g G.T.b G.T.builtins G.T.nolimit hmm hg hobj hints (Nat.le_trans hlen (Nat.le_trans hn2 (by decide))) hr (fun base _ _ hs => ?_) (fun s u => .of_eq (hb.to Fu [u] rfl)) (fun H hO hS => ?_) fun H e s' h => h
  · obtain ⟨f', fd', Fu', Fn, hm'⟩ := (hsys base hs).ex
    rw [hmg] at hm'; cases hm'
    have e : fd' = fd := by
      obtain ⟨_, _, _, _, _, _, _, _, _, _, l1, _⟩ := Fu.ex
      obtain ⟨_, _, _, _, _, _, _, _, _, _, l2, _⟩ := Fu'.ex
      rw [l1] at l2
      have := (Obj.mk.inj (Option.some.inj l2)).2.2.1
      exact (Data.func.inj this).symm
    rw [← e]
    exact Fn
  · obtain ⟨S', e⟩ := hc ns hlen
    refine ⟨rfl, [], H, [], [.scr ns], ⟨fun _ _ z => z, rfl, List.nodup_nil, (fun _ z => nomatch z), fun n a c z => by cases z⟩, .cons (.scr hS (Nat.le_trans hlen hn2)) .nil, ?_⟩
    rw [e]
    intro v F' p' H' _ _ hr
    have hr : IsD _ F' p' v (.bl true) := hr
    cases hr
    rfl
end DI
/-! DI: the rules in short, for printed proofs. -/
namespace DI
open PySem PySem.Spec L2
open PyProof.Rows hiding St
def W0 : WX := fun _ _ _ _ => False
theorem gl {X : Cx} {x : Str} (h : X.env.kindOf x = some .globalImplicit) : Gl X x := h
/-- a name of the module that stands for a value -/
def CstD (K : PySem.W.Frag) (mg : Str → Option Value) (x : Str) (d : D) : Prop := ∃ v u, mg x = some u ∧ RelV v u ∧ ∀ F p, IsD K F p v d
/-- what holds in a body -/
structure Bd (X : Cx) (k : Nat) : Prop where
  room : Room k X.A
  gd : X.A.guards = some []
  sm : Sysm X
  calm : X.calm = true
  nd : X.N.Nodup
theorem Bd.blk {X : Cx} {k : Nat} (B : Bd X k) {s : Shared} {H : Hp} {scope : Scope} {env : Env} {fp : List Addr} : Bd (X.blk s H scope env fp) k := ⟨B.room, B.gd, B.sm, B.calm, B.nd⟩
theorem Bd.u70 {X : Cx} {k : Nat} (B : Bd X k) : X.A.units + 70 < cLine := by have := B.room.un; omega
theorem Bd.u1 {X : Cx} {k : Nat} (B : Bd X k) : X.A.units + 1 < cLine := by have := B.room.un; omega
section
variable {X : Cx} {k : Nat} {a b c : Expr} {f g h : EvE} {pos : Pos} {al : Bool} {es : List Expr} {gl : EvL} {p0 : Pos}
theorem w_int {i : Int} {j : Nat} : PE X (.Constant (.int i) j pos) (tE X.K W0 (eC (.int i))) := s_c pe_int fun _ _ => .int i
theorem w_bl {i : Bool} {j : Nat} : PE X (.Constant (.bool i) j pos) (tE X.K W0 (eC (.bl i))) := s_c pe_bl fun _ _ => .bl i
theorem w_str {i : Str} {j : Nat} : PE X (.Constant (.str i) j pos) (tE X.K W0 (eC (.str i))) := s_c pe_str fun _ _ => .str i
theorem w_non {j : Nat} : PE X (.Constant .none j pos) (tE X.K W0 (eC .non)) := s_c pe_non fun _ _ => .non
/-- a constant of the module -/
theorem w_g {x : Str} {d : D} (hm : CstD X.K X.mg x d) (hg : Gl X x) (hd : (x == ("__debug__" : Str)) = false) : PE X (.Name x pos) (tE X.K W0 (eC d)) := by
  obtain ⟨v, u, h1, h2, h3⟩ := hm
  exact s_c (pe_glob hg h1 h2 hd) h3
theorem w_abs (hm : X.mg "abs" = none) (hg : Gl X "abs") (ha : PA X (a :: es) (tL X.K W0 gl)) (he : starEach (a :: es) X.env = (false, eval a X.env) :: starEach es X.env) (hpl : (backTo pos (starEach es X.env)).any (·.1) = false) : PE X (.Call (.Name "abs" p0) (a :: es) [] pos) (tE X.K W0 (eBlt al (fun _ => bAbs) gl)) :=
  s_blt call_bAbs hg hm (by decide +kernel) ha (by decide) (by decide) he hpl
theorem w_int1 (hm : X.mg "int" = none) (hg : Gl X "int") (ha : PA X (a :: es) (tL X.K W0 gl)) (he : starEach (a :: es) X.env = (false, eval a X.env) :: starEach es X.env) (hpl : (backTo pos (starEach es X.env)).any (·.1) = false) : PE X (.Call (.Name "int" p0) (a :: es) [] pos) (tE X.K W0 (eBlt al (fun _ => bInt) gl)) :=
  s_bty call_bInt hg hm (by decide +kernel) ha (by decide) (by decide) he hpl
theorem w_max (B : Bd X k) (hm : X.mg "max" = none) (hg : Gl X "max") (ha : PA X (a :: es) (tL X.K W0 gl)) (he : starEach (a :: es) X.env = (false, eval a X.env) :: starEach es X.env) (hpl : (backTo pos (starEach es X.env)).any (·.1) = false) : PE X (.Call (.Name "max" p0) (a :: es) [] pos) (tE X.K W0 (eBlt al bMax gl)) :=
  s_blt (call_bMax B.calm) hg hm (by decide +kernel) ha (by decide) (by decide) he hpl
theorem w_min (B : Bd X k) (hm : X.mg "min" = none) (hg : Gl X "min") (ha : PA X (a :: es) (tL X.K W0 gl)) (he : starEach (a :: es) X.env = (false, eval a X.env) :: starEach es X.env) (hpl : (backTo pos (starEach es X.env)).any (·.1) = false) : PE X (.Call (.Name "min" p0) (a :: es) [] pos) (tE X.K W0 (eBlt al bMin gl)) :=
  s_blt (call_bMin B.calm) hg hm (by decide +kernel) ha (by decide) (by decide) he hpl
theorem w_divmod (hm : X.mg "divmod" = none) (hg : Gl X "divmod") (ha : PA X (a :: es) (tL X.K W0 gl)) (he : starEach (a :: es) X.env = (false, eval a X.env) :: starEach es X.env) (hpl : (backTo pos (starEach es X.env)).any (·.1) = false) : PE X (.Call (.Name "divmod" p0) (a :: es) [] pos) (tE X.K W0 (eBlt al (fun _ => bDivmod) gl)) :=
  s_blt call_bDivmod hg hm (by decide +kernel) ha (by decide) (by decide) he hpl
theorem w_sum (B : Bd X k) (hm : X.mg "sum" = none) (hg : Gl X "sum") (ha : PA X (a :: es) (tL X.K W0 gl)) (he : starEach (a :: es) X.env = (false, eval a X.env) :: starEach es X.env) (hpl : (backTo pos (starEach es X.env)).any (·.1) = false) : PE X (.Call (.Name "sum" p0) (a :: es) [] pos) (tE X.K W0 (eBlt al bSum gl)) :=
  s_blt (call_bSum B.calm) hg hm (by decide +kernel) ha (by decide) (by decide) he hpl
theorem w_all (B : Bd X k) (hm : X.mg "all" = none) (hg : Gl X "all") (ha : PA X (a :: es) (tL X.K W0 gl)) (he : starEach (a :: es) X.env = (false, eval a X.env) :: starEach es X.env) (hpl : (backTo pos (starEach es X.env)).any (·.1) = false) : PE X (.Call (.Name "all" p0) (a :: es) [] pos) (tE X.K W0 (eBlt al bAll gl)) :=
  s_blt (call_bAll B.calm) hg hm (by decide +kernel) ha (by decide) (by decide) he hpl
theorem w_any (B : Bd X k) (hm : X.mg "any" = none) (hg : Gl X "any") (ha : PA X (a :: es) (tL X.K W0 gl)) (he : starEach (a :: es) X.env = (false, eval a X.env) :: starEach es X.env) (hpl : (backTo pos (starEach es X.env)).any (·.1) = false) : PE X (.Call (.Name "any" p0) (a :: es) [] pos) (tE X.K W0 (eBlt al bAny gl)) :=
  s_blt (call_bAny B.calm) hg hm (by decide +kernel) ha (by decide) (by decide) he hpl
theorem w_len (hm : X.mg "len" = none) (hg : Gl X "len") (ha : PA X (a :: es) (tL X.K W0 gl)) (he : starEach (a :: es) X.env = (false, eval a X.env) :: starEach es X.env) (hpl : (backTo pos (starEach es X.env)).any (·.1) = false) : PE X (.Call (.Name "len" p0) (a :: es) [] pos) (tE X.K W0 (eBlt al bLen gl)) :=
  s_blt call_bLen hg hm (by decide +kernel) ha (by decide) (by decide) he hpl
theorem w_sorted (hm : X.mg "sorted" = none) (hg : Gl X "sorted") (ha : PA X (a :: es) (tL X.K W0 gl)) (he : starEach (a :: es) X.env = (false, eval a X.env) :: starEach es X.env) (hpl : (backTo pos (starEach es X.env)).any (·.1) = false) : PE X (.Call (.Name "sorted" p0) (a :: es) [] pos) (tE X.K W0 (eBlt al bSorted gl)) :=
  s_blt call_bSorted hg hm (by decide +kernel) ha (by decide) (by decide) he hpl
theorem w_list (hm : X.mg "list" = none) (hg : Gl X "list") (ha : PA X (a :: es) (tL X.K W0 gl)) (he : starEach (a :: es) X.env = (false, eval a X.env) :: starEach es X.env) (hpl : (backTo pos (starEach es X.env)).any (·.1) = false) : PE X (.Call (.Name "list" p0) (a :: es) [] pos) (tE X.K W0 (eBlt al bList gl)) :=
  s_bty call_bList hg hm (by decide +kernel) ha (by decide) (by decide) he hpl
theorem w_tuple (hm : X.mg "tuple" = none) (hg : Gl X "tuple") (ha : PA X (a :: es) (tL X.K W0 gl)) (he : starEach (a :: es) X.env = (false, eval a X.env) :: starEach es X.env) (hpl : (backTo pos (starEach es X.env)).any (·.1) = false) : PE X (.Call (.Name "tuple" p0) (a :: es) [] pos) (tE X.K W0 (eBlt al bTuple gl)) :=
  s_bty call_bTuple hg hm (by decide +kernel) ha (by decide) (by decide) he hpl
theorem w_repr (B : Bd X k) (hm : X.mg "repr" = none) (hg : Gl X "repr") (ha : PA X (a :: es) (tL X.K W0 gl)) (he : starEach (a :: es) X.env = (false, eval a X.env) :: starEach es X.env) (hpl : (backTo pos (starEach es X.env)).any (·.1) = false) : PE X (.Call (.Name "repr" p0) (a :: es) [] pos) (tE X.K W0 (eBlt al bRepr gl)) :=
  s_blt (call_bRepr B.sm B.gd B.u70) hg hm (by decide +kernel) ha (by decide) (by decide) he hpl
end
/-- what the top has written: a def -/
def Top (K : PySem.W.Frag) (mg : Str → Option Value) (x : Str) (st : Stmt) : Prop := ∃ f fd, L2.Fun K x x st f fd ∧ mg x = some (.ref f)
theorem top_mk {K : PySem.W.Frag} {h : Heap} {mg : Str → Option Value} {x : Str} {st : Stmt} {f : Addr} {oc : Value} {od an : Option Addr} {osl : Array (Option Value)} {kV doc pm cdv ct : Value} (X : K.In h) (G : h.Ns mainGlobals mg)
    (a : PySem.W.nsIn K mainGlobals x = some (some (.ref f))) (l : K.lookup f = some ⟨oc, od, .func (PySem.W.fnOf x x (defArgs st) (defBody st) (defScope st) .none kV doc pm an cdv ct), osl⟩) (c : PySem.W.codeIn K cdv x = true) (k : PySem.W.keepIn K (.ref f) = true) : Top K mg x st :=
  ⟨f, _, fun_mk l c k, PySem.W.mg_of X G a⟩
theorem const_int {K : PySem.W.Frag} {h : Heap} {mg : Str → Option Value} {x : Str} {i : Int} {t : Tok} (X : K.In h) (G : h.Ns mainGlobals mg) (a : PySem.W.nsIn K mainGlobals x = some (some (.int i t))) : CstD K mg x (.int i) := ⟨.int i, _, PySem.W.mg_of X G a, ⟨_, rfl⟩, fun _ _ => .int i⟩
theorem const_str {K : PySem.W.Frag} {h : Heap} {mg : Str → Option Value} {x i : Str} {t : Tok} (X : K.In h) (G : h.Ns mainGlobals mg) (a : PySem.W.nsIn K mainGlobals x = some (some (.str i t))) : CstD K mg x (.str i) := ⟨.str i, _, PySem.W.mg_of X G a, ⟨_, rfl⟩, fun _ _ => .str i⟩
theorem const_loose {K : PySem.W.Frag} {mg : Str → Option Value} {x : Str} {i : Int} (h : ∃ v, mg x = some v ∧ RelV (.int i) v) : CstD K mg x (.int i) := by
  obtain ⟨v, h1, h2⟩ := h
  exact ⟨.int i, v, h1, h2, fun _ _ => .int i⟩
/-- a tuple of texts and ints -/
inductive Flats (K : PySem.W.Frag) : List Value → List D → List V → Prop where
  | nil : Flats K [] [] []
  | str (x : Str) (t : Tok) {us : List Value} {ds : List D} {vs : List V} : Flats K us ds vs → Flats K (.str x t :: us) (.str x :: ds) (.str x :: vs)
  | int (x : Int) (t : Tok) {us : List Value} {ds : List D} {vs : List V} : Flats K us ds vs → Flats K (.int x t :: us) (.int x :: ds) (.int x :: vs)
theorem Flats.ok {K : PySem.W.Frag} {F : Hp} {p : List Addr} : ∀ {us : List Value} {ds : List D} {vs : List V}, Flats K us ds vs → Vals vs us ∧ IsDs K F p vs ds
  | _, _, _, .nil => ⟨.nil, .nil⟩
  | _, _, _, .str x t h => ⟨.cons ⟨t, rfl⟩ (h.ok (F := F) (p := p)).1, .cons (.str x) h.ok.2⟩
  | _, _, _, .int x t h => ⟨.cons ⟨t, rfl⟩ (h.ok (F := F) (p := p)).1, .cons (.int x) h.ok.2⟩
theorem const_tup {K : PySem.W.Frag} {h : Heap} {mg : Str → Option Value} {x : Str} {f : Addr} {od : Option Addr} {its : Array Value} {n : Nat} {osl : Array (Option Value)} {ds : List D} {vs : List V} (X : K.In h) (G : h.Ns mainGlobals mg)
    (a : PySem.W.nsIn K mainGlobals x = some (some (.ref f))) (l : K.lookup f = some ⟨.type "tuple", od, .seq its n, osl⟩) (v : Flats K its.toList ds vs) (hl : ds.length ≤ 1000) : CstD K mg x (.tup ds) := by
  refine ⟨.ref f, _, PySem.W.mg_of X G a, rfl, fun F p => ?_⟩
  obtain ⟨h1, h2⟩ := v.ok (F := F) (p := p)
  have hs : its.size ≤ sizeLine := by
    rw [← Array.length_toList, ← h1.length, h2.length]
    exact Nat.le_trans hl (by decide)
  exact .tup (.inr ⟨_, its, n, l, rfl, rfl, hs, h1⟩) (Nat.le_trans hl (by decide)) h2
theorem own_mk {P : Program} {w : World} {K : PySem.W.Frag} {mg : Str → Option Value} {base : Heap} {k : Nat} {x : Str} {st : Stmt} {N ps : List Str} {b : EvS} (T : Top K mg x st) (S : FnScope N ps (defScope st)) (sb : SysD base)
    (hbody : ∀ (X : Cx) (f : Addr) (cdv : Value) (A : Around) (outer : List Env) (s : Shared) (H : Hp) (E : XK), X = (cxOf L2.CX0 P w K mg base N x (defScope st) f cdv A outer s H E).nox → Bd (cxOf L2.CX0 P w K mg base N x (defScope st) f cdv A outer s H E).nox k →
      PSs (cxOf L2.CX0 P w K mg base N x (defScope st) f cdv A outer s H E).nox (defBody st) (tS K W0 b)) : Own P w K mg base (k + 1) x st ps (runF ps.length N.length b) := by
  obtain ⟨f, fd, Fn, hm⟩ := T
  exact own_of Fn hm S fun cdv A outer s H E hr hg => hbody _ f cdv A outer s H E rfl ⟨hr, hg, sb, rfl, S.nd⟩
end DI
/-! DI: tools for the plain laws. -/
namespace DI
open PySem L2
def pot (a b : Int) : Option Cell := some (.lst [.int a, .int b])
/-! ### answers seen by the kernel -/
def okNew (o : O Res) (ns : List Int) : Bool := match o with
  | .ok (.new xs) S => sameL xs (ns.map .int) && S.isEmpty
  | _ => false
def okD (o : O Res) (d : D) : Bool := match o with
  | .ok (.d e) S => e.same d && S.isEmpty
  | _ => false
theorem okNew_eq {o : O Res} {ns : List Int} (h : okNew o ns = true) : o = .ok (.new (ns.map .int)) [] := by
  unfold okNew at h
  split at h
  · rename_i xs S
    rw [Bool.and_eq_true] at h
    rw [sameL_eq h.1, List.isEmpty_iff.mp h.2]
  · cases h
theorem okD_eq {o : O Res} {d : D} (h : okD o d = true) : o = .ok (.d d) [] := by
  unfold okD at h
  split at h
  · rename_i xs S
    rw [Bool.and_eq_true] at h
    rw [D.same_eq h.1, List.isEmpty_iff.mp h.2]
  · cases h
theorem range_all {n : Nat} {p : Nat → Bool} (h : (List.range n).all p = true) {i : Nat} (hi : i < n) : p i = true := List.all_eq_true.mp h i (List.mem_range.mpr hi)
/-! ### low values -/
theorem lowL_ints (b : Nat) (ns : List Int) : lowL b (ns.map .int) = true := by
  induction ns with
  | nil => rfl
  | cons n r ih => show (true && lowL b (r.map .int)) = true; rw [ih]; rfl
theorem lowL_bls (b : Nat) (ns : List Bool) : lowL b (ns.map .bl) = true := by
  induction ns with
  | nil => rfl
  | cons n r ih => show (true && lowL b (r.map .bl)) = true; rw [ih]; rfl
theorem lowL_app (b : Nat) : ∀ xs ys : List D, lowL b (xs ++ ys) = (lowL b xs && lowL b ys)
  | [], ys => rfl
  | x :: r, ys => by show (x.low b && lowL b (r ++ ys)) = _; rw [lowL_app b r ys, ← Bool.and_assoc]; rfl
theorem frzAll_id {f : D → Option D} : ∀ {xs : List D}, (∀ x ∈ xs, f x = some x) → frzAll f xs = some xs
  | [], _ => rfl
  | x :: r, h => by
    unfold frzAll
    rw [h x List.mem_cons_self, frzAll_id fun y hy => h y (List.mem_cons_of_mem _ hy)]
theorem frzD_low {S : Store} {b k : Nat} {d : D} (h : d.low b = true) : frzD S b k d = some d := by
  cases k <;> (unfold frzD; rw [if_pos h])
theorem lowL_mem {b : Nat} : ∀ {xs : List D}, lowL b xs = true → ∀ x ∈ xs, x.low b = true
  | [], _, x, hx => nomatch hx
  | y :: r, h, x, hx => by
    have h : (y.low b && lowL b r) = true := h
    rw [Bool.and_eq_true] at h
    rcases List.mem_cons.mp hx with e | hx
    · rw [e]; exact h.1
    · exact lowL_mem h.2 x hx
theorem frzAll_low {S : Store} {b k : Nat} {xs : List D} (h : lowL b xs = true) : frzAll (frzD S b k) xs = some xs := frzAll_id fun x hx => frzD_low (lowL_mem h x hx)
theorem frzAll_ints {S : Store} {b k : Nat} (ns : List Int) : frzAll (frzD S b k) (ns.map .int) = some (ns.map .int) := frzAll_low (lowL_ints b ns)
theorem sameL_self (xs : List D) : sameL xs xs = true := sameL_refl xs
/-! ### comprehensions -/
theorem keepSrc_ok {α : Type} {src : List (Nat × List D)} {S : Store} {o : O α} (h : srcSame S src = true) : keepSrc src S o = o := if_pos h
theorem compL_pure {step : D → Store → O (Option D)} {src : List (Nat × List D)} {S : Store} (g : D → D) (hs : srcSame S src = true) : ∀ (xs acc : List D), (∀ x ∈ xs, step x S = .ok (some (g x)) S) → compL step src xs acc S = .ok (acc ++ xs.map g) S
  | [], acc, _ => by unfold compL; rw [keepSrc_ok hs]; simp
  | x :: r, acc, h => by
    unfold compL
    rw [keepSrc_ok hs, h x List.mem_cons_self]
    show compL step src r (acc ++ [g x]) S = _
    rw [compL_pure g hs r _ fun y hy => h y (List.mem_cons_of_mem _ hy)]
    simp
theorem compL_filt {step : D → Store → O (Option D)} {src : List (Nat × List D)} {S : Store} (g : D → Option D) (hs : srcSame S src = true) : ∀ (xs acc : List D), (∀ x ∈ xs, step x S = .ok (g x) S) → compL step src xs acc S = .ok (acc ++ xs.filterMap g) S
  | [], acc, _ => by unfold compL; rw [keepSrc_ok hs]; simp
  | x :: r, acc, h => by
    unfold compL
    rw [keepSrc_ok hs, h x List.mem_cons_self]
    cases e : g x with
    | none =>
      show compL step src r acc S = _
      rw [compL_filt g hs r _ fun y hy => h y (List.mem_cons_of_mem _ hy), List.filterMap_cons_none e]
    | some d =>
      show compL step src r (acc ++ [d]) S = _
      rw [compL_filt g hs r _ fun y hy => h y (List.mem_cons_of_mem _ hy), List.filterMap_cons_some e]
      simp
theorem eComp_pure {al : Bool} {w : EvW} {vs : List Nat} {c : CT} {t : EvB} {f : EvE} {ρ : Rho} {S : Store} {src : List (Nat × List D)} {xs : List D} (g : D → D) (hw : w ρ S = .ok ⟨src, xs⟩ S) (hs : srcSame S src = true)
    (h : ∀ x ∈ xs, compStep vs c t f ρ x S = .ok (some (g x)) S) : eComp al w vs c t f ρ S = settle al (.new (xs.map g)) S := by
  unfold eComp
  rw [hw]
  show (compL (compStep vs c t f ρ) src xs [] S).calm.bind _ = _
  rw [compL_pure g hs xs [] h]
  rfl
theorem eComp_ints {al : Bool} {w : EvW} {vs : List Nat} {c : CT} {t : EvB} {f : EvE} {ρ : Rho} {S : Store} {src : List (Nat × List D)} {ns : List Int} (g : Int → D) (hw : w ρ S = .ok ⟨src, ns.map .int⟩ S) (hs : srcSame S src = true)
    (h : ∀ n ∈ ns, compStep vs c t f ρ (.int n) S = .ok (some (g n)) S) : eComp al w vs c t f ρ S = settle al (.new (ns.map g)) S := by
  rw [eComp_pure (fun d => match d with | .int n => g n | d => d) hw hs (fun x hx => by
    obtain ⟨n, hn, rfl⟩ := List.mem_map.mp hx
    exact h n hn), List.map_map]
  rfl
theorem eComp_filt {al : Bool} {w : EvW} {vs : List Nat} {c : CT} {t : EvB} {f : EvE} {ρ : Rho} {S : Store} {src : List (Nat × List D)} {xs : List D} (g : D → Option D) (hw : w ρ S = .ok ⟨src, xs⟩ S) (hs : srcSame S src = true)
    (h : ∀ x ∈ xs, compStep vs c t f ρ x S = .ok (g x) S) : eComp al w vs c t f ρ S = settle al (.new (xs.filterMap g)) S := by
  unfold eComp
  rw [hw]
  show (compL (compStep vs c t f ρ) src xs [] S).calm.bind _ = _
  rw [compL_filt g hs xs [] h]
  rfl
/-- each turn changes the state, by draws -/
theorem compL_inv {step : D → Store → O (Option D)} {I : Store → Prop} {P : D → Prop} : ∀ (xs acc : List D) (S : Store), I S → (∀ x ∈ xs, ∀ S, I S → ∃ d S', step x S = .ok (some d) S' ∧ P d ∧ I S') →
    ∃ ds S', compL step [] xs acc S = .ok (acc ++ ds) S' ∧ ds.length = xs.length ∧ (∀ d ∈ ds, P d) ∧ I S'
  | [], acc, S, hI, _ => ⟨[], S, by unfold compL; rw [keepSrc_ok rfl]; simp, rfl, (fun _ z => nomatch z), hI⟩
  | x :: r, acc, S, hI, h => by
    obtain ⟨d, S1, e, hp, hI1⟩ := h x List.mem_cons_self S hI
    obtain ⟨ds, S2, e2, hl, hps, hI2⟩ := compL_inv (step := step) (I := I) (P := P) r (acc ++ [d]) S1 hI1 fun y hy => h y (List.mem_cons_of_mem _ hy)
    refine ⟨d :: ds, S2, ?_, by simp [hl], fun y hy => (List.mem_cons.mp hy).elim (fun e => e ▸ hp) (hps y), hI2⟩
    unfold compL
    rw [keepSrc_ok rfl, e]
    show compL step [] r (acc ++ [d]) S1 = _
    rw [e2]; simp
theorem eComp_inv {al : Bool} {w : EvW} {vs : List Nat} {c : CT} {t : EvB} {f : EvE} {ρ : Rho} {S S1 : Store} {xs : List D} {I : Store → Prop} {P : D → Prop} (hw : w ρ S = .ok ⟨[], xs⟩ S1) (hI : I S1)
    (h : ∀ x ∈ xs, ∀ S, I S → ∃ d S', compStep vs c t f ρ x S = .ok (some d) S' ∧ P d ∧ I S') : ∃ ds S', eComp al w vs c t f ρ S = settle al (.new ds) S' ∧ ds.length = xs.length ∧ (∀ d ∈ ds, P d) ∧ I S' := by
  obtain ⟨ds, S', e, h1, h2, h3⟩ := compL_inv (step := compStep vs c t f ρ) xs [] S1 hI h
  refine ⟨ds, S', ?_, h1, h2, h3⟩
  unfold eComp
  rw [hw]
  show (compL (compStep vs c t f ρ) [] xs [] S1).calm.bind _ = _
  rw [e]; rfl
theorem intsP {ds : List D} {P : Int → Prop} (h : ∀ d ∈ ds, ∃ n, d = .int n ∧ P n) : ∃ ns : List Int, ds = ns.map .int ∧ ∀ n ∈ ns, P n := by
  induction ds with
  | nil => exact ⟨[], rfl, fun _ z => nomatch z⟩
  | cons d r ih =>
    obtain ⟨n, rfl, hn⟩ := h d List.mem_cons_self
    obtain ⟨ns, rfl, hs⟩ := ih fun x hx => h x (List.mem_cons_of_mem _ hx)
    exact ⟨n :: ns, rfl, fun m hm => (List.mem_cons.mp hm).elim (fun e => e ▸ hn) (hs m)⟩
/-! ### loops -/
theorem forL_inv {g : EvG} {b : EvS} {src : List (Nat × List D)} {I : Nat → Rho → Store → Prop} {xs : List D} (h : ∀ (i : Nat) x ρ S, xs[i]? = some x → I i ρ S → srcSame S src = true ∧ ∃ ρ1 S1 ρ2 S2, g x ρ S = .ok ρ1 S1 ∧ b ρ1 S1 = .ok (.nx ρ2) S2 ∧ I (i + 1) ρ2 S2) (hl : ∀ ρ S, I xs.length ρ S → srcSame S src = true) :
    ∀ (m i : Nat) (ρ : Rho) (S : Store), i + m = xs.length → I i ρ S → ∃ ρ' S', forL g b src (xs.drop i) ρ S = .ok (.nx ρ') S' ∧ I xs.length ρ' S'
  | 0, i, ρ, S, e, hI => by
    have e : i = xs.length := e
    subst e
    rw [List.drop_length]
    refine ⟨ρ, S, ?_, hI⟩
    unfold forL
    rw [keepSrc_ok (hl ρ S hI)]
  | m + 1, i, ρ, S, e, hI => by
    have hi : i < xs.length := by omega
    obtain ⟨hs, ρ1, S1, ρ2, S2, e1, e2, hI2⟩ := h i xs[i] ρ S (List.getElem?_eq_getElem hi) hI
    obtain ⟨ρ', S', e3, hI3⟩ := forL_inv h hl m (i + 1) ρ2 S2 (by omega) hI2
    refine ⟨ρ', S', ?_, hI3⟩
    rw [List.drop_eq_getElem_cons hi]
    unfold forL
    rw [keepSrc_ok hs, e1]
    show (b ρ1 S1).bind _ = _
    rw [e2]
    exact e3
theorem sFor_inv {w : EvW} {g : EvG} {b : EvS} {src : List (Nat × List D)} {I : Nat → Rho → Store → Prop} {xs : List D} {ρ : Rho} {S S0 : Store} (hw : w ρ S = .ok ⟨src, xs⟩ S0) (h0 : I 0 ρ S0)
    (h : ∀ (i : Nat) x ρ S, xs[i]? = some x → I i ρ S → srcSame S src = true ∧ ∃ ρ1 S1 ρ2 S2, g x ρ S = .ok ρ1 S1 ∧ b ρ1 S1 = .ok (.nx ρ2) S2 ∧ I (i + 1) ρ2 S2) (hl : ∀ ρ S, I xs.length ρ S → srcSame S src = true) :
    ∃ ρ' S', sFor w g b ρ S = .ok (.nx ρ') S' ∧ I xs.length ρ' S' := by
  obtain ⟨ρ', S', e, hI⟩ := forL_inv h hl xs.length 0 ρ S0 (by simp) h0
  refine ⟨ρ', S', ?_, hI⟩
  unfold sFor
  rw [hw]
  exact e
theorem rngL_get {a b : Int} {i : Nat} {x : D} (h : (rngL a b)[i]? = some x) : x = .int (a + i) ∧ i < (b - a).toNat := by
  unfold rngL at h
  rw [List.getElem?_map] at h
  cases e : (List.range (b - a).toNat)[i]? with
  | none => rw [e] at h; cases h
  | some j =>
    rw [e] at h
    obtain ⟨h1, h2⟩ := List.getElem?_eq_some_iff.mp e
    rw [List.getElem_range] at h2
    subst h2
    cases h
    exact ⟨rfl, by simpa using h1⟩
theorem rngL_len (a b : Int) : (rngL a b).length = (b - a).toNat := by unfold rngL; simp
/-- the ints of a range -/
def rngI (a b : Int) : List Int := (List.range (b - a).toNat).map fun (i : Nat) => a + i
theorem rngL_ints (a b : Int) : rngL a b = (rngI a b).map .int := by unfold rngL rngI; rw [List.map_map]; rfl
/-! ### steps -/
theorem seq_nx {s1 s2 : EvS} {ρ ρ1 : Rho} {S S1 : Store} (h : s1 ρ S = .ok (.nx ρ1) S1) : sSeq s1 s2 ρ S = s2 ρ1 S1 := by unfold sSeq; rw [h]; rfl
theorem seq_rt {s1 s2 : EvS} {ρ : Rho} {d : D} {S S1 : Store} (h : s1 ρ S = .ok (.rt d) S1) : sSeq s1 s2 ρ S = .ok (.rt d) S1 := by unfold sSeq; rw [h]; rfl
/-! ### sums, most, least -/
theorem maxI_ge : ∀ {ns : List Int} {n : Int}, n ∈ ns → n ≤ maxI ns
  | [x], n, h => by rw [List.mem_singleton.mp h]; exact Int.le_refl _
  | x :: y :: r, n, h => by
    show n ≤ (if maxI (y :: r) < x then x else maxI (y :: r))
    rcases List.mem_cons.mp h with e | h
    · rw [e]; split <;> omega
    · have := maxI_ge (ns := y :: r) h
      split <;> omega
theorem maxI_mem : ∀ {ns : List Int}, ns ≠ [] → maxI ns ∈ ns
  | [x], _ => List.mem_singleton.mpr rfl
  | x :: y :: r, _ => by
    show (if maxI (y :: r) < x then x else maxI (y :: r)) ∈ _
    split
    · exact List.mem_cons_self
    · exact List.mem_cons_of_mem _ (maxI_mem (by simp))
/-! ### calls in their own part of the store -/
theorem renum_id {ns : List Nat} : ∀ {ds : List D}, celsOf ds = [] → ds.map (renum ns) = ds
  | [], _ => rfl
  | .cel n :: r, h => by cases h
  | .non :: r, h => by rw [List.map_cons, renum_id (show celsOf r = [] from h)]; rfl
  | .bl _ :: r, h => by rw [List.map_cons, renum_id (show celsOf r = [] from h)]; rfl
  | .int _ :: r, h => by rw [List.map_cons, renum_id (show celsOf r = [] from h)]; rfl
  | .str _ :: r, h => by rw [List.map_cons, renum_id (show celsOf r = [] from h)]; rfl
  | .lst _ :: r, h => by rw [List.map_cons, renum_id (show celsOf r = [] from h)]; rfl
  | .tup _ :: r, h => by rw [List.map_cons, renum_id (show celsOf r = [] from h)]; rfl
  | .scr _ :: r, h => by rw [List.map_cons, renum_id (show celsOf r = [] from h)]; rfl
  | .emp :: r, h => by rw [List.map_cons, renum_id (show celsOf r = [] from h)]; rfl
theorem frame0 {c : List D → Store → O Res} {ds : List D} {S : Store} {r r' : Res} (h1 : celsOf ds = []) (h2 : ds.all flat = true) (h : c ds [] = .ok r []) (hb : backR [] r = some r') : frame c ds S = .ok r' S := by
  unfold frame
  rw [h1, h2, renum_id h1]
  simp only [nodupB, Bool.and_self, if_true, subS, h, O.calm, O.bind, hb, List.length_nil]
  rfl
theorem frame1 {c : List D → Store → O Res} {n : Nat} {ds : List D} {S : Store} {x x' : Cell} {r r' : Res} (hS : S[n]? = some (some x)) (hx : lowC 0 x = true) (h1 : celsOf ds = []) (h2 : ds.all flat = true) (h : c (.cel 0 :: ds) [some x] = .ok r [some x']) (hb : backR [n] r = some r') (hx' : lowC 0 x' = true) : frame c (.cel n :: ds) S = .ok r' (S.set n (some x')) := by
  unfold frame
  have e1 : celsOf (.cel n :: ds) = [n] := by show n :: celsOf ds = _; rw [h1]
  have e2 : (D.cel n :: ds).all flat = true := by rw [List.all_cons, h2]; rfl
  have e3 : (D.cel n :: ds).map (renum [n]) = .cel 0 :: ds := by
    rw [List.map_cons, renum_id h1]
    simp [renum]
  rw [e1, e2, e3]
  simp [nodupB, subS, hS, hx, h, O.calm, O.bind, hb, putS, cleanC, hx']
theorem backR_ints {ns : List Nat} (l : List Int) : backR ns (.new (l.map .int)) = some (.new (l.map .int)) := by
  simp [backR, lowL_ints]
theorem lowC_ints (b : Nat) (l : List Int) : lowC b (.lst (l.map .int)) = true := lowL_ints b l
theorem flat_ints (l : List Int) : flat (.lst (l.map .int)) = true := lowL_ints 0 l
mutual
theorem low_mono {a b : Nat} (h : a ≤ b) : ∀ {d : D}, d.low a = true → d.low b = true
  | .non, _ => rfl
  | .bl _, _ => rfl
  | .int _, _ => rfl
  | .str _, _ => rfl
  | .lst xs, w => lowL_mono h (xs := xs) w
  | .tup xs, w => lowL_mono h (xs := xs) w
  | .scr _, _ => rfl
  | .emp, _ => rfl
  | .cel n, w => by
    have w : decide (n < a) = true := w
    rw [decide_eq_true_eq] at w
    exact decide_eq_true (Nat.lt_of_lt_of_le w h)
theorem lowL_mono {a b : Nat} (h : a ≤ b) : ∀ {xs : List D}, lowL a xs = true → lowL b xs = true
  | [], _ => rfl
  | x :: r, w => by
    have w : (x.low a && lowL a r) = true := w
    rw [Bool.and_eq_true] at w
    show (x.low b && lowL b r) = true
    rw [low_mono h w.1, lowL_mono h w.2]; rfl
end
theorem retF_low {b : Nat} {d : D} {S : Store} (h : d.low 0 = true) : retF b d S = .ok (.d d) (cleanS b S) := by
  unfold retF
  split
  · rename_i n
    have h : decide (n < 0) = true := h
    exact absurd (of_decide_eq_true h) (Nat.not_lt_zero _)
  · rw [frzD_low (low_mono (Nat.zero_le _) h)]
theorem retF_new {b n : Nat} {xs : List D} {S : Store} (hn : b ≤ n) (hx : cellL S n = some xs) (h : lowL b xs = true) : retF b (.cel n) S = .ok (.new xs) (cleanS b S) := by
  unfold retF
  simp only [if_neg (Nat.not_lt.mpr hn), hx, frzAll_low h]
/-! ### one step each -/
theorem sIf_t {t : EvB} {f g : EvS} {ρ : Rho} {S S1 : Store} (h : t ρ S = .ok true S1) : sIf t f g ρ S = f ρ S1 := by unfold sIf; rw [h]; rfl
theorem sIf_f {t : EvB} {f g : EvS} {ρ : Rho} {S S1 : Store} (h : t ρ S = .ok false S1) : sIf t f g ρ S = g ρ S1 := by unfold sIf; rw [h]; rfl
theorem if_nx {t : EvB} {f k : EvS} {ρ : Rho} {S S1 : Store} (h : t ρ S = .ok false S1) : sSeq (sIf t f sNext) k ρ S = k ρ S1 := seq_nx (by rw [sIf_f h]; rfl)
theorem sRet_ok {f : EvE} {ρ : Rho} {d : D} {S S1 : Store} (h : f ρ S = .ok d S1) : sRet f ρ S = .ok (.rt d) S1 := by unfold sRet; rw [h]; rfl
theorem ret_rt {f : EvE} {k : EvS} {ρ : Rho} {d : D} {S S1 : Store} (h : f ρ S = .ok d S1) : sSeq (sRet f) k ρ S = .ok (.rt d) S1 := seq_rt (sRet_ok h)
theorem asg_nx {f : EvE} {k : EvS} {i : Nat} {ρ : Rho} {d : D} {S S1 : Store} (h : f ρ S = .ok d S1) : sSeq (sAsg f (gVar i)) k ρ S = k (ρ.set i (some d)) S1 := seq_nx (by unfold sAsg; rw [h]; rfl)
theorem asg_g {f : EvE} {g : EvG} {k : EvS} {ρ ρ1 : Rho} {d : D} {S S1 S2 : Store} (h : f ρ S = .ok d S1) (hg : g d ρ S1 = .ok ρ1 S2) : sSeq (sAsg f g) k ρ S = k ρ1 S2 := seq_nx (by unfold sAsg; rw [h]; show (g d ρ S1).bind _ = _; rw [hg]; rfl)
theorem par_nx {f : EvL} {g : List D → Rho → Store → O Rho} {k : EvS} {ρ ρ1 : Rho} {ds : List D} {S S1 S2 : Store} (h : f ρ S = .ok ds S1) (hg : g ds ρ S1 = .ok ρ1 S2) : sSeq (sPar f g) k ρ S = k ρ1 S2 := seq_nx (by unfold sPar; rw [h]; show (g ds ρ S1).bind _ = _; rw [hg]; rfl)
theorem drop_nx {f : EvE} {k : EvS} {ρ : Rho} {d : D} {S S1 : Store} (h : f ρ S = .ok d S1) : sSeq (sDrop f) k ρ S = k ρ S1 := seq_nx (by unfold sDrop; rw [h]; rfl)
theorem app_nx {f g : EvE} {k : EvS} {ρ : Rho} {n : Nat} {d : D} {xs ys : List D} {S S1 S2 : Store} (h : f ρ S = .ok (.cel n) S1) (hx : cellL S1 n = some xs) (hg : g ρ S1 = .ok d S2) (hy : cellL S2 n = some ys) (hl : ys.length < LINE) : sSeq (sApp f g) k ρ S = k ρ (S2.set n (some (.lst (ys ++ [d])))) := seq_nx (by
  unfold sApp
  rw [h]
  simp only [O.bind, hx, hg, hy, if_pos hl])
theorem eOwn_ok {al : Bool} {c : List D → Store → O Res} {g : EvL} {ρ : Rho} {ds : List D} {r : Res} {S S1 S2 : Store} (hg : g ρ S = .ok ds S1) (hc : c ds S1 = .ok r S2) : eOwn al c g ρ S = settle al r S2 := by
  unfold eOwn
  rw [hg]
  show (c ds S1).calm.bind _ = _
  rw [hc]; rfl
theorem eOwnK_ok {al : Bool} {c : List D → Store → O Res} {m : Nat} {ps ks : List Str} {g k : EvL} {ρ : Rho} {ds es : List D} {r : Res} {S S1 S2 S3 : Store} (hg : g ρ S = .ok ds S1) (hk : k ρ S1 = .ok es S2) (hl : ds.length = m ∧ es.length = ks.length) (hc : c (arr ps ks ds es) S2 = .ok r S3) : eOwnK al c m ps ks g k ρ S = settle al r S3 := by
  unfold eOwnK
  rw [hg]
  show (k ρ S1).bind _ = _
  rw [hk]
  show (if ds.length = m ∧ es.length = ks.length then _ else _) = _
  rw [if_pos hl]
  show (c (arr ps ks ds es) S2).calm.bind _ = _
  rw [hc]; rfl
theorem runF_rt {n N : Nat} {b : EvS} {ds : List D} {S S1 : Store} {d : D} {r : O Res} (hl : ds.length = n) (h : b (ds.map some ++ List.replicate (N - n) none) S = .ok (.rt d) S1) (hr : retF S.length d S1 = r) : runF n N b ds S = r := by
  unfold runF
  rw [if_pos hl, h]
  exact hr
theorem runF_nx {n N : Nat} {b : EvS} {ds : List D} {S S1 : Store} {ρ : Rho} {r : O Res} (hl : ds.length = n) (h : b (ds.map some ++ List.replicate (N - n) none) S = .ok (.nx ρ) S1) (hr : retF S.length .non S1 = r) : runF n N b ds S = r := by
  unfold runF
  rw [if_pos hl, h]
  exact hr
theorem tVal_ok {f : EvE} {ρ : Rho} {b : Bool} {S S1 : Store} (h : f ρ S = .ok (.bl b) S1) : tVal f ρ S = .ok b S1 := by unfold tVal; rw [h]; rfl
theorem eCmp_ok {op : CmpOp} {f g : EvE} {ρ : Rho} {d e : D} {b : Bool} {S S1 S2 : Store} (h : f ρ S = .ok d S1) (h2 : g ρ S1 = .ok e S2) (hb : cmpD S2 op d e = some b) : eCmp op f g ρ S = .ok (.bl b) S2 := by
  unfold eCmp; rw [h]; show (g ρ S1).bind _ = _; rw [h2]; show ofB (cmpD S2 op d e) S2 = _; rw [hb]; rfl
theorem eBlt_ok {al : Bool} {bf : Store → List D → Option Res} {g : EvL} {ρ : Rho} {ds : List D} {r : Res} {S S1 : Store} (h : g ρ S = .ok ds S1) (hb : bf S1 ds = some r) : eBlt al bf g ρ S = settle al r S1 := by
  unfold eBlt; rw [h]; show ofRes al (bf S1 ds) S1 = _; rw [hb]; rfl
theorem one_ok {f : EvE} {ρ : Rho} {d : D} {S S1 : Store} (h : f ρ S = .ok d S1) : eCons f eNil ρ S = .ok [d] S1 := by unfold eCons; rw [h]; rfl
theorem two_ok {f g : EvE} {ρ : Rho} {d e : D} {S S1 S2 : Store} (h : f ρ S = .ok d S1) (h2 : g ρ S1 = .ok e S2) : eCons f (eCons g eNil) ρ S = .ok [d, e] S2 := by
  unfold eCons; rw [h]; show (eCons g eNil ρ S1).bind _ = _; rw [one_ok h2]; rfl
theorem cons_ok {f : EvE} {g : EvL} {ρ : Rho} {d : D} {ds : List D} {S S1 S2 : Store} (h : f ρ S = .ok d S1) (h2 : g ρ S1 = .ok ds S2) : eCons f g ρ S = .ok (d :: ds) S2 := by
  unfold eCons; rw [h]; show (g ρ S1).bind _ = _; rw [h2]; rfl
theorem var_ok {i : Nat} {ρ : Rho} {d : D} {S : Store} (h : ρ[i]? = some (some d)) : eVar i ρ S = .ok d S := by unfold eVar; rw [h]
/-! ### lists of ints -/
def gI (r : List Int) (i : Int) : Int := (r[i.toNat]?).getD 0
theorem gI_mem (r : List Int) (i : Int) : gI r i ∈ r ∨ gI r i = 0 := by
  unfold gI
  cases e : r[i.toNat]? with
  | none => exact .inr rfl
  | some v => exact .inl (List.mem_of_getElem? e)
theorem atI_ints {r : List Int} {i : Int} (h0 : 0 ≤ i) (h1 : i < r.length) : atI (r.map D.int) i = some (.int (gI r i)) := by
  have h2 : i.toNat < r.length := by omega
  simp [atI, ixN, h0, h1, gI, h2]
theorem lenD_of {S : Store} {d : D} {xs : List D} (h : seqOf S d = some xs) : lenD S d = some xs.length := by
  cases d with
  | cel n =>
    have h : cellL S n = some xs := h
    have h2 := cellL_iff h
    have h3 : cellK S n = none := by unfold cellK; rw [h2]
    unfold lenD
    simp only [h3, h]; rfl
  | tup _ => cases h; rfl
  | lst _ => cases h; rfl
  | scr ns =>
    have h : some (ns.map D.int) = some xs := h
    cases h
    rfl
  | _ => cases h
theorem getD_of {S : Store} {d : D} {xs : List D} {i : Int} (h : seqOf S d = some xs) : getD S d (.int i) = atI xs i := by
  unfold getD; rw [h]
theorem bLen_of {S : Store} {d : D} {xs : List D} (h : seqOf S d = some xs) : bLen S [d] = some (.d (.int xs.length)) := by
  unfold bLen one1; simp only [lenD_of h]; rfl
theorem bSum_of {S : Store} {d : D} {ns : List Int} (h : DI.listOf S d = some (ns.map .int)) : bSum S [d] = some (.d (.int ns.sum)) := by
  unfold bSum one1 withInts; simp only [h, intsOf_map]
theorem cell_last {S : Store} {xs : List D} : cellL (S ++ [some (.lst xs)]) S.length = some xs := by
  unfold cellL; rw [List.getElem?_append_right (Nat.le_refl _)]; simp
theorem set_last {S : Store} {c c' : Option Cell} : List.set (S ++ [c]) S.length c' = S ++ [c'] := by
  rw [List.set_append_right _ _ (Nat.le_refl _)]; simp
theorem wRng2_ok {f g : EvE} {ρ : Rho} {a b : Int} {S S1 S2 : Store} (h : f ρ S = .ok (.int a) S1) (h2 : g ρ S1 = .ok (.int b) S2) (hk : rngOk a b = true) : wRng2 f g ρ S = .ok ⟨[], rngL a b⟩ S2 := by
  unfold wRng2; rw [h]; show (g ρ S1).bind _ = _; rw [h2]; show (if rngOk a b then _ else _) = _; rw [if_pos hk]
theorem rngOk_small {a b : Int} (h1 : -1000000 ≤ a) (h2 : a ≤ 1000000) (h3 : -1000000 ≤ b) (h4 : b ≤ 1000000) : rngOk a b = true := by
  unfold rngOk BIG LINE
  simp only [Bool.and_eq_true, decide_eq_true_eq]
  omega
theorem rngI_get {a b : Int} {i : Nat} (h : i < (b - a).toNat) : (rngI a b)[i]? = some (a + i) := by
  unfold rngI
  rw [List.getElem?_map, List.getElem?_range h]; rfl
theorem rngI_len (a b : Int) : (rngI a b).length = (b - a).toNat := by unfold rngI; simp
theorem mem_rngI {a b n : Int} : n ∈ rngI a b ↔ a ≤ n ∧ n < b := by
  unfold rngI
  constructor
  · intro h
    obtain ⟨i, hi, rfl⟩ := List.mem_map.mp h
    have := List.mem_range.mp hi
    omega
  · rintro ⟨h1, h2⟩
    exact List.mem_map.mpr ⟨(n - a).toNat, List.mem_range.mpr (by omega), by omega⟩
theorem take_succ_map {α β : Type} {l : List α} {f : α → β} {i : Nat} {x : α} (h : l[i]? = some x) : (l.take (i + 1)).map f = (l.take i).map f ++ [f x] := by
  rw [List.take_add_one, h]; simp
theorem frame2 {c : List D → Store → O Res} {n : Nat} {y : D} {S : Store} {x x' : Cell} {r r' : Res} (hS : S[n]? = some (some x)) (hx : lowC 0 x = true) (h1 : celsOf [y] = []) (h2 : flat y = true) (h : c [y, .cel 0] [some x] = .ok r [some x']) (hb : backR [n] r = some r') (hx' : lowC 0 x' = true) : frame c [y, .cel n] S = .ok r' (S.set n (some x')) := by
  unfold frame
  have e1 : celsOf [y, .cel n] = [n] := by cases y <;> first | rfl | cases h1
  have e2 : [y, D.cel n].all flat = true := by rw [List.all_cons, h2]; rfl
  have e3 : [y, D.cel n].map (renum [n]) = [y, .cel 0] := by
    cases y <;> first | (simp [renum]; done) | cases h1
  rw [e1, e2, e3]
  simp [nodupB, subS, hS, hx, h, O.calm, O.bind, hb, putS, cleanC, hx']
/-- a row of ints that a call is given -/
inductive Vw : Store → D → List Int → Prop
  | lst (r : List Int) : Vw [] (.lst (r.map .int)) r
  | tup (r : List Int) : Vw [] (.tup (r.map .int)) r
  | cel (r : List Int) : Vw [some (.lst (r.map .int))] (.cel 0) r
theorem Vw.cl {S : Store} {d : D} {r : List Int} (v : Vw S d r) (T : Store) : cleanS S.length (S ++ T) = S := by
  cases v <;> simp [cleanS, cleanC, lowC, lowL_ints]
theorem Vw.cl0 {S : Store} {d : D} {r : List Int} (v : Vw S d r) : cleanS S.length S = S := by
  have := v.cl []
  rwa [List.append_nil] at this
theorem Vw.sq {S : Store} {d : D} {r : List Int} (v : Vw S d r) (T : Store) : seqOf (S ++ T) d = some (r.map .int) := by
  cases v <;> rfl
theorem Vw.sq0 {S : Store} {d : D} {r : List Int} (v : Vw S d r) : seqOf S d = some (r.map .int) := by cases v <;> rfl
theorem Vw.ty {S : Store} {d : D} {r : List Int} (v : Vw S d r) : isInst S d ["list", "tuple"] = some true := by cases v <;> rfl
theorem Vw.src {S : Store} {d : D} {r : List Int} (v : Vw S d r) : srcSame S (srcOf d (r.map .int)) = true := by
  cases v
  · rfl
  · rfl
  · show (sameL (r.map D.int) (r.map .int) && true) = true
    rw [sameL_self]; rfl
theorem Vw.frame {S : Store} {d : D} {r : List Int} (v : Vw S d r) {c : List D → Store → O Res} {ds : List D} {x : Res} (h1 : celsOf ds = []) (h2 : ds.all flat = true) (hb : ∀ ns, backR ns x = some x) (h : c (d :: ds) S = .ok x S) : DI.frame c (d :: ds) S = .ok x S := by
  cases v with
  | lst => exact frame0 h1 (by rw [List.all_cons, flat_ints, h2]; rfl) h (hb _)
  | tup => exact frame0 h1 (by rw [List.all_cons, h2, show DI.flat (.tup (r.map .int)) = true from lowL_ints 0 r]; rfl) h (hb _)
  | cel => exact (frame1 rfl (lowC_ints 0 r) h1 h2 h (hb _) (lowC_ints 0 r)).trans rfl
theorem Vw.frame2 {S : Store} {d : D} {r : List Int} (v : Vw S d r) {c : List D → Store → O Res} {y : D} {x : Res} (h1 : celsOf [y] = []) (h2 : flat y = true) (hb : ∀ ns, backR ns x = some x) (h : c [y, d] S = .ok x S) : DI.frame c [y, d] S = .ok x S := by
  have e : ∀ z : D, celsOf [z] = [] → celsOf [y, z] = [] := fun z hz => by cases y <;> first | exact hz | cases h1
  cases v with
  | lst => exact frame0 (e _ rfl) (by simp [h2, flat_ints]) h (hb _)
  | tup => exact frame0 (e _ rfl) (by simp [h2, show DI.flat (.tup (r.map .int)) = true from lowL_ints 0 r]) h (hb _)
  | cel => exact (DI.frame2 rfl (lowC_ints 0 r) h1 h2 h (hb _) (lowC_ints 0 r)).trans rfl
theorem wSeq_ok {f : EvE} {ρ : Rho} {d : D} {xs : List D} {S S1 : Store} (h : f ρ S = .ok d S1) (hx : seqOf S1 d = some xs) : wSeq f ρ S = .ok ⟨srcOf d xs, xs⟩ S1 := by
  unfold wSeq; rw [h]; simp only [O.bind, hx]
theorem bAll_of {S : Store} {d : D} {ns : List Bool} (h : DI.listOf S d = some (ns.map .bl)) : bAll S [d] = some (.d (.bl (ns.all id))) := by
  unfold bAll one1 withBls; simp only [h, blsOf_map]
theorem eBin_ok {al : Bool} {op : Operator} {f g : EvE} {ρ : Rho} {d e : D} {r : Res} {S S1 S2 : Store} (h : f ρ S = .ok d S1) (h2 : g ρ S1 = .ok e S2) (hb : binD S2 op d e = some r) : eBin al op f g ρ S = settle al r S2 := by
  unfold eBin; rw [h]; show (g ρ S1).bind _ = _; rw [h2]; show ofRes al (binD S2 op d e) S2 = _; rw [hb]; rfl
theorem cmp_ne {S : Store} {d e : D} {b : Bool} (h : eqvD S d e = some b) : cmpD S .NotEq d e = some (!b) := by
  show (eqvD S d e).map (!·) = _
  rw [h]; rfl
theorem cmp_eq {S : Store} {d e : D} {b : Bool} (h : eqvD S d e = some b) : cmpD S .Eq d e = some b := h
theorem rep_flat (n : Nat) (v : Int) : (List.replicate n [D.int v]).flatten = (List.replicate n v).map .int := by
  induction n with
  | zero => rfl
  | succ n ih => rw [List.replicate_succ, List.flatten_cons, ih]; rfl
theorem mul_rep {S : Store} {v : Int} {k : Int} (h0 : 0 ≤ k) (h : k ≤ 100000) : binD S .Mult (.lst [.int v]) (.int k) = some (.new ((List.replicate k.toNat v).map .int)) := by
  rw [← rep_flat]
  have h1 : k.toNat ≤ 16777216 := by omega
  have h2 : k ≤ 16777216 := by omega
  have h3 : (-16777216 : Int) ≤ k := by omega
  exact if_pos (by simp [LINE, h1, h2, h3])
theorem add_lists {S : Store} {xs ys : List Int} (h : xs.length + ys.length ≤ 100000) : binD S .Add (.lst (xs.map .int)) (.lst (ys.map .int)) = some (.new ((xs ++ ys).map .int)) := by
  show (if (xs.map D.int).length + (ys.map D.int).length ≤ LINE then some (Res.new (xs.map D.int ++ ys.map D.int)) else none) = _
  rw [if_pos (by rw [List.length_map, List.length_map]; unfold LINE; omega), List.map_append]
theorem lst_ok {al : Bool} {g : EvL} {ρ : Rho} {ds : List D} {S S1 : Store} (h : g ρ S = .ok ds S1) (hl : ds.length ≤ 100000) : eLst al g ρ S = settle al (.new ds) S1 := by
  unfold eLst; rw [h]
  show (if ds.length ≤ LINE then _ else _) = _
  rw [if_pos (by unfold LINE; omega)]
end DI
/-! DI: repr and == of small data. -/
namespace DI
open PySem L2
structure Small (p : PyData) : Prop where
  sh : p.showable = true
  lf : p.leavesShort 41 = true
  wt : p.weight ≤ 100000
  dp : p.depth ≤ 64
theorem reprD_of {S : Store} {d : D} {p : PyData} (h : d.toP S = some p) (s : Small p) : reprD S d = some p.shown := by
  unfold reprD
  rw [h]
  have h1 := PyData.shown_le 41 (by decide) p s.lf
  have h2 := s.wt
  have h3 : p.shown.length ≤ LINE := by unfold LINE; omega
  simp [s.sh, s.dp, h3]
def T40 : Nat := 10000000000000000000000000000000000000000
theorem int_small {i : Int} (h : i.natAbs < T40) : (PyData.int i).showable = true ∧ (PyData.int i).leavesShort 41 = true := by
  constructor
  · unfold PyData.showable
    have : i.natAbs.log2 < 1920 := by
      by_cases h0 : i.natAbs = 0
      · rw [h0]; decide
      · exact (Nat.log2_lt h0).mpr (Nat.lt_of_lt_of_le h (by unfold T40; decide +kernel))
    simpa using this
  · have e := int_text_length_le10 (a := i) (k := 40) (by decide) (by unfold T40 at h; omega)
    have : (PyData.shown (.int i)).length ≤ 41 := by
      show (Str.ofString (toString i)).length ≤ 41
      rw [ofString_length]; exact e
    simpa [PyData.leavesShort] using this
theorem toPs_ints (S : Store) (ns : List Int) : toPs S (ns.map .int) = some (ns.map .int) := by
  induction ns with
  | nil => rfl
  | cons n r ih => rw [List.map_cons, toPs, ih]; rfl
theorem toPs0_ints (ns : List Int) : toPs0 (ns.map .int) = some (ns.map .int) := by
  induction ns with
  | nil => rfl
  | cons n r ih => rw [List.map_cons, toPs0, ih]; rfl
theorem toP_lst (S : Store) (ns : List Int) : (D.lst (ns.map .int)).toP S = some (.list (ns.map .int)) := by
  unfold D.toP; rw [toPs_ints]; rfl
theorem toP_tup (S : Store) (ns : List Int) : (D.tup (ns.map .int)).toP S = some (.tuple (ns.map .int)) := by
  unfold D.toP; rw [toPs_ints]; rfl
theorem toP_cel {S : Store} {n : Nat} {ns : List Int} (h : cellL S n = some (ns.map .int)) : (D.cel n).toP S = some (.list (ns.map .int)) := by
  unfold D.toP; rw [h]; simp [toPs0_ints]
theorem wt_int {n : Int} (h : n.natAbs < T40) : (PyData.int n).weight ≤ 134 := by
  rw [PyData.weight]
  by_cases h0 : n.natAbs = 0
  · have : n = 0 := by omega
    subst this; decide
  · have : n.natAbs.log2 < 133 := (Nat.log2_lt h0).mpr (Nat.lt_of_lt_of_le h (by unfold T40; decide +kernel))
    split <;> omega
theorem small_all {ns : List Int} (h : ∀ n ∈ ns, n.natAbs < T40) : PyData.showableAll (ns.map .int) = true ∧ PyData.leavesShortAll 41 (ns.map .int) = true ∧ PyData.weightAll (ns.map .int) ≤ 140 * ns.length ∧ PyData.depthAll (ns.map .int) = 0 := by
  induction ns with
  | nil => exact ⟨rfl, rfl, Nat.le_refl _, rfl⟩
  | cons n r ih =>
    obtain ⟨h1, h2, h3, h4⟩ := ih fun m hm => h m (List.mem_cons_of_mem _ hm)
    obtain ⟨g1, g2⟩ := int_small (h n List.mem_cons_self)
    have g3 := wt_int (h n List.mem_cons_self)
    refine ⟨?_, ?_, ?_, ?_⟩
    · rw [List.map_cons, PyData.showableAll, g1, h1]; rfl
    · rw [List.map_cons, PyData.leavesShortAll, g2, h2]; rfl
    · rw [List.map_cons, PyData.weightAll, List.length_cons]; omega
    · rw [List.map_cons, PyData.depthAll, h4]; rfl
theorem small_ints {ns : List Int} (h : ∀ n ∈ ns, n.natAbs < T40) (hl : ns.length ≤ 250) : Small (.list (ns.map .int)) ∧ (PyData.list (ns.map .int)).weight ≤ 40000 ∧ (PyData.list (ns.map .int)).depth ≤ 1 := by
  obtain ⟨h1, h2, h3, h4⟩ := small_all h
  exact ⟨⟨by rw [PyData.showable]; exact h1, by rw [PyData.leavesShort]; exact h2, by rw [PyData.weight]; omega, by rw [PyData.depth, h4]; omega⟩, by rw [PyData.weight]; omega, by rw [PyData.depth, h4]; omega⟩
theorem small_two {p q : PyData} (h : Small p) (g : Small q) (hw : p.weight ≤ 40000) (gw : q.weight ≤ 40000) (hd : p.depth ≤ 10) (gd : q.depth ≤ 10) : Small (.list [p, q]) := by
  refine ⟨?_, ?_, ?_, ?_⟩
  · rw [PyData.showable]; simp [PyData.showableAll, h.sh, g.sh]
  · rw [PyData.leavesShort]; simp [PyData.leavesShortAll, h.lf, g.lf]
  · rw [PyData.weight]; simp [PyData.weightAll]; omega
  · rw [PyData.depth]; simp [PyData.depthAll]; omega
/-! == -/
theorem canLay_ints (ns : List Int) : PyData.canLayAll0 (ns.map .int) = true := by
  induction ns with
  | nil => rfl
  | cons n r ih => rw [List.map_cons]; simp [PyData.canLayAll0, PyData.canLay0, ih]
theorem depth_ints (ns : List Int) : PyData.depthAll (ns.map .int) = 0 := by
  induction ns with
  | nil => rfl
  | cons n r ih => rw [List.map_cons, PyData.depthAll, ih]; rfl
theorem shaped_ints (ns : List Int) : SeqAt.shaped (.list (ns.map .int)) = true := by
  unfold SeqAt.shaped
  rw [PyData.canLay0, canLay_ints, PyData.depth, depth_ints]; rfl
theorem shaped_int (n : Int) : SeqAt.shaped (.int n) = true := rfl
theorem eqv_ints : ∀ (ns ms : List Int), PyData.eqvAll (ns.map .int) (ms.map .int) = decide (ns = ms)
  | [], [] => by simp [PyData.eqvAll]
  | [], m :: ms => by simp [PyData.eqvAll]
  | n :: ns, [] => by simp [PyData.eqvAll]
  | n :: ns, m :: ms => by
    rw [List.map_cons, List.map_cons, PyData.eqvAll, eqv_ints ns ms]
    by_cases h : n = m
    · subst h; simp [PyData.eqv]
    · simp [PyData.eqv, h]
/-- two lists of ints, a value or a cell each -/
theorem strEq_toP {S : Store} {d e : D} {xs : List PyData} (h : d.toP S = some (.list xs)) : strEq d e = none := by
  cases d <;> first | rfl | cases h
theorem eqvD_lists {S : Store} {d e : D} {ns ms : List Int} (h : d.toP S = some (.list (ns.map .int))) (g : e.toP S = some (.list (ms.map .int))) : eqvD S d e = some (decide (ns = ms)) := by
  unfold eqvD
  rw [strEq_toP h]
  simp only []
  unfold eqvD0
  rw [h, g]
  simp only [shaped_ints, Bool.and_self, if_true]
  rw [PyData.eqv, eqv_ints]
theorem eqvD_ints {S : Store} {n m : Int} : eqvD S (.int n) (.int m) = some (decide (n = m)) := rfl
theorem eqvD_strs {S : Store} {n m : Str} : eqvD S (.str n) (.str m) = some (decide (n = m)) := rfl
end DI
/-! DI: more tools for the plain laws. -/
namespace DI
open PySem L2
/-- the loop's variable behind i turns -/
def ln (v : Option D) (a : Int) (i : Nat) : Option D := if i = 0 then v else some (.int (a + i - 1))
theorem ln_succ (v : Option D) (a : Int) (i : Nat) : ln v a (i + 1) = some (.int (a + i)) := by
  unfold ln
  rw [if_neg (by omega)]
  have : a + ((i + 1 : Nat) : Int) - 1 = a + i := by omega
  rw [this]
theorem sFor_to {w : EvW} {g : EvG} {b : EvS} {src : List (Nat × List D)} (I : Nat → Rho → Store → Prop) {xs : List D} {ρ ρ1 : Rho} {S S0 S1 : Store} (hw : w ρ S = .ok ⟨src, xs⟩ S0) (h0 : I 0 ρ S0)
    (h : ∀ (i : Nat) x ρ S, xs[i]? = some x → I i ρ S → srcSame S src = true ∧ ∃ ρ1 S1 ρ2 S2, g x ρ S = .ok ρ1 S1 ∧ b ρ1 S1 = .ok (.nx ρ2) S2 ∧ I (i + 1) ρ2 S2) (hl : ∀ ρ S, I xs.length ρ S → srcSame S src = true)
    (fin : ∀ ρ' S', I xs.length ρ' S' → ρ' = ρ1 ∧ S' = S1) : sFor w g b ρ S = .ok (.nx ρ1) S1 := by
  obtain ⟨ρ', S', e, hI⟩ := sFor_inv hw h0 h hl
  obtain ⟨rfl, rfl⟩ := fin ρ' S' hI
  exact e
/-- for x in range(a, b), slot j: the state is f i (the loop's variable left out) -/
theorem sFor_rng {w : EvW} {b : EvS} {j : Nat} {lo hi : Int} {ρ : Rho} {S S0 : Store} {v : Option D} (f : Nat → Rho × Store) (hw : w ρ S = .ok ⟨[], rngL lo hi⟩ S0) (h0 : ρ = (f 0).1.set j v ∧ S0 = (f 0).2) (hlt : lo < hi)
    (h : ∀ (i : Nat), i < (hi - lo).toNat → b ((f i).1.set j (some (.int (lo + i)))) (f i).2 = .ok (.nx ((f (i + 1)).1.set j (some (.int (lo + i))))) (f (i + 1)).2) :
    sFor w (gVar j) b ρ S = .ok (.nx ((f (hi - lo).toNat).1.set j (some (.int (hi - 1))))) (f (hi - lo).toNat).2 := by
  refine sFor_to (fun i ρ T => ρ = (f i).1.set j (ln v lo i) ∧ T = (f i).2) hw ⟨h0.1, h0.2⟩ (fun i x ρ T hx hI => ?_) (fun _ _ _ => rfl) fun ρ' S' hI => ?_
  · obtain ⟨rfl, rfl⟩ := hI
    obtain ⟨rfl, hi⟩ := rngL_get hx
    refine ⟨rfl, _, _, _, _, rfl, ?_, rfl, rfl⟩
    show b (((f i).1.set j (ln v lo i)).set j (some (.int (lo + i)))) (f i).2 = _
    rw [List.set_set, h i hi, ln_succ]
  · obtain ⟨rfl, rfl⟩ := hI
    rw [rngL_len]
    refine ⟨?_, rfl⟩
    unfold ln
    rw [if_neg (by omega)]
    have : lo + ((hi - lo).toNat : Int) - 1 = hi - 1 := by omega
    rw [this]
theorem wRng2_small {f g : EvE} {ρ : Rho} {a b : Int} {S S1 S2 : Store} (h : f ρ S = .ok (.int a) S1) (h2 : g ρ S1 = .ok (.int b) S2) (h1 : -1000000 ≤ a) (h3 : a ≤ 1000000) (h4 : -1000000 ≤ b) (h5 : b ≤ 1000000) : wRng2 f g ρ S = .ok ⟨[], rngL a b⟩ S2 := wRng2_ok h h2 (rngOk_small h1 h3 h4 h5)
theorem repr_ok {al : Bool} {g : EvL} {ρ : Rho} {d : D} {t : Str} {S S1 : Store} (h : g ρ S = .ok [d] S1) (hr : reprD S1 d = some t) : eBlt al bRepr g ρ S = .ok (.str t) S1 :=
  (eBlt_ok (r := .d (.str t)) h (by show (reprD S1 d).map _ = _; rw [hr]; rfl)).trans rfl
theorem tOr_f {t u : EvB} {ρ : Rho} {S S1 S2 : Store} (h : t ρ S = .ok false S1) (h2 : u ρ S1 = .ok false S2) : tOrE t u ρ S = .ok false S2 := by
  unfold tOrE; rw [h]; exact h2
theorem tAnd_f {t u : EvB} {ρ : Rho} {S S1 : Store} (h : t ρ S = .ok false S1) : tAndE t u ρ S = .ok false S1 := by
  unfold tAndE; rw [h]; rfl
theorem tAnd_t {t u : EvB} {ρ : Rho} {b : Bool} {S S1 S2 : Store} (h : t ρ S = .ok true S1) (h2 : u ρ S1 = .ok b S2) : tAndE t u ρ S = .ok b S2 := by
  unfold tAndE; rw [h]; exact h2
theorem eAnd_t {f g : EvE} {ρ : Rho} {d : D} {S S1 S2 : Store} (h : f ρ S = .ok (.bl true) S1) (h2 : g ρ S1 = .ok d S2) : eAnd f g ρ S = .ok d S2 := by
  unfold eAnd; rw [h]; exact h2
theorem eGet_ok {f g : EvE} {ρ : Rho} {d e v : D} {S S1 S2 : Store} (h : f ρ S = .ok d S1) (h2 : g ρ S1 = .ok e S2) (hv : getD S2 d e = some v) : eGet f g ρ S = .ok v S2 := by
  unfold eGet; rw [h]; show (g ρ S1).bind _ = _; rw [h2]; simp only [O.bind, hv]
theorem sums_map {α : Type} {l : List α} {f : α → Int} : ((l.map fun x => D.int (f x))) = (l.map f).map .int := by rw [List.map_map]; rfl
theorem zipL_mem {rs os : List Int} {d : D} (h : d ∈ zipL (rs.map .int) (os.map .int)) : ∃ x y, d = .tup [.int x, .int y] ∧ x ∈ rs ∧ y ∈ os := by
  unfold zipL at h
  rw [List.zipWith_map] at h
  obtain ⟨i, hi, rfl⟩ := List.getElem_of_mem h
  rw [List.length_zipWith] at hi
  rw [List.getElem_zipWith]
  exact ⟨_, _, rfl, List.getElem_mem _, List.getElem_mem _⟩
theorem eComp_zip {al : Bool} {w : EvW} {vs : List Nat} {c : CT} {t : EvB} {f : EvE} {ρ : Rho} {S : Store} {src : List (Nat × List D)} {rs os : List Int} (F : Int → Int → Int) (hw : w ρ S = .ok ⟨src, zipL (rs.map .int) (os.map .int)⟩ S) (hs : srcSame S src = true)
    (h : ∀ x y, x ∈ rs → y ∈ os → compStep vs c t f ρ (.tup [.int x, .int y]) S = .ok (some (.int (F x y))) S) : eComp al w vs c t f ρ S = settle al (.new ((List.zipWith F rs os).map .int)) S := by
  rw [eComp_pure (fun d => match d with | .tup [.int x, .int y] => .int (F x y) | d => d) hw hs (fun d hd => by
    obtain ⟨x, y, rfl, hx, hy⟩ := zipL_mem hd
    exact h x y hx hy)]
  unfold zipL
  rw [List.zipWith_map, List.map_zipWith, List.map_zipWith]
theorem wZip_ok {f g : EvE} {ρ : Rho} {d e : D} {xs ys : List D} {S S1 S2 : Store} (h : f ρ S = .ok d S1) (h2 : g ρ S1 = .ok e S2) (hx : DI.listOf S2 d = some xs) (hy : DI.listOf S2 e = some ys) : wZip f g ρ S = .ok ⟨srcOf d xs ++ srcOf e ys, zipL xs ys⟩ S2 := by
  unfold wZip; rw [h]; show (g ρ S1).bind _ = _; rw [h2]; simp only [O.bind, hx, hy]
theorem wRng1_ok {f : EvE} {ρ : Rho} {b : Int} {S S1 : Store} (h : f ρ S = .ok (.int b) S1) (hk : rngOk 0 b = true) : wRng1 f ρ S = .ok ⟨[], rngL 0 b⟩ S1 := by
  unfold wRng1; rw [h]; exact if_pos hk
end DI
namespace K91
open PySem PySem.Spec L2 DI
open PyProof.Rows hiding St
def topS (i : Nat) : Stmt := PySem.Challenge.pw_clockrests_k91_whole_sums_and_rows_taken.main.body.getD i (.Pass ⟨0, 0, 0, 0⟩)
abbrev t__law_pot : Stmt := topS 21
def n__law_pot : List Str := ["script", "k", "cell"]
theorem sc__law_pot : FnScope n__law_pot ["script", "k"] (defScope t__law_pot) := ⟨rfl, rfl, rfl, by decide +kernel, rfl, by decide +kernel, by decide +kernel⟩
theorem bp__law_pot : BindsP "_law_pot" t__law_pot ["script", "k"] := fun _ _ _ _ _ _ us hl => match us, hl with | [_, _], _ => rfl
abbrev t__law_draw : Stmt := topS 22
def n__law_draw : List Str := ["pot", "many", "digit"]
theorem sc__law_draw : FnScope n__law_draw ["pot", "many"] (defScope t__law_draw) := ⟨rfl, rfl, rfl, by decide +kernel, rfl, by decide +kernel, by decide +kernel⟩
theorem bp__law_draw : BindsP "_law_draw" t__law_draw ["pot", "many"] := fun _ _ _ _ _ _ us hl => match us, hl with | [_, _], _ => rfl
abbrev t__law_pick : Stmt := topS 23
def n__law_pick : List Str := ["pot", "some"]
theorem sc__law_pick : FnScope n__law_pick ["pot", "some"] (defScope t__law_pick) := ⟨rfl, rfl, rfl, by decide +kernel, rfl, by decide +kernel, by decide +kernel⟩
theorem bp__law_pick : BindsP "_law_pick" t__law_pick ["pot", "some"] := fun _ _ _ _ _ _ us hl => match us, hl with | [_, _], _ => rfl
abbrev t_is_list : Stmt := topS 3
def n_is_list : List Str := ["value"]
theorem sc_is_list : FnScope n_is_list ["value"] (defScope t_is_list) := ⟨rfl, rfl, rfl, by decide +kernel, rfl, by decide +kernel, by decide +kernel⟩
theorem bp_is_list : BindsP "is_list" t_is_list ["value"] := fun _ _ _ _ _ _ us hl => match us, hl with | [_], _ => rfl
abbrev t_is_integer : Stmt := topS 1
def n_is_integer : List Str := ["value"]
theorem sc_is_integer : FnScope n_is_integer ["value"] (defScope t_is_integer) := ⟨rfl, rfl, rfl, by decide +kernel, rfl, by decide +kernel, by decide +kernel⟩
theorem bp_is_integer : BindsP "is_integer" t_is_integer ["value"] := fun _ _ _ _ _ _ us hl => match us, hl with | [_], _ => rfl
abbrev t_is_within : Stmt := topS 2
def n_is_within : List Str := ["value", "least", "most"]
theorem sc_is_within : FnScope n_is_within ["value", "least", "most"] (defScope t_is_within) := ⟨rfl, rfl, rfl, by decide +kernel, rfl, by decide +kernel, by decide +kernel⟩
theorem bp_is_within : BindsP "is_within" t_is_within ["value", "least", "most"] := fun _ _ _ _ _ _ us hl => match us, hl with | [_, _, _], _ => rfl
abbrev t_is_row_value : Stmt := topS 14
def n_is_row_value : List Str := ["value", "one"]
theorem sc_is_row_value : FnScope n_is_row_value ["value"] (defScope t_is_row_value) := ⟨rfl, rfl, rfl, by decide +kernel, rfl, by decide +kernel, by decide +kernel⟩
theorem bp_is_row_value : BindsP "is_row_value" t_is_row_value ["value"] := fun _ _ _ _ _ _ us hl => match us, hl with | [_], _ => rfl
abbrev t_want_row : Stmt := topS 15
def n_want_row : List Str := ["row"]
theorem sc_want_row : FnScope n_want_row ["row"] (defScope t_want_row) := ⟨rfl, rfl, rfl, by decide +kernel, rfl, by decide +kernel, by decide +kernel⟩
theorem bp_want_row : BindsP "want_row" t_want_row ["row"] := fun _ _ _ _ _ _ us hl => match us, hl with | [_], _ => rfl
abbrev t_parts_of : Stmt := topS 8
def n_parts_of : List Str := ["number", "found", "left", "one", "times"]
theorem sc_parts_of : FnScope n_parts_of ["number"] (defScope t_parts_of) := ⟨rfl, rfl, rfl, by decide +kernel, rfl, by decide +kernel, by decide +kernel⟩
theorem bp_parts_of : BindsP "parts_of" t_parts_of ["number"] := fun _ _ _ _ _ _ us hl => match us, hl with | [_], _ => rfl
abbrev t_power_of : Stmt := topS 9
def n_power_of : List Str := ["one", "times", "found", "turn"]
theorem sc_power_of : FnScope n_power_of ["one", "times"] (defScope t_power_of) := ⟨rfl, rfl, rfl, by decide +kernel, rfl, by decide +kernel, by decide +kernel⟩
theorem bp_power_of : BindsP "power_of" t_power_of ["one", "times"] := fun _ _ _ _ _ _ us hl => match us, hl with | [_, _], _ => rfl
abbrev t_divisors_of : Stmt := topS 10
def n_divisors_of : List Str := ["number", "found", "prime", "times", "late", "power", "one"]
theorem sc_divisors_of : FnScope n_divisors_of ["number"] (defScope t_divisors_of) := ⟨rfl, rfl, rfl, by decide +kernel, rfl, by decide +kernel, by decide +kernel⟩
theorem bp_divisors_of : BindsP "divisors_of" t_divisors_of ["number"] := fun _ _ _ _ _ _ us hl => match us, hl with | [_], _ => rfl
abbrev t_product_of : Stmt := topS 17
def n_product_of : List Str := ["row", "other", "found", "number", "one"]
theorem sc_product_of : FnScope n_product_of ["row", "other"] (defScope t_product_of) := ⟨rfl, rfl, rfl, by decide +kernel, rfl, by decide +kernel, by decide +kernel⟩
theorem bp_product_of : BindsP "product_of" t_product_of ["row", "other"] := fun _ _ _ _ _ _ us hl => match us, hl with | [_, _], _ => rfl
abbrev t_summed : Stmt := topS 18
def n_summed : List Str := ["row"]
theorem sc_summed : FnScope n_summed ["row"] (defScope t_summed) := ⟨rfl, rfl, rfl, by decide +kernel, rfl, by decide +kernel, by decide +kernel⟩
theorem bp_summed : BindsP "summed" t_summed ["row"] := fun _ _ _ _ _ _ us hl => match us, hl with | [_], _ => rfl
abbrev t_sign_at : Stmt := topS 16
def n_sign_at : List Str := ["number", "found", "prime", "times"]
theorem sc_sign_at : FnScope n_sign_at ["number"] (defScope t_sign_at) := ⟨rfl, rfl, rfl, by decide +kernel, rfl, by decide +kernel, by decide +kernel⟩
theorem bp_sign_at : BindsP "sign_at" t_sign_at ["number"] := fun _ _ _ _ _ _ us hl => match us, hl with | [_], _ => rfl
abbrev t_taken_back : Stmt := topS 19
def n_taken_back : List Str := ["row", "number"]
theorem sc_taken_back : FnScope n_taken_back ["row"] (defScope t_taken_back) := ⟨rfl, rfl, rfl, by decide +kernel, rfl, by decide +kernel, by decide +kernel⟩
theorem bp_taken_back : BindsP "taken_back" t_taken_back ["row"] := fun _ _ _ _ _ _ us hl => match us, hl with | [_], _ => rfl
abbrev t__law_great_right : Stmt := topS 32
def n__law_great_right : List Str := ["pot", "value", "row", "told", "at"]
theorem sc__law_great_right : FnScope n__law_great_right ["pot"] (defScope t__law_great_right) := ⟨rfl, rfl, rfl, by decide +kernel, rfl, by decide +kernel, by decide +kernel⟩
theorem bp__law_great_right : BindsP "_law_great_right" t__law_great_right ["pot"] := fun _ _ _ _ _ _ us hl => match us, hl with | [_], _ => rfl
abbrev t__law_row : Stmt := topS 28
def n__law_row : List Str := ["pot", "length", "great", "way", "at"]
theorem sc__law_row : FnScope n__law_row ["pot", "length", "great"] (defScope t__law_row) := ⟨rfl, rfl, rfl, by decide +kernel, rfl, by decide +kernel, by decide +kernel⟩
theorem bp__law_row : BindsP "_law_row" t__law_row ["pot", "length", "great"] := fun _ _ _ _ _ _ us hl => match us, hl with | [_, _, _], _ => rfl
abbrev t__law_divisors : Stmt := topS 25
def n__law_divisors : List Str := ["number", "one"]
theorem sc__law_divisors : FnScope n__law_divisors ["number"] (defScope t__law_divisors) := ⟨rfl, rfl, rfl, by decide +kernel, rfl, by decide +kernel, by decide +kernel⟩
theorem bp__law_divisors : BindsP "_law_divisors" t__law_divisors ["number"] := fun _ _ _ _ _ _ us hl => match us, hl with | [_], _ => rfl
abbrev t__law_parts : Stmt := topS 26
def n__law_parts : List Str := ["number", "found", "left", "prime", "times"]
theorem sc__law_parts : FnScope n__law_parts ["number"] (defScope t__law_parts) := ⟨rfl, rfl, rfl, by decide +kernel, rfl, by decide +kernel, by decide +kernel⟩
theorem bp__law_parts : BindsP "_law_parts" t__law_parts ["number"] := fun _ _ _ _ _ _ us hl => match us, hl with | [_], _ => rfl
abbrev t__law_sign : Stmt := topS 27
def n__law_sign : List Str := ["number", "found", "prime", "times"]
theorem sc__law_sign : FnScope n__law_sign ["number"] (defScope t__law_sign) := ⟨rfl, rfl, rfl, by decide +kernel, rfl, by decide +kernel, by decide +kernel⟩
theorem bp__law_sign : BindsP "_law_sign" t__law_sign ["number"] := fun _ _ _ _ _ _ us hl => match us, hl with | [_], _ => rfl
abbrev t__law_right : Stmt := topS 31
def n__law_right : List Str := ["pot", "length", "row", "shown", "due", "number", "told", "back", "other", "both", "halves", "one", "near", "far"]
theorem sc__law_right : FnScope n__law_right ["pot"] (defScope t__law_right) := ⟨rfl, rfl, rfl, by decide +kernel, rfl, by decide +kernel, by decide +kernel⟩
theorem bp__law_right : BindsP "_law_right" t__law_right ["pot"] := fun _ _ _ _ _ _ us hl => match us, hl with | [_], _ => rfl
abbrev t_law : Stmt := topS 33
def n_law : List Str := ["script", "pots", "k", "pot"]
theorem sc_law : FnScope n_law ["script"] (defScope t_law) := ⟨rfl, rfl, rfl, by decide +kernel, rfl, by decide +kernel, by decide +kernel⟩
theorem bp_law : BindsP "law" t_law ["script"] := fun _ _ _ _ _ _ us hl => match us, hl with | [_], _ => rfl
def b__law_pot : EvS := sSeq (sAsg (eIf (tVal (eCmp .Lt (eVar 1) (eBlt false bLen (eCons (eVar 0) (eNil))))) (eBlt false (fun _ => bAbs) (eCons (eGet (eVar 0) (eVar 1)) (eNil))) (eBin false .Add (eBin false .Mult (eC (.int 2969)) (eVar 1)) (eC (.int 2687)))) (gVar 2)) (sSeq (sRet (eLst true (eCons (eBlt false bMax (eCons (eC (.int 0)) (eCons (eBin false .Sub (eVar 2) (eBin false .Pow (eC (.int 10)) (eC (.int 18)))) (eNil)))) (eCons (eBin false .Add (eBin false .Mod (eBlt false (fun _ => bInt) (eCons (eBin false .Add (eBin false .Add (eBin false .Mult (eBin false .Mod (eBlt false (fun _ => bInt) (eCons (eVar 2) (eNil))) (eC (.int 2147483549))) (eC (.int 40692))) (eBin false .Mult (eC (.int 2969)) (eVar 1))) (eC (.int 1987))) (eNil))) (eC (.int 2147483563))) (eC (.int 1))) (eNil))))) (sNext))
def c__law_pot : List D → Store → O Res := runF 2 3 b__law_pot
def b__law_draw : EvS := sSeq (sIf (tVal (eCmp .Gt (eGet (eVar 0) (eC (.int 0))) (eC (.int 0)))) (sSeq (sAsg (eBlt false (fun _ => bDivmod) (eCons (eGet (eVar 0) (eC (.int 0))) (eCons (eVar 1) (eNil)))) (gTupE 2 (gConsE (gSubE (eVar 0) (eC (.int 0))) (gConsE (gVar 2) (gNilE))))) (sSeq (sRet (eVar 2)) (sNext))) (sNext)) (sSeq (sAsg (eBin false .Mod (eBlt false (fun _ => bInt) (eCons (eBin false .Add (eBin false .Mult (eGet (eVar 0) (eC (.int 1))) (eC (.int 40014))) (eC (.int 1987))) (eNil))) (eC (.int 2147483587))) (gSubE (eVar 0) (eC (.int 1)))) (sSeq (sRet (eBin true .Mod (eBlt false (fun _ => bInt) (eCons (eBin false .FloorDiv (eBin false .Mod (eBlt false (fun _ => bInt) (eCons (eBin false .Mult (eGet (eVar 0) (eC (.int 1))) (eGet (eVar 0) (eC (.int 1)))) (eNil))) (eC (.int 2147483549))) (eC (.int 17))) (eNil))) (eVar 1))) (sNext)))
def c__law_draw : List D → Store → O Res := runF 2 3 b__law_draw
def b__law_pick : EvS := sSeq (sRet (eGet (eVar 1) (eOwn false (frame c__law_draw) (eCons (eVar 0) (eCons (eBlt false bLen (eCons (eVar 1) (eNil))) (eNil)))))) (sNext)
def c__law_pick : List D → Store → O Res := runF 2 2 b__law_pick
def b_is_list : EvS := sSeq (sRet (eIsi (eVar 0) ["list", "tuple"])) (sNext)
def c_is_list : List D → Store → O Res := runF 1 1 b_is_list
def b_is_integer : EvS := sSeq (sRet (eAnd (eIsi (eVar 0) ["int"]) (eNot (eIsi (eVar 0) ["bool"])))) (sNext)
def c_is_integer : List D → Store → O Res := runF 1 1 b_is_integer
def b_is_within : EvS := sSeq (sRet (eAnd (eOwn false (frame c_is_integer) (eCons (eVar 0) (eNil))) (eChain .LtE .LtE (eVar 1) (eVar 0) (eVar 2)))) (sNext)
def c_is_within : List D → Store → O Res := runF 3 3 b_is_within
def b_is_row_value : EvS := sSeq (sIf (tOrE (tNotE (tVal (eOwn false (frame c_is_list) (eCons (eVar 0) (eNil))))) (tNotE (tVal (eChain .LtE .LtE (eC (.int 1)) (eBlt false bLen (eCons (eVar 0) (eNil))) (eC (.int 200)))))) (sSeq (sRet (eC (.bl false))) (sNext)) (sNext)) (sSeq (sRet (eBlt true bAll (eCons (eComp false (wSeq (eVar 0)) [1] (.one 1) (tYesE) (eOwn false (frame c_is_within) (eCons (eVar 1) (eCons (eBin false .Sub (eC (.int 0)) (eC (.int 1000000000000))) (eCons (eC (.int 1000000000000)) (eNil)))))) (eNil)))) (sNext))
def c_is_row_value : List D → Store → O Res := runF 1 2 b_is_row_value
def b_want_row : EvS := sSeq (sIf (tNotE (tVal (eOwn false (frame c_is_row_value) (eCons (eVar 0) (eNil))))) (sSeq (eNo) (sNext)) (sNext)) (sNext)
def c_want_row : List D → Store → O Res := runF 1 1 b_want_row
def b_parts_of : EvS := sSeq (sPar (eCons (eLst true (eNil)) (eCons (eVar 0) (eCons (eC (.int 2)) (eNil)))) (gConsE (gVar 1) (gConsE (gVar 2) (gConsE (gVar 3) (gNilE))))) (sSeq (sWhile (tVal (eCmp .LtE (eBin false .Mult (eVar 3) (eVar 3)) (eVar 2))) (sSeq (sAsg (eC (.int 0)) (gVar 4)) (sSeq (sWhile (tVal (eCmp .Eq (eBin false .Mod (eVar 2) (eVar 3)) (eC (.int 0)))) (sSeq (sPar (eCons (eBin false .FloorDiv (eVar 2) (eVar 3)) (eCons (eBin false .Add (eVar 4) (eC (.int 1))) (eNil))) (gConsE (gVar 2) (gConsE (gVar 4) (gNilE)))) (sNext))) (sSeq (sExt (eVar 1) (eIf (tVal (eCmp .Gt (eVar 4) (eC (.int 0)))) (eLst false (eCons (eTup (eCons (eVar 3) (eCons (eVar 4) (eNil)))) (eNil))) (eLst false (eNil)))) (sSeq (sAsg (eBin false .Add (eVar 3) (eC (.int 1))) (gVar 3)) (sNext)))))) (sSeq (sExt (eVar 1) (eIf (tVal (eCmp .Gt (eVar 2) (eC (.int 1)))) (eLst false (eCons (eTup (eCons (eVar 2) (eCons (eC (.int 1)) (eNil)))) (eNil))) (eLst false (eNil)))) (sSeq (sRet (eVar 1)) (sNext))))
def c_parts_of : List D → Store → O Res := runF 1 5 b_parts_of
def b_power_of : EvS := sSeq (sAsg (eC (.int 1)) (gVar 2)) (sSeq (sFor (wRng1 (eVar 1)) (gVar 3) (sSeq (sAsg (eBin false .Mult (eVar 2) (eVar 0)) (gVar 2)) (sNext))) (sSeq (sRet (eVar 2)) (sNext)))
def c_power_of : List D → Store → O Res := runF 2 4 b_power_of
def b_divisors_of : EvS := sSeq (sAsg (eLst false (eCons (eC (.int 1)) (eNil))) (gVar 1)) (sSeq (sFor (wSeq (eOwn false (frame c_parts_of) (eCons (eVar 0) (eNil)))) (gTupE 2 (gConsE (gVar 2) (gConsE (gVar 3) (gNilE)))) (sSeq (sAsg (eLst true (eNil)) (gVar 4)) (sSeq (sFor (wRng1 (eBin false .Add (eVar 3) (eC (.int 1)))) (gVar 5) (sSeq (sExt (eVar 4) (eComp false (wSeq (eVar 1)) [6] (.one 6) (tYesE) (eBin false .Mult (eVar 6) (eOwn false (frame c_power_of) (eCons (eVar 2) (eCons (eVar 5) (eNil))))))) (sNext))) (sSeq (sAsg (eVar 4) (gVar 1)) (sNext))))) (sSeq (sRet (eBlt true bSorted (eCons (eVar 1) (eNil)))) (sNext)))
def c_divisors_of : List D → Store → O Res := runF 1 7 b_divisors_of
def b_product_of : EvS := sSeq (sAsg (eLst true (eNil)) (gVar 2)) (sSeq (sFor (wRng2 (eC (.int 1)) (eBin false .Add (eBlt false bLen (eCons (eVar 0) (eNil))) (eC (.int 1)))) (gVar 3) (sSeq (sApp (eVar 2) (eBlt false bSum (eCons (eComp false (wSeq (eOwn false (frame c_divisors_of) (eCons (eVar 3) (eNil)))) [4] (.one 4) (tYesE) (eBin false .Mult (eGet (eVar 0) (eBin false .Sub (eVar 4) (eC (.int 1)))) (eGet (eVar 1) (eBin false .Sub (eBin false .FloorDiv (eVar 3) (eVar 4)) (eC (.int 1)))))) (eNil)))) (sNext))) (sSeq (sRet (eVar 2)) (sNext)))
def c_product_of : List D → Store → O Res := runF 2 5 b_product_of
def b_summed : EvS := sSeq (sDrop (eOwn false (frame c_want_row) (eCons (eVar 0) (eNil)))) (sSeq (sRet (eOwn true (frame c_product_of) (eCons (eVar 0) (eCons (eBin false .Mult (eLst false (eCons (eC (.int 1)) (eNil))) (eBlt false bLen (eCons (eVar 0) (eNil)))) (eNil))))) (sNext))
def c_summed : List D → Store → O Res := runF 1 1 b_summed
def b_sign_at : EvS := sSeq (sAsg (eC (.int 1)) (gVar 1)) (sSeq (sFor (wSeq (eOwn false (frame c_parts_of) (eCons (eVar 0) (eNil)))) (gTupE 2 (gConsE (gVar 2) (gConsE (gVar 3) (gNilE)))) (sSeq (sAsg (eIf (tVal (eCmp .Eq (eVar 3) (eC (.int 1)))) (eBin false .Sub (eC (.int 0)) (eVar 1)) (eC (.int 0))) (gVar 1)) (sNext))) (sSeq (sRet (eVar 1)) (sNext)))
def c_sign_at : List D → Store → O Res := runF 1 4 b_sign_at
def b_taken_back : EvS := sSeq (sDrop (eOwn false (frame c_want_row) (eCons (eVar 0) (eNil)))) (sSeq (sRet (eOwn true (frame c_product_of) (eCons (eComp false (wRng2 (eC (.int 1)) (eBin false .Add (eBlt false bLen (eCons (eVar 0) (eNil))) (eC (.int 1)))) [1] (.one 1) (tYesE) (eOwn false (frame c_sign_at) (eCons (eVar 1) (eNil)))) (eCons (eVar 0) (eNil))))) (sNext))
def c_taken_back : List D → Store → O Res := runF 1 2 b_taken_back
def b__law_great_right : EvS := sSeq (sAsg (eOwn false (frame c__law_pick) (eCons (eVar 0) (eCons (eLst false (eCons (eC (.int 1)) (eCons (eNeg (eC (.int 1))) (eCons (eC (.int 5)) (eCons (eBin false .Sub (eBin false .Pow (eC (.int 10)) (eC (.int 12))) (eC (.int 7))) (eNil)))))) (eNil)))) (gVar 1)) (sSeq (sAsg (eBin false .Mult (eLst false (eCons (eVar 1) (eNil))) (eC (.int 200))) (gVar 2)) (sSeq (sAsg (eOwn false (frame c_summed) (eCons (eVar 2) (eNil))) (gVar 3)) (sSeq (sIf (tVal (eCmp .NotEq (eComp false (wSeq (eTup (eCons (eC (.int 1)) (eCons (eC (.int 60)) (eCons (eC (.int 128)) (eCons (eC (.int 197)) (eCons (eC (.int 200)) (eNil)))))))) [4] (.one 4) (tYesE) (eGet (eVar 3) (eBin false .Sub (eVar 4) (eC (.int 1))))) (eLst false (eCons (eVar 1) (eCons (eBin false .Mult (eC (.int 12)) (eVar 1)) (eCons (eBin false .Mult (eC (.int 8)) (eVar 1)) (eCons (eBin false .Mult (eC (.int 2)) (eVar 1)) (eCons (eBin false .Mult (eC (.int 12)) (eVar 1)) (eNil))))))))) (sSeq (sRet (eC (.bl false))) (sNext)) (sNext)) (sSeq (sRet (eCmp .Eq (eOwn false (frame c_taken_back) (eCons (eVar 2) (eNil))) (eBin false .Add (eLst false (eCons (eVar 1) (eNil))) (eBin false .Mult (eLst false (eCons (eC (.int 0)) (eNil))) (eC (.int 199)))))) (sNext)))))
def c__law_great_right : List D → Store → O Res := runF 1 5 b__law_great_right
def b__law_row : EvS := sSeq (sAsg (eOwn false (frame c__law_draw) (eCons (eVar 0) (eCons (eC (.int 4)) (eNil)))) (gVar 3)) (sSeq (sIf (tAndE (tVal (eVar 2)) (tVal (eCmp .Eq (eVar 3) (eC (.int 0))))) (sSeq (sRet (eComp true (wRng1 (eVar 1)) [4] (.one 4) (tYesE) (eOwn false (frame c__law_pick) (eCons (eVar 0) (eCons (eLst false (eCons (eC (.int 0)) (eCons (eC (.int 1)) (eCons (eNeg (eC (.int 1))) (eCons (eBin false .Pow (eC (.int 10)) (eC (.int 12))) (eCons (eBin false .Sub (eC (.int 0)) (eBin false .Pow (eC (.int 10)) (eC (.int 12)))) (eCons (eC (.int 999999999989)) (eCons (eC (.int 7)) (eNil))))))))) (eNil)))))) (sNext)) (sNext)) (sSeq (sIf (tVal (eCmp .Eq (eVar 3) (eC (.int 1)))) (sSeq (sRet (eComp true (wRng1 (eVar 1)) [4] (.one 4) (tYesE) (eOwn false (frame c__law_pick) (eCons (eVar 0) (eCons (eLst false (eCons (eC (.int 0)) (eCons (eC (.int 0)) (eCons (eC (.int 1)) (eCons (eNeg (eC (.int 1))) (eNil)))))) (eNil)))))) (sNext)) (sNext)) (sSeq (sRet (eComp true (wRng1 (eVar 1)) [4] (.one 4) (tYesE) (eBin false .Sub (eOwn false (frame c__law_draw) (eCons (eVar 0) (eCons (eC (.int 19)) (eNil)))) (eC (.int 9))))) (sNext))))
def c__law_row : List D → Store → O Res := runF 3 5 b__law_row
def b__law_divisors : EvS := sSeq (sRet (eComp true (wRng2 (eC (.int 1)) (eBin false .Add (eVar 0) (eC (.int 1)))) [1] (.one 1) (tVal (eCmp .Eq (eBlt false (fun _ => bInt) (eCons (eBin false .Mod (eVar 0) (eVar 1)) (eNil))) (eC (.int 0)))) (eVar 1))) (sNext)
def c__law_divisors : List D → Store → O Res := runF 1 2 b__law_divisors
def b__law_parts : EvS := sSeq (sPar (eCons (eLst true (eNil)) (eCons (eVar 0) (eCons (eC (.int 2)) (eNil)))) (gConsE (gVar 1) (gConsE (gVar 2) (gConsE (gVar 3) (gNilE))))) (sSeq (sWhile (tVal (eCmp .Gt (eVar 2) (eC (.int 1)))) (sSeq (sAsg (eC (.int 0)) (gVar 4)) (sSeq (sWhile (tVal (eCmp .Eq (eBlt false (fun _ => bInt) (eCons (eBin false .Mod (eVar 2) (eVar 3)) (eNil))) (eC (.int 0)))) (sSeq (sPar (eCons (eBin false .FloorDiv (eVar 2) (eVar 3)) (eCons (eBin false .Add (eVar 4) (eC (.int 1))) (eNil))) (gConsE (gVar 2) (gConsE (gVar 4) (gNilE)))) (sNext))) (sSeq (sExt (eVar 1) (eIf (tVal (eCmp .Gt (eVar 4) (eC (.int 0)))) (eLst false (eCons (eTup (eCons (eVar 3) (eCons (eVar 4) (eNil)))) (eNil))) (eLst false (eNil)))) (sSeq (sAsg (eIf (tVal (eCmp .LtE (eBin false .Mult (eVar 3) (eVar 3)) (eVar 2))) (eBin false .Add (eVar 3) (eC (.int 1))) (eBlt false bMax (eCons (eBin false .Add (eVar 3) (eC (.int 1))) (eCons (eVar 2) (eNil))))) (gVar 3)) (sNext)))))) (sSeq (sRet (eVar 1)) (sNext)))
def c__law_parts : List D → Store → O Res := runF 1 5 b__law_parts
def b__law_sign : EvS := sSeq (sAsg (eC (.int 1)) (gVar 1)) (sSeq (sFor (wSeq (eOwn false (frame c__law_parts) (eCons (eVar 0) (eNil)))) (gTupE 2 (gConsE (gVar 2) (gConsE (gVar 3) (gNilE)))) (sSeq (sAsg (eIf (tVal (eCmp .Gt (eVar 3) (eC (.int 1)))) (eC (.int 0)) (eBin false .Sub (eC (.int 0)) (eVar 1))) (gVar 1)) (sNext))) (sSeq (sRet (eVar 1)) (sNext)))
def c__law_sign : List D → Store → O Res := runF 1 4 b__law_sign
def b__law_right : EvS := sSeq (sAsg (eOwn false (frame c__law_pick) (eCons (eVar 0) (eCons (eLst false (eCons (eC (.int 1)) (eCons (eC (.int 2)) (eCons (eC (.int 6)) (eCons (eC (.int 12)) (eCons (eC (.int 30)) (eCons (eC (.int 60)) (eCons (eBin false .Add (eC (.int 1)) (eOwn false (frame c__law_draw) (eCons (eVar 0) (eCons (eC (.int 60)) (eNil))))) (eNil))))))))) (eNil)))) (gVar 1)) (sSeq (sAsg (eOwn false (frame c__law_row) (eCons (eVar 0) (eCons (eVar 1) (eCons (eC (.bl true)) (eNil))))) (gVar 2)) (sSeq (sPar (eCons (eBlt false bRepr (eCons (eVar 2) (eNil))) (eCons (eLst true (eNil)) (eNil))) (gConsE (gVar 3) (gConsE (gVar 4) (gNilE)))) (sSeq (sFor (wRng2 (eC (.int 1)) (eBin false .Add (eVar 1) (eC (.int 1)))) (gVar 5) (sSeq (sApp (eVar 4) (eBlt false bSum (eCons (eComp false (wSeq (eOwn false (frame c__law_divisors) (eCons (eVar 5) (eNil)))) [11] (.one 11) (tYesE) (eGet (eVar 2) (eBin false .Sub (eVar 11) (eC (.int 1))))) (eNil)))) (sNext))) (sSeq (sAsg (eOwn true (frame c_summed) (eCons (eVar 2) (eNil))) (gVar 6)) (sSeq (sIf (tVal (eCmp .NotEq (eBlt false bRepr (eCons (eLst false (eCons (eVar 6) (eCons (eOwnK false (frame c_summed) 0 ["row"] ["row"] (eNil) (eCons (eBlt false bTuple (eCons (eVar 2) (eNil))) (eNil))) (eNil)))) (eNil))) (eBlt false bRepr (eCons (eLst false (eCons (eVar 4) (eCons (eVar 4) (eNil)))) (eNil))))) (sSeq (sRet (eC (.bl false))) (sNext)) (sNext)) (sSeq (sApp (eVar 6) (eC .non)) (sSeq (sAsg (eOwn false (frame c_taken_back) (eCons (eVar 2) (eNil))) (gVar 7)) (sSeq (sIf (tOrE (tVal (eCmp .NotEq (eBlt false bRepr (eCons (eOwnK false (frame c_taken_back) 0 ["row"] ["row"] (eNil) (eCons (eBlt false bTuple (eCons (eVar 2) (eNil))) (eNil))) (eNil))) (eBlt false bRepr (eCons (eVar 7) (eNil))))) (tVal (eCmp .NotEq (eBlt false bLen (eCons (eVar 7) (eNil))) (eVar 1)))) (sSeq (sRet (eC (.bl false))) (sNext)) (sNext)) (sSeq (sFor (wRng2 (eC (.int 1)) (eBin false .Add (eVar 1) (eC (.int 1)))) (gVar 5) (sSeq (sIf (tVal (eCmp .NotEq (eBlt false bSum (eCons (eComp false (wSeq (eOwn false (frame c__law_divisors) (eCons (eVar 5) (eNil)))) [11] (.one 11) (tYesE) (eGet (eVar 7) (eBin false .Sub (eVar 11) (eC (.int 1))))) (eNil))) (eGet (eVar 2) (eBin false .Sub (eVar 5) (eC (.int 1)))))) (sSeq (sRet (eC (.bl false))) (sNext)) (sNext)) (sSeq (sIf (tVal (eCmp .NotEq (eGet (eVar 7) (eBin false .Sub (eVar 5) (eC (.int 1)))) (eBlt false bSum (eCons (eComp false (wSeq (eOwn false (frame c__law_divisors) (eCons (eVar 5) (eNil)))) [11] (.one 11) (tYesE) (eBin false .Mult (eOwn false (frame c__law_sign) (eCons (eVar 11) (eNil))) (eGet (eVar 2) (eBin false .Sub (eBin false .FloorDiv (eVar 5) (eVar 11)) (eC (.int 1)))))) (eNil))))) (sSeq (sRet (eC (.bl false))) (sNext)) (sNext)) (sNext)))) (sSeq (sIf (tAndE (tVal (eCmp .LtE (eBlt false bMax (eCons (eComp false (wSeq (eVar 7)) [11] (.one 11) (tYesE) (eBlt false (fun _ => bAbs) (eCons (eVar 11) (eNil)))) (eNil))) (eBin false .Pow (eC (.int 10)) (eC (.int 12))))) (tVal (eCmp .NotEq (eOwn false (frame c_summed) (eCons (eVar 7) (eNil))) (eVar 2)))) (sSeq (sRet (eC (.bl false))) (sNext)) (sNext)) (sSeq (sIf (tAndE (tVal (eCmp .LtE (eBlt false bMax (eCons (eComp false (wSeq (eVar 4)) [11] (.one 11) (tYesE) (eBlt false (fun _ => bAbs) (eCons (eVar 11) (eNil)))) (eNil))) (eBin false .Pow (eC (.int 10)) (eC (.int 12))))) (tVal (eCmp .NotEq (eOwn false (frame c_taken_back) (eCons (eVar 4) (eNil))) (eVar 2)))) (sSeq (sRet (eC (.bl false))) (sNext)) (sNext)) (sSeq (sAsg (eOwn false (frame c__law_row) (eCons (eVar 0) (eCons (eVar 1) (eCons (eC (.bl false)) (eNil))))) (gVar 8)) (sSeq (sAsg (eComp false (wZip (eVar 2) (eVar 8)) [12, 13] (.many [12, 13]) (tYesE) (eBin false .Add (eBin false .FloorDiv (eVar 12) (eC (.int 2))) (eVar 13))) (gVar 9)) (sSeq (sAsg (eComp false (wSeq (eVar 2)) [12] (.one 12) (tYesE) (eBin false .FloorDiv (eVar 12) (eC (.int 2)))) (gVar 10)) (sSeq (sIf (tVal (eCmp .NotEq (eOwn false (frame c_summed) (eCons (eVar 9) (eNil))) (eComp false (wZip (eOwn false (frame c_summed) (eCons (eVar 10) (eNil))) (eOwn false (frame c_summed) (eCons (eVar 8) (eNil)))) [12, 13] (.many [12, 13]) (tYesE) (eBin false .Add (eVar 12) (eVar 13))))) (sSeq (sRet (eC (.bl false))) (sNext)) (sNext)) (sSeq (sRet (eAnd (eCmp .Eq (eOwn false (frame c_summed) (eCons (eBin false .Mult (eLst false (eCons (eC (.int 1)) (eNil))) (eVar 1)) (eNil))) (eComp false (wRng2 (eC (.int 1)) (eBin false .Add (eVar 1) (eC (.int 1)))) [5] (.one 5) (tYesE) (eBlt false bLen (eCons (eOwn false (frame c__law_divisors) (eCons (eVar 5) (eNil))) (eNil))))) (eCmp .Eq (eBlt false bRepr (eCons (eVar 2) (eNil))) (eVar 3)))) (sNext)))))))))))))))))
def c__law_right : List D → Store → O Res := runF 1 14 b__law_right
def b_law : EvS := sSeq (sAsg (eComp false (wRng1 (eBlt false bMax (eCons (eC (.int 1)) (eCons (eBlt false bMin (eCons (eC (.int 2)) (eCons (eBlt false bLen (eCons (eVar 0) (eNil))) (eNil)))) (eNil))))) [2] (.one 2) (tYesE) (eOwn true (frame c__law_pot) (eCons (eVar 0) (eCons (eVar 2) (eNil))))) (gVar 1)) (sSeq (sRet (eAnd (eBlt false bAll (eCons (eComp false (wSeq (eVar 1)) [3] (.one 3) (tYesE) (eOwn false (frame c__law_right) (eCons (eVar 3) (eNil)))) (eNil))) (eOwn false (frame c__law_great_right) (eCons (eGet (eVar 1) (eC (.int 0))) (eNil))))) (sNext))
def c_law : List D → Store → O Res := runF 1 4 b_law
structure Glo (K : PySem.W.Frag) (mg : Str → Option Value) : Prop where
  z_abs : mg "abs" = none
  z_all : mg "all" = none
  z_bool : mg "bool" = none
  z_divmod : mg "divmod" = none
  z_int : mg "int" = none
  z_isinstance : mg "isinstance" = none
  z_len : mg "len" = none
  z_list : mg "list" = none
  z_max : mg "max" = none
  z_min : mg "min" = none
  z_range : mg "range" = none
  z_repr : mg "repr" = none
  z_sorted : mg "sorted" = none
  z_sum : mg "sum" = none
  z_tuple : mg "tuple" = none
  z_zip : mg "zip" = none
  k_MOST_LENGTH : CstD K mg "MOST_LENGTH" (.int 200)
  k_MOST_VALUE : CstD K mg "MOST_VALUE" (.int 1000000000000)
theorem bk_summed_0_row : BindsK "summed" t_summed ["row"] 0 ["row"] := fun _ _ _ _ _ _ us ws h1 h2 => match us, ws, h1, h2 with | [], [_], _, _ => rfl
theorem bk_taken_back_0_row : BindsK "taken_back" t_taken_back ["row"] 0 ["row"] := fun _ _ _ _ _ _ us ws h1 h2 => match us, ws, h1, h2 with | [], [_], _, _ => rfl
section
variable {P : Program} {w : World} {K : PySem.W.Frag} {mg : Str → Option Value} {base : Heap}
theorem o__law_pot (G : Glo K mg) (sb : SysD base)  (T : Top K mg "_law_pot" t__law_pot) : Own P w K mg base 1 "_law_pot" t__law_pot ["script", "k"] c__law_pot :=
  own_mk T sc__law_pot sb fun X f cdv A outer s H E _ B => (ss_cons (ps_setD (Bd.nd B) rfl (.inl rfl) (s_if (s_tcmp (Bd.sm B) (Bd.u70 B) (s_var rfl (.inl rfl) (by decide) (by decide)) (w_len G.z_len (gl rfl) (s_cons (s_var rfl (.inl rfl) (by decide) (by decide)) s_nil rfl) rfl rfl) rfl) (w_abs G.z_abs (gl rfl) (s_cons (s_get (Bd.u1 B) (s_var rfl (.inl rfl) (by decide) (by decide)) (s_var rfl (.inl rfl) (by decide) (by decide)) (fun _ _ => rfl)) s_nil rfl) rfl rfl) (s_bin (s_bin w_int (s_var rfl (.inl rfl) (by decide) (by decide))) w_int)) rfl (.inl rfl)) (ss_cons (ps_retD (s_lst (s_cons (w_max B G.z_max (gl rfl) (s_cons w_int (s_cons (s_bin (s_var rfl (.inl rfl) (by decide) (by decide)) (s_bin w_int w_int)) s_nil rfl) rfl) rfl rfl) (s_cons (s_bin (s_bin (w_int1 G.z_int (gl rfl) (s_cons (s_bin (s_bin (s_bin (s_bin (w_int1 G.z_int (gl rfl) (s_cons (s_var rfl (.inl rfl) (by decide) (by decide)) s_nil rfl) rfl rfl) w_int) w_int) (s_bin w_int (s_var rfl (.inl rfl) (by decide) (by decide)))) w_int) s_nil rfl) rfl rfl) w_int) w_int) s_nil rfl) rfl))) ss_next))
theorem o__law_draw (G : Glo K mg) (sb : SysD base)  (T : Top K mg "_law_draw" t__law_draw) : Own P w K mg base 1 "_law_draw" t__law_draw ["pot", "many"] c__law_draw :=
  own_mk T sc__law_draw sb fun X f cdv A outer s H E _ B => (ss_cons (ps_ifD (s_tcmp (Bd.sm B) (Bd.u70 B) (s_get (Bd.u1 B) (s_var rfl (.inl rfl) (by decide) (by decide)) w_int (fun _ _ => rfl)) w_int rfl) (ss_cons (ps_asgD (w_divmod G.z_divmod (gl rfl) (s_cons (s_get (Bd.u1 B) (s_var rfl (.inl rfl) (by decide) (by decide)) w_int (fun _ _ => rfl)) (s_cons (s_var rfl (.inl rfl) (by decide) (by decide)) s_nil rfl) rfl) rfl rfl) (g_tup (Bd.calm B) (g_cons (g_sub (Bd.u1 B) (s_var rfl (.inl rfl) (by decide) (by decide)) w_int (fun _ => rfl)) (g_cons (g_var (Bd.nd B) rfl (.inl rfl) (.inl rfl)) g_nil rfl) rfl) rfl rfl) rfl rfl rfl) (ss_cons (ps_retD (s_var rfl (.inl rfl) (by decide) (by decide))) ss_next)) ss_next) (ss_cons (ps_asgD (s_bin (w_int1 G.z_int (gl rfl) (s_cons (s_bin (s_bin (s_get (Bd.u1 B) (s_var rfl (.inl rfl) (by decide) (by decide)) w_int (fun _ _ => rfl)) w_int) w_int) s_nil rfl) rfl rfl) w_int) (g_sub (Bd.u1 B) (s_var rfl (.inl rfl) (by decide) (by decide)) w_int (fun _ => rfl)) rfl rfl rfl) (ss_cons (ps_retD (s_bin (w_int1 G.z_int (gl rfl) (s_cons (s_bin (s_bin (w_int1 G.z_int (gl rfl) (s_cons (s_bin (s_get (Bd.u1 B) (s_var rfl (.inl rfl) (by decide) (by decide)) w_int (fun _ _ => rfl)) (s_get (Bd.u1 B) (s_var rfl (.inl rfl) (by decide) (by decide)) w_int (fun _ _ => rfl))) s_nil rfl) rfl rfl) w_int) w_int) s_nil rfl) rfl rfl) (s_var rfl (.inl rfl) (by decide) (by decide)))) ss_next)))
theorem o__law_pick (G : Glo K mg) (sb : SysD base) (o__law_draw : Own P w K mg base 1 "_law_draw" t__law_draw ["pot", "many"] c__law_draw) (T : Top K mg "_law_pick" t__law_pick) : Own P w K mg base 2 "_law_pick" t__law_pick ["pot", "some"] c__law_pick :=
  own_mk T sc__law_pick sb fun X f cdv A outer s H E _ B => (ss_cons (ps_retD (s_get (Bd.u1 B) (s_var rfl (.inl rfl) (by decide) (by decide)) (s_own (o__law_draw.frame.mono (by decide)) (Bd.room B) (Bd.gd B) (gl rfl) bp__law_draw (s_cons (s_var rfl (.inl rfl) (by decide) (by decide)) (s_cons (w_len G.z_len (gl rfl) (s_cons (s_var rfl (.inl rfl) (by decide) (by decide)) s_nil rfl) rfl rfl) s_nil rfl) rfl) (by decide) rfl rfl) (fun _ _ => rfl))) ss_next)
theorem o_is_list (G : Glo K mg) (sb : SysD base)  (T : Top K mg "is_list" t_is_list) : Own P w K mg base 1 "is_list" t_is_list ["value"] c_is_list :=
  own_mk T sc_is_list sb fun X f cdv A outer s H E _ B => (ss_cons (ps_retD (s_isiT (.cons (by decide) (gl rfl) G.z_list (by decide +kernel) (by decide) (by decide) (.cons (by decide) (gl rfl) G.z_tuple (by decide +kernel) (by decide) (by decide) .nil)) (by decide) (s_var rfl (.inl rfl) (by decide) (by decide)) (gl rfl) G.z_isinstance rfl)) ss_next)
theorem o_is_integer (G : Glo K mg) (sb : SysD base)  (T : Top K mg "is_integer" t_is_integer) : Own P w K mg base 1 "is_integer" t_is_integer ["value"] c_is_integer :=
  own_mk T sc_is_integer sb fun X f cdv A outer s H E _ B => (ss_cons (ps_retD (s_and (s_isi (by decide) (s_var rfl (.inl rfl) (by decide) (by decide)) (gl rfl) G.z_isinstance (gl rfl) G.z_int (by decide +kernel) (by decide) (by decide) rfl) (pe_one (s_not (s_isi (by decide) (s_var rfl (.inl rfl) (by decide) (by decide)) (gl rfl) G.z_isinstance (gl rfl) G.z_bool (by decide +kernel) (by decide) (by decide) rfl))))) ss_next)
theorem o_is_within (G : Glo K mg) (sb : SysD base) (o_is_integer : Own P w K mg base 1 "is_integer" t_is_integer ["value"] c_is_integer) (T : Top K mg "is_within" t_is_within) : Own P w K mg base 2 "is_within" t_is_within ["value", "least", "most"] c_is_within :=
  own_mk T sc_is_within sb fun X f cdv A outer s H E _ B => (ss_cons (ps_retD (s_and (s_own (o_is_integer.frame.mono (by decide)) (Bd.room B) (Bd.gd B) (gl rfl) bp_is_integer (s_cons (s_var rfl (.inl rfl) (by decide) (by decide)) s_nil rfl) (by decide) rfl rfl) (pe_one (s_chain (Bd.sm B) (Bd.u70 B) (s_var rfl (.inl rfl) (by decide) (by decide)) (s_var rfl (.inl rfl) (by decide) (by decide)) (s_var rfl (.inl rfl) (by decide) (by decide)) rfl)))) ss_next)
theorem o_is_row_value (G : Glo K mg) (sb : SysD base) (o_is_list : Own P w K mg base 1 "is_list" t_is_list ["value"] c_is_list) (o_is_within : Own P w K mg base 2 "is_within" t_is_within ["value", "least", "most"] c_is_within) (T : Top K mg "is_row_value" t_is_row_value) : Own P w K mg base 3 "is_row_value" t_is_row_value ["value"] c_is_row_value :=
  own_mk T sc_is_row_value sb fun X f cdv A outer s H E _ B => (ss_cons (ps_ifD (PW.pt (s_tor (s_tnot (s_tval (s_own (o_is_list.frame.mono (by decide)) (Bd.room B) (Bd.gd B) (gl rfl) bp_is_list (s_cons (s_var rfl (.inl rfl) (by decide) (by decide)) s_nil rfl) (by decide) rfl rfl) (fun _ => rfl))) (s_or1 (s_tnot (s_tchain (Bd.sm B) (Bd.u70 B) w_int (w_len G.z_len (gl rfl) (s_cons (s_var rfl (.inl rfl) (by decide) (by decide)) s_nil rfl) rfl rfl) (w_g G.k_MOST_LENGTH (gl rfl) (by decide)) rfl))))) (ss_cons (ps_retD w_bl) ss_next) ss_next) (ss_cons (ps_retD (w_all B G.z_all (gl rfl) (s_cons (s_comp (WB := W0) (own := [("one", 1)]) (Bd.calm B) (Bd.nd B) (s_wseq (s_var rfl (.inl rfl) (by decide) (by decide))) (blkOk_by (N := n_is_row_value) (sc := defScope t_is_row_value) (by decide +kernel)) (by decide) (fun _ _ _ _ _ => (s_gct (Bd.nd (Bd.blk B)) rfl (.inl rfl) (.inr rfl))) (fun _ _ _ _ _ => s_tyes) (fun _ _ _ _ _ => (s_own (o_is_within.frame.mono (by decide)) (Bd.room (Bd.blk B)) (Bd.gd (Bd.blk B)) (gl rfl) bp_is_within (s_cons (s_var rfl (.inl rfl) (by decide) (by decide)) (s_cons (s_bin w_int (w_g G.k_MOST_VALUE (gl rfl) (by decide))) (s_cons (w_g G.k_MOST_VALUE (gl rfl) (by decide)) s_nil rfl) rfl) rfl) (by decide) rfl rfl)) (fun _ => rfl)) s_nil rfl) rfl rfl)) ss_next))
theorem o_want_row (G : Glo K mg) (sb : SysD base) (o_is_row_value : Own P w K mg base 3 "is_row_value" t_is_row_value ["value"] c_is_row_value) (T : Top K mg "want_row" t_want_row) : Own P w K mg base 4 "want_row" t_want_row ["row"] c_want_row :=
  own_mk T sc_want_row sb fun X f cdv A outer s H E _ B => (ss_cons (ps_ifD (s_tnot (s_tval (s_own (o_is_row_value.frame.mono (by decide)) (Bd.room B) (Bd.gd B) (gl rfl) bp_is_row_value (s_cons (s_var rfl (.inl rfl) (by decide) (by decide)) s_nil rfl) (by decide) rfl rfl) (fun _ => rfl))) (ss_cons ps_neverD ss_next) ss_next) ss_next)
theorem o_parts_of (G : Glo K mg) (sb : SysD base)  (T : Top K mg "parts_of" t_parts_of) : Own P w K mg base 1 "parts_of" t_parts_of ["number"] c_parts_of :=
  own_mk T sc_parts_of sb fun X f cdv A outer s H E _ B => (ss_cons (ps_par3D (Bd.calm B) (Bd.nd B) rfl rfl rfl (by decide) (by decide) (by decide) rfl rfl rfl (s_cons (s_lst s_nil) (s_cons (s_var rfl (.inl rfl) (by decide) (by decide)) (s_cons w_int s_nil rfl) rfl) rfl) rfl rfl) (ss_cons (ps_whileD PassesOwn.never (s_tcmp (Bd.sm B) (Bd.u70 B) (s_bin (s_var rfl (.inl rfl) (by decide) (by decide)) (s_var rfl (.inl rfl) (by decide) (by decide))) (s_var rfl (.inl rfl) (by decide) (by decide)) rfl) (ss_cons (ps_setD (Bd.nd B) rfl (.inl rfl) w_int rfl (.inl rfl)) (ss_cons (ps_whileD PassesOwn.never (s_tcmp (Bd.sm B) (Bd.u70 B) (s_bin (s_var rfl (.inl rfl) (by decide) (by decide)) (s_var rfl (.inl rfl) (by decide) (by decide))) w_int rfl) (ss_cons (ps_parD (Bd.calm B) (Bd.nd B) rfl rfl (by decide) rfl rfl (s_cons (s_bin (s_var rfl (.inl rfl) (by decide) (by decide)) (s_var rfl (.inl rfl) (by decide) (by decide))) (s_cons (s_bin (s_var rfl (.inl rfl) (by decide) (by decide)) w_int) s_nil rfl) rfl) rfl rfl) ss_next)) (ss_cons (ps_extD (s_var rfl (.inl rfl) (by decide) (by decide)) (s_if (s_tcmp (Bd.sm B) (Bd.u70 B) (s_var rfl (.inl rfl) (by decide) (by decide)) w_int rfl) (s_lst (s_cons (s_tup (s_cons (s_var rfl (.inl rfl) (by decide) (by decide)) (s_cons (s_var rfl (.inl rfl) (by decide) (by decide)) s_nil rfl) rfl)) s_nil rfl)) (s_lst s_nil)) rfl rfl rfl rfl rfl) (ss_cons (ps_setD (Bd.nd B) rfl (.inl rfl) (s_bin (s_var rfl (.inl rfl) (by decide) (by decide)) w_int) rfl (.inl rfl)) ss_next))))) (ss_cons (ps_extD (s_var rfl (.inl rfl) (by decide) (by decide)) (s_if (s_tcmp (Bd.sm B) (Bd.u70 B) (s_var rfl (.inl rfl) (by decide) (by decide)) w_int rfl) (s_lst (s_cons (s_tup (s_cons (s_var rfl (.inl rfl) (by decide) (by decide)) (s_cons w_int s_nil rfl) rfl)) s_nil rfl)) (s_lst s_nil)) rfl rfl rfl rfl rfl) (ss_cons (ps_retD (s_var rfl (.inl rfl) (by decide) (by decide))) ss_next))))
theorem o_power_of (G : Glo K mg) (sb : SysD base)  (T : Top K mg "power_of" t_power_of) : Own P w K mg base 1 "power_of" t_power_of ["one", "times"] c_power_of :=
  own_mk T sc_power_of sb fun X f cdv A outer s H E _ B => (ss_cons (ps_setD (Bd.nd B) rfl (.inl rfl) w_int rfl (.inl rfl)) (ss_cons (ps_forD PassesOwn.never (Bd.calm B) (s_wrng1 (s_var rfl (.inl rfl) (by decide) (by decide)) (gl rfl) G.z_range rfl) (g_var (Bd.nd B) rfl (.inl rfl) (.inl rfl)) (ss_cons (ps_setD (Bd.nd B) rfl (.inl rfl) (s_bin (s_var rfl (.inl rfl) (by decide) (by decide)) (s_var rfl (.inl rfl) (by decide) (by decide))) rfl (.inl rfl)) ss_next) (fun _ => rfl)) (ss_cons (ps_retD (s_var rfl (.inl rfl) (by decide) (by decide))) ss_next)))
theorem o_divisors_of (G : Glo K mg) (sb : SysD base) (o_parts_of : Own P w K mg base 1 "parts_of" t_parts_of ["number"] c_parts_of) (o_power_of : Own P w K mg base 1 "power_of" t_power_of ["one", "times"] c_power_of) (T : Top K mg "divisors_of" t_divisors_of) : Own P w K mg base 2 "divisors_of" t_divisors_of ["number"] c_divisors_of :=
  own_mk T sc_divisors_of sb fun X f cdv A outer s H E _ B => (ss_cons (ps_setD (Bd.nd B) rfl (.inl rfl) (s_lst (s_cons w_int s_nil rfl)) rfl (.inl rfl)) (ss_cons (ps_forD PassesOwn.never (Bd.calm B) (s_wseq (s_own (o_parts_of.frame.mono (by decide)) (Bd.room B) (Bd.gd B) (gl rfl) bp_parts_of (s_cons (s_var rfl (.inl rfl) (by decide) (by decide)) s_nil rfl) (by decide) rfl rfl)) (g_tup (Bd.calm B) (g_cons (g_var (Bd.nd B) rfl (.inr rfl) (.inl rfl)) (g_cons (g_var (Bd.nd B) rfl (.inl rfl) (.inl rfl)) g_nil rfl) rfl) rfl rfl) (ss_cons (ps_setD (Bd.nd B) rfl (.inl rfl) (s_lst s_nil) rfl (.inl rfl)) (ss_cons (ps_forD PassesOwn.never (Bd.calm B) (s_wrng1 (s_bin (s_var rfl (.inl rfl) (by decide) (by decide)) w_int) (gl rfl) G.z_range rfl) (g_var (Bd.nd B) rfl (.inr rfl) (.inl rfl)) (ss_cons (ps_extD (s_var rfl (.inl rfl) (by decide) (by decide)) (s_comp (WB := W0) (own := [("one", 6)]) (Bd.calm B) (Bd.nd B) (s_wseq (s_var rfl (.inl rfl) (by decide) (by decide))) (blkOk_by (N := n_divisors_of) (sc := defScope t_divisors_of) (by decide +kernel)) (by decide) (fun _ _ _ _ _ => (s_gct (Bd.nd (Bd.blk B)) rfl (.inl rfl) (.inr rfl))) (fun _ _ _ _ _ => s_tyes) (fun _ _ _ _ _ => (s_bin (s_var rfl (.inl rfl) (by decide) (by decide)) (s_own (o_power_of.frame.mono (by decide)) (Bd.room (Bd.blk B)) (Bd.gd (Bd.blk B)) (gl rfl) bp_power_of (s_cons (s_var rfl (.inr (.inl rfl)) (by decide) (by decide)) (s_cons (s_var rfl (.inr (.inl rfl)) (by decide) (by decide)) s_nil rfl) rfl) (by decide) rfl rfl))) (fun _ => rfl)) rfl rfl rfl rfl rfl) ss_next) (fun _ => rfl)) (ss_cons (ps_setD (Bd.nd B) rfl (.inl rfl) (s_var rfl (.inl rfl) (by decide) (by decide)) rfl (.inl rfl)) ss_next))) (fun _ => rfl)) (ss_cons (ps_retD (w_sorted G.z_sorted (gl rfl) (s_cons (s_var rfl (.inl rfl) (by decide) (by decide)) s_nil rfl) rfl rfl)) ss_next)))
theorem o_product_of (G : Glo K mg) (sb : SysD base) (o_divisors_of : Own P w K mg base 2 "divisors_of" t_divisors_of ["number"] c_divisors_of) (T : Top K mg "product_of" t_product_of) : Own P w K mg base 3 "product_of" t_product_of ["row", "other"] c_product_of :=
  own_mk T sc_product_of sb fun X f cdv A outer s H E _ B => (ss_cons (ps_setD (Bd.nd B) rfl (.inl rfl) (s_lst s_nil) rfl (.inl rfl)) (ss_cons (ps_forD PassesOwn.never (Bd.calm B) (s_wrng2 w_int (s_bin (w_len G.z_len (gl rfl) (s_cons (s_var rfl (.inr (.inl rfl)) (by decide) (by decide)) s_nil rfl) rfl rfl) w_int) (gl rfl) G.z_range rfl rfl) (g_var (Bd.nd B) rfl (.inr rfl) (.inl rfl)) (ss_cons (ps_appD (s_var rfl (.inl rfl) (by decide) (by decide)) (w_sum B G.z_sum (gl rfl) (s_cons (s_comp (WB := W0) (own := [("one", 4)]) (Bd.calm B) (Bd.nd B) (s_wseq (s_own (o_divisors_of.frame.mono (by decide)) (Bd.room B) (Bd.gd B) (gl rfl) bp_divisors_of (s_cons (s_var rfl (.inr (.inl rfl)) (by decide) (by decide)) s_nil rfl) (by decide) rfl rfl)) (blkOk_by (N := n_product_of) (sc := defScope t_product_of) (by decide +kernel)) (by decide) (fun _ _ _ _ _ => (s_gct (Bd.nd (Bd.blk B)) rfl (.inl rfl) (.inr rfl))) (fun _ _ _ _ _ => s_tyes) (fun _ _ _ _ _ => (s_bin (s_get (Bd.u1 (Bd.blk B)) (s_var rfl (.inr (.inl rfl)) (by decide) (by decide)) (s_bin (s_var rfl (.inl rfl) (by decide) (by decide)) w_int) (fun _ _ => rfl)) (s_get (Bd.u1 (Bd.blk B)) (s_var rfl (.inr (.inl rfl)) (by decide) (by decide)) (s_bin (s_bin (s_var rfl (.inr (.inl rfl)) (by decide) (by decide)) (s_var rfl (.inl rfl) (by decide) (by decide))) w_int) (fun _ _ => rfl)))) (fun _ => rfl)) s_nil rfl) rfl rfl) rfl rfl rfl rfl rfl) ss_next) (fun _ => rfl)) (ss_cons (ps_retD (s_var rfl (.inl rfl) (by decide) (by decide))) ss_next)))
theorem o_summed (G : Glo K mg) (sb : SysD base) (o_want_row : Own P w K mg base 4 "want_row" t_want_row ["row"] c_want_row) (o_product_of : Own P w K mg base 3 "product_of" t_product_of ["row", "other"] c_product_of) (T : Top K mg "summed" t_summed) : Own P w K mg base 5 "summed" t_summed ["row"] c_summed :=
  own_mk T sc_summed sb fun X f cdv A outer s H E _ B => (ss_cons (ps_dropD (s_own (o_want_row.frame.mono (by decide)) (Bd.room B) (Bd.gd B) (gl rfl) bp_want_row (s_cons (s_var rfl (.inl rfl) (by decide) (by decide)) s_nil rfl) (by decide) rfl rfl) rfl) (ss_cons (ps_retD (s_own (o_product_of.frame.mono (by decide)) (Bd.room B) (Bd.gd B) (gl rfl) bp_product_of (s_cons (s_var rfl (.inl rfl) (by decide) (by decide)) (s_cons (s_bin (s_lst (s_cons w_int s_nil rfl)) (w_len G.z_len (gl rfl) (s_cons (s_var rfl (.inl rfl) (by decide) (by decide)) s_nil rfl) rfl rfl)) s_nil rfl) rfl) (by decide) rfl rfl)) ss_next))
theorem o_sign_at (G : Glo K mg) (sb : SysD base) (o_parts_of : Own P w K mg base 1 "parts_of" t_parts_of ["number"] c_parts_of) (T : Top K mg "sign_at" t_sign_at) : Own P w K mg base 2 "sign_at" t_sign_at ["number"] c_sign_at :=
  own_mk T sc_sign_at sb fun X f cdv A outer s H E _ B => (ss_cons (ps_setD (Bd.nd B) rfl (.inl rfl) w_int rfl (.inl rfl)) (ss_cons (ps_forD PassesOwn.never (Bd.calm B) (s_wseq (s_own (o_parts_of.frame.mono (by decide)) (Bd.room B) (Bd.gd B) (gl rfl) bp_parts_of (s_cons (s_var rfl (.inl rfl) (by decide) (by decide)) s_nil rfl) (by decide) rfl rfl)) (g_tup (Bd.calm B) (g_cons (g_var (Bd.nd B) rfl (.inl rfl) (.inl rfl)) (g_cons (g_var (Bd.nd B) rfl (.inl rfl) (.inl rfl)) g_nil rfl) rfl) rfl rfl) (ss_cons (ps_setD (Bd.nd B) rfl (.inl rfl) (s_if (s_tcmp (Bd.sm B) (Bd.u70 B) (s_var rfl (.inl rfl) (by decide) (by decide)) w_int rfl) (s_bin w_int (s_var rfl (.inl rfl) (by decide) (by decide))) w_int) rfl (.inl rfl)) ss_next) (fun _ => rfl)) (ss_cons (ps_retD (s_var rfl (.inl rfl) (by decide) (by decide))) ss_next)))
theorem o_taken_back (G : Glo K mg) (sb : SysD base) (o_want_row : Own P w K mg base 4 "want_row" t_want_row ["row"] c_want_row) (o_product_of : Own P w K mg base 3 "product_of" t_product_of ["row", "other"] c_product_of) (o_sign_at : Own P w K mg base 2 "sign_at" t_sign_at ["number"] c_sign_at) (T : Top K mg "taken_back" t_taken_back) : Own P w K mg base 5 "taken_back" t_taken_back ["row"] c_taken_back :=
  own_mk T sc_taken_back sb fun X f cdv A outer s H E _ B => (ss_cons (ps_dropD (s_own (o_want_row.frame.mono (by decide)) (Bd.room B) (Bd.gd B) (gl rfl) bp_want_row (s_cons (s_var rfl (.inl rfl) (by decide) (by decide)) s_nil rfl) (by decide) rfl rfl) rfl) (ss_cons (ps_retD (s_own (o_product_of.frame.mono (by decide)) (Bd.room B) (Bd.gd B) (gl rfl) bp_product_of (s_cons (s_comp (WB := W0) (own := [("number", 1)]) (Bd.calm B) (Bd.nd B) (s_wrng2 w_int (s_bin (w_len G.z_len (gl rfl) (s_cons (s_var rfl (.inl rfl) (by decide) (by decide)) s_nil rfl) rfl rfl) w_int) (gl rfl) G.z_range rfl rfl) (blkOk_by (N := n_taken_back) (sc := defScope t_taken_back) (by decide +kernel)) (by decide) (fun _ _ _ _ _ => (s_gct (Bd.nd (Bd.blk B)) rfl (.inl rfl) (.inr rfl))) (fun _ _ _ _ _ => s_tyes) (fun _ _ _ _ _ => (s_own (o_sign_at.frame.mono (by decide)) (Bd.room (Bd.blk B)) (Bd.gd (Bd.blk B)) (gl rfl) bp_sign_at (s_cons (s_var rfl (.inl rfl) (by decide) (by decide)) s_nil rfl) (by decide) rfl rfl)) (fun _ => rfl)) (s_cons (s_var rfl (.inl rfl) (by decide) (by decide)) s_nil rfl) rfl) (by decide) rfl rfl)) ss_next))
theorem o__law_great_right (G : Glo K mg) (sb : SysD base) (o__law_pick : Own P w K mg base 2 "_law_pick" t__law_pick ["pot", "some"] c__law_pick) (o_summed : Own P w K mg base 5 "summed" t_summed ["row"] c_summed) (o_taken_back : Own P w K mg base 5 "taken_back" t_taken_back ["row"] c_taken_back) (T : Top K mg "_law_great_right" t__law_great_right) : Own P w K mg base 6 "_law_great_right" t__law_great_right ["pot"] c__law_great_right :=
  own_mk T sc__law_great_right sb fun X f cdv A outer s H E _ B => (ss_cons (ps_setD (Bd.nd B) rfl (.inl rfl) (s_own (o__law_pick.frame.mono (by decide)) (Bd.room B) (Bd.gd B) (gl rfl) bp__law_pick (s_cons (s_var rfl (.inl rfl) (by decide) (by decide)) (s_cons (s_lst (s_cons w_int (s_cons (s_neg w_int) (s_cons w_int (s_cons (s_bin (s_bin w_int w_int) w_int) s_nil rfl) rfl) rfl) rfl)) s_nil rfl) rfl) (by decide) rfl rfl) rfl (.inl rfl)) (ss_cons (ps_setD (Bd.nd B) rfl (.inl rfl) (s_bin (s_lst (s_cons (s_var rfl (.inl rfl) (by decide) (by decide)) s_nil rfl)) w_int) rfl (.inl rfl)) (ss_cons (ps_setD (Bd.nd B) rfl (.inr rfl) (s_own (o_summed.frame.mono (by decide)) (Bd.room B) (Bd.gd B) (gl rfl) bp_summed (s_cons (s_var rfl (.inl rfl) (by decide) (by decide)) s_nil rfl) (by decide) rfl rfl) rfl (.inl rfl)) (ss_cons (ps_ifD (s_tcmp (Bd.sm B) (Bd.u70 B) (s_comp (WB := W0) (own := [("at", 4)]) (Bd.calm B) (Bd.nd B) (s_wseq (s_tup (s_cons w_int (s_cons w_int (s_cons w_int (s_cons w_int (s_cons w_int s_nil rfl) rfl) rfl) rfl) rfl))) (blkOk_by (N := n__law_great_right) (sc := defScope t__law_great_right) (by decide +kernel)) (by decide) (fun _ _ _ _ _ => (s_gct (Bd.nd (Bd.blk B)) rfl (.inl rfl) (.inr rfl))) (fun _ _ _ _ _ => s_tyes) (fun _ _ _ _ _ => (s_get (Bd.u1 (Bd.blk B)) (s_var rfl (.inr (.inl rfl)) (by decide) (by decide)) (s_bin (s_var rfl (.inl rfl) (by decide) (by decide)) w_int) (fun _ _ => rfl))) (fun _ => rfl)) (s_lst (s_cons (s_var rfl (.inl rfl) (by decide) (by decide)) (s_cons (s_bin w_int (s_var rfl (.inl rfl) (by decide) (by decide))) (s_cons (s_bin w_int (s_var rfl (.inl rfl) (by decide) (by decide))) (s_cons (s_bin w_int (s_var rfl (.inl rfl) (by decide) (by decide))) (s_cons (s_bin w_int (s_var rfl (.inl rfl) (by decide) (by decide))) s_nil rfl) rfl) rfl) rfl) rfl)) rfl) (ss_cons (ps_retD w_bl) ss_next) ss_next) (ss_cons (ps_retD (s_cmp (Bd.sm B) (Bd.u70 B) (s_own (o_taken_back.frame.mono (by decide)) (Bd.room B) (Bd.gd B) (gl rfl) bp_taken_back (s_cons (s_var rfl (.inl rfl) (by decide) (by decide)) s_nil rfl) (by decide) rfl rfl) (s_bin (s_lst (s_cons (s_var rfl (.inl rfl) (by decide) (by decide)) s_nil rfl)) (s_bin (s_lst (s_cons w_int s_nil rfl)) w_int)) rfl)) ss_next)))))
theorem o__law_row (G : Glo K mg) (sb : SysD base) (o__law_draw : Own P w K mg base 1 "_law_draw" t__law_draw ["pot", "many"] c__law_draw) (o__law_pick : Own P w K mg base 2 "_law_pick" t__law_pick ["pot", "some"] c__law_pick) (T : Top K mg "_law_row" t__law_row) : Own P w K mg base 3 "_law_row" t__law_row ["pot", "length", "great"] c__law_row :=
  own_mk T sc__law_row sb fun X f cdv A outer s H E _ B => (ss_cons (ps_setD (Bd.nd B) rfl (.inl rfl) (s_own (o__law_draw.frame.mono (by decide)) (Bd.room B) (Bd.gd B) (gl rfl) bp__law_draw (s_cons (s_var rfl (.inr (.inl rfl)) (by decide) (by decide)) (s_cons w_int s_nil rfl) rfl) (by decide) rfl rfl) rfl (.inl rfl)) (ss_cons (ps_ifD (PW.pt (s_tand (s_tval (s_var rfl (.inl rfl) (by decide) (by decide)) (fun _ => rfl)) (s_and1 (s_tcmp (Bd.sm B) (Bd.u70 B) (s_var rfl (.inl rfl) (by decide) (by decide)) w_int rfl)))) (ss_cons (ps_retD (s_comp (WB := W0) (own := [("at", 4)]) (Bd.calm B) (Bd.nd B) (s_wrng1 (s_var rfl (.inl rfl) (by decide) (by decide)) (gl rfl) G.z_range rfl) (blkOk_by (N := n__law_row) (sc := defScope t__law_row) (by decide +kernel)) (by decide) (fun _ _ _ _ _ => (s_gct (Bd.nd (Bd.blk B)) rfl (.inl rfl) (.inr rfl))) (fun _ _ _ _ _ => s_tyes) (fun _ _ _ _ _ => (s_own (o__law_pick.frame.mono (by decide)) (Bd.room (Bd.blk B)) (Bd.gd (Bd.blk B)) (gl rfl) bp__law_pick (s_cons (s_var rfl (.inr (.inl rfl)) (by decide) (by decide)) (s_cons (s_lst (s_cons w_int (s_cons w_int (s_cons (s_neg w_int) (s_cons (s_bin w_int w_int) (s_cons (s_bin w_int (s_bin w_int w_int)) (s_cons w_int (s_cons w_int s_nil rfl) rfl) rfl) rfl) rfl) rfl) rfl)) s_nil rfl) rfl) (by decide) rfl rfl)) (fun _ => rfl))) ss_next) ss_next) (ss_cons (ps_ifD (s_tcmp (Bd.sm B) (Bd.u70 B) (s_var rfl (.inl rfl) (by decide) (by decide)) w_int rfl) (ss_cons (ps_retD (s_comp (WB := W0) (own := [("at", 4)]) (Bd.calm B) (Bd.nd B) (s_wrng1 (s_var rfl (.inl rfl) (by decide) (by decide)) (gl rfl) G.z_range rfl) (blkOk_by (N := n__law_row) (sc := defScope t__law_row) (by decide +kernel)) (by decide) (fun _ _ _ _ _ => (s_gct (Bd.nd (Bd.blk B)) rfl (.inl rfl) (.inr rfl))) (fun _ _ _ _ _ => s_tyes) (fun _ _ _ _ _ => (s_own (o__law_pick.frame.mono (by decide)) (Bd.room (Bd.blk B)) (Bd.gd (Bd.blk B)) (gl rfl) bp__law_pick (s_cons (s_var rfl (.inr (.inl rfl)) (by decide) (by decide)) (s_cons (s_lst (s_cons w_int (s_cons w_int (s_cons w_int (s_cons (s_neg w_int) s_nil rfl) rfl) rfl) rfl)) s_nil rfl) rfl) (by decide) rfl rfl)) (fun _ => rfl))) ss_next) ss_next) (ss_cons (ps_retD (s_comp (WB := W0) (own := [("at", 4)]) (Bd.calm B) (Bd.nd B) (s_wrng1 (s_var rfl (.inl rfl) (by decide) (by decide)) (gl rfl) G.z_range rfl) (blkOk_by (N := n__law_row) (sc := defScope t__law_row) (by decide +kernel)) (by decide) (fun _ _ _ _ _ => (s_gct (Bd.nd (Bd.blk B)) rfl (.inl rfl) (.inr rfl))) (fun _ _ _ _ _ => s_tyes) (fun _ _ _ _ _ => (s_bin (s_own (o__law_draw.frame.mono (by decide)) (Bd.room (Bd.blk B)) (Bd.gd (Bd.blk B)) (gl rfl) bp__law_draw (s_cons (s_var rfl (.inr (.inl rfl)) (by decide) (by decide)) (s_cons w_int s_nil rfl) rfl) (by decide) rfl rfl) w_int)) (fun _ => rfl))) ss_next))))
theorem o__law_divisors (G : Glo K mg) (sb : SysD base)  (T : Top K mg "_law_divisors" t__law_divisors) : Own P w K mg base 1 "_law_divisors" t__law_divisors ["number"] c__law_divisors :=
  own_mk T sc__law_divisors sb fun X f cdv A outer s H E _ B => (ss_cons (ps_retD (s_comp (WB := W0) (own := [("one", 1)]) (Bd.calm B) (Bd.nd B) (s_wrng2 w_int (s_bin (s_var rfl (.inr (.inl rfl)) (by decide) (by decide)) w_int) (gl rfl) G.z_range rfl rfl) (blkOk_by (N := n__law_divisors) (sc := defScope t__law_divisors) (by decide +kernel)) (by decide) (fun _ _ _ _ _ => (s_gct (Bd.nd (Bd.blk B)) rfl (.inl rfl) (.inr rfl))) (fun _ _ _ _ _ => (s_tone (s_tcmp (Bd.sm (Bd.blk B)) (Bd.u70 (Bd.blk B)) (w_int1 G.z_int (gl rfl) (s_cons (s_bin (s_var rfl (.inr (.inl rfl)) (by decide) (by decide)) (s_var rfl (.inl rfl) (by decide) (by decide))) s_nil rfl) rfl rfl) w_int rfl))) (fun _ _ _ _ _ => (s_var rfl (.inl rfl) (by decide) (by decide))) (fun _ => rfl))) ss_next)
theorem o__law_parts (G : Glo K mg) (sb : SysD base)  (T : Top K mg "_law_parts" t__law_parts) : Own P w K mg base 1 "_law_parts" t__law_parts ["number"] c__law_parts :=
  own_mk T sc__law_parts sb fun X f cdv A outer s H E _ B => (ss_cons (ps_par3D (Bd.calm B) (Bd.nd B) rfl rfl rfl (by decide) (by decide) (by decide) rfl rfl rfl (s_cons (s_lst s_nil) (s_cons (s_var rfl (.inl rfl) (by decide) (by decide)) (s_cons w_int s_nil rfl) rfl) rfl) rfl rfl) (ss_cons (ps_whileD PassesOwn.never (s_tcmp (Bd.sm B) (Bd.u70 B) (s_var rfl (.inl rfl) (by decide) (by decide)) w_int rfl) (ss_cons (ps_setD (Bd.nd B) rfl (.inl rfl) w_int rfl (.inl rfl)) (ss_cons (ps_whileD PassesOwn.never (s_tcmp (Bd.sm B) (Bd.u70 B) (w_int1 G.z_int (gl rfl) (s_cons (s_bin (s_var rfl (.inl rfl) (by decide) (by decide)) (s_var rfl (.inl rfl) (by decide) (by decide))) s_nil rfl) rfl rfl) w_int rfl) (ss_cons (ps_parD (Bd.calm B) (Bd.nd B) rfl rfl (by decide) rfl rfl (s_cons (s_bin (s_var rfl (.inl rfl) (by decide) (by decide)) (s_var rfl (.inl rfl) (by decide) (by decide))) (s_cons (s_bin (s_var rfl (.inl rfl) (by decide) (by decide)) w_int) s_nil rfl) rfl) rfl rfl) ss_next)) (ss_cons (ps_extD (s_var rfl (.inl rfl) (by decide) (by decide)) (s_if (s_tcmp (Bd.sm B) (Bd.u70 B) (s_var rfl (.inl rfl) (by decide) (by decide)) w_int rfl) (s_lst (s_cons (s_tup (s_cons (s_var rfl (.inl rfl) (by decide) (by decide)) (s_cons (s_var rfl (.inl rfl) (by decide) (by decide)) s_nil rfl) rfl)) s_nil rfl)) (s_lst s_nil)) rfl rfl rfl rfl rfl) (ss_cons (ps_setD (Bd.nd B) rfl (.inl rfl) (s_if (s_tcmp (Bd.sm B) (Bd.u70 B) (s_bin (s_var rfl (.inl rfl) (by decide) (by decide)) (s_var rfl (.inl rfl) (by decide) (by decide))) (s_var rfl (.inl rfl) (by decide) (by decide)) rfl) (s_bin (s_var rfl (.inl rfl) (by decide) (by decide)) w_int) (w_max B G.z_max (gl rfl) (s_cons (s_bin (s_var rfl (.inl rfl) (by decide) (by decide)) w_int) (s_cons (s_var rfl (.inl rfl) (by decide) (by decide)) s_nil rfl) rfl) rfl rfl)) rfl (.inl rfl)) ss_next))))) (ss_cons (ps_retD (s_var rfl (.inl rfl) (by decide) (by decide))) ss_next)))
theorem o__law_sign (G : Glo K mg) (sb : SysD base) (o__law_parts : Own P w K mg base 1 "_law_parts" t__law_parts ["number"] c__law_parts) (T : Top K mg "_law_sign" t__law_sign) : Own P w K mg base 2 "_law_sign" t__law_sign ["number"] c__law_sign :=
  own_mk T sc__law_sign sb fun X f cdv A outer s H E _ B => (ss_cons (ps_setD (Bd.nd B) rfl (.inl rfl) w_int rfl (.inl rfl)) (ss_cons (ps_forD PassesOwn.never (Bd.calm B) (s_wseq (s_own (o__law_parts.frame.mono (by decide)) (Bd.room B) (Bd.gd B) (gl rfl) bp__law_parts (s_cons (s_var rfl (.inl rfl) (by decide) (by decide)) s_nil rfl) (by decide) rfl rfl)) (g_tup (Bd.calm B) (g_cons (g_var (Bd.nd B) rfl (.inl rfl) (.inl rfl)) (g_cons (g_var (Bd.nd B) rfl (.inl rfl) (.inl rfl)) g_nil rfl) rfl) rfl rfl) (ss_cons (ps_setD (Bd.nd B) rfl (.inl rfl) (s_if (s_tcmp (Bd.sm B) (Bd.u70 B) (s_var rfl (.inl rfl) (by decide) (by decide)) w_int rfl) w_int (s_bin w_int (s_var rfl (.inl rfl) (by decide) (by decide)))) rfl (.inl rfl)) ss_next) (fun _ => rfl)) (ss_cons (ps_retD (s_var rfl (.inl rfl) (by decide) (by decide))) ss_next)))
theorem o__law_right (G : Glo K mg) (sb : SysD base) (o__law_pick : Own P w K mg base 2 "_law_pick" t__law_pick ["pot", "some"] c__law_pick) (o__law_draw : Own P w K mg base 1 "_law_draw" t__law_draw ["pot", "many"] c__law_draw) (o__law_row : Own P w K mg base 3 "_law_row" t__law_row ["pot", "length", "great"] c__law_row) (o__law_divisors : Own P w K mg base 1 "_law_divisors" t__law_divisors ["number"] c__law_divisors) (o_summed : Own P w K mg base 5 "summed" t_summed ["row"] c_summed) (o_taken_back : Own P w K mg base 5 "taken_back" t_taken_back ["row"] c_taken_back) (o__law_sign : Own P w K mg base 2 "_law_sign" t__law_sign ["number"] c__law_sign) (T : Top K mg "_law_right" t__law_right) : Own P w K mg base 6 "_law_right" t__law_right ["pot"] c__law_right :=
  own_mk T sc__law_right sb fun X f cdv A outer s H E _ B => (ss_cons (ps_setD (Bd.nd B) rfl (.inl rfl) (s_own (o__law_pick.frame.mono (by decide)) (Bd.room B) (Bd.gd B) (gl rfl) bp__law_pick (s_cons (s_var rfl (.inl rfl) (by decide) (by decide)) (s_cons (s_lst (s_cons w_int (s_cons w_int (s_cons w_int (s_cons w_int (s_cons w_int (s_cons w_int (s_cons (s_bin w_int (s_own (o__law_draw.frame.mono (by decide)) (Bd.room B) (Bd.gd B) (gl rfl) bp__law_draw (s_cons (s_var rfl (.inl rfl) (by decide) (by decide)) (s_cons w_int s_nil rfl) rfl) (by decide) rfl rfl)) s_nil rfl) rfl) rfl) rfl) rfl) rfl) rfl)) s_nil rfl) rfl) (by decide) rfl rfl) rfl (.inl rfl)) (ss_cons (ps_setD (Bd.nd B) rfl (.inr rfl) (s_own (o__law_row.frame.mono (by decide)) (Bd.room B) (Bd.gd B) (gl rfl) bp__law_row (s_cons (s_var rfl (.inl rfl) (by decide) (by decide)) (s_cons (s_var rfl (.inl rfl) (by decide) (by decide)) (s_cons w_bl s_nil rfl) rfl) rfl) (by decide) rfl rfl) rfl (.inl rfl)) (ss_cons (ps_parD (Bd.calm B) (Bd.nd B) rfl rfl (by decide) rfl rfl (s_cons (w_repr B G.z_repr (gl rfl) (s_cons (s_var rfl (.inr (.inl rfl)) (by decide) (by decide)) s_nil rfl) rfl rfl) (s_cons (s_lst s_nil) s_nil rfl) rfl) rfl rfl) (ss_cons (ps_forD PassesOwn.never (Bd.calm B) (s_wrng2 w_int (s_bin (s_var rfl (.inl rfl) (by decide) (by decide)) w_int) (gl rfl) G.z_range rfl rfl) (g_var (Bd.nd B) rfl (.inr rfl) (.inl rfl)) (ss_cons (ps_appD (s_var rfl (.inl rfl) (by decide) (by decide)) (w_sum B G.z_sum (gl rfl) (s_cons (s_comp (WB := W0) (own := [("one", 11)]) (Bd.calm B) (Bd.nd B) (s_wseq (s_own (o__law_divisors.frame.mono (by decide)) (Bd.room B) (Bd.gd B) (gl rfl) bp__law_divisors (s_cons (s_var rfl (.inr (.inl rfl)) (by decide) (by decide)) s_nil rfl) (by decide) rfl rfl)) (blkOk_by (N := n__law_right) (sc := defScope t__law_right) (by decide +kernel)) (by decide) (fun _ _ _ _ _ => (s_gct (Bd.nd (Bd.blk B)) rfl (.inl rfl) (.inr rfl))) (fun _ _ _ _ _ => s_tyes) (fun _ _ _ _ _ => (s_get (Bd.u1 (Bd.blk B)) (s_var rfl (.inr (.inl rfl)) (by decide) (by decide)) (s_bin (s_var rfl (.inl rfl) (by decide) (by decide)) w_int) (fun _ _ => rfl))) (fun _ => rfl)) s_nil rfl) rfl rfl) rfl rfl rfl rfl rfl) ss_next) (fun _ => rfl)) (ss_cons (ps_setD (Bd.nd B) rfl (.inl rfl) (s_own (o_summed.frame.mono (by decide)) (Bd.room B) (Bd.gd B) (gl rfl) bp_summed (s_cons (s_var rfl (.inr (.inl rfl)) (by decide) (by decide)) s_nil rfl) (by decide) rfl rfl) rfl (.inl rfl)) (ss_cons (ps_ifD (s_tcmp (Bd.sm B) (Bd.u70 B) (w_repr B G.z_repr (gl rfl) (s_cons (s_lst (s_cons (s_var rfl (.inl rfl) (by decide) (by decide)) (s_cons (s_ownK0 (o_summed.frame.mono (by decide)) (Bd.room B) (Bd.gd B) (gl rfl) bk_summed_0_row (s_kcons (w_tuple G.z_tuple (gl rfl) (s_cons (s_var rfl (.inr (.inl rfl)) (by decide) (by decide)) s_nil rfl) rfl rfl) s_knil) rfl rfl (by decide) rfl) s_nil rfl) rfl)) s_nil rfl) rfl rfl) (w_repr B G.z_repr (gl rfl) (s_cons (s_lst (s_cons (s_var rfl (.inl rfl) (by decide) (by decide)) (s_cons (s_var rfl (.inl rfl) (by decide) (by decide)) s_nil rfl) rfl)) s_nil rfl) rfl rfl) rfl) (ss_cons (ps_retD w_bl) ss_next) ss_next) (ss_cons (ps_appD (s_var rfl (.inl rfl) (by decide) (by decide)) w_non rfl rfl rfl rfl rfl) (ss_cons (ps_setD (Bd.nd B) rfl (.inr rfl) (s_own (o_taken_back.frame.mono (by decide)) (Bd.room B) (Bd.gd B) (gl rfl) bp_taken_back (s_cons (s_var rfl (.inr (.inl rfl)) (by decide) (by decide)) s_nil rfl) (by decide) rfl rfl) rfl (.inl rfl)) (ss_cons (ps_ifD (PW.pt (s_tor (s_tcmp (Bd.sm B) (Bd.u70 B) (w_repr B G.z_repr (gl rfl) (s_cons (s_ownK0 (o_taken_back.frame.mono (by decide)) (Bd.room B) (Bd.gd B) (gl rfl) bk_taken_back_0_row (s_kcons (w_tuple G.z_tuple (gl rfl) (s_cons (s_var rfl (.inr (.inl rfl)) (by decide) (by decide)) s_nil rfl) rfl rfl) s_knil) rfl rfl (by decide) rfl) s_nil rfl) rfl rfl) (w_repr B G.z_repr (gl rfl) (s_cons (s_var rfl (.inr (.inl rfl)) (by decide) (by decide)) s_nil rfl) rfl rfl) rfl) (s_or1 (s_tcmp (Bd.sm B) (Bd.u70 B) (w_len G.z_len (gl rfl) (s_cons (s_var rfl (.inr (.inl rfl)) (by decide) (by decide)) s_nil rfl) rfl rfl) (s_var rfl (.inl rfl) (by decide) (by decide)) rfl)))) (ss_cons (ps_retD w_bl) ss_next) ss_next) (ss_cons (ps_forD PassesOwn.never (Bd.calm B) (s_wrng2 w_int (s_bin (s_var rfl (.inl rfl) (by decide) (by decide)) w_int) (gl rfl) G.z_range rfl rfl) (g_var (Bd.nd B) rfl (.inr rfl) (.inl rfl)) (ss_cons (ps_ifD (s_tcmp (Bd.sm B) (Bd.u70 B) (w_sum B G.z_sum (gl rfl) (s_cons (s_comp (WB := W0) (own := [("one", 11)]) (Bd.calm B) (Bd.nd B) (s_wseq (s_own (o__law_divisors.frame.mono (by decide)) (Bd.room B) (Bd.gd B) (gl rfl) bp__law_divisors (s_cons (s_var rfl (.inr (.inl rfl)) (by decide) (by decide)) s_nil rfl) (by decide) rfl rfl)) (blkOk_by (N := n__law_right) (sc := defScope t__law_right) (by decide +kernel)) (by decide) (fun _ _ _ _ _ => (s_gct (Bd.nd (Bd.blk B)) rfl (.inl rfl) (.inr rfl))) (fun _ _ _ _ _ => s_tyes) (fun _ _ _ _ _ => (s_get (Bd.u1 (Bd.blk B)) (s_var rfl (.inr (.inl rfl)) (by decide) (by decide)) (s_bin (s_var rfl (.inl rfl) (by decide) (by decide)) w_int) (fun _ _ => rfl))) (fun _ => rfl)) s_nil rfl) rfl rfl) (s_get (Bd.u1 B) (s_var rfl (.inr (.inl rfl)) (by decide) (by decide)) (s_bin (s_var rfl (.inr (.inl rfl)) (by decide) (by decide)) w_int) (fun _ _ => rfl)) rfl) (ss_cons (ps_retD w_bl) ss_next) ss_next) (ss_cons (ps_ifD (s_tcmp (Bd.sm B) (Bd.u70 B) (s_get (Bd.u1 B) (s_var rfl (.inr (.inl rfl)) (by decide) (by decide)) (s_bin (s_var rfl (.inr (.inl rfl)) (by decide) (by decide)) w_int) (fun _ _ => rfl)) (w_sum B G.z_sum (gl rfl) (s_cons (s_comp (WB := W0) (own := [("one", 11)]) (Bd.calm B) (Bd.nd B) (s_wseq (s_own (o__law_divisors.frame.mono (by decide)) (Bd.room B) (Bd.gd B) (gl rfl) bp__law_divisors (s_cons (s_var rfl (.inr (.inl rfl)) (by decide) (by decide)) s_nil rfl) (by decide) rfl rfl)) (blkOk_by (N := n__law_right) (sc := defScope t__law_right) (by decide +kernel)) (by decide) (fun _ _ _ _ _ => (s_gct (Bd.nd (Bd.blk B)) rfl (.inl rfl) (.inr rfl))) (fun _ _ _ _ _ => s_tyes) (fun _ _ _ _ _ => (s_bin (s_own (o__law_sign.frame.mono (by decide)) (Bd.room (Bd.blk B)) (Bd.gd (Bd.blk B)) (gl rfl) bp__law_sign (s_cons (s_var rfl (.inl rfl) (by decide) (by decide)) s_nil rfl) (by decide) rfl rfl) (s_get (Bd.u1 (Bd.blk B)) (s_var rfl (.inr (.inl rfl)) (by decide) (by decide)) (s_bin (s_bin (s_var rfl (.inr (.inl rfl)) (by decide) (by decide)) (s_var rfl (.inl rfl) (by decide) (by decide))) w_int) (fun _ _ => rfl)))) (fun _ => rfl)) s_nil rfl) rfl rfl) rfl) (ss_cons (ps_retD w_bl) ss_next) ss_next) ss_next)) (fun _ => rfl)) (ss_cons (ps_ifD (PW.pt (s_tand (s_tcmp (Bd.sm B) (Bd.u70 B) (w_max B G.z_max (gl rfl) (s_cons (s_comp (WB := W0) (own := [("one", 11)]) (Bd.calm B) (Bd.nd B) (s_wseq (s_var rfl (.inr (.inl rfl)) (by decide) (by decide))) (blkOk_by (N := n__law_right) (sc := defScope t__law_right) (by decide +kernel)) (by decide) (fun _ _ _ _ _ => (s_gct (Bd.nd (Bd.blk B)) rfl (.inl rfl) (.inr rfl))) (fun _ _ _ _ _ => s_tyes) (fun _ _ _ _ _ => (w_abs G.z_abs (gl rfl) (s_cons (s_var rfl (.inl rfl) (by decide) (by decide)) s_nil rfl) rfl rfl)) (fun _ => rfl)) s_nil rfl) rfl rfl) (s_bin w_int w_int) rfl) (s_and1 (s_tcmp (Bd.sm B) (Bd.u70 B) (s_own (o_summed.frame.mono (by decide)) (Bd.room B) (Bd.gd B) (gl rfl) bp_summed (s_cons (s_var rfl (.inr (.inl rfl)) (by decide) (by decide)) s_nil rfl) (by decide) rfl rfl) (s_var rfl (.inr (.inl rfl)) (by decide) (by decide)) rfl)))) (ss_cons (ps_retD w_bl) ss_next) ss_next) (ss_cons (ps_ifD (PW.pt (s_tand (s_tcmp (Bd.sm B) (Bd.u70 B) (w_max B G.z_max (gl rfl) (s_cons (s_comp (WB := W0) (own := [("one", 11)]) (Bd.calm B) (Bd.nd B) (s_wseq (s_var rfl (.inl rfl) (by decide) (by decide))) (blkOk_by (N := n__law_right) (sc := defScope t__law_right) (by decide +kernel)) (by decide) (fun _ _ _ _ _ => (s_gct (Bd.nd (Bd.blk B)) rfl (.inl rfl) (.inr rfl))) (fun _ _ _ _ _ => s_tyes) (fun _ _ _ _ _ => (w_abs G.z_abs (gl rfl) (s_cons (s_var rfl (.inl rfl) (by decide) (by decide)) s_nil rfl) rfl rfl)) (fun _ => rfl)) s_nil rfl) rfl rfl) (s_bin w_int w_int) rfl) (s_and1 (s_tcmp (Bd.sm B) (Bd.u70 B) (s_own (o_taken_back.frame.mono (by decide)) (Bd.room B) (Bd.gd B) (gl rfl) bp_taken_back (s_cons (s_var rfl (.inl rfl) (by decide) (by decide)) s_nil rfl) (by decide) rfl rfl) (s_var rfl (.inr (.inl rfl)) (by decide) (by decide)) rfl)))) (ss_cons (ps_retD w_bl) ss_next) ss_next) (ss_cons (ps_setD (Bd.nd B) rfl (.inl rfl) (s_own (o__law_row.frame.mono (by decide)) (Bd.room B) (Bd.gd B) (gl rfl) bp__law_row (s_cons (s_var rfl (.inl rfl) (by decide) (by decide)) (s_cons (s_var rfl (.inl rfl) (by decide) (by decide)) (s_cons w_bl s_nil rfl) rfl) rfl) (by decide) rfl rfl) rfl (.inl rfl)) (ss_cons (ps_setLcD (WB := W0) (own := [("near", 12), ("far", 13)]) (Bd.calm B) (Bd.nd B) rfl rfl rfl rfl rfl (fun _ => sw_true rfl rfl rfl rfl) (s_wzip (s_var rfl (.inr (.inl rfl)) (by decide) (by decide)) (s_var rfl (.inl rfl) (by decide) (by decide)) (gl rfl) G.z_zip rfl rfl rfl) (blkOk_by (N := n__law_right) (sc := defScope t__law_right) (by decide +kernel)) (by decide) (fun _ _ _ _ _ => (s_gctT (Bd.calm (Bd.blk B)) (.cons (Bd.nd (Bd.blk B)) rfl (.inl rfl) (.inr rfl) (.cons (Bd.nd (Bd.blk B)) rfl (.inl rfl) (.inr rfl) .nil)))) (fun _ _ _ _ _ => s_tyes) (fun _ _ _ _ _ => (s_bin (s_bin (s_var rfl (.inl rfl) (by decide) (by decide)) w_int) (s_var rfl (.inl rfl) (by decide) (by decide)))) (fun _ => rfl)) (ss_cons (ps_setLcD (WB := W0) (own := [("near", 12)]) (Bd.calm B) (Bd.nd B) rfl rfl rfl rfl rfl (fun _ => sw_true rfl rfl rfl rfl) (s_wseq (s_var rfl (.inr (.inl rfl)) (by decide) (by decide))) (blkOk_by (N := n__law_right) (sc := defScope t__law_right) (by decide +kernel)) (by decide) (fun _ _ _ _ _ => (s_gct (Bd.nd (Bd.blk B)) rfl (.inl rfl) (.inr rfl))) (fun _ _ _ _ _ => s_tyes) (fun _ _ _ _ _ => (s_bin (s_var rfl (.inl rfl) (by decide) (by decide)) w_int)) (fun _ => rfl)) (ss_cons (ps_ifD (s_tcmp (Bd.sm B) (Bd.u70 B) (s_own (o_summed.frame.mono (by decide)) (Bd.room B) (Bd.gd B) (gl rfl) bp_summed (s_cons (s_var rfl (.inl rfl) (by decide) (by decide)) s_nil rfl) (by decide) rfl rfl) (s_comp (WB := W0) (own := [("near", 12), ("far", 13)]) (Bd.calm B) (Bd.nd B) (s_wzip (s_own (o_summed.frame.mono (by decide)) (Bd.room B) (Bd.gd B) (gl rfl) bp_summed (s_cons (s_var rfl (.inl rfl) (by decide) (by decide)) s_nil rfl) (by decide) rfl rfl) (s_own (o_summed.frame.mono (by decide)) (Bd.room B) (Bd.gd B) (gl rfl) bp_summed (s_cons (s_var rfl (.inl rfl) (by decide) (by decide)) s_nil rfl) (by decide) rfl rfl) (gl rfl) G.z_zip rfl rfl rfl) (blkOk_by (N := n__law_right) (sc := defScope t__law_right) (by decide +kernel)) (by decide) (fun _ _ _ _ _ => (s_gctT (Bd.calm (Bd.blk B)) (.cons (Bd.nd (Bd.blk B)) rfl (.inl rfl) (.inr rfl) (.cons (Bd.nd (Bd.blk B)) rfl (.inl rfl) (.inr rfl) .nil)))) (fun _ _ _ _ _ => s_tyes) (fun _ _ _ _ _ => (s_bin (s_var rfl (.inl rfl) (by decide) (by decide)) (s_var rfl (.inl rfl) (by decide) (by decide)))) (fun _ => rfl)) rfl) (ss_cons (ps_retD w_bl) ss_next) ss_next) (ss_cons (ps_retD (s_and (s_cmp (Bd.sm B) (Bd.u70 B) (s_own (o_summed.frame.mono (by decide)) (Bd.room B) (Bd.gd B) (gl rfl) bp_summed (s_cons (s_bin (s_lst (s_cons w_int s_nil rfl)) (s_var rfl (.inl rfl) (by decide) (by decide))) s_nil rfl) (by decide) rfl rfl) (s_comp (WB := W0) (own := [("number", 5)]) (Bd.calm B) (Bd.nd B) (s_wrng2 w_int (s_bin (s_var rfl (.inl rfl) (by decide) (by decide)) w_int) (gl rfl) G.z_range rfl rfl) (blkOk_by (N := n__law_right) (sc := defScope t__law_right) (by decide +kernel)) (by decide) (fun _ _ _ _ _ => (s_gct (Bd.nd (Bd.blk B)) rfl (.inl rfl) (.inr rfl))) (fun _ _ _ _ _ => s_tyes) (fun _ _ _ _ _ => (w_len G.z_len (gl rfl) (s_cons (s_own (o__law_divisors.frame.mono (by decide)) (Bd.room (Bd.blk B)) (Bd.gd (Bd.blk B)) (gl rfl) bp__law_divisors (s_cons (s_var rfl (.inl rfl) (by decide) (by decide)) s_nil rfl) (by decide) rfl rfl) s_nil rfl) rfl rfl)) (fun _ => rfl)) rfl) (pe_one (s_cmp (Bd.sm B) (Bd.u70 B) (w_repr B G.z_repr (gl rfl) (s_cons (s_var rfl (.inr (.inl rfl)) (by decide) (by decide)) s_nil rfl) rfl rfl) (s_var rfl (.inl rfl) (by decide) (by decide)) rfl)))) ss_next)))))))))))))))))
theorem o_law (G : Glo K mg) (sb : SysD base) (o__law_pot : Own P w K mg base 1 "_law_pot" t__law_pot ["script", "k"] c__law_pot) (o__law_right : Own P w K mg base 6 "_law_right" t__law_right ["pot"] c__law_right) (o__law_great_right : Own P w K mg base 6 "_law_great_right" t__law_great_right ["pot"] c__law_great_right) (T : Top K mg "law" t_law) : Own P w K mg base 7 "law" t_law ["script"] c_law :=
  own_mk T sc_law sb fun X f cdv A outer s H E _ B => (ss_cons (ps_setLcD (WB := W0) (own := [("k", 2)]) (Bd.calm B) (Bd.nd B) rfl rfl rfl rfl rfl (fun _ => sw_true rfl rfl rfl rfl) (s_wrng1 (w_max B G.z_max (gl rfl) (s_cons w_int (s_cons (w_min B G.z_min (gl rfl) (s_cons w_int (s_cons (w_len G.z_len (gl rfl) (s_cons (s_var rfl (.inr (.inl rfl)) (by decide) (by decide)) s_nil rfl) rfl rfl) s_nil rfl) rfl) rfl rfl) s_nil rfl) rfl) rfl rfl) (gl rfl) G.z_range rfl) (blkOk_by (N := n_law) (sc := defScope t_law) (by decide +kernel)) (by decide) (fun _ _ _ _ _ => (s_gct (Bd.nd (Bd.blk B)) rfl (.inl rfl) (.inr rfl))) (fun _ _ _ _ _ => s_tyes) (fun _ _ _ _ _ => (s_own (o__law_pot.frame.mono (by decide)) (Bd.room (Bd.blk B)) (Bd.gd (Bd.blk B)) (gl rfl) bp__law_pot (s_cons (s_var rfl (.inr (.inl rfl)) (by decide) (by decide)) (s_cons (s_var rfl (.inl rfl) (by decide) (by decide)) s_nil rfl) rfl) (by decide) rfl rfl)) (fun _ => rfl)) (ss_cons (ps_retD (s_and (w_all B G.z_all (gl rfl) (s_cons (s_comp (WB := W0) (own := [("pot", 3)]) (Bd.calm B) (Bd.nd B) (s_wseq (s_var rfl (.inl rfl) (by decide) (by decide))) (blkOk_by (N := n_law) (sc := defScope t_law) (by decide +kernel)) (by decide) (fun _ _ _ _ _ => (s_gct (Bd.nd (Bd.blk B)) rfl (.inl rfl) (.inr rfl))) (fun _ _ _ _ _ => s_tyes) (fun _ _ _ _ _ => (s_own (o__law_right.frame.mono (by decide)) (Bd.room (Bd.blk B)) (Bd.gd (Bd.blk B)) (gl rfl) bp__law_right (s_cons (s_var rfl (.inl rfl) (by decide) (by decide)) s_nil rfl) (by decide) rfl rfl)) (fun _ => rfl)) s_nil rfl) rfl rfl) (pe_one (s_own (o__law_great_right.frame.mono (by decide)) (Bd.room B) (Bd.gd B) (gl rfl) bp__law_great_right (s_cons (s_get (Bd.u1 B) (s_var rfl (.inl rfl) (by decide) (by decide)) w_int (fun _ _ => rfl)) s_nil rfl) (by decide) rfl rfl)))) ss_next))
theorem all_own (G : Glo K mg) (sb : SysD base) (T__law_pot : Top K mg "_law_pot" t__law_pot) (T__law_draw : Top K mg "_law_draw" t__law_draw) (T__law_pick : Top K mg "_law_pick" t__law_pick) (T_is_list : Top K mg "is_list" t_is_list) (T_is_integer : Top K mg "is_integer" t_is_integer) (T_is_within : Top K mg "is_within" t_is_within) (T_is_row_value : Top K mg "is_row_value" t_is_row_value) (T_want_row : Top K mg "want_row" t_want_row) (T_parts_of : Top K mg "parts_of" t_parts_of) (T_power_of : Top K mg "power_of" t_power_of) (T_divisors_of : Top K mg "divisors_of" t_divisors_of) (T_product_of : Top K mg "product_of" t_product_of) (T_summed : Top K mg "summed" t_summed) (T_sign_at : Top K mg "sign_at" t_sign_at) (T_taken_back : Top K mg "taken_back" t_taken_back) (T__law_great_right : Top K mg "_law_great_right" t__law_great_right) (T__law_row : Top K mg "_law_row" t__law_row) (T__law_divisors : Top K mg "_law_divisors" t__law_divisors) (T__law_parts : Top K mg "_law_parts" t__law_parts) (T__law_sign : Top K mg "_law_sign" t__law_sign) (T__law_right : Top K mg "_law_right" t__law_right) (T_law : Top K mg "law" t_law) : Own P w K mg base 7 "law" t_law ["script"] c_law := by
  have O__law_pot := o__law_pot (P := P) (w := w) (K := K) (base := base) G sb  T__law_pot
  have O__law_draw := o__law_draw (P := P) (w := w) (K := K) (base := base) G sb  T__law_draw
  have O__law_pick := o__law_pick (P := P) (w := w) (K := K) (base := base) G sb O__law_draw T__law_pick
  have O_is_list := o_is_list (P := P) (w := w) (K := K) (base := base) G sb  T_is_list
  have O_is_integer := o_is_integer (P := P) (w := w) (K := K) (base := base) G sb  T_is_integer
  have O_is_within := o_is_within (P := P) (w := w) (K := K) (base := base) G sb O_is_integer T_is_within
  have O_is_row_value := o_is_row_value (P := P) (w := w) (K := K) (base := base) G sb O_is_list O_is_within T_is_row_value
  have O_want_row := o_want_row (P := P) (w := w) (K := K) (base := base) G sb O_is_row_value T_want_row
  have O_parts_of := o_parts_of (P := P) (w := w) (K := K) (base := base) G sb  T_parts_of
  have O_power_of := o_power_of (P := P) (w := w) (K := K) (base := base) G sb  T_power_of
  have O_divisors_of := o_divisors_of (P := P) (w := w) (K := K) (base := base) G sb O_parts_of O_power_of T_divisors_of
  have O_product_of := o_product_of (P := P) (w := w) (K := K) (base := base) G sb O_divisors_of T_product_of
  have O_summed := o_summed (P := P) (w := w) (K := K) (base := base) G sb O_want_row O_product_of T_summed
  have O_sign_at := o_sign_at (P := P) (w := w) (K := K) (base := base) G sb O_parts_of T_sign_at
  have O_taken_back := o_taken_back (P := P) (w := w) (K := K) (base := base) G sb O_want_row O_product_of O_sign_at T_taken_back
  have O__law_great_right := o__law_great_right (P := P) (w := w) (K := K) (base := base) G sb O__law_pick O_summed O_taken_back T__law_great_right
  have O__law_row := o__law_row (P := P) (w := w) (K := K) (base := base) G sb O__law_draw O__law_pick T__law_row
  have O__law_divisors := o__law_divisors (P := P) (w := w) (K := K) (base := base) G sb  T__law_divisors
  have O__law_parts := o__law_parts (P := P) (w := w) (K := K) (base := base) G sb  T__law_parts
  have O__law_sign := o__law_sign (P := P) (w := w) (K := K) (base := base) G sb O__law_parts T__law_sign
  have O__law_right := o__law_right (P := P) (w := w) (K := K) (base := base) G sb O__law_pick O__law_draw O__law_row O__law_divisors O_summed O_taken_back O__law_sign T__law_right
  have O_law := o_law (P := P) (w := w) (K := K) (base := base) G sb O__law_pot O__law_right O__law_great_right T_law
  exact O_law
end
end K91
namespace K91
open PySem L2 DI
/-! ### draws -/
def potA (c : Int) : Int := if c - 1000000000000000000 > 0 then c - 1000000000000000000 else 0
def potB (c k : Int) : Int := (c % 2147483549 * 40692 + 2969 * k + 1987) % 2147483563 + 1
theorem pot_ok (ns : List Int) (k : Int) (hk : 0 ≤ k) : ∃ a b, 0 ≤ a ∧ c__law_pot [.scr ns, .int k] [] = .ok (.new [.int a, .int b]) [] := by
  have pa : ∀ c, 0 ≤ potA c := fun c => by unfold potA; split <;> omega
  by_cases h : k < ns.length
  · have hi : k.toNat < ns.length := by omega
    have e : atI (ns.map D.int) k = some (.int ns[k.toNat]) := by
      simp [atI, ixN, hk, h, hi]
    by_cases hn : ns[k.toNat] < 0
    · refine ⟨potA (-ns[k.toNat]), potB (-ns[k.toNat]) k, pa _, ?_⟩
      simp [c__law_pot, b__law_pot, eC, eNo, eVar, eNil, eCons, eLst, eTup, eBin, eNeg, ofB, eCmp, eChain, eAnd, eOr, eNot, eIf, eGet, pNone, pSome, eSlice, eRev, eBlt, eIsi, eOwn, eOwnK, eDct, wSeq, wRng1, wRng2, wEnum, wZip, gVar, gNilE, gConsE, gTupE, gSubE, eComp, tVal, tYesE, tAndE, tOrE, tNotE, sNext, sSeq, sRet, sIf, sAsg, sPar, sDrop, sApp, sExt, sFor, O.bind, O.calm, DI.settle, ofRes, runF, bAbs, bInt, bMax, bLen, one1, lenD, seqOf, DI.listOf, cmpD, binD, addD, mulD, getD, mulOk, powOk, retF, cellL, frzAll, frzD, D.low, cleanS, LINE, h, e, hn, potA, potB]
    · refine ⟨potA (ns[k.toNat]), potB (ns[k.toNat]) k, pa _, ?_⟩
      simp [c__law_pot, b__law_pot, eC, eNo, eVar, eNil, eCons, eLst, eTup, eBin, eNeg, ofB, eCmp, eChain, eAnd, eOr, eNot, eIf, eGet, pNone, pSome, eSlice, eRev, eBlt, eIsi, eOwn, eOwnK, eDct, wSeq, wRng1, wRng2, wEnum, wZip, gVar, gNilE, gConsE, gTupE, gSubE, eComp, tVal, tYesE, tAndE, tOrE, tNotE, sNext, sSeq, sRet, sIf, sAsg, sPar, sDrop, sApp, sExt, sFor, O.bind, O.calm, DI.settle, ofRes, runF, bAbs, bInt, bMax, bLen, one1, lenD, seqOf, DI.listOf, cmpD, binD, addD, mulD, getD, mulOk, powOk, retF, cellL, frzAll, frzD, D.low, cleanS, LINE, h, e, hn, potA, potB]
  · refine ⟨potA (2969 * k + 2687), potB (2969 * k + 2687) k, pa _, ?_⟩
    simp [c__law_pot, b__law_pot, eC, eNo, eVar, eNil, eCons, eLst, eTup, eBin, eNeg, ofB, eCmp, eChain, eAnd, eOr, eNot, eIf, eGet, pNone, pSome, eSlice, eRev, eBlt, eIsi, eOwn, eOwnK, eDct, wSeq, wRng1, wRng2, wEnum, wZip, gVar, gNilE, gConsE, gTupE, gSubE, eComp, tVal, tYesE, tAndE, tOrE, tNotE, sNext, sSeq, sRet, sIf, sAsg, sPar, sDrop, sApp, sExt, sFor, O.bind, O.calm, DI.settle, ofRes, runF, bAbs, bInt, bMax, bLen, one1, lenD, seqOf, DI.listOf, cmpD, binD, addD, mulD, getD, mulOk, powOk, retF, cellL, frzAll, frzD, D.low, cleanS, LINE, h, potA, potB]
theorem draw_ok (a b m : Int) (ha : 0 ≤ a) (hm : 0 < m) (hm2 : m < 1073741824) : ∃ v a' b', 0 ≤ a' ∧ 0 ≤ v ∧ v < m ∧ c__law_draw [.cel 0, .int m] [some (.lst [.int a, .int b])] = .ok (.d (.int v)) [some (.lst [.int a', .int b'])] := by
  by_cases h : 0 < a
  · refine ⟨a % m, a / m, b, ?_, ?_, ?_, ?_⟩
    · exact Int.ediv_nonneg ha (by omega)
    · exact Int.emod_nonneg _ (by omega)
    · exact Int.emod_lt_of_pos _ hm
    · simp [c__law_draw, b__law_draw, eC, eNo, eVar, eNil, eCons, eLst, eTup, eBin, eNeg, ofB, eCmp, eChain, eAnd, eOr, eNot, eIf, eGet, pNone, pSome, eSlice, eRev, eBlt, eIsi, eOwn, eOwnK, eDct, wSeq, wRng1, wRng2, wEnum, wZip, gVar, gNilE, gConsE, gTupE, gSubE, eComp, tVal, tYesE, tAndE, tOrE, tNotE, sNext, sSeq, sRet, sIf, sAsg, sPar, sDrop, sApp, sExt, sFor, O.bind, O.calm, DI.settle, ofRes, binD, addD, mulD, cmpD, bLen, bAbs, bInt, bMax, bMin, bDivmod, bSum, bAll, bAny, bSorted, bList, bTuple, bRepr, one1, withInts, withBls, lenD, seqOf, DI.listOf, getD, setD, inKey, tyOf, tyName, isInst, isSub, D.low, lowL, lowC, cleanC, frzD, frzAll, retF, cleanS, cellL, cellK, runF, celsOf, flat, renum, nodupB, subS, putS, backR, frame, keepSrc, srcSame, srcOf, D.same, sameL, atI, ixN, h, hm, hm2]
  · have e1 : (((b * 40014 + 1987) % 2147483587)).natAbs < 18446744073709551616 := by omega
    refine ⟨((b * 40014 + 1987) % 2147483587 * ((b * 40014 + 1987) % 2147483587)) % 2147483549 / 17 % m, a, (b * 40014 + 1987) % 2147483587, ha, ?_, ?_, ?_⟩
    rotate_left 2
    · simp [c__law_draw, b__law_draw, eC, eNo, eVar, eNil, eCons, eLst, eTup, eBin, eNeg, ofB, eCmp, eChain, eAnd, eOr, eNot, eIf, eGet, pNone, pSome, eSlice, eRev, eBlt, eIsi, eOwn, eOwnK, eDct, wSeq, wRng1, wRng2, wEnum, wZip, gVar, gNilE, gConsE, gTupE, gSubE, eComp, tVal, tYesE, tAndE, tOrE, tNotE, sNext, sSeq, sRet, sIf, sAsg, sPar, sDrop, sApp, sExt, sFor, O.bind, O.calm, DI.settle, ofRes, binD, addD, mulD, cmpD, bLen, bAbs, bInt, bMax, bMin, bDivmod, bSum, bAll, bAny, bSorted, bList, bTuple, bRepr, one1, withInts, withBls, lenD, seqOf, DI.listOf, getD, setD, inKey, tyOf, tyName, isInst, isSub, D.low, lowL, lowC, cleanC, frzD, frzAll, retF, cleanS, cellL, cellK, runF, celsOf, flat, renum, nodupB, subS, putS, backR, frame, keepSrc, srcSame, srcOf, D.same, sameL, atI, ixN, h, hm, hm2, mulOk, divOk, e1]
    · exact Int.emod_nonneg _ (by omega)
    · exact Int.emod_lt_of_pos _ hm
theorem pick_ok (a b : Int) (ds : List D) (ha : 0 ≤ a) (h0 : ds ≠ []) (hl : ds.length < 1073741824) (hw : lowL 0 ds = true) : ∃ d a' b', 0 ≤ a' ∧ d ∈ ds ∧ c__law_pick [.cel 0, .lst ds] [pot a b] = .ok (.d d) [pot a' b'] := by
  have hp : 0 < ds.length := List.length_pos_iff.mpr h0
  obtain ⟨v, a', b', ha', h1, h2, e⟩ := draw_ok a b ds.length ha (by omega) (by omega)
  have hv : v.toNat < ds.length := by omega
  have e2 : frame c__law_draw [.cel 0, .int ds.length] [pot a b] = .ok (.d (.int v)) [pot a' b'] := frame1 rfl rfl rfl rfl e rfl rfl
  have e3 : atI ds v = some ds[v.toNat] := by simp [atI, ixN, h1, h2, hv]
  have hm : ds[v.toNat] ∈ ds := List.getElem_mem hv
  refine ⟨ds[v.toNat], a', b', ha', hm, ?_⟩
  have hlow := lowL_mem hw _ hm
  have hr : retF 1 ds[v.toNat] [pot a' b'] = .ok (.d ds[v.toNat]) [pot a' b'] := by rw [retF_low hlow]; rfl
  simp [c__law_pick, b__law_pick, eC, eNo, eVar, eNil, eCons, eLst, eTup, eBin, eNeg, ofB, eCmp, eChain, eAnd, eOr, eNot, eIf, eGet, pNone, pSome, eSlice, eRev, eBlt, eIsi, eOwn, eOwnK, eDct, wSeq, wRng1, wRng2, wEnum, wZip, gVar, gNilE, gConsE, gTupE, gSubE, eComp, tVal, tYesE, tAndE, tOrE, tNotE, sNext, sSeq, sRet, sIf, sAsg, sPar, sDrop, sApp, sExt, sFor, O.bind, O.calm, DI.settle, ofRes, runF, bLen, one1, lenD, seqOf, DI.listOf, getD, e2, e3, hr]
theorem rng_ok {i l : Nat} (hl : l ≤ 200) {ρ : Rho} {S : Store} (h : ρ[i]? = some (some (.int l))) : wRng1 (eVar i) ρ S = .ok ⟨[], rngL 0 l⟩ S := by
  have hk : rngOk 0 l = true := by
    unfold rngOk BIG LINE
    simp only [Bool.and_eq_true, decide_eq_true_eq]
    omega
  simp [wRng1, eVar, h, O.bind, hk]
theorem rng_len (l : Nat) : (rngL 0 (l : Int)).length = l := by rw [rngL_len]; omega
/-- picks from a written list, one a turn -/
theorem picks_ok {ρ : Rho} {l : Nat} {ga : EvL} {ds : List D} {a b : Int} {B : Nat} (hl : l ≤ 200) (ha : 0 ≤ a) (h0 : ρ[0]? = some (some (.cel 0))) (h1 : ρ[1]? = some (some (.int l))) (h4 : ρ.length = 5) (hd0 : ds ≠ []) (hd1 : ds.length < 1073741824)
    (hds : ∀ d ∈ ds, ∃ n : Int, d = .int n ∧ n.natAbs ≤ B) (hga : ∀ ρ S, eLst false ga ρ S = .ok (.lst ds) S) :
    ∃ (ns : List Int) (a' b' : Int), 0 ≤ a' ∧ ns.length = l ∧ (∀ n ∈ ns, n.natAbs ≤ B) ∧ eComp true (wRng1 (eVar 1)) [4] (.one 4) tYesE (eOwn false (frame c__law_pick) (eCons (eVar 0) (eCons (eLst false ga) eNil))) ρ [pot a b] = .ok (.cel 1) [pot a' b', some (.lst (ns.map .int))] := by
  have hlow : lowL 0 ds = true := by
    obtain ⟨ns, rfl, _⟩ := intsP hds
    exact lowL_ints 0 ns
  obtain ⟨es, S', q1, q2, q3, a', b', ha', rfl⟩ := eComp_inv (al := true) (w := wRng1 (eVar 1)) (vs := [4]) (c := .one 4) (t := tYesE) (f := eOwn false (frame c__law_pick) (eCons (eVar 0) (eCons (eLst false ga) eNil)))
      (ρ := ρ) (I := fun S => ∃ a b, 0 ≤ a ∧ S = [pot a b]) (P := fun d => ∃ n : Int, d = .int n ∧ n.natAbs ≤ B) (rng_ok hl h1) ⟨a, b, ha, rfl⟩ (fun x hx S ⟨a2, b2, ha2, hS⟩ => by
        subst hS
        obtain ⟨d, a3, b3, ha3, hd, e3⟩ := pick_ok a2 b2 ds ha2 hd0 hd1 hlow
        obtain ⟨n, rfl, hn⟩ := hds d hd
        have e4 : frame c__law_pick [.cel 0, .lst ds] [pot a2 b2] = .ok (.d (.int n)) [pot a3 b3] := frame1 rfl rfl rfl (by simp [flat, D.low, hlow]) e3 rfl rfl
        refine ⟨.int n, [pot a3 b3], ?_, ⟨n, rfl, hn⟩, a3, b3, ha3, rfl⟩
        have hr : (List.set (wipeR ρ [4]) 4 (some x))[0]? = some (some (.cel 0)) := by
          show (((ρ.set 4 none).set 4 (some x)))[0]? = _
          rw [List.getElem?_set_ne (by decide), List.getElem?_set_ne (by decide)]; exact h0
        unfold compStep
        show (tYesE (List.set (wipeR ρ [4]) 4 (some x)) [pot a2 b2]).bind _ = _
        simp [tYesE, O.bind, eOwn, eCons, eVar, hr, hga, eNil, e4, O.calm, DI.settle])
  obtain ⟨ns, rfl, hns⟩ := intsP q3
  exact ⟨ns, a', b', ha', by rw [List.length_map, rng_len] at q2; exact q2, hns, q1⟩
theorem row_ok (a b : Int) (l : Nat) (g : Bool) (ha : 0 ≤ a) (hl : l ≤ 200) : ∃ (ns : List Int) (a' b' : Int), 0 ≤ a' ∧ ns.length = l ∧ (∀ n ∈ ns, n.natAbs ≤ (if g then 1000000000000 else 9)) ∧ c__law_row [.cel 0, .int l, .bl g] [pot a b] = .ok (.new (ns.map .int)) [pot a' b'] := by
  obtain ⟨w, a1, b1, ha1, h1, h2, e⟩ := draw_ok a b 4 ha (by omega) (by omega)
  have e1 : frame c__law_draw [.cel 0, .int 4] [pot a b] = .ok (.d (.int w)) [pot a1 b1] := frame1 rfl rfl rfl rfl e rfl rfl
  have done : ∀ (ns : List Int) (a' b' : Int), retF 1 (.cel 1) [pot a' b', some (.lst (ns.map .int))] = .ok (.new (ns.map .int)) [pot a' b'] := fun ns a' b' => by
    rw [retF_new (xs := ns.map .int) (by decide) rfl (lowL_ints _ _)]; rfl
  have first : ∀ k, sSeq (sAsg (eOwn false (frame c__law_draw) (eCons (eVar 0) (eCons (eC (.int 4)) (eNil)))) (gVar 3)) k [some (.cel 0), some (.int l), some (.bl g), none, none] [pot a b] = k [some (.cel 0), some (.int l), some (.bl g), some (.int w), none] [pot a1 b1] := fun k =>
    asg_nx (d := .int w) (eOwn_ok (two_ok rfl rfl) e1)
  by_cases hg : g = true ∧ w = 0
  · obtain ⟨rfl, rfl⟩ := hg
    obtain ⟨ns, a', b', ha', q1, q2, q3⟩ := picks_ok (ρ := [some (.cel 0), some (.int l), some (.bl true), some (.int 0), none]) (ga := (eCons (eC (.int 0)) (eCons (eC (.int 1)) (eCons (eNeg (eC (.int 1))) (eCons (eBin false .Pow (eC (.int 10)) (eC (.int 12))) (eCons (eBin false .Sub (eC (.int 0)) (eBin false .Pow (eC (.int 10)) (eC (.int 12)))) (eCons (eC (.int 999999999989)) (eCons (eC (.int 7)) (eNil)))))))))
      (ds := [.int 0, .int 1, .int (-1), .int 1000000000000, .int (-1000000000000), .int 999999999989, .int 7]) (B := 1000000000000) (a := a1) (b := b1) hl ha1 rfl rfl rfl (by simp) (by simp) (by simp) (fun ρ S => by simp [eC, eNo, eVar, eNil, eCons, eLst, eTup, eBin, eNeg, ofB, eCmp, eChain, eAnd, eOr, eNot, eIf, eGet, pNone, pSome, eSlice, eRev, eBlt, eIsi, eOwn, eOwnK, eDct, wSeq, wRng1, wRng2, wEnum, wZip, gVar, gNilE, gConsE, gTupE, gSubE, eComp, tVal, tYesE, tAndE, tOrE, tNotE, sNext, sSeq, sRet, sIf, sAsg, sPar, sDrop, sApp, sExt, sFor, O.bind, O.calm, DI.settle, ofRes, binD, powOk, LINE])
    refine ⟨ns, a', b', ha', q1, q2, ?_⟩
    refine runF_rt (d := .cel 1) (S1 := [pot a' b', some (.lst (ns.map .int))]) rfl ?_ (done ns a' b')
    unfold b__law_row
    refine (first _).trans (seq_rt ?_)
    rw [sIf_t (S1 := [pot a1 b1]) (by simp [tAndE, tVal, eVar, eCmp, cmpD, eC, O.bind, ofB, eqvD_ints])]
    exact ret_rt q3
  · by_cases hw : w = 1
    · subst hw
      obtain ⟨ns, a', b', ha', q1, q2, q3⟩ := picks_ok (ρ := [some (.cel 0), some (.int l), some (.bl g), some (.int 1), none]) (ga := (eCons (eC (.int 0)) (eCons (eC (.int 0)) (eCons (eC (.int 1)) (eCons (eNeg (eC (.int 1))) (eNil))))))
        (ds := [.int 0, .int 0, .int 1, .int (-1)]) (B := 1) (a := a1) (b := b1) hl ha1 rfl rfl rfl (by simp) (by simp) (by simp) (fun ρ S => by simp [eC, eNo, eVar, eNil, eCons, eLst, eTup, eBin, eNeg, ofB, eCmp, eChain, eAnd, eOr, eNot, eIf, eGet, pNone, pSome, eSlice, eRev, eBlt, eIsi, eOwn, eOwnK, eDct, wSeq, wRng1, wRng2, wEnum, wZip, gVar, gNilE, gConsE, gTupE, gSubE, eComp, tVal, tYesE, tAndE, tOrE, tNotE, sNext, sSeq, sRet, sIf, sAsg, sPar, sDrop, sApp, sExt, sFor, O.bind, O.calm, DI.settle, ofRes, binD, powOk, LINE])
      refine ⟨ns, a', b', ha', q1, fun n hn => ?_, ?_⟩
      · have := q2 n hn
        split <;> omega
      refine runF_rt (d := .cel 1) (S1 := [pot a' b', some (.lst (ns.map .int))]) rfl ?_ (done ns a' b')
      unfold b__law_row
      refine (first _).trans ((if_nx (S1 := [pot a1 b1]) (by cases g <;> simp [tAndE, tVal, eVar, eCmp, cmpD, eC, O.bind, ofB, eqvD_ints])).trans (seq_rt ?_))
      rw [sIf_t (S1 := [pot a1 b1]) (by simp [tVal, eVar, eCmp, cmpD, eC, O.bind, ofB, eqvD_ints])]
      exact ret_rt q3
    · obtain ⟨ds, S', q1, q2, q3, a', b', ha', rfl⟩ := eComp_inv (al := true) (w := wRng1 (eVar 1)) (vs := [4]) (c := .one 4) (t := tYesE) (f := eBin false .Sub (eOwn false (frame c__law_draw) (eCons (eVar 0) (eCons (eC (.int 19)) (eNil)))) (eC (.int 9)))
        (ρ := [some (.cel 0), some (.int l), some (.bl g), some (.int w), none]) (I := fun S => ∃ a b, 0 ≤ a ∧ S = [pot a b]) (P := fun d => ∃ n : Int, d = .int n ∧ n.natAbs ≤ 9) (rng_ok hl rfl) ⟨a1, b1, ha1, rfl⟩ (fun x hx S ⟨a2, b2, ha2, hS⟩ => by
          subst hS
          obtain ⟨v, a3, b3, ha3, v1, v2, e3⟩ := draw_ok a2 b2 19 ha2 (by omega) (by omega)
          have e4 : frame c__law_draw [.cel 0, .int 19] [pot a2 b2] = .ok (.d (.int v)) [pot a3 b3] := frame1 rfl rfl rfl rfl e3 rfl rfl
          refine ⟨.int (v - 9), [pot a3 b3], ?_, ⟨_, rfl, by omega⟩, a3, b3, ha3, rfl⟩
          simp [compStep, DI.bindC, wipeR, tYesE, O.bind, eBin, eOwn, eCons, eVar, eC, eNil, e4, O.calm, DI.settle, binD, ofRes])
      obtain ⟨ns, rfl, hns⟩ := intsP q3
      refine ⟨ns, a', b', ha', by rw [List.length_map, rng_len] at q2; exact q2, fun n hn => ?_, ?_⟩
      · have := hns n hn
        split <;> omega
      refine runF_rt (d := .cel 1) (S1 := [pot a' b', some (.lst (ns.map .int))]) rfl ?_ (done ns a' b')
      unfold b__law_row
      have hg2 : ¬ (g = true ∧ w = 0) := hg
      refine (first _).trans ((if_nx (S1 := [pot a1 b1]) (by cases g <;> simp [tAndE, tVal, eVar, eCmp, cmpD, eC, O.bind, ofB, eqvD_ints] <;> simpa using hg2)).trans ((if_nx (S1 := [pot a1 b1]) (by simp [tVal, eVar, eCmp, cmpD, eC, O.bind, ofB, eqvD_ints, hw])).trans ?_))
      exact ret_rt q1
/-! ### divisors, signs -/
def divs (n : Nat) : List Int := ((List.range n).filter fun i => n % (i + 1) == 0).map fun (i : Nat) => (i : Int) + 1
def divI (n : Int) : List Int := divs n.toNat
theorem div_all : ((List.range 200).all fun i => okNew (c_divisors_of [.int (i + 1 : Nat)] []) (divs (i + 1))) = true := by decide +kernel
theorem ldiv_all : ((List.range 60).all fun i => okNew (c__law_divisors [.int (i + 1 : Nat)] []) (divs (i + 1))) = true := by decide +kernel
def muT : List Int := [1, -1, -1, 0, -1, 1, -1, 0, 0, 1, -1, 0, -1, 1, 1, 0, -1, 0, -1, 0, 1, 1, -1, 0, 0, 1, 0, 0, -1, -1, -1, 0, 1, 1, 1, 0, -1, 1, 1, 0, -1, -1, -1, 0, 0, 1, -1, 0, 0, 0, 1, 0, -1, 0, 1, 0, 1, 1, -1, 0, -1, 1, 0, 0, 1, -1, -1, 0, 1, -1, -1, 0, -1, 1, 0, 0, 1, -1, -1, 0, 0, 1, -1, 0, 1, 1, 1, 0, -1, 0, 1, 0, 1, 1, 1, 0, -1, 0, 0, 0, -1, -1, -1, 0, -1, 1, -1, 0, -1, -1, 1, 0, -1, -1, 1, 0, 0, 1, 1, 0, 0, 1, 1, 0, 0, 0, -1, 0, 1, -1, -1, 0, 1, 1, 0, 0, -1, -1, -1, 0, 1, 1, 1, 0, 1, 1, 0, 0, -1, 0, -1, 0, 0, -1, 1, 0, -1, 1, 1, 0, 1, 0, -1, 0, -1, 1, -1, 0, 0, -1, 0, 0, -1, -1, 0, 0, 1, 1, -1, 0, -1, -1, 1, 0, 1, -1, 1, 0, 0, -1, -1, 0, -1, 1, -1, 0, -1, 0, -1, 0]
def mu (n : Int) : Int := gI muT (n - 1)
theorem sign_all : ((List.range 200).all fun i => okD (c_sign_at [.int (i + 1 : Nat)] []) (.int (mu (i + 1 : Nat)))) = true := by decide +kernel
theorem lsign_all : ((List.range 60).all fun i => okD (c__law_sign [.int (i + 1 : Nat)] []) (.int (mu (i + 1 : Nat)))) = true := by decide +kernel
theorem div_ok {n : Int} (h1 : 1 ≤ n) (h2 : n ≤ 200) : c_divisors_of [.int n] [] = .ok (.new ((divI n).map .int)) [] := by
  obtain ⟨i, rfl⟩ : ∃ i : Nat, n = (i + 1 : Nat) := ⟨(n - 1).toNat, by omega⟩
  exact okNew_eq (range_all div_all (by omega))
theorem ldiv_ok {n : Int} (h1 : 1 ≤ n) (h2 : n ≤ 60) : c__law_divisors [.int n] [] = .ok (.new ((divI n).map .int)) [] := by
  obtain ⟨i, rfl⟩ : ∃ i : Nat, n = (i + 1 : Nat) := ⟨(n - 1).toNat, by omega⟩
  exact okNew_eq (range_all ldiv_all (by omega))
theorem sign_ok {n : Int} (h1 : 1 ≤ n) (h2 : n ≤ 200) : c_sign_at [.int n] [] = .ok (.d (.int (mu n))) [] := by
  obtain ⟨i, rfl⟩ : ∃ i : Nat, n = (i + 1 : Nat) := ⟨(n - 1).toNat, by omega⟩
  exact okD_eq (range_all sign_all (by omega))
theorem lsign_ok {n : Int} (h1 : 1 ≤ n) (h2 : n ≤ 60) : c__law_sign [.int n] [] = .ok (.d (.int (mu n))) [] := by
  obtain ⟨i, rfl⟩ : ∃ i : Nat, n = (i + 1 : Nat) := ⟨(n - 1).toNat, by omega⟩
  exact okD_eq (range_all lsign_all (by omega))
theorem mem_div {n d : Int} (h : d ∈ divI n) : 1 ≤ d ∧ d ≤ n ∧ n % d = 0 ∧ 1 ≤ n / d ∧ n / d ≤ n := by
  unfold divI divs at h
  obtain ⟨i, hi, rfl⟩ := List.mem_map.mp h
  obtain ⟨h1, h2⟩ := List.mem_filter.mp hi
  have h1 := List.mem_range.mp h1
  have h2 : n.toNat % (i + 1) = 0 := by simpa using h2
  have e : n % ((i : Int) + 1) = 0 := by
    have : ((n.toNat % (i + 1) : Nat) : Int) = 0 := by rw [h2]; rfl
    rw [Int.natCast_emod] at this
    have e2 : (n.toNat : Int) = n := by omega
    rw [e2] at this
    simpa using this
  have hle : (i : Int) + 1 ≤ n := by omega
  refine ⟨by omega, hle, e, ?_, ?_⟩
  · exact Int.le_ediv_of_mul_le (by omega) (by omega)
  · exact Int.ediv_le_self _ (by omega)
end K91
namespace K91
open PySem L2 DI
/-! ### products -/
def conv (r o : List Int) (n : Int) : Int := ((divI n).map fun d => gI r (d - 1) * gI o (n / d - 1)).sum
def prodL (r o : List Int) : List Int := (rngI 1 (r.length + 1)).map (conv r o)
theorem prodL_len (r o : List Int) : (prodL r o).length = r.length := by unfold prodL; rw [List.length_map, rngI_len]; omega
theorem prod_ok {S : Store} {d e : D} {r o : List Int} (hS : ∀ c, cleanS S.length (S ++ [c]) = S) (hd : ∀ c, seqOf (S ++ [c]) d = some (r.map .int)) (he : ∀ c, seqOf (S ++ [c]) e = some (o.map .int)) (hl : r.length = o.length) (h200 : r.length ≤ 200)
    (hb : ∀ i : Int, (gI r i).natAbs < 18446744073709551616) : c_product_of [d, e] S = .ok (.new ((prodL r o).map .int)) S := by
  have w : ∀ c v, wRng2 (eC (.int 1)) (eBin false .Add (eBlt false bLen (eCons (eVar 0) (eNil))) (eC (.int 1))) [some d, some e, some (.cel S.length), v, none] (S ++ [c]) = .ok ⟨[], rngL 1 (r.length + 1)⟩ (S ++ [c]) := fun c v => by
    refine wRng2_ok rfl ?_ (rngOk_small (by omega) (by omega) (by omega) (by omega))
    have e1 : eBlt false bLen (eCons (eVar 0) (eNil)) [some d, some e, some (.cel S.length), v, none] (S ++ [c]) = .ok (.int r.length) (S ++ [c]) := by
      rw [eBlt_ok (one_ok (var_ok rfl)) (bLen_of (hd c))]
      simp [DI.settle]
    unfold eBin
    rw [e1]
    rfl
  obtain ⟨ρ', T, e1, v, h1, h2⟩ := sFor_inv (w := wRng2 (eC (.int 1)) (eBin false .Add (eBlt false bLen (eCons (eVar 0) (eNil))) (eC (.int 1)))) (g := gVar 3) (b := (sSeq (sApp (eVar 2) (eBlt false bSum (eCons (eComp false (wSeq (eOwn false (frame c_divisors_of) (eCons (eVar 3) (eNil)))) [4] (.one 4) (tYesE) (eBin false .Mult (eGet (eVar 0) (eBin false .Sub (eVar 4) (eC (.int 1)))) (eGet (eVar 1) (eBin false .Sub (eBin false .FloorDiv (eVar 3) (eVar 4)) (eC (.int 1)))))) (eNil)))) (sNext)))
    (I := fun i ρ T => ∃ v, ρ = [some d, some e, some (.cel S.length), v, none] ∧ T = S ++ [some (.lst ((((rngI 1 (r.length + 1)).take i).map (conv r o)).map .int))]) (w (some (.lst [])) none) ⟨none, rfl, rfl⟩ (fun i x ρ T hx hI => by
      obtain ⟨v, rfl, rfl⟩ := hI
      obtain ⟨rfl, hi⟩ := rngL_get hx
      have hn1 : 1 ≤ 1 + (i : Int) := by omega
      have hn2 : 1 + (i : Int) ≤ r.length := by omega
      refine ⟨rfl, _, _, _, _, rfl, ?_, some (.int (1 + i)), rfl, rfl⟩
      generalize hn : 1 + (i : Int) = n at hn1 hn2
      generalize hT : S ++ [some (Cell.lst ((((rngI 1 (r.length + 1)).take i).map (conv r o)).map .int))] = T
      have hdT : seqOf T d = some (r.map .int) := by rw [← hT]; exact hd _
      have heT : seqOf T e = some (o.map .int) := by rw [← hT]; exact he _
      have f1 : frame c_divisors_of [.int n] T = .ok (.new ((divI n).map .int)) T := frame0 rfl rfl (div_ok hn1 (by omega)) (backR_ints _)
      have f2 : wSeq (eOwn false (frame c_divisors_of) (eCons (eVar 3) (eNil))) [some d, some e, some (.cel S.length), some (.int n), none] T = .ok ⟨[], (divI n).map .int⟩ T := by
        unfold wSeq
        rw [eOwn_ok (one_ok (var_ok rfl)) f1]
        rfl
      have f3 := eComp_ints (al := false) (vs := [4]) (c := .one 4) (t := tYesE) (f := (eBin false .Mult (eGet (eVar 0) (eBin false .Sub (eVar 4) (eC (.int 1)))) (eGet (eVar 1) (eBin false .Sub (eBin false .FloorDiv (eVar 3) (eVar 4)) (eC (.int 1)))))) (fun m => .int (gI r (m - 1) * gI o (n / m - 1))) f2 rfl (fun m hm => by
        obtain ⟨m1, m2, m3, m4, m5⟩ := mem_div hm
        have a1 : atI (r.map D.int) (m - 1) = some (.int (gI r (m - 1))) := atI_ints (by omega) (by omega)
        have a2 : atI (o.map D.int) (n / m - 1) = some (.int (gI o (n / m - 1))) := atI_ints (by omega) (by omega)
        have a3 : divOk m = true := by
          unfold divOk; simp only [Bool.and_eq_true, decide_eq_true_eq]; omega
        have a4 : mulOk (gI r (m - 1)) (gI o (n / m - 1)) = true := by
          unfold mulOk; simp only [Bool.or_eq_true, decide_eq_true_eq]; exact .inl (hb _)
        simp [compStep, DI.bindC, wipeR, tYesE, O.bind, eBin, eVar, eC, eGet, binD, mulD, ofRes, DI.settle, getD_of hdT, getD_of heT, a1, a2, a3, a4])
      have f4 : eBlt false bSum (eCons (eComp false (wSeq (eOwn false (frame c_divisors_of) (eCons (eVar 3) (eNil)))) [4] (.one 4) (tYesE) (eBin false .Mult (eGet (eVar 0) (eBin false .Sub (eVar 4) (eC (.int 1)))) (eGet (eVar 1) (eBin false .Sub (eBin false .FloorDiv (eVar 3) (eVar 4)) (eC (.int 1)))))) (eNil)) [some d, some e, some (.cel S.length), some (.int n), none] T = .ok (.int (conv r o n)) T := by
        refine eBlt_ok (ds := [.lst (((divI n).map fun m => gI r (m - 1) * gI o (n / m - 1)).map .int)]) (one_ok ?_) (bSum_of rfl)
        rw [f3, List.map_map]
        rfl
      show sSeq _ sNext [some d, some e, some (.cel S.length), some (.int n), none] T = _
      rw [app_nx (var_ok rfl) (xs := (((rngI 1 (r.length + 1)).take i).map (conv r o)).map .int) (by rw [← hT]; exact cell_last) f4 (by rw [← hT]; exact cell_last) (by rw [List.length_map, List.length_map, List.length_take]; unfold LINE; omega)]
      rw [← hT, set_last, take_succ_map (l := rngI 1 (r.length + 1)) (x := n) (by rw [← hn]; exact rngI_get (by omega))]
      rw [List.map_append]
      rfl) (fun _ _ _ => rfl)
  subst h1 h2
  refine runF_rt (d := .cel S.length) (S1 := S ++ [some (.lst ((prodL r o).map .int))]) rfl ?_ ?_
  · unfold b_product_of
    refine (asg_nx (d := .cel S.length) (S1 := S ++ [some (.lst [])]) ?_).trans ?_
    · simp [eLst, eNil, O.bind, DI.settle]
    · refine (seq_nx e1).trans ?_
      rw [ret_rt (var_ok rfl)]
      have : (rngI 1 (r.length + 1)).take (rngL 1 (r.length + 1)).length = rngI 1 (r.length + 1) := by
        rw [rngL_len, ← rngI_len, List.take_length]
      rw [this]
      rfl
  · rw [retF_new (Nat.le_refl _) cell_last (lowL_ints _ _), hS]
end K91
namespace K91
open PySem L2 DI
/-! ### wants -/
theorem within_ok (v : Int) (h1 : -1000000000000 ≤ v) (h2 : v ≤ 1000000000000) : c_is_within [.int v, .int (-1000000000000), .int 1000000000000] [] = .ok (.d (.bl true)) [] := by
  have e1 : c_is_integer [.int v] [] = .ok (.d (.bl true)) [] := rfl
  have e2 : frame c_is_integer [.int v] [] = .ok (.d (.bl true)) [] := frame0 rfl rfl e1 rfl
  refine runF_rt (d := .bl true) (S1 := []) rfl ?_ rfl
  unfold b_is_within
  refine ret_rt ?_
  simp [eAnd, eOwn, eCons, eVar, eNil, e2, O.bind, O.calm, DI.settle, eChain, cmpD, ofB, h1, h2]
def RowOk (r : List Int) : Prop := 1 ≤ r.length ∧ r.length ≤ 200 ∧ ∀ v ∈ r, v.natAbs ≤ 1000000000000
theorem isrow_ok {S : Store} {d : D} {r : List Int} (v : Vw S d r) (h : RowOk r) : c_is_row_value [d] S = .ok (.d (.bl true)) S := by
  obtain ⟨h1, h2, h3⟩ := h
  have e1 : c_is_list [d] S = .ok (.d (.bl true)) S := by
    refine runF_rt (d := .bl true) (S1 := S) rfl ?_ (by rw [retF_low rfl, v.cl0])
    unfold b_is_list
    refine ret_rt ?_
    simp [eIsi, eVar, O.bind, v.ty, ofB]
  have e2 : frame c_is_list [d] S = .ok (.d (.bl true)) S := v.frame rfl rfl (fun _ => rfl) e1
  have e3 : bLen S [d] = some (.d (.int r.length)) := by
    rw [bLen_of v.sq0, List.length_map]
  refine runF_rt (d := .bl true) (S1 := S) rfl ?_ (by rw [retF_low rfl, v.cl0])
  unfold b_is_row_value
  have g1 : (1 : Int) ≤ r.length := by omega
  have g2 : (r.length : Int) ≤ 200 := by omega
  refine (if_nx (S1 := S) (by simp [tOrE, tNotE, tVal, eOwn, eCons, eVar, eNil, e2, O.bind, O.calm, DI.settle, eChain, eC, eBlt, ofRes, e3, cmpD, ofB, g1, g2])).trans ?_
  have f1 := eComp_ints (al := false) (vs := [1]) (c := .one 1) (t := tYesE) (f := (eOwn false (frame c_is_within) (eCons (eVar 1) (eCons (eBin false .Sub (eC (.int 0)) (eC (.int 1000000000000))) (eCons (eC (.int 1000000000000)) (eNil))))))
    (ρ := [some d, none]) (fun _ => .bl true) (wSeq_ok (f := eVar 0) (ρ := [some d, none]) (var_ok rfl) v.sq0) v.src (fun n hn => by
      have := h3 n hn
      have e4 : frame c_is_within [.int n, .int (-1000000000000), .int 1000000000000] S = .ok (.d (.bl true)) S := frame0 rfl rfl (within_ok n (by omega) (by omega)) rfl
      simp [compStep, DI.bindC, wipeR, tYesE, O.bind, eOwn, eCons, eVar, eC, eBin, binD, ofRes, eNil, e4, O.calm, DI.settle])
  refine ret_rt ?_
  refine (eBlt_ok (ds := [.lst ((r.map fun _ => true).map .bl)]) (one_ok (f1.trans (by rw [List.map_map]; rfl))) (bAll_of rfl)).trans ?_
  have : (r.map fun _ => true).all id = true := by simp
  rw [this]; rfl
theorem want_ok {S : Store} {d : D} {r : List Int} (v : Vw S d r) (h : RowOk r) : c_want_row [d] S = .ok (.d .non) S := by
  have e2 : frame c_is_row_value [d] S = .ok (.d (.bl true)) S := v.frame rfl rfl (fun _ => rfl) (isrow_ok v h)
  refine runF_nx (ρ := [some d]) (S1 := S) rfl ?_ (by rw [retF_low rfl, v.cl0])
  unfold b_want_row
  exact (if_nx (S1 := S) (by simp [tNotE, tVal, eOwn, eCons, eVar, eNil, e2, O.bind, O.calm, DI.settle])).trans rfl
theorem gI_small {r : List Int} (h : RowOk r) (i : Int) : (gI r i).natAbs ≤ 1000000000000 := by
  rcases gI_mem r i with q | q
  · exact h.2.2 _ q
  · rw [q]; decide
def ones (n : Nat) : List Int := List.replicate n 1
def sumsL (r : List Int) : List Int := prodL r (ones r.length)
def signs (n : Nat) : List Int := (rngI 1 (n + 1)).map mu
def backL (r : List Int) : List Int := prodL (signs r.length) r
theorem rep_ones (n : Nat) : (List.replicate n [D.int 1]).flatten = (ones n).map .int := by
  induction n with
  | zero => rfl
  | succ n ih => rw [List.replicate_succ, List.flatten_cons, ih]; rfl
theorem summed_ok {S : Store} {d : D} {r : List Int} (v : Vw S d r) (h : RowOk r) : c_summed [d] S = .ok (.new ((sumsL r).map .int)) S := by
  have e1 : frame c_want_row [d] S = .ok (.d .non) S := v.frame rfl rfl (fun _ => rfl) (want_ok v h)
  have e2 : c_product_of [d, .lst ((ones r.length).map .int)] S = .ok (.new ((sumsL r).map .int)) S := prod_ok (fun c => v.cl _) (fun c => v.sq _) (fun c => rfl) (by simp [ones]) h.2.1 (fun i => by have := gI_small h i; omega)
  have e3 : frame c_product_of [d, .lst ((ones r.length).map .int)] S = .ok (.new ((sumsL r).map .int)) S := v.frame rfl (by simp [flat_ints]) (fun _ => backR_ints _) e2
  have e4 : bLen S [d] = some (.d (.int r.length)) := by rw [bLen_of v.sq0, List.length_map]
  refine runF_rt (d := .cel S.length) (S1 := S ++ [some (.lst ((sumsL r).map .int))]) rfl ?_ (by rw [retF_new (Nat.le_refl _) cell_last (lowL_ints _ _), v.cl])
  unfold b_summed
  refine (drop_nx (d := .non) (S1 := S) ?_).trans (ret_rt ?_)
  · rw [eOwn_ok (one_ok (var_ok rfl)) e1]; rfl
  · refine (eOwn_ok (two_ok (var_ok rfl) (e := .lst ((ones r.length).map .int)) (S2 := S) ?_) e3).trans rfl
    have hl : r.length ≤ LINE := by have := h.2.1; unfold LINE; omega
    have g1 : (r.length : Int) ≤ 16777216 := by have := h.2.1; omega
    have g2 : (-16777216 : Int) ≤ r.length := by omega
    simp [eBin, eLst, eCons, eC, eNil, O.bind, eBlt, eVar, ofRes, e4, DI.settle, binD, mulD, rep_ones, LINE, g1, g2]
    have g3 : r.length ≤ 16777216 := by have := h.2.1; omega
    rw [if_pos g3]
    simp [ones]
theorem signs_len (n : Nat) : (signs n).length = n := by unfold signs; rw [List.length_map, rngI_len]; omega
theorem mu_small (n : Int) : (mu n).natAbs ≤ 1 := by
  have h : ∀ x ∈ muT, x.natAbs ≤ 1 := by decide +kernel
  rcases gI_mem muT (n - 1) with q | q
  · exact h _ q
  · unfold mu; rw [q]; decide
theorem signs_small (n : Nat) (i : Int) : (gI (signs n) i).natAbs ≤ 1 := by
  rcases gI_mem (signs n) i with q | q
  · obtain ⟨m, _, e⟩ := List.mem_map.mp q
    rw [← e]; exact mu_small m
  · rw [q]; decide
theorem back_ok {S : Store} {d : D} {r : List Int} (v : Vw S d r) (h : RowOk r) : c_taken_back [d] S = .ok (.new ((backL r).map .int)) S := by
  have e1 : frame c_want_row [d] S = .ok (.d .non) S := v.frame rfl rfl (fun _ => rfl) (want_ok v h)
  have e2 : c_product_of [.lst ((signs r.length).map .int), d] S = .ok (.new ((backL r).map .int)) S := prod_ok (fun c => v.cl _) (fun c => rfl) (fun c => v.sq _) (signs_len _) (by rw [signs_len]; exact h.2.1) (fun i => by have := signs_small r.length i; omega)
  have e3 : frame c_product_of [.lst ((signs r.length).map .int), d] S = .ok (.new ((backL r).map .int)) S := v.frame2 rfl (flat_ints _) (fun _ => backR_ints _) e2
  have e4 : bLen S [d] = some (.d (.int r.length)) := by rw [bLen_of v.sq0, List.length_map]
  refine runF_rt (d := .cel S.length) (S1 := S ++ [some (.lst ((backL r).map .int))]) rfl ?_ (by rw [retF_new (Nat.le_refl _) cell_last (lowL_ints _ _), v.cl])
  unfold b_taken_back
  refine (drop_nx (d := .non) (S1 := S) ?_).trans (ret_rt ?_)
  · rw [eOwn_ok (one_ok (var_ok rfl)) e1]; rfl
  · refine (eOwn_ok (two_ok (d := .lst ((signs r.length).map .int)) (S1 := S) ?_ (var_ok rfl)) e3).trans rfl
    have w : wRng2 (eC (.int 1)) (eBin false .Add (eBlt false bLen (eCons (eVar 0) (eNil))) (eC (.int 1))) [some d, none] S = .ok ⟨[], (rngI 1 (r.length + 1)).map .int⟩ S := by
      rw [← rngL_ints]
      have := h.2.1
      refine wRng2_ok rfl ?_ (rngOk_small (by omega) (by omega) (by omega) (by omega))
      simp [eBin, eBlt, eCons, eVar, eNil, eC, O.bind, ofRes, e4, DI.settle, binD, addD]
    refine (eComp_ints (fun n => .int (mu n)) w rfl fun n hn => ?_).trans ?_
    · have hn := mem_rngI.mp hn
      have := h.2.1
      have e5 : frame c_sign_at [.int n] S = .ok (.d (.int (mu n))) S := frame0 rfl rfl (sign_ok (by omega) (by omega)) rfl
      simp [compStep, DI.bindC, wipeR, tYesE, O.bind, eOwn, eCons, eVar, eNil, e5, O.calm, DI.settle]
    · unfold signs
      rw [List.map_map]; rfl
end K91
namespace K91
open PySem L2 DI
/-! ### rows as functions -/
theorem gI_rng {l : Nat} {F : Int → Int} {n : Int} (h1 : 1 ≤ n) (h2 : n ≤ l) : gI ((rngI 1 (l + 1)).map F) (n - 1) = F n := by
  unfold gI
  rw [List.getElem?_map, rngI_get (by omega)]
  have : 1 + (((n - 1).toNat : Nat) : Int) = n := by omega
  rw [this]; rfl
theorem row_as (r : List Int) : (rngI 1 (r.length + 1)).map (fun n => gI r (n - 1)) = r := by
  apply List.ext_getElem?
  intro i
  rw [List.getElem?_map]
  by_cases h : i < r.length
  · rw [rngI_get (by omega)]
    simp only [Option.map_some, gI]
    have : (1 + (i : Int) - 1).toNat = i := by omega
    rw [this, List.getElem?_eq_getElem h]; rfl
  · rw [List.getElem?_eq_none (by rw [rngI_len]; omega), List.getElem?_eq_none (by omega)]; rfl
theorem gI_ones {n : Nat} {i : Int} (h0 : 0 ≤ i) (h : i < n) : gI (ones n) i = 1 := by
  unfold gI ones
  rw [List.getElem?_replicate, if_pos (by omega)]; rfl
theorem sum_congr {α : Type} {l : List α} {f g : α → Int} (h : ∀ x ∈ l, f x = g x) : (l.map f).sum = (l.map g).sum := by
  rw [List.map_congr_left h]
theorem sum_add {α : Type} (l : List α) (f g : α → Int) : (l.map fun x => f x + g x).sum = (l.map f).sum + (l.map g).sum := by
  induction l with
  | nil => rfl
  | cons x r ih => simp only [List.map_cons, List.sum_cons, ih]; omega
theorem sum_mul {α : Type} (l : List α) (c : Int) (f : α → Int) : (l.map fun x => c * f x).sum = c * (l.map f).sum := by
  induction l with
  | nil => simp
  | cons x r ih => simp only [List.map_cons, List.sum_cons, ih, Int.mul_add]
theorem conv_ones (r : List Int) {n : Int} (h2 : n ≤ r.length) : conv r (ones r.length) n = ((divI n).map fun d => gI r (d - 1)).sum := by
  unfold conv
  refine sum_congr fun d hd => ?_
  obtain ⟨m1, m2, m3, m4, m5⟩ := mem_div hd
  rw [gI_ones (by omega) (by omega), Int.mul_one]
def dueL (r : List Int) : List Int := (rngI 1 (r.length + 1)).map fun n => ((divI n).map fun d => gI r (d - 1)).sum
theorem sums_due (r : List Int) : sumsL r = dueL r := by
  unfold sumsL prodL dueL
  refine List.map_congr_left fun n hn => conv_ones r ?_
  have := mem_rngI.mp hn
  omega
theorem dueL_len (r : List Int) : (dueL r).length = r.length := by unfold dueL; rw [List.length_map, rngI_len]; omega
theorem gI_due (r : List Int) {n : Int} (h1 : 1 ≤ n) (h2 : n ≤ r.length) : gI (dueL r) (n - 1) = ((divI n).map fun d => gI r (d - 1)).sum := gI_rng h1 h2
theorem gI_signs {l : Nat} {n : Int} (h1 : 1 ≤ n) (h2 : n ≤ l) : gI (signs l) (n - 1) = mu n := gI_rng h1 h2
theorem conv_signs (r : List Int) {n : Int} (h2 : n ≤ r.length) : conv (signs r.length) r n = ((divI n).map fun d => mu d * gI r (n / d - 1)).sum := by
  unfold conv
  refine sum_congr fun d hd => ?_
  obtain ⟨m1, m2, m3, m4, m5⟩ := mem_div hd
  rw [gI_signs m1 (by omega)]
theorem backL_len (r : List Int) : (backL r).length = r.length := by unfold backL; rw [prodL_len, signs_len]
theorem gI_back (r : List Int) {n : Int} (h1 : 1 ≤ n) (h2 : n ≤ r.length) : gI (backL r) (n - 1) = ((divI n).map fun d => mu d * gI r (n / d - 1)).sum := by
  unfold backL prodL
  rw [signs_len, gI_rng h1 h2, conv_signs r h2]
/-! ### linear forms -/
def ev (R : Nat → Int) (f : List (Int × Nat)) : Int := (f.map fun p => p.1 * R p.2).sum
def coef (f : List (Int × Nat)) (k : Nat) : Int := (f.map fun p => if p.2 = k then p.1 else 0).sum
theorem sum_range_delta (N i : Nat) (c : Int) (R : Nat → Int) (h : i < N) : ((List.range N).map fun k => (if i = k then c else 0) * R k).sum = c * R i := by
  induction N with
  | zero => omega
  | succ N ih =>
    rw [List.range_succ, List.map_append, List.sum_append]
    by_cases e : i = N
    · subst e
      have z : ((List.range i).map fun k => (if i = k then c else 0) * R k).sum = 0 := by
        have : ∀ k ∈ List.range i, (if i = k then c else 0) * R k = 0 := fun k hk => by
          have := List.mem_range.mp hk
          rw [if_neg (by omega), Int.zero_mul]
        rw [List.map_congr_left this]
        generalize List.range i = l
        induction l with
        | nil => rfl
        | cons _ _ ih => simp [ih]
      rw [z]; simp
    · rw [ih (by omega)]
      simp [e]
theorem ev_coef (R : Nat → Int) (N : Nat) : ∀ f : List (Int × Nat), (∀ p ∈ f, p.2 < N) → ev R f = ((List.range N).map fun k => coef f k * R k).sum
  | [], _ => by
    have : ∀ l : List Nat, (l.map fun k => coef [] k * R k).sum = 0 := fun l => by
      induction l with
      | nil => rfl
      | cons x r ih => simp only [List.map_cons, List.sum_cons, ih]; simp [coef]
    rw [this]; rfl
  | (c, i) :: f, h => by
    have e : ∀ k, coef ((c, i) :: f) k * R k = (if i = k then c else 0) * R k + coef f k * R k := fun k => by
      rw [← Int.add_mul]; rfl
    simp only [e]
    rw [sum_add, sum_range_delta N i c R (h (c, i) List.mem_cons_self), ← ev_coef R N f fun p hp => h p (List.mem_cons_of_mem _ hp)]
    rfl
def unitB (f : List (Int × Nat)) (N m : Nat) : Bool := (f.all fun p => decide (p.2 < N)) && ((List.range N).all fun k => decide (coef f k = if m = k then 1 else 0))
theorem ev_unit {f : List (Int × Nat)} {N m : Nat} (R : Nat → Int) (h : unitB f N m = true) (hm : m < N) : ev R f = R m := by
  unfold unitB at h
  simp only [Bool.and_eq_true, List.all_eq_true, decide_eq_true_eq] at h
  rw [ev_coef R N f h.1]
  have e : ∀ k ∈ List.range N, coef f k * R k = (if m = k then 1 else 0) * R k := fun k hk => by rw [h.2 k hk]
  rw [List.map_congr_left e, sum_range_delta N m 1 R hm, Int.one_mul]
theorem ev_flat {α : Type} (R : Nat → Int) (g : α → List (Int × Nat)) (l : List α) : ev R (l.flatMap g) = (l.map fun x => ev R (g x)).sum := by
  induction l with
  | nil => rfl
  | cons x r ih =>
    rw [List.flatMap_cons, List.map_cons, List.sum_cons, ← ih]
    unfold ev
    rw [List.map_append, List.sum_append]
def pairs1 (n : Int) : List (Int × Nat) := (divI n).flatMap fun d => (divI d).map fun e => (mu e, (d / e - 1).toNat)
def pairs2 (n : Int) : List (Int × Nat) := (divI n).flatMap fun d => (divI (n / d)).map fun e => (mu d, (e - 1).toNat)
theorem pairs1_all : ((List.range 60).all fun i => unitB (pairs1 (i + 1 : Nat)) (i + 1) i) = true := by decide +kernel
theorem pairs2_all : ((List.range 60).all fun i => unitB (pairs2 (i + 1 : Nat)) (i + 1) i) = true := by decide +kernel
theorem ev_map {α : Type} (R : Nat → Int) (l : List α) (f : α → Int) (g : α → Nat) : ev R (l.map fun x => (f x, g x)) = (l.map fun x => f x * R (g x)).sum := by
  unfold ev; rw [List.map_map]; rfl
theorem gI_nat (r : List Int) (i : Int) : gI r i = (fun k : Nat => (r[k]?).getD 0) i.toNat := rfl
theorem inv1 (r : List Int) {n : Int} (h1 : 1 ≤ n) (h2 : n ≤ 60) : ((divI n).map fun d => ((divI d).map fun e => mu e * gI r (d / e - 1)).sum).sum = gI r (n - 1) := by
  obtain ⟨i, rfl⟩ : ∃ i : Nat, n = (i + 1 : Nat) := ⟨(n - 1).toNat, by omega⟩
  have h := ev_unit (fun k : Nat => (r[k]?).getD 0) (range_all pairs1_all (show i < 60 by omega)) (Nat.lt_succ_self i)
  unfold pairs1 at h
  rw [ev_flat] at h
  simp only [ev_map] at h
  have e : ((((i + 1 : Nat) : Int) - 1).toNat) = i := by omega
  rw [gI_nat r, e]
  exact h
theorem inv2 (r : List Int) {n : Int} (h1 : 1 ≤ n) (h2 : n ≤ 60) : ((divI n).map fun d => ((divI (n / d)).map fun e => mu d * gI r (e - 1)).sum).sum = gI r (n - 1) := by
  obtain ⟨i, rfl⟩ : ∃ i : Nat, n = (i + 1 : Nat) := ⟨(n - 1).toNat, by omega⟩
  have h := ev_unit (fun k : Nat => (r[k]?).getD 0) (range_all pairs2_all (show i < 60 by omega)) (Nat.lt_succ_self i)
  unfold pairs2 at h
  rw [ev_flat] at h
  simp only [ev_map] at h
  have e : ((((i + 1 : Nat) : Int) - 1).toNat) = i := by omega
  rw [gI_nat r, e]
  exact h
/-- the sums of the row taken back are the row -/
theorem back_sum (r : List Int) {n : Int} (h1 : 1 ≤ n) (h2 : n ≤ r.length) (h60 : r.length ≤ 60) : ((divI n).map fun d => gI (backL r) (d - 1)).sum = gI r (n - 1) := by
  rw [← inv1 r h1 (by omega)]
  refine sum_congr fun d hd => ?_
  obtain ⟨m1, m2, m3, m4, m5⟩ := mem_div hd
  exact gI_back r m1 (by omega)
theorem sums_back (r : List Int) (h60 : r.length ≤ 60) : sumsL (backL r) = r := by
  rw [sums_due]
  unfold dueL
  rw [backL_len]
  conv => rhs; rw [← row_as r]
  refine List.map_congr_left fun n hn => ?_
  have := mem_rngI.mp hn
  exact back_sum r (by omega) (by omega) h60
theorem back_due (r : List Int) (h60 : r.length ≤ 60) : backL (dueL r) = r := by
  unfold backL prodL
  rw [signs_len, dueL_len]
  conv => rhs; rw [← row_as r]
  refine List.map_congr_left fun n hn => ?_
  have hm := mem_rngI.mp hn
  have e := conv_signs (dueL r) (n := n) (by rw [dueL_len]; omega)
  rw [dueL_len] at e
  rw [e, ← inv2 r (n := n) (by omega) (by omega)]
  refine sum_congr fun d hd => ?_
  obtain ⟨m1, m2, m3, m4, m5⟩ := mem_div hd
  rw [gI_due r m4 (by omega), sum_mul]
theorem gI_zip (f : Int → Int → Int) (hf : f 0 0 = 0) (r o : List Int) (hl : r.length = o.length) (i : Int) : gI (List.zipWith f r o) i = f (gI r i) (gI o i) := by
  unfold gI
  rw [List.getElem?_zipWith]
  by_cases h : i.toNat < r.length
  · rw [List.getElem?_eq_getElem h, List.getElem?_eq_getElem (by omega : i.toNat < o.length)]; rfl
  · rw [List.getElem?_eq_none (by omega : r.length ≤ i.toNat), List.getElem?_eq_none (by omega : o.length ≤ i.toNat)]; exact hf.symm
theorem gI_map (f : Int → Int) (hf : f 0 = 0) (r : List Int) (i : Int) : gI (r.map f) i = f (gI r i) := by
  unfold gI
  rw [List.getElem?_map]
  cases r[i.toNat]? with
  | none => exact hf.symm
  | some _ => rfl
/-- the sums of a sum -/
theorem sums_both (r o : List Int) (hl : r.length = o.length) : sumsL (List.zipWith (fun x y => x / 2 + y) r o) = List.zipWith (· + ·) (sumsL (r.map (· / 2))) (sumsL o) := by
  rw [sums_due, sums_due, sums_due]
  unfold dueL
  rw [List.length_zipWith, List.length_map, ← hl, Nat.min_self, List.zipWith_map, List.zipWith_self]
  refine List.map_congr_left fun n _ => ?_
  rw [← sum_add]
  refine sum_congr fun d _ => ?_
  rw [gI_zip _ (by rfl) r o hl, gI_map _ (by rfl)]
theorem sums_ones (l : Nat) : sumsL (ones l) = (rngI 1 (l + 1)).map fun n => ((divI n).length : Int) := by
  rw [sums_due]
  unfold dueL
  have e : (ones l).length = l := by simp [ones]
  rw [e]
  refine List.map_congr_left fun n hn => ?_
  have hm := mem_rngI.mp hn
  have : ((divI n).map fun d => gI (ones l) (d - 1)).sum = ((divI n).map fun _ => (1 : Int)).sum := sum_congr fun d hd => by
    obtain ⟨m1, m2, m3, m4, m5⟩ := mem_div hd
    exact gI_ones (by omega) (by omega)
  rw [this]
  generalize divI n = l
  induction l with
  | nil => rfl
  | cons x r ih => rw [List.map_cons, List.sum_cons, ih, List.length_cons]; omega
end K91
namespace K91
open PySem L2 DI
theorem gI_rep {n : Nat} {v i : Int} (h0 : 0 ≤ i) (h : i < n) : gI (List.replicate n v) i = v := by
  unfold gI
  rw [List.getElem?_replicate, if_pos (by omega)]; rfl
theorem musum_all : ((List.range 200).all fun i => decide (((divI (i + 1 : Nat)).map mu).sum = if i = 0 then 1 else 0)) = true := by decide +kernel
theorem sums_rep (v : Int) {n : Int} (h1 : 1 ≤ n) (h2 : n ≤ 200) : gI (sumsL (List.replicate 200 v)) (n - 1) = v * (divI n).length := by
  rw [sums_due, gI_due _ h1 (by rw [List.length_replicate]; exact h2)]
  have : ((divI n).map fun d => gI (List.replicate 200 v) (d - 1)).sum = ((divI n).map fun _ => v * 1).sum := sum_congr fun d hd => by
    obtain ⟨m1, m2, m3, m4, m5⟩ := mem_div hd
    rw [gI_rep (by omega) (by omega), Int.mul_one]
  rw [this, sum_mul]
  congr 1
  generalize divI n = l
  induction l with
  | nil => rfl
  | cons x r ih => rw [List.map_cons, List.sum_cons, ih, List.length_cons]; omega
theorem back_rep (v : Int) : backL (List.replicate 200 v) = v :: List.replicate 199 0 := by
  have e : backL (List.replicate 200 v) = (rngI 1 (200 + 1)).map fun n => gI (backL (List.replicate 200 v)) (n - 1) := by
    have := row_as (backL (List.replicate 200 v))
    rw [backL_len, List.length_replicate] at this
    exact this.symm
  have e2 : (v :: List.replicate 199 (0 : Int)) = (rngI 1 (200 + 1)).map fun n => gI (v :: List.replicate 199 0) (n - 1) := by
    have := row_as (v :: List.replicate 199 (0 : Int))
    rw [List.length_cons, List.length_replicate] at this
    exact this.symm
  rw [e, e2]
  refine List.map_congr_left fun n hn => ?_
  have hm := mem_rngI.mp hn
  rw [gI_back _ hm.1 (by rw [List.length_replicate]; omega)]
  have : ((divI n).map fun d => mu d * gI (List.replicate 200 v) (n / d - 1)).sum = ((divI n).map fun d => v * mu d).sum := sum_congr fun d hd => by
    obtain ⟨m1, m2, m3, m4, m5⟩ := mem_div hd
    rw [gI_rep (by omega) (by omega), Int.mul_comm]
  rw [this, sum_mul]
  obtain ⟨i, rfl⟩ : ∃ i : Nat, n = (i + 1 : Nat) := ⟨(n - 1).toNat, by omega⟩
  have h := of_decide_eq_true (range_all musum_all (show i < 200 by omega))
  rw [h]
  have ei : ((i + 1 : Nat) : Int) - 1 = i := by omega
  rw [ei]
  unfold gI
  rw [Int.toNat_natCast]
  cases i with
  | zero => simp
  | succ i =>
    rw [if_neg (by omega), List.getElem?_cons_succ, List.getElem?_replicate, if_pos (by omega)]
    simp
theorem rep_ok {v : Int} (hv : v.natAbs ≤ 1000000000000) : RowOk (List.replicate 200 v) := by
  refine ⟨by simp, by simp, fun x hx => ?_⟩
  rw [(List.mem_replicate.mp hx).2]; exact hv
theorem cnt_ok : (divI 1).length = 1 ∧ (divI 60).length = 12 ∧ (divI 128).length = 8 ∧ (divI 197).length = 2 ∧ (divI 200).length = 12 := by decide +kernel
theorem great_ok (a b : Int) (ha : 0 ≤ a) : ∃ a' b', 0 ≤ a' ∧ c__law_great_right [.cel 0] [pot a b] = .ok (.d (.bl true)) [pot a' b'] := by
  obtain ⟨d, a', b', ha', hd, e0⟩ := pick_ok a b [.int 1, .int (-1), .int 5, .int 999999999993] ha (by simp) (by simp) rfl
  obtain ⟨v, rfl, hv⟩ : ∃ v : Int, d = .int v ∧ v.natAbs ≤ 1000000000000 := by
    simp at hd
    rcases hd with rfl | rfl | rfl | rfl <;> exact ⟨_, rfl, by omega⟩
  refine ⟨a', b', ha', ?_⟩
  have e1 : frame c__law_pick [.cel 0, .lst [.int 1, .int (-1), .int 5, .int 999999999993]] [pot a b] = .ok (.d (.int v)) [pot a' b'] := frame1 rfl rfl rfl rfl e0 rfl rfl
  have hr := rep_ok hv
  have hm : ∀ S, binD S .Mult (.lst [.int v]) (.int 200) = some (.new ((List.replicate 200 v).map .int)) := fun S => mul_rep (by omega) (by omega)
  have hz : ∀ S, binD S .Mult (.lst [.int 0]) (.int 199) = some (.new ((List.replicate 199 (0 : Int)).map .int)) := fun S => mul_rep (by omega) (by omega)
  have hlz : (List.replicate 199 (0 : Int)).length = 199 := List.length_replicate
  have hb := back_rep v
  have hl : (sumsL (List.replicate 200 v)).length = 200 := by rw [sums_due, dueL_len, List.length_replicate]
  have hs : ∀ n : Int, 1 ≤ n → n ≤ 200 → gI (sumsL (List.replicate 200 v)) (n - 1) = v * (divI n).length := fun n => sums_rep v
  generalize List.replicate 200 v = R at hr hm hb hl hs
  generalize List.replicate 199 (0 : Int) = Z at hz hb hlz
  have e2 : frame c_summed [.lst (R.map .int)] [pot a' b'] = .ok (.new ((sumsL R).map .int)) [pot a' b'] := frame0 rfl (by rw [List.all_cons, flat_ints]; rfl) (summed_ok (.lst _) hr) (backR_ints _)
  have e3 : frame c_taken_back [.lst (R.map .int)] [pot a' b'] = .ok (.new ((v :: Z).map .int)) [pot a' b'] := by
    rw [← hb]
    exact frame0 rfl (by rw [List.all_cons, flat_ints]; rfl) (back_ok (.lst _) hr) (backR_ints _)
  generalize sumsL R = T at e2 hl hs
  refine runF_rt (d := .bl true) (S1 := [pot a' b']) rfl ?_ rfl
  unfold b__law_great_right
  refine (asg_nx (d := .int v) (S1 := [pot a' b']) ?_).trans ((asg_nx (d := .lst (R.map .int)) (S1 := [pot a' b']) ?_).trans ((asg_nx (d := .lst (T.map .int)) (S1 := [pot a' b']) ?_).trans ((if_nx (S1 := [pot a' b']) (tVal_ok ?_)).trans (ret_rt ?_))))
  · refine (eOwn_ok (two_ok (e := .lst [.int 1, .int (-1), .int 5, .int 999999999993]) (S2 := [pot a b]) (var_ok rfl) ?_) e1).trans rfl
    simp [eLst, eCons, eC, eNeg, eBin, eNil, O.bind, binD, powOk, ofRes, DI.settle, LINE]
  · exact (eBin_ok (d := .lst [.int v]) (S1 := [pot a' b']) rfl rfl (hm _)).trans rfl
  · exact (eOwn_ok (one_ok (var_ok rfl)) e2).trans rfl
  · have at_ : ∀ n : Int, 1 ≤ n → n ≤ 200 → atI (T.map D.int) (n - 1) = some (.int (v * (divI n).length)) := fun n h1 h2 => by
      rw [atI_ints (by omega) (by rw [hl]; omega), hs n h1 h2]
    obtain ⟨c1, c2, c3, c4, c5⟩ := cnt_ok
    have f := eComp_ints (al := false) (w := wSeq (eTup (eCons (eC (.int 1)) (eCons (eC (.int 60)) (eCons (eC (.int 128)) (eCons (eC (.int 197)) (eCons (eC (.int 200)) (eNil)))))))) (vs := [4]) (c := .one 4) (t := tYesE) (f := eGet (eVar 3) (eBin false .Sub (eVar 4) (eC (.int 1)))) (ρ := [some (.cel 0), some (.int v), some (.lst (R.map .int)), some (.lst (T.map .int)), none]) (S := [pot a' b']) (src := []) (ns := [1, 60, 128, 197, 200])
      (fun n => .int (v * (divI n).length)) rfl rfl (fun n hn => by
        have hn2 : 1 ≤ n ∧ n ≤ 200 := by
          simp only [List.mem_cons, List.not_mem_nil, or_false] at hn
          omega
        have hh := at_ n hn2.1 hn2.2
        simp [compStep, DI.bindC, wipeR, tYesE, O.bind, eBin, eVar, eC, eGet, binD, ofRes, DI.settle, getD, seqOf, DI.listOf, hh])
    have k12 : mulOk 12 v = true := by unfold mulOk; simp
    have k8 : mulOk 8 v = true := by unfold mulOk; simp
    have k2 : mulOk 2 v = true := by unfold mulOk; simp
    have g : eLst false (eCons (eVar 1) (eCons (eBin false .Mult (eC (.int 12)) (eVar 1)) (eCons (eBin false .Mult (eC (.int 8)) (eVar 1)) (eCons (eBin false .Mult (eC (.int 2)) (eVar 1)) (eCons (eBin false .Mult (eC (.int 12)) (eVar 1)) (eNil)))))) [some (.cel 0), some (.int v), some (.lst (R.map .int)), some (.lst (T.map .int)), none] [pot a' b'] = .ok (.lst ([v, 12 * v, 8 * v, 2 * v, 12 * v].map .int)) [pot a' b'] := by
      simp [eLst, eCons, eVar, eBin, eC, eNil, O.bind, binD, mulD, k12, k8, k2, ofRes, DI.settle, LINE]
    refine eCmp_ok (b := false) f g ?_
    have e : (([1, 60, 128, 197, 200] : List Int).map fun n => D.int (v * (divI n).length)) = [v, 12 * v, 8 * v, 2 * v, 12 * v].map .int := by
      simp only [List.map_cons, List.map_nil, c1, c2, c3, c4, c5]
      simp [Int.mul_comm]
    rw [e]
    rw [cmp_ne (eqvD_lists (toP_lst _ _) (toP_lst _ _))]
    simp
  · refine eCmp_ok (b := true) (d := .lst ((v :: Z).map .int)) (S1 := [pot a' b']) ((eOwn_ok (one_ok (var_ok rfl)) e3).trans rfl) (e := .lst ((v :: Z).map .int)) (S2 := [pot a' b']) ?_ ?_
    · exact (eBin_ok (d := .lst ([v].map .int)) (S1 := [pot a' b']) rfl ((eBin_ok (d := .lst [.int 0]) (S1 := [pot a' b']) rfl rfl (hz _)).trans rfl) (add_lists (by rw [hlz]; simp))).trans rfl
    · rw [cmp_eq (eqvD_lists (toP_lst _ _) (toP_lst _ _))]
      simp
end K91
namespace K91
open PySem L2 DI
theorem seven_ok (a b : Int) (ha : 0 ≤ a) : ∃ (l : Nat) (a' b' : Int), 0 ≤ a' ∧ 1 ≤ l ∧ l ≤ 60 ∧ ∀ ρ : Rho, ρ[0]? = some (some (.cel 0)) → eOwn false (frame c__law_pick) (eCons (eVar 0) (eCons (eLst false (eCons (eC (.int 1)) (eCons (eC (.int 2)) (eCons (eC (.int 6)) (eCons (eC (.int 12)) (eCons (eC (.int 30)) (eCons (eC (.int 60)) (eCons (eBin false .Add (eC (.int 1)) (eOwn false (frame c__law_draw) (eCons (eVar 0) (eCons (eC (.int 60)) (eNil))))) (eNil))))))))) (eNil))) ρ [pot a b] = .ok (.int l) [pot a' b'] := by
  obtain ⟨v, a1, b1, ha1, v1, v2, e⟩ := draw_ok a b 60 ha (by omega) (by omega)
  have e1 : frame c__law_draw [.cel 0, .int 60] [pot a b] = .ok (.d (.int v)) [pot a1 b1] := frame1 rfl rfl rfl rfl e rfl rfl
  obtain ⟨d, a2, b2, ha2, hd, e2⟩ := pick_ok a1 b1 [.int 1, .int 2, .int 6, .int 12, .int 30, .int 60, .int (1 + v)] ha1 (by simp) (by simp) rfl
  obtain ⟨n, rfl, h1, h2⟩ : ∃ n : Int, d = .int n ∧ 1 ≤ n ∧ n ≤ 60 := by
    simp only [List.mem_cons, List.not_mem_nil, or_false] at hd
    rcases hd with rfl | rfl | rfl | rfl | rfl | rfl | rfl <;> exact ⟨_, rfl, by omega, by omega⟩
  have e3 : frame c__law_pick [.cel 0, .lst [.int 1, .int 2, .int 6, .int 12, .int 30, .int 60, .int (1 + v)]] [pot a1 b1] = .ok (.d (.int n)) [pot a2 b2] := frame1 rfl rfl rfl rfl e2 rfl rfl
  refine ⟨n.toNat, a2, b2, ha2, by omega, by omega, fun ρ h0 => ?_⟩
  have en : ((n.toNat : Nat) : Int) = n := by omega
  rw [en]
  refine (eOwn_ok (S1 := [pot a1 b1]) (two_ok (e := .lst [.int 1, .int 2, .int 6, .int 12, .int 30, .int 60, .int (1 + v)]) (S1 := [pot a b]) (var_ok h0) ?_) e3).trans rfl
  refine (lst_ok (ds := [.int 1, .int 2, .int 6, .int 12, .int 30, .int 60, .int (1 + v)]) (S1 := [pot a1 b1]) ?_ (by simp)).trans rfl
  refine cons_ok rfl (cons_ok rfl (cons_ok rfl (cons_ok rfl (cons_ok rfl (cons_ok rfl (one_ok ?_))))))
  exact (eBin_ok (d := .int 1) (S1 := [pot a b]) rfl ((eOwn_ok (two_ok (var_ok h0) rfl) e1).trans rfl) (r := .d (.int (1 + v))) rfl).trans rfl
/-- sum([row[one - 1] for one in _law_divisors(number)]) -/
theorem sumdiv_ok {ρ : Rho} {S : Store} {r : List Int} {n : Int} {j : Nat} (hj : ρ[j]? = some (some (.lst (r.map .int)))) (hne : j < 11) (hn : ρ[5]? = some (some (.int n))) (hl : ρ.length = 14) (h1 : 1 ≤ n) (h2 : n ≤ r.length) (h60 : r.length ≤ 60) :
    eBlt false bSum (eCons (eComp false (wSeq (eOwn false (frame c__law_divisors) (eCons (eVar 5) (eNil)))) [11] (.one 11) (tYesE) (eGet (eVar j) (eBin false .Sub (eVar 11) (eC (.int 1))))) (eNil)) ρ S = .ok (.int ((divI n).map fun d => gI r (d - 1)).sum) S := by
  have f1 : frame c__law_divisors [.int n] S = .ok (.new ((divI n).map .int)) S := frame0 rfl rfl (ldiv_ok h1 (by omega)) (backR_ints _)
  have f3 := eComp_ints (al := false) (w := wSeq (eOwn false (frame c__law_divisors) (eCons (eVar 5) (eNil)))) (ρ := ρ) (S := S) (src := []) (vs := [11]) (c := .one 11) (t := tYesE) (f := eGet (eVar j) (eBin false .Sub (eVar 11) (eC (.int 1)))) (ns := divI n) (fun m => .int (gI r (m - 1)))
    (wSeq_ok (d := .lst ((divI n).map .int)) (xs := (divI n).map .int) (S1 := S) ((eOwn_ok (one_ok (var_ok hn)) f1).trans rfl) rfl) rfl (fun m hm => by
      obtain ⟨m1, m2, m3, m4, m5⟩ := mem_div hm
      have q1 : (List.set (wipeR ρ [11]) 11 (some (.int m)))[j]? = some (some (.lst (r.map .int))) := by
        show ((ρ.set 11 none).set 11 (some (.int m)))[j]? = _
        rw [List.getElem?_set_ne (by omega), List.getElem?_set_ne (by omega)]; exact hj
      have q2 : (List.set (wipeR ρ [11]) 11 (some (.int m)))[11]? = some (some (.int m)) := by
        show ((ρ.set 11 none).set 11 (some (.int m)))[11]? = _
        rw [List.getElem?_set_self (by rw [List.length_set, hl]; decide)]
      unfold compStep
      show ((eGet (eVar j) (eBin false .Sub (eVar 11) (eC (.int 1)))) (List.set (wipeR ρ [11]) 11 (some (.int m))) S).bind _ = _
      rw [eGet_ok (var_ok q1) ((eBin_ok (var_ok q2) (e := .int 1) (S2 := S) rfl (r := .d (.int (m - 1))) rfl).trans rfl) (v := .int (gI r (m - 1))) (by rw [getD_of rfl]; exact atI_ints (by omega) (by omega))]
      rfl)
  exact (eBlt_ok (one_ok (f3.trans (by rw [sums_map]; rfl))) (bSum_of rfl)).trans rfl
/-- max([abs(one) for one in xs]) <= 10 ** 12 -/
theorem most_ok {ρ : Rho} {S : Store} {r : List Int} {d : D} {j : Nat} (hj : ρ[j]? = some (some d)) (hd : seqOf S d = some (r.map .int)) (hs : srcSame S (srcOf d (r.map .int)) = true) (hl : ρ.length = 14) (h0 : r ≠ []) :
    ∃ b : Bool, (b = true → ∀ v ∈ r, v.natAbs ≤ 1000000000000) ∧ tVal (eCmp .LtE (eBlt false bMax (eCons (eComp false (wSeq (eVar j)) [11] (.one 11) (tYesE) (eBlt false (fun _ => bAbs) (eCons (eVar 11) (eNil)))) (eNil))) (eBin false .Pow (eC (.int 10)) (eC (.int 12)))) ρ S = .ok b S := by
  have f3 := eComp_ints (al := false) (w := wSeq (eVar j)) (ρ := ρ) (S := S) (vs := [11]) (c := .one 11) (t := tYesE) (f := eBlt false (fun _ => bAbs) (eCons (eVar 11) (eNil))) (ns := r) (fun m => .int (if m < 0 then -m else m))
    (wSeq_ok (var_ok hj) hd) hs (fun m hm => by
      have q2 : (List.set (wipeR ρ [11]) 11 (some (.int m)))[11]? = some (some (.int m)) := by
        show ((ρ.set 11 none).set 11 (some (.int m)))[11]? = _
        rw [List.getElem?_set_self (by rw [List.length_set, hl]; decide)]
      unfold compStep
      show (eBlt false (fun _ => bAbs) (eCons (eVar 11) (eNil)) (List.set (wipeR ρ [11]) 11 (some (.int m))) S).bind _ = _
      rw [eBlt_ok (one_ok (var_ok q2)) (r := .d (.int (if m < 0 then -m else m))) rfl]
      rfl)
  have hne : (r.map fun m : Int => if m < 0 then -m else m) ≠ [] := by simpa using h0
  have hmax : bMax S [.lst ((r.map fun m : Int => if m < 0 then -m else m).map .int)] = some (.d (.int (maxI (r.map fun m : Int => if m < 0 then -m else m)))) := by
    show withInts S (.lst _) _ = _
    unfold withInts
    simp only [DI.listOf, intsOf_map]
    rw [if_neg (by simpa using h0)]
  refine ⟨decide (maxI (r.map fun m : Int => if m < 0 then -m else m) ≤ 1000000000000), fun hb v hv => ?_, ?_⟩
  · have hb := of_decide_eq_true hb
    have := maxI_ge (List.mem_map.mpr ⟨v, hv, rfl⟩ : (if v < 0 then -v else v) ∈ r.map fun m : Int => if m < 0 then -m else m)
    split at this <;> omega
  · refine tVal_ok (eCmp_ok ((eBlt_ok (one_ok (f3.trans (by rw [sums_map]; rfl))) hmax).trans rfl) (e := .int 1000000000000) (S2 := S) ?_ rfl)
    simp [eBin, eC, O.bind, binD, powOk, ofRes, DI.settle]
theorem sumsign_ok {ρ : Rho} {S : Store} {r : List Int} {n : Int} (hj : ρ[2]? = some (some (.lst (r.map .int)))) (hn : ρ[5]? = some (some (.int n))) (hl : ρ.length = 14) (h1 : 1 ≤ n) (h2 : n ≤ r.length) (h60 : r.length ≤ 60) :
    eBlt false bSum (eCons (eComp false (wSeq (eOwn false (frame c__law_divisors) (eCons (eVar 5) (eNil)))) [11] (.one 11) (tYesE) (eBin false .Mult (eOwn false (frame c__law_sign) (eCons (eVar 11) (eNil))) (eGet (eVar 2) (eBin false .Sub (eBin false .FloorDiv (eVar 5) (eVar 11)) (eC (.int 1)))))) (eNil)) ρ S = .ok (.int ((divI n).map fun d => mu d * gI r (n / d - 1)).sum) S := by
  have f1 : frame c__law_divisors [.int n] S = .ok (.new ((divI n).map .int)) S := frame0 rfl rfl (ldiv_ok h1 (by omega)) (backR_ints _)
  have f3 := eComp_ints (al := false) (w := wSeq (eOwn false (frame c__law_divisors) (eCons (eVar 5) (eNil)))) (ρ := ρ) (S := S) (src := []) (vs := [11]) (c := .one 11) (t := tYesE) (f := (eBin false .Mult (eOwn false (frame c__law_sign) (eCons (eVar 11) (eNil))) (eGet (eVar 2) (eBin false .Sub (eBin false .FloorDiv (eVar 5) (eVar 11)) (eC (.int 1)))))) (ns := divI n) (fun m => .int (mu m * gI r (n / m - 1)))
    (wSeq_ok (d := .lst ((divI n).map .int)) (xs := (divI n).map .int) (S1 := S) ((eOwn_ok (one_ok (var_ok hn)) f1).trans rfl) rfl) rfl (fun m hm => by
      obtain ⟨m1, m2, m3, m4, m5⟩ := mem_div hm
      have q1 : ∀ i, i < 11 → (List.set (wipeR ρ [11]) 11 (some (.int m)))[i]? = ρ[i]? := fun i hi => by
        show ((ρ.set 11 none).set 11 (some (.int m)))[i]? = _
        rw [List.getElem?_set_ne (by omega), List.getElem?_set_ne (by omega)]
      have q2 : (List.set (wipeR ρ [11]) 11 (some (.int m)))[11]? = some (some (.int m)) := by
        show ((ρ.set 11 none).set 11 (some (.int m)))[11]? = _
        rw [List.getElem?_set_self (by rw [List.length_set, hl]; decide)]
      have q3 : frame c__law_sign [.int m] S = .ok (.d (.int (mu m))) S := frame0 rfl rfl (lsign_ok m1 (by omega)) rfl
      have a3 : divOk m = true := by
        unfold divOk; simp only [Bool.and_eq_true, decide_eq_true_eq]; omega
      have a4 : mulOk (mu m) (gI r (n / m - 1)) = true := by
        have := mu_small m
        unfold mulOk; simp only [Bool.or_eq_true, decide_eq_true_eq]; exact .inl (by omega)
      unfold compStep
      show ((eBin false .Mult (eOwn false (frame c__law_sign) (eCons (eVar 11) (eNil))) (eGet (eVar 2) (eBin false .Sub (eBin false .FloorDiv (eVar 5) (eVar 11)) (eC (.int 1))))) (List.set (wipeR ρ [11]) 11 (some (.int m))) S).bind _ = _
      have w1 : (eBin false .FloorDiv (eVar 5) (eVar 11)) (List.set (wipeR ρ [11]) 11 (some (.int m))) S = .ok (.int (n / m)) S := (eBin_ok (var_ok ((q1 5 (by decide)).trans hn)) (var_ok q2) (r := .d (.int (n / m))) (by simp [binD, a3])).trans rfl
      have w2 : (eGet (eVar 2) (eBin false .Sub (eBin false .FloorDiv (eVar 5) (eVar 11)) (eC (.int 1)))) (List.set (wipeR ρ [11]) 11 (some (.int m))) S = .ok (.int (gI r (n / m - 1))) S :=
        eGet_ok (var_ok ((q1 2 (by decide)).trans hj)) ((eBin_ok w1 (e := .int 1) (S2 := S) rfl (r := .d (.int (n / m - 1))) rfl).trans rfl) (by rw [getD_of rfl]; exact atI_ints (by omega) (by omega))
      rw [eBin_ok ((eOwn_ok (one_ok (var_ok q2)) q3).trans rfl) w2 (r := .d (.int (mu m * gI r (n / m - 1)))) (by simp [binD, mulD, a4])]
      rfl)
  exact (eBlt_ok (one_ok (f3.trans (by rw [sums_map]; rfl))) (bSum_of rfl)).trans rfl
end K91
namespace K91
open PySem L2 DI
theorem sum_bound {α : Type} {f : α → Int} {B : Nat} : ∀ {l : List α}, (∀ x ∈ l, (f x).natAbs ≤ B) → ((l.map f).sum).natAbs ≤ l.length * B
  | [], _ => by simp
  | x :: r, h => by
    have h1 := h x List.mem_cons_self
    have h2 := sum_bound fun y hy => h y (List.mem_cons_of_mem x hy)
    rw [List.map_cons, List.sum_cons, List.length_cons, Nat.add_mul]
    omega
theorem divI_len {n : Int} : (divI n).length ≤ n.toNat := by
  unfold divI divs
  rw [List.length_map]
  refine Nat.le_trans (List.length_filter_le _ _) ?_
  rw [List.length_range]; exact Nat.le_refl _
theorem due_small {r : List Int} (h : RowOk r) (h60 : r.length ≤ 60) : ∀ v ∈ dueL r, v.natAbs < T40 := fun v hv => by
  obtain ⟨n, hn, rfl⟩ := List.mem_map.mp hv
  have hm := mem_rngI.mp hn
  have h1 := sum_bound (l := divI n) (f := fun d => gI r (d - 1)) fun d _ => gI_small h (d - 1)
  have h2 := divI_len (n := n)
  have h3 : (divI n).length * 1000000000000 ≤ 60 * 1000000000000 := Nat.mul_le_mul_right _ (by omega)
  unfold T40
  omega
theorem mul_bound {a b : Int} {B : Nat} (h1 : a.natAbs ≤ 1) (h2 : b.natAbs ≤ B) : (a * b).natAbs ≤ B := by
  rw [Int.natAbs_mul]
  calc a.natAbs * b.natAbs ≤ 1 * B := Nat.mul_le_mul h1 h2
    _ = B := Nat.one_mul B
theorem back_small {r : List Int} (h : RowOk r) (h60 : r.length ≤ 60) : ∀ v ∈ backL r, v.natAbs < T40 := fun v hv => by
  unfold backL prodL at hv
  rw [signs_len] at hv
  obtain ⟨n, hn, rfl⟩ := List.mem_map.mp hv
  have hm := mem_rngI.mp hn
  rw [conv_signs r (by omega)]
  have h1 := sum_bound (l := divI n) (f := fun d => mu d * gI r (n / d - 1)) fun d _ => mul_bound (mu_small d) (gI_small h _)
  have h2 := divI_len (n := n)
  have h3 : (divI n).length * 1000000000000 ≤ 60 * 1000000000000 := Nat.mul_le_mul_right _ (by omega)
  unfold T40
  omega
theorem toP_two {S : Store} {d e : D} {p q : PyData} (h : d.toP S = some p) (g : e.toP S = some q) : (D.lst [d, e]).toP S = some (.list [p, q]) := by
  unfold D.toP
  simp [toPs, h, g]
theorem two_repr {S : Store} {d e : D} {xs : List Int} (h : d.toP S = some (.list (xs.map .int))) (g : e.toP S = some (.list (xs.map .int))) (hs : ∀ v ∈ xs, v.natAbs < T40) (hl : xs.length ≤ 60) : reprD S (.lst [d, e]) = some (PyData.list [.list (xs.map .int), .list (xs.map .int)]).shown := by
  obtain ⟨s1, s2, s3⟩ := small_ints hs (by omega)
  exact reprD_of (toP_two h g) (small_two s1 s1 s2 s2 (by omega) (by omega))
theorem right_ok (a b : Int) (ha : 0 ≤ a) : ∃ a' b', 0 ≤ a' ∧ c__law_right [.cel 0] [pot a b] = .ok (.d (.bl true)) [pot a' b'] := by
  obtain ⟨l, a1, b1, ha1, hl1, hl2, e1⟩ := seven_ok a b ha
  obtain ⟨r, a2, b2, ha2, hrl, hrv, e2⟩ := row_ok a1 b1 l true ha1 (by omega)
  obtain ⟨o, a3, b3, ha3, hol, hov, e3⟩ := row_ok a2 b2 l false ha2 (by omega)
  have hr : RowOk r := ⟨by omega, by omega, by simpa using hrv⟩
  have hov : ∀ v ∈ o, v.natAbs ≤ 9 := by simpa using hov
  have ho : RowOk o := ⟨by omega, by omega, fun v hv => by have := hov v hv; omega⟩
  have h60 : r.length ≤ 60 := by omega
  refine ⟨a3, b3, ha3, ?_⟩
  have f2 : ∀ T, frame c__law_row [.cel 0, .int l, .bl true] (pot a1 b1 :: T) = .ok (.new (r.map .int)) (pot a2 b2 :: T) := fun T => (frame1 rfl rfl rfl rfl e2 (backR_ints _) rfl).trans rfl
  have f3 : ∀ T, frame c__law_row [.cel 0, .int l, .bl false] (pot a2 b2 :: T) = .ok (.new (o.map .int)) (pot a3 b3 :: T) := fun T => (frame1 rfl rfl rfl rfl e3 (backR_ints _) rfl).trans rfl
  -- the row's text
  obtain ⟨sr, wr, _⟩ := small_ints (ns := r) (fun v hv => by have := hr.2.2 v hv; unfold T40; omega) (by omega)
  have t1 : ∀ S, reprD S (.lst (r.map .int)) = some (PyData.list (r.map .int)).shown := fun S => reprD_of (toP_lst S r) sr
  generalize (PyData.list (r.map .int)).shown = txt at t1
  -- calls
  have g1 : ∀ S, frame c_summed [.lst (r.map .int)] S = .ok (.new ((dueL r).map .int)) S := fun S => frame0 rfl (by rw [List.all_cons, flat_ints]; rfl) (by rw [← sums_due]; exact summed_ok (.lst _) hr) (backR_ints _)
  have g2 : ∀ S, frame c_summed [.tup (r.map .int)] S = .ok (.new ((dueL r).map .int)) S := fun S => frame0 rfl (by rw [List.all_cons]; simp [flat, D.low, lowL_ints]) (by rw [← sums_due]; exact summed_ok (.tup _) hr) (backR_ints _)
  have g3 : ∀ S, frame c_taken_back [.lst (r.map .int)] S = .ok (.new ((backL r).map .int)) S := fun S => frame0 rfl (by rw [List.all_cons, flat_ints]; rfl) (back_ok (.lst _) hr) (backR_ints _)
  have g4 : ∀ S, frame c_taken_back [.tup (r.map .int)] S = .ok (.new ((backL r).map .int)) S := fun S => frame0 rfl (by rw [List.all_cons]; simp [flat, D.low, lowL_ints]) (back_ok (.tup _) hr) (backR_ints _)
  have g5 : (∀ v ∈ backL r, v.natAbs ≤ 1000000000000) → ∀ S, frame c_summed [.lst ((backL r).map .int)] S = .ok (.new (r.map .int)) S := fun hb S => frame0 rfl (by rw [List.all_cons, flat_ints]; rfl) (by
    have := summed_ok (.lst _) (r := backL r) ⟨by rw [backL_len]; omega, by rw [backL_len]; omega, hb⟩
    rw [sums_back r h60] at this
    exact this) (backR_ints _)
  have g6 : (∀ v ∈ dueL r, v.natAbs ≤ 1000000000000) → ∀ p x, frame c_taken_back [.cel 1] [p, some (.lst ((dueL r).map .int)), x] = .ok (.new (r.map .int)) [p, some (.lst ((dueL r).map .int)), x] := fun hb p x => by
    have := back_ok (.cel _) (r := dueL r) ⟨by rw [dueL_len]; omega, by rw [dueL_len]; omega, hb⟩
    rw [back_due r h60] at this
    exact (frame1 rfl (lowC_ints _ _) rfl rfl this (backR_ints _) (lowC_ints _ _)).trans rfl
  have hboth : RowOk (List.zipWith (fun x y => x / 2 + y) r o) := ⟨by rw [List.length_zipWith]; omega, by rw [List.length_zipWith]; omega, fun v hv => by
    obtain ⟨i, hi, rfl⟩ := List.getElem_of_mem hv
    rw [List.getElem_zipWith]
    rw [List.length_zipWith] at hi
    have := hr.2.2 _ (List.getElem_mem (l := r) (n := i) (by omega))
    have := hov _ (List.getElem_mem (l := o) (n := i) (by omega))
    omega⟩
  have hhalf : RowOk (r.map (· / 2)) := ⟨by rw [List.length_map]; omega, by rw [List.length_map]; omega, fun v hv => by
    obtain ⟨x, hx, rfl⟩ := List.mem_map.mp hv
    have := hr.2.2 x hx
    show (x / 2).natAbs ≤ _
    omega⟩
  have g7 : ∀ S, frame c_summed [.lst ((List.zipWith (fun x y => x / 2 + y) r o).map .int)] S = .ok (.new ((List.zipWith (· + ·) (sumsL (r.map (· / 2))) (sumsL o)).map .int)) S := fun S => frame0 rfl (by rw [List.all_cons, flat_ints]; rfl) (by
    have := summed_ok (.lst _) hboth
    rw [sums_both r o (by omega)] at this
    exact this) (backR_ints _)
  have g8 : ∀ S, frame c_summed [.lst ((r.map (· / 2)).map .int)] S = .ok (.new ((sumsL (r.map (· / 2))).map .int)) S := fun S => frame0 rfl (by rw [List.all_cons, flat_ints]; rfl) (summed_ok (.lst _) hhalf) (backR_ints _)
  have g9 : ∀ S, frame c_summed [.lst (o.map .int)] S = .ok (.new ((sumsL o).map .int)) S := fun S => frame0 rfl (by rw [List.all_cons, flat_ints]; rfl) (summed_ok (.lst _) ho) (backR_ints _)
  have hones : RowOk (ones l) := ⟨by simp [ones]; omega, by simp [ones]; omega, fun v hv => by rw [(List.mem_replicate.mp hv).2]; decide⟩
  have g10 : ∀ S, frame c_summed [.lst ((ones l).map .int)] S = .ok (.new (((rngI 1 (l + 1)).map fun n => ((divI n).length : Int)).map .int)) S := fun S => frame0 rfl (by rw [List.all_cons, flat_ints]; rfl) (by
    have := summed_ok (.lst _) hones
    rw [sums_ones] at this
    exact this) (backR_ints _)
  have hd1 := due_small hr h60
  have hd2 := dueL_len r
  have hb1 := back_small hr h60
  have hb2 := backL_len r
  have hgd : ∀ n : Int, 1 ≤ n → n ≤ l → gI (dueL r) (n - 1) = ((divI n).map fun d => gI r (d - 1)).sum := fun n h1 h2 => gI_due r h1 (by omega)
  have hgb : ∀ n : Int, 1 ≤ n → n ≤ l → gI (backL r) (n - 1) = ((divI n).map fun d => mu d * gI r (n / d - 1)).sum := fun n h1 h2 => gI_back r h1 (by omega)
  have hbs : ∀ n : Int, 1 ≤ n → n ≤ l → ((divI n).map fun d => gI (backL r) (d - 1)).sum = gI r (n - 1) := fun n h1 h2 => back_sum r h1 (by omega) h60
  have hdt : ∀ i : Nat, i < l → ((dueL r).take (i + 1)) = (dueL r).take i ++ [gI (dueL r) (i : Int)] := fun i hi => by
    rw [List.take_add_one]
    unfold gI
    rw [Int.toNat_natCast, List.getElem?_eq_getElem (by omega : i < (dueL r).length)]
    rfl
  have hdl : (dueL r).take l = dueL r := List.take_of_length_le (by omega)
  generalize dueL r = due at *
  generalize backL r = back at *
  refine runF_rt (d := .bl true) (S1 := [pot a3 b3, some (.lst (due.map .int)), some (.lst (due.map .int ++ [.non]))]) rfl ?_ rfl
  have rngL_ok : ∀ (ρ : Rho) S, ρ[1]? = some (some (.int l)) → wRng2 (eC (.int 1)) (eBin false .Add (eVar 1) (eC (.int 1))) ρ S = .ok ⟨[], rngL 1 (l + 1)⟩ S := fun ρ S h => by
    refine wRng2_small (a := 1) (b := l + 1) (S1 := S) rfl ?_ (by omega) (by omega) (by omega) (by omega)
    exact (eBin_ok (var_ok h) (e := .int 1) (S2 := S) rfl (r := .d (.int (l + 1))) rfl).trans rfl
  unfold b__law_right
  show sSeq _ _ [some (.cel 0), none, none, none, none, none, none, none, none, none, none, none, none, none] [pot a b] = _
  refine (asg_nx (d := .int l) (S1 := [pot a1 b1]) (e1 _ rfl)).trans ?_
  refine (asg_nx (d := .lst (r.map .int)) (S1 := [pot a2 b2]) ((eOwn_ok (cons_ok (var_ok rfl) (two_ok (var_ok rfl) rfl)) (f2 [])).trans rfl)).trans ?_
  refine (par_nx (ds := [.str txt, .cel 1]) (S1 := [pot a2 b2, some (.lst [])]) (two_ok (repr_ok (one_ok (var_ok rfl)) (t1 _)) rfl) (ρ1 := [some (.cel 0), some (.int l), some (.lst (r.map .int)), some (.str txt), some (.cel 1), none, none, none, none, none, none, none, none, none]) (S2 := [pot a2 b2, some (.lst [])]) rfl).trans ?_
  refine (seq_nx (sFor_rng (v := none) (fun i => ([some (.cel 0), some (.int l), some (.lst (r.map .int)), some (.str txt), some (.cel 1), none, none, none, none, none, none, none, none, none], [pot a2 b2, some (.lst ((due.take i).map .int))])) (rngL_ok _ _ rfl) ⟨rfl, rfl⟩ (by omega) (fun i hi => ?_))).trans ?_
  · have hs := sumdiv_ok (ρ := [some (.cel 0), some (.int l), some (.lst (r.map .int)), some (.str txt), some (.cel 1), some (.int (1 + i)), none, none, none, none, none, none, none, none]) (S := [pot a2 b2, some (.lst ((due.take i).map .int))]) (r := r) (n := 1 + i) (j := 2) rfl (by decide) rfl rfl (by omega) (by omega) h60
    refine (app_nx (n := 1) (S1 := [pot a2 b2, some (.lst ((due.take i).map .int))]) (var_ok rfl) (xs := (due.take i).map .int) rfl hs rfl (by rw [List.length_map, List.length_take]; unfold LINE; omega)).trans ?_
    have e := hdt i (by omega)
    have e2 := hgd (1 + i) (by omega) (by omega)
    have e3 : (1 + (i : Int) - 1) = i := by omega
    rw [e3] at e2
    rw [e, e2, List.map_append]
    rfl
  have hn : ((l : Int) + 1 - 1).toNat = l := by omega
  have hn2 : (l : Int) + 1 - 1 = l := by omega
  rw [hn, hn2, hdl]
  show sSeq _ _ [some (.cel 0), some (.int l), some (.lst (r.map .int)), some (.str txt), some (.cel 1), some (.int l), none, none, none, none, none, none, none, none] [pot a2 b2, some (.lst (due.map .int))] = _
  refine (asg_nx (d := .cel 2) (S1 := [pot a2 b2, some (.lst (due.map .int)), some (.lst (due.map .int))]) ((eOwn_ok (one_ok (var_ok rfl)) (g1 _)).trans rfl)).trans ?_
  -- repr([told, ..]) is repr([due, due])
  refine (if_nx (S1 := [pot a2 b2, some (.lst (due.map .int)), some (.lst (due.map .int))]) ?_).trans ?_
  · refine tVal_ok (eCmp_ok (repr_ok (one_ok ((lst_ok (two_ok (var_ok rfl) ((eOwnK_ok (ds := []) (S1 := [pot a2 b2, some (.lst (due.map .int)), some (.lst (due.map .int))]) rfl (one_ok ((eBlt_ok (one_ok (var_ok rfl)) (r := .d (.tup (r.map .int))) rfl).trans rfl)) ⟨rfl, rfl⟩ (g2 _)).trans rfl)) (by simp)).trans rfl)) (two_repr (xs := due) (toP_cel rfl) (toP_lst _ _) hd1 (by omega))) (repr_ok (one_ok ((lst_ok (two_ok (var_ok rfl) (var_ok rfl)) (by simp)).trans rfl)) (two_repr (xs := due) (toP_cel rfl) (toP_cel rfl) hd1 (by omega))) ?_)
    rw [cmp_ne eqvD_strs]
    simp
  refine (app_nx (n := 2) (d := .non) (S1 := [pot a2 b2, some (.lst (due.map .int)), some (.lst (due.map .int))]) (S2 := [pot a2 b2, some (.lst (due.map .int)), some (.lst (due.map .int))]) (var_ok rfl) (xs := due.map .int) rfl rfl rfl (by rw [List.length_map]; unfold LINE; omega)).trans ?_
  show sSeq _ _ _ [pot a2 b2, some (.lst (due.map .int)), some (.lst (due.map .int ++ [.non]))] = _
  refine (asg_nx (d := .lst (back.map .int)) (S1 := [pot a2 b2, some (.lst (due.map .int)), some (.lst (due.map .int ++ [.non]))]) ((eOwn_ok (one_ok (var_ok rfl)) (g3 _)).trans rfl)).trans ?_
  obtain ⟨sb, _, _⟩ := small_ints (ns := back) hb1 (by omega)
  refine (if_nx (S1 := [pot a2 b2, some (.lst (due.map .int)), some (.lst (due.map .int ++ [.non]))]) (tOr_f (S1 := [pot a2 b2, some (.lst (due.map .int)), some (.lst (due.map .int ++ [.non]))]) ?_ ?_)).trans ?_
  · refine tVal_ok (eCmp_ok (repr_ok (one_ok ((eOwnK_ok (ds := []) (S1 := [pot a2 b2, some (.lst (due.map .int)), some (.lst (due.map .int ++ [.non]))]) rfl (one_ok ((eBlt_ok (one_ok (var_ok rfl)) (r := .d (.tup (r.map .int))) rfl).trans rfl)) ⟨rfl, rfl⟩ (g4 _)).trans rfl)) (reprD_of (toP_lst _ _) sb)) (repr_ok (one_ok (var_ok rfl)) (reprD_of (toP_lst _ _) sb)) ?_)
    rw [cmp_ne eqvD_strs]
    simp
  · refine tVal_ok (eCmp_ok ((eBlt_ok (one_ok (var_ok rfl)) (bLen_of (xs := back.map .int) rfl)).trans rfl) (var_ok rfl) ?_)
    rw [cmp_ne eqvD_ints, List.length_map, hb2, hrl]
    simp
  simp only [List.set_cons_succ, List.set_cons_zero]
  generalize hT : some (Cell.lst (due.map .int ++ [.non])) = T
  refine (seq_nx (S1 := [pot a2 b2, some (.lst (due.map .int)), T]) (ρ1 := [some (.cel 0), some (.int l), some (.lst (r.map .int)), some (.str txt), some (.cel 1), some (.int l), some (.cel 2), some (.lst (back.map .int)), none, none, none, none, none, none]) ?_).trans ?_
  · have key := sFor_rng (j := 5) (v := some (.int l)) (S := [pot a2 b2, some (.lst (due.map .int)), T]) (fun _ => ([some (.cel 0), some (.int l), some (.lst (r.map .int)), some (.str txt), some (.cel 1), none, some (.cel 2), some (.lst (back.map .int)), none, none, none, none, none, none], [pot a2 b2, some (.lst (due.map .int)), T])) (rngL_ok [some (.cel 0), some (.int l), some (.lst (r.map .int)), some (.str txt), some (.cel 1), some (.int l), some (.cel 2), some (.lst (back.map .int)), none, none, none, none, none, none] _ rfl) ⟨rfl, rfl⟩ (by omega) (b := (sSeq (sIf (tVal (eCmp .NotEq (eBlt false bSum (eCons (eComp false (wSeq (eOwn false (frame c__law_divisors) (eCons (eVar 5) (eNil)))) [11] (.one 11) (tYesE) (eGet (eVar 7) (eBin false .Sub (eVar 11) (eC (.int 1))))) (eNil))) (eGet (eVar 2) (eBin false .Sub (eVar 5) (eC (.int 1)))))) (sSeq (sRet (eC (.bl false))) (sNext)) (sNext)) (sSeq (sIf (tVal (eCmp .NotEq (eGet (eVar 7) (eBin false .Sub (eVar 5) (eC (.int 1)))) (eBlt false bSum (eCons (eComp false (wSeq (eOwn false (frame c__law_divisors) (eCons (eVar 5) (eNil)))) [11] (.one 11) (tYesE) (eBin false .Mult (eOwn false (frame c__law_sign) (eCons (eVar 11) (eNil))) (eGet (eVar 2) (eBin false .Sub (eBin false .FloorDiv (eVar 5) (eVar 11)) (eC (.int 1)))))) (eNil))))) (sSeq (sRet (eC (.bl false))) (sNext)) (sNext)) (sNext)))) (fun i hi => ?_)
    · rw [hn2] at key
      exact key
    · have hs1 := sumdiv_ok (ρ := [some (.cel 0), some (.int l), some (.lst (r.map .int)), some (.str txt), some (.cel 1), some (.int (1 + i)), some (.cel 2), some (.lst (back.map .int)), none, none, none, none, none, none]) (S := [pot a2 b2, some (.lst (due.map .int)), T]) (r := back) (n := 1 + i) (j := 7) rfl (by decide) rfl rfl (by omega) (by omega) (by omega)
      have hs2 := sumsign_ok (ρ := [some (.cel 0), some (.int l), some (.lst (r.map .int)), some (.str txt), some (.cel 1), some (.int (1 + i)), some (.cel 2), some (.lst (back.map .int)), none, none, none, none, none, none]) (S := [pot a2 b2, some (.lst (due.map .int)), T]) (r := r) (n := 1 + i) rfl rfl rfl (by omega) (by omega) (by omega)
      have c1 := hbs (1 + i) (by omega) (by omega)
      have c2 := hgb (1 + i) (by omega) (by omega)
      rw [c1] at hs1
      rw [← c2] at hs2
      have ix : ∀ (xs : List Int) (j : Nat), xs.length = l → ([some (.cel 0), some (.int l), some (.lst (r.map .int)), some (.str txt), some (.cel 1), some (.int (1 + i)), some (.cel 2), some (.lst (back.map .int)), none, none, none, none, none, none] : Rho)[j]? = some (some (.lst (xs.map .int))) →
          eGet (eVar j) (eBin false .Sub (eVar 5) (eC (.int 1))) [some (.cel 0), some (.int l), some (.lst (r.map .int)), some (.str txt), some (.cel 1), some (.int (1 + i)), some (.cel 2), some (.lst (back.map .int)), none, none, none, none, none, none] [pot a2 b2, some (.lst (due.map .int)), T] = .ok (.int (gI xs (1 + i - 1))) [pot a2 b2, some (.lst (due.map .int)), T] := fun xs j hx hj =>
        eGet_ok (var_ok hj) ((eBin_ok (d := .int (1 + i)) (var_ok rfl) (e := .int 1) (S2 := [pot a2 b2, some (.lst (due.map .int)), T]) rfl (r := .d (.int (1 + i - 1))) rfl).trans rfl) (by rw [getD_of rfl]; exact atI_ints (by omega) (by omega))
      refine (if_nx (S1 := [pot a2 b2, some (.lst (due.map .int)), T]) (tVal_ok (eCmp_ok hs1 (ix r 2 hrl rfl) ?_))).trans ?_
      · rw [cmp_ne eqvD_ints]; simp
      refine (if_nx (S1 := [pot a2 b2, some (.lst (due.map .int)), T]) (tVal_ok (eCmp_ok (ix back 7 (by omega) rfl) hs2 ?_))).trans ?_
      · rw [cmp_ne eqvD_ints]; simp
      rfl
  -- the row again, from its sums; from the row taken back
  have hne : back ≠ [] := fun z => by rw [z] at hb2; simp at hb2; omega
  have hned : due ≠ [] := fun z => by rw [z] at hd2; simp at hd2; omega
  obtain ⟨m1, hm1, q1⟩ := most_ok (ρ := [some (.cel 0), some (.int l), some (.lst (r.map .int)), some (.str txt), some (.cel 1), some (.int l), some (.cel 2), some (.lst (back.map .int)), none, none, none, none, none, none]) (S := [pot a2 b2, some (.lst (due.map .int)), T]) (r := back) (d := .lst (back.map .int)) (j := 7) rfl rfl rfl rfl hne
  refine (if_nx (S1 := [pot a2 b2, some (.lst (due.map .int)), T]) ?_).trans ?_
  · cases m1 with
    | false => exact tAnd_f q1
    | true =>
      refine tAnd_t q1 (tVal_ok (eCmp_ok ((eOwn_ok (one_ok (var_ok rfl)) (g5 (hm1 rfl) _)).trans rfl) (var_ok rfl) ?_))
      rw [cmp_ne (eqvD_lists (toP_lst _ _) (toP_lst _ _))]; simp
  obtain ⟨m2, hm2, q2⟩ := most_ok (ρ := [some (.cel 0), some (.int l), some (.lst (r.map .int)), some (.str txt), some (.cel 1), some (.int l), some (.cel 2), some (.lst (back.map .int)), none, none, none, none, none, none]) (S := [pot a2 b2, some (.lst (due.map .int)), T]) (r := due) (d := .cel 1) (j := 4) rfl rfl (by
    show (sameL (due.map D.int) (due.map .int) && true) = true
    rw [sameL_self]; rfl) rfl hned
  refine (if_nx (S1 := [pot a2 b2, some (.lst (due.map .int)), T]) ?_).trans ?_
  · cases m2 with
    | false => exact tAnd_f q2
    | true =>
      refine tAnd_t q2 (tVal_ok (eCmp_ok ((eOwn_ok (one_ok (var_ok rfl)) (g6 (hm2 rfl) _ _)).trans rfl) (var_ok rfl) ?_))
      rw [cmp_ne (eqvD_lists (toP_lst _ _) (toP_lst _ _))]; simp
  -- another row
  refine (asg_nx (d := .lst (o.map .int)) (S1 := [pot a3 b3, some (.lst (due.map .int)), T]) ((eOwn_ok (cons_ok (var_ok rfl) (two_ok (var_ok rfl) rfl)) (f3 _)).trans rfl)).trans ?_
  simp only [List.set_cons_succ, List.set_cons_zero]
  have k2 : divOk 2 = true := rfl
  refine (asg_nx (d := .lst ((List.zipWith (fun x y => x / 2 + y) r o).map .int)) (S1 := [pot a3 b3, some (.lst (due.map .int)), T]) ((eComp_zip (rs := r) (os := o) (fun x y => x / 2 + y) (wZip_ok (d := .lst (r.map .int)) (e := .lst (o.map .int)) (S1 := [pot a3 b3, some (.lst (due.map .int)), T]) (var_ok rfl) (var_ok rfl) rfl rfl) rfl (fun x y hx hy => by
    simp [compStep, DI.bindC, bindMany, wipeR, tYesE, O.bind, eBin, eVar, eC, binD, k2, ofRes, DI.settle, addD])).trans rfl)).trans ?_
  simp only [List.set_cons_succ, List.set_cons_zero]
  refine (asg_nx (d := .lst ((r.map (· / 2)).map .int)) (S1 := [pot a3 b3, some (.lst (due.map .int)), T]) ((eComp_ints (ns := r) (fun x => .int (x / 2)) (wSeq_ok (d := .lst (r.map .int)) (var_ok rfl) rfl) rfl (fun x hx => by
    simp [compStep, DI.bindC, wipeR, tYesE, O.bind, eBin, eVar, eC, binD, k2, ofRes, DI.settle])).trans (by rw [sums_map]; rfl))).trans ?_
  simp only [List.set_cons_succ, List.set_cons_zero]
  refine (if_nx (S1 := [pot a3 b3, some (.lst (due.map .int)), T]) (tVal_ok (eCmp_ok ((eOwn_ok (one_ok (var_ok rfl)) (g7 _)).trans rfl) ((eComp_zip (rs := sumsL (r.map (· / 2))) (os := sumsL o) (· + ·) (wZip_ok (d := .lst ((sumsL (r.map (· / 2))).map .int)) (e := .lst ((sumsL o).map .int)) (S1 := [pot a3 b3, some (.lst (due.map .int)), T]) ((eOwn_ok (one_ok (var_ok rfl)) (g8 _)).trans rfl) ((eOwn_ok (one_ok (var_ok rfl)) (g9 _)).trans rfl) rfl rfl) rfl (fun x y hx hy => by
    simp [compStep, DI.bindC, bindMany, wipeR, tYesE, O.bind, eBin, eVar, eC, binD, ofRes, DI.settle, addD])).trans rfl) ?_))).trans ?_
  · rw [cmp_ne (eqvD_lists (toP_lst _ _) (toP_lst _ _))]; simp
  refine ret_rt (eAnd_t (S1 := [pot a3 b3, some (.lst (due.map .int)), T]) (eCmp_ok (d := .lst (((rngI 1 (l + 1)).map fun n => ((divI n).length : Int)).map .int)) (S1 := [pot a3 b3, some (.lst (due.map .int)), T]) ?_ (e := .lst (((rngI 1 (l + 1)).map fun n => ((divI n).length : Int)).map .int)) ?_ ?_) (eCmp_ok (repr_ok (one_ok (var_ok rfl)) (t1 _)) (var_ok rfl) ?_))
  · refine (eOwn_ok (one_ok ((eBin_ok (d := .lst [.int 1]) (S1 := [pot a3 b3, some (.lst (due.map .int)), T]) rfl (var_ok rfl) (mul_rep (v := 1) (k := l) (by omega) (by omega))).trans rfl)) (g10 _)).trans rfl
  · refine (eComp_ints (ns := rngI 1 (l + 1)) (fun n => .int ((divI n).length : Int)) (by rw [← rngL_ints]; exact rngL_ok _ _ rfl) rfl (fun n hn => ?_)).trans (by rw [sums_map]; rfl)
    have hm := mem_rngI.mp hn
    have e : frame c__law_divisors [.int n] [pot a3 b3, some (.lst (due.map .int)), T] = .ok (.new ((divI n).map .int)) [pot a3 b3, some (.lst (due.map .int)), T] := frame0 rfl rfl (ldiv_ok (by omega) (by omega)) (backR_ints _)
    have e4 : bLen [pot a3 b3, some (.lst (due.map .int)), T] [.lst ((divI n).map .int)] = some (.d (.int (divI n).length)) := by rw [bLen_of rfl, List.length_map]
    simp [compStep, DI.bindC, wipeR, tYesE, O.bind, eBlt, eOwn, eCons, eVar, eNil, e, O.calm, DI.settle, ofRes, e4]
  · rw [cmp_eq (eqvD_lists (toP_lst _ _) (toP_lst _ _))]; simp
  · rw [cmp_eq eqvD_strs]; simp
end K91
namespace K91
open PySem L2 DI
def Good (S : Store) : Prop := ∀ (i : Nat) c, S[i]? = some c → ∃ a b, 0 ≤ a ∧ c = pot a b
theorem Good.add {S : Store} (h : Good S) {a b : Int} (ha : 0 ≤ a) : Good (S ++ [pot a b]) := fun i c e => by
  by_cases hi : i < S.length
  · rw [List.getElem?_append_left hi] at e; exact h i c e
  · rw [List.getElem?_append_right (by omega)] at e
    cases hj : i - S.length with
    | zero => rw [hj] at e; cases e; exact ⟨a, b, ha, rfl⟩
    | succ j => rw [hj] at e; simp at e
theorem Good.set {S : Store} (h : Good S) {a b : Int} (ha : 0 ≤ a) (n : Nat) : Good (S.set n (pot a b)) := fun i c e => by
  by_cases hi : n = i
  · subst hi
    by_cases hl : n < S.length
    · rw [List.getElem?_set_self hl] at e; cases e; exact ⟨a, b, ha, rfl⟩
    · rw [List.getElem?_eq_none (by simpa using hl)] at e; cases e
  · rw [List.getElem?_set_ne hi] at e; exact h i c e
theorem pots_all {ns : List Int} : ∀ (xs acc : List D) (S : Store), (∀ x ∈ xs, ∃ k : Int, 0 ≤ k ∧ x = .int k) → Good S →
    ∃ S', compL (compStep [2] (.one 2) tYesE (eOwn true (frame c__law_pot) (eCons (eVar 0) (eCons (eVar 2) (eNil)))) [some (.scr ns), none, none, none]) [] xs acc S = .ok (acc ++ (List.range' S.length xs.length).map .cel) S' ∧ Good S' ∧ S'.length = S.length + xs.length
  | [], acc, S, _, hS => ⟨S, by unfold compL; rw [keepSrc_ok rfl]; simp, hS, rfl⟩
  | x :: r, acc, S, h, hS => by
    obtain ⟨k, hk, rfl⟩ := h x List.mem_cons_self
    obtain ⟨a, b, ha, e⟩ := pot_ok ns k hk
    have e1 : frame c__law_pot [.scr ns, .int k] S = .ok (.new [.int a, .int b]) S := frame0 rfl rfl e rfl
    have e2 : compStep [2] (.one 2) tYesE (eOwn true (frame c__law_pot) (eCons (eVar 0) (eCons (eVar 2) (eNil)))) [some (.scr ns), none, none, none] (.int k) S = .ok (some (.cel S.length)) (S ++ [pot a b]) := by
      simp [compStep, DI.bindC, wipeR, tYesE, O.bind, eOwn, eCons, eVar, eNil, e1, O.calm, DI.settle, pot]
    obtain ⟨S', e3, h1, h2⟩ := pots_all (ns := ns) r (acc ++ [.cel S.length]) (S ++ [pot a b]) (fun y hy => h y (List.mem_cons_of_mem _ hy)) (hS.add ha)
    refine ⟨S', ?_, h1, by rw [h2, List.length_append]; simp; omega⟩
    unfold compL
    rw [keepSrc_ok rfl, e2]
    show compL _ [] r (acc ++ [.cel S.length]) (S ++ [pot a b]) = _
    rw [e3, List.length_append, List.length_singleton, List.length_cons, List.range'_succ]
    simp
theorem law_true (ns : List Int) (h : ns.length ≤ 63) : ∃ S', c_law [.scr ns] [] = .ok (.d (.bl true)) S' := by
  obtain ⟨m, hm1, hm2, hm⟩ : ∃ m : Nat, 1 ≤ m ∧ m ≤ 2 ∧ eBlt false bMax (eCons (eC (.int 1)) (eCons (eBlt false bMin (eCons (eC (.int 2)) (eCons (eBlt false bLen (eCons (eVar 0) (eNil))) (eNil)))) (eNil))) [some (.scr ns), none, none, none] [] = .ok (.int m) [] := by
    have e1 : bLen [] [.scr ns] = some (.d (.int ns.length)) := by rw [bLen_of rfl, List.length_map]
    refine ⟨if ns.length < 2 then (if ns.length > 1 then ns.length else 1) else 2, ?_, ?_, ?_⟩
    · split
      · split <;> omega
      · omega
    · split
      · split <;> omega
      · omega
    · simp [eBlt, eCons, eC, eVar, eNil, O.bind, ofRes, e1, DI.settle, bMin, bMax]
      split <;> split <;> split <;> first | omega | rfl | (split <;> first | omega | rfl)
  have hw := wRng1_ok hm (rngOk_small (by omega) (by omega) (by omega) (by omega))
  obtain ⟨S1, e1, g1, l1⟩ := pots_all (ns := ns) (rngL 0 m) [] [] (fun x hx => by
    rw [rngL_ints] at hx
    obtain ⟨k, hk, rfl⟩ := List.mem_map.mp hx
    exact ⟨k, (mem_rngI.mp hk).1, rfl⟩) (fun i c e => by simp at e)
  have hlen : (rngL 0 (m : Int)).length = m := by rw [rngL_len]; omega
  rw [hlen] at e1 l1
  have l1 : S1.length = m := by simpa using l1
  have e1 : compL (compStep [2] (.one 2) tYesE (eOwn true (frame c__law_pot) (eCons (eVar 0) (eCons (eVar 2) (eNil)))) [some (.scr ns), none, none, none]) [] (rngL 0 m) [] [] = .ok ((List.range' 0 m).map .cel) S1 := e1
  have f1 : eComp false (wRng1 (eBlt false bMax (eCons (eC (.int 1)) (eCons (eBlt false bMin (eCons (eC (.int 2)) (eCons (eBlt false bLen (eCons (eVar 0) (eNil))) (eNil)))) (eNil))))) [2] (.one 2) (tYesE) (eOwn true (frame c__law_pot) (eCons (eVar 0) (eCons (eVar 2) (eNil)))) [some (.scr ns), none, none, none] [] = .ok (.lst ((List.range' 0 m).map .cel)) S1 := by
    unfold eComp
    rw [hw]
    show (compL _ [] (rngL 0 m) [] []).calm.bind _ = _
    rw [e1]; rfl
  -- each pot
  obtain ⟨ds, S2, e2, q1, q2, g2, l2⟩ := eComp_inv (al := false) (w := wSeq (eVar 1)) (vs := [3]) (c := .one 3) (t := tYesE) (f := eOwn false (frame c__law_right) (eCons (eVar 3) (eNil))) (ρ := [some (.scr ns), some (.lst ((List.range' 0 m).map .cel)), none, none]) (S := S1) (xs := (List.range' 0 m).map .cel) (I := fun S => Good S ∧ S.length = m) (P := fun d => d = .bl true) (wSeq_ok (d := .lst ((List.range' 0 m).map .cel)) (var_ok rfl) rfl) ⟨g1, l1⟩ (fun x hx S ⟨gS, lS⟩ => by
      obtain ⟨i, hi, rfl⟩ := List.mem_map.mp hx
      have hi : i < m := by
        have := List.mem_range'_1.mp hi
        omega
      obtain ⟨c, hc⟩ : ∃ c, S[i]? = some c := ⟨_, List.getElem?_eq_getElem (by omega)⟩
      obtain ⟨a, b, ha, rfl⟩ := gS i c hc
      obtain ⟨a', b', ha', e⟩ := right_ok a b ha
      have e3 : frame c__law_right [.cel i] S = .ok (.d (.bl true)) (S.set i (pot a' b')) := frame1 hc rfl rfl rfl e rfl rfl
      refine ⟨.bl true, S.set i (pot a' b'), ?_, rfl, gS.set ha' i, by rw [List.length_set]; exact lS⟩
      simp [compStep, DI.bindC, wipeR, tYesE, O.bind, eOwn, eCons, eVar, eNil, e3, O.calm, DI.settle])
  have hds : ds = (List.replicate ds.length true).map .bl := by
    apply List.ext_getElem?
    intro i
    rw [List.getElem?_map, List.getElem?_replicate]
    by_cases hi : i < ds.length
    · rw [if_pos hi, List.getElem?_eq_getElem hi, q2 _ (List.getElem_mem hi)]; rfl
    · rw [if_neg hi, List.getElem?_eq_none (by omega)]; rfl
  have hall : (List.replicate ds.length true).all id = true := by simp
  obtain ⟨c, hc⟩ : ∃ c, S2[0]? = some c := ⟨_, List.getElem?_eq_getElem (by omega)⟩
  obtain ⟨a, b, ha, rfl⟩ := g2 0 c hc
  obtain ⟨a', b', ha', e⟩ := great_ok a b ha
  have e3 : frame c__law_great_right [.cel 0] S2 = .ok (.d (.bl true)) (S2.set 0 (pot a' b')) := frame1 hc rfl rfl rfl e rfl rfl
  refine ⟨_, runF_rt (d := .bl true) (S1 := S2.set 0 (pot a' b')) rfl ?_ (retF_low rfl)⟩
  unfold b_law
  show sSeq _ _ [some (.scr ns), none, none, none] [] = _
  refine (asg_nx f1).trans (ret_rt (eAnd_t (S1 := S2) ?_ ?_))
  · refine (eBlt_ok (r := .d (.bl true)) (one_ok (e2.trans (by rw [hds]; rfl))) ?_).trans rfl
    rw [bAll_of (ns := List.replicate ds.length true) rfl, hall]
  · refine (eOwn_ok (one_ok (eGet_ok (d := .lst ((List.range' 0 m).map .cel)) (S1 := S2) (var_ok rfl) (e := .int 0) (S2 := S2) rfl (v := .cel 0) ?_)) e3).trans rfl
    rw [getD_of rfl]
    obtain ⟨m', rfl⟩ : ∃ m', m = m' + 1 := ⟨m - 1, by omega⟩
    rw [List.range'_succ]
    simp [atI, ixN]
end K91
end
open PySem PySem.W PyProof.Rows
set_option maxHeartbeats 0 in
theorem PySem.Challenge.cw_clockrests_k91_whole_sums_and_rows_taken_holds : PySem.Challenge.rw_clockrests_k91_whole_sums_and_rows_taken.Holds := by
  w_on; o_law; k_head; (case hw => w_witness2)
  k_fill
  refine DI.walk_D (l := PySem.Challenge.rw_clockrests_k91_whole_sums_and_rows_taken) (n := 63) (k := 7) (x := "script") (c := K91.c_law) (CP := DI.Consts [("MOST_VALUE", 1000000000000)]) (st := K91.t_law) rfl (by decide) rfl ⟨rfl, by decide, by decide⟩ (by decide +kernel) (fun mg h x => DI.consts_of x) (fun w h Y => PySem.W.kIn_of Y) ?F K91.bp_law ?hlaw
  case F =>
    intro w mg h KX G CP base sb
    have z_abs : mg "abs" = none := by
      refine PySem.W.mg_none_of KX G ?a
      (case a => k_is)
    have z_all : mg "all" = none := by
      refine PySem.W.mg_none_of KX G ?a
      (case a => k_is)
    have z_bool : mg "bool" = none := by
      refine PySem.W.mg_none_of KX G ?a
      (case a => k_is)
    have z_divmod : mg "divmod" = none := by
      refine PySem.W.mg_none_of KX G ?a
      (case a => k_is)
    have z_int : mg "int" = none := by
      refine PySem.W.mg_none_of KX G ?a
      (case a => k_is)
    have z_isinstance : mg "isinstance" = none := by
      refine PySem.W.mg_none_of KX G ?a
      (case a => k_is)
    have z_len : mg "len" = none := by
      refine PySem.W.mg_none_of KX G ?a
      (case a => k_is)
    have z_list : mg "list" = none := by
      refine PySem.W.mg_none_of KX G ?a
      (case a => k_is)
    have z_max : mg "max" = none := by
      refine PySem.W.mg_none_of KX G ?a
      (case a => k_is)
    have z_min : mg "min" = none := by
      refine PySem.W.mg_none_of KX G ?a
      (case a => k_is)
    have z_range : mg "range" = none := by
      refine PySem.W.mg_none_of KX G ?a
      (case a => k_is)
    have z_repr : mg "repr" = none := by
      refine PySem.W.mg_none_of KX G ?a
      (case a => k_is)
    have z_sorted : mg "sorted" = none := by
      refine PySem.W.mg_none_of KX G ?a
      (case a => k_is)
    have z_sum : mg "sum" = none := by
      refine PySem.W.mg_none_of KX G ?a
      (case a => k_is)
    have z_tuple : mg "tuple" = none := by
      refine PySem.W.mg_none_of KX G ?a
      (case a => k_is)
    have z_zip : mg "zip" = none := by
      refine PySem.W.mg_none_of KX G ?a
      (case a => k_is)
    have k_MOST_VALUE := DI.const_loose (K := L2.KOf KX) (CP ("MOST_VALUE", 1000000000000) (by decide))
    refine' K91.all_own ⟨z_abs, z_all, z_bool, z_divmod, z_int, z_isinstance, z_len, z_list, z_max, z_min, z_range, z_repr, z_sorted, z_sum, z_tuple, z_zip, (DI.const_int KX G ?g_MOST_LENGTH), k_MOST_VALUE⟩ sb (DI.top_mk KX G ?a0 ?l0 ?c0 ?k0) (DI.top_mk KX G ?a1 ?l1 ?c1 ?k1) (DI.top_mk KX G ?a2 ?l2 ?c2 ?k2) (DI.top_mk KX G ?a3 ?l3 ?c3 ?k3) (DI.top_mk KX G ?a4 ?l4 ?c4 ?k4) (DI.top_mk KX G ?a5 ?l5 ?c5 ?k5) (DI.top_mk KX G ?a6 ?l6 ?c6 ?k6) (DI.top_mk KX G ?a7 ?l7 ?c7 ?k7) (DI.top_mk KX G ?a8 ?l8 ?c8 ?k8) (DI.top_mk KX G ?a9 ?l9 ?c9 ?k9) (DI.top_mk KX G ?a10 ?l10 ?c10 ?k10) (DI.top_mk KX G ?a11 ?l11 ?c11 ?k11) (DI.top_mk KX G ?a12 ?l12 ?c12 ?k12) (DI.top_mk KX G ?a13 ?l13 ?c13 ?k13) (DI.top_mk KX G ?a14 ?l14 ?c14 ?k14) (DI.top_mk KX G ?a15 ?l15 ?c15 ?k15) (DI.top_mk KX G ?a16 ?l16 ?c16 ?k16) (DI.top_mk KX G ?a17 ?l17 ?c17 ?k17) (DI.top_mk KX G ?a18 ?l18 ?c18 ?k18) (DI.top_mk KX G ?a19 ?l19 ?c19 ?k19) (DI.top_mk KX G ?a20 ?l20 ?c20 ?k20) (DI.top_mk KX G ?a21 ?l21 ?c21 ?k21)
    (case g_MOST_LENGTH => k_is)
    (case a0 => k_is); (case l0 => k_is); (case c0 => k_is); (case k0 => k_is)
    (case a1 => k_is); (case l1 => k_is); (case c1 => k_is); (case k1 => k_is)
    (case a2 => k_is); (case l2 => k_is); (case c2 => k_is); (case k2 => k_is)
    (case a3 => k_is); (case l3 => k_is); (case c3 => k_is); (case k3 => k_is)
    (case a4 => k_is); (case l4 => k_is); (case c4 => k_is); (case k4 => k_is)
    (case a5 => k_is); (case l5 => k_is); (case c5 => k_is); (case k5 => k_is)
    (case a6 => k_is); (case l6 => k_is); (case c6 => k_is); (case k6 => k_is)
    (case a7 => k_is); (case l7 => k_is); (case c7 => k_is); (case k7 => k_is)
    (case a8 => k_is); (case l8 => k_is); (case c8 => k_is); (case k8 => k_is)
    (case a9 => k_is); (case l9 => k_is); (case c9 => k_is); (case k9 => k_is)
    (case a10 => k_is); (case l10 => k_is); (case c10 => k_is); (case k10 => k_is)
    (case a11 => k_is); (case l11 => k_is); (case c11 => k_is); (case k11 => k_is)
    (case a12 => k_is); (case l12 => k_is); (case c12 => k_is); (case k12 => k_is)
    (case a13 => k_is); (case l13 => k_is); (case c13 => k_is); (case k13 => k_is)
    (case a14 => k_is); (case l14 => k_is); (case c14 => k_is); (case k14 => k_is)
    (case a15 => k_is); (case l15 => k_is); (case c15 => k_is); (case k15 => k_is)
    (case a16 => k_is); (case l16 => k_is); (case c16 => k_is); (case k16 => k_is)
    (case a17 => k_is); (case l17 => k_is); (case c17 => k_is); (case k17 => k_is)
    (case a18 => k_is); (case l18 => k_is); (case c18 => k_is); (case k18 => k_is)
    (case a19 => k_is); (case l19 => k_is); (case c19 => k_is); (case k19 => k_is)
    (case a20 => k_is); (case l20 => k_is); (case c20 => k_is); (case k20 => k_is)
    (case a21 => k_is); (case l21 => k_is); (case c21 => k_is); (case k21 => k_is)
  case hlaw => exact fun ns h => K91.law_true ns h
