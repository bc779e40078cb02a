import PyProof.Rows.All
import Wide.All
import Wide.FinOn
import Open.Line
import PyProof.P3In
import PyProof.NeData
import PyProof.CompFree
import PyProof.DictRoadsH
import PyProof.DictWalks
import PyProof.Rows.SortShell
import PyProof.Rows.RuleB_xor
import PyProof.Rows.RuleB_small
import PyProof.Rows.RuleB_floordiv
import PyProof.Rows.RuleB_mod
import PyProof.Rows.RuleB_mul
import PyProof.Rows.IntRules
import PyProof.Rows.RuleC_int
import PyProof.Rows.RuleU_int
import PyProof.ListOps
import PyProof.Cells
import PyProof.Calls
import PyProof.SliceMore
import PyProof.TupleOfSeq
import PyProof.ListCopy
import PyProof.CodeObjX
import PyProof.DictStraight
import PyProof.Rows.StrTemp
import PyProof.TupleOps
import PyProof.ListIndexNeg
import PyProof.Rules3
import PyProof.SliceList
import PyProof.Rows.TupSub
import PyProof.ForRange
import PyProof.Rows.DictMade
import PyProof.WalkInts
import PyProof.SeqI3
import PyProof.SumWalkG
import PyProof.WalksMore
import PyProof.IsiPairs
import PyProof.IsiHeapPairs
import PyProof.ListRange
import PyProof.Rows.SortWalk
import PyProof.IsiNone
import PyProof.Rows.SortRuns
import PyProof.Rows.CallKwBuiltin
import PyProof.DefMake
import PyProof.EvalArms
import PyProof.RangeFor
import PyProof.ForAppend
import PyProof.CallRoads
import PyProof.MeetsSeq
import PyProof.AutoSeq1
import PyProof.ForAny
import PyProof.Raises
import PySem.Challenge.RW_uf050037_01
set_option Elab.async false
set_option autoImplicit false
set_option bootstrap.genMatcherCode false
set_option genSizeOf false

namespace Mine
open PySem

inductive Mode where
  | sh | top | deep
  deriving DecidableEq

/-- values of the evaluator: plain data; the two kinds of dict that the programs fill (each value True); an own instance by its fields -/
inductive V where
  | d (x : PyData)
  | inst (fs : List (String × PyData))

inductive Out (α : Type) where
  | ok (a : α)
  | exc (c : String)
  | bad

namespace Out
noncomputable def bind {α β : Type} : Out α → (α → Out β) → Out β
  | .ok a, f => f a
  | .exc c, _ => .exc c
  | .bad, _ => .bad
@[simp] theorem ok_bind {α β : Type} (a : α) (f : α → Out β) : (Out.ok a).bind f = f a := rfl
@[simp] theorem exc_bind {α β : Type} (c : String) (f : α → Out β) : (Out.exc c : Out α).bind f = .exc c := rfl
@[simp] theorem bad_bind {α β : Type} (f : α → Out β) : (Out.bad : Out α).bind f = .bad := rfl
/-- what raises within a comprehension is not served -/
noncomputable def calm {α : Type} : Out α → Out α
  | .ok a => .ok a
  | _ => .bad
@[simp] theorem calm_ok {α : Type} (a : α) : (Out.ok a).calm = .ok a := rfl
theorem bind_ok {α β : Type} {o : Out α} {f : α → Out β} {b : β} (h : o.bind f = .ok b) : ∃ a, o = .ok a ∧ f a = .ok b := by
  cases o with
  | ok a => exact ⟨a, rfl, h⟩
  | exc c => cases h
  | bad => cases h
end Out

inductive BOp where
  | add | sub | mul | fdiv | mod | pow | xor
  deriving DecidableEq
inductive COp where
  | eq | ne | lt | le | gt | ge | isin | notin | is | isnot
  deriving DecidableEq
inductive B1 where
  | len | list | tuple | sorted | max | sum
  deriving DecidableEq
inductive B2 where

mutual
inductive E where
  | name (x : String)
  | int (i : Int)
  | str (s : String)
  | bool (b : Bool)
  | none
  | bin (o : BOp) (a b : E)
  | neg (a : E)
  | not (a : E)
  | cmp (o : COp) (a b : E)
  | and (a b : E)
  | or (a b : E)
  | list (es : Es)
  | tup (es : Es)
  | comp (elt : E) (x : String) (it : It)
  | compif (elt : E) (x : String) (it : It) (c : E)
  | sub (a i : E)
  | rev (a : E)
  | bi1 (f : B1) (a : E)
  | isi (a : E) (t : String)
  | call (f : String) (es : Es)
  | order (x t : String)
inductive Es where
  | nil
  | cons (e : E) (es : Es)
inductive It where
  | e (a : E)
  | r1 (n : E)
  | r2 (a b : E)
end

abbrev St := String → Option (V × Mode)
abbrev Calls := String → Option (List V → Out (V × Mode))

noncomputable def upd (σ : St) (x : String) (v : V × Mode) : St := fun y => if y = x then some v else σ y

noncomputable def sx : PyData → Bool
  | .none | .bool _ | .int _ | .str _ => true
  | .list _ | .tuple _ | .dict _ => false
noncomputable def scal : V → Bool
  | .d x => sx x
  | _ => false
noncomputable def mk (v : V) : V × Mode := (v, if scal v then .deep else .sh)
noncomputable def fresh (xs : List PyData) : Mode := if xs.all sx then .deep else .top
noncomputable def lim : Nat := 1000000

noncomputable def okc (d : PyData) : Bool := d.canLay0 && decide (d.depth ≤ 64)

noncomputable def sI (i : Int) : V × Mode := (.d (.int i), .deep)
noncomputable def sB (b : Bool) : V × Mode := (.d (.bool b), .deep)

noncomputable def keyI : PyData → Option Int
  | .int i => some i
  | _ => none
noncomputable def intsOf : List PyData → Option (List Int)
  | [] => some []
  | .int i :: r => (intsOf r).map (i :: ·)
  | _ :: _ => none

/-- the parts of a value that must be of a kind -/
noncomputable def optO {α β : Type} (o : Option α) (f : α → Out β) : Out β := match o with
  | some a => f a
  | none => .bad
theorem optO_ok {α β : Type} {o : Option α} {f : α → Out β} {r : β} (h : optO o f = .ok r) : ∃ a, o = some a ∧ f a = .ok r := by
  cases o with
  | some a => exact ⟨a, rfl, h⟩
  | none => cases h
/-- what never raises -/
def NE {α : Type} (o : Out α) : Prop := ∀ c, o ≠ .exc c
theorem NE.ok {α : Type} {a : α} : NE (Out.ok a) := fun _ h => by cases h
theorem NE.bad {α : Type} : NE (Out.bad : Out α) := fun _ h => by cases h
theorem NE.opt {α β : Type} {o : Option α} {f : α → Out β} (h : ∀ a, NE (f a)) : NE (optO o f) := by
  cases o with
  | some a => exact h a
  | none => exact .bad
theorem NE.ite {α : Type} {c : Prop} [Decidable c] {a b : Out α} (ha : NE a) (hb : NE b) : NE (if c then a else b) := by
  by_cases h : c
  · rw [if_pos h]; exact ha
  · rw [if_neg h]; exact hb
theorem NE.bind {α β : Type} {o : Out α} {f : α → Out β} (ho : NE o) (h : ∀ a, NE (f a)) : NE (o.bind f) := by
  cases o with
  | ok a => exact h a
  | exc c => exact absurd rfl (ho c)
  | bad => exact .bad
noncomputable def asL : PyData → Option (List PyData)
  | .list xs => some xs
  | _ => none
noncomputable def asD : V → Option PyData
  | .d x => some x
  | _ => none
noncomputable def isN : PyData → Bool
  | .none => true
  | _ => false
theorem keyI_inv {x : PyData} {i : Int} (h : keyI x = some i) : x = .int i := by cases x <;> cases h; rfl
theorem asL_inv {x : PyData} {i : List PyData} (h : asL x = some i) : x = .list i := by cases x <;> cases h; rfl
theorem asD_inv {x : V} {i : PyData} (h : asD x = some i) : x = .d i := by cases x <;> cases h; rfl
theorem isN_inv {x : PyData} (h : isN x = true) : x = .none := by cases x <;> first | rfl | cases h
noncomputable def i2 {β : Type} (x y : PyData) (f : Int → Int → Out β) : Out β := optO (keyI x) fun a => optO (keyI y) fun b => f a b
theorem i2_ok {β : Type} {x y : PyData} {f : Int → Int → Out β} {r : β} (h : i2 x y f = .ok r) : ∃ a b, x = .int a ∧ y = .int b ∧ f a b = .ok r := by
  obtain ⟨a, h1, h⟩ := optO_ok h
  obtain ⟨b, h2, h⟩ := optO_ok h
  exact ⟨a, b, keyI_inv h1, keyI_inv h2, h⟩
noncomputable def d2 {β : Type} (x y : V) (f : PyData → PyData → Out β) : Out β := optO (asD x) fun a => optO (asD y) fun b => f a b
theorem d2_ok {β : Type} {x y : V} {f : PyData → PyData → Out β} {r : β} (h : d2 x y f = .ok r) : ∃ a b, x = .d a ∧ y = .d b ∧ f a b = .ok r := by
  obtain ⟨a, h1, h⟩ := optO_ok h
  obtain ⟨b, h2, h⟩ := optO_ok h
  exact ⟨a, b, asD_inv h1, asD_inv h2, h⟩

noncomputable def addV (x y : PyData) : Out (V × Mode) := match asL x with
  | some a => optO (asL y) fun b => if a.length + b.length ≤ lim then .ok (.d (.list (a ++ b)), fresh (a ++ b)) else .bad
  | none => i2 x y fun a b => .ok (sI (a + b))
noncomputable def binV (o : BOp) (x y : PyData) : Out (V × Mode) := match o with
  | .add => addV x y
  | .sub => i2 x y fun a b => .ok (sI (a - b))
  | .mul => i2 x y fun a b => if a.natAbs < 2 ^ 63 ∨ b.natAbs < 2 ^ 63 then .ok (sI (a * b)) else .bad
  | .fdiv => i2 x y fun a b => if b = 0 ∨ 1000000000 ≤ b.natAbs then .bad else .ok (sI (a.fdiv b))
  | .mod => i2 x y fun a b => if b = 0 then .bad else .ok (sI (a.fmod b))
  | .pow => i2 x y fun a b => if 0 ≤ b ∧ b ≤ 1000 ∧ a.natAbs < 2 ^ 63 then .ok (sI (a ^ b.toNat)) else .bad
  | .xor => i2 x y fun a b => .ok (sI (Builtin.bitXor a b))
theorem binV_ne {o : BOp} {x y : PyData} : NE (binV o x y) := by
  have h : ∀ (f : Int → Int → Out (V × Mode)), (∀ a b, NE (f a b)) → NE (i2 x y f) := fun f hf => .opt fun a => .opt fun b => hf a b
  cases o with
  | add =>
    show NE (addV x y)
    unfold addV
    cases asL x with
    | some a => exact .opt fun b => .ite .ok .bad
    | none => exact h _ fun _ _ => .ok
  | sub => exact h _ fun _ _ => .ok
  | mul => exact h _ fun _ _ => .ite .ok .bad
  | fdiv => exact h _ fun _ _ => .ite .bad .ok
  | mod => exact h _ fun _ _ => .ite .bad .ok
  | pow => exact h _ fun _ _ => .ite .ok .bad
  | xor => exact h _ fun _ _ => .ok

noncomputable def inV (k : PyData) (c : V) : Out Bool := match c with
  | .d x => optO (asL x) fun xs => if okc k && okc (.list xs) then .ok (xs.any fun y => PyData.eqv y k) else .bad
  | .inst _ => .bad
theorem inV_ne {k : PyData} {c : V} : NE (inV k c) := by
  cases c with
  | d x => exact .opt fun _ => .ite .ok .bad
  | inst _ => exact .bad

noncomputable def cmpV (o : COp) (x y : V) : Out Bool := match o with
  | .eq => d2 x y fun a b => if okc a && okc b then .ok (PyData.eqv a b) else .bad
  | .ne => d2 x y fun a b => if okc a && okc b then .ok (!PyData.eqv a b) else .bad
  | .lt => d2 x y fun a b => i2 a b fun a b => .ok (decide (a < b))
  | .le => d2 x y fun a b => i2 a b fun a b => .ok (decide (a ≤ b))
  | .gt => d2 x y fun a b => i2 a b fun a b => .ok (decide (b < a))
  | .ge => d2 x y fun a b => i2 a b fun a b => .ok (decide (b ≤ a))
  | .isin => optO (asD x) fun k => inV k y
  | .notin => d2 x y fun k c => (inV k (.d c)).bind fun b => .ok (!b)
  | .is => d2 x y fun a b => if isN b then .ok (isN a) else .bad
  | .isnot => d2 x y fun a b => if isN b then .ok (!isN a) else .bad
theorem cmpV_ne {o : COp} {x y : V} : NE (cmpV o x y) := by
  have h : ∀ (f : PyData → PyData → Out Bool), (∀ a b, NE (f a b)) → NE (d2 x y f) := fun f hf => .opt fun a => .opt fun b => hf a b
  cases o with
  | eq => exact h _ fun _ _ => .ite .ok .bad
  | ne => exact h _ fun _ _ => .ite .ok .bad
  | isin => exact .opt fun _ => inV_ne
  | notin => exact h _ fun _ _ => .bind inV_ne fun _ => .ok
  | is => exact h _ fun _ _ => .ite .ok .bad
  | isnot => exact h _ fun _ _ => .ite .ok .bad
  | _ => exact h _ fun _ _ => .opt fun _ => .opt fun _ => .ok

noncomputable def seqIdx (i : Int) (n : Nat) : Option Nat := if 0 ≤ i then (if i < n then some i.toNat else none) else (if -(n : Int) ≤ i then some (i + n).toNat else none)

noncomputable def asT : PyData → Option (List PyData)
  | .tuple xs => some xs
  | _ => none
theorem asT_inv {x : PyData} {i : List PyData} (h : asT x = some i) : x = .tuple i := by cases x <;> cases h; rfl
/-- an item, by its place -/
noncomputable def elem (x : PyData) (i : Int) : Option PyData := match asL x with
  | some xs => (seqIdx i xs.length).bind fun k => xs[k]?
  | none => match asT x with
    | some xs => (seqIdx i xs.length).bind fun k => xs[k]?
    | none => none
noncomputable def subV (x y : PyData) : Out (V × Mode) := optO (keyI y) fun i => optO (elem x i) fun z => .ok (mk (.d z))
theorem subV_ne {x y : PyData} : NE (subV x y) := .opt fun _ => .opt fun _ => .ok

noncomputable def revV : PyData → Out (V × Mode)
  | .list xs => .ok (.d (.list xs.reverse), fresh xs.reverse)
  | _ => .bad



noncomputable def ofInts (xs : List Int) : PyData := .list (xs.map .int)
noncomputable def ofRows (t : List (List Int)) : PyData := .list (t.map ofInts)

noncomputable def sortedV (xs : List PyData) : Out (V × Mode) :=
  if xs.length < 64 then
    optO (intsOf xs) fun ns => .ok (.d (ofInts (ns.mergeSort (fun a b => decide (a ≤ b)))), .deep)
  else .bad

noncomputable def maxL : List Int → Option Int
  | [] => none
  | x :: xs => some (xs.foldl (fun a b => if a < b then b else a) x)

noncomputable def b1V (f : B1) (v : V) : Out (V × Mode) := optO (asD v) fun x => match f with
  | .len => (match asT x with
    | some xs => .ok (sI xs.length)
    | none => optO (asL x) fun xs => .ok (sI xs.length))
  | .list => (match asT x with
    | some xs => .ok (.d (.list xs), fresh xs)
    | none => optO (asL x) fun xs => .ok (.d (.list xs), fresh xs))
  | .tuple => optO (asL x) fun xs => .ok (.d (.tuple xs), if xs.all sx then .deep else .sh)
  | .sorted => optO (asL x) fun xs => sortedV xs
  | .max => optO (asL x) fun xs => optO ((intsOf xs).bind maxL) fun i => .ok (sI i)
  | .sum => optO (asL x) fun xs => optO (intsOf xs) fun ns => .ok (sI ns.sum)
theorem b1V_ne {f : B1} {v : V} : NE (b1V f v) := .opt fun x => by
  cases f with
  | len =>
    show NE (match asT x with | some xs => Out.ok (sI xs.length) | none => optO (asL x) fun xs => .ok (sI xs.length))
    cases asT x with
    | some xs => exact .ok
    | none => exact .opt fun _ => .ok
  | list =>
    show NE (match asT x with | some xs => Out.ok (V.d (.list xs), fresh xs) | none => optO (asL x) fun xs => .ok (V.d (.list xs), fresh xs))
    cases asT x with
    | some xs => exact .ok
    | none => exact .opt fun _ => .ok
  | tuple => exact .opt fun _ => .ok
  | sorted => exact .opt fun xs => .ite (.opt fun _ => .ok) .bad
  | max => exact .opt fun _ => .opt fun _ => .ok
  | sum => exact .opt fun _ => .opt fun _ => .ok


/-- isinstance against a built-in type -/
noncomputable def isiV : V → String → Out Bool
  | .d x, t =>
    if t = "int" then .ok (match x with | .int _ | .bool _ => true | _ => false)
    else if t = "bool" then .ok (match x with | .bool _ => true | _ => false)
    else if t = "list" then .ok (match x with | .list _ => true | _ => false)
    else if t = "tuple" then .ok (match x with | .tuple _ => true | _ => false)
    else if t = "str" then .ok (match x with | .str _ => true | _ => false)
    else .bad
  | _, _ => .bad

noncomputable def truth : V → Out Bool
  | .d (.bool b) => .ok b
  | _ => .bad


noncomputable def rangeL (a b : Int) : List PyData := (List.range (b - a).toNat).map fun (k : Nat) => .int (a + k)

noncomputable def rangeV (a b : Int) : Out (List PyData × Mode) :=
  if (b - a).toNat ≤ lim ∧ -(2 ^ 60) ≤ a ∧ a < 2 ^ 60 ∧ -(2 ^ 60) ≤ b ∧ b < 2 ^ 60 then .ok (rangeL a b, .deep) else .bad

noncomputable def compL (f : PyData → Out (Option (V × Mode))) : List PyData → Out (List PyData × Bool)
  | [] => .ok ([], true)
  | x :: xs => (f x).bind fun r => (compL f xs).bind fun q => match r with
    | none => .ok q
    | some (.d y, m) => .ok (y :: q.1, decide (m = .deep) && q.2)
    | some _ => .bad

noncomputable def allD : List (V × Mode) → Option (List PyData)
  | [] => some []
  | (.d x, _) :: r => (allD r).map (x :: ·)
  | _ :: _ => none
noncomputable def allDeep (l : List (V × Mode)) : Bool := l.all fun p => decide (p.2 = .deep)

noncomputable def lstV : V → Option (List PyData)
  | .d (.list xs) => some xs
  | _ => none
theorem lstV_some {v : V} {xs : List PyData} (h : lstV v = some xs) : v = .d (.list xs) := by
  unfold lstV at h
  split at h
  · cases h; rfl
  · cases h
noncomputable def itV (r : V × Mode) : Out (List PyData × Mode) := match lstV r.1 with
  | some xs => .ok (xs, r.2)
  | none => .bad

/-- lexical order of int lists -/
def ltL : List Int → List Int → Bool
  | [], [] => false
  | [], _ :: _ => true
  | _ :: _, [] => false
  | a :: as, b :: bs => if a = b then ltL as bs else decide (a < b)
/-- all places, the heaviest first -/
noncomputable def ordK (ns : List Int) (i : Nat) : List Int := [-(ns.getD i 0), (i : Int)]
noncomputable def ordL (ns : List Int) : List Int := (((List.range ns.length).map fun i => (ordK ns i, i)).mergeSort fun a b => !ltL b.1 a.1).map fun p => (p.2 : Int)
noncomputable def ordV (p : Option (V × Mode)) : Out (V × Mode) := optO p fun q => optO (asD q.1) fun d => optO (asL d) fun xs => optO (intsOf xs) fun ns => if ns.length < 128 then .ok (.d (.list ((ordL ns).map .int)), .deep) else .bad

mutual
noncomputable def ev (C : Calls) : E → St → Out (V × Mode)
  | .name x, σ => match σ x with | some p => .ok (mk p.1) | none => .bad
  | .int i, _ => .ok (sI i)
  | .str s, _ => .ok (.d (.str (Str.ofString s)), .deep)
  | .bool b, _ => .ok (sB b)
  | .none, _ => .ok (.d .none, .deep)
  | .bin o a b, σ => (ev C a σ).bind fun x => (ev C b σ).bind fun y => match x.1, y.1 with | .d x, .d y => binV o x y | _, _ => .bad
  | .neg a, σ => (ev C a σ).bind fun x => match x.1 with | .d (.int i) => .ok (sI (-i)) | _ => .bad
  | .not a, σ => (ev C a σ).bind fun x => (truth x.1).bind fun b => .ok (sB (!b))
  | .cmp o a b, σ => (ev C a σ).bind fun x => (ev C b σ).bind fun y => (cmpV o x.1 y.1).bind fun b => .ok (sB b)
  | .and a b, σ => (ev C a σ).bind fun x => (truth x.1).bind fun t => if t then (ev C b σ).bind fun y => (truth y.1).bind fun u => .ok (sB u) else .ok (sB false)
  | .or a b, σ => (ev C a σ).bind fun x => (truth x.1).bind fun t => if t then .ok (sB true) else (ev C b σ).bind fun y => (truth y.1).bind fun u => .ok (sB u)
  | .list es, σ => (evs C es σ).bind fun l => match allD l with
    | some xs => .ok (.d (.list xs), if allDeep l then .deep else .top)
    | none => .bad
  | .tup es, σ => (evs C es σ).bind fun l => match allD l with
    | some xs => .ok (.d (.tuple xs), if allDeep l then .deep else .sh)
    | none => .bad
  | .comp elt x it, σ => (evIt C it σ).bind fun q => (compL (fun y => (ev C elt (upd σ x (mk (.d y)))).bind fun r => .ok (some r)) q.1).calm.bind fun r => .ok (.d (.list r.1), if r.2 then .deep else .top)
  | .compif elt x it c, σ => (evIt C it σ).bind fun q => (compL (fun y => (ev C c (upd σ x (mk (.d y)))).bind fun t => (truth t.1).bind fun b => if b then (ev C elt (upd σ x (mk (.d y)))).bind fun r => .ok (some r) else .ok none) q.1).calm.bind fun r => .ok (.d (.list r.1), if r.2 then .deep else .top)
  | .sub a i, σ => (ev C a σ).bind fun x => (ev C i σ).bind fun y => match x.1, y.1 with | .d x, .d y => subV x y | _, _ => .bad
  | .rev a, σ => (ev C a σ).bind fun x => match x.1 with | .d x => revV x | _ => .bad
  | .bi1 f a, σ => (ev C a σ).bind fun x => b1V f x.1
  | .isi a t, σ => (ev C a σ).bind fun x => (isiV x.1 t).bind fun b => .ok (sB b)
  | .call f es, σ => match C f with
    | some g => (evs C es σ).bind fun l => g (l.map (·.1))
    | none => .bad
  | .order x _, σ => optO (C "law") fun _ => ordV (σ x)
noncomputable def evs (C : Calls) : Es → St → Out (List (V × Mode))
  | .nil, _ => .ok []
  | .cons e es, σ => (ev C e σ).bind fun x => (evs C es σ).bind fun l => .ok (x :: l)
noncomputable def evIt (C : Calls) : It → St → Out (List PyData × Mode)
  | .e a, σ => (ev C a σ).bind itV
  | .r1 n, σ => (ev C n σ).bind fun x => match x.1 with | .d (.int n) => rangeV 0 n | _ => .bad
  | .r2 a b, σ => (ev C a σ).bind fun x => (ev C b σ).bind fun y => match x.1, y.1 with | .d (.int a), .d (.int b) => rangeV a b | _, _ => .bad
end

mutual
/-- the names that an expression mentions -/
noncomputable def fv : E → List String
  | .name x => [x]
  | .int _ | .str _ | .bool _ | .none => []
  | .bin _ a b | .cmp _ a b | .and a b | .or a b | .sub a b => fv a ++ fv b
  | .neg a | .not a | .rev a | .bi1 _ a | .isi a _ => fv a
  | .list es | .tup es | .call _ es => fvs es
  | .comp elt _ it => fvIt it ++ fv elt
  | .compif elt _ it c => fvIt it ++ (fv c ++ fv elt)
  | .order x _ => [x]
noncomputable def fvs : Es → List String
  | .nil => []
  | .cons e es => fv e ++ fvs es
noncomputable def fvIt : It → List String
  | .e a => fv a
  | .r1 n => fv n
  | .r2 a b => fv a ++ fv b
end

mutual
inductive S where
  | assign (x : String) (e : E)
  | append (x : String) (e : E)
  | expr (e : E)
  | ret (e : E)
  | retn (x : String)
  | ite (c : E) (a b : Ss)
  | for1 (x : String) (it : It) (b : Ss)
  | forN (x y : String) (b : Ss)
  | bad
inductive Ss where
  | nil
  | cons (s : S) (r : Ss)
end

mutual
/-- the names that a statement binds or writes -/
noncomputable def asg : S → List String
  | .assign x _ | .append x _ => [x]
  | .expr _ | .ret _ | .retn _ | .bad => []
  | .ite _ a b => asgs a ++ asgs b
  | .for1 x _ b => x :: asgs b
  | .forN x y b => x :: y :: asgs b
noncomputable def asgs : Ss → List String
  | .nil => []
  | .cons s r => asg s ++ asgs r
end

inductive Flw where
  | next
  | ret (v : V × Mode)

noncomputable def demote (σ : St) (ns : List String) : St := fun y => if y ∈ ns then (σ y).map fun p => mk p.1 else σ y
noncomputable def consume (σ : St) (ns : List String) (m : Mode) : St := if m = .deep then σ else demote σ ns

noncomputable def loopS (f : PyData → St → Out (St × Flw)) : List PyData → St → Out (St × Flw)
  | [], σ => .ok (σ, .next)
  | x :: xs, σ => (f x σ).bind fun r => match r.2 with
    | .next => loopS f xs r.1
    | .ret v => .ok (r.1, .ret v)

noncomputable def rem (σ : St) (y : String) : St := fun z => if z = y then none else σ z
/-- the name is whole again behind the loop over it -/
noncomputable def backV (y : String) (p : V × Mode) (o : St × Flw) : St × Flw := match o.2 with
  | .next => (upd o.1 y p, .next)
  | .ret r => (o.1, .ret r)

/-- one more item in an owned list -/
noncomputable def putV (σ : St) (x : String) (ns : List String) (mx : Mode) (xs : List PyData) (m : Mode) : Out (St × Flw) :=
  if xs.length ≤ lim then
    if m = .deep then .ok (upd σ x (.d (.list xs), mx), .next)
    else if x ∈ ns then .bad else .ok (upd (demote σ ns) x (.d (.list xs), .top), .next)
  else .bad



mutual
noncomputable def ex (C : Calls) : S → St → Out (St × Flw)
  | .assign x e, σ => (ev C e σ).bind fun r => .ok (upd (consume σ (fv e) r.2) x r, .next)
  | .append x e, σ => (ev C e σ).bind fun r => match r.1, σ x with
    | .d y, some (v, mx) => (match lstV v with
      | some xs => if mx = .sh then .bad else putV σ x (fv e) mx (xs ++ [y]) r.2
      | none => .bad)
    | _, _ => .bad
  | .expr e, σ => (ev C e σ).bind fun r => .ok (consume σ (fv e) r.2, .next)
  | .retn x, σ => match σ x with
    | some r => .ok (σ, .ret r)
    | none => .bad
  | .ret e, σ => (ev C e σ).bind fun r => .ok (σ, .ret r)
  | .ite c a b, σ => (ev C c σ).bind fun r => (truth r.1).bind fun t => if t then exs C a σ else exs C b σ
  | .for1 x it b, σ => (evIt C it σ).bind fun q => loopS (fun y σ => exs C b (upd σ x (mk (.d y)))) q.1 (consume σ (fvIt it) q.2)
  | .forN x y b, σ => optO (σ y) fun p => optO (lstV p.1) fun ds => if ds.all sx = true ∧ y ≠ x ∧ y ∉ asgs b ∧ p.2 ≠ .sh then (loopS (fun d σ => exs C b (upd σ x (mk (.d d)))) ds (rem σ y)).bind fun o => .ok (backV y p o) else .bad
  | .bad, _ => .bad
noncomputable def exs (C : Calls) : Ss → St → Out (St × Flw)
  | .nil, σ => .ok (σ, .next)
  | .cons s r, σ => (ex C s σ).bind fun q => match q.2 with
    | .next => exs C r q.1
    | .ret v => .ok (q.1, .ret v)
end

structure Fn where
  params : List String
  body : Ss

noncomputable def bindP : List String → List V → Option St
  | [], [] => some fun _ => none
  | p :: ps, v :: vs => (bindP ps vs).map fun σ => upd σ p (mk v)
  | _, _ => none

noncomputable def runF (C : Calls) (f : Fn) (vs : List V) : Out (V × Mode) := match bindP f.params vs with
  | some σ => (exs C f.body σ).bind fun r => match r.2 with
    | .ret v => .ok v
    | .next => .ok (.d .none, .deep)
  | none => .bad

noncomputable def mkC (L : List (String × Fn)) : Nat → Calls
  | 0 => fun _ => none
  | n + 1 => fun f => (L.lookup f).map fun fn vs => (runF (mkC L n) fn vs).calm

end Mine

namespace Mine
open PySem PyProof.Rows

/-! the data that a value bears, exactly laid; the addresses are those of the lists within -/
mutual
inductive R (h : Heap) : Value → PyData → List Addr → Prop
  | none : R h .none .none []
  | bool (b : Bool) : R h (.bool b) (.bool b) []
  | int (i : Int) (t : Tok) : R h (.int i t) (.int i) []
  | str (x : Str) (t : Tok) : R h (.str x t) (.str x) []
  | list {a : Addr} {n : Nat} {xs : List PyData} {as : List Addr} {vs : List Value} : h.get? a = some ⟨.type "list", Option.none, .seq vs.toArray n, #[]⟩ → RA h vs xs as → R h (.ref a) (.list xs) (a :: as)
  | tuple {a : Addr} {n : Nat} {xs : List PyData} {as : List Addr} {vs : List Value} : h.get? a = some ⟨.type "tuple", Option.none, .seq vs.toArray n, #[]⟩ → RA h vs xs as → R h (.ref a) (.tuple xs) as
inductive RA (h : Heap) : List Value → List PyData → List Addr → Prop
  | nil : RA h [] [] []
  | cons {v : Value} {vs : List Value} {d : PyData} {ds : List PyData} {as bs : List Addr} : R h v d as → RA h vs ds bs → RA h (v :: vs) (d :: ds) (as ++ bs)
end

/-- by the parts -/
theorem R.ind {h : Heap} {M : Value → PyData → List Addr → Prop} {N : List Value → List PyData → List Addr → Prop} (h1 : M .none .none []) (h2 : ∀ b, M (.bool b) (.bool b) []) (h3 : ∀ i t, M (.int i t) (.int i) []) (h4 : ∀ x t, M (.str x t) (.str x) [])
    (h5 : ∀ {a : Addr} {n : Nat} {xs : List PyData} {as : List Addr} {vs : List Value}, h.get? a = some ⟨.type "list", Option.none, .seq vs.toArray n, #[]⟩ → RA h vs xs as → N vs xs as → M (.ref a) (.list xs) (a :: as))
    (h6 : ∀ {a : Addr} {n : Nat} {xs : List PyData} {as : List Addr} {vs : List Value}, h.get? a = some ⟨.type "tuple", Option.none, .seq vs.toArray n, #[]⟩ → RA h vs xs as → N vs xs as → M (.ref a) (.tuple xs) as)
    (h7 : N [] [] []) (h8 : ∀ {v : Value} {vs : List Value} {d : PyData} {ds : List PyData} {as bs : List Addr}, R h v d as → RA h vs ds bs → M v d as → N vs ds bs → N (v :: vs) (d :: ds) (as ++ bs)) :
    (∀ {v : Value} {d : PyData} {as : List Addr}, R h v d as → M v d as) ∧ (∀ {vs : List Value} {ds : List PyData} {as : List Addr}, RA h vs ds as → N vs ds as) :=
  ⟨fun r => R.rec (motive_1 := fun v d as _ => M v d as) (motive_2 := fun vs ds as _ => N vs ds as) h1 h2 h3 h4 (fun e r i => h5 e r i) (fun e r i => h6 e r i) h7 (fun x r i j => h8 x r i j) r,
    fun r => RA.rec (motive_1 := fun v d as _ => M v d as) (motive_2 := fun vs ds as _ => N vs ds as) h1 h2 h3 h4 (fun e r i => h5 e r i) (fun e r i => h6 e r i) h7 (fun x r i j => h8 x r i j) r⟩
theorem RA.ind {h : Heap} {N : List Value → List PyData → List Addr → Prop} (h7 : N [] [] []) (h8 : ∀ {v : Value} {vs : List Value} {d : PyData} {ds : List PyData} {as bs : List Addr}, R h v d as → RA h vs ds bs → N vs ds bs → N (v :: vs) (d :: ds) (as ++ bs))
    {vs : List Value} {ds : List PyData} {as : List Addr} (r : RA h vs ds as) : N vs ds as :=
  (R.ind (M := fun _ _ _ => True) (N := N) trivial (fun _ => trivial) (fun _ _ => trivial) (fun _ _ => trivial) (fun _ _ _ => trivial) (fun _ _ _ => trivial) h7 fun x r _ j => h8 x r j).2 r

noncomputable def Kps (h h' : Heap) (as : List Addr) : Prop := ∀ b o, (b ∈ as ∨ o.cls = .type "tuple") → (∃ vs n, o.data = .seq vs n) → h.get? b = some o → h'.get? b = some o
theorem R.onB {h h' : Heap} : (∀ {v : Value} {d : PyData} {as : List Addr}, R h v d as → Kps h h' as → R h' v d as) ∧ (∀ {vs : List Value} {ds : List PyData} {as : List Addr}, RA h vs ds as → Kps h h' as → RA h' vs ds as) :=
  R.ind (M := fun v d as => Kps h h' as → R h' v d as) (N := fun vs ds as => Kps h h' as → RA h' vs ds as) (fun _ => .none) (fun b _ => .bool b) (fun i t _ => .int i t) (fun x t _ => .str x t)
    (fun e _ ih k => .list (k _ _ (.inl (.head _)) ⟨_, _, rfl⟩ e) (ih fun b o hb => k b o (hb.imp (.tail _) id))) (fun e _ ih k => .tuple (k _ _ (.inr rfl) ⟨_, _, rfl⟩ e) (ih k))
    (fun _ => .nil) (fun _ _ i j k => .cons (i fun b o hb => k b o (hb.imp (List.mem_append_left _) id)) (j fun b o hb => k b o (hb.imp (List.mem_append_right _) id)))
section
variable {h h' : Heap} {v : Value} {d : PyData} {as : List Addr} {vs : List Value} {ds : List PyData}
theorem R.on2 (r : R h v d as) (k : ∀ b o, (b ∈ as ∨ o.cls = .type "tuple") → (∃ vs n, o.data = .seq vs n) → h.get? b = some o → h'.get? b = some o) : R h' v d as := R.onB.1 r k
theorem RA.on2 (r : RA h vs ds as) (k : ∀ b o, (b ∈ as ∨ o.cls = .type "tuple") → (∃ vs n, o.data = .seq vs n) → h.get? b = some o → h'.get? b = some o) : RA h' vs ds as := R.onB.2 r k
theorem R.on (r : R h v d as) (k : ∀ b o, (b ∈ as ∨ o.cls = .type "tuple") → h.get? b = some o → h'.get? b = some o) : R h' v d as := r.on2 fun b o q _ => k b o q
theorem RA.on (r : RA h vs ds as) (k : ∀ b o, (b ∈ as ∨ o.cls = .type "tuple") → h.get? b = some o → h'.get? b = some o) : RA h' vs ds as := r.on2 fun b o q _ => k b o q
end

/-- places whose writing touches no data of these footprints -/
noncomputable def Off (h : Heap) (as wr : List Addr) : Prop := ∀ b ∈ wr, ∀ o, h.get? b = some o → (∀ vs n, o.data ≠ .seq vs n) ∨ (o.cls ≠ .type "tuple" ∧ b ∉ as)
theorem R.off {h h' : Heap} {v : Value} {d : PyData} {as wr : List Addr} (r : R h v d as) (hw : Off h as wr) (kp : ∀ b o, b ∉ wr → h.get? b = some o → h'.get? b = some o) : R h' v d as :=
  r.on2 fun b o hb ⟨vs, n, e⟩ hg => kp b o (fun hm => (hw b hm o hg).elim (fun q => q vs n e) fun q => hb.elim q.2 q.1) hg
theorem RA.off {h h' : Heap} {vs : List Value} {ds : List PyData} {as wr : List Addr} (r : RA h vs ds as) (hw : Off h as wr) (kp : ∀ b o, b ∉ wr → h.get? b = some o → h'.get? b = some o) : RA h' vs ds as :=
  r.on2 fun b o hb ⟨vs, n, e⟩ hg => kp b o (fun hm => (hw b hm o hg).elim (fun q => q vs n e) fun q => hb.elim q.2 q.1) hg

section
variable {h h' : Heap} {v : Value} {d : PyData} {as : List Addr} {vs : List Value} {ds : List PyData}
theorem R.keep (r : R h v d as) (k : ∀ b o, h.get? b = some o → h'.get? b = some o) : R h' v d as := r.on fun b o _ => k b o
theorem RA.keep (r : RA h vs ds as) (k : ∀ b o, h.get? b = some o → h'.get? b = some o) : RA h' vs ds as := r.on fun b o _ => k b o
end

theorem R.readsB {h : Heap} : (∀ {v : Value} {d : PyData} {as : List Addr}, R h v d as → Reads h v d as) ∧ (∀ {vs : List Value} {ds : List PyData} {as : List Addr}, RA h vs ds as → ReadsAll h vs ds as) :=
  R.ind (M := fun v d as => Reads h v d as) (N := fun vs ds as => ReadsAll h vs ds as) .none (fun b => .bool b) (fun i t => .int i t) (fun x t => .str x t) (fun e _ i => .list e rfl rfl (by simpa using i)) (fun e _ i => .tuple e rfl rfl (by simpa using i)) .nil (fun _ _ i j => .cons i j)
theorem R.reads {h : Heap} {v : Value} {d : PyData} {as : List Addr} (r : R h v d as) : Reads h v d as := R.readsB.1 r
noncomputable def There (h : Heap) (as : List Addr) : Prop := ∀ a ∈ as, ∃ vs n, h.get? a = some ⟨.type "list", Option.none, .seq vs n, #[]⟩
theorem R.thereB {h : Heap} : (∀ {v : Value} {d : PyData} {as : List Addr}, R h v d as → There h as) ∧ (∀ {vs : List Value} {ds : List PyData} {as : List Addr}, RA h vs ds as → There h as) :=
  R.ind (M := fun _ _ as => There h as) (N := fun _ _ as => There h as) (fun _ ha => nomatch ha) (fun _ _ ha => nomatch ha) (fun _ _ _ ha => nomatch ha) (fun _ _ _ ha => nomatch ha)
    (fun e _ i a ha => (List.mem_cons.mp ha).elim (fun q => q ▸ ⟨_, _, e⟩) (i a)) (fun _ _ i => i) (fun _ ha => nomatch ha) (fun _ _ i j a ha => (List.mem_append.mp ha).elim (i a) (j a))
theorem R.there {h : Heap} {v : Value} {d : PyData} {as : List Addr} (r : R h v d as) : ∀ a ∈ as, ∃ vs n, h.get? a = some ⟨.type "list", Option.none, .seq vs n, #[]⟩ := R.thereB.1 r
theorem RA.there {h : Heap} {vs : List Value} {ds : List PyData} {as : List Addr} (r : RA h vs ds as) : ∀ a ∈ as, ∃ vs n, h.get? a = some ⟨.type "list", Option.none, .seq vs n, #[]⟩ := R.thereB.2 r

theorem R.isInt {h : Heap} {v : Value} {i : Int} {as : List Addr} (r : R h v (.int i) as) : ∃ t, v = .int i t ∧ as = [] := by
  cases r; exact ⟨_, rfl, rfl⟩
theorem R.isBool {h : Heap} {v : Value} {b : Bool} {as : List Addr} (r : R h v (.bool b) as) : v = .bool b ∧ as = [] := by
  cases r; exact ⟨rfl, rfl⟩
theorem R.isNone {h : Heap} {v : Value} {as : List Addr} (r : R h v .none as) : v = .none ∧ as = [] := by
  cases r; exact ⟨rfl, rfl⟩
theorem R.sx_nil {h : Heap} {v : Value} {d : PyData} {as : List Addr} (r : R h v d as) (hs : sx d = true) : as = [] := by
  cases r <;> first | rfl | (simp [sx] at hs)

theorem RA.length {h : Heap} {vs : List Value} {ds : List PyData} {as : List Addr} (r : RA h vs ds as) : vs.length = ds.length :=
  RA.ind (N := fun vs ds _ => vs.length = ds.length) rfl (fun _ _ i => congrArg (· + 1) i) r
theorem RA.append {h : Heap} {vs ws : List Value} {ds es : List PyData} {as bs : List Addr} (r : RA h vs ds as) (q : RA h ws es bs) : RA h (vs ++ ws) (ds ++ es) (as ++ bs) :=
  RA.ind (N := fun vs ds as => RA h (vs ++ ws) (ds ++ es) (as ++ bs)) q (fun x _ i => by rw [List.append_assoc]; exact .cons x i) r
theorem RA.sx_nil {h : Heap} {vs : List Value} {ds : List PyData} {as : List Addr} (r : RA h vs ds as) : ds.all sx = true → as = [] :=
  RA.ind (N := fun _ ds as => ds.all sx = true → as = []) (fun _ => rfl) (fun x _ i hs => by
    obtain ⟨h1, h2⟩ := Bool.and_eq_true_iff.mp (show (sx _ && List.all _ sx) = true from hs)
    rw [x.sx_nil h1, i h2]; rfl) r

/-- the same places of both lists -/
theorem RA.get {h : Heap} {vs : List Value} {ds : List PyData} {as : List Addr} (r : RA h vs ds as) : ∀ {k : Nat} {d : PyData}, ds[k]? = some d → ∃ v bs, vs[k]? = some v ∧ R h v d bs ∧ ∀ b ∈ bs, b ∈ as := by
  have key : ∀ (k : Nat) (d : PyData), ds[k]? = some d → ∃ v bs, vs[k]? = some v ∧ R h v d bs ∧ ∀ b ∈ bs, b ∈ as := by
    refine RA.ind (N := fun vs ds as => ∀ (k : Nat) (d : PyData), ds[k]? = some d → ∃ v bs, vs[k]? = some v ∧ R h v d bs ∧ ∀ b ∈ bs, b ∈ as) (fun k d hk => by cases hk) (fun x _ i k d hk => ?_) r
    cases k with
    | zero => cases hk; exact ⟨_, _, rfl, x, fun b hb => List.mem_append_left _ hb⟩
    | succ k =>
      obtain ⟨v, bs, h1, h2, h3⟩ := i k d hk
      exact ⟨v, bs, h1, h2, fun b hb => List.mem_append_right _ (h3 b hb)⟩
  exact fun {k d} => key k d
theorem RA.get' {h : Heap} {vs : List Value} {ds : List PyData} {as : List Addr} (r : RA h vs ds as) {k : Nat} {v : Value} (hk : vs[k]? = some v) : ∃ d bs, ds[k]? = some d ∧ R h v d bs ∧ ∀ b ∈ bs, b ∈ as := by
  have hl : k < ds.length := by rw [← r.length]; exact (List.getElem?_eq_some_iff.mp hk).1
  obtain ⟨v', bs, h1, h2, h3⟩ := r.get (List.getElem?_eq_getElem hl)
  rw [hk] at h1; cases h1
  exact ⟨_, bs, List.getElem?_eq_getElem hl, h2, h3⟩
theorem RA.reverse {h : Heap} {vs : List Value} {ds : List PyData} {as : List Addr} (r : RA h vs ds as) : ∃ bs, RA h vs.reverse ds.reverse bs ∧ (∀ b ∈ bs, b ∈ as) := by
  refine RA.ind (N := fun vs ds as => ∃ bs, RA h vs.reverse ds.reverse bs ∧ (∀ b ∈ bs, b ∈ as)) ⟨[], .nil, fun _ hb => nomatch hb⟩ (fun {v vs d ds as cs} x r i => ?_) r
  obtain ⟨bs, q, hs⟩ := i
  refine ⟨bs ++ (as ++ []), by rw [List.reverse_cons, List.reverse_cons]; exact q.append (.cons x .nil), fun b hb => ?_⟩
  rcases List.mem_append.mp hb with hb | hb
  · exact List.mem_append_right _ (hs b hb)
  · exact List.mem_append_left _ (by rwa [List.append_nil] at hb)

/-- ints -/
theorem RA.ints {h : Heap} {vs : List Value} {ds : List PyData} {as : List Addr} {ns : List Int} (r : RA h vs ds as) (e : intsOf ds = some ns) : IntsAre vs ns ∧ as = [] ∧ ds = ns.map .int := by
  refine RA.ind (N := fun vs ds as => ∀ ns, intsOf ds = some ns → IntsAre vs ns ∧ as = [] ∧ ds = ns.map .int) (fun ns e => ?_) (fun {v vs d ds as cs} x r i ns e => ?_) r ns e
  · cases e; exact ⟨.nil, rfl, rfl⟩
  · cases x with
    | int j t =>
      obtain ⟨ms, e1, rfl⟩ := Option.map_eq_some_iff.mp (show (intsOf ds).map (j :: ·) = some ns from e)
      obtain ⟨a, rfl, rfl⟩ := i ms e1
      exact ⟨.cons j t a, rfl, rfl⟩
    | _ => cases e
theorem RA.of_ints {h : Heap} : ∀ {vs : List Value} {ns : List Int}, IntsAre vs ns → RA h vs (ns.map .int) []
  | _, _, .nil => .nil
  | _, _, .cons i t r => .cons (as := []) (.int i t) (RA.of_ints r)

mutual
/-- nothing within is too large -/
noncomputable def sz : PyData → Bool
  | .none | .bool _ | .int _ => true
  | .str x => decide (x.length ≤ 2 ^ 22)
  | .list xs | .tuple xs => decide (xs.length ≤ 2 ^ 22) && szs xs
  | .dict _ => false
noncomputable def szs : List PyData → Bool
  | [] => true
  | x :: xs => sz x && szs xs
end
theorem szs_iff {xs : List PyData} : szs xs = true ↔ ∀ x ∈ xs, sz x = true := by
  induction xs with
  | nil => simp [szs]
  | cons x xs ih => simp [szs, ih]
theorem sz_list {xs : List PyData} : sz (.list xs) = true ↔ xs.length ≤ 2 ^ 22 ∧ ∀ x ∈ xs, sz x = true := by simp [sz, szs_iff]
theorem sz_tuple {xs : List PyData} : sz (.tuple xs) = true ↔ xs.length ≤ 2 ^ 22 ∧ ∀ x ∈ xs, sz x = true := by simp [sz, szs_iff]
theorem szs_ints (ns : List Int) : ∀ x ∈ ns.map PyData.int, sz x = true := by
  intro x hx; obtain ⟨i, _, rfl⟩ := List.mem_map.mp hx; rfl

end Mine

namespace Mine
open PySem PyProof.Rows

/-! the match of the own tree with the model's -/
noncomputable def varK (ns : List (Str × NameKind)) (x : String) : Bool := !(Str.ofString x == Str.ofString ".0") && (match ns.lookup (Str.ofString x) with
  | some .local | some .cell | some .free => true
  | _ => false)
noncomputable def glbK (ns : List (Str × NameKind)) (x : String) : Bool := ns.lookup (Str.ofString x) == some .globalImplicit
noncomputable def notDebug (x : String) : Bool := !(Str.ofString x == ("__debug__" : Str)) && !(Str.ofString x == ("__classdict__" : Str))

noncomputable def bOp : BOp → Operator
  | .add => .Add | .sub => .Sub | .mul => .Mult | .fdiv => .FloorDiv | .mod => .Mod | .pow => .Pow | .xor => .BitXor
noncomputable def cOp : COp → CmpOp
  | .eq => .Eq | .ne => .NotEq | .lt => .Lt | .le => .LtE | .gt => .Gt | .ge => .GtE | .isin => .In | .notin => .NotIn | .is => .Is | .isnot => .IsNot
noncomputable def opB (o : BOp) (p : Operator) : Bool := decide (p = bOp o)
noncomputable def opC (o : COp) (p : CmpOp) : Bool := decide (p = cOp o)
noncomputable def b1n : B1 → String
  | .len => "len" | .list => "list" | .tuple => "tuple" | .sorted => "sorted" | .max => "max" | .sum => "sum"

noncomputable def relN (outer inner : List (Str × NameKind)) : List (Str × NameKind) :=
  inner.map fun (n, k) => if k == .free && outer.lookup n == some .cell then (n, .cell) else (n, k)

/-- the scope of a comprehension, within another -/
noncomputable def okSc (ns : List (Str × NameKind)) (sc : Scope) (x : String) : Bool :=
  sc.kind == .function && decide ((sc.names.map (·.1)).Nodup) && (sc.names.lookup (Str.ofString x) == some .local || sc.names.lookup (Str.ofString x) == some .cell) &&
  sc.names.all fun p => (p.2 == .local && (p.1 == Str.ofString x || p.1 == Str.ofString ".0")) || p.2 == .globalImplicit || (p.2 == .cell && p.1 == Str.ofString x) || (p.2 == .free && (ns.lookup p.1 == some .cell || ns.lookup p.1 == some .free))

noncomputable def anyO {α : Type} (o : Option α) (f : α → Bool) : Bool := match o with
  | some a => f a
  | none => false
theorem anyO_inv {α : Type} {o : Option α} {f : α → Bool} (h : anyO o f = true) : ∃ a, o = some a ∧ f a = true := by
  cases o with
  | none => cases h
  | some a => exact ⟨a, rfl, h⟩

/-! what an expression is made of -/
structure Pt where
  tag : Nat := 0
  e1 : Expr := default
  e2 : Expr := default
  es : List Expr := []
  st : Str := default
  co : Const := default
  n : Nat := 0
  op : Operator := default
  un : UnaryOp := default
  bo : BoolOp := default
  cs : List CmpOp := []
  ks : List (Option Expr) := []
  gs : List Comprehension := []
  sc : Scope := default
  o1 : Option Expr := none
  o2 : Option Expr := none
  o3 : Option Expr := none
  kw : List Keyword := []
  pos : Pos := default
noncomputable def pt : Expr → Pt
  | .Name x0 x1 => { tag := 1, st := x0, pos := x1 }
  | .Constant x0 x1 x2 => { tag := 2, co := x0, n := x1, pos := x2 }
  | .BinOp x0 x1 x2 x3 => { tag := 3, e1 := x0, op := x1, e2 := x2, pos := x3 }
  | .UnaryOp x0 x1 x2 => { tag := 4, un := x0, e1 := x1, pos := x2 }
  | .Compare x0 x1 x2 x3 => { tag := 5, e1 := x0, cs := x1, es := x2, pos := x3 }
  | .BoolOp x0 x1 x2 => { tag := 6, bo := x0, es := x1, pos := x2 }
  | .List x0 x1 => { tag := 7, es := x0, pos := x1 }
  | .Tuple x0 x1 x2 => { tag := 8, es := x0, n := x1, pos := x2 }
  | .Dict x0 x1 x2 => { tag := 9, ks := x0, es := x1, pos := x2 }
  | .ListComp x0 x1 x2 x3 => { tag := 10, e1 := x0, gs := x1, sc := x2, pos := x3 }
  | .Subscript x0 x1 x2 => { tag := 11, e1 := x0, e2 := x1, pos := x2 }
  | .Slice x0 x1 x2 x3 => { tag := 12, o1 := x0, o2 := x1, o3 := x2, pos := x3 }
  | .Call x0 x1 x2 x3 => { tag := 13, e1 := x0, es := x1, kw := x2, pos := x3 }
  | .Attribute x0 x1 x2 => { tag := 14, e1 := x0, st := x1, pos := x2 }
  | _ => {}
noncomputable def ptB (n : Nat) (p : Pt) : Expr := match n with
  | 1 => .Name p.st p.pos
  | 2 => .Constant p.co p.n p.pos
  | 3 => .BinOp p.e1 p.op p.e2 p.pos
  | 4 => .UnaryOp p.un p.e1 p.pos
  | 5 => .Compare p.e1 p.cs p.es p.pos
  | 6 => .BoolOp p.bo p.es p.pos
  | 7 => .List p.es p.pos
  | 8 => .Tuple p.es p.n p.pos
  | 9 => .Dict p.ks p.es p.pos
  | 10 => .ListComp p.e1 p.gs p.sc p.pos
  | 11 => .Subscript p.e1 p.e2 p.pos
  | 12 => .Slice p.o1 p.o2 p.o3 p.pos
  | 13 => .Call p.e1 p.es p.kw p.pos
  | 14 => .Attribute p.e1 p.st p.pos
  | _ => default
theorem pt_back (e : Expr) : (pt e).tag = 0 ∨ ptB (pt e).tag (pt e) = e := by cases e <;> first | exact .inr rfl | exact .inl rfl
theorem pt_inv {e : Expr} {n : Nat} (hn : n ≠ 0) (h : (pt e).tag = n) : e = ptB n (pt e) := by
  rcases pt_back e with q | q
  · exact absurd (h.symm.trans q) hn
  · rw [h] at q; exact q.symm
noncomputable def ifN {α : Type} (m n : Nat) (a : α) : Option α := if m = n then some a else none
theorem ifN_inv {α : Type} {m n : Nat} {a b : α} (h : ifN m n a = some b) : m = n ∧ a = b := by
  unfold ifN at h
  by_cases q : m = n
  · rw [if_pos q] at h; exact ⟨q, Option.some.inj h⟩
  · rw [if_neg q] at h; cases h
noncomputable def dName (e : Expr) : Option (Str × Pos) := ifN (pt e).tag 1 ((pt e).st, (pt e).pos)
noncomputable def dConst (e : Expr) : Option (Const × Nat × Pos) := ifN (pt e).tag 2 ((pt e).co, (pt e).n, (pt e).pos)
noncomputable def dBin (e : Expr) : Option (Expr × Operator × Expr × Pos) := ifN (pt e).tag 3 ((pt e).e1, (pt e).op, (pt e).e2, (pt e).pos)
noncomputable def dUn (e : Expr) : Option (UnaryOp × Expr × Pos) := ifN (pt e).tag 4 ((pt e).un, (pt e).e1, (pt e).pos)
noncomputable def dCmp (e : Expr) : Option (Expr × List CmpOp × List Expr × Pos) := ifN (pt e).tag 5 ((pt e).e1, (pt e).cs, (pt e).es, (pt e).pos)
noncomputable def dBool (e : Expr) : Option (BoolOp × List Expr × Pos) := ifN (pt e).tag 6 ((pt e).bo, (pt e).es, (pt e).pos)
noncomputable def dList (e : Expr) : Option (List Expr × Pos) := ifN (pt e).tag 7 ((pt e).es, (pt e).pos)
noncomputable def dTup (e : Expr) : Option (List Expr × Nat × Pos) := ifN (pt e).tag 8 ((pt e).es, (pt e).n, (pt e).pos)
noncomputable def dLC (e : Expr) : Option (Expr × List Comprehension × Scope × Pos) := ifN (pt e).tag 10 ((pt e).e1, (pt e).gs, (pt e).sc, (pt e).pos)
noncomputable def dSub (e : Expr) : Option (Expr × Expr × Pos) := ifN (pt e).tag 11 ((pt e).e1, (pt e).e2, (pt e).pos)
noncomputable def dSlice (e : Expr) : Option (Option Expr × Option Expr × Option Expr × Pos) := ifN (pt e).tag 12 ((pt e).o1, (pt e).o2, (pt e).o3, (pt e).pos)
noncomputable def dCall (e : Expr) : Option (Expr × List Expr × List Keyword × Pos) := ifN (pt e).tag 13 ((pt e).e1, (pt e).es, (pt e).kw, (pt e).pos)
noncomputable def dAttr (e : Expr) : Option (Expr × Str × Pos) := ifN (pt e).tag 14 ((pt e).e1, (pt e).st, (pt e).pos)
noncomputable def cInt : Const → Option Int
  | .int i => some i
  | _ => none
noncomputable def cStr : Const → Option Str
  | .str i => some i
  | _ => none
noncomputable def cBool : Const → Option Bool
  | .bool i => some i
  | _ => none
noncomputable def cNone : Const → Option Unit
  | .none => some ()
  | _ => none
noncomputable def dOne {α : Type} : List α → Option α
  | [x] => some x
  | _ => none
noncomputable def dTwo {α : Type} : List α → Option (α × α)
  | [x, y] => some (x, y)
  | _ => none
noncomputable def dNil {α : Type} : List α → Option Unit
  | [] => some ()
  | _ => none
noncomputable def dCons {α : Type} : List α → Option (α × List α)
  | x :: y => some (x, y)
  | _ => none

section
variable {e : Expr}
theorem dName_inv {q : Str × Pos} (h : dName e = some q) : e = .Name q.1 q.2 := by
  obtain ⟨h1, rfl⟩ := ifN_inv h
  exact pt_inv (by decide) h1
theorem dConst_inv {q : Const × Nat × Pos} (h : dConst e = some q) : e = .Constant q.1 q.2.1 q.2.2 := by
  obtain ⟨h1, rfl⟩ := ifN_inv h
  exact pt_inv (by decide) h1
theorem dBin_inv {q : Expr × Operator × Expr × Pos} (h : dBin e = some q) : e = .BinOp q.1 q.2.1 q.2.2.1 q.2.2.2 := by
  obtain ⟨h1, rfl⟩ := ifN_inv h
  exact pt_inv (by decide) h1
theorem dUn_inv {q : UnaryOp × Expr × Pos} (h : dUn e = some q) : e = .UnaryOp q.1 q.2.1 q.2.2 := by
  obtain ⟨h1, rfl⟩ := ifN_inv h
  exact pt_inv (by decide) h1
theorem dCmp_inv {q : Expr × List CmpOp × List Expr × Pos} (h : dCmp e = some q) : e = .Compare q.1 q.2.1 q.2.2.1 q.2.2.2 := by
  obtain ⟨h1, rfl⟩ := ifN_inv h
  exact pt_inv (by decide) h1
theorem dBool_inv {q : BoolOp × List Expr × Pos} (h : dBool e = some q) : e = .BoolOp q.1 q.2.1 q.2.2 := by
  obtain ⟨h1, rfl⟩ := ifN_inv h
  exact pt_inv (by decide) h1
theorem dList_inv {q : List Expr × Pos} (h : dList e = some q) : e = .List q.1 q.2 := by
  obtain ⟨h1, rfl⟩ := ifN_inv h
  exact pt_inv (by decide) h1
theorem dTup_inv {q : List Expr × Nat × Pos} (h : dTup e = some q) : e = .Tuple q.1 q.2.1 q.2.2 := by
  obtain ⟨h1, rfl⟩ := ifN_inv h
  exact pt_inv (by decide) h1
theorem dLC_inv {q : Expr × List Comprehension × Scope × Pos} (h : dLC e = some q) : e = .ListComp q.1 q.2.1 q.2.2.1 q.2.2.2 := by
  obtain ⟨h1, rfl⟩ := ifN_inv h
  exact pt_inv (by decide) h1
theorem dSub_inv {q : Expr × Expr × Pos} (h : dSub e = some q) : e = .Subscript q.1 q.2.1 q.2.2 := by
  obtain ⟨h1, rfl⟩ := ifN_inv h
  exact pt_inv (by decide) h1
theorem dSlice_inv {q : Option Expr × Option Expr × Option Expr × Pos} (h : dSlice e = some q) : e = .Slice q.1 q.2.1 q.2.2.1 q.2.2.2 := by
  obtain ⟨h1, rfl⟩ := ifN_inv h
  exact pt_inv (by decide) h1
theorem dCall_inv {q : Expr × List Expr × List Keyword × Pos} (h : dCall e = some q) : e = .Call q.1 q.2.1 q.2.2.1 q.2.2.2 := by
  obtain ⟨h1, rfl⟩ := ifN_inv h
  exact pt_inv (by decide) h1
theorem dAttr_inv {q : Expr × Str × Pos} (h : dAttr e = some q) : e = .Attribute q.1 q.2.1 q.2.2 := by
  obtain ⟨h1, rfl⟩ := ifN_inv h
  exact pt_inv (by decide) h1
theorem cInt_inv {c : Const} {q : Int} (h : cInt c = some q) : c = .int q := by cases c <;> cases h; rfl
theorem cStr_inv {c : Const} {q : Str} (h : cStr c = some q) : c = .str q := by cases c <;> cases h; rfl
theorem cBool_inv {c : Const} {q : Bool} (h : cBool c = some q) : c = .bool q := by cases c <;> cases h; rfl
theorem cNone_inv {c : Const} {q : Unit} (h : cNone c = some q) : c = .none := by cases c <;> cases h; rfl
variable {α : Type} {l : List α}
theorem dNil_inv {q : Unit} (h : dNil l = some q) : l = [] := by
  cases l with
  | nil => rfl
  | cons => cases h
theorem dCons_inv {q : α × List α} (h : dCons l = some q) : l = q.1 :: q.2 := by
  cases l with
  | nil => cases h
  | cons => cases h; rfl
theorem dOne_inv {q : α} (h : dOne l = some q) : l = [q] := by
  cases l with
  | nil => cases h
  | cons x l =>
    cases l with
    | nil => cases h; rfl
    | cons => cases h
theorem dTwo_inv {q : α × α} (h : dTwo l = some q) : l = [q.1, q.2] := by
  cases l with
  | nil => cases h
  | cons x l =>
    cases l with
    | nil => cases h
    | cons y l =>
      cases l with
      | nil => cases h; rfl
      | cons => cases h
end

/-- a call of a name, with these arguments: the name, its place, the arguments, the place -/
noncomputable def dFn (e : Expr) : Option (Str × Pos × List Expr × Pos) := (dCall e).bind fun q => (dNil q.2.2.1).bind fun _ => (dName q.1).map fun n => (n.1, n.2, q.2.1, q.2.2.2)
theorem dFn_inv {e : Expr} {q : Str × Pos × List Expr × Pos} (h : dFn e = some q) : e = .Call (.Name q.1 q.2.1) q.2.2.1 [] q.2.2.2 := by
  obtain ⟨c, h1, h⟩ := Option.bind_eq_some_iff.mp h
  obtain ⟨u, h2, h⟩ := Option.bind_eq_some_iff.mp h
  obtain ⟨n, h3, h⟩ := Option.map_eq_some_iff.mp h
  subst h
  rw [dCall_inv h1, dNil_inv h2, dName_inv h3]
/-- a comprehension over one name -/
noncomputable def dComp (e : Expr) : Option (Expr × Str × Pos × Expr × List Expr × Scope × Pos) := (dLC e).bind fun q => (dOne q.2.1).bind fun g => (dName g.target).bind fun n => if g.is_async = 0 then some (q.1, n.1, n.2, g.iter, g.ifs, q.2.2.1, q.2.2.2) else none
theorem dComp_inv {e : Expr} {q : Expr × Str × Pos × Expr × List Expr × Scope × Pos} (h : dComp e = some q) : e = .ListComp q.1 [⟨.Name q.2.1 q.2.2.1, q.2.2.2.1, q.2.2.2.2.1, 0⟩] q.2.2.2.2.2.1 q.2.2.2.2.2.2 := by
  obtain ⟨c, h1, h⟩ := Option.bind_eq_some_iff.mp h
  obtain ⟨⟨gt, gi, gf, ga⟩, h2, h⟩ := Option.bind_eq_some_iff.mp h
  obtain ⟨n, h3, h⟩ := Option.bind_eq_some_iff.mp h
  dsimp only at h h3
  split at h
  · rename_i h4
    cases h
    rw [dLC_inv h1, dOne_inv h2, dName_inv h3, h4]
  · cases h
noncomputable def dSl (e : Expr) : Option (Expr × Option Expr × Option Expr × Option Expr × Pos × Pos) := (dSub e).bind fun q => (dSlice q.2.1).map fun s => (q.1, s.1, s.2.1, s.2.2.1, s.2.2.2, q.2.2)
theorem dSl_inv {e : Expr} {q : Expr × Option Expr × Option Expr × Option Expr × Pos × Pos} (h : dSl e = some q) : e = .Subscript q.1 (.Slice q.2.1 q.2.2.1 q.2.2.2.1 q.2.2.2.2.1) q.2.2.2.2.2 := by
  obtain ⟨c, h1, h⟩ := Option.bind_eq_some_iff.mp h
  obtain ⟨n, h3, h⟩ := Option.map_eq_some_iff.mp h
  subst h
  rw [dSub_inv h1, dSlice_inv h3]

/-! sorted(range(len(x)), key=lambda t: (-x[t], t)) -/
noncomputable def dLam : Expr → Option (Arguments × Expr × Scope × Pos)
  | .Lambda a b s p => some (a, b, s, p)
  | _ => none
theorem dLam_inv {e : Expr} {q : Arguments × Expr × Scope × Pos} (h : dLam e = some q) : e = .Lambda q.1 q.2.1 q.2.2.1 q.2.2.2 := by
  cases e <;> first | (cases h; rfl) | cases h
noncomputable def okNm (ns : List (Str × NameKind)) (x : String) (ex : Expr) : Bool := anyO (dName ex) fun q => q.1 == Str.ofString x && varK ns x && notDebug x
noncomputable def okLn (ns : List (Str × NameKind)) (x : String) (ex : Expr) : Bool := anyO (dFn ex) fun q => anyO (dOne q.2.2.1) fun y => q.1 == Str.ofString (b1n .len) && glbK ns (b1n .len) && okNm ns x y
noncomputable def okBd (ns : List (Str × NameKind)) (x t : String) (ex : Expr) : Bool := anyO (dTup ex) fun q => decide (q.1.length < 1000) && anyO (dCons q.1) fun y => (anyO (dUn y.1) fun u => decide (u.1 = .USub) && anyO (dSub u.2.1) fun z => okNm ns x z.1 && okNm ns t z.2.1) && anyO (dCons y.2) fun v => okNm ns t v.1 && (dNil v.2).isSome
noncomputable def okLm (ns : List (Str × NameKind)) (x t : String) (a : Arguments) (sc : Scope) : Bool :=
  a.posonlyargs.isEmpty && decide (a.args.map (·.arg) = [Str.ofString t]) && a.vararg.isNone && a.kwonlyargs.isEmpty && a.kw_defaults.isEmpty && a.kwarg.isNone && a.defaults.isEmpty &&
  decide (sc.kind = .function) && !sc.isGenerator && !sc.isCoroutine && decide (sc.names = [(Str.ofString t, .local), (Str.ofString x, .free)]) && decide (x ≠ t) && decide (ns.lookup (Str.ofString x) = some .cell)
noncomputable def okOr (ns : List (Str × NameKind)) (x t : String) (ex : Expr) : Bool := anyO (dCall ex) fun q => anyO (dName q.1) fun f => anyO (dOne q.2.1) fun rg => anyO (dOne q.2.2.1) fun kw => anyO (dFn rg) fun r => anyO (dOne r.2.2.1) fun y => anyO (dLam kw.value) fun l =>
  f.1 == Str.ofString "sorted" && glbK ns "sorted" && decide (kw.arg = some (Str.ofString "key")) && r.1 == Str.ofString "range" && glbK ns "range" && okLn ns x y && okLm ns x t l.1 l.2.2.1 && okBd l.2.2.1.names x t l.2.1

mutual
noncomputable def okE (ns : List (Str × NameKind)) : E → Expr → Bool
  | .name x, ex => anyO (dName ex) fun q => q.1 == Str.ofString x && varK ns x && notDebug x
  | .int i, ex => anyO (dConst ex) fun q => anyO (cInt q.1) fun j => i == j
  | .str s, ex => anyO (dConst ex) fun q => anyO (cStr q.1) fun t => Str.ofString s == t && decide (t.length ≤ 2 ^ 22)
  | .bool b, ex => anyO (dConst ex) fun q => anyO (cBool q.1) fun c => b == c
  | .none, ex => anyO (dConst ex) fun q => (cNone q.1).isSome
  | .bin o a b, ex => anyO (dBin ex) fun q => opB o q.2.1 && okE ns a q.1 && okE ns b q.2.2.1
  | .neg a, ex => anyO (dUn ex) fun q => decide (q.1 = .USub) && okE ns a q.2.1
  | .not a, ex => anyO (dUn ex) fun q => decide (q.1 = .Not) && okE ns a q.2.1
  | .cmp o a b, ex => anyO (dCmp ex) fun q => anyO (dOne q.2.1) fun op => anyO (dOne q.2.2.1) fun r => opC o op && okE ns a q.1 && okE ns b r
  | .and a b, ex => anyO (dBool ex) fun q => decide (q.1 = .And) && anyO (dCons q.2.1) fun v => okE ns a v.1 && (match dOne v.2 with | some u => okE ns b u | none => okA ns b v.2)
  | .or a b, ex => anyO (dBool ex) fun q => decide (q.1 = .Or) && anyO (dCons q.2.1) fun v => okE ns a v.1 && (match dOne v.2 with | some u => okE ns b u | none => okO ns b v.2)
  | .list es, ex => anyO (dList ex) fun q => decide (q.1.length < 1000) && okEs ns es q.1
  | .tup es, ex => anyO (dTup ex) fun q => decide (q.1.length < 1000) && okEs ns es q.1
  | .comp elt x it, ex => anyO (dComp ex) fun q => anyO (dNil q.2.2.2.2.1) fun _ => q.2.1 == Str.ofString x && okSc ns q.2.2.2.2.2.1 x && okIt ns it q.2.2.2.1 && okE (relN ns q.2.2.2.2.2.1.names) elt q.1
  | .compif elt x it c, ex => anyO (dComp ex) fun q => anyO (dOne q.2.2.2.2.1) fun f => q.2.1 == Str.ofString x && okSc ns q.2.2.2.2.2.1 x && okIt ns it q.2.2.2.1 && okE (relN ns q.2.2.2.2.2.1.names) c f && okE (relN ns q.2.2.2.2.2.1.names) elt q.1
  | .sub a i, ex => anyO (dSub ex) fun q => okE ns a q.1 && okE ns i q.2.1
  | .rev a, ex => anyO (dSl ex) fun q => anyO q.2.2.2.1 fun l => q.2.1.isNone && q.2.2.1.isNone && (anyO (dUn l) fun u => decide (u.1 = .USub) && anyO (dConst u.2.1) fun c => anyO (cInt c.1) fun i => i == 1 && okE ns a q.1)
  | .bi1 f a, ex => anyO (dFn ex) fun q => anyO (dOne q.2.2.1) fun x => q.1 == Str.ofString (b1n f) && glbK ns (b1n f) && okE ns a x
  | .isi a t, ex => anyO (dFn ex) fun q => anyO (dTwo q.2.2.1) fun x => anyO (dName x.2) fun c => q.1 == Str.ofString "isinstance" && glbK ns "isinstance" && okE ns a x.1 && c.1 == Str.ofString t && glbK ns t && notDebug t
  | .call f es, ex => anyO (dFn ex) fun q => q.1 == Str.ofString f && glbK ns f && notDebug f && !q.2.2.1.isEmpty && decide (q.2.2.1.length < 20) && okEs ns es q.2.2.1
  | .order x t, ex => okOr ns x t ex
termination_by structural e => e
noncomputable def okA (ns : List (Str × NameKind)) : E → List Expr → Bool
  | .and a b, ex => anyO (dCons ex) fun v => okE ns a v.1 && (match dOne v.2 with | some u => okE ns b u | none => okA ns b v.2)
  | _, _ => false
termination_by structural e => e
noncomputable def okO (ns : List (Str × NameKind)) : E → List Expr → Bool
  | .or a b, ex => anyO (dCons ex) fun v => okE ns a v.1 && (match dOne v.2 with | some u => okE ns b u | none => okO ns b v.2)
  | _, _ => false
termination_by structural e => e
noncomputable def okEs (ns : List (Str × NameKind)) : Es → List Expr → Bool
  | .nil, ex => (dNil ex).isSome
  | .cons e es, ex => anyO (dCons ex) fun q => okE ns e q.1 && okEs ns es q.2
termination_by structural e => e
noncomputable def okIt (ns : List (Str × NameKind)) : It → Expr → Bool
  | .e a, x => okE ns a x
  | .r1 n, ex => anyO (dFn ex) fun q => anyO (dOne q.2.2.1) fun x => q.1 == Str.ofString "range" && glbK ns "range" && okE ns n x
  | .r2 a b, ex => anyO (dFn ex) fun q => anyO (dTwo q.2.2.1) fun x => q.1 == Str.ofString "range" && glbK ns "range" && okE ns a x.1 && okE ns b x.2
termination_by structural e => e
end

section
variable {ns : List (Str × NameKind)} {ex : Expr} {a b c : E}
theorem i_name {x : String} (h : okE ns (.name x) ex = true) : (∃ id p, ex = .Name id p ∧ (id == Str.ofString x && varK ns x && notDebug x) = true) ∨ False := by
  obtain ⟨q, e, h⟩ := anyO_inv h
  exact .inl ⟨q.1, q.2, dName_inv e, h⟩
theorem i_int {i : Int} (h : okE ns (.int i) ex = true) : (∃ j k p, ex = .Constant (.int j) k p ∧ (i == j) = true) ∨ False := by
  obtain ⟨q, e, h⟩ := anyO_inv h
  obtain ⟨j, e', h⟩ := anyO_inv h
  exact .inl ⟨j, q.2.1, q.2.2, by rw [dConst_inv e, cInt_inv e'], h⟩
theorem i_str {s : String} (h : okE ns (.str s) ex = true) : (∃ t k p, ex = .Constant (.str t) k p ∧ (Str.ofString s == t && decide (t.length ≤ 2 ^ 22)) = true) ∨ False := by
  obtain ⟨q, e, h⟩ := anyO_inv h
  obtain ⟨j, e', h⟩ := anyO_inv h
  exact .inl ⟨j, q.2.1, q.2.2, by rw [dConst_inv e, cStr_inv e'], h⟩
theorem i_bool {s : Bool} (h : okE ns (.bool s) ex = true) : (∃ t k p, ex = .Constant (.bool t) k p ∧ (s == t) = true) ∨ False := by
  obtain ⟨q, e, h⟩ := anyO_inv h
  obtain ⟨j, e', h⟩ := anyO_inv h
  exact .inl ⟨j, q.2.1, q.2.2, by rw [dConst_inv e, cBool_inv e'], h⟩
theorem i_none (h : okE ns .none ex = true) : (∃ k p, ex = .Constant .none k p ∧ True) ∨ False := by
  obtain ⟨q, e, h⟩ := anyO_inv h
  obtain ⟨j, e'⟩ := Option.isSome_iff_exists.mp h
  exact .inl ⟨q.2.1, q.2.2, by rw [dConst_inv e, cNone_inv e'], trivial⟩
theorem i_bin {o : BOp} (h : okE ns (.bin o a b) ex = true) : (∃ l op r p, ex = .BinOp l op r p ∧ (opB o op && okE ns a l && okE ns b r) = true) ∨ False := by
  obtain ⟨q, e, h⟩ := anyO_inv h
  exact .inl ⟨_, _, _, _, dBin_inv e, h⟩
theorem i_neg (h : okE ns (.neg a) ex = true) : (∃ x p, ex = .UnaryOp .USub x p ∧ okE ns a x = true) ∨ False := by
  obtain ⟨q, e, h⟩ := anyO_inv h
  obtain ⟨h1, h2⟩ := Bool.and_eq_true_iff.mp h
  exact .inl ⟨_, _, by rw [dUn_inv e, of_decide_eq_true h1], h2⟩
theorem i_not (h : okE ns (.not a) ex = true) : (∃ x p, ex = .UnaryOp .Not x p ∧ okE ns a x = true) ∨ False := by
  obtain ⟨q, e, h⟩ := anyO_inv h
  obtain ⟨h1, h2⟩ := Bool.and_eq_true_iff.mp h
  exact .inl ⟨_, _, by rw [dUn_inv e, of_decide_eq_true h1], h2⟩
theorem i_cmp {o : COp} (h : okE ns (.cmp o a b) ex = true) : (∃ l op r p, ex = .Compare l [op] [r] p ∧ (opC o op && okE ns a l && okE ns b r) = true) ∨ False := by
  obtain ⟨q, e, h⟩ := anyO_inv h
  obtain ⟨op, e1, h⟩ := anyO_inv h
  obtain ⟨r, e2, h⟩ := anyO_inv h
  exact .inl ⟨_, op, r, _, by rw [dCmp_inv e, dOne_inv e1, dOne_inv e2], h⟩
noncomputable def okA' (ns : List (Str × NameKind)) (b : E) (vs : List Expr) : Bool := match dOne vs with | some u => okE ns b u | none => okA ns b vs
noncomputable def okO' (ns : List (Str × NameKind)) (b : E) (vs : List Expr) : Bool := match dOne vs with | some u => okE ns b u | none => okO ns b vs
theorem i_and (h : okE ns (.and a b) ex = true) : (∃ v vs p, ex = .BoolOp .And (v :: vs) p ∧ (okE ns a v && okA' ns b vs) = true) ∨ False := by
  obtain ⟨q, e, h⟩ := anyO_inv h
  obtain ⟨h1, h2⟩ := Bool.and_eq_true_iff.mp h
  obtain ⟨v, e1, h⟩ := anyO_inv h2
  exact .inl ⟨_, _, _, by rw [dBool_inv e, of_decide_eq_true h1, dCons_inv e1], h⟩
theorem i_or (h : okE ns (.or a b) ex = true) : (∃ v vs p, ex = .BoolOp .Or (v :: vs) p ∧ (okE ns a v && okO' ns b vs) = true) ∨ False := by
  obtain ⟨q, e, h⟩ := anyO_inv h
  obtain ⟨h1, h2⟩ := Bool.and_eq_true_iff.mp h
  obtain ⟨v, e1, h⟩ := anyO_inv h2
  exact .inl ⟨_, _, _, by rw [dBool_inv e, of_decide_eq_true h1, dCons_inv e1], h⟩
theorem i_A {xs : List Expr} (h : okA ns (.and a b) xs = true) : (∃ v vs, xs = v :: vs ∧ (okE ns a v && okA' ns b vs) = true) ∨ False := by
  obtain ⟨q, e, h⟩ := anyO_inv h
  exact .inl ⟨_, _, dCons_inv e, h⟩
theorem i_O {xs : List Expr} (h : okO ns (.or a b) xs = true) : (∃ v vs, xs = v :: vs ∧ (okE ns a v && okO' ns b vs) = true) ∨ False := by
  obtain ⟨q, e, h⟩ := anyO_inv h
  exact .inl ⟨_, _, dCons_inv e, h⟩
theorem i_list {es : Es} (h : okE ns (.list es) ex = true) : (∃ xs p, ex = .List xs p ∧ (decide (xs.length < 1000) && okEs ns es xs) = true) ∨ False := by
  obtain ⟨q, e, h⟩ := anyO_inv h
  exact .inl ⟨_, _, dList_inv e, h⟩
theorem i_tup {es : Es} (h : okE ns (.tup es) ex = true) : (∃ xs k p, ex = .Tuple xs k p ∧ (decide (xs.length < 1000) && okEs ns es xs) = true) ∨ False := by
  obtain ⟨q, e, h⟩ := anyO_inv h
  exact .inl ⟨_, _, _, dTup_inv e, h⟩
theorem i_comp {x : String} {it : It} (h : okE ns (.comp a x it) ex = true) : (∃ e t pt i sc p, ex = .ListComp e [⟨.Name t pt, i, [], 0⟩] sc p ∧ (t == Str.ofString x && okSc ns sc x && okIt ns it i && okE (relN ns sc.names) a e) = true) ∨ False := by
  obtain ⟨q, e, h⟩ := anyO_inv h
  obtain ⟨_, e1, h⟩ := anyO_inv h
  exact .inl ⟨_, _, _, _, _, _, by rw [dComp_inv e, dNil_inv e1], h⟩
theorem i_compif {x : String} {it : It} (h : okE ns (.compif a x it c) ex = true) : (∃ e t pt i f sc p, ex = .ListComp e [⟨.Name t pt, i, [f], 0⟩] sc p ∧ (t == Str.ofString x && okSc ns sc x && okIt ns it i && okE (relN ns sc.names) c f && okE (relN ns sc.names) a e) = true) ∨ False := by
  obtain ⟨q, e, h⟩ := anyO_inv h
  obtain ⟨_, e1, h⟩ := anyO_inv h
  exact .inl ⟨_, _, _, _, _, _, _, by rw [dComp_inv e, dOne_inv e1], h⟩
theorem i_sub (h : okE ns (.sub a b) ex = true) : (∃ v s p, ex = .Subscript v s p ∧ (okE ns a v && okE ns b s) = true) ∨ False := by
  obtain ⟨q, e, h⟩ := anyO_inv h
  exact .inl ⟨_, _, _, dSub_inv e, h⟩
theorem isNone_inv {α : Type} {o : Option α} (h : o.isNone = true) : o = none := by cases o with | none => rfl | some => cases h
theorem i_rev (h : okE ns (.rev a) ex = true) : (∃ v i n1 p1 p2 p pos, ex = .Subscript v (.Slice none none (some (.UnaryOp .USub (.Constant (.int i) n1 p1) p2)) p) pos ∧ (i == 1 && okE ns a v) = true) ∨ False := by
  obtain ⟨q, e, h⟩ := anyO_inv h
  obtain ⟨l, e1, h⟩ := anyO_inv h
  obtain ⟨h1, h2⟩ := Bool.and_eq_true_iff.mp h
  obtain ⟨h3, h4⟩ := Bool.and_eq_true_iff.mp h1
  obtain ⟨u, e2, h⟩ := anyO_inv h2
  obtain ⟨h5, h6⟩ := Bool.and_eq_true_iff.mp h
  obtain ⟨c, e3, h⟩ := anyO_inv h6
  obtain ⟨i, e4, h⟩ := anyO_inv h
  exact .inl ⟨_, i, _, _, _, _, _, by rw [dSl_inv e, e1, isNone_inv h3, isNone_inv h4, dUn_inv e2, of_decide_eq_true h5, dConst_inv e3, cInt_inv e4], h⟩
theorem i_bi1 {f : B1} (h : okE ns (.bi1 f a) ex = true) : (∃ id p x pos, ex = .Call (.Name id p) [x] [] pos ∧ (id == Str.ofString (b1n f) && glbK ns (b1n f) && okE ns a x) = true) ∨ False := by
  obtain ⟨q, e, h⟩ := anyO_inv h
  obtain ⟨x, e1, h⟩ := anyO_inv h
  exact .inl ⟨_, _, x, _, by rw [dFn_inv e, dOne_inv e1], h⟩
theorem i_isi {t : String} (h : okE ns (.isi a t) ex = true) : (∃ id p x c pc pos, ex = .Call (.Name id p) [x, .Name c pc] [] pos ∧ (id == Str.ofString "isinstance" && glbK ns "isinstance" && okE ns a x && c == Str.ofString t && glbK ns t && notDebug t) = true) ∨ False := by
  obtain ⟨q, e, h⟩ := anyO_inv h
  obtain ⟨x, e1, h⟩ := anyO_inv h
  obtain ⟨c, e2, h⟩ := anyO_inv h
  exact .inl ⟨_, _, x.1, c.1, c.2, _, by rw [dFn_inv e, dTwo_inv e1, dName_inv e2], h⟩
theorem i_call {f : String} {es : Es} (h : okE ns (.call f es) ex = true) : (∃ id p xs pos, ex = .Call (.Name id p) xs [] pos ∧ (id == Str.ofString f && glbK ns f && notDebug f && !xs.isEmpty && decide (xs.length < 20) && okEs ns es xs) = true) ∨ False := by
  obtain ⟨q, e, h⟩ := anyO_inv h
  exact .inl ⟨_, _, _, _, dFn_inv e, h⟩
noncomputable def bodyE (x t : String) : E := .tup (.cons (.neg (.sub (.name x) (.name t))) (.cons (.name t) .nil))
theorem i_order {x t : String} (h : okE ns (.order x t) ex = true) : (∃ id p jd p2 y p3 ar body sc p4 p5 pos, ex = .Call (.Name id p) [.Call (.Name jd p2) [y] [] p3] [⟨some (Str.ofString "key"), .Lambda ar body sc p4, p5⟩] pos ∧
    (id == Str.ofString "sorted" && glbK ns "sorted" && jd == Str.ofString "range" && glbK ns "range" && okLn ns x y && okLm ns x t ar sc && okBd sc.names x t body) = true) ∨ False := by
  obtain ⟨q, e, h⟩ := anyO_inv (show okOr ns x t ex = true from h)
  obtain ⟨f, e1, h⟩ := anyO_inv h
  obtain ⟨rg, e2, h⟩ := anyO_inv h
  obtain ⟨⟨ka, kv, kp⟩, e3, h⟩ := anyO_inv h
  obtain ⟨r, e4, h⟩ := anyO_inv h
  obtain ⟨y, e5, h⟩ := anyO_inv h
  obtain ⟨l, e6, h⟩ := anyO_inv h
  simp only [Bool.and_eq_true, decide_eq_true_eq, beq_iff_eq] at h
  obtain ⟨⟨⟨⟨⟨⟨⟨h1, h2⟩, h3⟩, h4⟩, h5⟩, h6⟩, h7⟩, h8⟩ := h
  dsimp only at h3 e6
  refine .inl ⟨f.1, f.2, r.1, r.2.1, y, r.2.2.2, l.1, l.2.1, l.2.2.1, l.2.2.2, kp, q.2.2.2, ?_, ?_⟩
  · rw [dCall_inv e, dName_inv e1, dOne_inv e2, dOne_inv e3, dFn_inv e4, dOne_inv e5, dLam_inv e6, h3]
  · simp only [Bool.and_eq_true, beq_iff_eq]
    exact ⟨⟨⟨⟨⟨⟨h1, h2⟩, h4⟩, h5⟩, h6⟩, h7⟩, h8⟩
theorem i_nil {xs : List Expr} (h : okEs ns .nil xs = true) : (xs = [] ∧ True) ∨ False := by
  obtain ⟨_, e⟩ := Option.isSome_iff_exists.mp (show (dNil xs).isSome = true from h)
  exact .inl ⟨dNil_inv e, trivial⟩
theorem i_cons {es : Es} {xs : List Expr} (h : okEs ns (.cons a es) xs = true) : (∃ x ys, xs = x :: ys ∧ (okE ns a x && okEs ns es ys) = true) ∨ False := by
  obtain ⟨q, e, h⟩ := anyO_inv h
  exact .inl ⟨_, _, dCons_inv e, h⟩
theorem i_r1 (h : okIt ns (.r1 a) ex = true) : (∃ id p x pos, ex = .Call (.Name id p) [x] [] pos ∧ (id == Str.ofString "range" && glbK ns "range" && okE ns a x) = true) ∨ False := by
  obtain ⟨q, e, h⟩ := anyO_inv h
  obtain ⟨x, e1, h⟩ := anyO_inv h
  exact .inl ⟨_, _, x, _, by rw [dFn_inv e, dOne_inv e1], h⟩
theorem i_r2 (h : okIt ns (.r2 a b) ex = true) : (∃ id p x y pos, ex = .Call (.Name id p) [x, y] [] pos ∧ (id == Str.ofString "range" && glbK ns "range" && okE ns a x && okE ns b y) = true) ∨ False := by
  obtain ⟨q, e, h⟩ := anyO_inv h
  obtain ⟨x, e1, h⟩ := anyO_inv h
  exact .inl ⟨_, _, x.1, x.2, _, by rw [dFn_inv e, dTwo_inv e1], h⟩
end

end Mine

set_option linter.unusedSectionVars false
namespace Mine
open PySem PyProof.Rows

noncomputable def Room (k : Nat) (A : Around) : Prop := A.handled = none ∧ A.depth + k + 1 < recursionLimit ∧ A.units + 100 * k + 200 < cLine


/-! ## what is kept -/
class Soft where
  tab : Addr → Prop
  base : Nat
noncomputable def tabO (ps : Array Value) : Obj := { cls := .none, data := .fields ps }
/-- the codes of a table -/
noncomputable def CodesG (h : Heap) (ps : Array Value) : Prop := TriplesOk ps.toList ∧ ∀ pos cv, codeAmong pos ps.toList = some cv → ∃ c o vs q t, cv = .ref c ∧ h.get? c = some o ∧ o.cls = .type "code" ∧ o.data = .fields vs ∧ vs[1]? = some (.str q t)
noncomputable def Stay (o : Obj) : Prop := (o.cls = .type "code" ∧ ∃ fs, o.data = .fields fs) ∨ (o.cls = .type "tuple" ∧ ∃ vs n, o.data = .seq vs n)
section
variable [SF : Soft]
inductive Like (h h' : Heap) (b : Addr) (o o' : Obj) : Prop
  | same : o' = o → Like h h' b o o'
  | tab (ps more : Array Value) : SF.tab b → o = tabO ps → o' = tabO (ps ++ more) → (CodesG h ps → CodesG h' (ps ++ more)) → Like h h' b o o'
  | frame (es : Array DictEntry) (ep : Nat) : SF.base ≤ b → o.cls = .type "frame" → o.data = .dict es ep → o'.cls = o.cls → o'.data = o.data → o'.dict = o.dict → Like h h' b o o'
noncomputable def KG (G : Addr → Prop) (h h' : Heap) : Prop := ∀ b o, G b ∨ Stay o → h.get? b = some o → ∃ o', h'.get? b = some o' ∧ Like h h' b o o'
noncomputable def hardB (o : Obj) : Bool := match o.cls with | .none => false | .type n => n != "frame" | _ => true
theorem Like.hard {h h' : Heap} {b : Addr} {o o' : Obj} (l : Like h h' b o o') (hh : hardB o = true) : o' = o := by
  cases l with
  | same e => exact e
  | tab ps more _ e _ _ => subst e; cases hh
  | frame _ _ _ e _ _ _ _ => unfold hardB at hh; rw [e] at hh; simp at hh
theorem Like.exact {h h' : Heap} {b : Addr} {o o' : Obj} (l : Like h h' b o o') (h1 : ∀ fs, o.data ≠ .fields fs) (h2 : ∀ es ep, o.data ≠ .dict es ep) : o' = o := by
  cases l with
  | same e => exact e
  | tab ps more _ e _ _ => subst e; exact absurd rfl (h1 ps)
  | frame es ep _ _ e _ _ _ => exact absurd e (h2 es ep)
theorem Like.cls {h h' : Heap} {b : Addr} {o o' : Obj} (l : Like h h' b o o') : o'.cls = o.cls := by
  cases l with
  | same e => rw [e]
  | tab ps more _ e e' _ => rw [e, e']; rfl
  | frame _ _ _ _ _ e _ _ => exact e
theorem Like.data {h h' : Heap} {b : Addr} {o o' : Obj} (l : Like h h' b o o') (hn : ∀ fs, o.data ≠ .fields fs) : o'.data = o.data := by
  cases l with
  | same e => rw [e]
  | tab ps more _ e e' _ => exact absurd (by rw [e]; rfl) (hn ps)
  | frame _ _ _ _ _ _ e _ => exact e
theorem Stay.hard {o : Obj} (x : Stay o) : hardB o = true := by
  unfold hardB
  rcases x with x | x
  · rw [x.1]; decide
  · rw [x.1]; decide
section
variable {G G' : Addr → Prop} {h h' h'' : Heap}
theorem KG.of (k : ∀ b o, G b ∨ Stay o → h.get? b = some o → h'.get? b = some o) : KG G h h' := fun b o hb e => ⟨o, k b o hb e, .same rfl⟩
theorem KG.refl : KG G h h := .of fun _ _ _ e => e
theorem KG.hard (k : KG G h h') {b : Addr} {o : Obj} (hb : G b ∨ Stay o) (e : h.get? b = some o) (hh : hardB o = true) : h'.get? b = some o := by
  obtain ⟨o', e', l⟩ := k b o hb e
  rw [e', l.hard hh]
theorem KG.stay (k : KG G h h') {b : Addr} {o : Obj} (e : h.get? b = some o) (x : Stay o) : h'.get? b = some o := k.hard (.inr x) e x.hard
theorem KG.codes (k : KG G h h') {ps : Array Value} (x : CodesG h ps) : CodesG h' ps :=
  ⟨x.1, fun pos cv hc => let ⟨c, o, vs, q, t, a1, a2, a3, a4⟩ := x.2 pos cv hc; ⟨c, o, vs, q, t, a1, k.stay a2 (.inl ⟨a3, _, a4.1⟩), a3, a4⟩⟩
theorem KG.trans (a : KG G h h') (b : KG G h' h'') : KG G h h'' := fun c o hc e => by
  obtain ⟨o', e', l⟩ := a c o hc e
  have hc' : G c ∨ Stay o' := hc.imp id fun x => by rw [l.hard x.hard]; exact x
  obtain ⟨o'', e'', l'⟩ := b c o' hc' e'
  refine ⟨o'', e'', ?_⟩
  cases l with
  | same e1 =>
    subst e1
    cases l' with
    | same e2 => exact .same e2
    | tab ps more t1 t2 t3 t4 => exact .tab ps more t1 t2 t3 fun x => t4 (a.codes x)
    | frame es ep f1 f2 f3 f4 f5 f6 => exact .frame es ep f1 f2 f3 f4 f5 f6
  | tab ps more t1 t2 t3 t4 =>
    subst t2 t3
    cases l' with
    | same e2 => exact .tab ps more t1 rfl e2 fun x => b.codes (t4 x)
    | tab ps' more' u1 u2 u3 u4 =>
      have : ps' = ps ++ more := by injection u2 with _ _ u; injection u with u; exact u.symm
      subst this
      exact .tab ps (more ++ more') t1 rfl (by rw [u3, Array.append_assoc]) fun x => by rw [← Array.append_assoc]; exact u4 (t4 x)
    | frame _ _ _ f2 _ _ _ _ => cases f2
  | frame es ep f1 f2 f0 f3 f4 f5 =>
    cases l' with
    | same e2 => subst e2; exact .frame es ep f1 f2 f0 f3 f4 f5
    | tab ps' more' u1 u2 u3 u4 => rw [f2, u2] at f3; cases f3
    | frame _ _ g1 g2 g0 g3 g4 g5 => exact .frame es ep f1 f2 f0 (g3.trans f3) (g4.trans f4) (g5.trans f5)
theorem KG.mono (k : KG G h h') (hg : ∀ b, G' b → G b) : KG G' h h' := fun b o hb e => k b o (hb.imp (hg b) id) e
end
theorem Stay.not_data {o : Obj} (h1 : ∀ fs, o.data ≠ .fields fs) (h2 : ∀ vs n, o.data ≠ .seq vs n) : ¬ Stay o := fun x => x.elim (fun x => let ⟨_, fs, e⟩ := x; h1 fs e) fun x => let ⟨_, vs, n, e⟩ := x; h2 vs n e
theorem Stay.not_list {vs : Array Value} {n : Nat} {d : Option Addr} {x : Array (Option Value)} : ¬ Stay ⟨.type "list", d, .seq vs n, x⟩ := fun x => x.elim (fun x => by simp at x) fun x => by simp at x
theorem Stay.not_dict {o : Obj} {es : Array DictEntry} {ep : Nat} (h : o.data = .dict es ep) : ¬ Stay o := Stay.not_data (fun _ q => by rw [h] at q; cases q) fun _ _ q => by rw [h] at q; cases q
theorem Stay.not_cls {o : Obj} (h1 : o.cls ≠ .type "code") (h2 : o.cls ≠ .type "tuple") : ¬ Stay o := fun x => x.elim (fun x => h1 x.1) fun x => h2 x.1
theorem KG.ofW {wr : List Addr} {h h' : Heap} (k : ∀ b o, b ∉ wr → h.get? b = some o → h'.get? b = some o) (n : ∀ b ∈ wr, ∀ o, h.get? b = some o → ¬ Stay o) : KG (fun b => b ∉ wr) h h' :=
  .of fun b o hb e => k b o (fun hm => hb.elim (fun x => x hm) (n b hm o e)) e
theorem KG.same {G : Addr → Prop} {h h' : Heap} {a : Addr} (hs : Heap.SameBut a h h') (hz : ¬ G a) (hn : ∀ o, h.get? a = some o → ¬ Stay o) : KG G h h' :=
  .of fun b o hb e => hs.extBut b o (fun q => by subst q; exact hb.elim hz (hn o e)) e
/-- all is kept -/
noncomputable abbrev K (h h' : Heap) : Prop := KG (fun _ => True) h h'
section
variable {h h' : Heap}
theorem K.of (k : ∀ b o, h.get? b = some o → h'.get? b = some o) : K h h' := KG.of fun b o _ e => k b o e
theorem K.get (k : K h h') {b : Addr} {o : Obj} (e : h.get? b = some o) (hh : hardB o = true) : h'.get? b = some o := KG.hard k (.inl trivial) e hh
theorem K.step {h'' : Heap} {G : Addr → Prop} (a : K h h') (b : KG G h' h'') (hg : ∀ b o, h.get? b = some o → G b) : K h h'' := fun c o _ e =>
  (KG.trans (KG.mono (G' := fun b => ∃ o, h.get? b = some o) a fun _ _ => trivial) (KG.mono b fun b ⟨o, e⟩ => hg b o e)) c o (.inl ⟨o, e⟩) e
theorem K.same {h'' : Heap} {a : Addr} (k : K h h') (hs : Heap.SameBut a h' h'') (ha : h.get? a = none) (hn : ∀ o, h'.get? a = some o → ¬ Stay o) : K h h'' :=
  K.step k (G := fun b => b ≠ a) (KG.same hs (fun q => q rfl) hn) fun b o e q => by rw [q, ha] at e; cases e
theorem K.there (k : K h h') {b : Addr} {o : Obj} (e : h.get? b = some o) : ∃ o', h'.get? b = some o' := let ⟨o', e', _⟩ := k b o (.inl trivial) e; ⟨o', e'⟩
theorem KG.dataG {G : Addr → Prop} (k : KG G h h') {b : Addr} {o : Obj} (g : G b ∨ Stay o) (e : h.get? b = some o) (hn : ∀ fs, o.data ≠ .fields fs) : ∃ o', h'.get? b = some o' ∧ o'.data = o.data ∧ o'.cls = o.cls :=
  let ⟨o', e', l⟩ := k b o g e; ⟨o', e', l.data hn, l.cls⟩
theorem K.data (k : K h h') {b : Addr} {o : Obj} (e : h.get? b = some o) (hn : ∀ fs, o.data ≠ .fields fs) : ∃ o', h'.get? b = some o' ∧ o'.data = o.data ∧ o'.cls = o.cls := KG.dataG k (.inl trivial) e hn
theorem K.exact (k : K h h') {b : Addr} {o : Obj} (e : h.get? b = some o) (h1 : ∀ fs, o.data ≠ .fields fs) (h2 : ∀ es ep, o.data ≠ .dict es ep) : h'.get? b = some o :=
  let ⟨o', e', l⟩ := k b o (.inl trivial) e; (l.exact h1 h2) ▸ e'
theorem ns_kG {G : Addr → Prop} {a : Addr} {m : Str → Option Value} (k : KG G h h') (g : G a) (x : h.Ns a m) : h'.Ns a m := by
  obtain ⟨o, es, ep, e, hd, r⟩ := x
  obtain ⟨o', e', hd', _⟩ := k.dataG (.inl g) e fun fs q => by rw [hd] at q; cases q
  exact ⟨o', es, ep, e', hd'.trans hd, r⟩
theorem ns_k {a : Addr} {m : Str → Option Value} (x : h.Ns a m) (k : K h h') : h'.Ns a m := ns_kG k trivial x
theorem cell_kG {G : Addr → Prop} {c : Addr} {v : Option Value} (k : KG G h h') (g : G c) (x : h.IsCell c v) : h'.IsCell c v := by
  obtain ⟨o, e, hd⟩ := x
  obtain ⟨o', e', hd', _⟩ := k.dataG (.inl g) e fun fs q => by rw [hd] at q; cases q
  exact ⟨o', e', hd'.trans hd⟩
theorem cell_k {c : Addr} {v : Option Value} (x : h.IsCell c v) (k : K h h') : h'.IsCell c v := cell_kG k trivial x
theorem nolim_k (x : h.NoLimit) (k : K h h') : h'.NoLimit := let ⟨mc, a, b⟩ := x; ⟨mc, ns_k a k, b⟩
theorem onKGB {G : Addr → Prop} (k : KG G h h') : (∀ {v : Value} {d : PyData} {as : List Addr}, R h v d as → (∀ a ∈ as, G a) → R h' v d as) ∧ (∀ {vs : List Value} {ds : List PyData} {as : List Addr}, RA h vs ds as → (∀ a ∈ as, G a) → RA h' vs ds as) :=
  R.ind (M := fun v d as => (∀ a ∈ as, G a) → R h' v d as) (N := fun vs ds as => (∀ a ∈ as, G a) → RA h' vs ds as) (fun _ => .none) (fun b _ => .bool b) (fun i t _ => .int i t) (fun x t _ => .str x t)
    (fun e _ ih g => .list (k.hard (.inl (g _ (.head _))) e rfl) (ih fun b hb => g b (.tail _ hb))) (fun e _ ih g => .tuple (k.stay e (.inr ⟨rfl, _, _, rfl⟩)) (ih g))
    (fun _ => .nil) (fun _ _ i j g => .cons (i fun b hb => g b (List.mem_append_left _ hb)) (j fun b hb => g b (List.mem_append_right _ hb)))
theorem R.onG {G : Addr → Prop} {v : Value} {d : PyData} {as : List Addr} (r : R h v d as) (k : KG G h h') (g : ∀ a ∈ as, G a) : R h' v d as := (onKGB k).1 r g
theorem RA.onG {G : Addr → Prop} {vs : List Value} {ds : List PyData} {as : List Addr} (r : RA h vs ds as) (k : KG G h h') (g : ∀ a ∈ as, G a) : RA h' vs ds as := (onKGB k).2 r g
theorem R.k {v : Value} {d : PyData} {as : List Addr} (r : R h v d as) (k : K h h') : R h' v d as := r.onG k fun _ _ => trivial
theorem RA.k {vs : List Value} {ds : List PyData} {as : List Addr} (r : RA h vs ds as) (k : K h h') : RA h' vs ds as := r.onG k fun _ _ => trivial
/-- a function's code -/
noncomputable def CodeOk (h : Heap) (cd : Value) (q : Str) : Prop := ∃ c P ps, cd = .ref c ∧ h.CodeRec cd q ∧ h.IsCode c P ps ∧ h.TableAt c P ps ∧ CodesG h ps ∧ SF.tab P
theorem CodeOk.k {cd : Value} {q : Str} (x : CodeOk h cd q) (k : K h h') : CodeOk h' cd q := by
  obtain ⟨c, P, ps, rfl, ⟨c', o', vs', t', e0, e1, e2, e3⟩, ⟨o, vs, file, tf, flags, tg, inF, text, tt, op, i1, i2, i3, i4, i5, i6, i7, i8, i9, i10, i11⟩, ⟨⟨oc, vc, t1, t2, t3, t4⟩, t5⟩, G, sP⟩ := x
  cases e0
  rw [i1] at e1 t1
  rw [← Option.some.inj e1] at e2
  rw [← Option.some.inj t1] at t2 t3
  have kc : h'.get? c = some o := k.stay i1 (.inl ⟨t2, _, t3⟩)
  obtain ⟨o', e', l⟩ := k P _ (.inl trivial) t5
  have fin : ∃ qs, h'.get? P = some { cls := .none, data := .fields qs } ∧ CodesG h' qs := by
    cases l with
    | same e => subst e; exact ⟨ps, e', KG.codes k G⟩
    | tab ps' more u1 u2 u3 u4 =>
      have : ps' = ps := by injection u2 with _ _ u; injection u with u; exact u.symm
      subst this
      exact ⟨_, by rw [e', u3]; rfl, u4 G⟩
    | frame _ _ _ f _ _ _ _ => cases f
  obtain ⟨qs, eq, Gq⟩ := fin
  exact ⟨c, P, qs, rfl, ⟨c, o, vs', t', rfl, kc, e2, e3⟩, ⟨o, vs, file, tf, flags, tg, inF, text, tt, _, kc, i2, i3, i4, i5, i6, i7, eq, rfl, Gq.1, i11⟩, ⟨⟨o, vc, kc, t2, t3, t4⟩, eq⟩, Gq, sP⟩
theorem CodeOk.rec' {cd : Value} {q : Str} (x : CodeOk h cd q) : h.CodeRec cd q := let ⟨_, _, _, _, r, _⟩ := x; r
end
end

variable [SF : Soft]
noncomputable def bnames : List String := ["len", "list", "tuple", "sorted", "max", "min", "sum", "range", "isinstance", "int", "bool", "str"]
noncomputable def bval (x : String) : Value := if x ∈ ["list", "tuple", "range", "int", "bool", "str"] then .type x else .builtin x

/-- a function's text -/
structure FnT where
  params : List String
  body : List Stmt
  scope : Scope
structure Fns where
  fn : String → Option (Addr × FnT)
  rule : Option Addr

/-- the function of a text -/
noncomputable def FnAt (h : Heap) (ft : FnT) (a : Addr) : Prop := ∃ o fd, h.get? a = some o ∧ o.data = .func fd ∧ fd.body = .stmts ft.body ∧ fd.scope = ft.scope ∧ fd.globals = mainGlobals ∧ fd.closure = [] ∧ fd.builtins = builtinsNs ∧ CodeOk h fd.code fd.qualname ∧
  (∀ vals, vals.length = ft.params.length → bindArgs fd ⟨vals, []⟩ = pure ((ft.params.map Str.ofString).zip vals)) ∧ fd.scope.isCoroutine = false ∧ fd.scope.isGenerator = false ∧ fd.scope.kind = .function
theorem FnAt.k {h h' : Heap} {ft : FnT} {a : Addr} (x : FnAt h ft a) (k : K h h') : FnAt h' ft a := by
  obtain ⟨o, fd, h1, h2, h3, h4, h5, h6, h7, h8, h9⟩ := x
  obtain ⟨o', e', hd, _⟩ := K.data k h1 fun fs q => by rw [h2] at q; cases q
  exact ⟨o', fd, e', hd.trans h2, h3, h4, h5, h6, h7, h8.k k, h9⟩

/-- what holds of the ground: the names of the top and of the built-ins -/
structure GE (fns : Fns) (h : Heap) : Prop where
  glob : ∃ mg, h.Ns mainGlobals mg ∧ (∀ f p, fns.fn f = some p → mg (Str.ofString f) = some (.ref p.1)) ∧ ∀ x ∈ bnames, mg (Str.ofString x) = none
  funs : ∀ f p, fns.fn f = some p → FnAt h p.2 p.1
  blt : ∃ mb, h.Ns builtinsNs mb ∧ ∀ x ∈ bnames, mb (Str.ofString x) = some (bval x)
  nolim : h.NoLimit
  bm : ∃ mg bm ob, h.Ns mainGlobals mg ∧ mg "__builtins__" = some (.ref bm) ∧ bm ≠ builtinsNs ∧ h.get? bm = some ob ∧ ob.cls = .type "module" ∧ ob.dict = some builtinsNs ∧ ob.data = .plain
theorem GE.k {fns : Fns} {h h' : Heap} (G : GE fns h) (k : K h h') : GE fns h' where
  glob := let ⟨mg, a, b⟩ := G.glob; ⟨mg, ns_k a k, b⟩
  funs := fun f p e => (G.funs f p e).k k
  blt := let ⟨mb, a, b⟩ := G.blt; ⟨mb, ns_k a k, b⟩
  nolim := nolim_k G.nolim k
  bm := let ⟨mg, bm, ob, a, b, c, d, e, f, g⟩ := G.bm; ⟨mg, bm, ob, ns_k a k, b, c, K.get k d (by unfold hardB; rw [e]; decide), e, f, g⟩

section
variable (prog : Program) (w : World)
noncomputable def RV (prog : Program) (w : World) (h : Heap) (v : Value) : V → List Addr → Prop
  | .d x, as => R h v x as ∧ sz x = true
  | .inst _, _ => False

inductive RVs (h : Heap) : List V → List Value → List Addr → Prop
  | nil : RVs h [] [] []
  | cons {x : V} {xs : List V} {v : Value} {vs : List Value} {as bs : List Addr} : RV prog w h v x as → RVs h xs vs bs → RVs h (x :: xs) (v :: vs) (as ++ bs)
end

inductive VarIs (h : Heap) (env : Env) (x : Str) (v : Value) : Prop
  | loc (m : Str → Option Value) : env.kindOf x = some .local → h.Ns env.locals m → m x = some v → VarIs h env x v
  | cell (c : Addr) : env.kindOf x = some .cell ∨ env.kindOf x = some .free → env.cells.lookup x = some c → h.IsCell c (some v) → VarIs h env x v

structure EnvOk (env : Env) : Prop where
  kind : env.scope.kind = .function
  glob : env.globals = mainGlobals
  blt : env.builtins = builtinsNs
  cells : ∀ n, env.kindOf n = some .cell ∨ env.kindOf n = some .free → ∃ c, env.cells.lookup n = some c

section
variable {prog : Program} {w : World}

theorem RV.onG {h h' : Heap} {G : Addr → Prop} {v : Value} {x : V} {as : List Addr} (r : RV prog w h v x as) (k : KG G h h') (g : ∀ a ∈ as, G a) : RV prog w h' v x as := by
  cases x with
  | d x => exact ⟨r.1.onG k g, r.2⟩
  | inst fs => exact r
theorem RV.k {h h' : Heap} {v : Value} {x : V} {as : List Addr} (r : RV prog w h v x as) (k : K h h') : RV prog w h' v x as := r.onG k fun _ _ => trivial
theorem VarIs.k {h h' : Heap} {env : Env} {x : Str} {v : Value} (r : VarIs h env x v) (k : K h h') : VarIs h' env x v := by
  cases r with
  | loc m a b c => exact .loc m a (ns_k b k) c
  | cell c a b d => exact .cell c a b (cell_k d k)
theorem RV.keep {h h' : Heap} {v : Value} {x : V} {as : List Addr} (r : RV prog w h v x as) (k : ∀ b o, h.get? b = some o → h'.get? b = some o) : RV prog w h' v x as := r.k (.of k)
noncomputable def Kp (s s' : Shared) : Prop := ∃ h' tk, s' = { s with heap := h', toks := tk } ∧ K s.heap h'
theorem Kp.refl (s : Shared) : Kp s s := ⟨s.heap, s.toks, rfl, KG.refl⟩
theorem Kp.trans {s s₁ s₂ : Shared} (a : Kp s s₁) (b : Kp s₁ s₂) : Kp s s₂ := by
  obtain ⟨h, t, rfl, k⟩ := a
  obtain ⟨h', t', rfl, k'⟩ := b
  exact ⟨h', t', rfl, KG.trans k k'⟩
theorem Kp.k {s s₁ : Shared} (a : Kp s s₁) : K s.heap s₁.heap := by
  obtain ⟨h, t, rfl, k⟩ := a; exact k
theorem Kp.of {s : Shared} {h' : Heap} {tk : Nat} (k : ∀ b o, s.heap.get? b = some o → h'.get? b = some o) : Kp s { s with heap := h', toks := tk } := ⟨h', tk, rfl, .of k⟩
theorem Kp.toks (s : Shared) (t : Nat) : Kp s { s with toks := t } := .of (s := s) fun _ _ e => e
theorem Kp.push (s : Shared) (o : Obj) (t : Nat) : Kp s { s with heap := s.heap.push o, toks := t } := .of fun _ _ e => Heap.get?_push_of_some _ e
theorem Kp.none {s s₁ : Shared} (a : Kp s s₁) {b : Addr} (e : s₁.heap.get? b = none) : s.heap.get? b = none := by
  cases q : s.heap.get? b with
  | none => rfl
  | some o => obtain ⟨o', e'⟩ := a.k.there q; rw [e'] at e; cases e

variable (prog w)
structure Cx (fns : Fns) (k : Nat) (A : Around) (P : Addr → Prop) (h : Heap) (env : Env) (σ : St) : Prop where
  room : Room k A
  eok : EnvOk env
  ge : GE fns h
  code : 1 ≤ k → ∃ q, CodeOk h env.code q
  vars : ∀ x p, σ x = some p → varK env.scope.names x = true → ∃ v as, VarIs h env (Str.ofString x) v ∧ RV prog w h v p.1 as ∧ ∀ a ∈ as, P a

/-- what an expression leaves -/
inductive EP (P : Addr → Prop) (s : Shared) (r : V × Mode) (v : Value) (s' : Shared) : Prop
  | mk (kp : Kp s s') (as : List Addr) (rv : RV prog w s'.heap v r.1 as) (own : ∀ a ∈ as, P a ∨ s.heap.get? a = none) (top : r.2 = .top → ∃ a bs, as = a :: bs ∧ s.heap.get? a = none ∧ a ∉ bs) (deep : r.2 = .deep → (∀ a ∈ as, s.heap.get? a = none) ∧ as.Nodup) : EP P s r v s'
inductive EPs (P : Addr → Prop) (s : Shared) (l : List (V × Mode)) (vs : List Value) (s' : Shared) : Prop
  | mk (kp : Kp s s') (as : List Addr) (rv : RVs prog w s'.heap (l.map (·.1)) vs as) (own : ∀ a ∈ as, P a ∨ s.heap.get? a = none) (deep : allDeep l = true → (∀ a ∈ as, s.heap.get? a = none) ∧ as.Nodup) : EPs P s l vs s'
variable {prog w}
theorem EP.keeps {P : Addr → Prop} {s s' : Shared} {r : V × Mode} {v : Value} (e : EP prog w P s r v s') : Kp s s' := by cases e; assumption

theorem Cx.k {fns : Fns} {k : Nat} {A : Around} {P : Addr → Prop} {h h' : Heap} {env : Env} {σ : St} (X : Cx prog w fns k A P h env σ) (kp : K h h') : Cx prog w fns k A P h' env σ where
  room := X.room
  eok := X.eok
  ge := X.ge.k kp
  code := fun hk => let ⟨q, c⟩ := X.code hk; ⟨q, c.k kp⟩
  vars := fun x p hp hv => let ⟨v, as, a, b, c⟩ := X.vars x p hp hv; ⟨v, as, a.k kp, b.k kp, c⟩

/-- a scalar -/
theorem EP.scalar {P : Addr → Prop} {s s' : Shared} {x : PyData} {v : Value} {m : Mode} (k : Kp s s') (r : R s'.heap v x []) (z : sz x = true) (hm : m ≠ .top) : EP prog w P s (.d x, m) v s' :=
  ⟨k, [], ⟨r, z⟩, fun _ h => (nomatch h), fun h => absurd h hm, fun _ => ⟨fun _ h => (nomatch h), .nil⟩⟩
theorem EP.int {P : Addr → Prop} {s s' : Shared} {i : Int} {t : Tok} (k : Kp s s') : EP prog w P s (sI i) (.int i t) s' := .scalar k (.int i t) rfl (by simp)
theorem EP.bool {P : Addr → Prop} {s s' : Shared} {b : Bool} (k : Kp s s') : EP prog w P s (sB b) (.bool b) s' := .scalar k (.bool b) rfl (by simp)
/-- one after another -/
theorem EP.after {P : Addr → Prop} {s s₁ s' : Shared} {r : V × Mode} {v : Value} (k : Kp s s₁) (e : EP prog w P s₁ r v s') : EP prog w P s r v s' := by
  obtain ⟨k', as, a, b, c, d⟩ := e
  exact ⟨k.trans k', as, a, fun x hx => (b x hx).imp id k.none, fun hm => let ⟨a, bs, h1, h2, h3⟩ := c hm; ⟨a, bs, h1, k.none h2, h3⟩, fun hm => ⟨fun x hx => k.none ((d hm).1 x hx), (d hm).2⟩⟩

end
end Mine

namespace Mine
open PySem PyProof.Rows
set_option linter.unusedSectionVars false
variable [SF : Soft]

section
variable (prog : Program) (w : World) (fns : Fns) (k : Nat) (C : Calls) (XP : String → Shared → Value → Shared → Prop)

noncomputable def SimE (e : E) : Prop := ∀ {ex : Expr} {A : Around} {env : Env} {σ : St} {P : Addr → Prop} {s : Shared} {Q : Value → Shared → Prop} {Er : Value → Shared → Prop},
  okE env.scope.names e ex = true → Cx prog w fns k A P s.heap env σ → ev C e σ ≠ .bad →
  (∀ r, ev C e σ = .ok r → ∀ v s', EP prog w P s r v s' → Q v s') → (∀ c, ev C e σ = .exc c → ∀ x s', XP c s x s' → Er x s') →
  wpAny (model prog w) A (eval ex env) Q Er s
noncomputable def SimT (e : E) : Prop := ∀ {ex : Expr} {A : Around} {env : Env} {σ : St} {P : Addr → Prop} {s : Shared} {Q : Bool → Shared → Prop} {Er : Value → Shared → Prop},
  okE env.scope.names e ex = true → Cx prog w fns k A P s.heap env σ → ((ev C e σ).bind fun r => truth r.1) ≠ .bad →
  (∀ b, ((ev C e σ).bind fun r => truth r.1) = .ok b → ∀ s', Kp s s' → Q b s') → (∀ c, ev C e σ = .exc c → ∀ x s', XP c s x s' → Er x s') →
  wpAny (model prog w) A (isTrue ex env (eval ex env)) Q Er s
end

theorem bind_ne_bad {α β : Type} {o : Out α} {f : α → Out β} (h : o.bind f ≠ .bad) : o ≠ .bad ∧ ∀ a, o = .ok a → f a ≠ .bad := by
  cases o with
  | ok a => exact ⟨fun e => (by cases e), fun _ e => by cases e; exact h⟩
  | exc c => exact ⟨fun e => (by cases e), fun _ e => by cases e⟩
  | bad => exact absurd rfl h
theorem bind_exc {α β : Type} {o : Out α} {f : α → Out β} {c : String} (h : o.bind f = .exc c) : o = .exc c ∨ ∃ a, o = .ok a ∧ f a = .exc c := by
  cases o with
  | ok a => exact .inr ⟨a, rfl, h⟩
  | exc c => cases h; exact .inl rfl
  | bad => cases h

section
variable {prog : Program} {w : World} {fns : Fns} {k : Nat} {C : Calls} {XP : String → Shared → Value → Shared → Prop}

theorem sim2 (hXP : ∀ c s s₁ x s', Kp s s₁ → XP c s₁ x s' → XP c s x s') {a b : E} (Sa : SimE prog w fns k C XP a) (Sb : SimE prog w fns k C XP b)
    {ea eb : Expr} {A : Around} {env : Env} {σ : St} {P : Addr → Prop} {s : Shared} {G : Value → Value → Shared → Prop} {Er : Value → Shared → Prop}
    (oa : okE env.scope.names a ea = true) (ob : okE env.scope.names b eb = true) (X : Cx prog w fns k A P s.heap env σ)
    (na : ev C a σ ≠ .bad) (nb : ∀ x, ev C a σ = .ok x → ev C b σ ≠ .bad)
    (hE : ∀ c, (ev C a σ = .exc c ∨ ∃ x, ev C a σ = .ok x ∧ ev C b σ = .exc c) → ∀ x s', XP c s x s' → Er x s')
    (hG : ∀ x y, ev C a σ = .ok x → ev C b σ = .ok y → ∀ va vb s₁ s₂, EP prog w P s x va s₁ → EP prog w P s₁ y vb s₂ → G va vb s₂) :
    wpAny (model prog w) A (eval ea env) (fun va s₁ => wpAny (model prog w) A (eval eb env) (fun vb s₂ => G va vb s₂) Er s₁) Er s :=
  Sa oa X na (fun x hx va s₁ Ea => Sb ob (X.k Ea.keeps.k) (nb x hx) (fun y hy vb s₂ Eb => hG x y hx hy va vb s₁ s₂ Ea Eb)
    fun c hc z s' hz => hE c (.inr ⟨x, hx, hc⟩) z s' (hXP c s s₁ z s' Ea.keeps hz)) fun c hc => hE c (.inl hc)

/-! ## leaves -/
theorem kind_of_varK {env : Env} {x : String} (h : varK env.scope.names x = true) : env.kindOf (Str.ofString x) = some .local ∨ env.kindOf (Str.ofString x) = some .cell ∨ env.kindOf (Str.ofString x) = some .free := by
  unfold varK at h
  unfold Env.kindOf
  replace h := (Bool.and_eq_true_iff.mp h).2
  split at h <;> first | (rename_i e; exact .inl e) | (rename_i e; exact .inr (.inl e)) | (rename_i e; exact .inr (.inr e)) | cases h

theorem wp_var {A : Around} {env : Env} {x : String} {pos : Pos} {v : Value} {s : Shared} {Q : Value → Shared → Prop} {Er : Value → Shared → Prop} (hk : env.scope.kind = .function) (hd : notDebug x = true)
    (hv : VarIs s.heap env (Str.ofString x) v) (h : Q v s) : wpAny (model prog w) A (eval (.Name (Str.ofString x) pos) env) Q Er s := by
  unfold notDebug at hd
  simp only [Bool.and_eq_true, Bool.not_eq_true'] at hd
  cases hv with
  | loc m a b c => exact wpAny_Name (wpAny_loadName_local hk a b c h) hd.1
  | cell c a b d =>
    rcases a with a | a
    · exact wpAny_Name (wpAny_loadName_cell hk a b d h) hd.1
    · exact wpAny_Name (wpAny_loadName_free hk a b d h hd.2) hd.1

theorem mk_ep {P : Addr → Prop} {s : Shared} {v : Value} {x : V} {as : List Addr} (r : RV prog w s.heap v x as) (h : ∀ a ∈ as, P a) : EP prog w P s (mk x) v s := by
  refine ⟨.refl s, as, r, fun a ha => .inl (h a ha), fun hm => ?_, fun hm => ?_⟩
  · unfold mk at hm; dsimp only at hm; split at hm <;> cases hm
  · cases x with
    | d x =>
      unfold mk at hm; dsimp only at hm
      split at hm
      · rename_i hs
        have : as = [] := r.1.sx_nil hs
        subst this
        exact ⟨fun _ h => (nomatch h), .nil⟩
      · cases hm
    | _ => simp [mk, scal] at hm

theorem inv_name {ns : List (Str × NameKind)} {x : String} {ex : Expr} (h : okE ns (.name x) ex = true) : ∃ p, ex = .Name (Str.ofString x) p ∧ varK ns x = true ∧ notDebug x = true := by
  replace h := i_name h
  rcases h with ⟨_, _, rfl, h⟩ | h
  · simp only [Bool.and_eq_true, beq_iff_eq] at h
    obtain ⟨⟨rfl, h2⟩, h3⟩ := h
    exact ⟨_, rfl, h2, h3⟩
  · cases h
theorem sim_name (x : String) : SimE prog w fns k C XP (.name x) := by
  intro ex A env σ P s Q Er ok X nb hQ hE
  obtain ⟨p, rfl, hv, hd⟩ := inv_name ok
  cases hσ : σ x with
  | none => exact absurd (by simp [ev, hσ]) nb
  | some q =>
    obtain ⟨v, as, h1, h2, h3⟩ := X.vars x q hσ hv
    exact wp_var X.eok.kind hd h1 (hQ (mk q.1) (by simp [ev, hσ]) v s (mk_ep h2 h3))

theorem sim_int (i : Int) : SimE prog w fns k C XP (.int i) := by
  intro ex A env σ P s Q Er ok X nb hQ hE
  replace ok := i_int ok
  rcases ok with ⟨_, _, _, rfl, ok⟩ | ok
  · simp only [beq_iff_eq] at ok
    subst ok
    exact wpAny_Constant_int (hQ (sI i) rfl _ _ (.int (.toks s _)))
  · cases ok
theorem sim_str (x : String) : SimE prog w fns k C XP (.str x) := by
  intro ex A env σ P s Q Er ok X nb hQ hE
  replace ok := i_str ok
  rcases ok with ⟨_, _, _, rfl, ok⟩ | ok
  · simp only [Bool.and_eq_true, beq_iff_eq, decide_eq_true_eq] at ok
    obtain ⟨rfl, hx⟩ := ok
    exact wpAny_Constant_str (hQ (.d (.str (Str.ofString x)), .deep) rfl _ _ (.scalar (.toks s _) (.str _ _) (by simpa [sz] using hx) (by simp)))
  · cases ok
theorem sim_bool (b : Bool) : SimE prog w fns k C XP (.bool b) := by
  intro ex A env σ P s Q Er ok X nb hQ hE
  replace ok := i_bool ok
  rcases ok with ⟨_, _, _, rfl, ok⟩ | ok
  · simp only [beq_iff_eq] at ok
    subst ok
    exact wpAny_Constant_bool (hQ (sB b) rfl _ _ (.bool (.refl s)))
  · cases ok
theorem sim_none : SimE prog w fns k C XP .none := by
  intro ex A env σ P s Q Er ok X nb hQ hE
  replace ok := i_none ok
  rcases ok with ⟨_, _, rfl, ok⟩ | ok
  · exact wpAny_Constant_none (hQ (.d .none, .deep) rfl _ _ (.scalar (.refl s) .none rfl (by simp)))
  · cases ok

theorem new_none (h : Heap) : h.get? h.objs.size = none := Heap.get?_none_of_le (Nat.le_refl _)
theorem not_new {h : Heap} {a : Addr} {o : Obj} (e : h.get? a = some o) : a ≠ h.objs.size := Nat.ne_of_lt (Heap.lt_size e)

/-- a new list whose items stand already -/
theorem EP.newList {P : Addr → Prop} {s : Shared} {xs : List PyData} {vs : List Value} {as : List Addr} {t : Nat} (r : RA s.heap vs xs as) (hl : xs.length ≤ 2 ^ 22) (hz : ∀ x ∈ xs, sz x = true) (ha : ∀ a ∈ as, P a) :
    EP prog w P s (.d (.list xs), fresh xs) (.ref s.heap.objs.size) { s with heap := s.heap.push { cls := .type "list", data := .seq vs.toArray }, toks := t } := by
  refine ⟨.push s _ _, s.heap.objs.size :: as, ⟨.list (Heap.get?_push_size _ rfl) (r.keep fun _ _ e => Heap.get?_push_of_some _ e), sz_list.mpr ⟨hl, hz⟩⟩, ?_, ?_, ?_⟩
  · intro a h
    rcases List.mem_cons.mp h with rfl | h
    · exact .inr (new_none _)
    · exact .inl (ha a h)
  · intro _
    exact ⟨_, _, rfl, new_none _, fun h => let ⟨_, _, e⟩ := r.there _ h; not_new e rfl⟩
  · intro hm
    have hall : xs.all sx = true := by
      unfold fresh at hm; dsimp only at hm; split at hm
      · assumption
      · cases hm
    rw [r.sx_nil hall]
    refine ⟨fun a h => ?_, by simp⟩
    rcases List.mem_cons.mp h with rfl | h
    · exact new_none _
    · cases h

section
variable {va vb : Value} {as bs : List Addr} {A : Around} {P : Addr → Prop} {s : Shared} {Q : Value → Shared → Prop} {Er : Value → Shared → Prop}
theorem bin_addL {xs ys : List PyData} (ra : R s.heap va (.list xs) as) (za : sz (.list xs) = true) (rb : R s.heap vb (.list ys) bs) (zb : sz (.list ys) = true) (ha : ∀ a ∈ as, P a) (hb : ∀ a ∈ bs, P a) (hl : xs.length + ys.length ≤ lim)
    (hQ : ∀ v s', EP prog w P s (.d (.list (xs ++ ys)), fresh (xs ++ ys)) v s' → Q v s') : wpAny (model prog w) A (binaryOp .Add va vb) Q Er s := by
  cases ra with
  | list ea ra =>
  cases rb with
  | list eb rb =>
  unfold lim at hl
  rw [sz_list] at za zb
  have e1 := ra.length
  have e2 := rb.length
  refine PySem.P.add_list ea eb ?_ ?_
  · have := EP.newList (prog := prog) (w := w) (P := P) (t := s.toks) (ra.append rb) (by rw [List.length_append]; omega) (fun z hz => (List.mem_append.mp hz).elim (za.2 z) (zb.2 z)) fun a h => (List.mem_append.mp h).elim (fun h => ha a (.tail _ h)) fun h => hb a (.tail _ h)
    exact hQ _ _ (by simpa using this)
  · rw [List.size_toArray, List.size_toArray, e1, e2]
    unfold sizeLine; omega
theorem bin_mul {a b : Int} {t u : Tok} (h : a.natAbs < 2 ^ 63 ∨ b.natAbs < 2 ^ 63) (hQ : ∀ v s', EP prog w P s (sI (a * b)) v s' → Q v s') : wpAny (model prog w) A (binaryOp .Mult (.int a t) (.int b u)) Q Er s := by
  refine mul_int (hQ _ _ (.int (.toks s _))) ?_
  rcases h with hl | hl
  · exact IntMulOk.of_left (intBits_le_64 (by omega) (by omega))
  · exact IntMulOk.of_right (intBits_le_64 (by omega) (by omega))
theorem bin_fdiv {a b : Int} {t u : Tok} (h : ¬ (b = 0 ∨ 1000000000 ≤ b.natAbs)) (hQ : ∀ v s', EP prog w P s (sI (a.fdiv b)) v s' → Q v s') : wpAny (model prog w) A (binaryOp .FloorDiv (.int a t) (.int b u)) Q Er s :=
  floordiv_int (fun e => h (.inl e)) (hQ _ _ (.int (.toks s _))) (.inl (PyProof.noPylong_small (by omega)))
theorem bin_pow {a b : Int} {t u : Tok} (h : 0 ≤ b ∧ b ≤ 1000 ∧ a.natAbs < 2 ^ 63) (hQ : ∀ v s', EP prog w P s (sI (a ^ b.toNat)) v s' → Q v s') : wpAny (model prog w) A (binaryOp .Pow (.int a t) (.int b u)) Q Er s :=
  pow_int_small h.1 (by omega) (by omega) (hQ _ _ (.int (.toks s _)))

/-- arithmetic; two lists put together -/
theorem bin_step {o : BOp} {op : Operator} {x y : PyData} {r : V × Mode} 
    (ho : opB o op = true) (he : binV o x y = .ok r) (ra : R s.heap va x as) (za : sz x = true) (rb : R s.heap vb y bs) (zb : sz y = true) (ha : ∀ a ∈ as, P a) (hb : ∀ a ∈ bs, P a)
    (hQ : ∀ v s', EP prog w P s r v s' → Q v s') : wpAny (model prog w) A (binaryOp op va vb) Q Er s := by
  cases of_decide_eq_true ho
  cases o with
  | add =>
    replace he : addV x y = .ok r := he
    unfold addV at he
    cases hx : asL x with
    | some xs =>
      rw [hx] at he
      replace he := optO_ok he
      obtain ⟨ys, hy, he⟩ := he
      cases asL_inv hx
      cases asL_inv hy
      clear hx hy
      split at he <;> cases he
      exact bin_addL ra za rb zb ha hb (by assumption) hQ
    | none =>
      rw [hx] at he
      replace he := i2_ok he
      obtain ⟨a, b, rfl, rfl, he⟩ := he
      cases he; obtain ⟨_, rfl, rfl⟩ := ra.isInt; obtain ⟨_, rfl, rfl⟩ := rb.isInt
      exact add_int (hQ _ _ (.int (.toks s _)))
  | sub =>
    replace he := i2_ok he
    obtain ⟨a, b, rfl, rfl, he⟩ := he
    cases he; obtain ⟨_, rfl, rfl⟩ := ra.isInt; obtain ⟨_, rfl, rfl⟩ := rb.isInt
    exact sub_int (hQ _ _ (.int (.toks s _)))
  | mul =>
    replace he := i2_ok he
    obtain ⟨a, b, rfl, rfl, he⟩ := he
    split at he <;> cases he
    obtain ⟨_, rfl, rfl⟩ := ra.isInt; obtain ⟨_, rfl, rfl⟩ := rb.isInt
    exact bin_mul (by assumption) hQ
  | fdiv =>
    replace he := i2_ok he
    obtain ⟨a, b, rfl, rfl, he⟩ := he
    split at he <;> cases he
    obtain ⟨_, rfl, rfl⟩ := ra.isInt; obtain ⟨_, rfl, rfl⟩ := rb.isInt
    exact bin_fdiv (by assumption) hQ
  | mod =>
    replace he := i2_ok he
    obtain ⟨a, b, rfl, rfl, he⟩ := he
    split at he <;> cases he
    obtain ⟨_, rfl, rfl⟩ := ra.isInt; obtain ⟨_, rfl, rfl⟩ := rb.isInt
    exact mod_int' (by assumption) (hQ _ _ (.int (.toks s _)))
  | pow =>
    replace he := i2_ok he
    obtain ⟨a, b, rfl, rfl, he⟩ := he
    split at he <;> cases he
    obtain ⟨_, rfl, rfl⟩ := ra.isInt; obtain ⟨_, rfl, rfl⟩ := rb.isInt
    exact bin_pow (by assumption) hQ
  | xor =>
    replace he := i2_ok he
    obtain ⟨a, b, rfl, rfl, he⟩ := he
    cases he; obtain ⟨_, rfl, rfl⟩ := ra.isInt; obtain ⟨_, rfl, rfl⟩ := rb.isInt
    exact xor_int (hQ _ _ (.int (.toks s _)))
end
end
end Mine

namespace Mine
open PySem PyProof.Rows
set_option linter.unusedSectionVars false
variable [SF : Soft]

section
variable {prog : Program} {w : World} {fns : Fns} {k : Nat} {C : Calls} {XP : String → Shared → Value → Shared → Prop}
variable {va vb : Value} {as bs : List Addr} {A : Around} {P : Addr → Prop} {s : Shared} {Q : Value → Shared → Prop} {Er : Value → Shared → Prop}

theorem Room.units {k : Nat} {A : Around} (h : Room k A) : A.units + 200 < cLine := by obtain ⟨_, _, h⟩ := h; lia

theorem okc_iff {d : PyData} : okc d = true ↔ d.canLay0 = true ∧ d.depth ≤ 64 := by simp [okc]




theorem in_step {x : PyData} {c : V} {b : Bool} (hu : A.units + 200 < cLine) (he : inV x c = .ok b) (ra : R s.heap va x as) (rb : RV prog w s.heap vb c bs)
    (hQ : ∀ s', Kp s s' → Q (.bool b) s') : wpAny (model prog w) A (compareOp .In va vb) Q Er s := by
  cases c with
  | d y =>
    replace he := optO_ok he
    obtain ⟨xs, hy, he⟩ := he
    cases asL_inv hy
    split at he <;> cases he
    rename_i h1
    simp only [Bool.and_eq_true, okc_iff] at h1
    obtain ⟨⟨a1, a2⟩, b1, b2⟩ := h1
    simp only [PyData.canLay0, PyData.depth] at b1 b2
    exact SeqAt.in_list_reads rb.1.reads ra.reads b1 a1 (by have := Nat.min_le_left (PyData.depthAll ‹_›) x.depth; lia) (hQ s (.refl s))
  | inst _ => cases he

theorem cmp_step {o : COp} {op : CmpOp} {x y : V} {b : Bool} (hu : A.units + 200 < cLine) (ho : opC o op = true) (he : cmpV o x y = .ok b) (ra : RV prog w s.heap va x as) (rb : RV prog w s.heap vb y bs)
    (hQ : ∀ s', Kp s s' → Q (.bool b) s') : wpAny (model prog w) A (compareOp op va vb) Q Er s := by
  cases of_decide_eq_true ho
  cases o with
  | eq =>
    replace he := d2_ok he
    obtain ⟨x, y, rfl, rfl, he⟩ := he
    split at he <;> cases he
    rename_i h1
    simp only [Bool.and_eq_true, okc_iff] at h1
    obtain ⟨⟨a1, a2⟩, b1, b2⟩ := h1
    exact SeqAt.compareEq_reads ra.1.reads rb.1.reads a1 b1 (by have := Nat.min_le_left x.depth y.depth; lia) (hQ s (.refl s))
  | ne =>
    replace he := d2_ok he
    obtain ⟨x, y, rfl, rfl, he⟩ := he
    split at he <;> cases he
    rename_i h1
    simp only [Bool.and_eq_true, okc_iff] at h1
    obtain ⟨⟨a1, a2⟩, b1, b2⟩ := h1
    exact SeqAt.compareNe_reads ra.1.reads rb.1.reads a1 b1 (by have := Nat.min_le_left x.depth y.depth; lia) (hQ s (.refl s))
  | lt =>
    replace he := d2_ok he
    obtain ⟨x, y, rfl, rfl, he⟩ := he
    replace he := i2_ok he
    obtain ⟨i, j, rfl, rfl, he⟩ := he
    cases he; obtain ⟨_, rfl, rfl⟩ := ra.1.isInt; obtain ⟨_, rfl, rfl⟩ := rb.1.isInt
    exact lt_int (hQ s (.refl s))
  | le =>
    replace he := d2_ok he
    obtain ⟨x, y, rfl, rfl, he⟩ := he
    replace he := i2_ok he
    obtain ⟨i, j, rfl, rfl, he⟩ := he
    cases he; obtain ⟨_, rfl, rfl⟩ := ra.1.isInt; obtain ⟨_, rfl, rfl⟩ := rb.1.isInt
    exact le_int (hQ s (.refl s))
  | gt =>
    replace he := d2_ok he
    obtain ⟨x, y, rfl, rfl, he⟩ := he
    replace he := i2_ok he
    obtain ⟨i, j, rfl, rfl, he⟩ := he
    cases he; obtain ⟨_, rfl, rfl⟩ := ra.1.isInt; obtain ⟨_, rfl, rfl⟩ := rb.1.isInt
    exact gt_int (hQ s (.refl s))
  | ge =>
    replace he := d2_ok he
    obtain ⟨x, y, rfl, rfl, he⟩ := he
    replace he := i2_ok he
    obtain ⟨i, j, rfl, rfl, he⟩ := he
    cases he; obtain ⟨_, rfl, rfl⟩ := ra.1.isInt; obtain ⟨_, rfl, rfl⟩ := rb.1.isInt
    exact ge_int (hQ s (.refl s))
  | isin =>
    replace he := optO_ok he
    obtain ⟨x, hx, he⟩ := he
    cases asD_inv hx
    exact in_step hu he ra.1 rb hQ
  | notin =>
    replace he := d2_ok he
    obtain ⟨kx, y, rfl, rfl, he⟩ := he
    obtain ⟨b', h1, h2⟩ := Out.bind_ok he
    cases h2
    replace h1 := optO_ok h1
    obtain ⟨xs, hy, h1⟩ := h1
    cases asL_inv hy
    split at h1 <;> cases h1
    rename_i h1
    simp only [Bool.and_eq_true, okc_iff] at h1
    obtain ⟨⟨a1, a2⟩, b1, b2⟩ := h1
    simp only [PyData.canLay0, PyData.depth] at b1 b2
    exact SeqAt.notIn_list_reads rb.1.reads ra.1.reads b1 a1 (by have := Nat.min_le_left (PyData.depthAll xs) kx.depth; lia) (hQ s (.refl s))
  | is =>
    replace he := d2_ok he
    obtain ⟨x, y, rfl, rfl, he⟩ := he
    split at he <;> cases he
    cases isN_inv (by assumption)
    obtain ⟨ra, _⟩ := ra; obtain ⟨rfl, rfl⟩ := rb.1.isNone
    refine is_none ?_
    cases ra <;> exact hQ s (.refl s)
  | isnot =>
    replace he := d2_ok he
    obtain ⟨x, y, rfl, rfl, he⟩ := he
    split at he <;> cases he
    cases isN_inv (by assumption)
    obtain ⟨ra, _⟩ := ra; obtain ⟨rfl, rfl⟩ := rb.1.isNone
    refine isNot_none ?_
    cases ra <;> exact hQ s (.refl s)
end
end Mine

namespace Mine
open PySem PyProof.Rows
set_option linter.unusedSectionVars false
variable [SF : Soft]

section
variable {prog : Program} {w : World} {fns : Fns} {k : Nat} {C : Calls} {XP : String → Shared → Value → Shared → Prop}

theorem EP.shift {P : Addr → Prop} {s s₂ s₃ : Shared} {r : V × Mode} {v : Value} (kp : Kp s s₂) (e : EP prog w (fun a => P a ∨ s.heap.get? a = none) s₂ r v s₃) : EP prog w P s r v s₃ := by
  obtain ⟨k', as, a, b, c, d⟩ := e
  refine ⟨kp.trans k', as, a, fun x hx => ?_, fun hm => let ⟨a, bs, h1, h2, h3⟩ := c hm; ⟨a, bs, h1, kp.none h2, h3⟩, fun hm => ⟨fun x hx => kp.none ((d hm).1 x hx), (d hm).2⟩⟩
  rcases b x hx with h | h
  · exact h
  · exact .inr (kp.none h)

/-- two parts, then a step upon their values -/
theorem sim2s (hXP : ∀ c s s₁ x s', Kp s s₁ → XP c s₁ x s' → XP c s x s') {a b : E} (Sa : SimE prog w fns k C XP a) (Sb : SimE prog w fns k C XP b)
    {ea eb : Expr} {A : Around} {env : Env} {σ : St} {P : Addr → Prop} {s : Shared} {Er : Value → Shared → Prop} {G : Value → Value → Shared → Prop} {f : V → V → Out (V × Mode)}
    (oa : okE env.scope.names a ea = true) (ob : okE env.scope.names b eb = true) (X : Cx prog w fns k A P s.heap env σ)
    (nb : ((ev C a σ).bind fun x => (ev C b σ).bind fun y => f x.1 y.1) ≠ .bad)
    (hE : ∀ c, ((ev C a σ).bind fun x => (ev C b σ).bind fun y => f x.1 y.1) = .exc c → ∀ x s', XP c s x s' → Er x s') (hf : ∀ x y c, f x y ≠ .exc c)
    (hG : ∀ x y r, ((ev C a σ).bind fun x => (ev C b σ).bind fun y => f x.1 y.1) = .ok r → f x y = .ok r → ∀ va vb s₂ as bs, Kp s s₂ → RV prog w s₂.heap va x as → RV prog w s₂.heap vb y bs →
      (∀ a ∈ as, P a ∨ s.heap.get? a = none) → (∀ a ∈ bs, P a ∨ s.heap.get? a = none) → G va vb s₂) :
    wpAny (model prog w) A (eval ea env) (fun va s₁ => wpAny (model prog w) A (eval eb env) (fun vb s₂ => G va vb s₂) Er s₁) Er s := by
  obtain ⟨n1, n2⟩ := bind_ne_bad nb
  refine sim2 hXP Sa Sb oa ob X n1 (fun x hx => (bind_ne_bad (n2 x hx)).1) (fun c hc => hE c ?_) fun x y hx hy va vb s₁ s₂ Ea Eb => ?_
  · rcases hc with hc | ⟨x, hx, hc⟩
    · rw [hc]; rfl
    · rw [hx, Out.ok_bind, hc]; rfl
  · have h1 := (bind_ne_bad (n2 x hx)).2 y hy
    cases hr : f x.1 y.1 with
    | bad => exact absurd hr h1
    | exc c => exact absurd hr (hf _ _ _)
    | ok r =>
      obtain ⟨ka, as, ra, ha, _⟩ := Ea
      obtain ⟨kb, bs, rb, hb, _⟩ := Eb
      exact hG x.1 y.1 r (by rw [hx, Out.ok_bind, hy, Out.ok_bind]; exact hr) hr va vb s₂ as bs (ka.trans kb) (ra.k kb.k) rb ha fun z hz => (hb z hz).imp id ka.none

theorem binV_exc {o : BOp} {x y : PyData} {c : String} : binV o x y ≠ .exc c := binV_ne c
theorem cmpV_exc {o : COp} {x y : V} {c : String} : cmpV o x y ≠ .exc c := cmpV_ne c

theorem inv_bin {ns : List (Str × NameKind)} {o : BOp} {a b : E} {ex : Expr} (h : okE ns (.bin o a b) ex = true) : ∃ l op r p, ex = .BinOp l op r p ∧ opB o op = true ∧ okE ns a l = true ∧ okE ns b r = true := by
  replace h := i_bin h
  rcases h with ⟨_, _, _, _, rfl, h⟩ | h
  · simp only [Bool.and_eq_true] at h
    exact ⟨_, _, _, _, rfl, h.1.1, h.1.2, h.2⟩
  · cases h

theorem sim_bin (hXP : ∀ c s s₁ x s', Kp s s₁ → XP c s₁ x s' → XP c s x s') {o : BOp} {a b : E} (Sa : SimE prog w fns k C XP a) (Sb : SimE prog w fns k C XP b) : SimE prog w fns k C XP (.bin o a b) := by
  intro ex A env σ P s Q Er ok X nb hQ hE
  obtain ⟨l, op, r, p, rfl, ho, oa, ob⟩ := inv_bin ok
  simp only [ev] at nb hQ hE
  refine wpAny_BinOp (sim2s hXP Sa Sb (f := fun x y => match x, y with | .d x, .d y => binV o x y | _, _ => .bad) oa ob X nb hE (fun x y c => ?_) fun x y r hr hf va vb s₂ as bs kp ra rb ha hb => ?_)
  · split
    · exact binV_exc
    · simp
  · split at hf
    · exact bin_step ho hf ra.1 ra.2 rb.1 rb.2 ha hb fun v s' e => hQ r hr v s' (.shift kp e)
    · cases hf

theorem inv_cmp {ns : List (Str × NameKind)} {o : COp} {a b : E} {ex : Expr} (h : okE ns (.cmp o a b) ex = true) : ∃ l op r p, ex = .Compare l [op] [r] p ∧ opC o op = true ∧ okE ns a l = true ∧ okE ns b r = true := by
  replace h := i_cmp h
  rcases h with ⟨_, _, _, _, rfl, h⟩ | h
  · simp only [Bool.and_eq_true] at h
    exact ⟨_, _, _, _, rfl, h.1.1, h.1.2, h.2⟩
  · cases h
theorem okE_set {ns : List (Str × NameKind)} {e : E} {es : List Expr} {n : Nat} {p : Pos} : okE ns e (.Set es n p) = false := by cases e <;> rfl
theorem marks_of {ns : List (Str × NameKind)} {e : E} {op : CmpOp} {x : Expr} (h : okE ns e x = true) : behindInMarks op x = false := by
  cases x <;> first | rfl | (rw [okE_set] at h; cases h)

theorem sim_cmp (hXP : ∀ c s s₁ x s', Kp s s₁ → XP c s₁ x s' → XP c s x s') {o : COp} {a b : E} (Sa : SimE prog w fns k C XP a) (Sb : SimE prog w fns k C XP b) : SimE prog w fns k C XP (.cmp o a b) := by
  intro ex A env σ P s Q Er ok X nb hQ hE
  obtain ⟨l, op, r, p, rfl, ho, oa, ob⟩ := inv_cmp ok
  simp only [ev] at nb hQ hE
  refine wpAny_Compare1 (sim2s hXP Sa Sb (f := fun x y => (cmpV o x y).bind fun b => .ok (sB b)) oa ob X nb hE (fun x y c h => ?_) fun x y r hr hf va vb s₂ as bs kp ra rb ha hb => ?_) (marks_of ob)
  · rcases bind_exc h with h | ⟨_, _, h⟩
    · exact cmpV_exc h
    · cases h
  · obtain ⟨t, h1, h2⟩ := Out.bind_ok hf
    cases h2
    exact cmp_step X.room.units ho h1 ra rb fun s' e => hQ _ hr _ s' (.bool (kp.trans e))
theorem simT_cmp (hXP : ∀ c s s₁ x s', Kp s s₁ → XP c s₁ x s' → XP c s x s') {o : COp} {a b : E} (Sa : SimE prog w fns k C XP a) (Sb : SimE prog w fns k C XP b) : SimT prog w fns k C XP (.cmp o a b) := by
  intro ex A env σ P s Q Er ok X nb hQ hE
  obtain ⟨l, op, r, p, rfl, ho, oa, ob⟩ := inv_cmp ok
  have nb' := (bind_ne_bad nb).1
  have hQ' : ∀ r, ev C (.cmp o a b) σ = .ok r → ∀ b, truth r.1 = .ok b → ∀ s', Kp s s' → Q b s' := fun r hr t ht => hQ t (by rw [hr]; exact ht)
  simp only [ev] at nb' hQ' hE
  refine wpAny_isTrue_Compare1 (sim2s hXP Sa Sb (f := fun x y => (cmpV o x y).bind fun b => .ok (sB b)) oa ob X nb' hE (fun x y c h => ?_) fun x y r hr hf va vb s₂ as bs kp ra rb ha hb => ?_) (marks_of ob)
  · rcases bind_exc h with h | ⟨_, _, h⟩
    · exact cmpV_exc h
    · cases h
  · obtain ⟨t, h1, h2⟩ := Out.bind_ok hf
    cases h2
    exact cmp_step X.room.units ho h1 ra rb fun s' e => wpAny_truthy_bool (hQ' _ hr _ rfl s' (kp.trans e))

/-- one part -/
theorem sim_neg {a : E} (Sa : SimE prog w fns k C XP a) : SimE prog w fns k C XP (.neg a) := by
  intro ex A env σ P s Q Er ok X nb hQ hE
  replace ok := i_neg ok
  rcases ok with ⟨_, _, rfl, ok⟩ | ok
  · simp only [ev] at nb hQ hE
    obtain ⟨n1, n2⟩ := bind_ne_bad nb
    refine wpAny_UnaryOp (Sa ok X n1 (fun x hx va s₁ Ea => ?_) fun c hc => hE c (by rw [hc]; rfl))
    have n3 := n2 x hx
    obtain ⟨ka, as, ra, _⟩ := Ea
    obtain ⟨x, m⟩ := x
    dsimp only at n3 ra
    split at n3
    · obtain ⟨_, rfl, rfl⟩ := ra.1.isInt
      exact neg_int (hQ _ (by rw [hx]; rfl) _ _ (.int (ka.trans (.toks s₁ _))))
    · exact absurd rfl n3
  · cases ok

/-- the truth of what is no comparison, negation or chain -/
theorem simT_plain {e : E} (S : SimE prog w fns k C XP e) (hp : ∀ ns ex env (t : Sem Value), okE ns e ex = true → isTrue ex env t = (do let v ← t; standAt ex.pos; holding [v] (truthy v))) : SimT prog w fns k C XP e := by
  intro ex A env σ P s Q Er ok X nb hQ hE
  refine wpAny_isTrue_value (S ok X (bind_ne_bad nb).1 (fun r hr v s' E => ?_) hE) (hp _ _ _ _ ok)
  have n2 := (bind_ne_bad nb).2 r hr
  obtain ⟨x, m⟩ := r
  dsimp only at n2
  unfold truth at n2
  split at n2
  · obtain ⟨ke, as, ⟨re, _⟩, _⟩ := E
    obtain ⟨rfl, rfl⟩ := re.isBool
    exact wpAny_truthy_bool (hQ _ (by rw [hr]; rfl) _ ke)
  · exact absurd rfl n2

theorem inv_not {ns : List (Str × NameKind)} {a : E} {ex : Expr} (h : okE ns (.not a) ex = true) : ∃ x p, ex = .UnaryOp .Not x p ∧ okE ns a x = true := by
  replace h := i_not h
  rcases h with ⟨_, _, rfl, h⟩ | h
  · exact ⟨_, _, rfl, h⟩
  · cases h
theorem sim_not {a : E} (Sa : SimE prog w fns k C XP a) : SimE prog w fns k C XP (.not a) := by
  intro ex A env σ P s Q Er ok X nb hQ hE
  obtain ⟨x, p, rfl, oa⟩ := inv_not ok
  simp only [ev] at nb hQ hE
  obtain ⟨n1, n2⟩ := bind_ne_bad nb
  refine wpAny_UnaryOp (Sa oa X n1 (fun x hx va s₁ Ea => ?_) fun c hc => hE c (by rw [hc]; rfl))
  have n3 := (bind_ne_bad (n2 x hx)).1
  obtain ⟨ka, as, ra, _⟩ := Ea
  obtain ⟨x, m⟩ := x
  dsimp only at n3 ra
  unfold truth at n3
  split at n3
  · obtain ⟨rfl, rfl⟩ := ra.1.isBool
    exact not_value (wpAny_truthy_bool (hQ _ (by rw [hx]; rfl) _ _ (.bool ka)))
  · exact absurd rfl n3
theorem simT_not {a : E} (Sa : SimT prog w fns k C XP a) : SimT prog w fns k C XP (.not a) := by
  intro ex A env σ P s Q Er ok X nb hQ hE
  obtain ⟨x, p, rfl, oa⟩ := inv_not ok
  have e : ((ev C (.not a) σ).bind fun r => truth r.1) = ((ev C a σ).bind fun r => truth r.1).bind fun b => .ok (!b) := by
    simp only [ev]
    cases ev C a σ with
    | ok r => simp only [Out.ok_bind]; cases truth r.1 <;> rfl
    | exc c => rfl
    | bad => rfl
  rw [e] at nb hQ
  refine wpAny_isTrue_Not (Sa oa X (bind_ne_bad nb).1 (fun b hb s' kp => hQ (!b) (by rw [hb]; rfl) s' kp) fun c hc => hE c (by simp only [ev]; rw [hc]; rfl))
end
end Mine

namespace Mine
open PySem PyProof.Rows
set_option linter.unusedSectionVars false
variable [SF : Soft]


section
variable (prog : Program) (w : World) (fns : Fns) (k : Nat) (C : Calls) (XP : String → Shared → Value → Shared → Prop)
noncomputable def SimA (e : E) : Prop := ∀ {vs : List Expr} {pos : Pos} {A : Around} {env : Env} {σ : St} {P : Addr → Prop} {s : Shared} {Q : Value → Shared → Prop} {Er : Value → Shared → Prop},
  okA' env.scope.names e vs = true → Cx prog w fns k A P s.heap env σ → ((ev C e σ).bind fun r => truth r.1) ≠ .bad →
  (∀ b, ((ev C e σ).bind fun r => truth r.1) = .ok b → ∀ s', Kp s s' → Q (.bool b) s') → (∀ c, ev C e σ = .exc c → ∀ x s', XP c s x s' → Er x s') →
  wpAny (model prog w) A (boolOp pos .And (evalEach vs env)) Q Er s
noncomputable def SimTA (e : E) : Prop := ∀ {vs : List Expr} {A : Around} {env : Env} {σ : St} {P : Addr → Prop} {s : Shared} {Q : Bool → Shared → Prop} {Er : Value → Shared → Prop},
  okA' env.scope.names e vs = true → Cx prog w fns k A P s.heap env σ → ((ev C e σ).bind fun r => truth r.1) ≠ .bad →
  (∀ b, ((ev C e σ).bind fun r => truth r.1) = .ok b → ∀ s', Kp s s' → Q b s') → (∀ c, ev C e σ = .exc c → ∀ x s', XP c s x s' → Er x s') →
  wpAny (model prog w) A (allTrue .And vs env) Q Er s
noncomputable def SimO (e : E) : Prop := ∀ {vs : List Expr} {pos : Pos} {A : Around} {env : Env} {σ : St} {P : Addr → Prop} {s : Shared} {Q : Value → Shared → Prop} {Er : Value → Shared → Prop},
  okO' env.scope.names e vs = true → Cx prog w fns k A P s.heap env σ → ((ev C e σ).bind fun r => truth r.1) ≠ .bad →
  (∀ b, ((ev C e σ).bind fun r => truth r.1) = .ok b → ∀ s', Kp s s' → Q (.bool b) s') → (∀ c, ev C e σ = .exc c → ∀ x s', XP c s x s' → Er x s') →
  wpAny (model prog w) A (boolOp pos .Or (evalEach vs env)) Q Er s
noncomputable def SimTO (e : E) : Prop := ∀ {vs : List Expr} {A : Around} {env : Env} {σ : St} {P : Addr → Prop} {s : Shared} {Q : Bool → Shared → Prop} {Er : Value → Shared → Prop},
  okO' env.scope.names e vs = true → Cx prog w fns k A P s.heap env σ → ((ev C e σ).bind fun r => truth r.1) ≠ .bad →
  (∀ b, ((ev C e σ).bind fun r => truth r.1) = .ok b → ∀ s', Kp s s' → Q b s') → (∀ c, ev C e σ = .exc c → ∀ x s', XP c s x s' → Er x s') →
  wpAny (model prog w) A (allTrue .Or vs env) Q Er s
end

section
variable {prog : Program} {w : World} {fns : Fns} {k : Nat} {C : Calls} {XP : String → Shared → Value → Shared → Prop}

/-- a truth value of an expression that is walked as a value -/
theorem bool_val {P : Addr → Prop} {s s' : Shared} {r : V × Mode} {v : Value} {t : Bool} (E : EP prog w P s r v s') (h : truth r.1 = .ok t) : v = .bool t ∧ Kp s s' := by
  obtain ⟨x, m⟩ := r
  dsimp only at h
  unfold truth at h
  split at h
  · cases h
    obtain ⟨ke, as, ⟨re, _⟩, _⟩ := E
    cases re
    exact ⟨rfl, ke⟩
  · cases h
theorem truth_exc {v : V} {c : String} : truth v ≠ .exc c := by unfold truth; split <;> simp
theorem simV {e : E} (S : SimE prog w fns k C XP e) {ex : Expr} {A : Around} {env : Env} {σ : St} {P : Addr → Prop} {s : Shared} {Q : Value → Shared → Prop} {Er : Value → Shared → Prop}
    (ok : okE env.scope.names e ex = true) (X : Cx prog w fns k A P s.heap env σ) (nb : ((ev C e σ).bind fun r => truth r.1) ≠ .bad)
    (hQ : ∀ b, ((ev C e σ).bind fun r => truth r.1) = .ok b → ∀ s', Kp s s' → Q (.bool b) s') (hE : ∀ c, ev C e σ = .exc c → ∀ x s', XP c s x s' → Er x s') : wpAny (model prog w) A (eval ex env) Q Er s := by
  obtain ⟨n1, n2⟩ := bind_ne_bad nb
  refine S ok X n1 (fun r hr v s' E => ?_) hE
  cases ht : truth r.1 with
  | bad => exact absurd ht (n2 r hr)
  | exc c => exact absurd ht truth_exc
  | ok t =>
    obtain ⟨rfl, kp⟩ := bool_val E ht
    exact hQ t (by rw [hr]; exact ht) s' kp

theorem boolOp_one {M : Model} {A : Around} {pos : Pos} {op : BoolOp} {x : Sem Value} {Q : Value → Shared → Prop} {E : Value → Shared → Prop} {s : Shared} (h : wpAny M A x Q E s) : wpAny M A (boolOp pos op [x]) Q E s := h
theorem boolOp_and {M : Model} {A : Around} {pos : Pos} {x y : Sem Value} {r : List (Sem Value)} {Q : Value → Shared → Prop} {E : Value → Shared → Prop} {s : Shared}
    (h : wpAny M A x (fun v s₁ => wpAny M A (truthy v) (fun t s₂ => if t then wpAny M A (boolOp pos .And (y :: r)) Q E s₂ else Q v s₂) E s₁) E s) : wpAny M A (boolOp pos .And (x :: y :: r)) Q E s := by
  rw [boolOp]
  · refine wpAny_bind (wpAny_mono h (fun v s₁ h₁ => wpAny_bind (wpAny_standAt (wpAny_bind (wpAny_holding (wpAny_mono h₁ (fun t s₂ h₂ => ?_) fun _ _ e => e))))) fun _ _ e => e)
    cases t with
    | false => exact wpAny_pure h₂
    | true => exact h₂
  · simp
theorem boolOp_or {M : Model} {A : Around} {pos : Pos} {x y : Sem Value} {r : List (Sem Value)} {Q : Value → Shared → Prop} {E : Value → Shared → Prop} {s : Shared}
    (h : wpAny M A x (fun v s₁ => wpAny M A (truthy v) (fun t s₂ => if t then Q v s₂ else wpAny M A (boolOp pos .Or (y :: r)) Q E s₂) E s₁) E s) : wpAny M A (boolOp pos .Or (x :: y :: r)) Q E s := by
  rw [boolOp]
  · refine wpAny_bind (wpAny_mono h (fun v s₁ h₁ => wpAny_bind (wpAny_standAt (wpAny_bind (wpAny_holding (wpAny_mono h₁ (fun t s₂ h₂ => ?_) fun _ _ e => e))))) fun _ _ e => e)
    cases t with
    | false => exact h₂
    | true => exact wpAny_pure h₂
  · simp

theorem okA'_inv {ns : List (Str × NameKind)} {b : E} {vs : List Expr} (h : okA' ns b vs = true) : (∃ u, vs = [u] ∧ okE ns b u = true) ∨ okA ns b vs = true := by
  unfold okA' at h
  cases e : dOne vs with
  | some u => rw [e] at h; exact .inl ⟨u, dOne_inv e, h⟩
  | none => rw [e] at h; exact .inr h
theorem okA'_ne {ns : List (Str × NameKind)} {b : E} {vs : List Expr} (h : okA' ns b vs = true) : ∃ y r, vs = y :: r := by
  cases vs with
  | nil => cases b <;> exact Bool.noConfusion (show false = true from h)
  | cons y r => exact ⟨y, r, rfl⟩
theorem okO'_inv {ns : List (Str × NameKind)} {b : E} {vs : List Expr} (h : okO' ns b vs = true) : (∃ u, vs = [u] ∧ okE ns b u = true) ∨ okO ns b vs = true := by
  unfold okO' at h
  cases e : dOne vs with
  | some u => rw [e] at h; exact .inl ⟨u, dOne_inv e, h⟩
  | none => rw [e] at h; exact .inr h
theorem okO'_ne {ns : List (Str × NameKind)} {b : E} {vs : List Expr} (h : okO' ns b vs = true) : ∃ y r, vs = y :: r := by
  cases vs with
  | nil => cases b <;> exact Bool.noConfusion (show false = true from h)
  | cons y r => exact ⟨y, r, rfl⟩

theorem and_truth (a b : E) (σ : St) : ((ev C (.and a b) σ).bind fun r => truth r.1) = ((ev C a σ).bind fun r => truth r.1).bind fun t => if t then (ev C b σ).bind fun r => truth r.1 else .ok false := by
  simp only [ev]
  cases ev C a σ with
  | ok r =>
    simp only [Out.ok_bind]
    cases truth r.1 with
    | ok t =>
      cases t with
      | false => rfl
      | true =>
        simp only [Out.ok_bind, if_true]
        cases ev C b σ with
        | ok q => simp only [Out.ok_bind]; cases truth q.1 <;> rfl
        | exc c => rfl
        | bad => rfl
    | exc c => rfl
    | bad => rfl
  | exc c => rfl
  | bad => rfl
theorem or_truth (a b : E) (σ : St) : ((ev C (.or a b) σ).bind fun r => truth r.1) = ((ev C a σ).bind fun r => truth r.1).bind fun t => if t then .ok true else (ev C b σ).bind fun r => truth r.1 := by
  simp only [ev]
  cases ev C a σ with
  | ok r =>
    simp only [Out.ok_bind]
    cases truth r.1 with
    | ok t =>
      cases t with
      | true => rfl
      | false =>
        simp only [Out.ok_bind, Bool.false_eq_true, if_false]
        cases ev C b σ with
        | ok q => simp only [Out.ok_bind]; cases truth q.1 <;> rfl
        | exc c => rfl
        | bad => rfl
    | exc c => rfl
    | bad => rfl
  | exc c => rfl
  | bad => rfl
/-- what a chain gives is a truth value -/
theorem and_val {a b : E} {σ : St} {r : V × Mode} (h : ev C (.and a b) σ = .ok r) : ∃ t, r = sB t := by
  simp only [ev] at h
  obtain ⟨x, _, h⟩ := Out.bind_ok h
  obtain ⟨t, _, h⟩ := Out.bind_ok h
  cases t with
  | false => exact ⟨false, by simpa using h.symm⟩
  | true =>
    simp only [if_true] at h
    obtain ⟨y, _, h⟩ := Out.bind_ok h
    obtain ⟨u, _, h⟩ := Out.bind_ok h
    cases h; exact ⟨u, rfl⟩
theorem or_val {a b : E} {σ : St} {r : V × Mode} (h : ev C (.or a b) σ = .ok r) : ∃ t, r = sB t := by
  simp only [ev] at h
  obtain ⟨x, _, h⟩ := Out.bind_ok h
  obtain ⟨t, _, h⟩ := Out.bind_ok h
  cases t with
  | true => exact ⟨true, by simpa using h.symm⟩
  | false =>
    simp only [Bool.false_eq_true, if_false] at h
    obtain ⟨y, _, h⟩ := Out.bind_ok h
    obtain ⟨u, _, h⟩ := Out.bind_ok h
    cases h; exact ⟨u, rfl⟩
theorem bind_truth_exc {o : Out (V × Mode)} {c : String} (h : (o.bind fun r => truth r.1) = .exc c) : o = .exc c := by
  rcases bind_exc h with h | ⟨_, _, h⟩
  · exact h
  · exact absurd h truth_exc

section
variable (hXP : ∀ c s s₁ x s', Kp s s₁ → XP c s₁ x s' → XP c s x s')
include hXP

theorem andL {a b : E} (Sa : SimE prog w fns k C XP a) (Ab : SimA prog w fns k C XP b) {v : Expr} {vs : List Expr} {pos : Pos} {A : Around} {env : Env} {σ : St} {P : Addr → Prop} {s : Shared} {Q : Value → Shared → Prop} {Er : Value → Shared → Prop}
    (oa : okE env.scope.names a v = true) (ob : okA' env.scope.names b vs = true) (X : Cx prog w fns k A P s.heap env σ) (nb : ((ev C (.and a b) σ).bind fun r => truth r.1) ≠ .bad)
    (hQ : ∀ t, ((ev C (.and a b) σ).bind fun r => truth r.1) = .ok t → ∀ s', Kp s s' → Q (.bool t) s') (hE : ∀ c, ev C (.and a b) σ = .exc c → ∀ x s', XP c s x s' → Er x s') :
    wpAny (model prog w) A (boolOp pos .And (evalEach (v :: vs) env)) Q Er s := by
  obtain ⟨y, r, rfl⟩ := okA'_ne ob
  have hE' : ∀ c, ((ev C (.and a b) σ).bind fun r => truth r.1) = .exc c → ∀ x s', XP c s x s' → Er x s' := fun c h => hE c (bind_truth_exc h)
  rw [and_truth] at nb hQ hE'
  obtain ⟨n1, n2⟩ := bind_ne_bad nb
  refine boolOp_and (simV Sa oa X n1 (fun t ht s₁ k₁ => wpAny_truthy_bool ?_) fun c hc => hE' c (by rw [hc]; rfl))
  cases t with
  | false => exact hQ false (by rw [ht]; rfl) s₁ k₁
  | true =>
    have n3 := n2 true ht
    simp only [if_true] at n3 ⊢
    refine Ab ob (X.k k₁.k) n3 (fun t ht' s₂ k₂ => hQ t (by rw [ht]; simpa using ht') s₂ (k₁.trans k₂)) fun c hc x s' hx => hE' c (by rw [ht]; simp [hc]) x s' (hXP c s s₁ x s' k₁ hx)
theorem orL {a b : E} (Sa : SimE prog w fns k C XP a) (Ab : SimO prog w fns k C XP b) {v : Expr} {vs : List Expr} {pos : Pos} {A : Around} {env : Env} {σ : St} {P : Addr → Prop} {s : Shared} {Q : Value → Shared → Prop} {Er : Value → Shared → Prop}
    (oa : okE env.scope.names a v = true) (ob : okO' env.scope.names b vs = true) (X : Cx prog w fns k A P s.heap env σ) (nb : ((ev C (.or a b) σ).bind fun r => truth r.1) ≠ .bad)
    (hQ : ∀ t, ((ev C (.or a b) σ).bind fun r => truth r.1) = .ok t → ∀ s', Kp s s' → Q (.bool t) s') (hE : ∀ c, ev C (.or a b) σ = .exc c → ∀ x s', XP c s x s' → Er x s') :
    wpAny (model prog w) A (boolOp pos .Or (evalEach (v :: vs) env)) Q Er s := by
  obtain ⟨y, r, rfl⟩ := okO'_ne ob
  have hE' : ∀ c, ((ev C (.or a b) σ).bind fun r => truth r.1) = .exc c → ∀ x s', XP c s x s' → Er x s' := fun c h => hE c (bind_truth_exc h)
  rw [or_truth] at nb hQ hE'
  obtain ⟨n1, n2⟩ := bind_ne_bad nb
  refine boolOp_or (simV Sa oa X n1 (fun t ht s₁ k₁ => wpAny_truthy_bool ?_) fun c hc => hE' c (by rw [hc]; rfl))
  cases t with
  | true => exact hQ true (by rw [ht]; rfl) s₁ k₁
  | false =>
    have n3 := n2 false ht
    simp only [Bool.false_eq_true, if_false] at n3 ⊢
    refine Ab ob (X.k k₁.k) n3 (fun t ht' s₂ k₂ => hQ t (by rw [ht]; simpa using ht') s₂ (k₁.trans k₂)) fun c hc x s' hx => hE' c (by rw [ht]; simp [hc]) x s' (hXP c s s₁ x s' k₁ hx)
theorem andTL {a b : E} (Sa : SimT prog w fns k C XP a) (Ab : SimTA prog w fns k C XP b) {v : Expr} {vs : List Expr} {A : Around} {env : Env} {σ : St} {P : Addr → Prop} {s : Shared} {Q : Bool → Shared → Prop} {Er : Value → Shared → Prop}
    (oa : okE env.scope.names a v = true) (ob : okA' env.scope.names b vs = true) (X : Cx prog w fns k A P s.heap env σ) (nb : ((ev C (.and a b) σ).bind fun r => truth r.1) ≠ .bad)
    (hQ : ∀ t, ((ev C (.and a b) σ).bind fun r => truth r.1) = .ok t → ∀ s', Kp s s' → Q t s') (hE : ∀ c, ev C (.and a b) σ = .exc c → ∀ x s', XP c s x s' → Er x s') :
    wpAny (model prog w) A (allTrue .And (v :: vs) env) Q Er s := by
  have hE' : ∀ c, ((ev C (.and a b) σ).bind fun r => truth r.1) = .exc c → ∀ x s', XP c s x s' → Er x s' := fun c h => hE c (bind_truth_exc h)
  rw [and_truth] at nb hQ hE'
  obtain ⟨n1, n2⟩ := bind_ne_bad nb
  refine wpAny_allTrue_And_cons (Sa oa X n1 (fun t ht s₁ k₁ => ?_) fun c hc => hE' c (by rw [hc]; rfl))
  cases t with
  | false => exact hQ false (by rw [ht]; rfl) s₁ k₁
  | true =>
    have n3 := n2 true ht
    simp only [if_true] at n3 ⊢
    refine Ab ob (X.k k₁.k) n3 (fun t ht' s₂ k₂ => hQ t (by rw [ht]; simpa using ht') s₂ (k₁.trans k₂)) fun c hc x s' hx => hE' c (by rw [ht]; simp [hc]) x s' (hXP c s s₁ x s' k₁ hx)
theorem orTL {a b : E} (Sa : SimT prog w fns k C XP a) (Ab : SimTO prog w fns k C XP b) {v : Expr} {vs : List Expr} {A : Around} {env : Env} {σ : St} {P : Addr → Prop} {s : Shared} {Q : Bool → Shared → Prop} {Er : Value → Shared → Prop}
    (oa : okE env.scope.names a v = true) (ob : okO' env.scope.names b vs = true) (X : Cx prog w fns k A P s.heap env σ) (nb : ((ev C (.or a b) σ).bind fun r => truth r.1) ≠ .bad)
    (hQ : ∀ t, ((ev C (.or a b) σ).bind fun r => truth r.1) = .ok t → ∀ s', Kp s s' → Q t s') (hE : ∀ c, ev C (.or a b) σ = .exc c → ∀ x s', XP c s x s' → Er x s') :
    wpAny (model prog w) A (allTrue .Or (v :: vs) env) Q Er s := by
  have hE' : ∀ c, ((ev C (.or a b) σ).bind fun r => truth r.1) = .exc c → ∀ x s', XP c s x s' → Er x s' := fun c h => hE c (bind_truth_exc h)
  rw [or_truth] at nb hQ hE'
  obtain ⟨n1, n2⟩ := bind_ne_bad nb
  refine wpAny_allTrue_Or_cons (Sa oa X n1 (fun t ht s₁ k₁ => ?_) fun c hc => hE' c (by rw [hc]; rfl))
  cases t with
  | true => exact hQ true (by rw [ht]; rfl) s₁ k₁
  | false =>
    have n3 := n2 false ht
    simp only [Bool.false_eq_true, if_false] at n3 ⊢
    refine Ab ob (X.k k₁.k) n3 (fun t ht' s₂ k₂ => hQ t (by rw [ht]; simpa using ht') s₂ (k₁.trans k₂)) fun c hc x s' hx => hE' c (by rw [ht]; simp [hc]) x s' (hXP c s s₁ x s' k₁ hx)

theorem inv_and {ns : List (Str × NameKind)} {a b : E} {ex : Expr} (h : okE ns (.and a b) ex = true) : ∃ v vs p, ex = .BoolOp .And (v :: vs) p ∧ okE ns a v = true ∧ okA' ns b vs = true := by
  replace h := i_and h
  rcases h with ⟨_, _, _, rfl, h⟩ | h
  · simp only [Bool.and_eq_true] at h
    exact ⟨_, _, _, rfl, h.1, h.2⟩
  · cases h
theorem inv_or {ns : List (Str × NameKind)} {a b : E} {ex : Expr} (h : okE ns (.or a b) ex = true) : ∃ v vs p, ex = .BoolOp .Or (v :: vs) p ∧ okE ns a v = true ∧ okO' ns b vs = true := by
  replace h := i_or h
  rcases h with ⟨_, _, _, rfl, h⟩ | h
  · simp only [Bool.and_eq_true] at h
    exact ⟨_, _, _, rfl, h.1, h.2⟩
  · cases h
theorem sim_and {a b : E} (Sa : SimE prog w fns k C XP a) (Ab : SimA prog w fns k C XP b) : SimE prog w fns k C XP (.and a b) := by
  intro ex A env σ P s Q Er ok X nb hQ hE
  obtain ⟨v, vs, p, rfl, oa, ob⟩ := inv_and hXP ok
  rw [arm_eval_BoolOp]
  refine andL hXP Sa Ab oa ob X (fun h => ?_) (fun t ht s' kp => ?_) hE
  · cases e : ev C (.and a b) σ with
    | ok r => rw [e] at h; obtain ⟨t, rfl⟩ := and_val e; cases h
    | exc c => rw [e] at h; cases h
    | bad => exact nb e
  · obtain ⟨r, hr, ht⟩ := Out.bind_ok ht
    obtain ⟨u, rfl⟩ := and_val hr
    cases ht
    exact hQ _ hr _ s' (.bool kp)
theorem sim_or {a b : E} (Sa : SimE prog w fns k C XP a) (Ab : SimO prog w fns k C XP b) : SimE prog w fns k C XP (.or a b) := by
  intro ex A env σ P s Q Er ok X nb hQ hE
  obtain ⟨v, vs, p, rfl, oa, ob⟩ := inv_or hXP ok
  rw [arm_eval_BoolOp]
  refine orL hXP Sa Ab oa ob X (fun h => ?_) (fun t ht s' kp => ?_) hE
  · cases e : ev C (.or a b) σ with
    | ok r => rw [e] at h; obtain ⟨t, rfl⟩ := or_val e; cases h
    | exc c => rw [e] at h; cases h
    | bad => exact nb e
  · obtain ⟨r, hr, ht⟩ := Out.bind_ok ht
    obtain ⟨u, rfl⟩ := or_val hr
    cases ht
    exact hQ _ hr _ s' (.bool kp)
theorem simT_and {a b : E} (Sa : SimT prog w fns k C XP a) (Ab : SimTA prog w fns k C XP b) : SimT prog w fns k C XP (.and a b) := by
  intro ex A env σ P s Q Er ok X nb hQ hE
  obtain ⟨v, vs, p, rfl, oa, ob⟩ := inv_and hXP ok
  exact wpAny_isTrue_BoolOp (andTL hXP Sa Ab oa ob X nb hQ hE)
theorem simT_or {a b : E} (Sa : SimT prog w fns k C XP a) (Ab : SimTO prog w fns k C XP b) : SimT prog w fns k C XP (.or a b) := by
  intro ex A env σ P s Q Er ok X nb hQ hE
  obtain ⟨v, vs, p, rfl, oa, ob⟩ := inv_or hXP ok
  exact wpAny_isTrue_BoolOp (orTL hXP Sa Ab oa ob X nb hQ hE)
end

/-- the last of a chain -/
theorem simA_one {e : E} (S : SimE prog w fns k C XP e) (h : ∀ {vs : List Expr} {pos : Pos} {A : Around} {env : Env} {σ : St} {P : Addr → Prop} {s : Shared} {Q : Value → Shared → Prop} {Er : Value → Shared → Prop},
    okA env.scope.names e vs = true → Cx prog w fns k A P s.heap env σ → ((ev C e σ).bind fun r => truth r.1) ≠ .bad →
    (∀ b, ((ev C e σ).bind fun r => truth r.1) = .ok b → ∀ s', Kp s s' → Q (.bool b) s') → (∀ c, ev C e σ = .exc c → ∀ x s', XP c s x s' → Er x s') → wpAny (model prog w) A (boolOp pos .And (evalEach vs env)) Q Er s) : SimA prog w fns k C XP e := by
  intro vs pos A env σ P s Q Er ok X nb hQ hE
  replace ok := okA'_inv ok
  rcases ok with ⟨_, rfl, ok⟩ | ok
  · exact boolOp_one (simV S ok X nb hQ hE)
  · exact h ok X nb hQ hE
theorem simO_one {e : E} (S : SimE prog w fns k C XP e) (h : ∀ {vs : List Expr} {pos : Pos} {A : Around} {env : Env} {σ : St} {P : Addr → Prop} {s : Shared} {Q : Value → Shared → Prop} {Er : Value → Shared → Prop},
    okO env.scope.names e vs = true → Cx prog w fns k A P s.heap env σ → ((ev C e σ).bind fun r => truth r.1) ≠ .bad →
    (∀ b, ((ev C e σ).bind fun r => truth r.1) = .ok b → ∀ s', Kp s s' → Q (.bool b) s') → (∀ c, ev C e σ = .exc c → ∀ x s', XP c s x s' → Er x s') → wpAny (model prog w) A (boolOp pos .Or (evalEach vs env)) Q Er s) : SimO prog w fns k C XP e := by
  intro vs pos A env σ P s Q Er ok X nb hQ hE
  replace ok := okO'_inv ok
  rcases ok with ⟨_, rfl, ok⟩ | ok
  · exact boolOp_one (simV S ok X nb hQ hE)
  · exact h ok X nb hQ hE
theorem simTA_one {e : E} (S : SimT prog w fns k C XP e) (h : ∀ {vs : List Expr} {A : Around} {env : Env} {σ : St} {P : Addr → Prop} {s : Shared} {Q : Bool → Shared → Prop} {Er : Value → Shared → Prop},
    okA env.scope.names e vs = true → Cx prog w fns k A P s.heap env σ → ((ev C e σ).bind fun r => truth r.1) ≠ .bad →
    (∀ b, ((ev C e σ).bind fun r => truth r.1) = .ok b → ∀ s', Kp s s' → Q b s') → (∀ c, ev C e σ = .exc c → ∀ x s', XP c s x s' → Er x s') → wpAny (model prog w) A (allTrue .And vs env) Q Er s) : SimTA prog w fns k C XP e := by
  intro vs A env σ P s Q Er ok X nb hQ hE
  replace ok := okA'_inv ok
  rcases ok with ⟨_, rfl, ok⟩ | ok
  · refine wpAny_allTrue_And_cons (S ok X nb (fun t ht s' kp => ?_) hE)
    cases t with
    | false => exact hQ _ ht s' kp
    | true => exact wpAny_allTrue_And_nil (hQ _ ht s' kp)
  · exact h ok X nb hQ hE
theorem simTO_one {e : E} (S : SimT prog w fns k C XP e) (h : ∀ {vs : List Expr} {A : Around} {env : Env} {σ : St} {P : Addr → Prop} {s : Shared} {Q : Bool → Shared → Prop} {Er : Value → Shared → Prop},
    okO env.scope.names e vs = true → Cx prog w fns k A P s.heap env σ → ((ev C e σ).bind fun r => truth r.1) ≠ .bad →
    (∀ b, ((ev C e σ).bind fun r => truth r.1) = .ok b → ∀ s', Kp s s' → Q b s') → (∀ c, ev C e σ = .exc c → ∀ x s', XP c s x s' → Er x s') → wpAny (model prog w) A (allTrue .Or vs env) Q Er s) : SimTO prog w fns k C XP e := by
  intro vs A env σ P s Q Er ok X nb hQ hE
  replace ok := okO'_inv ok
  rcases ok with ⟨_, rfl, ok⟩ | ok
  · refine wpAny_allTrue_Or_cons (S ok X nb (fun t ht s' kp => ?_) hE)
    cases t with
    | false => exact wpAny_allTrue_Or_nil (hQ _ ht s' kp)
    | true => exact hQ _ ht s' kp
  · exact h ok X nb hQ hE
end
end Mine

namespace Mine
open PySem PyProof.Rows
set_option linter.unusedSectionVars false
variable [SF : Soft]

section
variable {prog : Program} {w : World} {fns : Fns} {k : Nat} {C : Calls} {XP : String → Shared → Value → Shared → Prop}

/-- a list that is new -/
theorem EP.aList {P : Addr → Prop} {s s' : Shared} {a : Addr} {n : Nat} {xs : List PyData} {vs : List Value} {as : List Addr} (kp : Kp s s') (hn : s.heap.get? a = none)
    (ha : s'.heap.get? a = some ⟨.type "list", none, .seq vs.toArray n, #[]⟩) (r : RA s'.heap vs xs as) (hl : xs.length ≤ 2 ^ 22) (hz : ∀ x ∈ xs, sz x = true) (hP : ∀ b ∈ as, P b ∧ b ≠ a) :
    EP prog w P s (.d (.list xs), fresh xs) (.ref a) s' := by
  refine ⟨kp, a :: as, ⟨.list ha r, sz_list.mpr ⟨hl, hz⟩⟩, ?_, ?_, ?_⟩
  · intro b h
    rcases List.mem_cons.mp h with rfl | h
    · exact .inr hn
    · exact .inl (hP b h).1
  · intro _
    exact ⟨_, _, rfl, hn, fun h => (hP a h).2 rfl⟩
  · intro hm
    have hall : xs.all sx = true := by
      unfold fresh at hm; dsimp only at hm; split at hm
      · assumption
      · cases hm
    rw [r.sx_nil hall]
    refine ⟨fun b h => ?_, by simp⟩
    rcases List.mem_cons.mp h with rfl | h
    · exact hn
    · cases h

theorem R.isList {h : Heap} {v : Value} {xs : List PyData} {as : List Addr} (r : R h v (.list xs) as) : ∃ a vs n bs, v = .ref a ∧ h.get? a = some ⟨.type "list", Option.none, .seq vs.toArray n, #[]⟩ ∧ RA h vs xs bs ∧ as = a :: bs := by
  cases r with
  | list e r => exact ⟨_, _, _, _, rfl, e, r, rfl⟩
theorem R.isTup {h : Heap} {v : Value} {xs : List PyData} {as : List Addr} (r : R h v (.tuple xs) as) : ∃ a vs n, v = .ref a ∧ h.get? a = some ⟨.type "tuple", Option.none, .seq vs.toArray n, #[]⟩ ∧ RA h vs xs as := by
  cases r with
  | tuple e r => exact ⟨_, _, _, rfl, e, r⟩
theorem isL {h : Heap} {a : Addr} {vs : List Value} {n : Nat} (e : h.get? a = some ⟨.type "list", none, .seq vs.toArray n, #[]⟩) : h.IsList a vs.toArray := ⟨_, e, rfl, n, rfl⟩

theorem okE_slice {ns : List (Str × NameKind)} {e : E} {a b c : Option Expr} {p : Pos} : okE ns e (.Slice a b c p) = false := by cases e <;> rfl
theorem okE_starred {ns : List (Str × NameKind)} {e : E} {a : Expr} {p : Pos} : okE ns e (.Starred a p) = false := by cases e <;> rfl
theorem subscripted_plain {ns : List (Str × NameKind)} {e : E} {x : Expr} (h : okE ns e x = true) (o i : Value) : subscripted x false o i = operate [o, i] (getItem o i) := by
  cases x <;> first | rfl | (rw [okE_slice] at h; cases h)
theorem star_plain {ns : List (Str × NameKind)} {e : E} {x : Expr} (h : okE ns e x = true) (rest : List Expr) (env : Env) : starEach (x :: rest) env = (false, eval x env) :: starEach rest env := by
  cases x <;> first | rfl | (rw [okE_starred] at h; cases h)

section
variable {va vb : Value} {as bs : List Addr} {A : Around} {P : Addr → Prop} {s : Shared} {Q : Value → Shared → Prop} {Er : Value → Shared → Prop}
theorem mk_of {y : PyData} {v : Value} (r : R s.heap v y bs) (z : sz y = true) (h : ∀ b ∈ bs, P b) : EP prog w P s (mk (.d y)) v s := mk_ep (x := .d y) ⟨r, z⟩ h
/-- an item of a value -/
def ItemV (h : Heap) (v : Value) (i : Int) (u : Value) : Prop := ∃ (a : Addr) (T : String) (vs : List Value) (n k : Nat), v = .ref a ∧ h.get? a = some ⟨.type T, none, .seq vs.toArray n, #[]⟩ ∧ seqIdx i vs.length = some k ∧ vs[k]? = some u
theorem seqIdx_range {i : Int} {n k : Nat} (h : seqIdx i n = some k) : (0 ≤ i ∧ i < n ∧ k = i.toNat) ∨ (i < 0 ∧ -(n : Int) ≤ i ∧ k = (i + n).toNat) := by
  unfold seqIdx at h
  by_cases h0 : 0 ≤ i
  · rw [if_pos h0] at h
    by_cases h1 : i < n
    · rw [if_pos h1] at h; exact .inl ⟨h0, h1, (Option.some.inj h).symm⟩
    · rw [if_neg h1] at h; cases h
  · rw [if_neg h0] at h
    by_cases h1 : -(n : Int) ≤ i
    · rw [if_pos h1] at h; exact .inr ⟨by lia, h1, (Option.some.inj h).symm⟩
    · rw [if_neg h1] at h; cases h
theorem sub_list {value slice : Expr} {a : Addr} {vs : List Value} {n k : Nat} {i : Int} {t : Tok} {v : Value} (hs : ∀ o i, subscripted slice false o i = operate [o, i] (getItem o i)) (ea : s.heap.get? a = some ⟨.type "list", none, .seq vs.toArray n, #[]⟩) (hl : vs.length ≤ 2 ^ 22)
    (hk : seqIdx i vs.length = some k) (hv : vs[k]? = some v) (hQ : Q v s) : wpAny (model prog w) A (subscriptTail value slice (.ref a) (.int i t)) Q Er s := by
  rcases seqIdx_range hk with ⟨h0, h1, rfl⟩ | ⟨h0, h1, rfl⟩
  · exact tail_any (isL ea).typeIs slot_list_getitem.lookup (wpAny_getItem_list (isL ea) h0 (by lia) (by simpa using hv) hQ) (hs _ _)
  · refine tail_any (isL ea).typeIs slot_list_getitem.lookup (wpAny_getItem_list_neg (isL ea) h0 (by rw [List.size_toArray]; exact h1) (by lia) ?_ hQ) (hs _ _)
    rw [List.size_toArray]
    simpa using hv
theorem sub_tup {value slice : Expr} {a : Addr} {vs : List Value} {n k : Nat} {i : Int} {t : Tok} {v : Value} (hs : ∀ o i, subscripted slice false o i = operate [o, i] (getItem o i)) (ea : s.heap.get? a = some ⟨.type "tuple", none, .seq vs.toArray n, #[]⟩) (hl : vs.length ≤ 2 ^ 22)
    (hk : seqIdx i vs.length = some k) (hv : vs[k]? = some v) (hQ : Q v s) : wpAny (model prog w) A (subscriptTail value slice (.ref a) (.int i t)) Q Er s := by
  have hj : seqIndex? i (vs.toArray).size = some k := by
    rw [List.size_toArray]
    rcases seqIdx_range hk with ⟨h0, h1, rfl⟩ | ⟨h0, h1, rfl⟩
    · have h3 : ¬ i < 0 := by lia
      simp [seqIndex?, h3, h0, h1]
    · exact seqIndex_neg h0 h1
  have hb : -(2 ^ 22) ≤ i ∧ i < 2 ^ 22 := by rcases seqIdx_range hk with ⟨h0, h1, _⟩ | ⟨h0, h1, _⟩ <;> lia
  exact tail_any ⟨_, ea, rfl⟩ slot_tuple_getitem.lookup (PySem.P.getItem_tuple ea (by lia) (by lia) hj (by simpa using hv) hQ) (hs _ _)
theorem sub_item {value slice : Expr} {x y : PyData} {i : Int} {t : Tok} (hs : ∀ o i, subscripted slice false o i = operate [o, i] (getItem o i)) (he : elem x i = some y) (ra : R s.heap va x as) (za : sz x = true)
    (hQ : ∀ v ds, ItemV s.heap va i v → R s.heap v y ds → sz y = true → (∀ b ∈ ds, b ∈ as) → Q v s) : wpAny (model prog w) A (subscriptTail value slice va (.int i t)) Q Er s := by
  unfold elem at he
  cases hx : asL x with
  | some xs =>
    rw [hx] at he
    cases asL_inv hx
    obtain ⟨k, hk, hy⟩ := Option.bind_eq_some_iff.mp he
    obtain ⟨a, vs, n, cs, rfl, ea, ra', rfl⟩ := ra.isList
    obtain ⟨v, ds, hv, rv, hd⟩ := ra'.get hy
    have hz := sz_list.mp za
    have hl := ra'.length
    rw [← hl] at hk hz
    exact sub_list hs ea hz.1 hk hv (hQ v ds ⟨a, _, vs, n, k, rfl, ea, hk, hv⟩ rv (hz.2 y (List.mem_of_getElem? hy)) fun b hb => .tail _ (hd b hb))
  | none =>
    rw [hx] at he
    cases ht : asT x with
    | none => rw [ht] at he; cases he
    | some xs =>
      rw [ht] at he
      cases asT_inv ht
      obtain ⟨k, hk, hy⟩ := Option.bind_eq_some_iff.mp he
      obtain ⟨a, vs, n, rfl, ea, ra'⟩ := ra.isTup
      obtain ⟨v, ds, hv, rv, hd⟩ := ra'.get hy
      have hz := sz_tuple.mp za
      have hl := ra'.length
      rw [← hl] at hk hz
      exact sub_tup hs ea hz.1 hk hv (hQ v ds ⟨a, _, vs, n, k, rfl, ea, hk, hv⟩ rv (hz.2 y (List.mem_of_getElem? hy)) hd)
theorem sub_step {value slice : Expr} {x i : PyData} {r : V × Mode} (hs : ∀ o i, subscripted slice false o i = operate [o, i] (getItem o i)) (he : subV x i = .ok r) (ra : R s.heap va x as) (za : sz x = true) (rb : R s.heap vb i bs) (ha : ∀ a ∈ as, P a)
    (hQ : ∀ v s', EP prog w P s r v s' → Q v s') : wpAny (model prog w) A (subscriptTail value slice va vb) Q Er s := by
  obtain ⟨k, hk, he⟩ := optO_ok he
  obtain ⟨y, hy, he⟩ := optO_ok he
  cases he
  cases keyI_inv hk
  obtain ⟨_, rfl, rfl⟩ := rb.isInt
  exact sub_item hs hy ra za fun v ds _ rv z hd => hQ v s (mk_of rv z fun b hb => ha b (hd b hb))
end

theorem subV_exc {x y : PyData} {c : String} : subV x y ≠ .exc c := subV_ne c
theorem sim_sub (hXP : ∀ c s s₁ x s', Kp s s₁ → XP c s₁ x s' → XP c s x s') {a b : E} (Sa : SimE prog w fns k C XP a) (Sb : SimE prog w fns k C XP b) : SimE prog w fns k C XP (.sub a b) := by
  intro ex A env σ P s Q Er ok X nb hQ hE
  replace ok := i_sub ok
  rcases ok with ⟨_, _, _, rfl, ok⟩ | ok
  · simp only [Bool.and_eq_true] at ok
    simp only [ev] at nb hQ hE
    refine Subscript_ (sim2s hXP Sa Sb (f := fun x y => match x, y with | .d x, .d y => subV x y | _, _ => .bad) ok.1 ok.2 X nb hE (fun x y c => ?_) fun x y r hr hf va vb s₂ as bs kp ra rb ha hb => ?_)
    · split
      · exact subV_exc
      · simp
    · split at hf
      · exact sub_step (subscripted_plain ok.2) hf ra.1 ra.2 rb.1 ha fun v s' e => hQ r hr v s' (.shift kp e)
      · cases hf
  · cases ok

/-! slices -/
theorem evalPart_some_ {M : Model} {A : Around} {env : Env} {e : Expr} {Q : Value → Shared → Prop} {E : Value → Shared → Prop} {s : Shared} (h : wpAny M A (eval e env) Q E s) : wpAny M A (evalPart (some e) env) Q E s := by rw [evalPart_some]; exact h
theorem evalPart_none_ {M : Model} {A : Around} {env : Env} {Q : Value → Shared → Prop} {E : Value → Shared → Prop} {s : Shared} (h : Q .none s) : wpAny M A (evalPart none env) Q E s := by rw [evalPart_none]; exact wpAny_pure h

section
variable {va vl vu vt : Value} {as bs : List Addr} {A : Around} {P : Addr → Prop} {s : Shared} {Q : Value → Shared → Prop} {Er : Value → Shared → Prop}
theorem slice_step {value slice : Expr} {xs ys : List PyData} {lo hi st : Option Int} (hs : ∃ ops : Value → Value → List Value, ∀ o i, subscripted slice false o i = operate (ops o i) (getItem o i)) (ra : R s.heap va (.list xs) as) (za : sz (.list xs) = true) (ha : ∀ a ∈ as, P a)
    (pl : IsPart vl lo) (pu : IsPart vu hi) (pt : IsPart vt st) (h0 : st ≠ some 0) (hy : ∀ vs cs, RA s.heap vs xs cs → ∃ ws ds, slicePick vs.toArray lo hi st = ws.toArray ∧ RA s.heap ws ys ds ∧ ∀ b ∈ ds, b ∈ cs) (hz : ∀ y ∈ ys, sz y = true) (hl : ys.length ≤ 2 ^ 22)
    (hQ : ∀ v s', EP prog w P s (.d (.list ys), fresh ys) v s' → Q v s') :
    wpAny (model prog w) A (subscriptTail value slice va (.ref s.heap.objs.size)) Q Er { s with heap := s.heap.push { cls := .type "slice", data := .fields #[vl, vu, vt] } } := by
  obtain ⟨a, vs, n, cs, rfl, ea, ra', rfl⟩ := ra.isList
  obtain ⟨ws, ds, e1, rw', hd⟩ := hy vs cs ra'
  obtain ⟨ops, hs⟩ := hs
  have hlen := (sz_list.mp za).1
  have e2 := ra'.length
  refine tail_any ((isL ea).push _).typeIs slot_list_getitem.lookup (wpAny_getItem_list_slice ((isL ea).push _) (Heap.IsSliceOf.new ..) pl pu pt h0 ?_ (by rw [List.size_toArray]; unfold sizeLine; lia)) (hs _ _)
  rw [e1]
  refine hQ _ _ (EP.aList (n := 0) (as := ds) ((Kp.push s _ s.toks).trans (Kp.push _ _ s.toks)) ?_ (Heap.get?_push_size _ rfl) ((rw'.keep fun _ _ e => Heap.get?_push_of_some _ e).keep fun _ _ e => Heap.get?_push_of_some _ e) hl hz fun b hb => ⟨ha b (.tail _ (hd b hb)), ?_⟩)
  · exact Heap.get?_none_of_le (by simp)
  · obtain ⟨_, _, e⟩ := rw'.there b hb
    have h1 := Heap.lt_size e
    intro q
    have h2 : b = s.heap.objs.size + 1 := q.trans (Heap.size_push ..)
    rw [h2] at h1
    exact Nat.not_lt.mpr (Nat.le_succ _) h1
end


theorem all_pick : ∀ l : List Value, (List.range l.length).filterMap (l[·]?) = l
  | [] => rfl
  | x :: l => by
    rw [List.length_cons, List.range_succ_eq_map, List.filterMap_cons, List.filterMap_map]
    exact congrArg (x :: ·) (all_pick l)
theorem fm_congr {α β : Type} {f g : α → Option β} : ∀ {l : List α}, (∀ x ∈ l, f x = g x) → l.filterMap f = l.filterMap g
  | [], _ => rfl
  | x :: l, h => by rw [List.filterMap_cons, List.filterMap_cons, h x (.head _), fm_congr fun y hy => h y (.tail _ hy)]
/-- a list from behind -/
theorem rev_pick (l : List Value) : slicePick l.toArray none none (some (-1)) = l.reverse.toArray := by
  have e1 : sliceRange ((l.length : Int) - 1) (-1) (-1) = (List.range l.length).map fun (k : Nat) => ((l.length : Int) - 1 + -1 * (k : Int)).toNat := by
    unfold sliceRange
    dsimp only
    congr 2
    rw [if_neg (by decide)]
    by_cases h : (l.length : Int) - 1 > -1
    · rw [if_pos h, show (- -1 : Int) = 1 by decide, Int.ediv_one]; lia
    · rw [if_neg h]; lia
  have e2 : slicePick l.toArray none none (some (-1)) = ((sliceRange ((l.length : Int) - 1) (-1) (-1)).filterMap (l.toArray[·]?)).toArray := rfl
  rw [e2, e1, List.filterMap_map]
  congr 1
  have e3 := all_pick l.reverse
  rw [List.length_reverse] at e3
  rw [← e3]
  refine fm_congr fun k hk => ?_
  have hk := List.mem_range.mp hk
  show l.toArray[((l.length : Int) - 1 + -1 * (k : Int)).toNat]? = _
  rw [List.getElem?_toArray, List.getElem?_reverse hk]
  congr 1
  lia
theorem sim_rev {a : E} (Sa : SimE prog w fns k C XP a) : SimE prog w fns k C XP (.rev a) := by
  intro ex A env σ P s Q Er ok X nb hQ hE
  replace ok := i_rev ok
  rcases ok with ⟨_, _, _, _, _, _, _, rfl, ok⟩ | ok
  · rename_i v i n1 p1 p2 p pos
    simp only [Bool.and_eq_true, beq_iff_eq] at ok
    obtain ⟨rfl, oa⟩ := ok
    simp only [ev] at nb hQ hE
    obtain ⟨n1, n2⟩ := bind_ne_bad nb
    refine Subscript_ (Sa oa X n1 (fun x hx va s₁ Ea => ?_) fun c hc => hE c (by rw [hc]; rfl))
    have n3 := n2 x hx
    obtain ⟨ka, as, ra, ha, ht, hdx⟩ := Ea
    clear ht hdx
    obtain ⟨x, m⟩ := x
    dsimp only at n3 ra
    split at n3
    · unfold revV at n3
      split at n3
      · rename_i xs
        refine wpAny_Slice (evalPart_none_ (evalPart_none_ (evalPart_some_ (wpAny_UnaryOp (wpAny_Constant_int (neg_int ?_))))))
        refine slice_step (s := { s₁ with toks := s₁.toks + 1 + 1 }) (P := fun a => P a ∨ s.heap.get? a = none) (ys := xs.reverse) (lo := none) (hi := none) (st := some (-1)) ⟨fun o i => [o, i], fun _ _ => rfl⟩ ra.1 ra.2 ha .none .none (.int _ _) (by simp) (fun vs cs r => ?_) (fun y hy => (sz_list.mp ra.2).2 y (by simpa using hy)) (by simpa using (sz_list.mp ra.2).1) fun v s' e => hQ _ (by rw [hx]; rfl) v s' (.shift (ka.trans (.toks s₁ _)) e)
        obtain ⟨ds, rd, hd⟩ := r.reverse
        exact ⟨_, ds, rev_pick vs, rd, hd⟩
      · exact absurd rfl n3
    · exact absurd rfl n3
  · cases ok
end
end Mine

namespace Mine
open PySem PyProof.Rows
set_option linter.unusedSectionVars false
variable [SF : Soft]

section
variable (prog : Program) (w : World) (fns : Fns) (k : Nat) (C : Calls) (XP : String → Shared → Value → Shared → Prop)
noncomputable def SimEs (es : Es) : Prop := ∀ {xs : List Expr} {pos : Pos} {A : Around} {env : Env} {σ : St} {P : Addr → Prop} {s : Shared} {Q : List Value → Shared → Prop} {Er : Value → Shared → Prop},
  okEs env.scope.names es xs = true → Cx prog w fns k A P s.heap env σ → evs C es σ ≠ .bad →
  (∀ l, evs C es σ = .ok l → ∀ vs s', EPs prog w P s l vs s' → Q vs s') → (∀ c, evs C es σ = .exc c → ∀ x s', XP c s x s' → Er x s') →
  wpAny (model prog w) A (spliced (backTo pos (starEach xs env))) Q Er s
end

section
variable {prog : Program} {w : World} {fns : Fns} {k : Nat} {C : Calls} {XP : String → Shared → Value → Shared → Prop}

theorem simEs_nil : SimEs prog w fns k C XP .nil := by
  intro xs pos A env σ P s Q Er ok X nb hQ hE
  replace ok := i_nil ok
  rcases ok with ⟨rfl, ok⟩ | ok
  · exact wpAny_items_nil (hQ [] rfl [] s ⟨.refl s, [], .nil, fun _ h => (nomatch h), fun _ => ⟨fun _ h => (nomatch h), .nil⟩⟩)
  · cases ok

theorem RV.there {h : Heap} {v : Value} {x : V} {as : List Addr} (r : RV prog w h v x as) : ∀ a ∈ as, ∃ o, h.get? a = some o := by
  intro a ha
  cases x with
  | d x => obtain ⟨_, _, e⟩ := r.1.there a ha; exact ⟨_, e⟩
  | inst fs => exact r.elim
theorem RVs.length {h : Heap} : ∀ {xs : List V} {vs : List Value} {as : List Addr}, RVs prog w h xs vs as → vs.length = xs.length
  | _, _, _, .nil => rfl
  | _, _, _, .cons _ q => by rw [List.length_cons, List.length_cons, RVs.length q]

theorem simEs_cons (hXP : ∀ c s s₁ x s', Kp s s₁ → XP c s₁ x s' → XP c s x s') {e : E} {es : Es} (S : SimE prog w fns k C XP e) (Ss : SimEs prog w fns k C XP es) : SimEs prog w fns k C XP (.cons e es) := by
  intro xs pos A env σ P s Q Er ok X nb hQ hE
  replace ok := i_cons ok
  rcases ok with ⟨_, _, rfl, ok⟩ | ok
  · rename_i x xs
    simp only [Bool.and_eq_true] at ok
    simp only [evs] at nb hQ hE
    obtain ⟨n1, n2⟩ := bind_ne_bad nb
    refine wpAny_items_cons (S ok.1 X n1 (fun r hr v s₁ Ea => ?_) fun c hc => hE c (by rw [hc]; rfl)) (star_plain ok.1 xs env)
    obtain ⟨n3, _⟩ := bind_ne_bad (n2 r hr)
    refine Ss ok.2 (X.k Ea.keeps.k) n3 (fun l hl vs s₂ Eb => ?_) fun c hc z s' hz => hE c (by rw [hr, Out.ok_bind, hc]; rfl) z s' (hXP c s s₁ z s' Ea.keeps hz)
    obtain ⟨ka, as, ra, ha, _, hd⟩ := Ea
    obtain ⟨kb, bs, rb, hb, hd'⟩ := Eb
    refine hQ (r :: l) (by rw [hr, Out.ok_bind, hl]; rfl) (v :: vs) s₂ ⟨ka.trans kb, as ++ bs, .cons (ra.k kb.k) rb, fun a h => (List.mem_append.mp h).elim (ha a) fun h => (hb a h).imp id ka.none, fun hm => ?_⟩
    simp only [allDeep, List.all_cons, Bool.and_eq_true, decide_eq_true_eq] at hm
    have d1 := hd hm.1
    have d2 := hd' hm.2
    refine ⟨fun a h => (List.mem_append.mp h).elim (d1.1 a) fun h => ka.none (d2.1 a h), List.nodup_append.mpr ⟨d1.2, d2.2, fun a h1 b h2 e => ?_⟩⟩
    subst e
    obtain ⟨o, ho⟩ := ra.there a h1
    rw [d2.1 a h2] at ho; cases ho
  · cases ok

theorem rvs_ra {h : Heap} : ∀ {l : List (V × Mode)} {ds : List PyData} {vs : List Value} {as : List Addr}, allD l = some ds → RVs prog w h (l.map (·.1)) vs as → RA h vs ds as ∧ ∀ x ∈ ds, sz x = true
  | [], ds, _, _, e, r => by
    cases r; simp [allD] at e; subst e
    exact ⟨.nil, fun _ h => nomatch h⟩
  | (.d x, m) :: l, ds, _, _, e, r => by
    simp only [allD, Option.map_eq_some_iff] at e
    obtain ⟨es, e, rfl⟩ := e
    cases r with
    | cons r q =>
      obtain ⟨a, b⟩ := rvs_ra e q
      exact ⟨.cons r.1 a, fun y hy => (List.mem_cons.mp hy).elim (fun q => q ▸ r.2) (b y)⟩
  | (.inst _, m) :: l, ds, _, _, e, r => by simp [allD] at e
theorem allD_length : ∀ {l : List (V × Mode)} {ds : List PyData}, allD l = some ds → ds.length = l.length
  | [], ds, e => by simp [allD] at e; subst e; rfl
  | (.d x, m) :: l, ds, e => by
    simp only [allD, Option.map_eq_some_iff] at e
    obtain ⟨es, e, rfl⟩ := e
    rw [List.length_cons, List.length_cons, allD_length e]
  | (.inst _, m) :: l, ds, e => by simp [allD] at e
theorem evs_length : ∀ {es : Es} {ns : List (Str × NameKind)} {xs : List Expr} {σ : St} {l : List (V × Mode)}, okEs ns es xs = true → evs C es σ = .ok l → l.length = xs.length
  | .nil, ns, xs, σ, l, ok, e => by
    replace ok := i_nil ok
    rcases ok with ⟨rfl, ok⟩ | ok
    · simp only [evs] at e; cases e; rfl
    · cases ok
  | .cons a es, ns, xs, σ, l, ok, e => by
    replace ok := i_cons ok
    rcases ok with ⟨_, _, rfl, ok⟩ | ok
    · simp only [Bool.and_eq_true] at ok
      simp only [evs] at e
      obtain ⟨x, _, e⟩ := Out.bind_ok e
      obtain ⟨l', e', e⟩ := Out.bind_ok e
      cases e
      rw [List.length_cons, List.length_cons, evs_length ok.2 e']
    · cases ok

theorem sim_list {es : Es} (Ss : SimEs prog w fns k C XP es) : SimE prog w fns k C XP (.list es) := by
  intro ex A env σ P s Q Er ok X nb hQ hE
  replace ok := i_list ok
  rcases ok with ⟨_, _, rfl, ok⟩ | ok
  · simp only [Bool.and_eq_true, decide_eq_true_eq] at ok
    simp only [ev] at nb hQ hE
    obtain ⟨n1, n2⟩ := bind_ne_bad nb
    refine wpAny_List (Ss ok.2 X n1 (fun l hl vs s₁ Ea => ?_) fun c hc => hE c (by rw [hc]; rfl))
    have n3 := n2 l hl
    split at n3
    · rename_i ds hds
      obtain ⟨ka, as, ra, ha, hd⟩ := Ea
      obtain ⟨r, z⟩ := rvs_ra hds ra
      have e1 := ra.length
      rw [List.length_map] at e1
      have e2 := evs_length ok.2 hl
      have e3 := allD_length hds
      refine ⟨by unfold sizeLine; lia, hQ (.d (.list ds), if allDeep l then .deep else .top) (by rw [hl, Out.ok_bind, hds]) _ _ ⟨ka.trans (.push s₁ _ _), s₁.heap.objs.size :: as, ⟨.list (Heap.get?_push_size _ rfl) (r.keep fun _ _ e => Heap.get?_push_of_some _ e), sz_list.mpr ⟨by lia, z⟩⟩, ?_, ?_, ?_⟩⟩
      · intro a h
        rcases List.mem_cons.mp h with rfl | h
        · exact .inr (ka.none (new_none _))
        · exact ha a h
      · intro _
        exact ⟨_, _, rfl, ka.none (new_none _), fun h => let ⟨_, _, e⟩ := r.there _ h; not_new e rfl⟩
      · intro hm
        have hall : allDeep l = true := by
          dsimp only at hm
          split at hm
          · assumption
          · cases hm
        refine ⟨fun a h => ?_, List.nodup_cons.mpr ⟨fun h => let ⟨_, _, e⟩ := r.there _ h; not_new e rfl, (hd hall).2⟩⟩
        rcases List.mem_cons.mp h with rfl | h
        · exact ka.none (new_none _)
        · exact (hd hall).1 a h
    · exact absurd rfl n3
  · cases ok
theorem sim_tup {es : Es} (Ss : SimEs prog w fns k C XP es) : SimE prog w fns k C XP (.tup es) := by
  intro ex A env σ P s Q Er ok X nb hQ hE
  replace ok := i_tup ok
  rcases ok with ⟨_, _, _, rfl, ok⟩ | ok
  · simp only [Bool.and_eq_true, decide_eq_true_eq] at ok
    simp only [ev] at nb hQ hE
    obtain ⟨n1, n2⟩ := bind_ne_bad nb
    refine wpAny_Tuple (Ss ok.2 X n1 (fun l hl vs s₁ Ea => ?_) fun c hc => hE c (by rw [hc]; rfl))
    have n3 := n2 l hl
    split at n3
    · rename_i ds hds
      obtain ⟨ka, as, ra, ha, hd⟩ := Ea
      obtain ⟨r, z⟩ := rvs_ra hds ra
      have e1 := ra.length
      rw [List.length_map] at e1
      have e2 := evs_length ok.2 hl
      have e3 := allD_length hds
      refine ⟨by unfold sizeLine; lia, hQ (.d (.tuple ds), if allDeep l then .deep else .sh) (by rw [hl, Out.ok_bind, hds]) _ _ ⟨ka.trans (.push s₁ _ _), as, ⟨.tuple (Heap.get?_push_size _ rfl) (r.keep fun _ _ e => Heap.get?_push_of_some _ e), sz_tuple.mpr ⟨by lia, z⟩⟩, ha, ?_, ?_⟩⟩
      · intro hm
        dsimp only at hm
        split at hm <;> cases hm
      · intro hm
        have hall : allDeep l = true := by
          dsimp only at hm
          split at hm
          · assumption
          · cases hm
        exact hd hall
    · exact absurd rfl n3
  · cases ok

end
end Mine

namespace Mine
open PySem PyProof.Rows
set_option linter.unusedSectionVars false
variable [SF : Soft]

/-- rows that are ordered alike and hold the same are the same -/
theorem eq_of_sorted {α : Type} {r : α → α → Prop} (anti : ∀ a b, r a b → r b a → a = b) : ∀ {l l' : List α}, l.Perm l' → l.Pairwise r → l'.Pairwise r → l = l'
  | [], l', p, _, _ => by rw [p.nil_eq]
  | a :: l, [], p, _, _ => by cases p.eq_nil
  | a :: l, b :: l', p, h, h' => by
    obtain ⟨h1, h2⟩ := List.pairwise_cons.mp h
    obtain ⟨h3, h4⟩ := List.pairwise_cons.mp h'
    have e : a = b := by
      rcases List.mem_cons.mp (p.mem_iff.mp (List.mem_cons_self (a := a) (l := l))) with e | e
      · exact e
      · rcases List.mem_cons.mp (p.mem_iff.mpr (List.mem_cons_self (a := b) (l := l'))) with e' | e'
        · exact e'.symm
        · exact anti a b (h1 b e') (h3 a e)
    subst e
    rw [eq_of_sorted anti ((List.perm_cons a).mp p) h2 h4]
theorem sortI_pairwise (ns : List Int) : (ns.mergeSort (fun a b => decide (a ≤ b))).Pairwise (· ≤ ·) := by
  have := List.pairwise_mergeSort (le := fun a b : Int => decide (a ≤ b)) (fun a b c h1 h2 => by simp at *; lia) (fun a b => by simp; lia) ns
  exact this.imp (by intro a b h; simpa using h)
theorem maxL_spec : ∀ {xs : List Int} {m : Int}, maxL xs = some m → m ∈ xs ∧ ∀ x ∈ xs, x ≤ m
  | [], _, h => by simp [maxL] at h
  | x :: xs, m, h => by
    simp only [maxL, Option.some.injEq] at h
    have key : ∀ (l : List Int) (a : Int), (l.foldl (fun a b => if a < b then b else a) a = a ∨ l.foldl (fun a b => if a < b then b else a) a ∈ l) ∧ a ≤ l.foldl (fun a b => if a < b then b else a) a ∧ ∀ y ∈ l, y ≤ l.foldl (fun a b => if a < b then b else a) a := by
      intro l
      induction l with
      | nil => intro a; simp
      | cons b l ih =>
        intro a
        rw [List.foldl_cons]
        obtain ⟨h1, h2, h3⟩ := ih (if a < b then b else a)
        refine ⟨?_, ?_, fun y hy => ?_⟩
        · rcases h1 with h1 | h1
          · rw [h1]; split <;> simp
          · exact .inr (.tail _ h1)
        · split at h2 <;> rename_i hc <;> simp only [hc, if_true, if_false] <;> lia
        · rcases List.mem_cons.mp hy with rfl | hy
          · split at h2 <;> rename_i hc <;> simp only [hc, if_true, if_false] <;> lia
          · exact h3 y hy
    obtain ⟨h1, h2, h3⟩ := key xs x
    rw [h] at h1 h2 h3
    exact ⟨h1.elim (fun e => e ▸ .head _) (.tail _), fun y hy => (List.mem_cons.mp hy).elim (fun e => e ▸ h2) (h3 y)⟩

section
variable {prog : Program} {w : World} {fns : Fns} {k : Nat} {C : Calls} {XP : String → Shared → Value → Shared → Prop}

theorem kind_glb {env : Env} {x : String} (h : glbK env.scope.names x = true) : env.kindOf (Str.ofString x) = some .globalImplicit := by
  unfold glbK at h
  exact beq_iff_eq.mp h
theorem nd {x : String} (h : notDebug x = true) : (Str.ofString x == ("__debug__" : Str)) = false := by
  unfold notDebug at h
  simp only [Bool.and_eq_true, Bool.not_eq_true'] at h
  exact h.1

section
variable {A : Around} {env : Env} {s : Shared} {Q : Value → Shared → Prop} {Er : Value → Shared → Prop} {p pos : Pos}
theorem wp_callN {id : String} {args : List Expr} (eok : EnvOk env) (ge : GE fns s.heap) (hm : id ∈ bnames) (hg : glbK env.scope.names id = true) (hd : (Str.ofString id == ("__debug__" : Str)) = false)
    (h : wpAny (model prog w) A (callWith pos (bval id) [] (backTo pos (starEach args env)) []) Q Er s) : wpAny (model prog w) A (eval (.Call (.Name (Str.ofString id) p) args [] pos) env) Q Er s := by
  obtain ⟨mg, g1, _, g3⟩ := ge.glob
  obtain ⟨mb, b1, b2⟩ := ge.blt
  exact wpAny_Call_NameR (Calls.Name_function_global eok.kind (kind_glb hg) (Calls.loadGlobal_builtin (eok.glob ▸ g1) (g3 id hm) (eok.blt ▸ b1) (b2 id hm) h) hd)
theorem wp_callB {id : String} {x : Expr} {xs : List Expr} {e : E} (ns : List (Str × NameKind)) (hx : okE ns e x = true) (ha : (backTo pos (starEach xs env)).any (·.1) = false)
    (h : wpAny (model prog w) A (spliced (backTo pos (starEach (x :: xs) env))) (fun vs s₁ => wpAny (model prog w) A (call (.builtin id) vs) Q Er s₁) Er s) : wpAny (model prog w) A (callWith pos (.builtin id) [] (backTo pos (starEach (x :: xs) env)) []) Q Er s := by
  rw [star_plain hx] at h ⊢
  exact Calls.callWith_builtin ha (Calls.evalArgs_plain (wpAny_mono h (fun vs s₁ h₁ => h₁) fun _ _ e => e))
theorem wp_callT {T : String} {x : Expr} {xs : List Expr} {e : E} (ns : List (Str × NameKind)) (hx : okE ns e x = true) (ha : (backTo pos (starEach xs env)).any (·.1) = false)
    (h : wpAny (model prog w) A (spliced (backTo pos (starEach (x :: xs) env))) (fun vs s₁ => wpAny (model prog w) A (call (.type T) vs) Q Er s₁) Er s) : wpAny (model prog w) A (callWith pos (.type T) [] (backTo pos (starEach (x :: xs) env)) []) Q Er s := by
  rw [star_plain hx] at h ⊢
  exact PySem.callWith_type ha (Calls.evalArgs_plain (wpAny_mono h (fun vs s₁ h₁ => h₁) fun _ _ e => e))
theorem wp_one {x : Expr} {e : E} (ns : List (Str × NameKind)) (hx : okE ns e x = true) {G : List Value → Shared → Prop} (h : wpAny (model prog w) A (eval x env) (fun v s₁ => G [v] s₁) Er s) : wpAny (model prog w) A (spliced (backTo pos (starEach [x] env))) G Er s :=
  wpAny_items_cons (wpAny_mono h (fun _ _ h₁ => wpAny_items_nil h₁) fun _ _ e => e) (star_plain hx [] env)
end

/-! ## built-in calls of one argument -/
section
variable {va : Value} {as : List Addr} {A : Around} {P : Addr → Prop} {s : Shared} {Q : Value → Shared → Prop} {Er : Value → Shared → Prop}

theorem len_step {x : V} {r : V × Mode} (he : b1V .len x = .ok r) (ra : RV prog w s.heap va x as) (hQ : ∀ v s', EP prog w P s r v s' → Q v s') : wpAny (model prog w) A (call (.builtin "len") [va]) Q Er s := by
  replace he := optO_ok he
  obtain ⟨y, hy, he⟩ := he
  cases asD_inv hy
  cases ht : asT y with
  | none =>
    simp only [ht] at he
    replace he := optO_ok he
    obtain ⟨xs, hx, he⟩ := he
    cases asL_inv hx
    cases he
    obtain ⟨a, vs, n, cs, rfl, ea, ra', rfl⟩ := ra.1.isList
    have hl := ra'.length
    have hz := (sz_list.mp ra.2).1
    refine Calls.call_len_list (isL ea) (by rw [List.size_toArray]; lia) (hQ _ _ ?_)
    rw [List.size_toArray, hl]
    exact .int (.toks s _)
  | some xs =>
    simp only [ht] at he
    cases he
    cases asT_inv ht
    obtain ⟨a, vs, n, rfl, ea, ra'⟩ := ra.1.isTup
    have hl := ra'.length
    have hz := (sz_tuple.mp ra.2).1
    refine PySem.P.len_tuple ea (by rw [List.size_toArray]; lia) (hQ _ _ ?_)
    rw [List.size_toArray, hl]
    exact .int (.toks s _)

theorem copy_step {xs : List PyData} {T : String} {a : Addr} {vs : List Value} {n : Nat} {cs : List Addr} (hT : T = "list" ∨ T = "tuple") (ea : s.heap.get? a = some ⟨.type T, none, .seq vs.toArray n, #[]⟩) (ra : RA s.heap vs xs cs) (hl : xs.length ≤ 2 ^ 22)
    (hz : ∀ x ∈ xs, sz x = true) (ha : ∀ b ∈ cs, P b) (hQ : ∀ v s', EP prog w P s (.d (.list xs), fresh xs) v s' → Q v s') : wpAny (model prog w) A (call (.type "list") [.ref a]) Q Er s := by
  have e := ra.length
  refine call_list_seq a hT ea rfl rfl (fun h' c' kp hn => hQ _ _ ?_) (by rw [List.size_toArray]; unfold sizeLine; lia)
  have kp' : Kp s { s with heap := h' } := ⟨h', s.toks, rfl, .of kp⟩
  refine EP.aList kp' (new_none _) hn (ra.keep kp) hl hz fun b hb => ⟨ha b hb, ?_⟩
  obtain ⟨_, _, e⟩ := ra.there b hb
  exact not_new e

theorem tup_step {xs : List PyData} (ra : R s.heap va (.list xs) as) (za : sz (.list xs) = true) (ha : ∀ b ∈ as, P b) (hQ : ∀ v s', EP prog w P s (.d (.tuple xs), if xs.all sx then .deep else .sh) v s' → Q v s') : wpAny (model prog w) A (call (.type "tuple") [va]) Q Er s := by
  obtain ⟨a, vs, n, cs, rfl, ea, ra', rfl⟩ := ra.isList
  have e := ra'.length
  have hz := sz_list.mp za
  refine call_tuple_list (isL ea) (fun h' kp => hQ _ _ ?_) (by rw [List.size_toArray]; unfold sizeLine; lia)
  have kp' : Kp s { s with heap := h'.push { cls := .type "tuple", data := .seq vs.toArray } } := ⟨_, s.toks, rfl, .of fun b o q => Heap.get?_push_of_some _ (kp b o q)⟩
  refine ⟨kp', cs, ⟨.tuple (Heap.get?_push_size _ rfl) ((ra'.keep kp).keep fun _ _ e => Heap.get?_push_of_some _ e), sz_tuple.mpr hz⟩, fun b hb => .inl (ha b (.tail _ hb)), fun hm => ?_, fun hm => ?_⟩
  · dsimp only at hm; split at hm <;> cases hm
  · have hall : xs.all sx = true := by
      dsimp only at hm
      split at hm
      · assumption
      · cases hm
    rw [ra'.sx_nil hall]
    exact ⟨fun _ h => (nomatch h), .nil⟩

theorem sortI_step {xs : List PyData} {ns : List Int} (ra : R s.heap va (.list xs) as) (hi : intsOf xs = some ns) (h64 : xs.length < 64) (hQ : ∀ v s', EP prog w P s (.d (ofInts (ns.mergeSort (fun a b => decide (a ≤ b)))), .deep) v s' → Q v s') :
    wpAny (model prog w) A (call (.builtin "sorted") [va]) Q Er s := by
  obtain ⟨a, vs, n, cs, rfl, ea, ra', rfl⟩ := ra.isList
  have e := ra'.length
  obtain ⟨hI, rfl, rfl⟩ := ra'.ints hi
  rw [List.length_map] at e h64
  refine sorted_ints (isL ea) hI (by lia) fun out ns' h1 h2 h3 => hQ _ _ ?_
  have e' : ns' = ns.mergeSort (fun a b => decide (a ≤ b)) := eq_of_sorted (fun a b h h' => Int.le_antisymm h h') (h2.trans (List.mergeSort_perm ns _).symm) h3 (sortI_pairwise ns)
  subst e'
  obtain ⟨e, he⟩ := sortedAll_at s.heap vs out
  have hl := List.length_mergeSort (le := fun a b : Int => decide (a ≤ b)) ns
  have ep : EP prog w P s (.d (.list ((ns.mergeSort (fun a b => decide (a ≤ b))).map .int)), fresh ((ns.mergeSort (fun a b => decide (a ≤ b))).map .int)) (.ref (s.heap.objs.size + 1)) { s with heap := sortedAll s.heap vs out } :=
    EP.aList (vs := out.toList) (n := e) (as := []) ⟨_, s.toks, rfl, .of fun _ _ q => sortedAll_old q⟩ (Heap.get?_none_of_le (Nat.le_succ _)) (by simpa [seqObj] using he) (RA.of_ints h1) (by rw [List.length_map, hl]; lia) (szs_ints _) fun _ h => (nomatch h)
  have ef : fresh ((ns.mergeSort (fun a b => decide (a ≤ b))).map .int) = .deep := by
    unfold fresh
    rw [if_pos]
    rw [List.all_map, List.all_eq_true]
    intro _ _; rfl
  rw [ef] at ep
  exact ep
end
end
end Mine

namespace Mine
open PySem PyProof.Rows
set_option linter.unusedSectionVars false
variable [SF : Soft]

section
variable (prog : Program) (w : World)
/-- an iterator over data: what a walk gives, item by item -/
structure ItP (A : Around) (P : Addr → Prop) (s : Shared) (ds : List PyData) (m : Mode) (it : Value) (s' : Shared) : Prop where
  keeps : Kp s s'
  walk : ∃ (I : Addr) (fp wr : List Addr) (Pw : Nat → Value → Prop) (St : Nat → Heap → Prop) (F : List Addr), it = .ref I ∧ Walks prog w A I fp wr ds.length Pw St ∧ St 0 s'.heap ∧
    (∀ b ∈ wr, s.heap.get? b = none ∧ b ∉ F ∧ ∀ i h, St i h → ∃ o, h.get? b = some o ∧ (hardB o = true ∧ o.cls ≠ .type "code") ∧ ∃ fs, o.data = .fields fs) ∧ (∀ b ∈ fp, b ∈ wr ∨ b ∈ F) ∧ (∀ i v, Pw i v → ∀ d, ds[i]? = some d → ∃ bs, R s'.heap v d bs ∧ ∀ b ∈ bs, b ∈ F) ∧
    (∀ b ∈ F, ∃ vs n, s'.heap.get? b = some ⟨.type "list", none, .seq vs n, #[]⟩) ∧ (∀ a ∈ F, P a ∨ s.heap.get? a = none) ∧ (m = .deep → ∀ a ∈ F, s.heap.get? a = none)
  small : ds.length ≤ 2 ^ 22 ∧ ∀ d ∈ ds, sz d = true

variable (fns : Fns) (k : Nat) (C : Calls) (XP : String → Shared → Value → Shared → Prop)
noncomputable def SimIt (it : It) : Prop := ∀ {ex : Expr} {A : Around} {env : Env} {σ : St} {P : Addr → Prop} {s : Shared} {Q : Value → Shared → Prop} {Er : Value → Shared → Prop},
  okIt env.scope.names it ex = true → Cx prog w fns k A P s.heap env σ → evIt C it σ ≠ .bad →
  (∀ q, evIt C it σ = .ok q → ∀ i s', ItP prog w A P s q.1 q.2 i s' → Q i s') → (∀ c, evIt C it σ = .exc c → ∀ x s', XP c s x s' → Er x s') →
  wpAny (model prog w) A (eval ex env) (fun x s₁ => wpAny (model prog w) A (pyIter x) Q Er s₁) Er s
end

section
variable {prog : Program} {w : World} {fns : Fns} {k : Nat} {C : Calls} {XP : String → Shared → Value → Shared → Prop}

theorem iter_list {A : Around} {P : Addr → Prop} {s₀ s : Shared} {Q : Value → Shared → Prop} {Er : Value → Shared → Prop} {va : Value} {as : List Addr} {xs : List PyData} {m : Mode} (k₀ : Kp s₀ s) (hh : A.handled = none) (ra : R s.heap va (.list xs) as) (za : sz (.list xs) = true)
    (ha : ∀ a ∈ as, P a ∨ s₀.heap.get? a = none) (hm : m = .deep → ∀ a ∈ as, s₀.heap.get? a = none) (hQ : ∀ it s', ItP prog w A P s₀ xs m it s' → Q it s') : wpAny (model prog w) A (pyIter va) Q Er s := by
  obtain ⟨a, vs, n, cs, rfl, ea, ra', rfl⟩ := ra.isList
  refine wpAny_pyIter_list (isL ea) (hQ _ _ ⟨k₀.trans (.push s _ _), ⟨s.heap.objs.size, [s.heap.objs.size, a], [s.heap.objs.size], (fun i v => vs.toArray[i]? = some v), (fun i h => h.IsListIter s.heap.objs.size a i ∧ h.IsList a vs.toArray), a :: cs, rfl, ?_, ⟨⟨_, Heap.get?_push_size _ rfl, rfl, rfl⟩, (isL ea).push _⟩, ?_, ?_, ?_, ?_, ha, hm⟩, sz_list.mp za⟩)
  · have := Walks.list (prog := prog) (w := w) (A := A) hh s.heap.objs.size a (not_new ea) vs.toArray
    have e : vs.toArray.size = xs.length := by rw [List.size_toArray, ra'.length]
    rw [e] at this
    exact this
  · intro b hb
    rw [List.mem_singleton.mp hb]
    refine ⟨k₀.none (new_none _), fun h => ?_, fun i h hst => ?_⟩
    · obtain ⟨_, _, e⟩ := ra.there _ h
      exact not_new e rfl
    · obtain ⟨o, e1, ec, e2⟩ := hst.1
      exact ⟨o, e1, ⟨by unfold hardB; rw [ec]; decide, by rw [ec]; decide⟩, _, e2⟩
  · intro b hb
    rcases List.mem_cons.mp hb with rfl | hb
    · exact .inl (.head _)
    · rw [List.mem_singleton.mp hb]; exact .inr (.head _)
  · intro i v hv d hd
    obtain ⟨d', bs, h1, h2, h3⟩ := ra'.get' (by simpa using hv)
    rw [hd] at h1; cases h1
    exact ⟨bs, h2.keep fun _ _ e => Heap.get?_push_of_some _ e, fun b hb => .tail _ (h3 b hb)⟩
  · intro b hb
    obtain ⟨vs', n', e⟩ := ra.there b hb
    exact ⟨vs', n', Heap.get?_push_of_some _ e⟩

theorem rangeL_get {a b : Int} {i : Nat} {d : PyData} (h : (rangeL a b)[i]? = some d) : d = .int (a + i) := by
  unfold rangeL at h
  rw [List.getElem?_map] at h
  obtain ⟨j, hj, rfl⟩ := Option.map_eq_some_iff.mp h
  have : j = i := by
    have h1 := (List.getElem?_eq_some_iff.mp hj)
    obtain ⟨h2, h3⟩ := h1
    rw [List.getElem_range] at h3
    exact h3.symm
  rw [this]
theorem rangeL_length (a b : Int) : (rangeL a b).length = (b - a).toNat := by simp [rangeL]
theorem rangeL_sz (a b : Int) : ∀ d ∈ rangeL a b, sz d = true := by
  intro d hd
  unfold rangeL at hd
  obtain ⟨j, _, rfl⟩ := List.mem_map.mp hd
  rfl

theorem iter_range {A : Around} {P : Addr → Prop} {s₀ s : Shared} {Q : Value → Shared → Prop} {Er : Value → Shared → Prop} {r : Addr} {a b : Int} {t u v : Tok} (k₀ : Kp s₀ s) (hh : A.handled = none) (hr : IsRange s.heap r a b 1 t u v)
    (hn : (b - a).toNat ≤ lim) (ha : -(2 ^ 60) ≤ a ∧ a < 2 ^ 60 ∧ -(2 ^ 60) ≤ b ∧ b < 2 ^ 60) (hQ : ∀ it s', ItP prog w A P s₀ (rangeL a b) .deep it s' → Q it s') : wpAny (model prog w) A (pyIter (.ref r)) Q Er s := by
  have hsz : Builtin.Range.rangeSize a b 1 = ((b - a).toNat : Int) := by rw [rangeSize_one]; split <;> lia
  refine wpAny_pyIter_range hr (small_one (by lia) (by lia) (by lia) (by lia)) (hQ _ _ ⟨k₀.trans (.push s _ _), ⟨s.heap.objs.size, [s.heap.objs.size], [s.heap.objs.size], (fun i v => ∃ t, v = .int (a + i * 1) t), (fun i h => IsRangeIter h s.heap.objs.size (a + (i : Nat) * 1) (((b - a).toNat : Int) - (i : Nat)) 1), [], rfl, ?_, ?_, ?_, fun b hb => .inl hb, ?_, fun _ h => (nomatch h), fun _ h => (nomatch h), fun _ _ h => (nomatch h)⟩, ⟨by rw [rangeL_length]; unfold lim at hn; lia, rangeL_sz a b⟩⟩)
  · have := Walks.range (prog := prog) (w := w) (A := A) hh s.heap.objs.size a 1 (b - a).toNat
    rw [rangeL_length]
    exact this
  · have e1 : (a + ((0 : Nat) : Int) * 1) = a := by simp
    have e2 : (((b - a).toNat : Int) - ((0 : Nat) : Int)) = Builtin.Range.rangeSize a b 1 := by rw [hsz]; simp
    show IsRangeIter _ _ (a + ((0 : Nat) : Int) * 1) (((b - a).toNat : Int) - ((0 : Nat) : Int)) 1
    rw [e1, e2]
    exact Heap.get?_push_size _ rfl
  · intro b hb
    rw [List.mem_singleton.mp hb]
    exact ⟨k₀.none (new_none _), fun h => (nomatch h), fun i h hst => ⟨_, hst, ⟨rfl, by simp⟩, _, rfl⟩⟩
  · rintro i v ⟨t, rfl⟩ d hd
    rw [rangeL_get hd]
    exact ⟨[], by simpa using R.int (a + i) t, fun _ h => (nomatch h)⟩

theorem simIt_e {a : E} (Sa : SimE prog w fns k C XP a) : SimIt prog w fns k C XP (.e a) := by
  intro ex A env σ P s Q Er ok X nb hQ hE
  replace ok : okE env.scope.names a ex = true := ok
  simp only [evIt] at nb hQ hE
  obtain ⟨n1, n2⟩ := bind_ne_bad nb
  refine Sa ok X n1 (fun r hr v s₁ Ea => ?_) fun c hc => hE c (by rw [hc]; rfl)
  have n3 := n2 r hr
  obtain ⟨x, m⟩ := r
  obtain ⟨ka, as, ra, ha, ht, hd⟩ := Ea
  unfold itV at n3
  dsimp only at n3 ra hd
  split at n3
  · rename_i xs hx
    cases lstV_some hx
    exact iter_list (m := m) ka X.room.1 ra.1 ra.2 ha (fun hm => (hd hm).1) fun it s' I => hQ (xs, m) (by rw [hr]; rfl) it s' I
  · exact absurd rfl n3

theorem rangeV_ok {a b : Int} {q : List PyData × Mode} (h : rangeV a b = .ok q) : q = (rangeL a b, .deep) ∧ (b - a).toNat ≤ lim ∧ -(2 ^ 60) ≤ a ∧ a < 2 ^ 60 ∧ -(2 ^ 60) ≤ b ∧ b < 2 ^ 60 := by
  unfold rangeV at h
  split at h
  · rename_i hc; cases h; exact ⟨rfl, hc⟩
  · cases h
theorem rangeV_exc {a b : Int} {c : String} : rangeV a b ≠ .exc c := by unfold rangeV; split <;> simp

theorem simIt_r1 {n : E} (Sn : SimE prog w fns k C XP n) : SimIt prog w fns k C XP (.r1 n) := by
  intro ex A env σ P s Q Er ok X nb hQ hE
  replace ok := i_r1 ok
  rcases ok with ⟨_, _, _, _, rfl, ok⟩ | ok
  · simp only [Bool.and_eq_true, beq_iff_eq] at ok
    obtain ⟨⟨rfl, hg⟩, on⟩ := ok
    simp only [evIt] at nb hQ hE
    obtain ⟨n1, n2⟩ := bind_ne_bad nb
    refine wp_callN X.eok X.ge (by decide) hg (by decide) (wp_callT (T := "range") _ on rfl (wp_one _ on (Sn on X n1 (fun r hr v s₁ Ea => ?_) fun c hc => hE c (by rw [hc]; rfl))))
    have n3 := n2 r hr
    obtain ⟨x, m⟩ := r
    obtain ⟨ka, as, ra, hx1, hx2, hx3⟩ := Ea
    clear hx1 hx2 hx3
    dsimp only at n3 ra
    split at n3
    · rename_i i
      cases hq : rangeV 0 i with
      | bad => exact absurd hq n3
      | exc c => exact absurd hq rangeV_exc
      | ok q =>
        obtain ⟨rfl, h1, h2⟩ := rangeV_ok hq
        obtain ⟨_, rfl, rfl⟩ := ra.1.isInt
        exact call_range_1 (iter_range (ka.trans (.push s₁ _ _)) X.room.1 (IsRange.new ..) h1 h2 fun it s' I => hQ _ (by rw [hr]; exact hq) it s' I)
    · exact absurd rfl n3
  · cases ok
theorem simIt_r2 (hXP : ∀ c s s₁ x s', Kp s s₁ → XP c s₁ x s' → XP c s x s') {a b : E} (Sa : SimE prog w fns k C XP a) (Sb : SimE prog w fns k C XP b) : SimIt prog w fns k C XP (.r2 a b) := by
  intro ex A env σ P s Q Er ok X nb hQ hE
  replace ok := i_r2 ok
  rcases ok with ⟨_, _, _, _, _, rfl, ok⟩ | ok
  · simp only [Bool.and_eq_true, beq_iff_eq] at ok
    obtain ⟨⟨⟨rfl, hg⟩, oa⟩, ob⟩ := ok
    simp only [evIt] at nb hQ hE
    obtain ⟨n1, n2⟩ := bind_ne_bad nb
    refine wp_callN X.eok X.ge (by decide) hg (by decide) (wp_callT (T := "range") _ oa (by rw [star_plain ob]; rfl) (wpAny_items_cons ?_ (star_plain oa _ env)))
    refine Sa oa X n1 (fun x hx va s₁ Ea => ?_) fun c hc => hE c (by rw [hc]; rfl)
    obtain ⟨n3, n4⟩ := bind_ne_bad (n2 x hx)
    refine wp_one _ ob (Sb ob (X.k Ea.keeps.k) n3 (fun y hy vb s₂ Eb => ?_) fun c hc z s' hz => hE c (by rw [hx, Out.ok_bind, hc]; rfl) z s' (hXP c s s₁ z s' Ea.keeps hz))
    have n5 := n4 y hy
    obtain ⟨x, mx⟩ := x
    obtain ⟨y, my⟩ := y
    obtain ⟨ka, as, ra, hx1, hx2, hx3⟩ := Ea
    obtain ⟨kb, bs, rb, hx4, hx5, hx6⟩ := Eb
    clear hx1 hx2 hx3 hx4 hx5 hx6
    dsimp only at n5 ra rb
    split at n5
    · rename_i i j
      cases hq : rangeV i j with
      | bad => exact absurd hq n5
      | exc c => exact absurd hq rangeV_exc
      | ok q =>
        obtain ⟨rfl, h1, h2⟩ := rangeV_ok hq
        obtain ⟨ra, _⟩ := ra
        obtain ⟨rb, _⟩ := rb
        cases ra; cases rb
        exact call_range_2 (iter_range ((ka.trans kb).trans (.push s₂ _ _)) X.room.1 (IsRange.new ..) h1 h2 fun it s' I => hQ _ (by rw [hx, Out.ok_bind, hy]; exact hq) it s' I)
    · exact absurd rfl n5
  · cases ok
end
end Mine

namespace Mine
open PySem PyProof.Rows
set_option linter.unusedSectionVars false
variable [SF : Soft]

theorem ofString_inj {x y : String} (h : Str.ofString x = Str.ofString y) : x = y := by
  rw [Str.ofString_eq_toList, Str.ofString_eq_toList] at h
  have h1 : (x.toList.map Char.toNat).toArray = (y.toList.map Char.toNat).toArray := by injection h
  have h2 : x.toList.map Char.toNat = y.toList.map Char.toNat := by simpa using h1
  have h3 : x.toList = y.toList := by
    have inj : ∀ a b : Char, a.toNat = b.toNat → a = b := fun a b e => Char.ext (UInt32.toNat_inj.mp e)
    generalize x.toList = l at h2
    generalize y.toList = m at h2
    induction l generalizing m with
    | nil => cases m with
      | nil => rfl
      | cons b m => simp at h2
    | cons a l ih => cases m with
      | nil => simp at h2
      | cons b m =>
        simp only [List.map_cons, List.cons.injEq] at h2
        rw [inj a b h2.1, ih m h2.2]
  exact String.toList_inj.mp h3

section
variable {prog : Program} {w : World} {fns : Fns} {k : Nat} {C : Calls} {XP : String → Shared → Value → Shared → Prop}

/-- the cells that a comprehension takes along -/
theorem closure_ok {scope : Scope} {env : Env} (hf : ∀ p ∈ scope.names, p.2 = .free → ∃ c, env.cells.lookup p.1 = some c) :
    ∃ cl, closureFor scope env = pure cl ∧ ∀ n, (n, NameKind.free) ∈ scope.names → cl.lookup n = env.cells.lookup n := by
  suffices H : ∀ (names : List (Str × NameKind)) (acc : List (Str × Addr)), (∀ p ∈ names, p.2 = .free → ∃ c, env.cells.lookup p.1 = some c) → (∀ n c, acc.lookup n = some c → env.cells.lookup n = some c) →
      ∃ cl, (forIn names acc (fun (x : Str × NameKind) (cs : List (Str × Addr)) => (if (x.2 == NameKind.free) = true then (do let c ← cellOf env x.1; pure (ForInStep.yield ((x.1, c) :: cs))) else pure (ForInStep.yield cs) : Sem (ForInStep (List (Str × Addr)))))) = pure cl ∧
        (∀ n c, cl.lookup n = some c → env.cells.lookup n = some c) ∧ (∀ n, (n, NameKind.free) ∈ names ∨ (acc.lookup n).isSome → (cl.lookup n).isSome) by
    obtain ⟨cl, h1, h2, h3⟩ := H scope.names [] hf (fun n c h => by simp at h)
    refine ⟨cl, ?_, fun n hn => ?_⟩
    · unfold closureFor
      have e : (forIn scope.names ([] : List (Str × Addr)) fun (x : Str × NameKind) (r : List (Str × Addr)) => match x with
          | (name, kind) => if (kind == NameKind.free) = true then (do let c ← cellOf env name; pure (ForInStep.yield ((name, c) :: r))) else (pure (ForInStep.yield r) : Sem (ForInStep (List (Str × Addr))))) = pure cl := h1
      exact congrArg (fun t : Sem (List (Str × Addr)) => t >>= fun q => pure q) e
    · obtain ⟨c, hc⟩ := Option.isSome_iff_exists.mp (h3 n (.inl hn))
      rw [hc, h2 n c hc]
  intro names
  induction names with
  | nil => intro acc _ ha; exact ⟨acc, rfl, ha, fun n hn => hn.elim (fun h => nomatch h) id⟩
  | cons p r ih =>
    intro acc hf ha
    obtain ⟨n, kd⟩ := p
    by_cases hk : kd = .free
    · subst hk
      obtain ⟨c, hc⟩ := hf (n, .free) (.head _) rfl
      obtain ⟨cl, h1, h2, h3⟩ := ih ((n, c) :: acc) (fun p hp => hf p (.tail _ hp)) (fun m d h => by
        rw [List.lookup_cons] at h
        split at h
        · rename_i e; cases h; rw [beq_iff_eq.mp e]; exact hc
        · exact ha m d h)
      refine ⟨cl, ?_, h2, fun m hm => h3 m ?_⟩
      · rw [List.forIn_cons, ← h1]
        simp only [beq_self_eq_true, if_true, cellOf, hc]
        rfl
      · rcases hm with hm | hm
        · rcases List.mem_cons.mp hm with e | hm
          · cases e; right; simp
          · exact .inl hm
        · right
          rw [List.lookup_cons]
          split
          · rfl
          · exact hm
    · obtain ⟨cl, h1, h2, h3⟩ := ih acc (fun p hp => hf p (.tail _ hp)) ha
      refine ⟨cl, ?_, h2, fun m hm => h3 m (hm.imp (fun hm => ?_) id)⟩
      · rw [List.forIn_cons, ← h1]
        have : (kd == NameKind.free) = false := by simpa using hk
        simp only [this, Bool.false_eq_true, if_false]
        rfl
      · rcases List.mem_cons.mp hm with e | hm
        · cases e; exact absurd rfl hk
        · exact hm

theorem cells_one {X : Str} : ∀ (names : List (Str × NameKind)) (h : Heap) (acc : List (Str × Addr)), (∀ p ∈ names, p.2 = .cell → p.1 = X) → (names.map (·.1)).Nodup →
    (∀ m, m ≠ X → (cellsFrom h.objs.size names acc).lookup m = acc.lookup m) ∧
    (names.lookup X = some .cell → ∃ c, (cellsFrom h.objs.size names acc).lookup X = some c ∧ (pushCells h names).IsCell c none ∧ h.objs.size ≤ c) ∧ (names.lookup X ≠ some .cell → cellsFrom h.objs.size names acc = acc)
  | [], h, acc, _, _ => ⟨fun _ _ => rfl, fun e => (by cases e), fun _ => rfl⟩
  | (n, kd) :: r, h, acc, hc, hn => by
    rw [List.map_cons, List.nodup_cons] at hn
    unfold cellsFrom pushCells
    by_cases hk : kd = .cell
    · subst hk
      have e : n = X := hc (n, .cell) (.head _) rfl
      subst e
      have hr : ∀ p ∈ r, p.2 ≠ .cell := fun p hp e => hn.1 (List.mem_map.mpr ⟨p, hp, hc p (.tail _ hp) e⟩)
      have hl : r.lookup n ≠ some .cell := fun e => hr _ (mem_of_lookup e) rfl
      simp only [beq_self_eq_true, if_true]
      have ih := cells_one (X := n) r (h.push { cls := .type "cell", data := .cell none }) ((n, h.objs.size) :: acc) (fun p hp e => absurd e (hr p hp)) hn.2
      rw [Heap.size_push] at ih
      rw [ih.2.2 hl]
      refine ⟨fun m hm => ?_, fun _ => ⟨h.objs.size, by simp, ⟨_, pushCells_keeps r _ _ _ (Heap.get?_push_size _ rfl), rfl⟩, Nat.le_refl _⟩, fun hh => ?_⟩
      · rw [List.lookup_cons]
        have : (m == n) = false := by simpa using hm
        rw [this]
      · exact absurd (by simp) hh
    · have hb : (kd == NameKind.cell) = false := by simpa using hk
      simp only [hb, Bool.false_eq_true, if_false]
      obtain ⟨h1, h2, h3⟩ := cells_one r h acc (fun p hp => hc p (.tail _ hp)) hn.2
      have e : ((n, kd) :: r).lookup X = some .cell ↔ r.lookup X = some .cell := by
        rw [List.lookup_cons]
        by_cases hx : X = n
        · subst hx
          simp only [beq_self_eq_true]
          constructor
          · intro e; cases e; exact absurd rfl hk
          · intro e; exact absurd (List.mem_map.mpr ⟨_, mem_of_lookup e, rfl⟩) hn.1
        · have : (X == n) = false := by simpa using hx
          rw [this]
      exact ⟨h1, fun q => h2 (e.mp q), fun q => h3 fun z => q (e.mpr z)⟩

/-- the block of a comprehension -/
theorem newComp {A : Around} {env : Env} {scope : Scope} {cl : List (Str × Addr)} {s : Shared} {Q : Env → Shared → Prop} {Er : Value → Shared → Prop}
    (h : ∀ h', h' = pushCells (s.heap.push { cls := .type "dict", data := .dict #[] }) scope.names → Q { scope, locals := s.heap.objs.size, globals := env.globals, cells := cellsFrom (s.heap.objs.size + 1) scope.names cl, qual := env.qual, func := none, code := env.code, frame := env.frame, builtins := env.builtins } { s with heap := h' }) :
    wpAny (model prog w) A (newFunctionEnv scope env.globals cl [] env.qual none .none (some env)) Q Er s := by
  simp only [newFunctionEnv, Option.isSome_some, if_true]
  refine wpAny_bind (wpAny_alloc ?_)
  refine wpAny_bind (wpAny_layCells _ (fun name kind cells => by cases hkc : kind == NameKind.cell <;> simp) _ _ _ _ ?_)
  rw [show ({ s with heap := s.heap.push { cls := .type "dict", data := .dict #[] } } : Shared).heap.objs.size = s.heap.objs.size + 1 from Heap.size_push ..]
  exact wpAny_bind (wpAny_pure (wpAny_pure (h _ rfl)))
end
end Mine

namespace Mine
open PySem PyProof.Rows
set_option linter.unusedSectionVars false
variable [SF : Soft]

section
variable {prog : Program} {w : World} {fns : Fns} {k : Nat} {C : Calls} {XP : String → Shared → Value → Shared → Prop}

theorem okSc_iff {ns : List (Str × NameKind)} {sc : Scope} {x : String} (h : okSc ns sc x = true) : sc.kind = .function ∧ (sc.names.map (·.1)).Nodup ∧ (sc.names.lookup (Str.ofString x) = some .local ∨ sc.names.lookup (Str.ofString x) = some .cell) ∧
    ∀ p ∈ sc.names, (p.2 = .local ∧ (p.1 = Str.ofString x ∨ p.1 = Str.ofString ".0")) ∨ p.2 = .globalImplicit ∨ (p.2 = .cell ∧ p.1 = Str.ofString x) ∨ (p.2 = .free ∧ (ns.lookup p.1 = some .cell ∨ ns.lookup p.1 = some .free)) := by
  unfold okSc at h
  simp only [Bool.and_eq_true, beq_iff_eq, decide_eq_true_eq, Bool.or_eq_true, List.all_eq_true] at h
  obtain ⟨⟨⟨h1, h2⟩, h3⟩, h4⟩ := h
  refine ⟨h1, h2, h3, fun p hp => ?_⟩
  rcases h4 p hp with ((h | h) | h) | h
  · exact .inl h
  · exact .inr (.inl h)
  · exact .inr (.inr (.inl h))
  · exact .inr (.inr (.inr h))

theorem lookup_mem {α : Type} {l : List (Str × α)} {n : Str} {c : α} (hn : (l.map (·.1)).Nodup) (h : (n, c) ∈ l) : l.lookup n = some c := by
  induction l with
  | nil => cases h
  | cons p r ih =>
    rw [List.map_cons, List.nodup_cons] at hn
    rw [List.lookup_cons]
    rcases List.mem_cons.mp h with e | h
    · cases e; simp
    · have : (n == p.1) = false := beq_eq_false_iff_ne.mpr fun e => hn.1 (e ▸ List.mem_map.mpr ⟨_, h, rfl⟩)
      rw [this]
      exact ih hn.2 h

theorem relN_lookup {outer : List (Str × NameKind)} : ∀ {inner : List (Str × NameKind)} {n : Str}, (relN outer inner).lookup n = (inner.lookup n).map fun kd => if kd == .free && outer.lookup n == some .cell then .cell else kd
  | [], n => rfl
  | (m, kd) :: r, n => by
    have ih := @relN_lookup outer r n
    unfold relN at ih ⊢
    rw [List.map_cons, List.lookup_cons, List.lookup_cons]
    by_cases e : n = m
    · subst e
      by_cases hc : (kd == NameKind.free && outer.lookup n == some .cell) = true
      · rw [if_pos hc]; simp only [beq_self_eq_true, Option.map_some]; rw [if_pos hc]
      · rw [if_neg hc]; simp only [beq_self_eq_true, Option.map_some]; rw [if_neg hc]
    · have e' : (n == m) = false := by simpa using e
      have e'' : (n == (if (kd == NameKind.free && outer.lookup m == some .cell) = true then (m, NameKind.cell) else (m, kd)).1) = false := by split <;> exact e'
      simp only [e', e'']
      exact ih

theorem relabel_names {scope : Scope} {env : Env} (hk : env.scope.kind = .function) : (relabel scope env).names = relN env.scope.names scope.names := by
  unfold relabel relN Env.kindOf
  simp [hk]

theorem compL_cons {f : PyData → Out (Option (V × Mode))} {d : PyData} {ds : List PyData} {q : List PyData × Bool} (h : compL f (d :: ds) = .ok q) :
    ∃ r q', f d = .ok r ∧ compL f ds = .ok q' ∧ ((r = none ∧ q = q') ∨ ∃ y m, r = some (.d y, m) ∧ q = (y :: q'.1, decide (m = .deep) && q'.2)) := by
  simp only [compL] at h
  obtain ⟨r, h1, h⟩ := Out.bind_ok h
  obtain ⟨q', h2, h⟩ := Out.bind_ok h
  refine ⟨r, q', h1, h2, ?_⟩
  split at h
  · cases h; exact .inl ⟨rfl, rfl⟩
  · cases h; exact .inr ⟨_, _, rfl, rfl⟩
  · cases h

/-- the surroundings of a comprehension's parts -/
theorem comp_cx {x : String} {sc : Scope} {A : Around} {env cenv : Env} {σ : St} {P P' : Addr → Prop} {h h' : Heap} {d : PyData} {v : Value} {as : List Addr}
    (hsc : okSc env.scope.names sc x = true) (hN : cenv.scope.names = relN env.scope.names sc.names) (hk : cenv.scope.kind = .function) (hg : cenv.globals = env.globals) (hb : cenv.builtins = env.builtins)
    (hc : ∀ n, (n, NameKind.free) ∈ sc.names → cenv.cells.lookup n = env.cells.lookup n) (hx : sc.names.lookup (Str.ofString x) = some .cell → ∃ c, cenv.cells.lookup (Str.ofString x) = some c)
    (hcd : cenv.code = env.code) (X : Cx prog w fns k A P h env σ) (kp : K h h') (hv : VarIs h' cenv (Str.ofString x) v) (hr : R h' v d as) (hz : sz d = true) (has : ∀ a ∈ as, P' a) (hP : ∀ a, P a → (∃ o, h.get? a = some o) → P' a) :
    Cx prog w fns k A P' h' cenv (upd σ x (mk (.d d))) := by
  obtain ⟨_, hnd, htg, hnames⟩ := okSc_iff hsc
  have hkd : ∀ n, cenv.kindOf n = (sc.names.lookup n).map fun kd => if kd == .free && env.scope.names.lookup n == some .cell then .cell else kd := fun n => by
    show cenv.scope.names.lookup n = _
    rw [hN]; exact relN_lookup
  refine ⟨X.room, ⟨hk, hg.trans X.eok.glob, hb.trans X.eok.blt, fun n hn => ?_⟩, X.ge.k kp, (fun h1 => let ⟨q, c⟩ := X.code h1; ⟨q, hcd ▸ c.k kp⟩), fun y p hp hvk => ?_⟩
  · rw [hkd] at hn
    cases e : sc.names.lookup n with
    | none => rw [e] at hn; simp at hn
    | some kd =>
      have hm := mem_of_lookup e
      rcases hnames _ hm with h1 | h1 | h1 | h1
      · rw [e, show kd = _ from h1.1] at hn; simp at hn
      · dsimp only at h1; rw [e, h1] at hn; simp at hn
      · obtain ⟨h1, h2⟩ := h1
        dsimp only at h1 h2
        subst h2
        exact hx (by rw [e, h1])
      · obtain ⟨h1, h2⟩ := h1
        dsimp only at h1 h2
        subst h1
        obtain ⟨c, hcc⟩ := X.eok.cells n h2
        exact ⟨c, by rw [hc n hm, hcc]⟩
  · unfold upd at hp
    by_cases hy : y = x
    · subst hy
      rw [if_pos rfl] at hp
      cases hp
      exact ⟨v, as, hv, ⟨hr, hz⟩, has⟩
    · rw [if_neg hy] at hp
      have hk' := kind_of_varK hvk
      rw [hkd] at hk'
      have hdot : Str.ofString y ≠ Str.ofString ".0" := by
        unfold varK at hvk
        intro e
        rw [e] at hvk
        simp at hvk
      cases e : sc.names.lookup (Str.ofString y) with
      | none => rw [e] at hk'; simp at hk'
      | some kd =>
        have hm := mem_of_lookup e
        rcases hnames _ hm with h1 | h1 | h1 | h1
        · exact absurd h1.2 (by
            rintro (h2 | h2)
            · exact hy (ofString_inj h2)
            · exact hdot h2)
        · dsimp only at h1; rw [e, h1] at hk'; simp at hk'
        · exact absurd (ofString_inj h1.2) hy
        · obtain ⟨h1, h2⟩ := h1
          dsimp only at h1 h2
          subst h1
          have hvo : varK env.scope.names y = true := by
            unfold varK
            rw [Bool.and_eq_true]
            refine ⟨by simpa using hdot, ?_⟩
            rcases h2 with h2 | h2 <;> rw [h2]
          obtain ⟨v', as', a1, a2, a3⟩ := X.vars y p hp hvo
          refine ⟨v', as', ?_, a2.k kp, fun a ha => hP a (a3 a ha) (a2.there a ha)⟩
          cases a1 with
          | loc m b1 b2 b3 => exact absurd b1 (by unfold Env.kindOf; rcases h2 with h2 | h2 <;> rw [h2] <;> simp)
          | cell c b1 b2 b3 =>
            refine .cell c ?_ (by rw [hc _ hm, b2]) (cell_k b3 kp)
            rw [hkd, e]
            rcases h2 with h2 | h2 <;> rw [h2] <;> simp

/-- the place of a comprehension's name -/
noncomputable def Tgt (cenv : Env) (X : Str) (T : Addr) (h : Heap) : Prop :=
  (∃ m, h.Ns cenv.locals m) ∧ ((cenv.kindOf X = some .local ∧ T = cenv.locals) ∨ (cenv.kindOf X = some .cell ∧ cenv.cells.lookup X = some T ∧ T ≠ cenv.locals ∧ ∃ v₀, h.IsCell T v₀))

theorem Tgt.at {cenv : Env} {X : Str} {T : Addr} {h h' : Heap} (t : Tgt cenv X T h) (k1 : ∀ o, h.get? T = some o → h'.get? T = some o) (k2 : ∀ o, h.get? cenv.locals = some o → h'.get? cenv.locals = some o) : Tgt cenv X T h' := by
  obtain ⟨⟨m, hm⟩, t⟩ := t
  refine ⟨⟨m, hm.at' k2⟩, t.imp id fun t => ?_⟩
  obtain ⟨a, b, c, v₀, o, e, d⟩ := t
  exact ⟨a, b, c, v₀, o, k1 _ e, d⟩
theorem Tgt.onK {cenv : Env} {X : Str} {T : Addr} {h h' : Heap} (t : Tgt cenv X T h) (k : K h h') : Tgt cenv X T h' := by
  obtain ⟨⟨m, hm⟩, t⟩ := t
  refine ⟨⟨m, ns_k hm k⟩, t.imp id fun t => ?_⟩
  obtain ⟨a, b, c, v₀, d⟩ := t
  exact ⟨a, b, c, v₀, cell_k d k⟩
theorem Tgt.nostay {cenv : Env} {X : Str} {T : Addr} {h : Heap} (t : Tgt cenv X T h) (o : Obj) (e : h.get? T = some o) : ¬ Stay o := by
  obtain ⟨⟨m, o', es, ep, e', hd, _⟩, t⟩ := t
  rcases t with t | t
  · rw [t.2, e'] at e; cases e; exact Stay.not_data (fun _ q => by rw [hd] at q; cases q) fun _ _ q => by rw [hd] at q; cases q
  · obtain ⟨_, _, _, v₀, o'', e'', hd'⟩ := t
    rw [e''] at e; cases e; exact Stay.not_data (fun _ q => by rw [hd'] at q; cases q) fun _ _ q => by rw [hd'] at q; cases q
theorem Tgt.noseq {cenv : Env} {X : Str} {T : Addr} {h : Heap} (t : Tgt cenv X T h) (o : Obj) (e : h.get? T = some o) (vs : Array Value) (n : Nat) : o.data ≠ .seq vs n := by
  obtain ⟨⟨m, o', es, ep, e', hd, _⟩, t⟩ := t
  intro q
  rcases t with t | t
  · rw [t.2, e'] at e; cases e; rw [hd] at q; cases q
  · obtain ⟨_, _, _, v₀, o'', e'', hd'⟩ := t
    rw [e''] at e; cases e; rw [hd'] at q; cases q

theorem tgt_store {A : Around} {cenv : Env} {X : Str} {px : Pos} {T : Addr} {v : Value} {s : Shared} {Q : Unit → Shared → Prop} {Er : Value → Shared → Prop} (hk : cenv.scope.kind = .function) (t : Tgt cenv X T s.heap)
    (h : ∀ h' tk, Heap.SameBut T s.heap h' → Tgt cenv X T h' → VarIs h' cenv X v → Q () { s with heap := h', toks := tk }) : wpAny (model prog w) A (assign (.Name X px) cenv v) Q Er s := by
  obtain ⟨⟨m, hm⟩, t⟩ := t
  rcases t with ⟨t1, rfl⟩ | ⟨t1, t2, t3, v₀, t4⟩
  · exact wpAny_assign_Name (wpAny_storeName_local t1 hm (fun h' hn hs => h h' _ hs ⟨⟨_, hn⟩, .inl ⟨t1, rfl⟩⟩ (.loc _ t1 hn (by simp))) (by rw [hk]; rfl))
  · exact wpAny_assign_Name (wpAny_storeName_cell hk t1 t2 t4 fun h' hn hs => h h' s.toks hs ⟨⟨m, hm.sameBut hs (Ne.symm t3)⟩, .inr ⟨t1, t2, t3, _, hn⟩⟩ (.cell T (.inl t1) t2 hn))

set_option maxHeartbeats 2000000 in
theorem comp_loop {f : PyData → Out (Option (V × Mode))} {x : String} {px : Pos} {elt iter : Expr} {ifs : List Expr} {sc : Scope} {pos : Pos} {A : Around} {cenv : Env} {P : Addr → Prop} {s s₃ : Shared} {Rr : Result → Shared → Prop}
    {ds : List PyData} {res : List PyData × Bool} {I D T : Addr} {fp wr F : List Addr} {Pw : Nat → Value → Prop} {St : Nat → Heap → Prop}
    (W : Walks prog w A I fp wr ds.length Pw St) (hst : St 0 s₃.heap) (hk : cenv.scope.kind = .function) (ks : K s.heap s₃.heap)
    (hwr : ∀ b ∈ wr, s.heap.get? b = none ∧ b ∉ F ∧ ∀ i h, St i h → ∃ o, h.get? b = some o ∧ (hardB o = true ∧ o.cls ≠ .type "code") ∧ ∃ fs, o.data = .fields fs) (hFl : ∀ b ∈ F, ∃ vs n, s₃.heap.get? b = some ⟨.type "list", none, .seq vs n, #[]⟩) (hfp : ∀ b ∈ fp, b ∈ wr ∨ b ∈ F)
    (hPw : ∀ i v, Pw i v → ∀ d, ds[i]? = some d → ∃ bs, R s₃.heap v d bs ∧ ∀ b ∈ bs, b ∈ F) (hFP : ∀ a ∈ F, P a ∨ s.heap.get? a = none) 
    (hFo : ∀ b ∈ F, b ≠ D ∧ b ≠ T ∧ b ≠ cenv.locals) (hwo : ∀ b ∈ wr, b ≠ D ∧ b ≠ T ∧ b ≠ cenv.locals) (hDT : D ≠ T) (hDL : D ≠ cenv.locals) (fD : s.heap.get? D = none) (fT : s.heap.get? T = none)
    (hsm : ds.length ≤ 2 ^ 22 ∧ ∀ d ∈ ds, sz d = true) (hres : compL f ds = .ok res) (hD : s₃.heap.PlainList D #[]) (hT : Tgt cenv (Str.ofString x) T s₃.heap)
    (step : ∀ d r, f d = .ok r → sz d = true → ∀ {s₄ : Shared} {Q₁ : Shared → Prop} {Q₂ : Value → Shared → Prop} {Er' : Value → Shared → Prop} (v : Value) (bs : List Addr), VarIs s₄.heap cenv (Str.ofString x) v → R s₄.heap v d bs → (∀ b ∈ bs, (P b ∨ s.heap.get? b = none) ∧ b ≠ D) → K s.heap s₄.heap →
      (r = none → ∀ s₅, Kp s₄ s₅ → Q₁ s₅) → (∀ y, r = some y → ∀ u s₅, EP prog w (fun b => (P b ∨ s.heap.get? b = none) ∧ b ≠ D) s₄ y u s₅ → Q₂ u s₅) →
      wpAny (model prog w) A (forIn ifs true fun c r => if r = true then do let ok ← isTrue c cenv (eval c cenv); pure (ForInStep.yield ok) else pure (ForInStep.yield r)) (fun ok s₅ => if ok = true then wpAny (model prog w) A (eval elt cenv) Q₂ Er' s₅ else Q₁ s₅) Er' s₄)
    (hR : ∀ h tk vs as, h.PlainList D vs.toArray → RA h vs res.1 as → (∀ y ∈ res.1, sz y = true) → res.1.length ≤ 2 ^ 22 → (∀ a ∈ as, a ≠ D ∧ (P a ∨ s.heap.get? a = none)) → (res.2 = true → (∀ a ∈ as, s.heap.get? a = none) ∧ as.Nodup) → (∃ m, h.Ns cenv.locals m) →
      K s.heap h → Rr (.ok .next) { s₃ with heap := h, toks := tk }) :
    codeAny (model prog w) A (.compLoop (.ListComp elt [⟨.Name (Str.ofString x) px, iter, ifs, 0⟩] sc pos) 0 (.ref I) (.ref D) cenv) Rr s₃ := by
  have offw : ∀ i h as, St i h → Off h as wr := fun i h as hs b hb o e => by
    obtain ⟨o', e', _, fs, q⟩ := (hwr b hb).2.2 i h hs
    rw [e] at e'; cases e'; exact .inl fun vs n q' => by rw [q] at q'; cases q'
  have offT : ∀ h as, Tgt cenv (Str.ofString x) T h → Off h as [T] := fun h as t b hb o e => by
    rw [List.mem_singleton.mp hb] at e
    exact .inl (t.noseq o e)
  have offD : ∀ h as vs, Heap.PlainList h D vs → (∀ a ∈ as, a ≠ D) → Off h as [D] := fun h as vs t hn b hb o e => by
    rw [List.mem_singleton.mp hb] at e ⊢
    obtain ⟨n, t⟩ := t
    rw [t] at e; cases e
    exact .inr ⟨by simp, fun hm => hn D hm rfl⟩
  have notw : ∀ i h, St i h → ∀ b ∈ wr, ∀ o, h.get? b = some o → ¬ Stay o := fun i h hs b hb o e => by
    obtain ⟨o', e', ⟨_, hc⟩, fs, q⟩ := (hwr b hb).2.2 i h hs
    rw [e] at e'; cases e'
    exact fun x => x.elim (fun x => hc x.1) fun x => let ⟨_, vs, n, e⟩ := x; by rw [q] at e; cases e
  have outs : ∀ b o, s.heap.get? b = some o → b ∉ D :: T :: wr := fun b o e hb => by
    rcases List.mem_cons.mp hb with rfl | hb
    · rw [fD] at e; cases e
    rcases List.mem_cons.mp hb with rfl | hb
    · rw [fT] at e; cases e
    · rw [(hwr b hb).1] at e; cases e
  have outF : ∀ b ∈ F, b ∉ D :: T :: wr := fun b hF hb => by
    rcases List.mem_cons.mp hb with rfl | hb
    · exact (hFo _ hF).1 rfl
    rcases List.mem_cons.mp hb with rfl | hb
    · exact (hFo _ hF).2.1 rfl
    · exact (hwr b hb).2.1 hF
  refine codeAny_compLoop_tests
    (fun n s' => ∃ (h : Heap) (tk : Nat) (j : Nat) (vs : List Value) (ys : List PyData) (as : List Addr) (zs : List PyData) (dp b' : Bool), s' = { s₃ with heap := h, toks := tk } ∧ St j h ∧ j ≤ ds.length ∧ n = ds.length + 1 - j ∧ h.PlainList D vs.toArray ∧ RA h vs ys as ∧ (∀ y ∈ ys, sz y = true) ∧ ys.length ≤ j ∧
      (∀ a ∈ as, a ≠ D ∧ (P a ∨ s.heap.get? a = none)) ∧ (dp = true → (∀ a ∈ as, s.heap.get? a = none) ∧ as.Nodup) ∧ Tgt cenv (Str.ofString x) T h ∧ KG (fun b => b ∉ D :: T :: wr) s₃.heap h ∧
      compL f (ds.drop j) = .ok (zs, b') ∧ res = (ys ++ zs, dp && b')) ?_ (ds.length + 1)
    ⟨s₃.heap, s₃.toks, 0, [], [], [], res.1, true, res.2, rfl, hst, Nat.zero_le _, rfl, hD, .nil, fun _ h => (nomatch h), Nat.le_refl _, fun _ h => (nomatch h), fun _ => ⟨fun _ h => (nomatch h), .nil⟩, hT, KG.refl, by simpa using hres, by simp⟩
  rintro n s' ⟨h, tk, j, vs, ys, as, zs, dp, b', rfl, hst', hj, rfl, hD', hra, hys, hyl, has, hdp, hT', hkp, hcl, hrs⟩
  have hDw : D ∉ wr := fun h => (hwo D h).1 rfl
  have hTw : T ∉ wr := fun h => (hwo T h).2.1 rfl
  have hLw : cenv.locals ∉ wr := fun h => (hwo _ h).2.2 rfl
  have kps : K s.heap h := ks.step hkp outs
  by_cases hlt : j < ds.length
  · obtain ⟨d, hd⟩ : ∃ d, ds[j]? = some d := ⟨_, List.getElem?_eq_getElem hlt⟩
    have hdd : ds.drop j = d :: ds.drop (j + 1) := by
      rw [List.drop_eq_getElem_cons hlt]
      rw [List.getElem?_eq_getElem hlt] at hd
      cases hd; rfl
    rw [hdd] at hcl
    obtain ⟨r, q', hf, hq, hcase⟩ := compL_cons hcl
    refine W.item j _ _ _ hlt hst' fun v h₁ tk₁ hPv hst₁ hk₁ => ?_
    have hk₁' : ∀ b o, b ∉ wr → h.get? b = some o → h₁.get? b = some o := hk₁
    refine tgt_store hk (hT'.at (fun o e => hk₁' _ o hTw e) fun o e => hk₁' _ o hLw e) fun h₂ tk₂ hs₂ hT₂ hv₂ => ?_
    have hs₂' : ∀ b o, b ∉ [T] → h₁.get? b = some o → h₂.get? b = some o := fun b o hb e => hs₂.extBut b o (fun q => hb (by simp [q])) e
    have hst₂ : St (j + 1) h₂ := W.frame _ _ _ hst₁ fun b hb o e => hs₂' b o (fun q => by
      rw [List.mem_singleton.mp q] at hb
      rcases hfp _ hb with hb | hb
      · exact hTw hb
      · exact (hFo _ hb).2.1 rfl) e
    have hra₂ : RA h₂ vs ys as := (hra.off (offw j h as hst') hk₁').off (offT h₁ as (hT'.at (fun o e => hk₁' _ o hTw e) fun o e => hk₁' _ o hLw e)) hs₂'
    have kT : KG (fun b => b ∉ [T]) h₁ h₂ := .ofW hs₂' fun b hb o e => by
      rw [List.mem_singleton.mp hb] at e
      exact (hT'.at (fun o e => hk₁' _ o hTw e) fun o e => hk₁' _ o hLw e).nostay o e
    have hkp₂ : KG (fun b => b ∉ D :: T :: wr) s₃.heap h₂ := (hkp.trans ((KG.ofW hk₁' (notw j h hst')).mono fun b hb q => hb (by simp [q]))).trans (kT.mono fun b hb q => hb (by rw [List.mem_singleton.mp q]; simp))
    obtain ⟨bs, hrv, hbs⟩ := hPw j v hPv d hd
    have hrv₂ : R h₂ v d bs := hrv.onG hkp₂ fun b hb => outF b (hbs b hb)
    have kps₂ : K s.heap h₂ := ks.step hkp₂ outs
    have hfpH : ∀ b ∈ fp, ∀ o, h₂.get? b = some o → hardB o = true := fun b hb o e => by
      rcases hfp b hb with hb | hb
      · obtain ⟨o', e', ⟨hh, _⟩, _⟩ := (hwr b hb).2.2 _ _ hst₂
        rw [e] at e'; cases e'; exact hh
      · obtain ⟨vs', n', e'⟩ := hFl b hb
        rw [hkp₂.hard (.inl (outF b hb)) e' rfl] at e
        cases e; rfl
    have hD₂ : h₂.PlainList D vs.toArray := (hD'.at fun o e => hk₁' _ o hDw e).at fun o e => hs₂' _ o (by simpa using hDT) e
    have hzd : sz d = true := hsm.2 d (List.mem_of_getElem? hd)
    refine step d r hf hzd (s₄ := { s₃ with heap := h₂, toks := tk₂ }) v bs hv₂ hrv₂ (fun b hb => ⟨hFP b (hbs b hb), (hFo b (hbs b hb)).1⟩) kps₂ (fun hr s₅ k₅ => ?_) fun y hy u s₅ E₅ => ?_
    · subst hr
      obtain ⟨h₅, tk₅, rfl, hk₅⟩ := k₅
      rcases hcase with ⟨_, hcase⟩ | ⟨_, _, hcase, _⟩
      · subst hcase
        refine ⟨ds.length + 1 - (j + 1), by lia, h₅, tk₅, j + 1, vs, ys, as, zs, dp, b', rfl, W.frame _ _ _ hst₂ fun b hb o e => hk₅.get e (hfpH b hb o e), hlt, rfl, (let ⟨n, e⟩ := hD₂; ⟨n, hk₅.get e rfl⟩), hra₂.k hk₅, hys, by lia, has, hdp, hT₂.onK hk₅, hkp₂.trans (hk₅.mono fun _ _ => trivial), hq, hrs⟩
      · cases hcase
    · obtain ⟨⟨h₅, tk₅, rfl, hk₅⟩, bs', hrv₅, hb1, hb2, hb3⟩ := E₅
      dsimp only at hk₅ hrv₅ hb1 hb2 hb3
      rcases hcase with ⟨hcase, _⟩ | ⟨z, m, hcase, hq2⟩
      · rw [hy] at hcase; cases hcase
      · rw [hy] at hcase; cases hcase
        obtain ⟨hrv₅, hz₅⟩ := hrv₅
        have hD₅ : h₅.PlainList D vs.toArray := let ⟨n, e⟩ := hD₂; ⟨n, hk₅.get e rfl⟩
        have hbD : ∀ a ∈ bs', a ≠ D := fun a ha q => by
          rcases hb1 a ha with h | h
          · exact h.2 q
          · obtain ⟨n, e⟩ := hD₂
            rw [q, e] at h; cases h
        have hra₅ := (hra₂.k hk₅).append (.cons hrv₅ .nil)
        have hl : vs.length = ys.length := hra.length
        refine wpAny_list_append_plain (hsz := by rw [List.size_toArray, hl]; unfold sizeLine; lia) hD₅ fun h₆ hl₆ hs₆ => ?_
        have hs₆' : ∀ b o, b ∉ [D] → h₅.get? b = some o → h₆.get? b = some o := fun b o hb e => hs₆.extBut b o (fun q => hb (by simp [q])) e
        have hne : ∀ a ∈ as ++ (bs' ++ []), a ≠ D := fun a ha => by
          rcases List.mem_append.mp ha with ha | ha
          · exact (has a ha).1
          · exact hbD a (by simpa using ha)
        cases hq2
        refine ⟨ds.length + 1 - (j + 1), by lia, h₆, tk₅, j + 1, vs ++ [u], ys ++ [z], as ++ (bs' ++ []), q'.1, dp && decide (m = .deep), q'.2, rfl, ?_, hlt, rfl, ?_, hra₅.off (offD h₅ _ _ hD₅ hne) hs₆', ?_, ?_, ?_, ?_, ?_, ?_, ?_, ?_⟩
        · refine W.frame _ _ _ hst₂ fun b hb o e => hs₆' b o (fun q => ?_) (hk₅.get e (hfpH b hb o e))
          rw [List.mem_singleton.mp q] at hb
          rcases hfp _ hb with hb | hb
          · exact hDw hb
          · exact (hFo _ hb).1 rfl
        · simpa using hl₆
        · intro y hy'
          rcases List.mem_append.mp hy' with h | h
          · exact hys y h
          · rw [List.mem_singleton.mp h]; exact hz₅
        · rw [List.length_append, List.length_singleton]; lia
        · intro a ha
          refine ⟨hne a ha, ?_⟩
          rcases List.mem_append.mp ha with ha | ha
          · exact (has a ha).2
          · rcases hb1 a (by simpa using ha) with h | h
            · exact h.1
            · right
              cases e : s.heap.get? a with
              | none => rfl
              | some o => obtain ⟨_, e'⟩ := kps₂.there e; rw [e'] at h; cases h
        · intro hdm
          simp only [Bool.and_eq_true, decide_eq_true_eq] at hdm
          obtain ⟨hd1, hd2⟩ := hdm
          obtain ⟨g1, g2⟩ := hdp hd1
          obtain ⟨g3, g4⟩ := hb3 hd2
          refine ⟨fun a ha => ?_, ?_⟩
          · rcases List.mem_append.mp ha with ha | ha
            · exact g1 a ha
            · have h := g3 a (by simpa using ha)
              cases e : s.heap.get? a with
              | none => rfl
              | some o => obtain ⟨_, e'⟩ := kps₂.there e; rw [e'] at h; cases h
          · rw [List.append_nil, List.nodup_append]
            refine ⟨g2, g4, fun a ha b hb q => ?_⟩
            subst q
            obtain ⟨_, _, e⟩ := hra₂.there a ha
            rw [g3 a hb] at e; cases e
        · exact (hT₂.onK hk₅).at (fun o e => hs₆' _ o (by simpa using Ne.symm hDT) e) fun o e => hs₆' _ o (by simpa using Ne.symm hDL) e
        · refine (hkp₂.trans (hk₅.mono fun _ _ => trivial)).trans ((KG.ofW hs₆' fun b hb o e => ?_).mono fun b hb q => hb (by rw [List.mem_singleton.mp q]; simp))
          obtain ⟨n, e₅⟩ := hD₅
          rw [List.mem_singleton.mp hb, e₅] at e
          cases e
          exact Stay.not_cls (by simp) (by simp)
        · exact hq
        · rw [hrs]; simp [Bool.and_assoc]
  · have hjl : j = ds.length := by lia
    subst hjl
    rw [List.drop_length] at hcl
    cases hcl
    refine W.done _ _ _ hst' fun h₁ tk₁ hk₁ => ?_
    have hk₁' : ∀ b o, b ∉ wr → h.get? b = some o → h₁.get? b = some o := hk₁
    have e1 : res = (ys, dp) := by rw [hrs]; simp
    subst e1
    refine hR h₁ tk₁ vs as (hD'.at fun o e => hk₁' _ o hDw e) (hra.off (offw _ h as hst') hk₁') hys (Nat.le_trans hyl hsm.1) has hdp ((hT'.at (fun o e => hk₁' _ o hTw e) fun o e => hk₁' _ o hLw e).1) (kps.step (KG.ofW hk₁' (notw _ h hst')) fun b o e q => by rw [(hwr b q).1] at e; cases e)

end
end Mine

namespace Mine
open PySem PyProof.Rows
set_option linter.unusedSectionVars false
variable [SF : Soft]

section
variable {prog : Program} {w : World} {fns : Fns} {k : Nat} {C : Calls} {XP : String → Shared → Value → Shared → Prop}

theorem fset {ns : List (Str × NameKind)} {it : It} {ex : Expr} (ok : okIt ns it ex = true) (env : Env) (v : Value) : foldedSetIterable ex env v = pure v := by
  cases ex with
  | Set es p =>
    cases it with
    | e a => exfalso; cases a <;> exact Bool.noConfusion (show false = true from ok)
    | r1 n => exact Bool.noConfusion (show false = true from ok)
    | r2 a b => exact Bool.noConfusion (show false = true from ok)
  | _ => rfl

set_option maxHeartbeats 1000000 in
theorem comp_coreG {RR : Value → Addr → Result → Shared → Prop} {f : PyData → Out (Option (V × Mode))} {x : String} {px : Pos} {elt iter : Expr} {ifs : List Expr} {sc : Scope} {pos : Pos} {A : Around} {env : Env} {σ : St} {P : Addr → Prop} {s : Shared} {Er : Value → Shared → Prop}
    {ds : List PyData} {res : List PyData × Bool} (hsc : okSc env.scope.names sc x = true) (X : Cx prog w fns k A P s.heap env σ) (hres : compL f ds = .ok res)
    (step : ∀ d r, f d = .ok r → ∀ {cenv : Env} {s₃ : Shared} {P' : Addr → Prop} {Q₁ : Shared → Prop} {Q₂ : Value → Shared → Prop} {Er' : Value → Shared → Prop}, cenv.scope.names = relN env.scope.names sc.names → Cx prog w fns k A P' s₃.heap cenv (upd σ x (mk (.d d))) →
      (r = none → ∀ s₄, Kp s₃ s₄ → Q₁ s₄) → (∀ y, r = some y → ∀ v s₄, EP prog w P' s₃ y v s₄ → Q₂ v s₄) →
      wpAny (model prog w) A (forIn ifs true fun c r => if r = true then do let ok ← isTrue c cenv (eval c cenv); pure (ForInStep.yield ok) else pure (ForInStep.yield r)) (fun ok s₄ => if ok = true then wpAny (model prog w) A (eval elt cenv) Q₂ Er' s₄ else Q₁ s₄) Er' s₃)
    {m : Mode} {i : Value} {s₂ : Shared} (I : ItP prog w A P s ds m i s₂)
    (hR : ∀ D C h tk m, EP prog w P s (.d (.list res.1), if res.2 then .deep else .top) (.ref D) { s₂ with heap := h, toks := tk } → h.Ns C m → s.heap.get? C = none → RR (.ref D) C (.ok .next) { s₂ with heap := h, toks := tk }) {cl : List (Str × Addr)} (hcl : ∀ n, (n, NameKind.free) ∈ sc.names → cl.lookup n = env.cells.lookup n) :
    wpAny (model prog w) A (newObj (.type "list") (.seq #[]) none) (fun acc s₃ =>
      wpAny (model prog w) A (newFunctionEnv sc env.globals cl [] env.qual none .none (some env)) (fun cenv s₄ =>
        codeAny (model prog w) A (.compStart (.ListComp elt [⟨.Name (Str.ofString x) px, iter, ifs, 0⟩] sc pos) 0 i acc { cenv with scope := relabel sc env }) (RR acc cenv.locals) s₄) Er s₃) Er s₂ := by
  obtain ⟨hk, hnd, htg, hnames⟩ := okSc_iff hsc
  obtain ⟨kp₂, ⟨I, fp, wr, Pw, St, F, rfl, W, hst, hwr, hfp, hPw, hF, hFP, _⟩, hsm⟩ := I
  refine wpAny_newObj_type (newComp fun h₃ eh₃ => ?_)
  have hsz : (s₂.heap.push { cls := .type "list", data := .seq #[] }).objs.size = s₂.heap.objs.size + 1 := Heap.size_push ..
  dsimp only at eh₃ ⊢
  rw [hsz]
  generalize hD : s₂.heap.objs.size = D at *
  obtain ⟨c1, c2, c3⟩ := cells_one (X := Str.ofString x) sc.names ((s₂.heap.push { cls := .type "list", data := .seq #[] }).push { cls := .type "dict", data := .dict #[] }) cl (fun p hp e => by
    rcases hnames p hp with h | h | h | h
    · rw [h.1] at e; cases e
    · rw [h] at e; cases e
    · exact h.2
    · rw [h.1] at e; cases e) hnd
  rw [Heap.size_push, hsz] at c1 c2 c3
  rw [← eh₃] at c2
  have hn₂ : ∀ b o, s₂.heap.get? b = some o → h₃.get? b = some o := fun b o e => by
    rw [eh₃]; exact pushCells_keeps _ _ _ _ (Heap.get?_push_of_some _ (Heap.get?_push_of_some _ e))
  have hD₃ : h₃.PlainList D #[] := ⟨0, by rw [eh₃]; exact pushCells_keeps _ _ _ _ (Heap.get?_push_of_some _ (hD ▸ Heap.get?_push_size _ rfl))⟩
  have hL₃ : h₃.Ns (D + 1) (fun _ => none) := by
    have := Heap.Ns.new (s₂.heap.push { cls := .type "list", data := .seq #[] }) (.type "dict")
    rw [hsz] at this
    rw [eh₃]
    exact this.keeps (pushCells_keeps _ _)
  have old : ∀ b, (∃ o, s₂.heap.get? b = some o) → b < D := fun b ⟨o, e⟩ => hD ▸ Heap.lt_size e
  have fresh' : ∀ b, D ≤ b → s.heap.get? b = none := fun b hb => by
    cases e : s.heap.get? b with
    | none => rfl
    | some o => exact absurd (old b (kp₂.k.there e)) (Nat.not_lt.mpr hb)
  -- the place of the name
  obtain ⟨T, hT, hTD, hkc⟩ : ∃ T, Tgt { scope := relabel sc env, locals := D + 1, globals := env.globals, cells := cellsFrom (D + 1 + 1) sc.names cl, qual := env.qual, func := none, code := env.code, frame := env.frame, builtins := env.builtins } (Str.ofString x) T h₃ ∧ D + 1 ≤ T ∧
      (sc.names.lookup (Str.ofString x) = some .cell → (cellsFrom (D + 1 + 1) sc.names cl).lookup (Str.ofString x) = some T) := by
    have hkd : (relabel sc env).names.lookup (Str.ofString x) = (sc.names.lookup (Str.ofString x)).map fun kd => if kd == .free && env.scope.names.lookup (Str.ofString x) == some .cell then .cell else kd := by
      rw [relabel_names X.eok.kind]; exact relN_lookup
    rcases htg with ht | ht
    · refine ⟨D + 1, ⟨⟨_, hL₃⟩, .inl ⟨?_, rfl⟩⟩, Nat.le_refl _, fun q => ?_⟩
      · show (relabel sc env).names.lookup _ = _
        rw [hkd, ht]; rfl
      · rw [ht] at q; cases q
    · obtain ⟨c, g1, g2, g3⟩ := c2 ht
      refine ⟨c, ⟨⟨_, hL₃⟩, .inr ⟨?_, g1, ?_, _, g2⟩⟩, Nat.le_of_succ_le g3, fun _ => g1⟩
      · show (relabel sc env).names.lookup _ = _
        rw [hkd, ht]; rfl
      · exact Nat.ne_of_gt g3
  have hst₃ : St 0 h₃ := W.frame _ _ _ hst fun b _ o e => hn₂ b o e
  refine codeAny_compStart_list ?_ ?_
  all_goals
    first
    | (refine W.self 0 _ _ _ hst₃ ?_)
    | skip
  all_goals
    refine comp_loop (s := s) (P := P) (T := T) W hst₃ hk (KG.trans kp₂.k (K.of hn₂)) hwr (fun b hb => let ⟨vs, n, e⟩ := hF b hb; ⟨vs, n, hn₂ _ _ e⟩) hfp (fun i v hv d hd => let ⟨bs, h1, h2⟩ := hPw i v hv d hd; ⟨bs, h1.keep hn₂, h2⟩) hFP (fun b hb => ?_) (fun b hb => ?_) (Nat.ne_of_lt hTD) (Nat.ne_of_lt (Nat.lt_succ_self D)) (fresh' D (Nat.le_refl _)) (fresh' T (Nat.le_of_succ_le hTD)) hsm hres hD₃ hT ?_ ?_
    · obtain ⟨_, _, e⟩ := hF b hb
      have := old b ⟨_, e⟩
      exact ⟨Nat.ne_of_lt this, Nat.ne_of_lt (Nat.lt_of_lt_of_le this (Nat.le_of_succ_le hTD)), Nat.ne_of_lt (Nat.lt_succ_of_lt this)⟩
    · obtain ⟨o, e, _⟩ := (hwr b hb).2.2 0 _ hst
      have := old b ⟨_, e⟩
      exact ⟨Nat.ne_of_lt this, Nat.ne_of_lt (Nat.lt_of_lt_of_le this (Nat.le_of_succ_le hTD)), Nat.ne_of_lt (Nat.lt_succ_of_lt this)⟩
    · intro d r hf hz s₄ Q₁ Q₂ Er' v bs hv hr hbs kps h1 h2
      refine step d r hf (relabel_names X.eok.kind) (comp_cx hsc (relabel_names X.eok.kind) hk rfl rfl (fun n hn => ?_) (fun q => ⟨T, hkc q⟩) rfl X kps hv hr hz hbs fun a ha hex => ⟨.inl ha, fun q => ?_⟩) h1 h2
      · show (cellsFrom (D + 1 + 1) sc.names cl).lookup n = _
        rw [c1 n fun q => ?_, hcl n hn]
        subst q
        have := lookup_mem hnd hn
        rw [this] at htg
        rcases htg with q | q <;> cases q
      · subst q
        obtain ⟨o, e⟩ := hex
        rw [fresh' _ (Nat.le_refl _)] at e; cases e
    · intro h tk vs as hp hra hys hyl has hdp hm hkp
      obtain ⟨m', hm⟩ := hm
      obtain ⟨n, hpl⟩ := hp
      refine hR D (D + 1) h tk m' ?_ hm (fresh' _ (Nat.le_succ D))
      obtain ⟨hh₂, tk₂, rfl, hkk₂⟩ := kp₂
      refine ⟨⟨h, tk, rfl, hkp⟩, D :: as, ⟨.list hpl hra, sz_list.mpr ⟨hyl, hys⟩⟩, ?_, ?_, ?_⟩
      · intro a ha
        rcases List.mem_cons.mp ha with rfl | ha
        · exact .inr (fresh' _ (Nat.le_refl _))
        · exact (has a ha).2
      · exact fun _ => ⟨D, as, rfl, fresh' _ (Nat.le_refl _), fun q => (has D q).1 rfl⟩
      · intro hm'
        dsimp only at hm'
        have hb : res.2 = true := by
          cases e : res.2 with
          | true => rfl
          | false => rw [e] at hm'; cases hm'
        refine ⟨fun a ha => ?_, List.nodup_cons.mpr ⟨fun q => (has D q).1 rfl, (hdp hb).2⟩⟩
        rcases List.mem_cons.mp ha with rfl | ha
        · exact fresh' _ (Nat.le_refl _)
        · exact (hdp hb).1 a ha

/-- the names of a comprehension's block being let go -/
theorem R.sameBut {h h' : Heap} {C : Addr} {m : Str → Option Value} {v : Value} {d : PyData} {as : List Addr} (r : R h v d as) (hm : h.Ns C m) (hs : Heap.SameBut C h h') : R h' v d as := by
  refine r.off (wr := [C]) (fun b hb o e => ?_) fun b o hb e => hs.extBut b o (fun q => hb (by simp [q])) e
  rw [List.mem_singleton.mp hb] at e
  obtain ⟨o', es, ep, e', hd, _⟩ := hm
  rw [e'] at e; cases e
  exact .inl fun vs n q => by rw [hd] at q; cases q
theorem EP.sameBut {P : Addr → Prop} {s s₂ : Shared} {h h' : Heap} {tk : Nat} {C : Addr} {m : Str → Option Value} {d : PyData} {md : Mode} {v : Value} (E : EP prog w P s (.d d, md) v { s₂ with heap := h, toks := tk }) (hm : h.Ns C m) (hC : s.heap.get? C = none) (hs : Heap.SameBut C h h') :
    EP prog w P s (.d d, md) v { s₂ with heap := h', toks := tk } := by
  obtain ⟨⟨hh, tk', e, kp⟩, as, ⟨r, z⟩, r1, r2, r3⟩ := E
  cases s₂; cases s; cases e
  obtain ⟨o', es, ep, e', hd, _⟩ := id hm
  refine ⟨⟨h', tk, rfl, K.step kp (KG.ofW (wr := [C]) (fun b o hb e => hs.extBut b o (fun q => hb (by simp [q])) e) fun b hb o e => ?_) fun b o e q => ?_⟩, as, ⟨R.sameBut r hm hs, z⟩, r1, r2, r3⟩
  · rw [List.mem_singleton.mp hb, e'] at e; cases e
    exact Stay.not_data (fun _ q => by rw [hd] at q; cases q) fun _ _ q => by rw [hd] at q; cases q
  · rw [List.mem_singleton.mp q, hC] at e; cases e

theorem comp_wrap {x : String} {px : Pos} {elt iter : Expr} {ifs : List Expr} {sc : Scope} {pos : Pos} {A : Around} {env : Env} {σ : St} {P : Addr → Prop} {s : Shared} {Q : Value → Shared → Prop} {Er : Value → Shared → Prop} {h : Heap}
    (hsc : okSc env.scope.names sc x = true) (X : Cx prog w fns k A P h env σ) (hset : ∀ v, foldedSetIterable iter env v = pure v)
    (h : ∀ cl : List (Str × Addr), (∀ n, (n, NameKind.free) ∈ sc.names → cl.lookup n = env.cells.lookup n) → wpAny (model prog w) A (eval iter env) (fun v s₁ => wpAny (model prog w) A (pyIter v) (fun i s₂ => wpAny (model prog w) A (newObj (.type "list") (.seq #[]) none) (fun acc s₃ =>
      wpAny (model prog w) A (newFunctionEnv sc env.globals cl [] env.qual none .none (some env)) (fun cenv s₄ =>
        codeAny (model prog w) A (.compStart (.ListComp elt [⟨.Name (Str.ofString x) px, iter, ifs, 0⟩] sc pos) 0 i acc { cenv with scope := relabel sc env }) (compPost (model prog w) A Er none Q acc cenv.locals) s₄) Er s₃) Er s₂) Er s₁) Er s) :
    wpAny (model prog w) A (eval (.ListComp elt [⟨.Name (Str.ofString x) px, iter, ifs, 0⟩] sc pos) env) Q Er s := by
  obtain ⟨hk, hnd, htg, hnames⟩ := okSc_iff hsc
  obtain ⟨cl, hcl, hclk⟩ := closure_ok (scope := sc) (env := env) (fun p hp e => by
    rcases hnames p hp with h | h | h | h
    · rw [h.1] at e; cases e
    · rw [h] at e; cases e
    · rw [h.1] at e; cases e
    · exact X.eok.cells p.1 h.2)
  rw [eval_ListComp]
  exact wpAny_comprehension_free (use := none) rfl hset hcl hk (fun y hy e => by rw [← e]; exact lookup_mem hnd hy) (h cl hclk)

theorem calm_ne_bad {α : Type} {o : Out α} (h : o.calm ≠ .bad) : ∃ a, o = .ok a := by
  cases o with
  | ok a => exact ⟨a, rfl⟩
  | exc c => exact absurd rfl h
  | bad => exact absurd rfl h

theorem sim_comp {elt : E} {x : String} {it : It} (Si : SimIt prog w fns k C XP it) (Se : SimE prog w fns k C XP elt) : SimE prog w fns k C XP (.comp elt x it) := by
  intro ex A env σ P s Q Er ok X nb hQ hE
  replace ok := i_comp ok
  rcases ok with ⟨_, _, _, _, _, _, rfl, ok⟩ | ok
  · simp only [Bool.and_eq_true, beq_iff_eq] at ok
    obtain ⟨⟨⟨rfl, hsc⟩, oi⟩, oe⟩ := ok
    simp only [ev] at nb hQ hE
    obtain ⟨n1, n2⟩ := bind_ne_bad nb
    refine comp_wrap hsc X (fset oi env) fun cl hcl => Si oi X n1 (fun q hq i s₂ I => ?_) fun c hc => hE c (by rw [hc]; rfl)
    obtain ⟨res, hres⟩ := calm_ne_bad (bind_ne_bad (n2 q hq)).1
    refine comp_coreG (RR := fun acc C => compPost (model prog w) A Er none Q acc C) (ds := q.1) hsc X hres (fun d r hf cenv s₃ P' Q₁ Q₂ Er' hN X' h1 h2 => wpAny_tests_nil ?_) I (fun D C h tk m E hm hC => ⟨m, hm, fun h' hs => hQ _ (by rw [hq, Out.ok_bind, hres]; rfl) _ _ (E.sameBut hm hC hs)⟩) hcl
    rw [if_pos rfl]
    obtain ⟨y, hy, e⟩ := Out.bind_ok hf
    cases e
    refine Se (hN ▸ oe) X' (by rw [hy]; simp) (fun r hr v s' E => h2 r (by rw [hy] at hr; cases hr; rfl) v s' E) fun c hc => by rw [hy] at hc; cases hc
  · cases ok

theorem sim_compif {elt c : E} {x : String} {it : It} (Si : SimIt prog w fns k C XP it) (Se : SimE prog w fns k C XP elt) (Sc : SimT prog w fns k C XP c) : SimE prog w fns k C XP (.compif elt x it c) := by
  intro ex A env σ P s Q Er ok X nb hQ hE
  replace ok := i_compif ok
  rcases ok with ⟨_, _, _, _, _, _, _, rfl, ok⟩ | ok
  · simp only [Bool.and_eq_true, beq_iff_eq] at ok
    obtain ⟨⟨⟨⟨rfl, hsc⟩, oi⟩, oc⟩, oe⟩ := ok
    simp only [ev] at nb hQ hE
    obtain ⟨n1, n2⟩ := bind_ne_bad nb
    refine comp_wrap hsc X (fset oi env) fun cl hcl => Si oi X n1 (fun q hq i s₂ I => ?_) fun c hc => hE c (by rw [hc]; rfl)
    obtain ⟨res, hres⟩ := calm_ne_bad (bind_ne_bad (n2 q hq)).1
    refine comp_coreG (RR := fun acc C => compPost (model prog w) A Er none Q acc C) (ds := q.1) hsc X hres (fun d r hf cenv s₃ P' Q₁ Q₂ Er' hN X' h1 h2 => wpAny_tests_one ?_) I (fun D C h tk m E hm hC => ⟨m, hm, fun h' hs => hQ _ (by rw [hq, Out.ok_bind, hres]; rfl) _ _ (E.sameBut hm hC hs)⟩) hcl
    obtain ⟨t, ht, hf⟩ := Out.bind_ok hf
    obtain ⟨b, hb, hf⟩ := Out.bind_ok hf
    refine Sc (hN ▸ oc) X' (by rw [ht, Out.ok_bind, hb]; simp) (fun b' hb' s₄ k₄ => ?_) fun c hc => by rw [ht] at hc; cases hc
    rw [ht, Out.ok_bind, hb] at hb'
    cases hb'
    cases b with
    | false => cases hf; simpa using h1 rfl s₄ k₄
    | true =>
      rw [if_pos rfl] at hf ⊢
      obtain ⟨y, hy, e⟩ := Out.bind_ok hf
      cases e
      exact Se (hN ▸ oe) (X'.k k₄.k) (by rw [hy]; simp) (fun r hr v s' E => h2 r (by rw [hy] at hr; cases hr; rfl) v s' (E.after k₄)) fun c hc => by rw [hy] at hc; cases hc
  · cases ok
end
end Mine

namespace Mine
open PySem PyProof.Rows
set_option linter.unusedSectionVars false
variable [SF : Soft]

theorem preSum_take (ns : List Int) : ∀ k, k ≤ ns.length → preSum (fun i => ns[i]?.getD 0) k = (ns.take k).sum
  | 0, _ => by simp [preSum]
  | k + 1, h => by
    rw [preSum, preSum_take ns k (by lia), List.take_add_one, List.sum_append]
    have : ns[k]? = some ns[k] := List.getElem?_eq_getElem (by lia)
    simp [this]
theorem preSum_all (ns : List Int) : preSum (fun i => ns[i]?.getD 0) ns.length = ns.sum := by
  rw [preSum_take ns _ (Nat.le_refl _), List.take_length]

theorem argBest_spec (val : Nat → Int) : ∀ k, argBest (fun i j => decide (val i > val j)) k ≤ k ∧ ∀ j, j ≤ k → val j ≤ val (argBest (fun i j => decide (val i > val j)) k)
  | 0 => ⟨Nat.le_refl _, fun j hj => by have : j = 0 := by lia
                                        subst this; exact Int.le_refl _⟩
  | k + 1 => by
    obtain ⟨h1, h2⟩ := argBest_spec val k
    unfold argBest
    by_cases hc : val (k + 1) > val (argBest (fun i j => decide (val i > val j)) k)
    · rw [if_pos (by simpa using hc)]
      refine ⟨Nat.le_refl _, fun j hj => ?_⟩
      by_cases e : j = k + 1
      · subst e; exact Int.le_refl _
      · have := h2 j (by lia); lia
    · rw [if_neg (by simpa using hc)]
      refine ⟨by lia, fun j hj => ?_⟩
      by_cases e : j = k + 1
      · subst e; lia
      · exact h2 j (by lia)
theorem argBest_maxL {ns : List Int} {m : Int} (h : maxL ns = some m) : ns[argBest (fun i j => decide (ns[i]?.getD 0 > ns[j]?.getD 0)) (ns.length - 1)]?.getD 0 = m := by
  obtain ⟨h1, h2⟩ := argBest_spec (fun i => ns[i]?.getD 0) (ns.length - 1)
  obtain ⟨hm1, hm2⟩ := maxL_spec h
  have hn : 0 < ns.length := List.length_pos_of_mem hm1
  generalize argBest (fun i j => decide (ns[i]?.getD 0 > ns[j]?.getD 0)) (ns.length - 1) = b at *
  have hb : ns[b]? = some ns[b] := List.getElem?_eq_getElem (by lia)
  rw [hb]
  dsimp only [Option.getD_some]
  have le1 := hm2 ns[b] (List.getElem_mem _)
  obtain ⟨j, hj, e⟩ := List.getElem_of_mem hm1
  have le2 := h2 j (by lia)
  rw [hb, List.getElem?_eq_getElem hj, e] at le2
  simp only [Option.getD_some] at le2
  lia

section
variable {prog : Program} {w : World} {fns : Fns} {k : Nat} {C : Calls} {XP : String → Shared → Value → Shared → Prop}
variable {va : Value} {as : List Addr} {A : Around} {P : Addr → Prop} {s : Shared} {Q : Value → Shared → Prop} {Er : Value → Shared → Prop}

theorem ints_at {vs : List Value} {ns : List Int} (h : IntsAre vs ns) : ∀ {i : Nat} {v : Value}, vs[i]? = some v → ∃ t, v = .int (ns[i]?.getD 0) t := by
  induction h with
  | nil => intro i v h; simp at h
  | cons n t _ ih =>
    intro i v h
    cases i with
    | zero => simp at h; exact ⟨t, by simp [← h]⟩
    | succ i => simpa using ih (by simpa using h)

theorem walk_ints {xs : List PyData} {ns : List Int} {G : Value → Shared → Prop} (hh : A.handled = none) (ra : R s.heap va (.list xs) as) (hi : intsOf xs = some ns)
    (hG : ∀ I fp wr Pw St s₂, Walks prog w A I fp wr ns.length Pw St → St 0 s₂.heap → (∀ b ∈ fp, b < s₂.heap.objs.size) → (∀ i v, Pw i v → ∃ t, v = .int (ns[i]?.getD 0) t) → (∀ b ∈ wr, s.heap.get? b = none ∧ ∀ o, s₂.heap.get? b = some o → ¬ Stay o) → Kp s s₂ → G (.ref I) s₂) :
    wpAny (model prog w) A (pyIter va) G Er s := by
  obtain ⟨a, vs, n, cs, rfl, ea, ra', rfl⟩ := ra.isList
  obtain ⟨hI, rfl, rfl⟩ := ra'.ints hi
  have e : vs.toArray.size = ns.length := by rw [List.size_toArray, ra'.length, List.length_map]
  have W := Walks.list (prog := prog) (w := w) (A := A) hh s.heap.objs.size a (not_new ea) vs.toArray
  rw [e] at W
  refine wpAny_pyIter_list (isL ea) (hG _ _ _ _ _ _ W ⟨⟨_, Heap.get?_push_size _ rfl, rfl, rfl⟩, (isL ea).push _⟩ ?_ ?_ ?_ (.push s _ _))
  · intro b hb
    rw [show _ = s.heap.objs.size + 1 from Heap.size_push ..]
    rcases List.mem_cons.mp hb with rfl | hb
    · exact Nat.lt_succ_self _
    · rw [List.mem_singleton.mp hb]; exact Nat.lt_succ_of_lt (Heap.lt_size ea)
  · intro i v hv
    exact ints_at hI (by simpa using hv)
  · intro b hb
    rw [List.mem_singleton.mp hb]
    refine ⟨new_none _, fun o e => ?_⟩
    rw [show _ = some _ from Heap.get?_push_size _ rfl] at e
    cases e
    exact Stay.not_cls (by simp) (by simp)

theorem Kp.after {s s₂ : Shared} {h' : Heap} {tk : Nat} {wr : List Addr} (kp : Kp s s₂) (hwr : ∀ b ∈ wr, s.heap.get? b = Option.none ∧ ∀ o, s₂.heap.get? b = some o → ¬ Stay o) (hk : ∀ b o, b ∉ wr → s₂.heap.get? b = some o → h'.get? b = some o) : Kp s { s₂ with heap := h', toks := tk } := by
  obtain ⟨h, t, rfl, k⟩ := kp
  exact ⟨h', tk, rfl, K.step k (KG.ofW hk fun b hb => (hwr b hb).2) fun b o e hb => by rw [(hwr b hb).1] at e; cases e⟩

theorem sum_step {xs : List PyData} {ns : List Int} (hh : A.handled = none) (ra : R s.heap va (.list xs) as) (hi : intsOf xs = some ns) (hQ : ∀ v s', EP prog w P s (sI ns.sum) v s' → Q v s') : wpAny (model prog w) A (call (.builtin "sum") [va]) Q Er s := by
  refine call_sum_walkG (walk_ints (A := A.in1) hh ra hi fun I fp wr Pw St s₂ W hst hfp hval hwr kp => ⟨I, fp, wr, _, Pw, St, _, rfl, W, hst, hfp, hval, fun h' tk t' hk => ?_⟩)
  rw [preSum_all]
  exact hQ _ _ (.int (kp.after hwr hk))
theorem max_step {xs : List PyData} {ns : List Int} {m : Int} (hh : A.handled = none) (ra : R s.heap va (.list xs) as) (hi : intsOf xs = some ns) (hm : maxL ns = some m) (hQ : ∀ v s', EP prog w P s (sI m) v s' → Q v s') : wpAny (model prog w) A (call (.builtin "max") [va]) Q Er s := by
  refine call_max_walk (walk_ints (A := A.in1) hh ra hi fun I fp wr Pw St s₂ W hst hfp hval hwr kp => ⟨I, fp, wr, _, Pw, St, _, rfl, W, hst, hfp, List.length_pos_of_mem (maxL_spec hm).1, CmpOf.ints_gt _ hval, fun v h' tk hv hk => ?_⟩)
  obtain ⟨t, rfl⟩ := hval _ _ hv
  rw [argBest_maxL hm]
  exact hQ _ _ (.int (kp.after hwr hk))

theorem isi_step {x : PyData} {t : String} {b : Bool} (he : isiV (.d x) t = .ok b) (ra : R s.heap va x as) (hQ : ∀ s', Kp s s' → Q (.bool b) s') : wpAny (model prog w) A (call (.builtin "isinstance") [va, .type t]) Q Er s := by
  have q0 : ∀ c, b = c → Q (.bool c) s := fun c e => e ▸ hQ s (.refl s)
  have q1 : ∀ c, b = c → Q (.bool c) { s with toks := s.toks + 1 } := fun c e => e ▸ hQ _ (.toks s _)
  unfold isiV at he
  dsimp only at he
  split at he
  · subst t
    cases ra with
    | none => cases he; exact IsiPair.NoneType_int (q1 _ rfl)
    | bool c => cases he; exact IsiPair.bool_int (q0 _ rfl)
    | int i u => cases he; exact IsiPair.int_int (q0 _ rfl)
    | str y u => cases he; exact IsiPair.str_int (q1 _ rfl)
    | list e r => cases he; exact IsiPair.list_int e rfl (q1 _ rfl)
    | tuple e r => cases he; exact IsiPair.tuple_int e rfl (q1 _ rfl)
  split at he
  · subst t
    cases ra with
    | none => cases he; exact IsiPair.NoneType_bool (q1 _ rfl)
    | bool c => cases he; exact IsiPair.bool_bool (q0 _ rfl)
    | int i u => cases he; exact IsiPair.int_bool (q1 _ rfl)
    | str y u => cases he; exact IsiPair.str_bool (q1 _ rfl)
    | list e r => cases he; exact IsiPair.list_bool e rfl (q1 _ rfl)
    | tuple e r => cases he; exact IsiPair.tuple_bool e rfl (q1 _ rfl)
  split at he
  · subst t
    cases ra with
    | none => cases he; exact IsiPair.NoneType_list (q1 _ rfl)
    | bool c => cases he; exact IsiPair.bool_list (q1 _ rfl)
    | int i u => cases he; exact IsiPair.int_list (q1 _ rfl)
    | str y u => cases he; exact IsiPair.str_list (q1 _ rfl)
    | list e r => cases he; exact IsiPair.list_list e rfl (q0 _ rfl)
    | tuple e r => cases he; exact IsiPair.tuple_list e rfl (q1 _ rfl)
  split at he
  · subst t
    cases ra with
    | none => cases he; exact IsiPair.NoneType_tuple (q1 _ rfl)
    | bool c => cases he; exact IsiPair.bool_tuple (q1 _ rfl)
    | int i u => cases he; exact IsiPair.int_tuple (q1 _ rfl)
    | str y u => cases he; exact IsiPair.str_tuple (q1 _ rfl)
    | list e r => cases he; exact IsiPair.list_tuple e rfl (q1 _ rfl)
    | tuple e r => cases he; exact IsiPair.tuple_tuple e rfl (q0 _ rfl)
  split at he
  · subst t
    cases ra with
    | none => cases he; exact IsiPair.NoneType_str (q1 _ rfl)
    | bool c => cases he; exact IsiPair.bool_str (q1 _ rfl)
    | int i u => cases he; exact IsiPair.int_str (q1 _ rfl)
    | str y u => cases he; exact IsiPair.str_str (q0 _ rfl)
    | list e r => cases he; exact IsiPair.list_str e rfl (q1 _ rfl)
    | tuple e r => cases he; exact IsiPair.tuple_str e rfl (q1 _ rfl)
  · cases he


end
end Mine

namespace Mine
open PySem PyProof.Rows

noncomputable def gallop' : Bool → Keyed → Array Keyed → Nat → Nat → Nat → StateT SortSt Sem (Option Nat) := sortPriv% PySem.Builtin.gallop

section
variable {M : Model} {A : Around} {E : Value → Shared → Prop} {s : Shared} {rk : Keyed → Nat} {ok : Keyed → Prop} {κ : SortKind}

def rkA (rk : Keyed → Nat) (arr : Array Keyed) (i : Nat) : Nat := match arr[i]? with
  | some p => rk p
  | none => 0
/-- the comparison answers by rank -/
def LtOk (M : Model) (A : Around) (E : Value → Shared → Prop) (s : Shared) (rk : Keyed → Nat) (ok : Keyed → Prop) (κ : SortKind) : Prop :=
  ∀ {x y : Keyed} {st : SortSt} {Q : Option Bool → SortSt → Prop}, ok x → ok y → kindOf st = κ → Q (some (decide (rk x < rk y))) st → wpS M A E s (lt' x y) Q st

theorem wpS_elem {arr : Array Keyed} {i : Nat} {st : SortSt} {Q : Keyed → SortSt → Prop} (hi : i < arr.size) (h : Q arr[i] st) : wpS M A E s (elem' arr i) Q st := by
  rw [elem'_eq, Array.getElem?_eq_getElem hi]
  exact wpS_pure h

theorem rkA_get {arr : Array Keyed} {i : Nat} (hi : i < arr.size) : rkA rk arr i = rk arr[i] := by unfold rkA; rw [Array.getElem?_eq_getElem hi]
theorem wpS_bey (hlt : LtOk M A E s rk ok κ) {left : Bool} {key : Keyed} {arr : Array Keyed} {i : Nat} {st : SortSt} {Q : Option Bool → SortSt → Prop} (hi : i < arr.size) (hok : ∀ p ∈ arr, ok p) (hkey : ok key) (hk : kindOf st = κ)
    (h : Q (some (if left then decide (rkA rk arr i < rk key) else !decide (rk key < rkA rk arr i))) st) : wpS M A E s (do let x ← elem' arr i; if left = true then lt' x key else do let r ← lt' key x; pure (r.map fun b => !b)) Q st := by
  refine wpS_bind (wpS_elem hi ?_)
  rw [rkA_get hi] at h
  have ho := hok arr[i] (Array.getElem_mem hi)
  cases left with
  | true => rw [if_pos rfl] at h ⊢; exact hlt ho hkey hk h
  | false =>
    rw [if_neg (by decide)] at h ⊢
    exact wpS_bind (hlt hkey ho hk (wpS_pure h))

theorem wpS_gallop (hlt : LtOk M A E s rk ok κ) {left : Bool} {key : Keyed} {arr : Array Keyed} {base n hint : Nat} {st : SortSt} {Q : Option Nat → SortSt → Prop} (hn : base + n ≤ arr.size) (hh : hint < n) (hok : ∀ p ∈ arr, ok p) (hkey : ok key) (hk : kindOf st = κ)
    (bey : Nat → Bool) (hb : ∀ i, bey i = if left then decide (rkA rk arr (base + i) < rk key) else !decide (rk key < rkA rk arr (base + i))) (hm : ∀ i j, i ≤ j → j < n → bey j = true → bey i = true)
    (h : ∀ k, k ≤ n → (∀ i, i < k → bey i = true) → (∀ i, k ≤ i → i < n → bey i = false) → Q (some k) st) : wpS M A E s (gallop' left key arr base n hint) Q st := by
  unfold gallop'
  have look : ∀ {i : Nat} {st : SortSt} {Q : Option Bool → SortSt → Prop}, i < n → kindOf st = κ → Q (some (bey i)) st → wpS M A E s (do let x ← elem' arr (base + i); if left = true then lt' x key else do let r ← lt' key x; pure (r.map fun b => !b)) Q st := fun {i st Q} hi hk h => wpS_bey hlt (by lia) hok hkey hk (by rw [← hb]; exact h)
  have hm' : ∀ i j, i ≤ j → j < n → bey i = false → bey j = false := fun i j h1 h2 h3 => by
    cases q : bey j with
    | false => rfl
    | true => rw [hm i j h1 h2 q] at h3; cases h3
  -- the search between two bounds
  have fin : ∀ (lo hi : Nat) {R : Option (Option Nat) × Nat × Nat → SortSt → Prop} {f : Nat → Option (Option Nat) × Nat × Nat → StateT SortSt Sem (ForInStep (Option (Option Nat) × Nat × Nat))}, lo ≤ hi → hi ≤ n → (∀ i, i < lo → bey i = true) → (∀ i, hi ≤ i → i < n → bey i = false) →
      (∀ x lo hi {Q : ForInStep (Option (Option Nat) × Nat × Nat) → SortSt → Prop} , lo < hi → hi ≤ n → Q (.yield (none, if bey (lo + (hi - lo) / 2) then lo + (hi - lo) / 2 + 1 else lo, if bey (lo + (hi - lo) / 2) then hi else lo + (hi - lo) / 2)) st → wpS M A E s (f x (none, lo, hi)) Q st) →
      (∀ x lo {Q : ForInStep (Option (Option Nat) × Nat × Nat) → SortSt → Prop}, Q (.done (none, lo, lo)) st → wpS M A E s (f x (none, lo, lo)) Q st) →
      (∀ k, k ≤ n → (∀ i, i < k → bey i = true) → (∀ i, k ≤ i → i < n → bey i = false) → R (none, k, k) st) → wpS M A E s (forIn [0:n] (none, lo, hi) f) R st := by
    intro lo hi R f h1 h2 h3 h4 hs hd hR
    refine wpS_forRange (I := fun x c st' => st' = st ∧ ∃ lo hi, c = (none, lo, hi) ∧ lo ≤ hi ∧ hi ≤ n ∧ hi - lo ≤ n - x ∧ (∀ i, i < lo → bey i = true) ∧ (∀ i, hi ≤ i → i < n → bey i = false)) ?_ ?_ ⟨rfl, lo, hi, rfl, h1, h2, by lia, h3, h4⟩
    · rintro x c st' _ hx ⟨rfl, lo, hi, rfl, g1, g2, g3, g4, g5⟩
      by_cases e : lo = hi
      · subst e
        exact hd x lo (hR lo g2 g4 g5)
      · refine hs x lo hi (by lia) g2 ⟨rfl, _, _, rfl, ?_⟩
        cases q : bey (lo + (hi - lo) / 2) with
        | true =>
          simp only [if_true]
          exact ⟨by lia, g2, by lia, fun i hi' => hm i _ (by lia) (by lia) q, g5⟩
        | false =>
          simp only [Bool.false_eq_true, if_false]
          exact ⟨by lia, by lia, by lia, g4, fun i h1 h2 => hm' _ i h1 h2 q⟩
    · rintro c st' ⟨rfl, lo, hi, rfl, g1, g2, g3, g4, g5⟩
      have : lo = hi := by lia
      subst this
      exact hR lo g2 g4 g5
  refine wpS_bind (look hh hk ?_)
  dsimp only
  cases hr : bey hint with
  | true =>
    rw [if_pos rfl]
    refine wpS_bind (wpS_mono (wpS_forRange (I := fun x c st' => st' = st ∧ ∃ la of, c = (none, la, of) ∧ la < of ∧ hint + la < n ∧ bey (hint + la) = true ∧ x + 1 ≤ of)
      (Q := fun c st' => st' = st ∧ ∃ la of, c = (none, la, of) ∧ la < of ∧ hint + la < n ∧ bey (hint + la) = true ∧ (n - hint ≤ of ∨ bey (hint + of) = false)) ?_ ?_ ⟨rfl, 0, 1, rfl, by lia, by lia, hr, by lia⟩) ?_)
    · rintro x c st' _ hx ⟨rfl, la, of, rfl, g1, g2, g3, g4⟩
      dsimp only
      by_cases e : of ≥ n - hint
      · rw [if_pos e]; exact wpS_pure ⟨rfl, la, of, rfl, g1, g2, g3, .inl e⟩
      · rw [if_neg e]
        refine wpS_bind (look (by lia) hk ?_)
        dsimp only
        cases q : bey (hint + of) with
        | false => exact wpS_pure ⟨rfl, la, of, rfl, g1, g2, g3, .inr q⟩
        | true => exact wpS_pure ⟨rfl, of, 2 * of + 1, rfl, by lia, by lia, q, by lia⟩
    · rintro c st' ⟨rfl, la, of, rfl, g1, g2, g3, g4⟩
      exact ⟨rfl, la, of, rfl, g1, g2, g3, .inl (by lia)⟩
    · rintro c st' ⟨rfl, la, of, rfl, g1, g2, g3, g4⟩
      dsimp only
      refine wpS_bind (fin _ _ (by lia) (by lia) (fun i hi => hm i _ (by lia) g2 g3) (fun i h1 h2 => ?_) (fun x lo hi Q h1 h2 hQ => ?_) (fun x lo Q hQ => ?_) fun k h1 h2 h3 => wpS_pure (h k h1 h2 h3))
      · rcases g4 with g4 | g4
        · lia
        · exact hm' _ i (by lia) h2 g4
      · dsimp only
        rw [if_neg (by lia)]
        refine wpS_bind (look (by lia) hk ?_)
        dsimp only
        cases q : bey (lo + (hi - lo) / 2) with
        | true => rw [q] at hQ; exact wpS_pure hQ
        | false => rw [q] at hQ; exact wpS_pure hQ
      · dsimp only
        rw [if_pos (Nat.le_refl _)]
        exact wpS_pure hQ
  | false =>
    rw [if_neg (by decide)]
    refine wpS_bind (wpS_mono (wpS_forRange (I := fun x c st' => st' = st ∧ ∃ la of, c = (none, la, of) ∧ la < of ∧ la ≤ hint ∧ bey (hint - la) = false ∧ x + 1 ≤ of)
      (Q := fun c st' => st' = st ∧ ∃ la of, c = (none, la, of) ∧ la < of ∧ la ≤ hint ∧ bey (hint - la) = false ∧ (hint + 1 ≤ of ∨ (of ≤ hint ∧ bey (hint - of) = true))) ?_ ?_ ⟨rfl, 0, 1, rfl, by lia, by lia, hr, by lia⟩) ?_)
    · rintro x c st' _ hx ⟨rfl, la, of, rfl, g1, g2, g3, g4⟩
      dsimp only
      by_cases e : of ≥ hint + 1
      · rw [if_pos e]; exact wpS_pure ⟨rfl, la, of, rfl, g1, g2, g3, .inl e⟩
      · rw [if_neg e]
        refine wpS_bind (look (by lia) hk ?_)
        dsimp only
        cases q : bey (hint - of) with
        | true => exact wpS_pure ⟨rfl, la, of, rfl, g1, g2, g3, .inr ⟨by lia, q⟩⟩
        | false => exact wpS_pure ⟨rfl, of, 2 * of + 1, rfl, by lia, by lia, q, by lia⟩
    · rintro c st' ⟨rfl, la, of, rfl, g1, g2, g3, g4⟩
      exact ⟨rfl, la, of, rfl, g1, g2, g3, .inl (by lia)⟩
    · rintro c st' ⟨rfl, la, of, rfl, g1, g2, g3, g4⟩
      dsimp only
      refine wpS_bind (fin _ _ ?_ (by lia) (fun i hi => ?_) (fun i h1 h2 => hm' _ i h1 h2 g3) (fun x lo hi Q h1 h2 hQ => ?_) (fun x lo Q hQ => ?_) fun k h1 h2 h3 => wpS_pure (h k h1 h2 h3))
      · rcases g4 with g4 | ⟨g4, g5⟩
        · lia
        · lia
      · rcases g4 with g4 | ⟨g4, g5⟩
        · lia
        · exact hm i (hint - of) (by lia) (by lia) g5
      · dsimp only
        rw [if_neg (by lia)]
        refine wpS_bind (look (by lia) hk ?_)
        dsimp only
        cases q : bey (lo + (hi - lo) / 2) with
        | true => rw [q] at hQ; exact wpS_pure hQ
        | false => rw [q] at hQ; exact wpS_pure hQ
      · dsimp only
        rw [if_pos (Nat.le_refl _)]
        exact wpS_pure hQ
end
end Mine

namespace Mine
open PySem PyProof.Rows

noncomputable def mergeLo' : Array Keyed → Array Keyed → StateT SortSt Sem (Array Keyed) := sortPriv% PySem.Builtin.mergeLo

def Up (rk : Keyed → Nat) (l : List Keyed) : Prop := l.Pairwise fun x y => rk x ≤ rk y
theorem Up.le {rk : Keyed → Nat} {l : List Keyed} (h : Up rk l) {i : Nat} (hi : i < l.length) : ∀ y ∈ l.drop i, rk l[i] ≤ rk y := by
  intro y hy
  rw [List.drop_eq_getElem_cons hi] at hy
  rcases List.mem_cons.mp hy with rfl | hy
  · exact Nat.le_refl _
  · have := List.pairwise_append.mp (show (l.take (i + 1) ++ l.drop (i + 1)).Pairwise _ by rw [List.take_append_drop]; exact h)
    exact this.2.2 l[i] (by rw [List.take_succ_eq_append_getElem hi]; exact List.mem_append_right _ (.head _)) y hy

/-- merged so far -/
structure MI (rk : Keyed → Nat) (a b o : List Keyed) (i j : Nat) : Prop where
  perm : o.Perm (a.take i ++ b.take j)
  sorted : Up rk o
  la : ∀ x ∈ o, ∀ y ∈ a.drop i, rk x ≤ rk y
  lb : ∀ x ∈ o, ∀ y ∈ b.drop j, rk x ≤ rk y
section
variable {rk : Keyed → Nat} {a b o : List Keyed} {i j : Nat}
theorem take_add' {α : Type} (l : List α) (i k : Nat) : l.take (i + k) = l.take i ++ (l.drop i).take k := List.take_add ..
theorem MI.swap (h : MI rk a b o i j) : MI rk b a o j i := ⟨h.perm.trans List.perm_append_comm, h.sorted, h.lb, h.la⟩
theorem MI.blockB (h : MI rk a b o i j) (ub : Up rk b) (k : Nat) (hlt : ∀ x ∈ (b.drop j).take k, ∀ y ∈ a.drop i, rk x ≤ rk y) : MI rk a b (o ++ (b.drop j).take k) i (j + k) where
  perm := by
    rw [take_add', ← List.append_assoc]
    exact h.perm.append_right _
  sorted := List.pairwise_append.mpr ⟨h.sorted, (ub.sublist (List.drop_sublist j b)).sublist (List.take_sublist ..), fun x hx y hy => h.lb x hx y (List.mem_of_mem_take hy)⟩
  la := fun x hx y hy => (List.mem_append.mp hx).elim (fun q => h.la x q y hy) fun q => hlt x q y hy
  lb := fun x hx y hy => (List.mem_append.mp hx).elim (fun q => h.lb x q y (by rw [← List.drop_drop] at hy; exact List.mem_of_mem_drop hy)) fun q => by
    have := List.pairwise_append.mp (show ((b.drop j).take k ++ (b.drop j).drop k).Pairwise _ by rw [List.take_append_drop]; exact ub.sublist (List.drop_sublist j b))
    exact this.2.2 x q y (by rw [List.drop_drop]; exact hy)
theorem MI.blockA (h : MI rk a b o i j) (ua : Up rk a) (k : Nat) (hlt : ∀ x ∈ (a.drop i).take k, ∀ y ∈ b.drop j, rk x ≤ rk y) : MI rk a b (o ++ (a.drop i).take k) (i + k) j := (h.swap.blockB ua k hlt).swap
theorem take_one {α : Type} {l : List α} {i : Nat} (hi : i < l.length) : (l.drop i).take 1 = [l[i]] := by rw [List.drop_eq_getElem_cons hi]; rfl
theorem MI.pushB (h : MI rk a b o i j) (ub : Up rk b) (hj : j < b.length) (hlt : ∀ y ∈ a.drop i, rk b[j] ≤ rk y) : MI rk a b (o ++ [b[j]]) i (j + 1) := by
  have := h.blockB ub 1 (by rw [take_one hj]; intro x hx; rw [List.mem_singleton.mp hx]; exact hlt)
  rwa [take_one hj] at this
theorem MI.pushA (h : MI rk a b o i j) (ua : Up rk a) (hi : i < a.length) (hlt : ∀ y ∈ b.drop j, rk a[i] ≤ rk y) : MI rk a b (o ++ [a[i]]) (i + 1) j := (h.swap.pushB ua hi hlt).swap
/-- all of it -/
def Mgd (rk : Keyed → Nat) (a b : List Keyed) (r : Array Keyed) : Prop := r.toList.Perm (a ++ b) ∧ Up rk r.toList
theorem MI.doneB (h : MI rk a b o i b.length) (ua : Up rk a) : (o ++ a.drop i).Perm (a ++ b) ∧ Up rk (o ++ a.drop i) := by
  have := h.blockA ua (a.length - i) (fun x _ y hy => by rw [List.drop_length] at hy; cases hy)
  rw [List.take_of_length_le (by rw [List.length_drop]; exact Nat.le_refl _)] at this
  refine ⟨this.perm.trans ?_, this.sorted⟩
  rw [List.take_length, List.take_of_length_le (show a.length ≤ i + (a.length - i) by lia)]
theorem MI.doneA (h : MI rk a b o a.length j) (ub : Up rk b) : (o ++ b.drop j).Perm (a ++ b) ∧ Up rk (o ++ b.drop j) := by
  obtain ⟨h1, h2⟩ := h.swap.doneB ub
  exact ⟨h1.trans List.perm_append_comm, h2⟩
/-- one is left of the first, above all -/
theorem MI.last (h : MI rk a b o i j) (ua : Up rk a) (ub : Up rk b) (hi : i + 1 = a.length) (ht : ∀ x ∈ b, ∀ y ∈ a.drop i, rk x ≤ rk y) : (o ++ b.drop j ++ a.drop i).Perm (a ++ b) ∧ Up rk (o ++ b.drop j ++ a.drop i) := by
  have := h.blockB ub (b.length - j) (fun x hx y hy => ht x (List.mem_of_mem_drop (List.mem_of_mem_take hx)) y hy)
  rw [List.take_of_length_le (show (b.drop j).length ≤ b.length - j by rw [List.length_drop]; exact Nat.le_refl _)] at this
  by_cases hj : j ≤ b.length
  · rw [show j + (b.length - j) = b.length by lia] at this
    exact this.doneB ua
  · have e : b.drop j = [] := List.drop_eq_nil_iff.mpr (by lia)
    have h' : MI rk a b o i b.length := ⟨h.perm.trans (by rw [List.take_of_length_le (show b.length ≤ j by lia), List.take_length]), h.sorted, h.la, fun x _ y hy => by rw [List.drop_length] at hy; cases hy⟩
    rw [e, List.append_nil]
    exact h'.doneB ua
end

section
variable {M : Model} {A : Around} {E : Value → Shared → Prop} {s : Shared} {rk : Keyed → Nat} {ok : Keyed → Prop} {κ : SortKind}
/-- the same but for how soon it gallops -/
def Sm (st st' : SortSt) : Prop := kindOf st' = kindOf st ∧ arrOf st' = arrOf st ∧ pendingOf st' = pendingOf st ∧ failedOf st' = failedOf st
theorem Sm.refl (st : SortSt) : Sm st st := ⟨rfl, rfl, rfl, rfl⟩
theorem Sm.trans {x y z : SortSt} (h : Sm x y) (g : Sm y z) : Sm x z := ⟨g.1.trans h.1, g.2.1.trans h.2.1, g.2.2.1.trans h.2.2.1, g.2.2.2.trans h.2.2.2⟩
theorem wpS_rule {x : String} {st : SortSt} {Q : Unit → SortSt → Prop} (h : Q () st) : wpS M A E s (liftM (rule x) : StateT SortSt Sem Unit) Q st := wpS_pure (M := M) (E := E) h
noncomputable def setMin' : Nat → StateT SortSt Sem Unit := sortPriv% PySem.Builtin.setMinGallop
theorem wpS_setMin {g : Nat} {st : SortSt} {Q : Unit → SortSt → Prop} (h : ∀ st', Sm st st' → Q () st') : wpS M A E s (setMin' g) Q st := wpS_modify (h _ ⟨rfl, rfl, rfl, rfl⟩)

theorem drop_mem {l : List Keyed} {i n : Nat} {P : Keyed → Prop} (h : ∀ q (hq : i + q < l.length), q < n → P l[i + q]) : ∀ x ∈ (l.drop i).take n, P x := by
  intro x hx
  obtain ⟨q, hq, rfl⟩ := List.getElem_of_mem hx
  rw [List.length_take, List.length_drop] at hq
  rw [List.getElem_take, List.getElem_drop]
  exact h q (by lia) (by lia)
theorem drop_mem' {l : List Keyed} {i : Nat} {P : Keyed → Prop} (h : ∀ q (hq : i + q < l.length), P l[i + q]) : ∀ x ∈ l.drop i, P x := by
  intro x hx
  obtain ⟨q, hq, rfl⟩ := List.getElem_of_mem hx
  rw [List.length_drop] at hq
  rw [List.getElem_drop]
  exact h q (by lia)
theorem rkA_toList {arr : Array Keyed} {i : Nat} (hi : i < arr.toList.length) : rkA rk arr i = rk arr.toList[i] := by rw [Array.length_toList] at hi; rw [rkA_get hi]; rfl
theorem ext_toList (a : Array Keyed) (i j : Nat) : (a.extract i j).toList = (a.toList.drop i).take (j - i) := by
  rw [Array.toList_extract, List.extract_eq_take_drop]
theorem ext_rest (a : Array Keyed) (i : Nat) : (a.extract i a.size).toList = a.toList.drop i := by
  rw [ext_toList, List.take_of_length_le (by rw [List.length_drop, Array.length_toList]; exact Nat.le_refl _)]

/-- where a key belongs in the rest of a rising row -/
theorem wpS_gallop_up (hlt : LtOk M A E s rk ok κ) {left : Bool} {key : Keyed} {arr : Array Keyed} {base n hint : Nat} {st : SortSt} {Q : Option Nat → SortSt → Prop} (hn : base + n ≤ arr.size) (hh : hint < n) (hok : ∀ p ∈ arr, ok p) (hkey : ok key) (hk : kindOf st = κ) (up : Up rk arr.toList)
    (h : ∀ k, k ≤ n → (∀ q (hq : base + q < arr.toList.length), q < k → if left then rk arr.toList[base + q] < rk key else rk arr.toList[base + q] ≤ rk key) → (∀ q (hq : base + q < arr.toList.length), k ≤ q → q < n → if left then rk key ≤ rk arr.toList[base + q] else rk key < rk arr.toList[base + q]) → Q (some k) st) :
    wpS M A E s (gallop' left key arr base n hint) Q st := by
  refine wpS_gallop hlt hn hh hok hkey hk (fun i => if left then decide (rkA rk arr (base + i) < rk key) else !decide (rk key < rkA rk arr (base + i))) (fun _ => rfl) (fun i j h1 h2 h3 => ?_) fun k h1 h2 h3 => h k h1 (fun q hq hqk => ?_) fun q hq hqk hqn => ?_
  · have hj : base + j < arr.toList.length := by rw [Array.length_toList]; lia
    have hi : base + i < arr.toList.length := by lia
    have hle : rkA rk arr (base + i) ≤ rkA rk arr (base + j) := by
      rw [rkA_toList hi, rkA_toList hj]
      exact up.le hi _ (by
        have e : arr.toList[base + j] = (arr.toList.drop (base + i))[j - i]'(by rw [List.length_drop]; lia) := by
          rw [List.getElem_drop]; congr 1; lia
        rw [e]; exact List.getElem_mem _)
    cases left with
    | true => simp at h3 ⊢; lia
    | false => simp at h3 ⊢; lia
  · have := h2 q hqk
    rw [rkA_toList hq] at this
    cases left with
    | true => simpa using this
    | false => simpa using this
  · have := h3 q hqk hqn
    rw [rkA_toList hq] at this
    cases left with
    | true => simpa using this
    | false => simpa using this
end
end Mine

namespace Mine
open PySem PyProof.Rows

noncomputable def elem' : Array Keyed → Nat → StateT SortSt Sem Keyed := sortPriv% PySem.Builtin.elem
noncomputable def lt' : Keyed → Keyed → StateT SortSt Sem (Option Bool) := sortPriv% PySem.Builtin.lt
abbrev G5 : Type := Option (Array Keyed) × Array Keyed × Nat × Nat × Nat
abbrev G6 : Type := Option (Array Keyed) × Array Keyed × Nat × Nat × Nat × Nat
abbrev G7 : Type := Option (Array Keyed) × Array Keyed × Nat × Nat × Nat × Nat × Nat
abbrev SM (α : Type) : Type := StateT SortSt Sem α

/-! the parts of the model's merge, each by a name -/
noncomputable def loD (a b out : Array Keyed) (ia ib : Nat) : Array Keyed := out ++ a.extract ia a.size ++ b.extract ib b.size
noncomputable def loL (a b out : Array Keyed) (ia ib : Nat) : Array Keyed := out ++ b.extract ib b.size ++ a.extract ia a.size
noncomputable def loWB2 (a b : Array Keyed) (mg : Nat) (out : Array Keyed) (ia ib bc : Nat) : SM (ForInStep G6) :=
  if (ib == b.size) = true then pure (.done (some (loD a b out ia ib), out, ia, ib, 0, bc)) else if bc ≥ mg then pure (.done (none, out, ia, ib, 0, bc)) else pure (.yield (none, out, ia, ib, 0, bc))
noncomputable def loWA2 (a b : Array Keyed) (mg : Nat) (out : Array Keyed) (ia ib ac : Nat) : SM (ForInStep G6) :=
  if (ia + 1 == a.size) = true then pure (.done (some (loL a b out ia ib), out, ia, ib, ac, 0)) else if ac ≥ mg then pure (.done (none, out, ia, ib, ac, 0)) else pure (.yield (none, out, ia, ib, ac, 0))
noncomputable def loW2 (a b : Array Keyed) (mg : Nat) (out : Array Keyed) (ia ib ac bc : Nat) (w : Bool) : SM (ForInStep G6) :=
  if w = true then elem' b ib >>= fun x => loWB2 a b mg (out.push x) ia (ib + 1) (bc + 1) else elem' a ia >>= fun x => loWA2 a b mg (out.push x) (ia + 1) ib (ac + 1)
noncomputable def loW1 (a b : Array Keyed) (mg : Nat) (out : Array Keyed) (ia ib ac bc : Nat) : Option Bool → SM (ForInStep G6)
  | some w => loW2 a b mg out ia ib ac bc w
  | _ => pure (.done (some (loD a b out ia ib), out, ia, ib, ac, bc))
noncomputable def loW (a b : Array Keyed) (mg : Nat) (c : G6) : SM (ForInStep G6) :=
  elem' b c.2.2.2.1 >>= fun p => elem' a c.2.2.1 >>= fun q => lt' p q >>= loW1 a b mg c.2.1 c.2.2.1 c.2.2.2.1 c.2.2.2.2.1 c.2.2.2.2.2
noncomputable def loT4' (a b : Array Keyed) (mg k l : Nat) (out : Array Keyed) (ia ib : Nat) : SM (ForInStep G7) :=
  if (ia + 1 == a.size) = true then pure (.done (some (loL a b out ia ib), out, ia, ib, mg, k, l))
  else if (decide (k < 7) && decide (l < 7)) = true then pure (.done (none, out, ia, ib, mg, k, l)) else pure (.yield (none, out, ia, ib, mg, k, l))
noncomputable def loT4 (a b : Array Keyed) (mg k l : Nat) (out : Array Keyed) (ia ib : Nat) : SM (ForInStep G7) := elem' a ia >>= fun x => loT4' a b mg k l (out.push x) (ia + 1) ib
noncomputable def loT3' (a b : Array Keyed) (mg k l : Nat) (out : Array Keyed) (ia ib : Nat) : SM (ForInStep G7) :=
  if (ib == b.size) = true then pure (.done (some (loD a b out ia ib), out, ia, ib, mg, k, l)) else loT4 a b mg k l out ia ib
noncomputable def loT3 (a b : Array Keyed) (mg k l : Nat) (out : Array Keyed) (ia ib : Nat) : SM (ForInStep G7) :=
  if l > 0 then loT3' a b mg k l (out ++ b.extract ib (ib + l)) ia (ib + l) else loT4 a b mg k l out ia ib
noncomputable def loT2g (a b : Array Keyed) (mg k bc : Nat) (out : Array Keyed) (ia ib : Nat) : Option Nat → SM (ForInStep G7)
  | some l => loT3 a b mg k l out ia ib
  | _ => pure (.done (some (loD a b out ia ib), out, ia, ib, mg, k, bc))
noncomputable def loT2' (a b : Array Keyed) (mg k bc : Nat) (out : Array Keyed) (ia ib : Nat) : SM (ForInStep G7) :=
  if (ib == b.size) = true then pure (.done (some (loD a b out ia ib), out, ia, ib, mg, k, bc)) else elem' a ia >>= fun y => gallop' true y b ib (b.size - ib) 0 >>= loT2g a b mg k bc out ia ib
noncomputable def loT2 (a b : Array Keyed) (mg k bc : Nat) (out : Array Keyed) (ia ib : Nat) : SM (ForInStep G7) := elem' b ib >>= fun x => loT2' a b mg k bc (out.push x) ia (ib + 1)
noncomputable def loT1' (a b : Array Keyed) (mg k bc : Nat) (out : Array Keyed) (ia ib : Nat) : SM (ForInStep G7) :=
  if (ia + 1 == a.size) = true then pure (.done (some (loL a b out ia ib), out, ia, ib, mg, k, bc))
  else if (ia == a.size) = true then pure (.done (some (loD a b out ia ib), out, ia, ib, mg, k, bc)) else loT2 a b mg k bc out ia ib
noncomputable def loT1g (a b : Array Keyed) (mg ac bc : Nat) (out : Array Keyed) (ia ib : Nat) : Option Nat → SM (ForInStep G7)
  | some k => if k > 0 then loT1' a b mg k bc (out ++ a.extract ia (ia + k)) (ia + k) ib else loT2 a b mg k bc out ia ib
  | _ => pure (.done (some (loD a b out ia ib), out, ia, ib, mg, ac, bc))
noncomputable def loT1 (a b : Array Keyed) (ac bc : Nat) (out : Array Keyed) (ia ib mg : Nat) : SM (ForInStep G7) :=
  setMin' mg >>= fun _ => elem' b ib >>= fun x => gallop' false x a ia (a.size - ia) 0 >>= loT1g a b mg ac bc out ia ib
noncomputable def loG (a b : Array Keyed) (c : G7) : SM (ForInStep G7) :=
  if c.2.2.2.2.1 > 1 then loT1 a b c.2.2.2.2.2.1 c.2.2.2.2.2.2 c.2.1 c.2.2.1 c.2.2.2.1 (c.2.2.2.2.1 - 1) else loT1 a b c.2.2.2.2.2.1 c.2.2.2.2.2.2 c.2.1 c.2.2.1 c.2.2.2.1 c.2.2.2.2.1
noncomputable def loB2 (c : G7) : Option (Array Keyed) → SM (ForInStep G5)
  | some r => pure (.done (some r, c.2.1, c.2.2.1, c.2.2.2.1, c.2.2.2.2.1))
  | none => setMin' (c.2.2.2.2.1 + 1) >>= fun _ => pure (.yield (none, c.2.1, c.2.2.1, c.2.2.2.1, c.2.2.2.2.1 + 1))
noncomputable def loB1 (a b : Array Keyed) (mg : Nat) (c : G6) : Option (Array Keyed) → SM (ForInStep G5)
  | some r => pure (.done (some r, c.2.1, c.2.2.1, c.2.2.2.1, mg))
  | none => (liftM (rule "list.sort.gallop") : SM Unit) >>= fun _ => forIn [:a.size + b.size] ((none, c.2.1, c.2.2.1, c.2.2.2.1, mg + 1, c.2.2.2.2.1, c.2.2.2.2.2) : G7) (fun _ c => loG a b c) >>= fun d => loB2 d d.1
noncomputable def loB (a b : Array Keyed) (c : G5) : SM (ForInStep G5) :=
  forIn [:a.size + b.size] ((none, c.2.1, c.2.2.1, c.2.2.2.1, 0, 0) : G6) (fun _ d => loW a b c.2.2.2.2 d) >>= fun d => loB1 a b c.2.2.2.2 d d.1
noncomputable def loE (c : Option (Array Keyed)) : SM (Array Keyed) := match c with
  | some r => pure r
  | none => liftM (unsupported "internal:list.sort.merge-bound" : Sem (Array Keyed))
noncomputable def minG : SortSt → Nat := sortPriv% PySem.Builtin.SortState.minGallop
noncomputable def loM (a b : Array Keyed) (x : Keyed) : SM (Array Keyed) :=
  if (1 == b.size) = true then pure (loD a b #[x] 0 1) else if (0 + 1 == a.size) = true then pure (loL a b #[x] 0 1) else (get : SM SortSt) >>= fun st => forIn [:a.size + b.size] ((none, #[x], 0, 1, minG st) : G5) (fun _ c => loB a b c) >>= fun c => loE c.1
noncomputable def loAll (a b : Array Keyed) : SM (Array Keyed) := (liftM (rule "list.sort.merge-lo") : SM Unit) >>= fun _ => elem' b 0 >>= loM a b
theorem mergeLo_eq (a b : Array Keyed) : mergeLo' a b = loAll a b := by kernel_rfl

section
variable {M : Model} {A : Around} {E : Value → Shared → Prop} {s : Shared} {rk : Keyed → Nat} {ok : Keyed → Prop} {κ : SortKind}
theorem wpS_ite {σ α : Type} {c : Prop} [Decidable c] {x y : StateT σ Sem α} {Q : α → σ → Prop} {st : σ} (h1 : c → wpS M A E s x Q st) (h2 : ¬ c → wpS M A E s y Q st) : wpS M A E s (if c then x else y) Q st := by
  by_cases h : c
  · rw [if_pos h]; exact h1 h
  · rw [if_neg h]; exact h2 h

/-- two rising rows -/
structure Two (rk : Keyed → Nat) (ok : Keyed → Prop) (a b : Array Keyed) : Prop where
  ha : 1 ≤ a.size
  hb : 1 ≤ b.size
  oa : ∀ p ∈ a, ok p
  ob : ∀ p ∈ b, ok p
  ua : Up rk a.toList
  ub : Up rk b.toList
  h0 : ∀ y ∈ a.toList, rk (b[0]'hb) ≤ rk y
  h1 : ∀ x ∈ b.toList, rk x ≤ rk (a[a.size - 1]'(Nat.sub_one_lt_of_lt ha))

/-- where the merge stands -/
structure LoS (rk : Keyed → Nat) (a b : Array Keyed) (st : SortSt) (n : Nat) (out : Array Keyed) (ia ib : Nat) (st' : SortSt) : Prop where
  sm : Sm st st'
  mi : MI rk a.toList b.toList out.toList ia ib
  ga : ia + 1 < a.size
  gb : ib < b.size
  gn : n ≤ ia + ib
def LoR (rk : Keyed → Nat) (a b : Array Keyed) (st : SortSt) (r : Array Keyed) (st' : SortSt) : Prop := Sm st st' ∧ Mgd rk a.toList b.toList r
def Lo6 (rk : Keyed → Nat) (a b : Array Keyed) (st : SortSt) (n : Nat) (c : G6) (st' : SortSt) : Prop := c.1 = none ∧ LoS rk a b st n c.2.1 c.2.2.1 c.2.2.2.1 st'
def Lo7 (rk : Keyed → Nat) (a b : Array Keyed) (st : SortSt) (n : Nat) (c : G7) (st' : SortSt) : Prop := c.1 = none ∧ LoS rk a b st n c.2.1 c.2.2.1 c.2.2.2.1 st'
/-- a turn's end -/
def En {α : Type} (I : Nat → Option (Array Keyed) × α → SortSt → Prop) (n : Nat) (R : Array Keyed → SortSt → Prop) (c : Option (Array Keyed) × α) (st' : SortSt) : Prop := (∃ r, c.1 = some r ∧ R r st') ∨ I n c st'
def Po {α : Type} (I : Nat → Option (Array Keyed) × α → SortSt → Prop) (n m : Nat) (R : Array Keyed → SortSt → Prop) (r : ForInStep (Option (Array Keyed) × α)) (st' : SortSt) : Prop := match r with
  | .done c => En I n R c st'
  | .yield c => I m c st'
theorem LoS.less {a b out : Array Keyed} {st st' : SortSt} {n m ia ib : Nat} (h : LoS rk a b st n out ia ib st') (hm : m ≤ n) : LoS rk a b st m out ia ib st' := ⟨h.sm, h.mi, h.ga, h.gb, Nat.le_trans hm h.gn⟩

section
variable {a b : Array Keyed} {st st' : SortSt} {out : Array Keyed} {ia ib n m x mg k l ac bc : Nat}
theorem lo_endB (T : Two rk ok a b) (sm : Sm st st') (mi : MI rk a.toList b.toList out.toList ia ib) (e : (ib == b.size) = true) : LoR rk a b st (loD a b out ia ib) st' := by
  have e : ib = b.toList.length := by rw [Array.length_toList]; exact beq_iff_eq.mp e
  subst e
  have := mi.doneB T.ua
  refine ⟨sm, ?_⟩
  unfold Mgd loD
  rw [Array.toList_append, Array.toList_append, ext_rest, ext_rest, List.drop_length, List.append_nil]
  exact this
theorem lo_endA (T : Two rk ok a b) (sm : Sm st st') (mi : MI rk a.toList b.toList out.toList ia ib) (e : (ia == a.size) = true) : LoR rk a b st (loD a b out ia ib) st' := by
  have e : ia = a.toList.length := by rw [Array.length_toList]; exact beq_iff_eq.mp e
  subst e
  have := mi.doneA T.ub
  refine ⟨sm, ?_⟩
  unfold Mgd loD
  rw [Array.toList_append, Array.toList_append, ext_rest, ext_rest, List.drop_length, List.append_nil]
  exact this
theorem lo_endL (T : Two rk ok a b) (sm : Sm st st') (mi : MI rk a.toList b.toList out.toList ia ib) (e : (ia + 1 == a.size) = true) : LoR rk a b st (loL a b out ia ib) st' := by
  have e : ia + 1 = a.toList.length := by rw [Array.length_toList]; exact beq_iff_eq.mp e
  have la : a.toList.length = a.size := Array.length_toList ..
  have := mi.last T.ua T.ub e (fun x hx y hy => by
    have e2 : a.toList.drop ia = [a[a.size - 1]'(Nat.sub_one_lt_of_lt T.ha)] := by
      rw [List.drop_eq_getElem_cons (by lia), List.drop_eq_nil_iff.mpr (by lia)]
      congr 1
      rw [Array.getElem_toList]; congr 1; lia
    rw [e2] at hy
    rw [List.mem_singleton.mp hy]
    exact T.h1 x hx)
  refine ⟨sm, ?_⟩
  unfold Mgd loL
  rw [Array.toList_append, Array.toList_append, ext_rest, ext_rest]
  exact this
theorem ne_of_beq {x y : Nat} (h : ¬ (x == y) = true) : x ≠ y := fun e => h (beq_iff_eq.mpr e)

theorem wpS_loWB2 (T : Two rk ok a b) (hn : x ≤ m) (sm : Sm st st') (mi : MI rk a.toList b.toList out.toList ia ib) (ga : ia + 1 < a.size) (gb : ib ≤ b.size) (gn : m ≤ ia + ib) : wpS M A E s (loWB2 a b mg out ia ib bc) (Po (Lo6 rk a b st) x m (LoR rk a b st)) st' :=
  wpS_ite (fun c => wpS_pure (.inl ⟨_, rfl, lo_endB T sm mi c⟩)) fun c => by
    have S : LoS rk a b st m out ia ib st' := ⟨sm, mi, ga, by have := ne_of_beq c; lia, gn⟩
    exact wpS_ite (fun _ => wpS_pure (.inr ⟨rfl, S.less hn⟩)) fun _ => wpS_pure ⟨rfl, S⟩
theorem wpS_loWA2 (T : Two rk ok a b) (hn : x ≤ m) (sm : Sm st st') (mi : MI rk a.toList b.toList out.toList ia ib) (ga : ia < a.size) (gb : ib < b.size) (gn : m ≤ ia + ib) : wpS M A E s (loWA2 a b mg out ia ib ac) (Po (Lo6 rk a b st) x m (LoR rk a b st)) st' :=
  wpS_ite (fun c => wpS_pure (.inl ⟨_, rfl, lo_endL T sm mi c⟩)) fun c => by
    have S : LoS rk a b st m out ia ib st' := ⟨sm, mi, by have := ne_of_beq c; lia, gb, gn⟩
    exact wpS_ite (fun _ => wpS_pure (.inr ⟨rfl, S.less hn⟩)) fun _ => wpS_pure ⟨rfl, S⟩
theorem wpS_loW (hlt : LtOk M A E s rk ok κ) (T : Two rk ok a b) (hk : kindOf st = κ) {c : G6} (hn : x ≤ n + 1) (S : Lo6 rk a b st n c st') : wpS M A E s (loW a b mg c) (Po (Lo6 rk a b st) x (n + 1) (LoR rk a b st)) st' := by
  obtain ⟨c0, out, ia, ib, ac, bc⟩ := c
  obtain ⟨c1, sm, mi, ga, gb, gn⟩ := S
  dsimp only at c1 mi ga gb gn
  have ga' : ia < a.size := Nat.lt_of_succ_lt ga
  refine wpS_bind (wpS_elem gb (wpS_bind (wpS_elem ga' (wpS_bind (hlt (T.ob _ (Array.getElem_mem _)) (T.oa _ (Array.getElem_mem _)) (sm.1.trans hk) ?_)))))
  show wpS M A E s (loW2 a b mg out ia ib ac bc (decide (rk b[ib] < rk a[ia]))) _ st'
  refine wpS_ite (fun w => wpS_bind (wpS_elem gb ?_)) fun w => wpS_bind (wpS_elem ga' ?_)
  · replace w := of_decide_eq_true w
    refine wpS_loWB2 T hn sm ?_ ga gb (by lia)
    rw [Array.toList_push]
    exact mi.pushB T.ub (by rw [Array.length_toList]; exact gb) (fun y hy => Nat.le_trans (Nat.le_of_lt w) (T.ua.le (by rw [Array.length_toList]; exact ga') y hy))
  · replace w : ¬ rk b[ib] < rk a[ia] := fun q => w (decide_eq_true q)
    refine wpS_loWA2 T hn sm ?_ ga gb (by lia)
    rw [Array.toList_push]
    exact mi.pushA T.ua (by rw [Array.length_toList]; exact ga') (fun y hy => Nat.le_trans (Nat.le_of_not_lt w) (T.ub.le (by rw [Array.length_toList]; exact gb) y hy))

theorem wpS_loT4 (T : Two rk ok a b) (hn : x ≤ n + 1) (S : LoS rk a b st n out ia ib st') (kA : ∀ y ∈ b.toList.drop ib, ∀ h : ia < a.size, rk a[ia] ≤ rk y) : wpS M A E s (loT4 a b mg k l out ia ib) (Po (Lo7 rk a b st) x (n + 1) (LoR rk a b st)) st' := by
  obtain ⟨sm, mi, ga, gb, gn⟩ := S
  have ga' : ia < a.size := Nat.lt_of_succ_lt ga
  refine wpS_bind (wpS_elem ga' ?_)
  have mi4 : MI rk a.toList b.toList (out.push a[ia]).toList (ia + 1) ib := by
    rw [Array.toList_push]
    exact mi.pushA T.ua (by rw [Array.length_toList]; exact ga') fun y hy => kA y hy ga'
  refine wpS_ite (fun c => wpS_pure (.inl ⟨_, rfl, lo_endL T sm mi4 c⟩)) fun c => ?_
  have S : LoS rk a b st (n + 1) (out.push a[ia]) (ia + 1) ib st' := ⟨sm, mi4, by have := ne_of_beq c; lia, gb, by lia⟩
  exact wpS_ite (fun _ => wpS_pure (.inr ⟨rfl, S.less hn⟩)) fun _ => wpS_pure ⟨rfl, S⟩
theorem wpS_loT2 (hlt : LtOk M A E s rk ok κ) (T : Two rk ok a b) (hk : kindOf st = κ) (hn : x ≤ n + 1) (S : LoS rk a b st n out ia ib st') (kB : ∀ y ∈ a.toList.drop ia, ∀ h : ib < b.size, rk b[ib] ≤ rk y) : wpS M A E s (loT2 a b mg k bc out ia ib) (Po (Lo7 rk a b st) x (n + 1) (LoR rk a b st)) st' := by
  obtain ⟨sm, mi, ga, gb, gn⟩ := S
  have ga' : ia < a.size := Nat.lt_of_succ_lt ga
  refine wpS_bind (wpS_elem gb ?_)
  have mi2 : MI rk a.toList b.toList (out.push b[ib]).toList ia (ib + 1) := by
    rw [Array.toList_push]
    exact mi.pushB T.ub (by rw [Array.length_toList]; exact gb) fun y hy => kB y hy gb
  generalize out.push b[ib] = out2 at mi2 ⊢
  refine wpS_ite (fun c => wpS_pure (.inl ⟨_, rfl, lo_endB T sm mi2 c⟩)) fun c => ?_
  have gb2 : ib + 1 < b.size := by have := ne_of_beq c; lia
  clear c mi
  refine wpS_bind (wpS_elem ga' (wpS_bind (wpS_gallop_up hlt (by lia) (by lia) T.ob (T.oa _ (Array.getElem_mem _)) (sm.1.trans hk) T.ub fun l l1 l2 l3 => ?_)))
  simp only [if_true] at l2 l3
  have kA : ∀ y ∈ b.toList.drop (ib + 1 + l), ∀ h : ia < a.size, rk a[ia] ≤ rk y := fun y hy _ => drop_mem' (P := fun y => rk a[ia] ≤ rk y) (fun q hq => by
    have lb : b.toList.length = b.size := Array.length_toList ..
    have := l3 (l + q) (by lia) (by lia) (by lia)
    simp only [← Nat.add_assoc] at this
    exact this) y hy
  show wpS M A E s (loT3 a b mg k l out2 ia (ib + 1)) _ st'
  refine wpS_ite (fun q0 => wpS_ite (fun c => wpS_pure (.inl ⟨_, rfl, lo_endB T sm ?_ c⟩)) fun c => wpS_loT4 T hn ⟨sm, ?_, ga, by have := ne_of_beq c; lia, by lia⟩ kA) fun q0 => wpS_loT4 T hn ⟨sm, mi2, ga, gb2, by lia⟩ ?_
  · rw [Array.toList_append, ext_toList, Nat.add_sub_cancel_left]
    exact mi2.blockB T.ub l (drop_mem fun q hq hqk y hy => Nat.le_trans (Nat.le_of_lt (l2 q hq hqk)) (T.ua.le (by rw [Array.length_toList]; exact ga') y hy))
  · rw [Array.toList_append, ext_toList, Nat.add_sub_cancel_left]
    exact mi2.blockB T.ub l (drop_mem fun q hq hqk y hy => Nat.le_trans (Nat.le_of_lt (l2 q hq hqk)) (T.ua.le (by rw [Array.length_toList]; exact ga') y hy))
  · have e0 : l = 0 := Nat.eq_zero_of_not_pos q0
    rw [e0, Nat.add_zero] at kA
    exact kA
theorem wpS_loT1 (hlt : LtOk M A E s rk ok κ) (T : Two rk ok a b) (hk : kindOf st = κ) (hn : x ≤ n + 1) (S : LoS rk a b st n out ia ib st') : wpS M A E s (loT1 a b ac bc out ia ib mg) (Po (Lo7 rk a b st) x (n + 1) (LoR rk a b st)) st' := by
  obtain ⟨sm, mi, ga, gb, gn⟩ := S
  refine wpS_bind (wpS_setMin fun st₄ sm4 => ?_)
  replace sm := sm.trans sm4
  refine wpS_bind (wpS_elem gb (wpS_bind (wpS_gallop_up hlt (by lia) (by lia) T.oa (T.ob _ (Array.getElem_mem _)) (sm.1.trans hk) T.ua fun k k1 k2 k3 => ?_)))
  simp only [Bool.false_eq_true, if_false] at k2 k3
  have kB : ∀ y ∈ a.toList.drop (ia + k), ∀ h : ib < b.size, rk b[ib] ≤ rk y := fun y hy _ => drop_mem' (P := fun y => rk b[ib] ≤ rk y) (fun q hq => by
    have la : a.toList.length = a.size := Array.length_toList ..
    have := k3 (k + q) (by lia) (by lia) (by lia)
    simp only [← Nat.add_assoc] at this
    exact Nat.le_of_lt this) y hy
  show wpS M A E s (if k > 0 then loT1' a b mg k bc (out ++ a.extract ia (ia + k)) (ia + k) ib else loT2 a b mg k bc out ia ib) _ st₄
  refine wpS_ite (fun k0 => ?_) fun k0 => wpS_loT2 hlt T hk hn ⟨sm, mi, ga, gb, gn⟩ ?_
  · have mi1 : MI rk a.toList b.toList (out ++ a.extract ia (ia + k)).toList (ia + k) ib := by
      rw [Array.toList_append, ext_toList, Nat.add_sub_cancel_left]
      exact mi.blockA T.ua k (drop_mem fun q hq hqk y hy => Nat.le_trans (k2 q hq hqk) (T.ub.le (by rw [Array.length_toList]; exact gb) y hy))
    exact wpS_ite (fun c => wpS_pure (.inl ⟨_, rfl, lo_endL T sm mi1 c⟩)) fun c => wpS_ite (fun c' => wpS_pure (.inl ⟨_, rfl, lo_endA T sm mi1 c'⟩)) fun c' => wpS_loT2 hlt T hk hn ⟨sm, mi1, by have := ne_of_beq c; have := ne_of_beq c'; lia, gb, by lia⟩ kB
  · have e0 : k = 0 := Nat.eq_zero_of_not_pos k0
    rw [e0, Nat.add_zero] at kB
    exact kB
theorem wpS_loG (hlt : LtOk M A E s rk ok κ) (T : Two rk ok a b) (hk : kindOf st = κ) (hn : x ≤ n + 1) {c : G7} (S : Lo7 rk a b st n c st') : wpS M A E s (loG a b c) (Po (Lo7 rk a b st) x (n + 1) (LoR rk a b st)) st' :=
  wpS_ite (fun _ => wpS_loT1 hlt T hk hn S.2) fun _ => wpS_loT1 hlt T hk hn S.2

/-- a loop of so many turns -/
theorem wpS_turns {α : Type} {I : Nat → Option (Array Keyed) × α → SortSt → Prop} {R : Array Keyed → SortSt → Prop} {t n z : Nat} {f : Option (Array Keyed) × α → SM (ForInStep (Option (Array Keyed) × α))} {c : Option (Array Keyed) × α} (h0 : I n c st') (hend : ∀ c st', ¬ I (n + t) c st')
    (hs : ∀ y c st', y < t → I (n + y) c st' → wpS M A E s (f c) (Po I z (n + y + 1) R) st') : wpS M A E s (forIn [:t] c fun _ c => f c) (En I z R) st' :=
  wpS_forRange (fun y c st' => I (n + y) c st') (fun y c st' _ hy hI => wpS_mono (hs y c st' hy hI) fun r st' h => by cases r <;> exact h) (fun c st' h => absurd (by rwa [Nat.max_eq_right (Nat.zero_le t)] at h) (hend c st')) h0

def Lo5 (rk : Keyed → Nat) (a b : Array Keyed) (st : SortSt) (n : Nat) (c : G5) (st' : SortSt) : Prop := c.1 = none ∧ LoS rk a b st n c.2.1 c.2.2.1 c.2.2.2.1 st'
theorem LoS.over (S : LoS rk a b st n out ia ib st') (h : a.size + b.size ≤ n + 1) : False := by have := S.ga; have := S.gb; have := S.gn; lia
theorem wpS_loB (hlt : LtOk M A E s rk ok κ) (T : Two rk ok a b) (hk : kindOf st = κ) (z : Nat) {c : G5} (S : Lo5 rk a b st (n + 1) c st') : wpS M A E s (loB a b c) (Po (Lo5 rk a b st) z (n + 2) (LoR rk a b st)) st' := by
  refine wpS_bind (wpS_mono (wpS_turns (I := Lo6 rk a b st) (n := n + 1) (z := n + 2) (R := LoR rk a b st) ⟨rfl, S.2⟩ (fun c st' h => h.2.over (by lia)) fun y c st' hy h => wpS_loW hlt T hk (by lia) h) fun d st₁ h => ?_)
  rcases h with ⟨r, e, h⟩ | ⟨e, S⟩
  · rw [e]; exact wpS_pure (.inl ⟨r, rfl, h⟩)
  · rw [e]
    refine wpS_bind (wpS_rule (wpS_bind (wpS_mono (wpS_turns (I := Lo7 rk a b st) (n := n + 2) (z := n + 2) (R := LoR rk a b st) ⟨rfl, S⟩ (fun c st' h => h.2.over (by lia)) fun y c st' hy h => wpS_loG hlt T hk (by lia) h) fun d st₁ h => ?_)))
    rcases h with ⟨r, e, h⟩ | ⟨e, S⟩
    · rw [e]; exact wpS_pure (.inl ⟨r, rfl, h⟩)
    · rw [e]
      exact wpS_bind (wpS_setMin fun st₄ sm4 => wpS_pure ⟨rfl, S.sm.trans sm4, S.mi, S.ga, S.gb, S.gn⟩)
end

theorem wpS_mergeLo (hlt : LtOk M A E s rk ok κ) {a b : Array Keyed} {st : SortSt} {Q : Array Keyed → SortSt → Prop} (ha : 1 ≤ a.size) (hb : 1 ≤ b.size) (oa : ∀ p ∈ a, ok p) (ob : ∀ p ∈ b, ok p) (hk : kindOf st = κ) (ua : Up rk a.toList) (ub : Up rk b.toList)
    (h0 : ∀ y ∈ a.toList, rk (b[0]'hb) ≤ rk y) (h1 : ∀ x ∈ b.toList, rk x ≤ rk (a[a.size - 1]'(by lia))) (h : ∀ r st', Sm st st' → Mgd rk a.toList b.toList r → Q r st') : wpS M A E s (mergeLo' a b) Q st := by
  have T : Two rk ok a b := ⟨ha, hb, oa, ob, ua, ub, h0, h1⟩
  rw [mergeLo_eq]
  refine wpS_bind (wpS_rule (wpS_bind (wpS_elem hb ?_)))
  have m0 : MI rk a.toList b.toList (#[b[0]'hb] : Array Keyed).toList 0 1 := by
    have n0 : MI rk a.toList b.toList [] 0 0 := ⟨.nil, .nil, fun _ h => (nomatch h), fun _ h => (nomatch h)⟩
    exact n0.pushB ub (by rw [Array.length_toList]; exact hb) (by rw [List.drop_zero]; exact h0)
  have fin : ∀ r st', LoR rk a b st r st' → Q r st' := fun r st' q => h r st' q.1 q.2
  refine wpS_ite (fun c => wpS_pure (fin _ _ (lo_endB T (.refl st) m0 c))) fun c => wpS_ite (fun c' => wpS_pure (fin _ _ (lo_endL T (.refl st) m0 c'))) fun c' => ?_
  refine wpS_bind (wpS_get (wpS_bind (wpS_mono (wpS_turns (I := Lo5 rk a b st) (n := 1) (z := a.size + b.size + 1) (R := LoR rk a b st) ⟨rfl, .refl st, m0, by have := ne_of_beq c'; lia, by have := ne_of_beq c; lia, Nat.le_refl _⟩ (fun c st' h => h.2.over (by lia)) fun y c st' hy h => ?_) fun d st₁ h => ?_)))
  · rw [Nat.add_comm 1 y] at h ⊢
    exact wpS_loB hlt T hk _ h
  · rcases h with ⟨r, e, h⟩ | ⟨e, S⟩
    · rw [e]; exact wpS_pure (fin _ _ h)
    · exact (S.over (by lia)).elim
end
end Mine

namespace Mine
open PySem PyProof.Rows

noncomputable def mergeHi' : Array Keyed → Array Keyed → StateT SortSt Sem (Array Keyed) := sortPriv% PySem.Builtin.mergeHi

theorem Up.ge {rk : Keyed → Nat} {l : List Keyed} (h : Up rk l) {i : Nat} (hi : i < l.length) : ∀ y ∈ l.take (i + 1), rk y ≤ rk l[i] := by
  intro y hy
  rw [List.take_succ_eq_append_getElem hi] at hy
  rcases List.mem_append.mp hy with hy | hy
  · have := List.pairwise_append.mp (show (l.take i ++ l.drop i).Pairwise _ by rw [List.take_append_drop]; exact h)
    exact this.2.2 y hy l[i] (by rw [List.drop_eq_getElem_cons hi]; exact .head _)
  · rw [List.mem_singleton.mp hy]; exact Nat.le_refl _

/-- merged so far, from behind -/
structure MH (rk : Keyed → Nat) (a b o : List Keyed) (i j : Nat) : Prop where
  perm : o.Perm (a.drop i ++ b.drop j)
  sorted : Up rk o.reverse
  la : ∀ x ∈ a.take i, ∀ y ∈ o, rk x ≤ rk y
  lb : ∀ x ∈ b.take j, ∀ y ∈ o, rk x ≤ rk y
section
variable {rk : Keyed → Nat} {a b o : List Keyed} {i j : Nat}
theorem MH.swap (h : MH rk a b o i j) : MH rk b a o j i := ⟨h.perm.trans List.perm_append_comm, h.sorted, h.lb, h.la⟩
theorem seg_take {α : Type} {l : List α} {c i : Nat} (hc : c ≤ i) : l.take i = l.take c ++ (l.drop c).take (i - c) := by
  have := take_add' l c (i - c)
  rwa [show c + (i - c) = i by lia] at this
theorem seg_drop {α : Type} {l : List α} {c i : Nat} (hc : c ≤ i) : l.drop c = (l.drop c).take (i - c) ++ l.drop i := by
  have := (List.take_append_drop (i - c) (l.drop c)).symm
  rwa [List.drop_drop, show c + (i - c) = i by lia] at this
theorem MH.blockA (h : MH rk a b o i j) (ua : Up rk a) (c : Nat) (hc : c ≤ i) (hlt : ∀ x ∈ (a.drop c).take (i - c), ∀ y ∈ b.take j, rk y ≤ rk x) : MH rk a b (o ++ ((a.drop c).take (i - c)).reverse) c j where
  perm := by
    have e : a.drop c ++ b.drop j = (a.drop c).take (i - c) ++ (a.drop i ++ b.drop j) := by
      rw [← List.append_assoc]
      exact congrArg (· ++ b.drop j) (seg_drop hc)
    rw [e]
    exact (h.perm.append (List.reverse_perm _)).trans List.perm_append_comm
  sorted := by
    rw [List.reverse_append, List.reverse_reverse]
    refine List.pairwise_append.mpr ⟨(ua.sublist (List.drop_sublist c a)).sublist (List.take_sublist ..), h.sorted, fun x hx y hy => h.la x ?_ y (List.mem_reverse.mp hy)⟩
    rw [seg_take hc]; exact List.mem_append_right _ hx
  la := fun x hx y hy => (List.mem_append.mp hy).elim (fun q => h.la x (by rw [seg_take hc]; exact List.mem_append_left _ hx) y q) fun q => by
    have := List.pairwise_append.mp (show (a.take c ++ a.drop c).Pairwise _ by rw [List.take_append_drop]; exact ua)
    exact this.2.2 x hx y (List.mem_of_mem_take (List.mem_reverse.mp q))
  lb := fun x hx y hy => (List.mem_append.mp hy).elim (fun q => h.lb x hx y q) fun q => hlt y (List.mem_reverse.mp q) x hx
theorem MH.blockB (h : MH rk a b o i j) (ub : Up rk b) (c : Nat) (hc : c ≤ j) (hlt : ∀ x ∈ (b.drop c).take (j - c), ∀ y ∈ a.take i, rk y ≤ rk x) : MH rk a b (o ++ ((b.drop c).take (j - c)).reverse) i c := (h.swap.blockA ub c hc hlt).swap
theorem MH.pushA (h : MH rk a b o (i + 1) j) (ua : Up rk a) (hi : i < a.length) (hlt : ∀ y ∈ b.take j, rk y ≤ rk a[i]) : MH rk a b (o ++ [a[i]]) i j := by
  have := h.blockA ua i (by lia) (by rw [show i + 1 - i = 1 by lia, take_one hi]; intro x hx; rw [List.mem_singleton.mp hx]; exact hlt)
  rwa [show i + 1 - i = 1 by lia, take_one hi] at this
theorem MH.pushA' (h : MH rk a b o i j) (ua : Up rk a) (h0 : 0 < i) (hi : i - 1 < a.length) (hlt : ∀ y ∈ b.take j, rk y ≤ rk a[i - 1]) : MH rk a b (o ++ [a[i - 1]]) (i - 1) j :=
  MH.pushA (by rw [Nat.sub_add_cancel h0]; exact h) ua hi hlt
theorem MH.pushB' (h : MH rk a b o i j) (ub : Up rk b) (h0 : 0 < j) (hj : j - 1 < b.length) (hlt : ∀ y ∈ a.take i, rk y ≤ rk b[j - 1]) : MH rk a b (o ++ [b[j - 1]]) i (j - 1) := (h.swap.pushA' ub h0 hj hlt).swap
theorem MH.doneA (h : MH rk a b o 0 j) (ub : Up rk b) : (b.take j ++ o.reverse).Perm (a ++ b) ∧ Up rk (b.take j ++ o.reverse) := by
  have := h.blockB ub 0 (Nat.zero_le _) (fun x _ y hy => by rw [List.take_zero] at hy; cases hy)
  rw [List.drop_zero, Nat.sub_zero] at this
  have e : (o ++ (b.take j).reverse).reverse = b.take j ++ o.reverse := by rw [List.reverse_append, List.reverse_reverse]
  rw [← e]
  exact ⟨(List.reverse_perm _).trans (by have := this.perm; rwa [List.drop_zero] at this), this.sorted⟩
theorem MH.doneB (h : MH rk a b o i 0) (ua : Up rk a) : (a.take i ++ o.reverse).Perm (a ++ b) ∧ Up rk (a.take i ++ o.reverse) := by
  obtain ⟨h1, h2⟩ := h.swap.doneA ua
  exact ⟨h1.trans List.perm_append_comm, h2⟩
theorem MH.first (h : MH rk a b o i 1) (ua : Up rk a) (ub : Up rk b) (ht : ∀ x ∈ b.take 1, ∀ y ∈ a, rk x ≤ rk y) : (b.take 1 ++ a.take i ++ o.reverse).Perm (a ++ b) ∧ Up rk (b.take 1 ++ a.take i ++ o.reverse) := by
  have := h.blockA ua 0 (Nat.zero_le _) (fun x hx y hy => ht y hy x (List.mem_of_mem_take hx))
  rw [List.drop_zero, Nat.sub_zero] at this
  have := this.doneA ub
  rwa [List.reverse_append, List.reverse_reverse, ← List.append_assoc] at this
end

section
variable {M : Model} {A : Around} {E : Value → Shared → Prop} {s : Shared} {rk : Keyed → Nat} {ok : Keyed → Prop} {κ : SortKind}
theorem ext_front (a : Array Keyed) (i : Nat) : (a.extract 0 i).toList = a.toList.take i := by rw [ext_toList, List.drop_zero, Nat.sub_zero]
theorem take_mem {l : List Keyed} {n : Nat} {P : Keyed → Prop} (h : ∀ q (hq : q < l.length), q < n → P l[q]) : ∀ x ∈ l.take n, P x := by
  intro x hx
  obtain ⟨q, hq, rfl⟩ := List.getElem_of_mem hx
  rw [List.length_take] at hq
  rw [List.getElem_take]
  exact h q (by lia) (by lia)

abbrev H5 : Type := Option (Array Keyed) × Nat × Nat × Array Keyed × Nat
abbrev H6 : Type := Option (Array Keyed) × Nat × Nat × Array Keyed × Nat × Nat
abbrev H7 : Type := Option (Array Keyed) × Nat × Nat × Array Keyed × Nat × Nat × Nat
noncomputable def hiD (a b out : Array Keyed) (na nb : Nat) : Array Keyed := a.extract 0 na ++ b.extract 0 nb ++ out.reverse
noncomputable def hiF (a b out : Array Keyed) (na nb : Nat) : Array Keyed := b.extract 0 nb ++ a.extract 0 na ++ out.reverse
noncomputable def hiWA2 (a b : Array Keyed) (mg na nb : Nat) (out : Array Keyed) (ac : Nat) : SM (ForInStep H6) :=
  if (na == 0) = true then pure (.done (some (hiD a b out na nb), na, nb, out, ac, 0)) else if ac ≥ mg then pure (.done (none, na, nb, out, ac, 0)) else pure (.yield (none, na, nb, out, ac, 0))
noncomputable def hiWB2 (a b : Array Keyed) (mg na nb : Nat) (out : Array Keyed) (bc : Nat) : SM (ForInStep H6) :=
  if (nb == 1) = true then pure (.done (some (hiF a b out na nb), na, nb, out, 0, bc)) else if bc ≥ mg then pure (.done (none, na, nb, out, 0, bc)) else pure (.yield (none, na, nb, out, 0, bc))
noncomputable def hiW2 (a b : Array Keyed) (mg na nb : Nat) (out : Array Keyed) (ac bc : Nat) (w : Bool) : SM (ForInStep H6) :=
  if w = true then elem' a (na - 1) >>= fun x => hiWA2 a b mg (na - 1) nb (out.push x) (ac + 1) else elem' b (nb - 1) >>= fun x => hiWB2 a b mg na (nb - 1) (out.push x) (bc + 1)
noncomputable def hiW1 (a b : Array Keyed) (mg na nb : Nat) (out : Array Keyed) (ac bc : Nat) : Option Bool → SM (ForInStep H6)
  | some w => hiW2 a b mg na nb out ac bc w
  | _ => pure (.done (some (hiD a b out na nb), na, nb, out, ac, bc))
noncomputable def hiW (a b : Array Keyed) (mg : Nat) (c : H6) : SM (ForInStep H6) :=
  elem' b (c.2.2.1 - 1) >>= fun p => elem' a (c.2.1 - 1) >>= fun q => lt' p q >>= hiW1 a b mg c.2.1 c.2.2.1 c.2.2.2.1 c.2.2.2.2.1 c.2.2.2.2.2
noncomputable def hiT4' (a b : Array Keyed) (mg k l na nb : Nat) (out : Array Keyed) : SM (ForInStep H7) :=
  if (na == 0) = true then pure (.done (some (hiD a b out na nb), na, nb, out, mg, k, l))
  else if (decide (k < 7) && decide (l < 7)) = true then pure (.done (none, na, nb, out, mg, k, l)) else pure (.yield (none, na, nb, out, mg, k, l))
noncomputable def hiT4 (a b : Array Keyed) (mg k l na nb : Nat) (out : Array Keyed) : SM (ForInStep H7) := elem' a (na - 1) >>= fun x => hiT4' a b mg k l (na - 1) nb (out.push x)
noncomputable def hiT3' (a b : Array Keyed) (mg k l na nb : Nat) (out : Array Keyed) : SM (ForInStep H7) :=
  if (nb == 1) = true then pure (.done (some (hiF a b out na nb), na, nb, out, mg, k, l)) else if (nb == 0) = true then pure (.done (some (hiD a b out na nb), na, nb, out, mg, k, l)) else hiT4 a b mg k l na nb out
noncomputable def hiT2g (a b : Array Keyed) (mg k bc na nb : Nat) (out : Array Keyed) : Option Nat → SM (ForInStep H7)
  | some l => if nb - l > 0 then hiT3' a b mg k (nb - l) na l (out ++ (b.extract l nb).reverse) else hiT4 a b mg k (nb - l) na nb out
  | _ => pure (.done (some (hiD a b out na nb), na, nb, out, mg, k, bc))
noncomputable def hiT2' (a b : Array Keyed) (mg k bc na nb : Nat) (out : Array Keyed) : SM (ForInStep H7) :=
  if (nb == 1) = true then pure (.done (some (hiF a b out na nb), na, nb, out, mg, k, bc)) else elem' a (na - 1) >>= fun y => gallop' true y b 0 nb (nb - 1) >>= hiT2g a b mg k bc na nb out
noncomputable def hiT2 (a b : Array Keyed) (mg k bc na nb : Nat) (out : Array Keyed) : SM (ForInStep H7) := elem' b (nb - 1) >>= fun x => hiT2' a b mg k bc na (nb - 1) (out.push x)
noncomputable def hiT1' (a b : Array Keyed) (mg k bc na nb : Nat) (out : Array Keyed) : SM (ForInStep H7) :=
  if (na == 0) = true then pure (.done (some (hiD a b out na nb), na, nb, out, mg, k, bc)) else hiT2 a b mg k bc na nb out
noncomputable def hiT1g (a b : Array Keyed) (mg ac bc na nb : Nat) (out : Array Keyed) : Option Nat → SM (ForInStep H7)
  | some k => if na - k > 0 then hiT1' a b mg (na - k) bc k nb (out ++ (a.extract k na).reverse) else hiT2 a b mg (na - k) bc na nb out
  | _ => pure (.done (some (hiD a b out na nb), na, nb, out, mg, ac, bc))
noncomputable def hiT1 (a b : Array Keyed) (ac bc na nb : Nat) (out : Array Keyed) (mg : Nat) : SM (ForInStep H7) :=
  setMin' mg >>= fun _ => elem' b (nb - 1) >>= fun x => gallop' false x a 0 na (na - 1) >>= hiT1g a b mg ac bc na nb out
noncomputable def hiG (a b : Array Keyed) (c : H7) : SM (ForInStep H7) :=
  if c.2.2.2.2.1 > 1 then hiT1 a b c.2.2.2.2.2.1 c.2.2.2.2.2.2 c.2.1 c.2.2.1 c.2.2.2.1 (c.2.2.2.2.1 - 1) else hiT1 a b c.2.2.2.2.2.1 c.2.2.2.2.2.2 c.2.1 c.2.2.1 c.2.2.2.1 c.2.2.2.2.1
noncomputable def hiB2 (c : H7) : Option (Array Keyed) → SM (ForInStep H5)
  | some r => pure (.done (some r, c.2.1, c.2.2.1, c.2.2.2.1, c.2.2.2.2.1))
  | none => setMin' (c.2.2.2.2.1 + 1) >>= fun _ => pure (.yield (none, c.2.1, c.2.2.1, c.2.2.2.1, c.2.2.2.2.1 + 1))
noncomputable def hiB1 (a b : Array Keyed) (mg : Nat) (c : H6) : Option (Array Keyed) → SM (ForInStep H5)
  | some r => pure (.done (some r, c.2.1, c.2.2.1, c.2.2.2.1, mg))
  | none => (liftM (rule "list.sort.gallop") : SM Unit) >>= fun _ => forIn [:a.size + b.size] ((none, c.2.1, c.2.2.1, c.2.2.2.1, mg + 1, c.2.2.2.2.1, c.2.2.2.2.2) : H7) (fun _ c => hiG a b c) >>= fun d => hiB2 d d.1
noncomputable def hiB (a b : Array Keyed) (c : H5) : SM (ForInStep H5) :=
  forIn [:a.size + b.size] ((none, c.2.1, c.2.2.1, c.2.2.2.1, 0, 0) : H6) (fun _ d => hiW a b c.2.2.2.2 d) >>= fun d => hiB1 a b c.2.2.2.2 d d.1
noncomputable def hiM (a b : Array Keyed) (x : Keyed) : SM (Array Keyed) :=
  if (a.size - 1 == 0) = true then pure (hiD a b #[x] (a.size - 1) b.size) else if (b.size == 1) = true then pure (hiF a b #[x] (a.size - 1) b.size) else (get : SM SortSt) >>= fun st => forIn [:a.size + b.size] ((none, a.size - 1, b.size, #[x], minG st) : H5) (fun _ c => hiB a b c) >>= fun c => loE c.1
noncomputable def hiAll (a b : Array Keyed) : SM (Array Keyed) := (liftM (rule "list.sort.merge-hi") : SM Unit) >>= fun _ => elem' a (a.size - 1) >>= hiM a b
theorem mergeHi_eq (a b : Array Keyed) : mergeHi' a b = hiAll a b := by kernel_rfl

structure HiS (rk : Keyed → Nat) (a b : Array Keyed) (st : SortSt) (n na nb : Nat) (out : Array Keyed) (st' : SortSt) : Prop where
  sm : Sm st st'
  mi : MH rk a.toList b.toList out.toList na nb
  ga : 0 < na
  ga' : na ≤ a.size
  gb : 1 < nb
  gb' : nb ≤ b.size
  gn : n + na + nb ≤ a.size + b.size
def Hi5 (rk : Keyed → Nat) (a b : Array Keyed) (st : SortSt) (n : Nat) (c : H5) (st' : SortSt) : Prop := c.1 = none ∧ HiS rk a b st n c.2.1 c.2.2.1 c.2.2.2.1 st'
def Hi6 (rk : Keyed → Nat) (a b : Array Keyed) (st : SortSt) (n : Nat) (c : H6) (st' : SortSt) : Prop := c.1 = none ∧ HiS rk a b st n c.2.1 c.2.2.1 c.2.2.2.1 st'
def Hi7 (rk : Keyed → Nat) (a b : Array Keyed) (st : SortSt) (n : Nat) (c : H7) (st' : SortSt) : Prop := c.1 = none ∧ HiS rk a b st n c.2.1 c.2.2.1 c.2.2.2.1 st'
section
variable {a b : Array Keyed} {st st' : SortSt} {out : Array Keyed} {na nb n m x mg k l ac bc : Nat}
theorem HiS.less (h : HiS rk a b st n na nb out st') (hm : m ≤ n) : HiS rk a b st m na nb out st' := ⟨h.sm, h.mi, h.ga, h.ga', h.gb, h.gb', by have := h.gn; lia⟩
theorem HiS.over (S : HiS rk a b st n na nb out st') (h : a.size + b.size ≤ n) : False := by have := S.ga; have := S.gb; have := S.gn; lia
theorem hi_endA (T : Two rk ok a b) (sm : Sm st st') (m : MH rk a.toList b.toList out.toList na nb) (e : (na == 0) = true) : LoR rk a b st (hiD a b out na nb) st' := by
  cases beq_iff_eq.mp e
  have := m.doneA T.ub
  refine ⟨sm, ?_⟩
  unfold Mgd hiD
  rw [Array.toList_append, Array.toList_append, ext_front, ext_front, List.take_zero, List.nil_append, Array.toList_reverse]
  exact this
theorem hi_endB (T : Two rk ok a b) (sm : Sm st st') (m : MH rk a.toList b.toList out.toList na nb) (e : (nb == 0) = true) : LoR rk a b st (hiD a b out na nb) st' := by
  cases beq_iff_eq.mp e
  have := m.doneB T.ua
  refine ⟨sm, ?_⟩
  unfold Mgd hiD
  rw [Array.toList_append, Array.toList_append, ext_front, ext_front, List.take_zero, List.append_nil, Array.toList_reverse]
  exact this
theorem hi_endF (T : Two rk ok a b) (sm : Sm st st') (m : MH rk a.toList b.toList out.toList na nb) (e : (nb == 1) = true) : LoR rk a b st (hiF a b out na nb) st' := by
  cases beq_iff_eq.mp e
  have := m.first T.ua T.ub (fun x hx y hy => by
    have e2 : b.toList.take 1 = [b[0]'T.hb] := by
      have := take_one (l := b.toList) (i := 0) (by rw [Array.length_toList]; exact T.hb)
      rw [List.drop_zero] at this
      rw [this]; rfl
    rw [e2] at hx
    rw [List.mem_singleton.mp hx]
    exact T.h0 y hy)
  refine ⟨sm, ?_⟩
  unfold Mgd hiF
  rw [Array.toList_append, Array.toList_append, ext_front, ext_front, Array.toList_reverse]
  exact this
theorem up_last {c : Array Keyed} (u : Up rk c.toList) {i : Nat} (h0 : 0 < i) (hi : i - 1 < c.size) : ∀ y ∈ c.toList.take i, rk y ≤ rk c[i - 1] := fun y hy => u.ge (i := i - 1) (by rw [Array.length_toList]; exact hi) y (by rwa [Nat.sub_add_cancel h0])

theorem wpS_hiWA2 (T : Two rk ok a b) (hn : x ≤ m) (sm : Sm st st') (mi : MH rk a.toList b.toList out.toList na nb) (ga' : na ≤ a.size) (gb : 1 < nb) (gb' : nb ≤ b.size) (gn : m + na + nb ≤ a.size + b.size) : wpS M A E s (hiWA2 a b mg na nb out ac) (Po (Hi6 rk a b st) x m (LoR rk a b st)) st' :=
  wpS_ite (fun c => wpS_pure (.inl ⟨_, rfl, hi_endA T sm mi c⟩)) fun c => by
    have S : HiS rk a b st m na nb out st' := ⟨sm, mi, by have := ne_of_beq c; lia, ga', gb, gb', gn⟩
    exact wpS_ite (fun _ => wpS_pure (.inr ⟨rfl, S.less hn⟩)) fun _ => wpS_pure ⟨rfl, S⟩
theorem wpS_hiWB2 (T : Two rk ok a b) (hn : x ≤ m) (sm : Sm st st') (mi : MH rk a.toList b.toList out.toList na nb) (ga : 0 < na) (ga' : na ≤ a.size) (gb : 0 < nb) (gb' : nb ≤ b.size) (gn : m + na + nb ≤ a.size + b.size) : wpS M A E s (hiWB2 a b mg na nb out bc) (Po (Hi6 rk a b st) x m (LoR rk a b st)) st' :=
  wpS_ite (fun c => wpS_pure (.inl ⟨_, rfl, hi_endF T sm mi c⟩)) fun c => by
    have S : HiS rk a b st m na nb out st' := ⟨sm, mi, ga, ga', by have := ne_of_beq c; lia, gb', gn⟩
    exact wpS_ite (fun _ => wpS_pure (.inr ⟨rfl, S.less hn⟩)) fun _ => wpS_pure ⟨rfl, S⟩
theorem wpS_hiW (hlt : LtOk M A E s rk ok κ) (T : Two rk ok a b) (hk : kindOf st = κ) {c : H6} (hn : x ≤ n + 1) (S : Hi6 rk a b st n c st') : wpS M A E s (hiW a b mg c) (Po (Hi6 rk a b st) x (n + 1) (LoR rk a b st)) st' := by
  obtain ⟨c0, na, nb, out, ac, bc⟩ := c
  obtain ⟨c1, sm, mi, ga, ga', gb, gb', gn⟩ := S
  dsimp only at c1 mi ga ga' gb gb' gn
  have pa : na - 1 < a.size := by lia
  have pb : nb - 1 < b.size := by lia
  refine wpS_bind (wpS_elem pb (wpS_bind (wpS_elem pa (wpS_bind (hlt (T.ob _ (Array.getElem_mem _)) (T.oa _ (Array.getElem_mem _)) (sm.1.trans hk) ?_)))))
  show wpS M A E s (hiW2 a b mg na nb out ac bc (decide (rk b[nb - 1] < rk a[na - 1]))) _ st'
  refine wpS_ite (fun w => wpS_bind (wpS_elem pa ?_)) fun w => wpS_bind (wpS_elem pb ?_)
  · replace w := of_decide_eq_true w
    refine wpS_hiWA2 T hn sm ?_ (by lia) gb gb' (by lia)
    rw [Array.toList_push]
    exact mi.pushA' T.ua ga (by rw [Array.length_toList]; exact pa) (fun y hy => Nat.le_trans (up_last T.ub (by lia) pb y hy) (Nat.le_of_lt w))
  · replace w : ¬ rk b[nb - 1] < rk a[na - 1] := fun q => w (decide_eq_true q)
    refine wpS_hiWB2 T hn sm ?_ ga ga' (by lia) (by lia) (by lia)
    rw [Array.toList_push]
    exact mi.pushB' T.ub (by lia) (by rw [Array.length_toList]; exact pb) (fun y hy => Nat.le_trans (up_last T.ua ga pa y hy) (Nat.le_of_not_lt w))

theorem wpS_hiT4 (T : Two rk ok a b) (hn : x ≤ n + 1) (S : HiS rk a b st n na nb out st') (kA : ∀ y ∈ b.toList.take nb, ∀ h : na - 1 < a.size, rk y ≤ rk a[na - 1]) : wpS M A E s (hiT4 a b mg k l na nb out) (Po (Hi7 rk a b st) x (n + 1) (LoR rk a b st)) st' := by
  obtain ⟨sm, mi, ga, ga', gb, gb', gn⟩ := S
  have pa : na - 1 < a.size := by lia
  refine wpS_bind (wpS_elem pa ?_)
  have mi4 : MH rk a.toList b.toList (out.push a[na - 1]).toList (na - 1) nb := by
    rw [Array.toList_push]
    exact mi.pushA' T.ua ga (by rw [Array.length_toList]; exact pa) fun y hy => kA y hy pa
  refine wpS_ite (fun c => wpS_pure (.inl ⟨_, rfl, hi_endA T sm mi4 c⟩)) fun c => ?_
  have S : HiS rk a b st (n + 1) (na - 1) nb (out.push a[na - 1]) st' := ⟨sm, mi4, by have := ne_of_beq c; lia, by lia, gb, gb', by lia⟩
  exact wpS_ite (fun _ => wpS_pure (.inr ⟨rfl, S.less hn⟩)) fun _ => wpS_pure ⟨rfl, S⟩
theorem wpS_hiT2 (hlt : LtOk M A E s rk ok κ) (T : Two rk ok a b) (hk : kindOf st = κ) (hn : x ≤ n + 1) (S : HiS rk a b st n na nb out st') (kB : ∀ y ∈ a.toList.take na, ∀ h : nb - 1 < b.size, rk y ≤ rk b[nb - 1]) : wpS M A E s (hiT2 a b mg k bc na nb out) (Po (Hi7 rk a b st) x (n + 1) (LoR rk a b st)) st' := by
  obtain ⟨sm, mi, ga, ga', gb, gb', gn⟩ := S
  have pa : na - 1 < a.size := by lia
  have pb : nb - 1 < b.size := by lia
  refine wpS_bind (wpS_elem pb ?_)
  have mi2 : MH rk a.toList b.toList (out.push b[nb - 1]).toList na (nb - 1) := by
    rw [Array.toList_push]
    exact mi.pushB' T.ub (by lia) (by rw [Array.length_toList]; exact pb) fun y hy => kB y hy pb
  generalize out.push b[nb - 1] = out2 at mi2 ⊢
  refine wpS_ite (fun c => wpS_pure (.inl ⟨_, rfl, hi_endF T sm mi2 c⟩)) fun c => ?_
  have gb2 : 1 < nb - 1 := by have := ne_of_beq c; lia
  clear c mi kB
  refine wpS_bind (wpS_elem pa (wpS_bind (wpS_gallop_up hlt (by lia) (by lia) T.ob (T.oa _ (Array.getElem_mem _)) (sm.1.trans hk) T.ub fun l l1 l2 l3 => ?_)))
  simp only [if_true, Nat.zero_add] at l2 l3
  have kA : ∀ y ∈ b.toList.take l, ∀ h : na - 1 < a.size, rk y ≤ rk a[na - 1] := fun y hy _ => take_mem (P := fun y => rk y ≤ rk a[na - 1]) (fun q hq hqk => Nat.le_of_lt (l2 q hq hqk)) y hy
  show wpS M A E s (if nb - 1 - l > 0 then hiT3' a b mg k (nb - 1 - l) na l (out2 ++ (b.extract l (nb - 1)).reverse) else hiT4 a b mg k (nb - 1 - l) na (nb - 1) out2) _ st'
  refine wpS_ite (fun q0 => ?_) fun q0 => wpS_hiT4 T hn ⟨sm, mi2, ga, ga', gb2, by lia, by lia⟩ ?_
  · have mi3 : MH rk a.toList b.toList (out2 ++ (b.extract l (nb - 1)).reverse).toList na l := by
      rw [Array.toList_append, Array.toList_reverse, ext_toList]
      exact mi2.blockB T.ub l l1 (drop_mem fun q hq hqk y hy => Nat.le_trans (up_last T.ua ga pa y hy) (l3 (l + q) hq (Nat.le_add_right l q) (by lia)))
    exact wpS_ite (fun c => wpS_pure (.inl ⟨_, rfl, hi_endF T sm mi3 c⟩)) fun c => wpS_ite (fun c' => wpS_pure (.inl ⟨_, rfl, hi_endB T sm mi3 c'⟩)) fun c' => wpS_hiT4 T hn ⟨sm, mi3, ga, ga', by have := ne_of_beq c; have := ne_of_beq c'; lia, by lia, by lia⟩ kA
  · have e0 : l = nb - 1 := by lia
    rw [e0] at kA
    exact kA
theorem wpS_hiT1 (hlt : LtOk M A E s rk ok κ) (T : Two rk ok a b) (hk : kindOf st = κ) (hn : x ≤ n + 1) (S : HiS rk a b st n na nb out st') : wpS M A E s (hiT1 a b ac bc na nb out mg) (Po (Hi7 rk a b st) x (n + 1) (LoR rk a b st)) st' := by
  obtain ⟨sm, mi, ga, ga', gb, gb', gn⟩ := S
  have pb : nb - 1 < b.size := by lia
  refine wpS_bind (wpS_setMin fun st₄ sm4 => ?_)
  replace sm := sm.trans sm4
  refine wpS_bind (wpS_elem pb (wpS_bind (wpS_gallop_up hlt (by lia) (by lia) T.oa (T.ob _ (Array.getElem_mem _)) (sm.1.trans hk) T.ua fun k k1 k2 k3 => ?_)))
  simp only [Bool.false_eq_true, if_false, Nat.zero_add] at k2 k3
  have kB : ∀ y ∈ a.toList.take k, ∀ h : nb - 1 < b.size, rk y ≤ rk b[nb - 1] := fun y hy _ => take_mem (P := fun y => rk y ≤ rk b[nb - 1]) (fun q hq hqk => k2 q hq hqk) y hy
  show wpS M A E s (if na - k > 0 then hiT1' a b mg (na - k) bc k nb (out ++ (a.extract k na).reverse) else hiT2 a b mg (na - k) bc na nb out) _ st₄
  refine wpS_ite (fun k0 => ?_) fun k0 => wpS_hiT2 hlt T hk hn ⟨sm, mi, ga, ga', gb, gb', gn⟩ ?_
  · have mi1 : MH rk a.toList b.toList (out ++ (a.extract k na).reverse).toList k nb := by
      rw [Array.toList_append, Array.toList_reverse, ext_toList]
      exact mi.blockA T.ua k k1 (drop_mem fun q hq hqk y hy => Nat.le_trans (up_last T.ub (by lia) pb y hy) (Nat.le_of_lt (k3 (k + q) hq (Nat.le_add_right k q) (by lia))))
    exact wpS_ite (fun c => wpS_pure (.inl ⟨_, rfl, hi_endA T sm mi1 c⟩)) fun c => wpS_hiT2 hlt T hk hn ⟨sm, mi1, by have := ne_of_beq c; lia, by lia, gb, gb', by lia⟩ kB
  · have e0 : k = na := by lia
    rw [e0] at kB
    exact kB
theorem wpS_hiG (hlt : LtOk M A E s rk ok κ) (T : Two rk ok a b) (hk : kindOf st = κ) (hn : x ≤ n + 1) {c : H7} (S : Hi7 rk a b st n c st') : wpS M A E s (hiG a b c) (Po (Hi7 rk a b st) x (n + 1) (LoR rk a b st)) st' :=
  wpS_ite (fun _ => wpS_hiT1 hlt T hk hn S.2) fun _ => wpS_hiT1 hlt T hk hn S.2
theorem wpS_hiB (hlt : LtOk M A E s rk ok κ) (T : Two rk ok a b) (hk : kindOf st = κ) (z : Nat) {c : H5} (S : Hi5 rk a b st (n + 1) c st') : wpS M A E s (hiB a b c) (Po (Hi5 rk a b st) z (n + 2) (LoR rk a b st)) st' := by
  refine wpS_bind (wpS_mono (wpS_turns (I := Hi6 rk a b st) (n := n + 1) (z := n + 2) (R := LoR rk a b st) ⟨rfl, S.2⟩ (fun c st' h => h.2.over (by lia)) fun y c st' hy h => wpS_hiW hlt T hk (by lia) h) fun d st₁ h => ?_)
  rcases h with ⟨r, e, h⟩ | ⟨e, S⟩
  · rw [e]; exact wpS_pure (.inl ⟨r, rfl, h⟩)
  · rw [e]
    refine wpS_bind (wpS_rule (wpS_bind (wpS_mono (wpS_turns (I := Hi7 rk a b st) (n := n + 2) (z := n + 2) (R := LoR rk a b st) ⟨rfl, S⟩ (fun c st' h => h.2.over (by lia)) fun y c st' hy h => wpS_hiG hlt T hk (by lia) h) fun d st₁ h => ?_)))
    rcases h with ⟨r, e, h⟩ | ⟨e, S⟩
    · rw [e]; exact wpS_pure (.inl ⟨r, rfl, h⟩)
    · rw [e]
      exact wpS_bind (wpS_setMin fun st₄ sm4 => wpS_pure ⟨rfl, S.sm.trans sm4, S.mi, S.ga, S.ga', S.gb, S.gb', S.gn⟩)
end

theorem wpS_mergeHi (hlt : LtOk M A E s rk ok κ) {a b : Array Keyed} {st : SortSt} {Q : Array Keyed → SortSt → Prop} (ha : 1 ≤ a.size) (hb : 1 ≤ b.size) (oa : ∀ p ∈ a, ok p) (ob : ∀ p ∈ b, ok p) (hk : kindOf st = κ) (ua : Up rk a.toList) (ub : Up rk b.toList)
    (h0 : ∀ y ∈ a.toList, rk (b[0]'hb) ≤ rk y) (h1 : ∀ x ∈ b.toList, rk x ≤ rk (a[a.size - 1]'(by lia))) (h : ∀ r st', Sm st st' → Mgd rk a.toList b.toList r → Q r st') : wpS M A E s (mergeHi' a b) Q st := by
  have T : Two rk ok a b := ⟨ha, hb, oa, ob, ua, ub, h0, h1⟩
  rw [mergeHi_eq]
  have ha' : a.size - 1 < a.size := Nat.sub_one_lt_of_lt ha
  refine wpS_bind (wpS_rule (wpS_bind (wpS_elem ha' ?_)))
  have m0 : MH rk a.toList b.toList (#[a[a.size - 1]] : Array Keyed).toList (a.size - 1) b.size := by
    have n0 : MH rk a.toList b.toList [] a.size b.size := ⟨by rw [← Array.length_toList, ← Array.length_toList, List.drop_length, List.drop_length]; exact .nil, .nil, fun _ _ _ h => (nomatch h), fun _ _ _ h => (nomatch h)⟩
    exact n0.pushA' ua ha (by rw [Array.length_toList]; exact ha') (fun y hy => h1 y (List.mem_of_mem_take hy))
  have fin : ∀ r st', LoR rk a b st r st' → Q r st' := fun r st' q => h r st' q.1 q.2
  refine wpS_ite (fun c => wpS_pure (fin _ _ (hi_endA T (.refl st) m0 c))) fun c => wpS_ite (fun c' => wpS_pure (fin _ _ (hi_endF T (.refl st) m0 c'))) fun c' => ?_
  refine wpS_bind (wpS_get (wpS_bind (wpS_mono (wpS_turns (I := Hi5 rk a b st) (n := 1) (z := a.size + b.size + 1) (R := LoR rk a b st) ⟨rfl, .refl st, m0, by have := ne_of_beq c; lia, by lia, by have := ne_of_beq c'; lia, Nat.le_refl _, by lia⟩ (fun c st' h => h.2.over (by lia)) fun y c st' hy h => ?_) fun d st₁ h => ?_)))
  · rw [Nat.add_comm 1 y] at h ⊢
    exact wpS_hiB hlt T hk _ h
  · rcases h with ⟨r, e, h⟩ | ⟨e, S⟩
    · rw [e]; exact wpS_pure (fin _ _ h)
    · exact (S.over (by lia)).elim
end
end Mine

namespace Mine
open PySem PyProof.Rows

section
variable {M : Model} {A : Around} {E : Value → Shared → Prop} {s : Shared} {rk : Keyed → Nat} {ok : Keyed → Prop} {κ : SortKind}

/-- what is sorted: good keys, each of another rank -/
structure Gd (rk : Keyed → Nat) (ok : Keyed → Prop) (κ : SortKind) (st : SortSt) : Prop where
  ok : ∀ p ∈ arrOf st, ok p
  dist : ((arrOf st).toList.map rk).Nodup
  kind : kindOf st = κ
/-- only within these places is something moved -/
structure Wn (lo hi : Nat) (st st' : SortSt) : Prop where
  kind : kindOf st' = kindOf st
  pend : pendingOf st' = pendingOf st
  fail : failedOf st' = failedOf st
  perm : (arrOf st').Perm (arrOf st)
  out : ∀ k, (k < lo ∨ hi ≤ k) → (arrOf st')[k]? = (arrOf st)[k]?
theorem Wn.refl (lo hi : Nat) (st : SortSt) : Wn lo hi st st := ⟨rfl, rfl, rfl, .refl _, fun _ _ => rfl⟩
theorem Wn.trans {lo hi : Nat} {x y z : SortSt} (h : Wn lo hi x y) (g : Wn lo hi y z) : Wn lo hi x z := ⟨g.kind.trans h.kind, g.pend.trans h.pend, g.fail.trans h.fail, g.perm.trans h.perm, fun k hk => (g.out k hk).trans (h.out k hk)⟩
theorem Gd.of {lo hi : Nat} {st st' : SortSt} (g : Gd rk ok κ st) (h : Wn lo hi st st') : Gd rk ok κ st' := ⟨fun p hp => g.ok p (h.perm.mem_iff.mp hp), (h.perm.toList.map rk).nodup_iff.mpr g.dist, h.kind.trans g.kind⟩
theorem Wn.size {lo hi : Nat} {st st' : SortSt} (h : Wn lo hi st st') : (arrOf st').size = (arrOf st).size := h.perm.size_eq
theorem rkA_congr {xs ys : Array Keyed} {i j : Nat} (h : xs[i]? = ys[j]?) : rkA rk xs i = rkA rk ys j := by unfold rkA; rw [h]
theorem Gd.ne {st : SortSt} (g : Gd rk ok κ st) {i j : Nat} (hi : i < (arrOf st).size) (hj : j < (arrOf st).size) (hij : i ≠ j) : rkA rk (arrOf st) i ≠ rkA rk (arrOf st) j := by
  intro e
  have hi' : i < (arrOf st).toList.length := by rw [Array.length_toList]; exact hi
  have hj' : j < (arrOf st).toList.length := by rw [Array.length_toList]; exact hj
  rw [rkA_toList hi', rkA_toList hj'] at e
  have := (List.getElem_inj (h₀ := by rw [List.length_map]; exact hi') (h₁ := by rw [List.length_map]; exact hj') g.dist).mp (by rw [List.getElem_map, List.getElem_map]; exact e)
  exact hij this

theorem wpS_at (hlt : LtOk M A E s rk ok κ) {st : SortSt} {i j : Nat} {Q : Option Bool → SortSt → Prop} (g : Gd rk ok κ st) (hi : i < (arrOf st).size) (hj : j < (arrOf st).size) (h : Q (some (decide (rkA rk (arrOf st) i < rkA rk (arrOf st) j))) st) : wpS M A E s (ltAt' i j) Q st := by
  rw [ltAt'_eq]
  refine wpS_bind (wpS_get (wpS_bind (wpS_elem hi (wpS_bind (wpS_elem hj (hlt (g.ok _ (Array.getElem_mem _)) (g.ok _ (Array.getElem_mem _)) g.kind ?_))))))
  rw [rkA_get hi, rkA_get hj] at h
  exact h

def SegUp (rk : Keyed → Nat) (arr : Array Keyed) (lo n : Nat) : Prop := ∀ i j, lo ≤ i → i ≤ j → j < lo + n → rkA rk arr i ≤ rkA rk arr j
def SegDn (rk : Keyed → Nat) (arr : Array Keyed) (lo n : Nat) : Prop := ∀ i j, lo ≤ i → i ≤ j → j < lo + n → rkA rk arr j ≤ rkA rk arr i
theorem SegUp.succ {arr : Array Keyed} {lo n : Nat} (h : SegUp rk arr lo n) (h1 : 1 ≤ n) (hn : rkA rk arr (lo + n - 1) ≤ rkA rk arr (lo + n)) : SegUp rk arr lo (n + 1) := by
  intro i j hi hij hj
  by_cases e : j = lo + n
  · subst e
    by_cases e' : i = lo + n
    · subst e'; exact Nat.le_refl _
    · exact Nat.le_trans (h i (lo + n - 1) hi (by lia) (by lia)) hn
  · exact h i j hi hij (by lia)
theorem SegDn.succ {arr : Array Keyed} {lo n : Nat} (h : SegDn rk arr lo n) (h1 : 1 ≤ n) (hn : rkA rk arr (lo + n) ≤ rkA rk arr (lo + n - 1)) : SegDn rk arr lo (n + 1) := by
  intro i j hi hij hj
  by_cases e : j = lo + n
  · subst e
    by_cases e' : i = lo + n
    · subst e'; exact Nat.le_refl _
    · exact Nat.le_trans hn (h i (lo + n - 1) hi (by lia) (by lia))
  · exact h i j hi hij (by lia)

theorem wpS_rev {i j : Nat} {st : SortSt} {Q : Unit → SortSt → Prop} (h : Q () (setArr st (mirror (arrOf st) i j ((j - i) / 2)))) : wpS M A E s (reverseSlice' i j) Q st := by
  rw [reverseSlice'_eq]; exact wpS_modify h
theorem wpS_countLo (hlt : LtOk M A E s rk ok κ) {lo nrem : Nat} {st : SortSt} {Q : Option Nat → SortSt → Prop} (g : Gd rk ok κ st) (hn : lo + nrem ≤ (arrOf st).size) (h1 : 1 ≤ nrem)
    (h : ∀ n st', 1 ≤ n → n ≤ nrem → Wn lo (lo + nrem) st st' → SegUp rk (arrOf st') lo n → Q (some n) st') : wpS M A E s (countRun' lo nrem) Q st := by
  rw [countRun'_eq]
  refine wpS_bind (wpS_mono (wpS_forRange (I := fun x c st' => st' = st ∧ c = (none, x) ∧ x ≤ nrem ∧ SegUp rk (arrOf st) lo x)
    (Q := fun c st' => st' = st ∧ ∃ n, c = (none, n) ∧ 1 ≤ n ∧ n ≤ nrem ∧ SegUp rk (arrOf st) lo n ∧ (n = nrem ∨ rkA rk (arrOf st) (lo + n) < rkA rk (arrOf st) (lo + n - 1))) ?_ ?_ ⟨rfl, rfl, h1, fun i j _ _ _ => by rw [show i = j by lia]; exact Nat.le_refl _⟩) ?_)
  · rintro x c st' hx1 hx2 ⟨rfl, rfl, gx, up⟩
    refine wpS_bind (wpS_at hlt g (by lia) (by lia) ?_)
    dsimp only
    by_cases w : rkA rk (arrOf st') (lo + x) < rkA rk (arrOf st') (lo + x - 1)
    · rw [decide_eq_true w, if_pos rfl]
      exact wpS_pure ⟨rfl, x, rfl, hx1, gx, up, .inr w⟩
    · rw [decide_eq_false w, if_neg (by decide)]
      exact wpS_pure ⟨rfl, rfl, by lia, up.succ hx1 (Nat.le_of_not_lt w)⟩
  · rintro c st' ⟨rfl, rfl, gx, up⟩
    rw [show max 1 nrem = nrem by lia] at *
    exact ⟨rfl, nrem, rfl, h1, Nat.le_refl _, up, .inl rfl⟩
  · rintro c st' ⟨rfl, n, rfl, n1, n2, up, hend⟩
    dsimp only
    by_cases c1 : (n == nrem) = true
    · rw [if_pos c1]
      exact wpS_pure (h n st' n1 n2 (.refl ..) up)
    rw [if_neg c1]
    have hn3 : n < nrem := by have : n ≠ nrem := fun e => c1 (beq_iff_eq.mpr e); lia
    have hdn := hend.resolve_left (by lia)
    by_cases c2 : n > 1
    · rw [if_pos c2]
      refine wpS_bind (wpS_at hlt g (by lia) (by lia) ?_)
      have hr : rkA rk (arrOf st') lo < rkA rk (arrOf st') (lo + n - 1) := by
        have := up lo (lo + n - 1) (Nat.le_refl _) (by lia) (by lia)
        have := g.ne (i := lo) (j := lo + n - 1) (by lia) (by lia) (by lia)
        lia
      rw [decide_eq_true hr]
      exact wpS_pure (h n st' n1 n2 (.refl ..) up)
    rw [if_neg c2]
    have e1 : n = 1 := by lia
    subst e1
    refine wpS_bind (wpS_rule ?_)
    refine wpS_bind (wpS_mono (wpS_forRange (I := fun x c st'' => st'' = st' ∧ c = (none, x, 0) ∧ x ≤ nrem ∧ SegDn rk (arrOf st') lo x)
      (Q := fun c st'' => st'' = st' ∧ ∃ n, c = (none, n, 0) ∧ 2 ≤ n ∧ n ≤ nrem ∧ SegDn rk (arrOf st') lo n) ?_ ?_ ⟨rfl, rfl, by lia, ?_⟩) ?_)
    · rintro x c st'' hx1 hx2 ⟨rfl, rfl, gx, dn⟩
      dsimp only
      refine wpS_bind (wpS_at hlt g (by lia) (by lia) ?_)
      dsimp only
      by_cases w : rkA rk (arrOf st'') (lo + x) < rkA rk (arrOf st'') (lo + x - 1)
      · rw [decide_eq_true w, if_pos rfl, if_neg (by decide)]
        exact wpS_pure ⟨rfl, rfl, by lia, dn.succ (by lia) (Nat.le_of_lt w)⟩
      · rw [decide_eq_false w, if_neg (by decide)]
        refine wpS_bind (wpS_at hlt g (by lia) (by lia) ?_)
        have hl : rkA rk (arrOf st'') (lo + x - 1) < rkA rk (arrOf st'') (lo + x) := by
          have := g.ne (i := lo + x - 1) (j := lo + x) (by lia) (by lia) (by lia)
          lia
        rw [decide_eq_true hl]
        exact wpS_pure ⟨rfl, x, rfl, hx1, gx, dn⟩
    · rintro c st'' ⟨rfl, rfl, gx, dn⟩
      rw [show max (1 + 1) nrem = nrem by lia] at *
      exact ⟨rfl, nrem, rfl, by lia, Nat.le_refl _, dn⟩
    · have d1 : SegDn rk (arrOf st') lo 1 := fun i j _ _ _ => by rw [show i = j by lia]; exact Nat.le_refl _
      exact d1.succ (Nat.le_refl _) (Nat.le_of_lt hdn)
    · rintro c st'' ⟨rfl, n, rfl, m1, m2, dn⟩
      dsimp only
      rw [if_neg (by decide)]
      refine wpS_bind (wpS_rev ?_)
      have hsz : lo + n ≤ (arrOf st'').size := by lia
      have w2 : Wn lo (lo + nrem) st'' (setArr st'' (mirror (arrOf st'') lo (lo + n) ((lo + n - lo) / 2))) := ⟨rfl, rfl, rfl, mirror_perm _ _ _ _, fun k hk => by
        show (mirror _ _ _ _)[k]? = _
        rw [getElem?_mirror_all hsz, if_neg (by lia)]⟩
      have up2 : SegUp rk (mirror (arrOf st'') lo (lo + n) ((lo + n - lo) / 2)) lo n := by
        intro i j hi hij hj
        rw [rkA_congr (j := lo + (lo + n) - 1 - i) (ys := arrOf st'') (by rw [getElem?_mirror_all hsz, if_pos ⟨hi, by lia⟩]), rkA_congr (i := j) (j := lo + (lo + n) - 1 - j) (ys := arrOf st'') (by rw [getElem?_mirror_all hsz, if_pos ⟨by lia, hj⟩])]
        exact dn _ _ (by lia) (by lia) (by lia)
      generalize hst : setArr st'' (mirror (arrOf st'') lo (lo + n) ((lo + n - lo) / 2)) = st2 at w2 ⊢
      have up2 : SegUp rk (arrOf st2) lo n := by rw [← hst]; exact up2
      have g2 := g.of w2
      have hs2 := w2.size
      refine wpS_bind (wpS_mono (wpS_forRange (I := fun x c st' => st' = st2 ∧ c = (none, x) ∧ x ≤ nrem ∧ SegUp rk (arrOf st2) lo x)
        (Q := fun c st' => st' = st2 ∧ ∃ n, c = (none, n) ∧ 1 ≤ n ∧ n ≤ nrem ∧ SegUp rk (arrOf st2) lo n) ?_ ?_ ⟨rfl, rfl, m2, up2⟩) ?_)
      · rintro x c st' hx1 hx2 ⟨rfl, rfl, gx, up⟩
        refine wpS_bind (wpS_at hlt g2 (by lia) (by lia) ?_)
        dsimp only
        by_cases w : rkA rk (arrOf st') (lo + x) < rkA rk (arrOf st') (lo + x - 1)
        · rw [decide_eq_true w, if_pos rfl]
          exact wpS_pure ⟨rfl, x, rfl, by lia, gx, up⟩
        · rw [decide_eq_false w, if_neg (by decide)]
          exact wpS_pure ⟨rfl, rfl, by lia, up.succ (by lia) (Nat.le_of_not_lt w)⟩
      · rintro c st' ⟨rfl, rfl, gx, up⟩
        rw [show max n nrem = nrem by lia] at *
        exact ⟨rfl, nrem, rfl, h1, Nat.le_refl _, up⟩
      · rintro c st' ⟨rfl, n', rfl, p1, p2, up'⟩
        exact wpS_pure (h n' st' p1 p2 w2 up')

theorem wpS_move {src dst : Nat} {st : SortSt} {Q : Unit → SortSt → Prop} (h : Q () (setArr st (bubble (arrOf st) src (src - dst)))) : wpS M A E s (moveDown' src dst) Q st := by
  rw [moveDown'_eq]; exact wpS_modify h
theorem wpS_binLo (hlt : LtOk M A E s rk ok κ) {lo n oo : Nat} {st : SortSt} {Q : Bool → SortSt → Prop} (g : Gd rk ok κ st) (hn : lo + n ≤ (arrOf st).size) (hok : oo ≤ n) (hs : SegUp rk (arrOf st) lo oo)
    (h : ∀ st', Wn lo (lo + n) st st' → SegUp rk (arrOf st') lo n → Q true st') : wpS M A E s (binarySort' lo n oo) Q st := by
  rw [binarySort'_eq]
  refine wpS_bind (wpS_mono (wpS_forRange (I := fun k c st' => c = (none, ()) ∧ Wn lo (lo + n) st st' ∧ SegUp rk (arrOf st') lo (min k n))
    (Q := fun c st' => c = (none, ()) ∧ Wn lo (lo + n) st st' ∧ SegUp rk (arrOf st') lo n) ?_ ?_ ⟨rfl, .refl .., ?_⟩) ?_)
  · rintro k c st' hk1 hk2 ⟨rfl, wn, up⟩
    have g' := g.of wn
    have hsz := wn.size
    rw [show min k n = k by lia] at up
    refine wpS_bind (wpS_mono (wpS_forRange (I := fun x c st'' => st'' = st' ∧ ∃ l r, c = (none, l, r) ∧ l ≤ r ∧ r ≤ k ∧ r - l ≤ k - x ∧ (∀ i, i < l → rkA rk (arrOf st') (lo + i) ≤ rkA rk (arrOf st') (lo + k)) ∧ (∀ i, r ≤ i → i < k → rkA rk (arrOf st') (lo + k) < rkA rk (arrOf st') (lo + i)))
      (Q := fun c st'' => st'' = st' ∧ ∃ l r, c = (none, l, r) ∧ l ≤ k ∧ (∀ i, i < l → rkA rk (arrOf st') (lo + i) ≤ rkA rk (arrOf st') (lo + k)) ∧ (∀ i, l ≤ i → i < k → rkA rk (arrOf st') (lo + k) < rkA rk (arrOf st') (lo + i))) ?_ ?_ ⟨rfl, 0, k, rfl, by lia, by lia, by lia, fun i hi => by lia, fun i h1 h2 => by lia⟩) ?_)
    · rintro x c st'' _ hx ⟨rfl, l, r, rfl, lr, rk', pr, lo', hi'⟩
      dsimp only
      by_cases c1 : l ≥ r
      · rw [if_pos c1]
        exact wpS_pure ⟨rfl, l, r, rfl, by lia, lo', fun i h1 h2 => hi' i (by lia) h2⟩
      rw [if_neg c1]
      refine wpS_bind (wpS_at hlt g' (by lia) (by lia) ?_)
      dsimp only
      by_cases w : rkA rk (arrOf st'') (lo + k) < rkA rk (arrOf st'') (lo + (l + r) / 2)
      · rw [decide_eq_true w, if_pos rfl]
        exact wpS_pure ⟨rfl, _, _, rfl, by lia, by lia, by lia, lo', fun i h1 h2 => Nat.lt_of_lt_of_le w (up _ _ (by lia) (by lia) (by lia))⟩
      · rw [decide_eq_false w, if_neg (by decide)]
        exact wpS_pure ⟨rfl, _, _, rfl, by lia, by lia, by lia, fun i h1 => Nat.le_trans (up _ (lo + (l + r) / 2) (by lia) (by lia) (by lia)) (Nat.le_of_not_lt w), hi'⟩
    · rintro c st'' ⟨rfl, l, r, rfl, lr, rk', pr, lo', hi'⟩
      exact ⟨rfl, l, r, rfl, by lia, lo', fun i h1 h2 => hi' i (by lia) h2⟩
    · rintro c st'' ⟨rfl, l, r, rfl, lk, lo', hi'⟩
      dsimp only
      have hsrc : lo + k < (arrOf st'').size := by lia
      refine wpS_bind (wpS_move (wpS_pure ⟨rfl, wn.trans ⟨rfl, rfl, rfl, bubble_perm _ _ _, fun j hj => ?_⟩, ?_⟩))
      · show (bubble _ _ _)[j]? = _
        rw [getElem?_bubble hsrc _ (by lia), if_neg (by lia), if_neg (by lia)]
      · rw [show min (k + 1) n = k + 1 by lia]
        show SegUp rk (bubble (arrOf st'') (lo + k) (lo + k - (lo + l))) lo (k + 1)
        have at' : ∀ j, rkA rk (bubble (arrOf st'') (lo + k) (lo + k - (lo + l))) j = if j = lo + l then rkA rk (arrOf st'') (lo + k) else if lo + l < j ∧ j ≤ lo + k then rkA rk (arrOf st'') (j - 1) else rkA rk (arrOf st'') j := fun j => by
          have := getElem?_bubble hsrc (lo + k - (lo + l)) (by lia) j
          rw [show lo + k - (lo + k - (lo + l)) = lo + l by lia] at this
          by_cases e1 : j = lo + l
          · rw [if_pos e1] at this ⊢; exact rkA_congr this
          · rw [if_neg e1] at this ⊢
            by_cases e2 : lo + l < j ∧ j ≤ lo + k
            · rw [if_pos e2] at this ⊢; exact rkA_congr this
            · rw [if_neg e2] at this ⊢; exact rkA_congr this
        intro i j hi hij hj
        rw [at', at']
        by_cases e1 : i = lo + l
        · rw [if_pos e1]
          by_cases e2 : j = lo + l
          · rw [if_pos e2]; exact Nat.le_refl _
          · rw [if_neg e2, if_pos (by lia)]
            have := hi' (j - 1 - lo) (by lia) (by lia)
            rw [show lo + (j - 1 - lo) = j - 1 by lia] at this
            exact Nat.le_of_lt this
        · rw [if_neg e1]
          by_cases e2 : j = lo + l
          · rw [if_pos e2, if_neg (by lia)]
            have := lo' (i - lo) (by lia)
            rwa [show lo + (i - lo) = i by lia] at this
          · rw [if_neg e2]
            by_cases e3 : lo + l < i
            · rw [if_pos (by lia), if_pos (by lia)]
              exact up _ _ (by lia) (by lia) (by lia)
            · rw [if_neg (by lia)]
              by_cases e4 : lo + l < j
              · rw [if_pos (by lia)]
                exact up _ _ (by lia) (by lia) (by lia)
              · rw [if_neg (by lia)]
                exact up _ _ (by lia) (by lia) (by lia)
  · rintro c st' ⟨rfl, wn, up⟩
    rw [show min (max (max oo 1) n) n = n by lia] at up
    exact ⟨rfl, wn, up⟩
  · intro i j hi hij hj
    by_cases e : oo = 0
    · rw [show i = j by lia]; exact Nat.le_refl _
    · exact hs i j hi hij (by lia)
  · rintro c st' ⟨rfl, wn, up⟩
    exact wpS_pure (h st' wn up)
end
end Mine

namespace Mine
open PySem PyProof.Rows

section
variable {M : Model} {A : Around} {E : Value → Shared → Prop} {s : Shared} {rk : Keyed → Nat} {ok : Keyed → Prop} {κ : SortKind}

theorem set_fold (base : Nat) {f : Array Keyed → Keyed × Nat → Array Keyed} (hf : ∀ a p j, f a (p, j) = a.setIfInBounds (base + j) p) : ∀ (r : List Keyed) (off : Nat) (arr : Array Keyed), base + off + r.length ≤ arr.size →
    ((r.zipIdx off).foldl f arr).toList = arr.toList.take (base + off) ++ r ++ arr.toList.drop (base + off + r.length)
  | [], off, arr, _ => by rw [List.zipIdx_nil, List.foldl_nil, List.append_nil, List.length_nil, Nat.add_zero, List.take_append_drop]
  | p :: r, off, arr, h => by
    rw [List.length_cons] at h
    have hl : base + off < arr.toList.length := by rw [Array.length_toList]; lia
    rw [List.zipIdx_cons, List.foldl_cons, hf, set_fold base hf r (off + 1) _ (by rw [Array.size_setIfInBounds]; lia), Array.toList_setIfInBounds, List.set_eq_take_append_cons_drop, if_pos hl]
    have e1 : (arr.toList.take (base + off) ++ p :: arr.toList.drop (base + off + 1)).take (base + (off + 1)) = arr.toList.take (base + off) ++ [p] := by
      rw [List.take_append, List.length_take, Nat.min_eq_left (Nat.le_of_lt hl), show base + (off + 1) - (base + off) = 1 by lia, List.take_of_length_le (by rw [List.length_take]; lia)]
      rfl
    have e2 : (arr.toList.take (base + off) ++ p :: arr.toList.drop (base + off + 1)).drop (base + (off + 1) + r.length) = arr.toList.drop (base + off + (p :: r).length) := by
      rw [List.drop_append, List.length_take, Nat.min_eq_left (Nat.le_of_lt hl), List.drop_eq_nil_iff.mpr (by rw [List.length_take]; lia), List.nil_append, show base + (off + 1) + r.length - (base + off) = r.length + 1 by lia, List.drop_succ_cons, List.drop_drop]
      congr 1
      rw [List.length_cons]; lia
    rw [e1, e2, List.append_assoc, List.append_assoc, List.append_assoc]
    rfl

theorem seg_up {arr : Array Keyed} {lo n : Nat} (h : SegUp rk arr lo n) (hn : lo + n ≤ arr.size) : Up rk ((arr.toList.drop lo).take n) := by
  unfold Up
  rw [List.pairwise_iff_getElem]
  intro i j hi hj hij
  rw [List.length_take, List.length_drop, Array.length_toList] at hi hj
  rw [List.getElem_take, List.getElem_take, List.getElem_drop, List.getElem_drop]
  have := h (lo + i) (lo + j) (by lia) (by lia) (by lia)
  rwa [rkA_toList (by rw [Array.length_toList]; lia), rkA_toList (by rw [Array.length_toList]; lia)] at this

theorem wpS_gallop_seg (hlt : LtOk M A E s rk ok κ) {left : Bool} {key : Keyed} {arr : Array Keyed} {base n hint : Nat} {st : SortSt} {Q : Option Nat → SortSt → Prop} (hn : base + n ≤ arr.size) (hh : hint < n) (hok : ∀ p ∈ arr, ok p) (hkey : ok key) (hk : kindOf st = κ) (up : SegUp rk arr base n)
    (h : ∀ k, k ≤ n → (∀ q, q < k → if left then rkA rk arr (base + q) < rk key else rkA rk arr (base + q) ≤ rk key) → (∀ q, k ≤ q → q < n → if left then rk key ≤ rkA rk arr (base + q) else rk key < rkA rk arr (base + q)) → Q (some k) st) :
    wpS M A E s (gallop' left key arr base n hint) Q st := by
  refine wpS_gallop hlt hn hh hok hkey hk (fun i => if left then decide (rkA rk arr (base + i) < rk key) else !decide (rk key < rkA rk arr (base + i))) (fun _ => rfl) (fun i j h1 h2 h3 => ?_) fun k h1 h2 h3 => h k h1 (fun q hqk => ?_) fun q hqk hqn => ?_
  · have hle := up (base + i) (base + j) (by lia) (by lia) (by lia)
    cases left with
    | true => simp at h3 ⊢; lia
    | false => simp at h3 ⊢; lia
  · have := h2 q hqk
    cases left with
    | true => simpa using this
    | false => simpa using this
  · have := h3 q hqk hqn
    cases left with
    | true => simpa using this
    | false => simpa using this

theorem mem_seg {arr : Array Keyed} {lo n : Nat} {x : Keyed} (hx : x ∈ (arr.toList.drop lo).take n) : ∃ i, lo ≤ i ∧ i < lo + n ∧ i < arr.size ∧ rk x = rkA rk arr i := by
  obtain ⟨q, hq, rfl⟩ := List.getElem_of_mem hx
  rw [List.length_take, List.length_drop, Array.length_toList] at hq
  refine ⟨lo + q, by lia, by lia, by lia, ?_⟩
  rw [rkA_toList (by rw [Array.length_toList]; lia), List.getElem_take, List.getElem_drop]
theorem mem_front {arr : Array Keyed} {n : Nat} {x : Keyed} (hx : x ∈ arr.toList.take n) : ∃ i, i < n ∧ i < arr.size ∧ rk x = rkA rk arr i := by
  obtain ⟨i, _, h2, h3, h4⟩ := mem_seg (rk := rk) (lo := 0) (n := n) (by rw [List.drop_zero]; exact hx)
  exact ⟨i, by lia, h3, h4⟩
theorem mem_back {arr : Array Keyed} {n : Nat} {x : Keyed} (hx : x ∈ arr.toList.drop n) : ∃ i, n ≤ i ∧ i < arr.size ∧ rk x = rkA rk arr i := by
  obtain ⟨q, hq, rfl⟩ := List.getElem_of_mem hx
  rw [List.length_drop, Array.length_toList] at hq
  refine ⟨n + q, by lia, by lia, ?_⟩
  rw [rkA_toList (by rw [Array.length_toList]; lia), List.getElem_drop]

theorem wpS_set {st st' : SortSt} {Q : PUnit → SortSt → Prop} (h : Q ⟨⟩ st') : wpS M A E s (set st' : StateT SortSt Sem PUnit) Q st := by
  unfold wpS; rw [StateT.run_set]; exact wpAny_pure ⟨rfl, h⟩
theorem wpS_set' {st x : SortSt} {Q : PUnit → SortSt → Prop} (h : ∀ st', kindOf st' = kindOf x → arrOf st' = arrOf x → pendingOf st' = pendingOf x → failedOf st' = failedOf x → Q ⟨⟩ st') : wpS M A E s (set x : StateT SortSt Sem PUnit) Q st := wpS_set (h x rfl rfl rfl rfl)
/-- the whole row is sorted -/
theorem up_all {arr : Array Keyed} {n1 n2 : Nat} (hsz : n1 + n2 = arr.size) (u1 : SegUp rk arr 0 n1) (u2 : SegUp rk arr n1 n2) (h : ∀ i j, i < n1 → n1 ≤ j → j < arr.size → rkA rk arr i ≤ rkA rk arr j) : Up rk arr.toList := by
  have hs : SegUp rk arr 0 arr.size := by
    intro i j _ hij hj
    by_cases e1 : j < n1
    · exact u1 i j (Nat.zero_le _) hij (by lia)
    · by_cases e2 : i < n1
      · exact h i j e2 (by lia) (by lia)
      · exact u2 i j (by lia) hij (by lia)
  have := seg_up hs (by lia)
  rwa [List.drop_zero, List.take_of_length_le (by rw [Array.length_toList]; exact Nat.le_refl _)] at this

theorem wpS_mergeAt (hlt : LtOk M A E s rk ok κ) {st : SortSt} {n1 n2 p1 p2 : Nat} {Q : Bool → SortSt → Prop} (g : Gd rk ok κ st) (hp : pendingOf st = #[(0, n1, p1), (n1, n2, p2)]) (hsz : n1 + n2 = (arrOf st).size) (h1 : 1 ≤ n1) (h2 : 1 ≤ n2) (u1 : SegUp rk (arrOf st) 0 n1) (u2 : SegUp rk (arrOf st) n1 n2) (hf : failedOf st = none)
    (h : ∀ st', (arrOf st').Perm (arrOf st) → Up rk (arrOf st').toList → (pendingOf st').size = 1 → failedOf st' = none → kindOf st' = κ → Q true st') : wpS M A E s (mergeAt' 0) Q st := by
  unfold mergeAt'
  refine wpS_bind (wpS_get ?_)
  have q0 : (pendingOf st)[0]? = some (0, n1, p1) := by rw [hp]; rfl
  have q1 : (pendingOf st)[0 + 1]? = some (n1, n2, p2) := by rw [hp]; rfl
  rw [q0, q1]
  dsimp only
  refine wpS_bind (wpS_set' fun st1 f1 f2 f3 f4 => ?_)
  have a1 : arrOf st1 = arrOf st := f2
  have a2 : kindOf st1 = κ := f1.trans g.kind
  have a3 : (pendingOf st1).size = 1 := by
    rw [f3]
    show (((pendingOf st).setIfInBounds 0 (0, n1 + n2, p1)).eraseIdxIfInBounds (0 + 1)).size = 1
    rw [hp]; simp [Array.eraseIdxIfInBounds]
  have a4 : failedOf st1 = none := f4.trans hf
  clear f1 f2 f3 f4 q0 q1 hp
  have hn1 : n1 < (arrOf st).size := by lia
  refine wpS_bind (wpS_elem hn1 (wpS_bind (wpS_gallop_seg (arr := arrOf st) hlt (by lia) (by lia) g.ok (g.ok _ (Array.getElem_mem _)) a2 u1 fun k k1 k2 k3 => ?_)))
  dsimp only
  simp only [Bool.false_eq_true, if_false, Nat.zero_add] at k2 k3
  have eb : rk (arrOf st)[n1] = rkA rk (arrOf st) n1 := (rkA_get hn1).symm
  rw [eb] at k2 k3
  have plain : ∀ (_ : ∀ i j, i < n1 → n1 ≤ j → j < (arrOf st).size → rkA rk (arrOf st) i ≤ rkA rk (arrOf st) j), Q true st1 := fun hh => h st1 (by rw [a1]) (by rw [a1]; exact up_all hsz u1 u2 hh) a3 a4 a2
  by_cases c1 : (n1 - k == 0) = true
  · rw [if_pos c1]
    have e : k = n1 := by have := beq_iff_eq.mp c1; lia
    subst e
    exact wpS_pure (plain fun i j hi hj hjs => Nat.le_trans (k2 i hi) (u2 _ _ (Nat.le_refl _) hj (by lia)))
  rw [if_neg c1]
  have hkn : k < n1 := by have : n1 - k ≠ 0 := fun e => c1 (beq_iff_eq.mpr e); lia
  have hla : 0 + k + (n1 - k) - 1 < (arrOf st).size := by lia
  have ela : 0 + k + (n1 - k) - 1 = n1 - 1 := by lia
  refine wpS_bind (wpS_elem hla (wpS_bind (wpS_gallop_seg (arr := arrOf st) hlt (by lia) (by lia) g.ok (g.ok _ (Array.getElem_mem _)) a2 u2 fun l l1 l2 l3 => ?_)))
  dsimp only
  simp only [if_true] at l2 l3
  have el : rk (arrOf st)[0 + k + (n1 - k) - 1] = rkA rk (arrOf st) (n1 - 1) := (rkA_get (rk := rk) hla).symm.trans (by rw [ela])
  rw [el] at l2 l3
  by_cases c2 : (l == 0) = true
  · rw [if_pos c2]
    have e := beq_iff_eq.mp c2
    subst e
    refine wpS_pure (plain fun i j hi hj hjs => Nat.le_trans (u1 i (n1 - 1) (Nat.zero_le _) (by lia) (by lia)) ?_)
    have := l3 (j - n1) (Nat.zero_le _) (by lia)
    rwa [show n1 + (j - n1) = j by lia] at this
  rw [if_neg c2]
  have hl0 : 0 < l := by have : l ≠ 0 := fun e => c2 (beq_iff_eq.mpr e); lia
  rw [Nat.zero_add]
  have lx : ((arrOf st).extract k n1).toList = ((arrOf st).toList.drop k).take (n1 - k) := ext_toList ..
  have ly : ((arrOf st).extract n1 (n1 + l)).toList = ((arrOf st).toList.drop n1).take l := by rw [ext_toList, Nat.add_sub_cancel_left]
  have sx : ((arrOf st).extract k n1).size = n1 - k := by rw [Array.size_extract]; lia
  have sy : ((arrOf st).extract n1 (n1 + l)).size = l := by rw [Array.size_extract]; lia
  have ux : Up rk ((arrOf st).extract k n1).toList := by
    rw [lx]
    exact seg_up (fun i j hi hij hj => u1 i j (Nat.zero_le _) hij (by lia)) (by lia)
  have uy : Up rk ((arrOf st).extract n1 (n1 + l)).toList := by
    rw [ly]
    exact seg_up (fun i j hi hij hj => u2 i j hi hij (by lia)) (by lia)
  have ox : ∀ p ∈ (arrOf st).extract k n1, ok p := fun p hp => g.ok p (by
    have : p ∈ ((arrOf st).extract k n1).toList := Array.mem_toList_iff.mpr hp
    rw [lx] at this
    exact Array.mem_toList_iff.mp (List.mem_of_mem_drop (List.mem_of_mem_take this)))
  have oy : ∀ p ∈ (arrOf st).extract n1 (n1 + l), ok p := fun p hp => g.ok p (by
    have : p ∈ ((arrOf st).extract n1 (n1 + l)).toList := Array.mem_toList_iff.mpr hp
    rw [ly] at this
    exact Array.mem_toList_iff.mp (List.mem_of_mem_drop (List.mem_of_mem_take this)))
  have hy0 : rk (((arrOf st).extract n1 (n1 + l))[0]'(by lia)) = rkA rk (arrOf st) n1 := by rw [Array.getElem_extract, ← eb]; rfl
  have hx1 : rk (((arrOf st).extract k n1)[((arrOf st).extract k n1).size - 1]'(by lia)) = rkA rk (arrOf st) (n1 - 1) := by
    rw [Array.getElem_extract, ← rkA_get (rk := rk) (arr := arrOf st) (i := k + (((arrOf st).extract k n1).size - 1)) (by lia)]
    congr 1
    lia
  have p0 : ∀ y ∈ ((arrOf st).extract k n1).toList, rk (((arrOf st).extract n1 (n1 + l))[0]'(by lia)) ≤ rk y := fun y hy => by
    rw [lx] at hy
    obtain ⟨i, i1, i2, i3, i4⟩ := mem_seg (rk := rk) hy
    rw [hy0, i4]
    exact Nat.le_of_lt (k3 i i1 (by lia))
  have p1 : ∀ x ∈ ((arrOf st).extract n1 (n1 + l)).toList, rk x ≤ rk (((arrOf st).extract k n1)[((arrOf st).extract k n1).size - 1]'(by lia)) := fun x hx => by
    rw [ly] at hx
    obtain ⟨i, i1, i2, i3, i4⟩ := mem_seg (rk := rk) hx
    rw [hx1, i4]
    have := l2 (i - n1) (by lia)
    rw [show n1 + (i - n1) = i by lia] at this
    exact Nat.le_of_lt this
  have fin : ∀ (r : Array Keyed) (st3 : SortSt) (f : Array Keyed → Keyed × Nat → Array Keyed), (∀ a p j, f a (p, j) = a.setIfInBounds (k + j) p) → Mgd rk ((arrOf st).extract k n1).toList ((arrOf st).extract n1 (n1 + l)).toList r → arrOf st3 = List.foldl f (arrOf st) r.toList.zipIdx → (pendingOf st3).size = 1 → failedOf st3 = none → kindOf st3 = κ → Q true st3 := fun r st3 f hf' hm e1 e2 e3 e4 => by
    have hlen : r.toList.length = n1 - k + l := by
      have := hm.1.length_eq
      simp only [List.length_append, Array.length_toList, sx, sy] at this
      rw [Array.length_toList]; exact this
    have hto := set_fold k hf' r.toList 0 (arrOf st) (by rw [hlen]; lia)
    rw [← e1, Nat.add_zero, hlen, show k + (n1 - k + l) = n1 + l by lia] at hto
    have hL : (arrOf st).toList = (arrOf st).toList.take k ++ (((arrOf st).toList.drop k).take (n1 - k) ++ ((arrOf st).toList.drop n1).take l) ++ (arrOf st).toList.drop (n1 + l) := by
      have e5 : ((arrOf st).toList.drop k).take (n1 - k) ++ ((arrOf st).toList.drop n1).take l = ((arrOf st).toList.drop k).take (n1 - k + l) := by
        rw [take_add' ((arrOf st).toList.drop k) (n1 - k) l, List.drop_drop, show k + (n1 - k) = n1 by lia]
      rw [e5, ← take_add', show k + (n1 - k + l) = n1 + l by lia, List.take_append_drop]
    refine h st3 ?_ ?_ e2 e3 e4
    · refine Array.perm_iff_toList_perm.mpr ?_
      rw [hto]
      have := hm.1
      rw [lx, ly] at this
      refine List.Perm.trans ?_ (List.Perm.of_eq hL.symm)
      exact (this.append_left _).append_right _
    · rw [hto]
      have inXY : ∀ x ∈ r.toList, ∃ i, k ≤ i ∧ i < n1 + l ∧ rk x = rkA rk (arrOf st) i := fun x hx => by
        have := hm.1.mem_iff.mp hx
        rw [lx, ly] at this
        rcases List.mem_append.mp this with q | q
        · obtain ⟨i, i1, i2, _, i4⟩ := mem_seg (rk := rk) q
          exact ⟨i, i1, by lia, i4⟩
        · obtain ⟨i, i1, i2, _, i4⟩ := mem_seg (rk := rk) q
          exact ⟨i, by lia, by lia, i4⟩
      have lowXY : ∀ i j, i < k → k ≤ j → j < (arrOf st).size → rkA rk (arrOf st) i ≤ rkA rk (arrOf st) j := fun i j hi hj hjs => by
        by_cases e : j < n1
        · exact u1 i j (Nat.zero_le _) (by lia) (by lia)
        · exact Nat.le_trans (k2 i hi) (u2 _ _ (Nat.le_refl _) (by lia) (by lia))
      have highXY : ∀ i j, i < n1 + l → n1 + l ≤ j → j < (arrOf st).size → rkA rk (arrOf st) i ≤ rkA rk (arrOf st) j := fun i j hi hj hjs => by
        by_cases e : i < n1
        · refine Nat.le_trans (u1 i (n1 - 1) (Nat.zero_le _) (by lia) (by lia)) ?_
          have := l3 (j - n1) (by lia) (by lia)
          rwa [show n1 + (j - n1) = j by lia] at this
        · exact u2 i j (by lia) (by lia) (by lia)
      refine List.pairwise_append.mpr ⟨List.pairwise_append.mpr ⟨?_, hm.2, fun x hx y hy => ?_⟩, ?_, fun x hx y hy => ?_⟩
      · have := seg_up (rk := rk) (arr := arrOf st) (lo := 0) (n := k) (fun i j hi hij hj => u1 i j hi hij (by lia)) (by lia)
        rwa [List.drop_zero] at this
      · obtain ⟨i, i1, i2, i3⟩ := mem_front (rk := rk) hx
        obtain ⟨j, j1, j2, j3⟩ := inXY y hy
        rw [i3, j3]
        exact lowXY i j i1 j1 (by lia)
      · have := seg_up (rk := rk) (arr := arrOf st) (lo := n1 + l) (n := n2 - l) (fun i j hi hij hj => u2 i j (by lia) hij (by lia)) (by lia)
        rwa [List.take_of_length_le (by rw [List.length_drop, Array.length_toList]; lia)] at this
      · obtain ⟨j, j1, j2, j3⟩ := mem_back (rk := rk) hy
        rw [j3]
        rcases List.mem_append.mp hx with hx | hx
        · obtain ⟨i, i1, i2, i3⟩ := mem_front (rk := rk) hx
          rw [i3]
          exact lowXY i j i1 (by lia) j2
        · obtain ⟨i, i1, i2, i3⟩ := inXY x hx
          rw [i3]
          exact highXY i j i2 j1 j2
  by_cases c3 : n1 - k ≤ l
  all_goals first
    | (
      rw [if_pos c3]
      refine wpS_bind (wpS_mergeLo (a := (arrOf st).extract k n1) (b := (arrOf st).extract n1 (n1 + l)) hlt (by rw [sx]; lia) (by rw [sy]; lia) ox oy a2 ux uy p0 p1 fun r st2 sm hm => ?_))
    | (
      rw [if_neg c3]
      refine wpS_bind (wpS_mergeHi (a := (arrOf st).extract k n1) (b := (arrOf st).extract n1 (n1 + l)) hlt (by rw [sx]; lia) (by rw [sy]; lia) ox oy a2 ux uy p0 p1 fun r st2 sm hm => ?_))
  all_goals
    refine wpS_bind (wpS_modify (wpS_bind (wpS_get ?_)))
    have ef : failedOf st2 = none := sm.2.2.2.trans a4
    have key := fin r (SortSt.mk' (kindOf st2) (List.foldl (fun a x => match x with | (p, j) => a.setIfInBounds (k + j) p) (arrOf st2) r.toList.zipIdx) (pendingOf st2) (gallopOf st2) (failedOf st2)) (fun a x => match x with | (p, j) => a.setIfInBounds (k + j) p) (fun _ _ _ => rfl) hm (by show List.foldl _ (arrOf st2) _ = _; rw [sm.2.1, a1]) (by show (pendingOf st2).size = 1; rw [sm.2.2.1]; exact a3) ef (sm.1.trans a2)
    refine wpS_pure ?_
    show Q (failedOf st2).isNone _
    rw [show (failedOf st2).isNone = true by rw [ef]; rfl]
    exact key
end
end Mine

namespace Mine
open PySem PyProof.Rows

section
variable {M : Model} {A : Around} {E : Value → Shared → Prop} {s : Shared} {rk : Keyed → Nat} {ok : Keyed → Prop} {κ : SortKind}

theorem minRun_half {n : Nat} (h2 : 2 ≤ n) (h : n < 128) : 1 ≤ minRun' n n 0 ∧ minRun' n n 0 ≤ n ∧ n ≤ 2 * minRun' n n 0 := by
  obtain ⟨f, rfl⟩ : ∃ f, n = f + 1 := ⟨n - 1, by lia⟩
  rw [minRun'_succ]
  by_cases c : f + 1 < 64
  · rw [if_pos c]; lia
  · rw [if_neg c]
    obtain ⟨e, rfl⟩ : ∃ e, f = e + 1 := ⟨f - 1, by lia⟩
    rw [minRun'_succ, if_pos (by lia)]
    lia

structure Ph1 (rk : Keyed → Nat) (st st' : SortSt) (n1 : Nat) : Prop where
  perm : (arrOf st').Perm (arrOf st)
  kind : kindOf st' = kindOf st
  fail : failedOf st' = none
  pend : pendingOf st' = #[(0, n1, 0)]
  up : SegUp rk (arrOf st') 0 n1
structure Ph2 (rk : Keyed → Nat) (st st' : SortSt) : Prop where
  perm : (arrOf st').Perm (arrOf st)
  kind : kindOf st' = kindOf st
  fail : failedOf st' = none
  runs : ∃ n1 n2 pw, pendingOf st' = #[(0, n1, pw), (n1, n2, 0)] ∧ 1 ≤ n1 ∧ 1 ≤ n2 ∧ n1 + n2 = (arrOf st).size ∧ SegUp rk (arrOf st') 0 n1 ∧ SegUp rk (arrOf st') n1 n2
structure Dn (rk : Keyed → Nat) (st st' : SortSt) : Prop where
  perm : (arrOf st').Perm (arrOf st)
  fail : failedOf st' = none
  pend : (pendingOf st').size = 1
  up : Up rk (arrOf st').toList

theorem Gd.perm {st st' : SortSt} (g : Gd rk ok κ st) (hp : (arrOf st').Perm (arrOf st)) (hk : kindOf st' = kindOf st) : Gd rk ok κ st' := ⟨fun p h => g.ok p (hp.mem_iff.mp h), (hp.toList.map rk).nodup_iff.mpr g.dist, hk.trans g.kind⟩

theorem wpS_sortRuns (hlt : LtOk M A E s rk ok κ) {st : SortSt} {Q : Unit → SortSt → Prop} (g : Gd rk ok κ st) (h2 : 2 ≤ (arrOf st).size) (h128 : (arrOf st).size < 128) (hp : pendingOf st = #[]) (hf : failedOf st = none)
    (h : ∀ st', (arrOf st').Perm (arrOf st) → Up rk (arrOf st').toList → failedOf st' = none → Q () st') : wpS M A E s sortRuns' Q st := by
  rw [sortRuns'_eq]
  refine wpS_bind (wpS_get ?_)
  obtain ⟨m1, m2, m3⟩ := minRun_half h2 h128
  dsimp only
  generalize hN : (arrOf st).size = N at *
  generalize minRun' N N 0 = mr at *
  refine wpS_bind (wpS_mono (wpS_forRange (I := fun x c st' => (x = 0 ∧ c = (none, 0) ∧ st' = st) ∨ (∃ n1, c = (none, n1) ∧ Ph1 rk st st' n1 ∧ mr ≤ n1 ∧ n1 ≤ N ∧ (x = 1 ∨ n1 = N)) ∨ (c = (none, N) ∧ Ph2 rk st st'))
    (Q := fun c st' => c = (none, N) ∧ (Ph1 rk st st' N ∨ Ph2 rk st st')) ?_ ?_ (.inl ⟨rfl, rfl, rfl⟩)) ?_)
  · rintro x c st' _ hx (⟨rfl, rfl, rfl⟩ | ⟨n1, rfl, p1, q1, q2, q3⟩ | ⟨rfl, p2⟩)
    · dsimp only
      rw [if_neg (by lia)]
      refine wpS_bind (wpS_countLo hlt g (by lia) (by lia) fun n st1 n1 n2 wn up => ?_)
      dsimp only
      by_cases c : n < mr
      · rw [if_pos c]
        refine wpS_bind (wpS_rule (wpS_bind (wpS_binLo hlt (g.of wn) (by rw [wn.size]; lia) (by lia) up fun st2 wn2 up2 => ?_)))
        rw [if_neg (by decide)]
        refine wpS_bind (wpS_get ?_)
        have ep : pendingOf st2 = #[] := by rw [wn2.pend, wn.pend, hp]
        have em : min (N - 0) mr = mr := by lia
        rw [em] at up2 ⊢
        rw [show (pendingOf st2).back? = none by rw [ep]; rfl]
        refine wpS_bind (wpS_modify (wpS_pure (.inr (.inl ⟨mr, by rw [Nat.zero_add], ⟨wn2.perm.trans wn.perm, wn2.kind.trans wn.kind, wn2.fail.trans (wn.fail.trans hf), ?_, up2⟩, Nat.le_refl _, m2, .inl rfl⟩))))
        show (pendingOf st2).push (0, mr, 0) = _
        rw [ep]; rfl
      · rw [if_neg c]
        refine wpS_bind (wpS_get ?_)
        have ep : pendingOf st1 = #[] := by rw [wn.pend, hp]
        rw [show (pendingOf st1).back? = none by rw [ep]; rfl]
        refine wpS_bind (wpS_modify (wpS_pure (.inr (.inl ⟨n, by rw [Nat.zero_add], ⟨wn.perm, wn.kind, wn.fail.trans hf, ?_, up⟩, by lia, by lia, .inl rfl⟩))))
        show (pendingOf st1).push (0, n, 0) = _
        rw [ep]; rfl
    · dsimp only
      by_cases c0 : n1 ≥ N
      · rw [if_pos c0]
        have e : n1 = N := by lia
        subst e
        exact wpS_pure ⟨rfl, .inl p1⟩
      rw [if_neg c0]
      have g1 := g.perm p1.perm p1.kind
      have hs1 : (arrOf st').size = N := by rw [p1.perm.size_eq, hN]
      refine wpS_bind (wpS_countLo hlt g1 (by lia) (by lia) fun n st1 k1 k2 wn up => ?_)
      dsimp only
      -- a second run that ends the row
      have fin : ∀ (st2 : SortSt) (pw : Nat), Wn n1 (n1 + (N - n1)) st' st2 → SegUp rk (arrOf st2) n1 (N - n1) → Ph2 rk st (setPending (setPending st2 ((pendingOf st2).modify ((pendingOf st2).size - 1) fun x => (x.1, x.2.1, pw))) (((pendingOf st2).modify ((pendingOf st2).size - 1) fun x => (x.1, x.2.1, pw)).push (n1, N - n1, 0))) := fun st2 pw w2 u2 => by
        refine ⟨w2.perm.trans p1.perm, w2.kind.trans p1.kind, w2.fail.trans p1.fail, n1, N - n1, pw, ?_, by lia, by lia, by lia, ?_, u2⟩
        · show ((pendingOf st2).modify ((pendingOf st2).size - 1) fun x => (x.1, x.2.1, pw)).push (n1, N - n1, 0) = _
          rw [w2.pend, p1.pend]
          apply Array.toList_inj.mp
          rw [Array.toList_push, Array.toList_modify]
          rfl
        · intro i j hi hij hj
          show rkA rk (arrOf st2) i ≤ rkA rk (arrOf st2) j
          rw [rkA_congr (w2.out i (.inl (by lia))), rkA_congr (w2.out j (.inl (by lia)))]
          exact p1.up i j hi hij hj
      by_cases c : n < mr
      all_goals first
        | (
          rw [if_pos c]
          refine wpS_bind (wpS_rule (wpS_bind (wpS_binLo hlt (g1.of wn) (by rw [wn.size]; lia) (by lia) up fun st2 wn2 up2 => ?_)))
          rw [if_neg (by decide)]
          have em : min (N - n1) mr = N - n1 := by lia
          rw [em] at wn2 up2 ⊢
          have w2 := wn.trans wn2
          clear wn2)
        | (
          rw [if_neg c]
          have em : n = N - n1 := by lia
          rw [em] at up ⊢
          have up2 := up
          have w2 := wn
          generalize st1 = st2 at up2 w2 ⊢)
      all_goals
        refine wpS_bind (wpS_get ?_)
        have ep : pendingOf st2 = #[(0, n1, 0)] := by rw [w2.pend, p1.pend]
        rw [show (pendingOf st2).back? = some (0, n1, 0) by rw [ep]; rfl]
        dsimp only
        refine wpS_bind (wpS_mono (wpS_forRange (I := fun x c st'' => st'' = st2 ∧ c = (none, ())) (Q := fun c st'' => st'' = st2 ∧ c = (none, ())) ?_ ?_ ⟨rfl, rfl⟩) ?_)
        · rintro x c st'' _ _ ⟨rfl, rfl⟩
          refine wpS_bind (wpS_get ?_)
          rw [if_neg (fun q => by rw [ep] at q; exact absurd q (Nat.lt_irrefl 1))]
          exact wpS_pure ⟨rfl, rfl⟩
        · rintro c st'' h; exact h
        · rintro c st'' ⟨rfl, rfl⟩
          dsimp only
          refine wpS_bind (wpS_modify (wpS_bind (wpS_modify (wpS_pure (.inr (.inr ⟨by rw [show n1 + (N - n1) = N by lia], fin st'' _ w2 up2⟩))))))
    · dsimp only
      rw [if_pos (Nat.le_refl _)]
      exact wpS_pure ⟨rfl, .inr p2⟩
  · rintro c st' (⟨e, _⟩ | ⟨n1, rfl, p1, q1, q2, q3⟩ | ⟨rfl, p2⟩)
    · lia
    · have e : n1 = N := by lia
      subst e
      exact ⟨rfl, .inl p1⟩
    · exact ⟨rfl, .inr p2⟩
  · rintro c st' ⟨rfl, hph⟩
    dsimp only
    refine wpS_bind (wpS_mono (wpS_forRange (I := fun x c st' => c = (none, ()) ∧ (Dn rk st st' ∨ (x = 0 ∧ Ph2 rk st st'))) (Q := fun c st' => c = (none, ()) ∧ Dn rk st st') ?_ ?_ ⟨rfl, ?_⟩) ?_)
    · rintro x c st1 _ hx ⟨rfl, hd⟩
      refine wpS_bind (wpS_get ?_)
      rcases hd with hd | ⟨rfl, p2⟩
      · rw [if_pos (by rw [hd.pend]; exact Nat.le_refl _)]
        exact wpS_pure ⟨rfl, hd⟩
      · obtain ⟨n1, n2, pw, e1, e2, e3, e4, e5, e6⟩ := p2.runs
        have es : (pendingOf st1).size = 2 := by rw [e1]; rfl
        rw [if_neg (by lia), es]
        have hs1 : (arrOf st1).size = N := by rw [p2.perm.size_eq, hN]
        refine wpS_bind (wpS_mergeAt hlt (g.perm p2.perm p2.kind) e1 (by lia) e2 e3 e5 e6 p2.fail fun st2 f1 f2 f3 f4 f5 => ?_)
        exact wpS_pure ⟨rfl, .inl ⟨f1.trans p2.perm, f4, f3, f2⟩⟩
    · rintro c st1 ⟨rfl, hd⟩
      refine ⟨rfl, hd.resolve_right fun q => ?_⟩
      have := q.1
      lia
    · rcases hph with p1 | p2
      · left
        refine ⟨p1.perm, p1.fail, by rw [p1.pend]; rfl, ?_⟩
        have hs1 : (arrOf st').size = N := by rw [p1.perm.size_eq, hN]
        have := seg_up p1.up (by lia)
        rwa [List.drop_zero, List.take_of_length_le (by rw [Array.length_toList]; lia)] at this
      · exact .inr ⟨rfl, p2⟩
    · rintro c st1 ⟨rfl, hd⟩
      exact wpS_pure (h st1 hd.perm hd.up hd.fail)
end
end Mine

namespace Mine
open PySem PyProof.Rows

/-! ## lexical order of int lists, and ranks -/
theorem ltL_irr : ∀ a : List Int, ltL a a = false
  | [] => rfl
  | a :: as => by simp [ltL, ltL_irr as]
theorem ltL_trans : ∀ {a b c : List Int}, ltL a b = true → ltL b c = true → ltL a c = true
  | [], [], _, h, _ => by simp [ltL] at h
  | [], _ :: _, [], _, h => by simp [ltL] at h
  | [], _ :: _, _ :: _, _, _ => rfl
  | _ :: _, [], _, h, _ => by simp [ltL] at h
  | _ :: _, _ :: _, [], _, h => by simp [ltL] at h
  | a :: as, b :: bs, c :: cs, h1, h2 => by
    unfold ltL at h1 h2 ⊢
    by_cases e1 : a = b
    · subst e1
      rw [if_pos rfl] at h1
      by_cases e2 : a = c
      · rw [if_pos e2] at h2 ⊢; exact ltL_trans h1 h2
      · rw [if_neg e2] at h2 ⊢; exact h2
    · rw [if_neg e1] at h1
      by_cases e2 : b = c
      · subst e2; rw [if_neg e1]; exact h1
      · rw [if_neg e2] at h2
        simp only [decide_eq_true_eq] at h1 h2
        rw [if_neg (by lia)]
        simp only [decide_eq_true_eq]; lia
theorem ltL_tot : ∀ {a b : List Int}, ltL a b = false → ltL b a = false → a = b
  | [], [], _, _ => rfl
  | [], _ :: _, h, _ => by simp [ltL] at h
  | _ :: _, [], _, h => by simp [ltL] at h
  | a :: as, b :: bs, h1, h2 => by
    unfold ltL at h1 h2
    by_cases e : a = b
    · subst e
      rw [if_pos rfl] at h1 h2
      rw [ltL_tot h1 h2]
    · rw [if_neg e] at h1
      rw [if_neg (Ne.symm e)] at h2
      simp only [decide_eq_false_iff_not] at h1 h2
      lia
def rkL (ks : List (List Int)) (k : List Int) : Nat := ks.countP fun x => ltL x k
theorem countP_le {α : Type} {p q : α → Bool} : ∀ {l : List α}, (∀ x ∈ l, p x = true → q x = true) → l.countP p ≤ l.countP q
  | [], _ => Nat.le_refl _
  | x :: l, h => by
    have ih := countP_le fun y hy => h y (.tail _ hy)
    rw [List.countP_cons, List.countP_cons]
    cases hp : p x with
    | true => rw [h x (.head _) hp]; simp; exact ih
    | false => simp; lia
theorem countP_lt {α : Type} {p q : α → Bool} : ∀ {l : List α} {y : α}, (∀ x ∈ l, p x = true → q x = true) → y ∈ l → p y = false → q y = true → l.countP p < l.countP q
  | x :: l, y, h, hy, h1, h2 => by
    rw [List.countP_cons, List.countP_cons]
    rcases List.mem_cons.mp hy with rfl | hy
    · rw [h1, h2]
      have := countP_le fun z hz => h z (.tail _ hz)
      simp; lia
    · have ih := countP_lt (fun z hz => h z (.tail _ hz)) hy h1 h2
      cases hp : p x with
      | true => rw [h x (.head _) hp]; simp; exact ih
      | false => simp; lia
theorem rkL_lt {ks : List (List Int)} {a b : List Int} (ha : a ∈ ks) (hb : b ∈ ks) : ltL a b = decide (rkL ks a < rkL ks b) := by
  have up : ∀ {a b : List Int}, a ∈ ks → ltL a b = true → rkL ks a < rkL ks b := fun {a b} ha h => countP_lt (fun x _ hx => ltL_trans hx h) ha (ltL_irr a) h
  cases h : ltL a b with
  | true => rw [decide_eq_true (up ha h)]
  | false =>
    refine (decide_eq_false fun q => ?_).symm
    cases h' : ltL b a with
    | true => have := up hb h'; lia
    | false => rw [ltL_tot h h'] at q; exact Nat.lt_irrefl _ q
theorem rkL_inj {ks : List (List Int)} {a b : List Int} (ha : a ∈ ks) (hb : b ∈ ks) (h : rkL ks a = rkL ks b) : a = b :=
  ltL_tot (by rw [rkL_lt ha hb]; simp [h]) (by rw [rkL_lt hb ha]; simp [h])

/-- the first parting -/
def lexR : List Int → List Int → Option Bool
  | a :: as, b :: bs => if a = b then lexR as bs else some (decide (a < b))
  | _, _ => none
theorem ltL_lexR : ∀ a b : List Int, ltL a b = (lexR a b).getD (decide (a.length < b.length))
  | [], [] => rfl
  | [], _ :: _ => by simp [ltL, lexR]
  | _ :: _, [] => by simp [ltL, lexR]
  | a :: as, b :: bs => by
    unfold ltL lexR
    by_cases e : a = b
    · rw [if_pos e, if_pos e, ltL_lexR as bs]; simp
    · rw [if_neg e, if_neg e]; rfl

/-! ## tuples of ints as keys -/
noncomputable def KeyOf (h : Heap) (v : Value) (k : List Int) : Prop := ∃ a vs n, v = .ref a ∧ h.get? a = some ⟨.type "tuple", none, .seq vs.toArray n, #[]⟩ ∧ IntsAre vs k
theorem IntsAre.fn : ∀ {vs : List Value} {k k' : List Int}, IntsAre vs k → IntsAre vs k' → k = k'
  | _, _, _, .nil, .nil => rfl
  | _, _, _, .cons _ _ a, .cons _ _ b => by rw [IntsAre.fn a b]
theorem KeyOf.fn {h : Heap} {v : Value} {k k' : List Int} (a : KeyOf h v k) (b : KeyOf h v k') : k = k' := by
  obtain ⟨x, vs, n, rfl, e, i⟩ := a
  obtain ⟨_, vs', n', q, e', i'⟩ := b
  cases q
  rw [e] at e'
  have : vs = vs' := by cases e'; rfl
  subst this
  exact IntsAre.fn i i'
theorem KeyOf.ofR {h : Heap} {v : Value} {k : List Int} {as : List Addr} (r : R h v (.tuple (k.map .int)) as) : KeyOf h v k := by
  cases r with
  | @tuple a n xs as vs e ra =>
    have hi : intsOf (k.map PyData.int) = some k := by
      clear ra e
      induction k with
      | nil => rfl
      | cons x k ih => show (intsOf (k.map PyData.int)).map (x :: ·) = _; rw [ih]; rfl
    exact ⟨a, vs, n, rfl, e, (ra.ints hi).1⟩
theorem KeyOf.stays [SF : Soft] {G : Addr → Prop} {h h' : Heap} {v : Value} {k : List Int} (x : KeyOf h v k) (g : KG G h h') : KeyOf h' v k :=
  let ⟨a, vs, n, e, ea, i⟩ := x; ⟨a, vs, n, e, g.stay ea (.inr ⟨rfl, _, _, rfl⟩), i⟩
open Classical in
noncomputable def readKey (h : Heap) (v : Value) : List Int := if q : ∃ k, KeyOf h v k then q.choose else []
theorem readKey_eq {h : Heap} {v : Value} {k : List Int} (x : KeyOf h v k) : readKey h v = k := by
  unfold readKey
  have q : ∃ k, KeyOf h v k := ⟨k, x⟩
  rw [dif_pos q]
  exact q.choose_spec.fn x

section
variable {prog : Program} {w : World} {A : Around} {E : Value → Shared → Prop} {s : Shared}
theorem oneLt_ints (c : Bool) {a b : Int} {t u : Tok} {Q : Bool → Shared → Prop} (h : Q (decide (a < b)) s) : wpAny (model prog w) A (oneLt' c (.int a t) (.int b u)) Q E s := by
  cases c with
  | true => exact oneLt_int h
  | false =>
    rw [oneLt'_eq]
    simp only [Bool.false_eq_true, if_false]
    exact wpAny_bind (wpAny_lt_int (wpAny_truthy_bool h))

theorem keyLt_tuples (c : Bool) (x y : Value) : keyLt' (tuples' c) x y = (do
    let xs ← Builtin.List.listItems x; let ys ← Builtin.List.listItems y
    for ((p, q), i) in (xs.toList.zip ys.toList).zipIdx do
      if !(← eqBool p q) then return ← oneLt' (c && i == 0) p q
    return xs.size < ys.size) := rfl
theorem lex_loop {body : (Value × Value) × Nat → Option Bool × Unit → Sem (ForInStep (Option Bool × Unit))} {R : Option Bool × Unit → Shared → Prop}
    (hb : ∀ (a b : Int) (t u : Tok) (i : Nat) (R' : ForInStep (Option Bool × Unit) → Shared → Prop), R' (if a = b then .yield (none, ()) else .done (some (decide (a < b)), ())) s → wpAny (model prog w) A (body ((.int a t, .int b u), i) (none, ())) R' E s) :
    ∀ {vs us : List Value} {k k' : List Int} (i : Nat), IntsAre vs k → IntsAre us k' → R (lexR k k', ()) s → wpAny (model prog w) A (forIn ((vs.zip us).zipIdx i) (none, ()) body) R E s
  | _, _, _, _, i, .nil, _, h => by
    simp only [List.zip_nil_left, List.zipIdx_nil, List.forIn_nil]
    exact wpAny_pure h
  | _, _, _, _, i, .cons _ _ _, .nil, h => by
    simp only [List.zip_nil_right, List.zipIdx_nil, List.forIn_nil]
    exact wpAny_pure h
  | _, _, _, _, i, .cons a t r, .cons b u q, h => by
    simp only [List.zip_cons_cons, List.zipIdx_cons, List.forIn_cons]
    refine wpAny_bind (hb a b t u i _ ?_)
    unfold lexR at h
    by_cases e : a = b
    · rw [if_pos e] at h ⊢
      exact lex_loop hb (i + 1) r q h
    · rw [if_neg e] at h ⊢
      exact wpAny_pure h
theorem keyLt_key (c : Bool) {x y : Value} {k k' : List Int} {Q : Bool → Shared → Prop} (hx : KeyOf s.heap x k) (hy : KeyOf s.heap y k') (h : Q (ltL k k') s) : wpAny (model prog w) A (keyLt' (tuples' c) x y) Q E s := by
  obtain ⟨a, vs, n, rfl, ea, ia⟩ := hx
  obtain ⟨b, us, m, rfl, eb, ib⟩ := hy
  rw [keyLt_tuples]
  refine wpAny_bind (listItems_at ea rfl (wpAny_bind (listItems_at eb rfl ?_)))
  simp only [List.toList_toArray]
  refine wpAny_bind (lex_loop (fun p q t u i R' hR => ?_) 0 ia ib ?_)
  · dsimp only
    refine wpAny_bind (wpAny_eqBool_int ?_)
    by_cases e : p = q
    · subst e
      rw [if_pos rfl] at hR
      rw [if_neg (by simp)]
      exact wpAny_pure hR
    · rw [if_neg e] at hR
      rw [if_pos (by simpa using e)]
      exact wpAny_bind (oneLt_ints _ (wpAny_pure hR))
  · rw [ltL_lexR] at h
    have l1 := ia.length
    have l2 := ib.length
    cases e : lexR k k' with
    | none =>
      rw [e] at h
      refine wpAny_pure ?_
      simp only [List.size_toArray]
      rw [← l1, ← l2] at h
      exact h
    | some r => rw [e] at h; exact wpAny_pure h

theorem ltOk_keys (c : Bool) (ks : List (List Int)) : LtOk (model prog w) A E s (fun p => rkL ks (readKey s.heap p.1)) (fun p => ∃ k ∈ ks, KeyOf s.heap p.1 k) (tuples' c) := by
  intro x y st Q hx hy hk h
  obtain ⟨k, hm, hx⟩ := hx
  obtain ⟨k', hm', hy⟩ := hy
  have e : (some (decide ((fun p : Keyed => rkL ks (readKey s.heap p.1)) x < (fun p : Keyed => rkL ks (readKey s.heap p.1)) y))) = some (ltL k k') := by
    rw [rkL_lt hm hm', ← readKey_eq hx, ← readKey_eq hy]
  rw [e] at h
  rw [lt'_eq]
  refine wpS_bind (wpS_get ?_)
  rw [hk]
  refine wpS_bind (wpS_lift (wpAny_attempt (keyLt_key c hx hy ⟨rfl, ?_⟩)))
  exact wpS_pure h

theorem firstTup (v : Value) : firstOfTuple' v = (do
    if (← typeOf v) != .type "tuple" then return none
    return (← Builtin.List.listItems v)[0]?) := rfl
theorem firsts_keys {Q : List (Option Value) → Shared → Prop} : ∀ {ks : List (List Int)} {vs : List Value}, vs.length = ks.length → (∀ (i : Nat) (v : Value) (k : List Int), vs[i]? = some v → ks[i]? = some k → KeyOf s.heap v k ∧ k ≠ []) → (∀ fs : List Value, fs.length = vs.length → (∀ f ∈ fs, ∃ a t, f = .int a t) → Q (fs.map some) s) → wpAny (model prog w) A (vs.mapM firstOfTuple') Q E s
  | [], [], _, _, h => by rw [List.mapM_nil]; exact wpAny_pure (h [] rfl fun _ q => nomatch q)
  | [], _ :: _, hl, _, _ => by simp at hl
  | _ :: _, [], hl, _, _ => by simp at hl
  | k :: ks, v :: vs, hl, hk, h => by
    obtain ⟨⟨a, us, n, rfl, ea, ia⟩, hne⟩ := hk 0 v k rfl rfl
    rw [List.mapM_cons]
    refine wpAny_bind ?_
    rw [firstTup]
    refine wpAny_bind (wpAny_typeOf (T := "tuple") ⟨_, ea, rfl⟩ ?_)
    rw [if_neg (by decide)]
    refine wpAny_bind (listItems_at ea rfl (wpAny_pure ?_))
    cases ia with
    | nil => exact absurd rfl hne
    | cons x t r =>
      refine wpAny_bind (firsts_keys (ks := ks) (vs := vs) (by simpa using hl) (fun i v k h1 h2 => hk (i + 1) v k (by simpa using h1) (by simpa using h2)) fun fs hfl hfs => wpAny_pure ?_)
      have := h (.int x t :: fs) (by simp [hfl]) (fun f hf => (List.mem_cons.mp hf).elim (fun e => ⟨x, t, e⟩) (hfs f))
      simpa using this
theorem mapM_type {Q : List Value → Shared → Prop} : ∀ {fs : List Value}, (∀ f ∈ fs, ∃ a t, f = .int a t) → Q (fs.map fun _ => .type "int") s → wpAny (model prog w) A (fs.mapM typeOf) Q E s
  | [], _, h => by rw [List.mapM_nil]; exact wpAny_pure h
  | f :: fs, hf, h => by
    obtain ⟨a, t, rfl⟩ := hf f (.head _)
    rw [List.mapM_cons]
    refine wpAny_bind (wpAny_pure (wpAny_bind (mapM_type (fs := fs) (fun f h => hf f (.tail _ h)) (wpAny_pure h))))
theorem kind_keys {ks : List (List Int)} {vs : List Value} {Q : SortKind → Shared → Prop} (hl : vs.length = ks.length) (h1 : 1 ≤ vs.length) (hk : ∀ (i : Nat) (v : Value) (k : List Int), vs[i]? = some v → ks[i]? = some k → KeyOf s.heap v k ∧ k ≠ []) (h : Q (tuples' true) s) : wpAny (model prog w) A (keyKind' vs.toArray) Q E s := by
  rw [keyKind'_eq, List.mapM_toArray, map_eq_pure_bind]
  refine wpAny_bind (wpAny_bind (firsts_keys hl hk fun fs hfl hfs => wpAny_pure ?_))
  have hall : ((fs.map some).toArray.all fun x => x.isSome) = true := by simp
  rw [if_pos hall]
  refine wpAny_bind (wpAny_rule ?_)
  have hfm : ((fs.map some).toArray.filterMap id) = fs.toArray := by simp
  rw [hfm, oneTypeOnly'_eq, List.mapM_toArray, map_eq_pure_bind]
  refine wpAny_bind (wpAny_bind (wpAny_bind (mapM_type hfs (wpAny_pure ?_))))
  obtain ⟨f₁, fr, rfl⟩ : ∃ f₁ fr, fs = f₁ :: fr := by
    cases fs with
    | nil => simp at hfl; lia
    | cons f₁ fr => exact ⟨f₁, fr, rfl⟩
  have hall2 : ((List.map (fun _ => Value.type "int") (f₁ :: fr)).toArray.all fun x => x == Value.type "int") = true := by
    simp only [List.all_toArray, List.all_map, List.all_eq_true]
    intro _ _
    rfl
  have h0 : (List.map (fun _ => Value.type "int") (f₁ :: fr)).toArray[0]? = some (Value.type "int") := by simp
  rw [h0]
  simp only [hall2, if_true]
  exact wpAny_pure (wpAny_pure h)
end
end Mine

set_option linter.unusedSectionVars false
namespace Mine
open PySem PyProof.Rows
variable [SF : Soft]

theorem sort_key_eq (q a : Addr) : Builtin.«list.sort» ⟨[.ref a], [(Str.ofString "key", .ref q)]⟩ = (do
    let items ← Builtin.List.listItems (.ref a)
    Builtin.List.listUpdate (.ref a) fun _ => #[]
    let before ← seqEpoch a
    let held ← newTuple items.toList
    let store ← newList []
    holding [held, store] (do
      rule "list.sort.key"
      for x in items do
        match ← (call (.ref q) [x]).attempt with
        | .ok k => Builtin.List.listUpdate store (·.push k)
        | .error e =>
          rule "list.sort.key-raised"
          let made ← Builtin.List.listItems store
          Builtin.List.listUpdate store fun _ => #[]
          letGo made.toList.reverse [e]
          Builtin.List.listUpdate (.ref a) fun _ => items; throw e
      let keys ← Builtin.List.listItems store
      let kind ← if items.size < 2 then pure general' else keyKind' keys
      let ((), s) ← (if items.size < 2 then pure () else sortRuns').run (SortSt.mk' kind (keys.zip items) #[] 7 none)
      let sorted := (arrOf s).map (·.2)
      Builtin.List.listUpdate store fun _ => #[]
      letGo ((arrOf s).map (·.1)).toList (failedOf s).toList
      let touched := (← seqEpoch a) != before
      Builtin.List.listUpdate (.ref a) fun _ => sorted
      if let some e := failedOf s then rule "list.sort.comparison-raised"; throw e
      if touched then rule "list.sort.modified"; raiseError "ValueError" "list modified during sort"
      ret .none)) := rfl

theorem fold_for {M : Model} {A : Around} {E : Value → Shared → Prop} {body : Value → PUnit → Sem (ForInStep PUnit)} {Q : PUnit → Shared → Prop} (I : Nat → Shared → Prop) : ∀ (vs : List Value) (i : Nat) (s : Shared), I i s →
    (∀ (j : Nat) (x : Value) (s' : Shared), vs[j]? = some x → I (i + j) s' → wpAny M A (body x ⟨⟩) (fun r s'' => r = .yield ⟨⟩ ∧ I (i + j + 1) s'') E s') → (∀ s', I (i + vs.length) s' → Q ⟨⟩ s') → wpAny M A (forIn vs PUnit.unit body) Q E s
  | [], i, s, h, _, fin => by
    rw [List.forIn_nil]; exact wpAny_pure (fin s h)
  | x :: vs, i, s, h, step, fin => by
    rw [List.forIn_cons]
    refine wpAny_bind (wpAny_mono (step 0 x s rfl h) (fun r s' hr => ?_) fun _ _ e => e)
    obtain ⟨rfl, hi⟩ := hr
    refine fold_for I vs (i + 1) s' hi (fun j y s'' hj hI => ?_) fun s'' hI => fin s'' ?_
    · have e : i + 1 + j = i + (j + 1) := by lia
      rw [e] at hI ⊢
      exact step (j + 1) y s'' (by simpa using hj) hI
    · have e : i + (x :: vs).length = i + 1 + vs.length := by rw [List.length_cons]; lia
      rw [e]; exact hI

section
variable {prog : Program} {w : World} {A : Around} {E : Value → Shared → Prop}
/-- an old place's new list being written -/
theorem Kp.wr {s0 s : Shared} {a : Addr} {xs : Array Value} {n : Nat} {h' : Heap} (k : Kp s0 s) (e : s.heap.get? a = some (seqObj "list" xs n)) (h0 : s0.heap.get? a = Option.none) (hs : Heap.SameBut a s.heap h') : Kp s0 { s with heap := h' } := by
  obtain ⟨h, tk, rfl, k⟩ := k
  refine ⟨h', tk, rfl, K.same k hs h0 fun o q => ?_⟩
  rw [e] at q; cases q; exact Stay.not_list

theorem pw_short {α : Type} {R : α → α → Prop} {l : List α} (h : l.length ≤ 1) : l.Pairwise R := by
  rcases l with _ | ⟨x, _ | ⟨y, l⟩⟩
  · exact .nil
  · exact List.pairwise_singleton ..
  · cases h with
    | step h => cases h

theorem zip_list {α β : Type} (a : Array α) (b : List β) : (a.zip b.toArray).toList = a.toList.zip b := by
  first
    | simp
    | (cases a; simp)

theorem zip_get {α β : Type} {a : List α} {b : List β} {i : Nat} {x : α} {y : β} (h1 : a[i]? = some x) (h2 : b[i]? = some y) : (a.zip b)[i]? = some (x, y) := List.getElem?_zip_eq_some.mpr ⟨h1, h2⟩

set_option maxHeartbeats 4000000 in
theorem srt_fin {s0 s : Shared} {D kS : Addr} {vs keys : List Value} {ks : List (List Int)} {e e1 : Nat} {st : SortSt} {P : PySem.Fin → Shared → Prop} (k0 : Kp s0 s) (hk : s.heap.get? kS = some (seqObj "list" keys.toArray e)) (hD : s.heap.get? D = some (seqObj "list" #[] e1)) (f1 : s0.heap.get? kS = none) (f2 : s0.heap.get? D = none) (hne : kS ≠ D)
    (hl : vs.length = ks.length) (hlk : keys.length = ks.length) (h128 : vs.length < 128) (hkey : ∀ (i : Nat) (v : Value) (k : List Int), keys[i]? = some v → ks[i]? = some k → KeyOf s.heap v k)
    (hp : (arrOf st).Perm (keys.toArray.zip vs.toArray)) (hu : (arrOf st).toList.Pairwise fun x y => ltL (readKey s.heap y.1) (readKey s.heap x.1) = false) (hf : failedOf st = none)
    (h : ∀ s' out c, Kp s0 s' → s'.heap.get? D = some (seqObj "list" out c) → (∃ ps : List (List Int × Value), ps.Perm (ks.zip vs) ∧ out.toList = ps.map (·.2) ∧ ps.Pairwise fun x y => ltL y.1 x.1 = false) → P (.done (.ret .none)) s') :
    wpAny (model prog w) A (do
      let sorted := (arrOf st).map (·.2)
      Builtin.List.listUpdate (.ref kS) fun _ => #[]
      letGo ((arrOf st).map (·.1)).toList (failedOf st).toList
      let touched := (← seqEpoch D) != e1
      Builtin.List.listUpdate (.ref D) fun _ => sorted
      if let some e := failedOf st then rule "list.sort.comparison-raised"; throw e
      if touched then rule "list.sort.modified"; raiseError "ValueError" "list modified during sort"
      ret .none) P E s := by
  have s1 := Heap.SameBut.update s.heap kS (Obj.mapSeq fun _ => (#[] : Array Value))
  have hD1 : (s.heap.update kS (Obj.mapSeq fun _ => (#[] : Array Value))).get? D = some (seqObj "list" #[] e1) := (s1.2 D hne.symm).trans hD
  have s2 := Heap.SameBut.update (s.heap.update kS (Obj.mapSeq fun _ => (#[] : Array Value))) D (Obj.mapSeq fun _ => (arrOf st).map (·.2))
  obtain ⟨c2, hc2⟩ : ∃ c2, ((s.heap.update kS (Obj.mapSeq fun _ => (#[] : Array Value))).update D (Obj.mapSeq fun _ => (arrOf st).map (·.2))).get? D = some (seqObj "list" ((arrOf st).map (·.2)) c2) := ⟨_, get?_update_seq hD1 fun _ => (arrOf st).map (·.2)⟩
  have hsz : (arrOf st).size = vs.length := by rw [hp.size_eq, Array.size_zip]; simp; lia
  have k1 := Kp.wr k0 hk f1 s1
  have k2 := Kp.wr (s := { s with heap := s.heap.update kS (Obj.mapSeq fun _ => (#[] : Array Value)) }) k1 hD1 f2 s2
  dsimp only
  refine wpAny_bind (listUpdate_at hk rfl ?_ (by rw [List.size_toArray, sizeLine_eq]; lia) (Nat.zero_le _))
  refine wpAny_bind (wpAny_letGo ?_)
  refine wpAny_bind (seqEpoch_at hD1 rfl ?_)
  refine wpAny_bind (listUpdate_at hD1 rfl ?_ (Nat.zero_le _) (by rw [Array.size_map, hsz, sizeLine_eq]; lia))
  rw [hf]
  simp only [bne_self_eq_false, Bool.false_eq_true, if_false]
  refine wpAny_pure (h _ _ c2 k2 hc2 ⟨(arrOf st).toList.map fun p => (readKey s.heap p.1, p.2), ?_, ?_, ?_⟩)
  · have hl2 : (arrOf st).toList.Perm (keys.zip vs) := by
      have := Array.perm_iff_toList_perm.mp hp
      rwa [zip_list] at this
    refine (hl2.map _).trans (List.Perm.of_eq ?_)
    apply List.ext_getElem?
    intro i
    rw [List.getElem?_map]
    by_cases hi : i < ks.length
    · have q1 : keys[i]? = some keys[i] := List.getElem?_eq_getElem (by lia)
      have q2 : ks[i]? = some ks[i] := List.getElem?_eq_getElem hi
      have q3 : vs[i]? = some vs[i] := List.getElem?_eq_getElem (by lia)
      rw [zip_get q1 q3, zip_get q2 q3]
      simp only [Option.map_some]
      rw [readKey_eq (hkey i _ _ q1 q2)]
    · rw [List.getElem?_eq_none (by rw [List.length_zip]; lia), List.getElem?_eq_none (by rw [List.length_zip]; lia)]
      rfl
  · rw [Array.toList_map, List.map_map]; rfl
  · rw [List.pairwise_map]; exact hu

set_option maxHeartbeats 4000000 in
theorem sort_key {s0 s : Shared} {D q : Addr} {vs : List Value} {ks : List (List Int)} {n : Nat} {P : PySem.Fin → Shared → Prop} (ho : s.heap.get? D = some (seqObj "list" vs.toArray n)) (f2 : s0.heap.get? D = none) (k0 : Kp s0 s)
    (hl : vs.length = ks.length) (h128 : vs.length < 128) (hne : ∀ k ∈ ks, k ≠ []) (hnd : ks.Nodup)
    (hcall : ∀ (i : Nat) (x : Value) (k : List Int) (s' : Shared) (Q : Value → Shared → Prop) (Er : Value → Shared → Prop), vs[i]? = some x → ks[i]? = some k → Kp s0 s' → (∀ v s'', Kp s' s'' → KeyOf s''.heap v k → Q v s'') → wpAny (model prog w) A (call (.ref q) [x]) Q Er s')
    (h : ∀ s' out c, Kp s0 s' → s'.heap.get? D = some (seqObj "list" out c) → (∃ ps : List (List Int × Value), ps.Perm (ks.zip vs) ∧ out.toList = ps.map (·.2) ∧ ps.Pairwise fun x y => ltL y.1 x.1 = false) → P (.done (.ret .none)) s') :
    wpAny (model prog w) A (Builtin.«list.sort» ⟨[.ref D], [(Str.ofString "key", .ref q)]⟩) P E s := by
  rw [sort_key_eq]
  have s1 := Heap.SameBut.update s.heap D (Obj.mapSeq fun _ => (#[] : Array Value))
  obtain ⟨e1, ho1⟩ : ∃ e1, (s.heap.update D (Obj.mapSeq fun _ => (#[] : Array Value))).get? D = some (seqObj "list" #[] e1) := ⟨_, get?_update_seq ho fun _ => #[]⟩
  have k1 := Kp.wr k0 ho f2 s1
  refine wpAny_bind (listItems_at ho rfl ?_)
  refine wpAny_bind (listUpdate_at ho rfl ?_ (by rw [List.size_toArray, sizeLine_eq]; lia) (Nat.zero_le _))
  refine wpAny_bind (seqEpoch_at ho1 rfl ?_)
  refine wpAny_bind (wpAny_newTuple ?_ (by show vs.length ≤ _; rw [sizeLine_eq]; lia))
  refine wpAny_bind (wpAny_newList ?_ (Nat.zero_le _))
  refine wpAny_holding ?_
  generalize hkS : ((s.heap.update D (Obj.mapSeq fun _ => (#[] : Array Value))).push (seqObj "tuple" vs.toArray 0)).objs.size = kS
  have k3 : Kp s0 { s with heap := ((s.heap.update D (Obj.mapSeq fun _ => (#[] : Array Value))).push (seqObj "tuple" vs.toArray 0)).push (seqObj "list" #[] 0) } := (k1.trans (.push _ _ s.toks)).trans (.push _ _ s.toks)
  have hD3 : (((s.heap.update D (Obj.mapSeq fun _ => (#[] : Array Value))).push (seqObj "tuple" vs.toArray 0)).push (seqObj "list" #[] 0)).get? D = some (seqObj "list" #[] e1) := Heap.get?_push_of_some _ (Heap.get?_push_of_some _ ho1)
  have hK3 : (((s.heap.update D (Obj.mapSeq fun _ => (#[] : Array Value))).push (seqObj "tuple" vs.toArray 0)).push (seqObj "list" #[] 0)).get? kS = some (seqObj "list" #[] 0) := by rw [← hkS]; exact Heap.get?_push_size _ rfl
  have hDk : kS ≠ D := by
    rw [← hkS]
    exact Nat.ne_of_gt (Heap.lt_size (Heap.get?_push_of_some _ ho1))
  have f1 : s0.heap.get? kS = none := by
    refine (k1.trans (.push _ (seqObj "tuple" vs.toArray 0) s.toks)).none ?_
    rw [← hkS]
    exact Heap.get?_none_of_le (Nat.le_refl _)
  refine wpAny_bind (wpAny_rule ?_)
  first
    | rw [List.forIn_toArray]
    | (rw [← Array.forIn_toList]; simp only [List.toList_toArray])
    | rw [← Array.forIn_toList]
  refine wpAny_bind (fold_for (fun i s' => Kp s0 s' ∧ s'.heap.get? D = some (seqObj "list" #[] e1) ∧ ∃ (keys : List Value) (e : Nat), keys.length = i ∧ s'.heap.get? kS = some (seqObj "list" keys.toArray e) ∧ ∀ (j : Nat) (v : Value) (k : List Int), keys[j]? = some v → ks[j]? = some k → KeyOf s'.heap v k) vs 0 _ ⟨k3, hD3, [], 0, rfl, hK3, fun j v k hj => by simp at hj⟩ (fun j x s' hj hI => ?_) fun s' hI => ?_)
  · obtain ⟨kp, hD', keys, e, hkl, hk', hkey⟩ := hI
    have hjl : j < ks.length := by rw [← hl]; exact (List.getElem?_eq_some_iff.mp hj).1
    have hkj : ks[j]? = some ks[j] := List.getElem?_eq_getElem hjl
    refine wpAny_bind (wpAny_attempt (hcall j x _ s' _ _ hj hkj kp fun v s'' k'' kv => ?_))
    have hk'' := k''.k.get hk' rfl
    have hD'' := k''.k.get hD' rfl
    have sk := Heap.SameBut.update s''.heap kS (Obj.mapSeq (·.push v))
    have ea : keys.toArray.push v = (keys ++ [v]).toArray := by simp
    obtain ⟨c2, hc2⟩ : ∃ c2, (s''.heap.update kS (Obj.mapSeq (·.push v))).get? kS = some (seqObj "list" (keys ++ [v]).toArray c2) := ⟨_, by rw [← ea]; exact get?_update_seq hk'' (·.push v)⟩
    have kg : KG (fun b => b ≠ kS) s''.heap (s''.heap.update kS (Obj.mapSeq (·.push v))) := KG.same sk (fun q => q rfl) fun o q => by rw [hk''] at q; cases q; exact Stay.not_list
    dsimp only
    refine wpAny_bind (listUpdate_at hk'' rfl ?_ (by rw [List.size_toArray, sizeLine_eq]; lia) (Nat.le_trans (Nat.le_of_eq (Array.size_push ..)) (by rw [List.size_toArray, sizeLine_eq]; lia)))
    refine wpAny_pure ⟨rfl, Kp.wr (kp.trans k'') hk'' f1 sk, (sk.2 D hDk.symm).trans hD'', keys ++ [v], c2, by rw [List.length_append, List.length_singleton, hkl], hc2, fun i u k hi hki => ?_⟩
    by_cases hik : i < keys.length
    · rw [List.getElem?_append_left hik] at hi
      exact ((hkey i u k hi hki).stays k''.k).stays kg
    · rw [List.getElem?_append_right (by lia)] at hi
      have : i - keys.length = 0 := by
        have := (List.getElem?_eq_some_iff.mp hi).1
        simp at this; lia
      rw [this] at hi
      simp at hi
      subst hi
      have hij : i = j := by lia
      subst hij
      rw [hkj] at hki; cases hki
      exact kv.stays kg
  · obtain ⟨kp, hD', keys, e, hkl, hk', hkey⟩ := hI
    have hlk : keys.length = ks.length := by rw [hkl, ← hl]; lia
    refine wpAny_bind (listItems_at hk' rfl ?_)
    by_cases h2 : vs.toArray.size < 2
    · rw [if_pos h2, if_pos h2]
      refine wpAny_bind (wpAny_pure ?_)
      dsimp only
      rw [StateT.run_pure]
      refine wpAny_bind (wpAny_pure ?_)
      dsimp only
      refine srt_fin (st := SortSt.mk' general' (keys.toArray.zip vs.toArray) #[] 7 none) kp hk' hD' f1 f2 hDk hl hlk h128 hkey (Array.Perm.refl _) ?_ rfl h
      have hz : (keys.toArray.zip vs.toArray).toList.length ≤ 1 := by
        rw [zip_list, List.length_zip]; rw [List.size_toArray] at h2; lia
      show ((keys.toArray.zip vs.toArray).toList).Pairwise _
      exact pw_short hz
    · rw [if_neg h2, if_neg h2]
      rw [List.size_toArray] at h2
      refine wpAny_bind (kind_keys (ks := ks) hlk (by lia) (fun i v k hi hki => ⟨hkey i v k hi hki, hne k (List.mem_of_getElem? hki)⟩) ?_)
      have hzs : (keys.toArray.zip vs.toArray).size = vs.length := by rw [Array.size_zip]; simp; lia
      have mem : ∀ p ∈ keys.zip vs, ∃ k ∈ ks, KeyOf s'.heap p.1 k := fun p hp => by
        obtain ⟨i, hi⟩ := List.getElem?_of_mem hp
        obtain ⟨q1, q2⟩ := List.getElem?_zip_eq_some.mp hi
        have hil : i < ks.length := by rw [← hlk]; exact (List.getElem?_eq_some_iff.mp q1).1
        exact ⟨ks[i], List.getElem_mem hil, hkey i _ _ q1 (List.getElem?_eq_getElem hil)⟩
      have ranks : (keys.zip vs).map (fun p => rkL ks (readKey s'.heap p.1)) = ks.map (rkL ks) := by
        apply List.ext_getElem?
        intro i
        rw [List.getElem?_map, List.getElem?_map]
        by_cases hi : i < ks.length
        · have q1 : keys[i]? = some keys[i] := List.getElem?_eq_getElem (by lia)
          have q2 : ks[i]? = some ks[i] := List.getElem?_eq_getElem hi
          have q3 : vs[i]? = some vs[i] := List.getElem?_eq_getElem (by lia)
          rw [zip_get q1 q3, q2]
          simp only [Option.map_some]
          rw [readKey_eq (hkey i _ _ q1 q2)]
        · rw [List.getElem?_eq_none (by rw [List.length_zip]; lia), List.getElem?_eq_none (by lia)]
          rfl
      refine wpAny_bind (wpAny_mono (wpS_sortRuns (ltOk_keys (E := E) (s := s') true ks) (st := SortSt.mk' (tuples' true) (keys.toArray.zip vs.toArray) #[] 7 none)
        (Q := fun _ st' => (arrOf st').Perm (keys.toArray.zip vs.toArray) ∧ failedOf st' = none ∧ Up (fun p => rkL ks (readKey s'.heap p.1)) (arrOf st').toList) ⟨fun p hp => ?_, ?_, rfl⟩ (by show 2 ≤ (keys.toArray.zip vs.toArray).size; rw [hzs]; lia) (by show (keys.toArray.zip vs.toArray).size < 128; rw [hzs]; exact h128) rfl rfl fun st' a1 a2 a3 => ⟨a1, a3, a2⟩) ?_ fun _ _ e => e)
      · have hp' : p ∈ (keys.toArray.zip vs.toArray).toList := Array.mem_def.mp hp
        rw [zip_list] at hp'
        exact mem p hp'
      · show ((keys.toArray.zip vs.toArray).toList.map fun p => rkL ks (readKey s'.heap p.1)).Nodup
        rw [zip_list]
        show ((keys.zip vs).map fun p => rkL ks (readKey s'.heap p.1)).Nodup
        rw [ranks]
        refine List.pairwise_map.mpr (List.Pairwise.imp_of_mem (fun {a b} ha hb hab q => hab (rkL_inj ha hb q)) hnd)
      · rintro ⟨⟨⟩, st'⟩ s'' ⟨rfl, hp, hf, hu⟩
        dsimp only
        refine srt_fin kp hk' hD' f1 f2 hDk hl hlk h128 hkey hp ?_ hf h
        have hm : ∀ p ∈ (arrOf st').toList, ∃ k ∈ ks, KeyOf s''.heap p.1 k := fun p hp' => by
          have := (Array.perm_iff_toList_perm.mp hp).mem_iff.mp hp'
          rw [zip_list] at this
          exact mem p this
        refine List.Pairwise.imp_of_mem (fun {a b} ha hb hab => ?_) hu
        obtain ⟨k, hk, x⟩ := hm a ha
        obtain ⟨k', hk', y⟩ := hm b hb
        have hab' : rkL ks (readKey s''.heap a.1) ≤ rkL ks (readKey s''.heap b.1) := hab
        rw [readKey_eq x, readKey_eq y] at hab' ⊢
        rw [rkL_lt hk' hk]
        exact decide_eq_false (by lia)
end
end Mine

set_option linter.unusedSectionVars false
namespace Mine
open PySem PyProof.Rows
variable [SF : Soft]

section
variable {prog : Program} {w : World} {A : Around} {E : Value → Shared → Prop} {s : Shared}
theorem collect_code {R : Result → Shared → Prop} {r : Addr} {n : Nat} {t u v : Tok} (hh : A.handled = none) (hr : IsRange s.heap r 0 n 1 t u v) (hsmall : Builtin.Range.small 0 n 1 = true) (hn : Builtin.Range.rangeSize 0 n 1 = n) (hlen : n ≤ 2 ^ 24)
    (h : ∀ h' tk acc' c', (∀ b o, s.heap.get? b = some o → h'.get? b = some o) → h'.get? s.heap.objs.size = some { cls := .type "list", dict := none, data := .seq acc' c', slots := #[] } → ItemsOf (fun i v => ∃ t, v = .int (0 + i * 1) t) acc' n → R (.ok (.ret (.ref s.heap.objs.size))) { s with heap := h', toks := tk }) :
    codeAny (model prog w) A (.builtin "proto.collect" ⟨[.ref r], []⟩) R s := by
  refine codeAny_builtin entry_proto_collect' ?_
  show wpAny _ _ (do again (.builtin "list.__iadd__" ⟨[← newList [], .ref r], []⟩)) _ _ s
  refine wpAny_bind (wpAny_newList (wpAny_pure ⟨Code.quiet_builtin _ (by decide +kernel), codeAny_builtin entry_list_iadd' ?_⟩))
  show wpAny _ _ (Builtin.List.listExtendWith (.ref s.heap.objs.size) (.ref r) (.ref s.heap.objs.size)) _ _ { s with heap := s.heap.push (seqObj "list" #[] 0) }
  rw [Around.under_plainId (by decide +kernel)]
  exact wpAny_extend_range (A := A) (s := { s with heap := s.heap.push (seqObj "list" #[] 0) }) (R := R) hh (Heap.get?_push_of_some _ hr) hsmall hn hlen s.heap.objs.size (.ref s.heap.objs.size) 0 (Heap.get?_push_size _ rfl) fun h' tk acc' c' hk hS hacc =>
    h h' tk acc' c' (fun b o e => hk b o (Nat.ne_of_lt (Heap.lt_size e)) (Heap.get?_push_of_some _ e)) hS hacc
theorem collect_range {r : Addr} {n : Nat} {t u v : Tok} {Q : List Value → Shared → Prop} (hh : A.handled = none) (hr : IsRange s.heap r 0 n 1 t u v) (hsmall : Builtin.Range.small 0 n 1 = true) (hn : Builtin.Range.rangeSize 0 n 1 = n) (hlen : n ≤ 2 ^ 24)
    (h : ∀ h' tk (vs : List Value), (∀ b o, s.heap.get? b = some o → h'.get? b = some o) → vs.length = n → (∀ (j : Nat) (v : Value), vs[j]? = some v → ∃ t, v = .int j t) → Q vs { s with heap := h', toks := tk }) : wpAny (model prog w) A (collect (.ref r)) Q E s := by
  unfold collect
  refine wpAny_bind (wpAny_runValue (collect_code hh hr hsmall hn hlen fun h' tk acc' c' hk hS hacc => ?_))
  show wpAny (model prog w) A (do
      let o ← load s.heap.objs.size
      match o.data with
      | .seq xs _ => pure xs.toList
      | _ => unsupported "internal:collect") Q E { s with heap := h', toks := tk }
  refine wpAny_bind (wpAny_load hS ?_)
  refine wpAny_pure (h h' tk acc'.toList hk (by rw [Array.length_toList]; exact hacc.1) fun j v hj => ?_)
  obtain ⟨t, e⟩ := hacc.2 j v (by simpa using hj)
  have q : (0 + (j : Int) * 1) = j := by lia
  exact ⟨t, by rw [e, q]⟩

def natOf : Value → Nat
  | .int i _ => i.toNat
  | _ => 0
theorem ints_of : ∀ (l : List (List Int × Value)), (∀ p ∈ l, ∃ (i : Nat) (t : Tok), p.2 = .int i t) → IntsAre (l.map (·.2)) ((l.map fun p => (p.1, natOf p.2)).map fun p => (p.2 : Int))
  | [], _ => .nil
  | p :: l, h => by
    obtain ⟨i, t, e⟩ := h p (.head _)
    simp only [List.map_cons]
    rw [e]
    exact .cons _ t (ints_of l fun q hq => h q (.tail _ hq))

theorem args_sortedK (a v : Value) : argsOk "sorted" ⟨[a], [(Str.ofString "key", v)]⟩ := by unfold argsOk; kernel_rfl
theorem args_sortK (a v : Value) : argsOk "list.sort" ⟨[a], [(Str.ofString "key", v)]⟩ := by unfold argsOk; kernel_rfl

theorem sorted_range_key {r q : Addr} {n : Nat} {t u v : Tok} {ks : List (List Int)} {Q : Value → Shared → Prop} (hh : A.handled = none) (hr : IsRange s.heap r 0 n 1 t u v) (hsmall : Builtin.Range.small 0 n 1 = true) (hn : Builtin.Range.rangeSize 0 n 1 = n)
    (hl : ks.length = n) (h128 : n < 128) (hne : ∀ k ∈ ks, k ≠ []) (hnd : ks.Nodup)
    (hcall : ∀ (i : Nat) (x : Value) (k : List Int) (s' : Shared) (Q : Value → Shared → Prop) (Er : Value → Shared → Prop), (∃ t, x = .int i t) → ks[i]? = some k → Kp s s' → (∀ v s'', Kp s' s'' → KeyOf s''.heap v k → Q v s'') → wpAny (model prog w) A.in1.in1 (call (.ref q) [x]) Q Er s')
    (h : ∀ (D : Addr) (s' : Shared) (vs : List Value) (c : Nat) (ns : List Int), Kp s s' → s.heap.get? D = none → s'.heap.get? D = some (seqObj "list" vs.toArray c) → IntsAre vs ns → (∃ ps : List (List Int × Nat), ps.Perm (ks.zip (List.range n)) ∧ ns = ps.map (fun p => (p.2 : Int)) ∧ ps.Pairwise fun x y => ltL y.1 x.1 = false) → Q (.ref D) s') :
    wpAny (model prog w) A (call (.builtin "sorted") [.ref r] [(Str.ofString "key", .ref q)]) Q E s := by
  refine call_function_entry_kw kind_sorted plain_sorted entry_sorted (args_sortedK _ _) ?_
  unfold Builtin.«sorted»
  refine wpAny_bind (m := checkCount "sorted" 1 1 _) (wpAny_pure ?_)
  refine wpAny_bind (collect_range (A := A.in1) hh hr hsmall hn (by lia) fun h1 tk1 vs kp hvl hvs => ?_)
  refine wpAny_bind (wpAny_newList ?_ (by rw [sizeLine_eq]; lia))
  have hoL : (h1.push (seqObj "list" vs.toArray 0)).get? h1.objs.size = some (seqObj "list" vs.toArray 0) := Heap.get?_push_size _ rfl
  have k1 : Kp s { s with heap := h1, toks := tk1 } := .of kp
  have k2 : Kp s { s with heap := h1.push (seqObj "list" vs.toArray 0), toks := tk1 } := k1.trans (.push _ _ _)
  have f2 : s.heap.get? h1.objs.size = none := k1.none (Heap.get?_none_of_le (Nat.le_refl _))
  refine wpAny_bind (wpAny_holding (wpAny_call_entry_kw slot_list_sort ⟨_, hoL, rfl⟩ entry_list_sort ?body (args_sortK _ _)))
  case body =>
    refine sort_key (s0 := s) (ks := ks) hoL f2 k2 (by lia) (by lia) hne hnd (fun i x k s' Q Er hx hk kp' hQ => hcall i x k s' Q Er (hvs i x hx) hk kp' hQ) fun s' out c kp' ho hps => ⟨_, rfl, wpAny_pure ⟨_, rfl, ?_⟩⟩
    obtain ⟨ps, p1, p2, p3⟩ := hps
    have hm : ∀ p ∈ ps, ∃ (i : Nat) (t : Tok), p.2 = .int i t := fun p hp => by
      have hp' := p1.mem_iff.mp hp
      obtain ⟨i, hi⟩ := List.getElem?_of_mem (List.of_mem_zip hp').2
      obtain ⟨t, e⟩ := hvs i _ hi
      exact ⟨i, t, e⟩
    have hmap : vs.map natOf = List.range n := by
      apply List.ext_getElem?
      intro i
      rw [List.getElem?_map]
      by_cases hi : i < n
      · have q : vs[i]? = some vs[i] := List.getElem?_eq_getElem (by lia)
        obtain ⟨t, e⟩ := hvs i _ q
        rw [q, List.getElem?_range hi]
        simp only [Option.map_some]
        rw [e]; rfl
      · rw [List.getElem?_eq_none (by lia), List.getElem?_eq_none (by simp; lia)]; rfl
    have ho' : s'.heap.get? h1.objs.size = some (seqObj "list" out.toList.toArray c) := by rw [Array.toArray_toList]; exact ho
    refine h h1.objs.size s' out.toList c _ kp' f2 ho' (by rw [p2]; exact ints_of ps hm) ⟨ps.map fun p => (p.1, natOf p.2), ?_, rfl, ?_⟩
    · refine (p1.map _).trans (List.Perm.of_eq ?_)
      rw [← hmap, List.zip_map_right]
      exact List.map_congr_left fun ⟨x, y⟩ _ => rfl
    · rw [List.pairwise_map]; exact p3
end
end Mine

set_option linter.unusedSectionVars false
namespace Mine
open PySem PyProof.Rows
variable [SF : Soft]

/-! ## a function's arguments, all given by place -/
theorem zip_lookup_none {α : Type} : ∀ {ns : List Str} {vs : List α} {n : Str}, vs.length = ns.length → n ∈ ns → ((ns.zip vs).lookup n).isNone = false
  | [], _, _, _, h => nomatch h
  | m :: ns, [], _, h, _ => by simp at h
  | m :: ns, v :: vs, n, hl, h => by
    rw [List.zip_cons_cons, List.lookup_cons]
    by_cases e : n = m
    · subst e; simp
    · have e' : (n == m) = false := by simpa using e
      rw [e']
      exact zip_lookup_none (by simpa using hl) ((List.mem_cons.mp h).resolve_left e)
theorem filterMap_zip : ∀ {ns : List Str} {vs : List Value}, ns.Nodup → vs.length = ns.length → (ns.filterMap fun n => ((ns.zip vs).lookup n).map (n, ·)) = ns.zip vs
  | [], _, _, _ => rfl
  | m :: ns, [], _, h => by simp at h
  | m :: ns, v :: vs, hn, hl => by
    rw [List.nodup_cons] at hn
    rw [List.filterMap_cons]
    simp only [List.zip_cons_cons, List.lookup_cons, beq_self_eq_true, Option.map_some]
    congr 1
    have ih := filterMap_zip hn.2 (vs := vs) (by simpa using hl)
    have key : ∀ (l : List Str), (∀ n ∈ l, n ≠ m) → (l.filterMap fun n => (match n == m with | true => some v | false => (ns.zip vs).lookup n).map (n, ·)) = l.filterMap fun n => ((ns.zip vs).lookup n).map (n, ·) := by
      intro l hl'
      induction l with
      | nil => rfl
      | cons n l ihl =>
        have e' : (n == m) = false := beq_eq_false_iff_ne.mpr (hl' n (.head _))
        rw [List.filterMap_cons, List.filterMap_cons, ihl fun x hx => hl' x (.tail _ hx)]
        simp only [e']
    exact (key ns fun n hn' e => hn.1 (e ▸ hn')).trans ih
theorem pb {α β : Type} (a : α) (f : α → Sem β) : ((pure a : Sem α) >>= f) = f a := rfl
theorem bind_plain {fd : FuncData} {ps : List Str} {vals : List Value} (h1 : fd.params.posonlyargs = []) (h2 : fd.params.args.map (·.arg) = ps) (h3 : fd.params.vararg = none) (h4 : fd.params.kwonlyargs = []) (h5 : fd.params.kwarg = none) (h6 : fd.defaults = .none)
    (hn : ps.Nodup) (hl : vals.length = ps.length) : bindArgs fd ⟨vals, []⟩ = pure (ps.zip vals) := by
  unfold bindArgs
  simp only [h1, h2, h3, h4, h5, h6, List.map_nil, List.nil_append, hl, List.forIn_nil, List.append_nil, List.length_append, List.length_nil, Nat.zero_add]
  have e0 : seqItems? .none = pure none := rfl
  have e1 : decide (ps.length > ps.length) = false := by simp
  have e2 : (ps.take ps.length).filter (fun n => ((ps.zip vals).lookup n).isNone) = [] := by
    rw [List.take_length, List.filter_eq_nil_iff]
    intro n hn'
    rw [zip_lookup_none hl hn']
    simp
  simp only [e0, pb, e1, Bool.false_and, Bool.false_eq_true, if_false, Option.getD_none, Array.toList_empty, List.length_nil, List.drop_nil, Nat.sub_zero, e2, List.isEmpty_nil, Bool.not_true, List.drop_length, List.zip_nil_left, List.zip_nil_right, List.forIn_nil, filterMap_zip hn hl]

/-! ## the code of a function within a function -/
noncomputable def CodeV (h : Heap) (cv : Value) : Prop := ∃ c o vs q t, cv = .ref c ∧ h.get? c = some o ∧ o.cls = .type "code" ∧ o.data = .fields vs ∧ vs[1]? = some (.str q t)
theorem CodeV.onG {G : Addr → Prop} {h h' : Heap} {cv : Value} (x : CodeV h cv) (k : KG G h h') : CodeV h' cv :=
  let ⟨c, o, vs, q, t, a1, a2, a3, a4⟩ := x; ⟨c, o, vs, q, t, a1, k.stay a2 (.inl ⟨a3, _, a4.1⟩), a3, a4⟩

theorem among_snoc {pos p : Pos} {c x : Value} (l : List Value) (h : TriplesOk l) (hx : codeAmong p (l ++ [rawInt pos.line, rawInt pos.col, c]) = some x) : codeAmong p l = some x ∨ x = c := by
  fun_induction TriplesOk l with
  | case1 =>
    simp only [List.nil_append, codeAmong, rawInt] at hx
    split at hx
    · cases hx; exact .inr rfl
    · cases hx
  | case2 a t b u y rest ih =>
    simp only [List.cons_append, codeAmong] at hx ⊢
    split at hx
    · rename_i hc; rw [if_pos hc]; exact .inl hx
    · rename_i hc; rw [if_neg hc]; exact ih h hx
  | case3 l h1 h2 => exact h.elim

section
variable {M : Model} {A : Around} {E : Value → Shared → Prop} {s : Shared}
theorem fn_code {env : Env} {q : Str} {pos : Pos} {firstLine : Nat} {name qualname : Str} {p : Arguments} {scope : Scope} {body : FuncBody} {Q : Value → Shared → Prop} (X : CodeOk s.heap env.code q)
    (h : ∀ cv h' tk, K s.heap h' → CodeV h' cv → Q cv { s with heap := h', toks := tk }) : wpAny M A (functionCode env pos firstLine name qualname p scope body) Q E s := by
  obtain ⟨c, P, ps, hc, _, hI, hT, hG, hP⟩ := X
  cases hf : codeAmong pos ps.toList with
  | some cv =>
    obtain ⟨c', o, vs, q', t, rfl, r⟩ := hG.2 pos cv hf
    exact wpAny_functionCode_hit hc hI hf (h _ s.heap s.toks KG.refl ⟨c', o, vs, q', t, rfl, r⟩)
  | none =>
    refine wpAny_functionCodeX hc hI hT hf fun c' h' tk hx hge hlt hI' hrec hT' hnew => ?_
    have hPold := hT.2
    have hcv : CodeV h' (.ref c') := by
      obtain ⟨_, _, _, ⟨⟨oc, vc, hoc, hcc, hdc, _⟩, _⟩⟩ := hnew
      obtain ⟨c₂, o₂, vs₂, t₂, e₂, g₂, d₂, n₂⟩ := hrec
      cases e₂
      rw [hoc] at g₂; cases g₂
      exact ⟨_, oc, vs₂, _, t₂, rfl, hoc, hcc, d₂, n₂⟩
    refine h _ h' tk (fun b o _ e => ?_) hcv
    by_cases hb : b = P
    · subst hb
      rw [hPold] at e
      have eo := Option.some.inj e
      refine ⟨_, hT'.2, .tab ps #[rawInt pos.line, rawInt pos.col, .ref c'] hP eo.symm rfl fun G => ⟨?_, fun p cv hcv' => ?_⟩⟩
      · have hl : (ps ++ #[rawInt pos.line, rawInt pos.col, Value.ref c']).toList = ps.toList ++ [rawInt pos.line, rawInt pos.col, .ref c'] := by simp
        rw [hl]; exact TriplesOk_snoc _ _ _ _ G.1
      · have hl : (ps ++ #[rawInt pos.line, rawInt pos.col, Value.ref c']).toList = ps.toList ++ [rawInt pos.line, rawInt pos.col, .ref c'] := by simp
        rw [hl] at hcv'
        rcases among_snoc _ G.1 hcv' with hh | hh
        · obtain ⟨c1, o1, vs1, q1, t1, a1, a2, a3, a4⟩ := G.2 p cv hh
          refine ⟨c1, o1, vs1, q1, t1, a1, hx c1 o1 (fun q => ?_) a2, a3, a4⟩
          rw [q, hPold] at a2; cases a2; cases a3
        · subst hh; exact hcv
    · exact ⟨o, hx b o hb e, .same rfl⟩

/-- a lambda is made -/
noncomputable def LamAt (h : Heap) (f : Addr) (params : Arguments) (body : Expr) (scope : Scope) (clos : List (Str × Addr)) : Prop :=
  ∃ o fd, h.get? f = some o ∧ o.data = .func fd ∧ fd.params = params ∧ fd.body = .expr body ∧ fd.scope = scope ∧ fd.closure = clos ∧ fd.globals = mainGlobals ∧ fd.builtins = builtinsNs ∧ fd.defaults = .none ∧ CodeV h fd.code
theorem LamAt.k {h h' : Heap} {f : Addr} {params : Arguments} {body : Expr} {scope : Scope} {clos : List (Str × Addr)} (x : LamAt h f params body scope clos) (k : K h h') : LamAt h' f params body scope clos :=
  let ⟨o, fd, a1, a2, a3, a4, a5, a6, a7, a8, a9, a10⟩ := x
  ⟨o, fd, K.exact k a1 (fun _ q => by rw [a2] at q; cases q) (fun _ _ q => by rw [a2] at q; cases q), a2, a3, a4, a5, a6, a7, a8, a9, a10.onG k⟩

theorem lam_make {fns : Fns} {env : Env} {q : Str} {params : Arguments} {body : Expr} {scope : Scope} {pos : Pos} {x : Str} {c : Addr} {Q : Value → Shared → Prop} (G : GE fns s.heap) (X : CodeOk s.heap env.code q) (hg : env.globals = mainGlobals)
    (hd : defaultsOf params env = ([], [])) (hcl : closureFor scope env = pure [(x, c)])
    (h : ∀ f s', Kp s s' → LamAt s'.heap f params body scope [(x, c)] → Q (.ref f) s') : wpAny M A (eval (.Lambda params body scope pos) env) Q E s := by
  rw [arm_eval_Lambda, hd]
  refine wpAny_bind (wpAny_pure (wpAny_bind (wpAny_holding (wpAny_pure ?_))))
  rw [makeFunction_eq]
  simp only [List.zip_nil_right, List.filterMap_nil, List.isEmpty_nil, if_true, pure_bind]
  unfold makeTail
  rw [hcl, hg]
  refine wpAny_bind (wpAny_pure ?_)
  simp only [List.isEmpty_cons, Bool.false_eq_true, if_false]
  refine wpAny_bind (wpAny_newTextTuple ?_)
  have k1 : ∀ o : Obj, Kp s { s with heap := s.heap.push o } := fun o => .push s o s.toks
  refine wpAny_bind (fn_code (X.k (k1 _).k) fun cv h' tk k2 hcv => ?_)
  have k12 := (k1 _).trans ⟨h', tk, rfl, k2⟩
  obtain ⟨mg, bm, ob, b1, b2, b3, b4, b5, b6, b7⟩ := G.bm
  have hmg := ns_k b1 k12.k
  refine wpAny_bind (wpAny_builtinsFor hmg b2 b3 (k12.k.get b4 (by unfold hardB; rw [b5]; decide)) b5 b6 b7 ?_)
  refine wpAny_bind (wpAny_nsGet hmg ?_)
  refine wpAny_bind (wpAny_pure (wpAny_newObj_type (h _ _ (k12.trans (.push _ _ tk)) ?_) (by size_fits)))
  exact ⟨_, _, Heap.get?_push_size _ rfl, rfl, rfl, rfl, rfl, rfl, rfl, rfl, rfl, hcv.onG (Kp.push { s with heap := h', toks := tk } _ tk).k⟩
end

/-! ## a lambda is called -/
section
variable {prog : Program} {w : World} {A : Around} {s : Shared}
theorem code_expr {R : Result → Shared → Prop} {e : Expr} {env : Env}
    (h : wpAny (model prog w) (A.deeper env) (eval e env) (fun v s' => R (.ok (.ret v)) s') (fun _ _ => False) s) : codeAny (model prog w) A (.expr e env) R s := by
  refine codeAny_of_tree ?_
  show wpAny _ (A.deeper env) (do point; ret (← (eval e env).onRaise (leaving env))) _ _ s
  exact wpAny_bind (wpAny_point (wpAny_bind (wpAny_onRaise (wpAny_mono h (fun v s' h' => wpAny_pure h') fun _ _ h' => h'.elim))))
theorem lam_call {f : Addr} {params : Arguments} {body : Expr} {scope : Scope} {x t : Str} {c : Addr} {v : Value} {Q : Value → Shared → Prop} {Er : Value → Shared → Prop} (hroom : A.depth < recursionLimit) (nl : s.heap.NoLimit) (L : LamAt s.heap f params body scope [(x, c)])
    (h1 : params.posonlyargs = []) (h2 : params.args.map (·.arg) = [t]) (h3 : params.vararg = none) (h4 : params.kwonlyargs = []) (h5 : params.kwarg = none)
    (hk : scope.kind = .function) (hg : scope.isGenerator = false) (hc : scope.isCoroutine = false) (hn : scope.names = [(t, .local), (x, .free)]) (hxt : x ≠ t)
    (h : ∀ env s', Kp s s' → env.scope = scope → env.globals = mainGlobals → env.builtins = builtinsNs → env.cells = [(x, c)] → s'.heap.Ns env.locals (fun y => [(t, v)].reverse.lookup y) → CodeV s'.heap env.code → 
      wpAny (model prog w) (A.deeper env) (eval body env) Q (fun _ _ => False) s') : wpAny (model prog w) A (call (.ref f) [v]) Q Er s := by
  obtain ⟨o, fd, ho, hd, p1, p2, p3, p4, p5, p6, p7, p8⟩ := L
  have hb : bindArgs fd ⟨[v], []⟩ = pure ([t].zip [v]) := bind_plain (by rw [p1]; exact h1) (by rw [p1]; exact h2) (by rw [p1]; exact h3) (by rw [p1]; exact h4) (by rw [p1]; exact h5) p7 (by simp) rfl
  refine wpAny_call (codeAny_of_tree ?_)
  show wpAny _ A.in1 (callAny (.ref f) ⟨[v], []⟩) _ _ s
  simp only [callAny]
  refine wpAny_bind (wpAny_load ho ?_)
  obtain ⟨c', oc, vs, q, tq, hc', hoc, hcc, hdc, hq⟩ := p8
  have hgen : fd.scope.isGenerator = false := by rw [p3]; exact hg
  have hco : fd.scope.isCoroutine = false := by rw [p3]; exact hc
  simp only [hd, callFunction, hco, hgen, p2, hc']
  refine wpAny_bind (m := field (.ref c') 1) (wpAny_field hoc hdc hq (wpAny_bind (wpAny_pure ?_)))
  rw [hb]
  refine wpAny_bind (wpAny_pure (wpAny_bind (wpAny_newFunctionEnv (fun y hy => ?_) (fun y hy => ?_) (fun h₁ hns hsb => ?_) (by rw [p3]; exact hk))))
  · rw [p3, hn] at hy
    rcases List.mem_cons.mp hy with rfl | hy
    · exact fun q => by cases q
    · rw [List.mem_singleton.mp hy]; exact fun q => by cases q
  · rw [p3, hn]
    have : y = (t, v) := by simpa using hy
    rw [this]; simp
  · have k1 : Kp s { s with heap := h₁, toks := s.toks + ([t].zip [v]).length } := ⟨h₁, _, rfl, .of fun b o e => hsb.extBut b o (Nat.ne_of_lt (Heap.lt_size e)) (Heap.get?_push_of_some _ e)⟩
    refine wpAny_bind (wpAny_enterFrame (nolim_k nl k1.k) hroom (wpAny_pure ⟨rfl, code_expr ?_⟩))
    exact h (newEnv fd.scope s.heap.objs.size fd.globals fd.closure (q ++ ".<locals>.") (some f) (.ref c') none fd.builtins) _ k1 p3 p5 p6 p4 hns ⟨c', oc, vs, q, tq, rfl, k1.k.stay hoc (.inl ⟨hcc, _, hdc⟩), hcc, hdc, hq⟩
end
end Mine

set_option linter.unusedSectionVars false
namespace Mine
open PySem PyProof.Rows
variable [SF : Soft]

theorem ordK_inj {ns : List Int} {i j : Nat} (h : ordK ns i = ordK ns j) : i = j := by
  unfold ordK at h
  simp at h
  have := h.2
  lia
theorem ord_unique {ns : List Int} {ps : List (List Int × Nat)} (hp : ps.Perm (((List.range ns.length).map (ordK ns)).zip (List.range ns.length))) (hu : ps.Pairwise fun x y => ltL y.1 x.1 = false) : (ps.map fun p => (p.2 : Int)) = ordL ns := by
  have hz : ((List.range ns.length).map (ordK ns)).zip (List.range ns.length) = (List.range ns.length).map fun i => (ordK ns i, i) := by
    apply List.ext_getElem?
    intro i
    by_cases hi : i < ns.length
    · rw [zip_get (x := ordK ns i) (y := i) (by simp [hi]) (by simp [hi])]
      simp [hi]
    · rw [List.getElem?_eq_none (by simp; lia), List.getElem?_eq_none (by simp; lia)]
  rw [hz] at hp
  unfold ordL
  congr 1
  have hm := List.mergeSort_perm ((List.range ns.length).map fun i => (ordK ns i, i)) (fun a b => !ltL b.1 a.1)
  have hs := List.pairwise_mergeSort (le := fun (a b : List Int × Nat) => !ltL b.1 a.1) (fun a b c h1 h2 => by
    simp only [Bool.not_eq_true'] at h1 h2 ⊢
    cases q : ltL c.1 a.1 with
    | false => rfl
    | true =>
      cases r : ltL a.1 b.1 with
      | true => rw [ltL_trans q r] at h2; cases h2
      | false => rw [← ltL_tot r h1, q] at h2; cases h2) (fun a b => by
    cases q : ltL b.1 a.1 with
    | false => simp
    | true =>
      cases r : ltL a.1 b.1 with
      | true => have := ltL_trans q r; rw [ltL_irr] at this; cases this
      | false => simp) ((List.range ns.length).map fun i => (ordK ns i, i))
  refine List.Perm.eq_of_pairwise (le := fun a b => ltL b.1 a.1 = false) (fun a b ha hb h1 h2 => ?_) hu (hs.imp fun h => by simpa using h) (hp.trans hm.symm)
  have e := ltL_tot h2 h1
  obtain ⟨i, _, rfl⟩ := List.mem_map.mp (hp.mem_iff.mp ha)
  obtain ⟨j, _, rfl⟩ := List.mem_map.mp (hm.mem_iff.mp hb)
  have := ordK_inj e
  subst this
  rfl
theorem ordL_len (ns : List Int) : (ordL ns).length = ns.length := by
  unfold ordL
  rw [List.length_map, (List.mergeSort_perm _ _).length_eq, List.length_map, List.length_range]

omit SF in
theorem ints_map {ns : List Int} {xs : List PyData} (h : intsOf xs = some ns) : xs = ns.map .int := by
  induction xs generalizing ns with
  | nil => cases h; rfl
  | cons x xs ih =>
    cases x with
    | int j =>
      obtain ⟨ms, e1, rfl⟩ := Option.map_eq_some_iff.mp (show (intsOf xs).map (j :: ·) = some ns from h)
      rw [ih e1]; rfl
    | _ => cases h

noncomputable def lamσ (x t : String) (xs : List PyData) (i : Nat) : St := fun y => if y = x then some (.d (.list xs), .sh) else if y = t then some (mk (.d (.int i))) else none
theorem ev_body {x t : String} {ns : List Int} {i : Nat} (hxt : x ≠ t) (hi : i < ns.length) : ∃ m, ev (fun _ => none) (bodyE x t) (lamσ x t (ns.map .int) i) = .ok (.d (.tuple ((ordK ns i).map .int)), m) := by
  have q1 : lamσ x t (ns.map .int) i x = some (.d (.list (ns.map .int)), .sh) := if_pos rfl
  have q2 : lamσ x t (ns.map .int) i t = some (mk (.d (.int i))) := (if_neg (Ne.symm hxt)).trans (if_pos rfl)
  have e3 : subV (.list (ns.map .int)) (.int i) = .ok (mk (.d (.int (ns.getD i 0)))) := by
    have : elem (.list (ns.map .int)) i = some (.int (ns.getD i 0)) := by
      show (seqIdx (i : Int) (ns.map PyData.int).length).bind (fun k => (ns.map PyData.int)[k]?) = _
      unfold seqIdx
      rw [if_pos (by lia), if_pos (by rw [List.length_map]; lia)]
      simp [hi]
    show optO (keyI (.int (i : Int))) _ = _
    show optO (elem (.list (ns.map .int)) i) _ = _
    rw [this]; rfl
  refine ⟨.deep, ?_⟩
  unfold bodyE
  simp only [ev, evs, q1, q2, Out.ok_bind, mk, e3]
  rfl

section
variable {prog : Program} {w : World} {fns : Fns} {k : Nat} {C : Calls} {XP : String → Shared → Value → Shared → Prop}
theorem wp_callNK {id : String} {args : List Expr} {kws : List Keyword} {A : Around} {env : Env} {p pos : Pos} {s : Shared} {Q : Value → Shared → Prop} {Er : Value → Shared → Prop} (eok : EnvOk env) (ge : GE fns s.heap) (hm : id ∈ bnames) (hg : glbK env.scope.names id = true) (hd : (Str.ofString id == ("__debug__" : Str)) = false)
    (h : wpAny (model prog w) A (callWith pos (bval id) [] (backTo pos (starEach args env)) (backToKw pos (keywordEach kws env))) Q Er s) : wpAny (model prog w) A (eval (.Call (.Name (Str.ofString id) p) args kws pos) env) Q Er s := by
  obtain ⟨mg, g1, _, g3⟩ := ge.glob
  obtain ⟨mb, b1, b2⟩ := ge.blt
  show wpAny _ A (do callWith pos (← eval (.Name (Str.ofString id) p) env) [] (backTo pos (starEach args env)) (backToKw pos (keywordEach kws env))) Q Er s
  exact wpAny_bind (Calls.Name_function_global eok.kind (kind_glb hg) (Calls.loadGlobal_builtin (eok.glob ▸ g1) (g3 id hm) (eok.blt ▸ b1) (b2 id hm) h) hd)

theorem clos_one {sc : Scope} {env : Env} {x t : Str} {c : Addr} (hn : sc.names = [(t, .local), (x, .free)]) (hc : env.cells.lookup x = some c) : closureFor sc env = pure [(x, c)] := by
  unfold closureFor
  rw [hn]
  simp only [List.forIn_cons, List.forIn_nil]
  have e : cellOf env x = pure c := by unfold cellOf; rw [hc]
  rw [e]
  rfl
theorem star_call' {f : Expr} {xs : List Expr} {ks : List Keyword} {p : Pos} (ys : List Expr) (env : Env) : starEach (.Call f xs ks p :: ys) env = (false, eval (.Call f xs ks p) env) :: starEach ys env := rfl

set_option maxHeartbeats 1000000 in
theorem sim_order {x t : String} (hk1 : ∀ g, C "law" = some g → 1 ≤ k) (Sl : SimE prog w fns k C XP (.bi1 .len (.name x))) (Sb : SimE prog w fns 0 (fun _ => none) (fun _ _ _ _ => False) (bodyE x t)) : SimE prog w fns k C XP (.order x t) := by
  intro ex A env σ P s Q Er ok X nb hQ hE
  replace ok := i_order ok
  rcases ok with ⟨id, p, jd, p2, y, p3, ar, body, sc, p4, p5, pos, rfl, ok⟩ | ok
  · simp only [Bool.and_eq_true, beq_iff_eq] at ok
    obtain ⟨⟨⟨⟨⟨⟨rfl, hg⟩, rfl⟩, hg'⟩, oln⟩, olm⟩, obd⟩ := ok
    unfold okLm at olm
    simp only [Bool.and_eq_true, decide_eq_true_eq, Bool.not_eq_true', List.isEmpty_iff, Option.isNone_iff_eq_none] at olm
    obtain ⟨⟨⟨⟨⟨⟨⟨⟨⟨⟨⟨⟨a1, a2⟩, a3⟩, a4⟩, a5⟩, a6⟩, a7⟩, b1⟩, b2⟩, b3⟩, b4⟩, hxt⟩, hcl⟩ := olm
    simp only [ev] at nb hQ hE
    cases hCl : C "law" with
    | none => rw [hCl] at nb; exact absurd rfl nb
    | some g =>
      rw [hCl] at nb hQ
      have hk := hk1 g hCl
      clear hE
      have nb' : ordV (σ x) ≠ .bad := nb
      cases hσ : σ x with
      | none => rw [hσ] at nb'; exact absurd rfl nb'
      | some q =>
        obtain ⟨V, m⟩ := q
        have hov : ∃ ns : List Int, V = .d (.list (ns.map .int)) ∧ ns.length < 128 ∧ ordV (σ x) = .ok (.d (.list ((ordL ns).map .int)), .deep) := by
          rw [hσ] at nb' ⊢
          cases hd : asD V with
          | none => exact absurd (show ordV (some (V, m)) = .bad by unfold ordV; show optO (asD V) _ = _; rw [hd]; rfl) nb'
          | some d =>
            cases hl : asL d with
            | none => exact absurd (show ordV (some (V, m)) = .bad by unfold ordV; show optO (asD V) _ = _; rw [hd]; show optO (asL d) _ = _; rw [hl]; rfl) nb'
            | some xs =>
              cases hi : intsOf xs with
              | none => exact absurd (show ordV (some (V, m)) = .bad by unfold ordV; show optO (asD V) _ = _; rw [hd]; show optO (asL d) _ = _; rw [hl]; show optO (intsOf xs) _ = _; rw [hi]; rfl) nb'
              | some ns =>
                have e : ordV (some (V, m)) = if ns.length < 128 then .ok (.d (.list ((ordL ns).map .int)), .deep) else .bad := by
                  unfold ordV; show optO (asD V) _ = _; rw [hd]; show optO (asL d) _ = _; rw [hl]; show optO (intsOf xs) _ = _; rw [hi]; rfl
                by_cases h128 : ns.length < 128
                · rw [if_pos h128] at e
                  refine ⟨ns, ?_, h128, e⟩
                  rw [asD_inv hd, asL_inv hl, ints_map hi]
                · rw [e, if_neg h128] at nb'; exact absurd rfl nb'
        obtain ⟨ns, rfl, h128, hov⟩ := hov
        have hvk : varK env.scope.names x = true := by
          unfold okLn at oln
          obtain ⟨_, _, oln⟩ := anyO_inv oln
          obtain ⟨_, _, oln⟩ := anyO_inv oln
          simp only [Bool.and_eq_true] at oln
          obtain ⟨_, _, oln⟩ := anyO_inv oln.2
          simp only [Bool.and_eq_true] at oln
          exact oln.1.2
        obtain ⟨va, as, hvi, ⟨hra, hza⟩, _⟩ := X.vars x _ hσ hvk
        have hcell : ∃ c, env.cells.lookup (Str.ofString x) = some c ∧ s.heap.IsCell c (some va) := by
          cases hvi with
          | loc m b c d => exact absurd b (by unfold Env.kindOf; rw [hcl]; simp)
          | cell c b d e => exact ⟨c, d, e⟩
        obtain ⟨c, hcl1, hcl2⟩ := hcell
        have he : ev C (.bi1 .len (.name x)) σ = .ok (sI ns.length) := by
          simp only [ev]
          rw [hσ]
          show Out.bind (.ok (mk (.d (.list (ns.map .int))))) _ = _
          rw [Out.ok_bind]
          show (optO (asD (.d (.list (ns.map PyData.int)))) _) = _
          show Out.ok (sI ((ns.map PyData.int).length : Int)) = _
          rw [List.length_map]
        have on : okE env.scope.names (.bi1 .len (.name x)) y = true := oln
        refine wp_callNK X.eok X.ge (id := "sorted") (by decide) hg (by decide) ?_
        refine callWith_kw ?_
        refine wpAny_items_cons ?_ (star_call' [] env)
        refine wp_callN X.eok X.ge (id := "range") (by decide) hg' (by decide) (wp_callT (T := "range") _ on rfl (wp_one _ on (Sl on X (by rw [he]; simp) (fun r hr v s₁ Ea => ?_) fun c hc => by rw [he] at hc; cases hc)))
        rw [he] at hr
        cases hr
        obtain ⟨ka, as', ra, _, _, _⟩ := Ea
        obtain ⟨tk, rfl, _⟩ := ra.1.isInt
        refine call_range_1 (wpAny_items_nil ?_)
        have k2 : Kp s { s₁ with heap := s₁.heap.push { cls := .type "range", data := .fields #[.int 0 s₁.toks, .int (ns.length : Int) tk, .int 1 (s₁.toks + 1)] }, toks := s₁.toks + 1 + 1 } := ka.trans (.push _ _ _)
        generalize hs2 : { s₁ with heap := s₁.heap.push { cls := .type "range", data := .fields #[.int 0 s₁.toks, .int (ns.length : Int) tk, .int 1 (s₁.toks + 1)] }, toks := s₁.toks + 1 + 1 } = s₂ at k2 ⊢
        have hr2 : IsRange s₂.heap s₁.heap.objs.size 0 ns.length 1 s₁.toks tk (s₁.toks + 1) := by rw [← hs2]; exact IsRange.new ..
        clear hs2
        refine kws_cons ?_
        obtain ⟨qn, hcode⟩ := X.code hk
        have hdef : defaultsOf ar env = ([], []) := by
          cases ar
          dsimp only at a5 a7
          subst a5 a7
          rfl
        refine lam_make (X.ge.k k2.k) (hcode.k k2.k) X.eok.glob hdef (clos_one b4 hcl1) fun f s₃ k3 L => kws_nil ?_
        have k23 := k2.trans k3
        have hsz : Builtin.Range.rangeSize 0 ns.length 1 = (ns.length : Int) := by rw [rangeSize_one]; split <;> lia
        have hr3 : IsRange s₃.heap s₁.heap.objs.size 0 ns.length 1 s₁.toks tk (s₁.toks + 1) := k3.k.get hr2 rfl
        show wpAny (model prog w) A (call (.builtin "sorted") [.ref s₁.heap.objs.size] [(Str.ofString "key", .ref f)]) Q Er s₃
        refine sorted_range_key (ks := (List.range ns.length).map (ordK ns)) X.room.1 hr3 (small_one (by lia) (by lia) (by lia) (by lia)) hsz (by simp) h128 (fun k hk => ?_) ?_ (fun i xv kk s' Q' Er' hx hkk kp' hQ' => ?_) fun D s' vs cc ns' kp' fD hD hI hps => ?_
        · obtain ⟨i, _, rfl⟩ := List.mem_map.mp hk
          simp [ordK]
        · exact List.pairwise_map.mpr (List.nodup_range.imp fun {a b} hab q => hab (ordK_inj q))
        · obtain ⟨ti, rfl⟩ := hx
          have hil : i < ns.length := by
            have := (List.getElem?_eq_some_iff.mp hkk).1
            simpa using this
          have hkk' : kk = ordK ns i := by
            rw [List.getElem?_map, List.getElem?_range hil] at hkk
            cases hkk; rfl
          subst hkk'
          have r1 := X.room.2.1
          have r2 := X.room.2.2
          have ks' := k23.trans kp'
          refine lam_call (show A.depth < recursionLimit by lia) (nolim_k X.ge.nolim ks'.k) (L.k kp'.k) a1 a2 a3 a4 a6 b1 b2 b3 b4 (fun q => hxt (ofString_inj q)) fun env' s'' kp'' e1 e2 e3 e4 hns hcv => ?_
          have kall := ks'.trans kp''
          have hkd : ∀ n, env'.kindOf n = [(Str.ofString t, NameKind.local), (Str.ofString x, NameKind.free)].lookup n := fun n => by unfold Env.kindOf; rw [e1, b4]
          have hxn : (Str.ofString x == Str.ofString t) = false := beq_eq_false_iff_ne.mpr fun q => hxt (ofString_inj q)
          have cx : Cx prog w fns 0 (A.in1.in1.deeper env') (fun _ => True) s''.heap env' (lamσ x t (ns.map .int) i) := by
            refine ⟨⟨X.room.1, by show A.depth + 1 + 0 + 1 < recursionLimit; lia, by show A.units + 1 + 1 + 3 + 100 * 0 + 200 < cLine; lia⟩, ⟨by rw [e1]; exact b1, e2, e3, fun n hn => ?_⟩, X.ge.k kall.k, fun h => absurd h (by decide), fun y' p' hp' _ => ?_⟩
            · rw [hkd] at hn
              refine ⟨c, ?_⟩
              rw [e4]
              simp only [List.lookup_cons, List.lookup_nil] at hn ⊢
              cases q1 : n == Str.ofString t with
              | true => rw [q1] at hn; simp at hn
              | false =>
                rw [q1] at hn
                cases q2 : n == Str.ofString x with
                | true => rfl
                | false => rw [q2] at hn; simp at hn
            · unfold lamσ at hp'
              by_cases hyx : y' = x
              · subst hyx
                rw [if_pos rfl] at hp'; cases hp'
                refine ⟨va, as, .cell c (.inr ?_) ?_ (cell_k hcl2 kall.k), ⟨hra.k kall.k, hza⟩, fun _ _ => trivial⟩
                · rw [hkd]; simp only [List.lookup_cons, hxn]; simp
                · rw [e4]; simp
              · rw [if_neg hyx] at hp'
                by_cases hyt : y' = t
                · subst hyt
                  rw [if_pos rfl] at hp'; cases hp'
                  refine ⟨.int i ti, [], .loc _ ?_ hns ?_, ⟨.int i ti, rfl⟩, fun _ _ => trivial⟩
                  · rw [hkd]; simp
                  · simp
                · rw [if_neg hyt] at hp'; cases hp'
          obtain ⟨mm, hev⟩ := ev_body (x := x) (t := t) hxt hil
          have obd' : okE env'.scope.names (bodyE x t) body = true := by rw [e1]; exact obd
          refine Sb obd' cx (by rw [hev]; simp) (fun r hr v s4 E4 => ?_) fun _ _ _ _ h => h
          rw [hev] at hr
          cases hr
          obtain ⟨k4, as4, ⟨r4, _⟩, _⟩ := E4
          exact hQ' v s4 (kp''.trans k4) (KeyOf.ofR r4)
        · obtain ⟨ps, p1, p2, p3⟩ := hps
          have e := ord_unique p1 p3
          rw [← p2] at e
          subst e
          refine hQ _ hov _ _ ?_
          have ef : fresh ((ordL ns).map PyData.int) = .deep := by
            unfold fresh
            rw [if_pos]
            rw [List.all_map, List.all_eq_true]
            intro _ _; rfl
          rw [← ef]
          exact EP.aList (as := []) (k23.trans kp') (k23.none fD) hD (RA.of_ints hI) (by rw [List.length_map, ordL_len]; lia) (szs_ints _) fun _ h => (nomatch h)
  · cases ok
end
end Mine

namespace Mine
open PySem PyProof.Rows
set_option linter.unusedSectionVars false
variable [SF : Soft]

section
variable (prog : Program) (w : World) (fns : Fns) (k : Nat) (C : Calls) (XP : String → Shared → Value → Shared → Prop)
/-- the own functions answer as the evaluator says -/
noncomputable def CallOK : Prop := ∀ f g, C f = some g → 1 ≤ k ∧ ∃ p, fns.fn f = some p ∧ ∀ {A : Around} {P : Addr → Prop} {s : Shared} {Q : Value → Shared → Prop} {Er : Value → Shared → Prop} {xs : List V} {vals : List Value} {as : List Addr},
  Room k A → GE fns s.heap → RVs prog w s.heap xs vals as → (∀ a ∈ as, P a) → g xs ≠ .bad → (∀ r, g xs = .ok r → ∀ v s', EP prog w P s r v s' → Q v s') → (∀ c, g xs = .exc c → ∀ x s', XP c s x s' → Er x s') →
  wpAny (model prog w) A (call (.ref p.1) vals []) Q Er s
end

section
variable {prog : Program} {w : World} {fns : Fns} {k : Nat} {C : Calls} {XP : String → Shared → Value → Shared → Prop}

theorem b1V_exc {f : B1} {x : V} {c : String} : b1V f x ≠ .exc c := b1V_ne c


theorem b1_list' {β : Type} {v : V} {f : List PyData → Out β} {r : β} (h : (optO (asD v) fun x => optO (asL x) f) = .ok r) : ∃ xs, v = .d (.list xs) ∧ f xs = .ok r := by
  obtain ⟨x, h1, h⟩ := optO_ok h
  obtain ⟨xs, h2, h⟩ := optO_ok h
  exact ⟨xs, by rw [asD_inv h1, asL_inv h2], h⟩
theorem b1_step {f : B1} {x : V} {r : V × Mode} {va : Value} {as : List Addr} {A : Around} {P : Addr → Prop} {s : Shared} {Q : Value → Shared → Prop} {Er : Value → Shared → Prop} (hh : A.handled = none) (he : b1V f x = .ok r) (ra : RV prog w s.heap va x as) (ha : ∀ a ∈ as, P a)
    (hQ : ∀ v s', EP prog w P s r v s' → Q v s') : wpAny (model prog w) A (call (bval (b1n f)) [va]) Q Er s := by
  cases f with
  | len => exact len_step he ra hQ
  | list =>
    replace he := optO_ok he
    obtain ⟨y, hy, he⟩ := he
    cases asD_inv hy
    cases ht : asT y with
    | none =>
      simp only [ht] at he
      replace he := optO_ok he
      obtain ⟨xs, hx, he⟩ := he
      cases asL_inv hx
      cases he
      obtain ⟨a, vs, n, cs, rfl, ea, ra', rfl⟩ := ra.1.isList
      have hz := sz_list.mp ra.2
      exact copy_step (.inl rfl) ea ra' hz.1 hz.2 (fun b hb => ha b (.tail _ hb)) hQ
    | some xs =>
      simp only [ht] at he
      cases he
      cases asT_inv ht
      obtain ⟨a, vs, n, rfl, ea, ra'⟩ := ra.1.isTup
      have hz := sz_tuple.mp ra.2
      exact copy_step (.inr rfl) ea ra' hz.1 hz.2 ha hQ
  | tuple =>
    replace he := b1_list' he
    obtain ⟨xs, rfl, he⟩ := he
    cases he
    exact tup_step ra.1 ra.2 ha hQ
  | sorted =>
    replace he := b1_list' he
    obtain ⟨xs, rfl, he⟩ := he
    unfold sortedV at he
    split at he
    · replace he := optO_ok he
      obtain ⟨ns, hn, he⟩ := he
      cases he
      exact sortI_step ra.1 hn (by assumption) hQ
    · cases he
  | max =>
    replace he := b1_list' he
    obtain ⟨xs, rfl, he⟩ := he
    replace he := optO_ok he
    obtain ⟨i, hi, he⟩ := he
    obtain ⟨ns, hi1, hi2⟩ := Option.bind_eq_some_iff.mp hi
    cases he
    exact max_step hh ra.1 hi1 hi2 hQ
  | sum =>
    replace he := b1_list' he
    obtain ⟨xs, rfl, he⟩ := he
    replace he := optO_ok he
    obtain ⟨ns, hn, he⟩ := he
    cases he
    exact sum_step hh ra.1 hn hQ

theorem b1_mem (f : B1) : b1n f ∈ bnames := by cases f <;> decide
theorem b1_nd (f : B1) : (Str.ofString (b1n f) == ("__debug__" : Str)) = false := by cases f <;> decide

theorem sim_bi1 {f : B1} {a : E} (Sa : SimE prog w fns k C XP a) : SimE prog w fns k C XP (.bi1 f a) := by
  intro ex A env σ P s Q Er ok X nb hQ hE
  replace ok := i_bi1 ok
  rcases ok with ⟨_, _, _, _, rfl, ok⟩ | ok
  · simp only [Bool.and_eq_true, beq_iff_eq] at ok
    obtain ⟨⟨rfl, hg⟩, oa⟩ := ok
    simp only [ev] at nb hQ hE
    obtain ⟨n1, n2⟩ := bind_ne_bad nb
    have fin : ∀ {B : Value}, B = bval (b1n f) → ∀ {pos : Pos}, wpAny (model prog w) A (spliced (backTo pos (starEach [_] env))) (fun vs s₁ => wpAny (model prog w) A (call B vs) Q Er s₁) Er s := fun {B} hB {pos} => by
      subst hB
      refine wp_one _ oa (Sa oa X n1 (fun r hr v s₁ Ea => ?_) fun c hc => hE c (by rw [hc]; rfl))
      have n3 := n2 r hr
      cases h : b1V f r.1 with
      | bad => exact absurd h n3
      | exc c => exact absurd h b1V_exc
      | ok q =>
        obtain ⟨ka, as, ra, ha, _⟩ := Ea
        exact b1_step (P := fun a => P a ∨ s.heap.get? a = none) X.room.1 h ra ha fun v s' E => hQ q (by rw [hr]; exact h) v s' (E.shift ka)
    refine wp_callN X.eok X.ge (b1_mem f) hg (b1_nd f) ?_
    cases f with
    | list => exact wp_callT (T := "list") _ oa rfl (fin rfl)
    | tuple => exact wp_callT (T := "tuple") _ oa rfl (fin rfl)
    | _ => exact wp_callB _ oa rfl (fin rfl)
  · cases ok






theorem isiV_exc {x : V} {t c : String} : isiV x t ≠ .exc c := by
  unfold isiV
  split
  · repeat' split
    all_goals simp
  · simp
theorem isi_name {x : V} {t : String} {b : Bool} (h : isiV x t = .ok b) : t ∈ bnames ∧ bval t = .type t := by
  unfold isiV at h
  split at h
  · split at h
    · subst t; exact ⟨by decide, rfl⟩
    split at h
    · subst t; exact ⟨by decide, rfl⟩
    split at h
    · subst t; exact ⟨by decide, rfl⟩
    split at h
    · subst t; exact ⟨by decide, rfl⟩
    split at h
    · subst t; exact ⟨by decide, rfl⟩
    · cases h
  · cases h

theorem star_name {id : Str} {p : Pos} (xs : List Expr) (env : Env) : starEach (.Name id p :: xs) env = (false, eval (.Name id p) env) :: starEach xs env := rfl

theorem sim_isi {a : E} {t : String} (Sa : SimE prog w fns k C XP a) : SimE prog w fns k C XP (.isi a t) := by
  intro ex A env σ P s Q Er ok X nb hQ hE
  replace ok := i_isi ok
  rcases ok with ⟨_, _, _, _, _, _, rfl, ok⟩ | ok
  · simp only [Bool.and_eq_true, beq_iff_eq] at ok
    obtain ⟨⟨⟨⟨⟨rfl, hg⟩, oa⟩, rfl⟩, hgt⟩, hdt⟩ := ok
    simp only [ev] at nb hQ hE
    obtain ⟨n1, n2⟩ := bind_ne_bad nb
    refine wp_callN X.eok X.ge (id := "isinstance") (by decide) hg (by decide) (wp_callB (id := "isinstance") _ oa rfl (wpAny_items_cons ?_ (star_plain oa _ env)))
    refine Sa oa X n1 (fun x hx va s₁ Ea => ?_) fun c hc => hE c (by rw [hc]; rfl)
    cases h : isiV x.1 t with
    | bad => exact absurd h (bind_ne_bad (n2 x hx)).1
    | exc c => exact absurd h isiV_exc
    | ok b =>
      obtain ⟨hm, hb⟩ := isi_name h
      have ge := X.ge.k Ea.keeps.k
      obtain ⟨mg, g1, _, g3⟩ := ge.glob
      obtain ⟨mb, b1, b2⟩ := ge.blt
      refine wpAny_items_cons ?_ (star_name [] env)
      refine Calls.Name_function_global X.eok.kind (kind_glb hgt) (Calls.loadGlobal_builtin (X.eok.glob ▸ g1) (g3 t hm) (X.eok.blt ▸ b1) (b2 t hm) ?_) (nd hdt)
      refine wpAny_items_nil ?_
      obtain ⟨x, m⟩ := x
      obtain ⟨ka, as, ra, ha, _⟩ := Ea
      dsimp only at h ra
      cases x with
      | d x =>
        rw [hb]
        exact isi_step h ra.1 fun s' kp => hQ (sB b) (by rw [hx, Out.ok_bind]; dsimp only; rw [h]; rfl) _ _ (.bool (ka.trans kp))
      | _ => simp [isiV] at h
  · cases ok


theorem sim_call (hC : CallOK prog w fns k C XP) (hXP : ∀ c s s₁ x s', Kp s s₁ → XP c s₁ x s' → XP c s x s') {f : String} {es : Es} (Ss : SimEs prog w fns k C XP es) : SimE prog w fns k C XP (.call f es) := by
  intro ex A env σ P s Q Er ok X nb hQ hE
  replace ok := i_call ok
  rcases ok with ⟨_, _, _, _, rfl, ok⟩ | ok
  · rename_i id p0 xs pos
    simp only [Bool.and_eq_true, beq_iff_eq] at ok
    obtain ⟨⟨⟨⟨⟨rfl, hg⟩, hd⟩, hne⟩, hl⟩, oes⟩ := ok
    simp only [ev] at nb hQ hE
    split at nb
    · rename_i g hCf
      rw [hCf] at hQ hE
      dsimp only at hQ hE
      obtain ⟨n1, n2⟩ := bind_ne_bad nb
      obtain ⟨_, q, hq, hcall⟩ := hC f g hCf
      obtain ⟨mg, g1, g2, _⟩ := X.ge.glob
      refine wpAny_Call_NameR (Calls.Name_function_global X.eok.kind (kind_glb hg) (Calls.loadGlobal_global (X.eok.glob ▸ g1) (g2 f q hq) ?_) (nd hd))
      obtain ⟨o, fd, ho, hfd, _⟩ := X.ge.funs f q hq
      refine Calls.callWith_function (o := o) (fd := fd) ?_
      cases xs with
      | nil => simp at hne
      | cons y ys =>
        cases es with
        | nil => exact Bool.noConfusion (show false = true from oes)
        | cons e es =>
          have oy : okE env.scope.names e y = true := by
            exact (Bool.and_eq_true_iff.mp (show (okE env.scope.names e y && okEs env.scope.names es ys) = true from oes)).1
          have hS := Ss (pos := pos) (A := A) (P := P) (s := s) (Er := Er) (Q := fun vs s₁ => (s₁.heap.get? q.1 = some o ∧ o.data = .func fd) ∧ wpAny (model prog w) A (call (.ref q.1) ([] ++ vs) []) Q Er s₁) oes X n1 (fun l hl vs s₁ Es => ?_) fun c hc => hE c (by rw [hc]; rfl)
          · rw [star_plain oy] at hS ⊢
            exact Calls.evalArgs_plain hS
          · obtain ⟨ks, as, rs, ha, _⟩ := Es
            refine ⟨⟨ks.k.exact ho (fun _ q => by rw [hfd] at q; cases q) fun _ _ q => (by rw [hfd] at q; cases q), hfd⟩, ?_⟩
            rw [List.nil_append]
            exact hcall (P := fun a => P a ∨ s.heap.get? a = none) X.room (X.ge.k ks.k) rs ha (n2 l hl) (fun r hr v s' E => hQ r (by rw [hl]; exact hr) v s' (E.shift ks)) fun c hc z s' hz => hE c (by rw [hl]; exact hc) z s' (hXP c s s₁ z s' ks hz)
    · exact absurd rfl nb
  · cases ok
/-! ## all expressions -/
noncomputable def plainX : Expr → Bool
  | .UnaryOp .Not _ _ => false
  | .BoolOp _ _ _ => false
  | .IfExp _ _ _ _ => false
  | .Compare _ _ _ _ => false
  | _ => true
theorem isTrue_plain {ex : Expr} (h : plainX ex = true) (env : Env) (t : Sem Value) : isTrue ex env t = (do let v ← t; standAt ex.pos; holding [v] (truthy v)) := by
  cases ex with
  | UnaryOp op x p => cases op <;> first | rfl | cases h
  | _ => first | rfl | cases h
noncomputable def plainE : E → Bool
  | .not _ | .cmp _ _ _ | .and _ _ | .or _ _ => false
  | _ => true
theorem plain_ok {ns : List (Str × NameKind)} {e : E} {ex : Expr} (hp : plainE e = true) (h : okE ns e ex = true) : plainX ex = true := by
  cases ex with
  | UnaryOp op x p =>
    cases e with
    | not _ => cases hp
    | neg a =>
      rcases i_neg h with ⟨_, _, q, _⟩ | q
      · cases q; rfl
      · cases q
    | _ => exact Bool.noConfusion (show false = true from h)
  | BoolOp _ _ _ =>
    cases e with
    | and _ _ => cases hp
    | or _ _ => cases hp
    | _ => exact Bool.noConfusion (show false = true from h)
  | Compare _ _ _ _ =>
    cases e with
    | cmp _ _ _ => cases hp
    | _ => exact Bool.noConfusion (show false = true from h)
  | IfExp _ _ _ _ => cases e <;> exact Bool.noConfusion (show false = true from h)
  | _ => rfl

variable (prog w fns k C XP)
structure SimAll (ee : E) : Prop where
  e : SimE prog w fns k C XP ee
  t : SimT prog w fns k C XP ee
  a : SimA prog w fns k C XP ee
  o : SimO prog w fns k C XP ee
  ta : SimTA prog w fns k C XP ee
  to : SimTO prog w fns k C XP ee
variable {prog w fns k C XP}

noncomputable def notAnd : E → Bool
  | .and _ _ => false
  | _ => true
noncomputable def notOr : E → Bool
  | .or _ _ => false
  | _ => true
theorem okA_false {ns : List (Str × NameKind)} {e : E} {vs : List Expr} (h : notAnd e = true) : okA ns e vs = false := by cases e <;> first | rfl | cases h
theorem okO_false {ns : List (Str × NameKind)} {e : E} {vs : List Expr} (h : notOr e = true) : okO ns e vs = false := by cases e <;> first | rfl | cases h

theorem SimAll.ofET {e : E} (S : SimE prog w fns k C XP e) (T : SimT prog w fns k C XP e) (ha : notAnd e = true) (ho : notOr e = true) : SimAll prog w fns k C XP e where
  e := S
  t := T
  a := simA_one S fun ok => by rw [okA_false ha] at ok; cases ok
  o := simO_one S fun ok => by rw [okO_false ho] at ok; cases ok
  ta := simTA_one T fun ok => by rw [okA_false ha] at ok; cases ok
  to := simTO_one T fun ok => by rw [okO_false ho] at ok; cases ok
theorem SimAll.ofE {e : E} (S : SimE prog w fns k C XP e) (hp : plainE e = true) (ha : notAnd e = true) (ho : notOr e = true) : SimAll prog w fns k C XP e :=
  .ofET S (simT_plain S fun _ _ env t ok => isTrue_plain (plain_ok hp ok) env t) ha ho

theorem sim_body {x t : String} (h : ∀ c s s₁ x s', Kp s s₁ → XP c s₁ x s' → XP c s x s') : SimE prog w fns 0 (fun _ => none) XP (bodyE x t) := by
  have S1 : SimE prog w fns 0 (fun _ => none) XP (.neg (.sub (.name x) (.name t))) := sim_neg (sim_sub h (sim_name x) (sim_name t))
  have S2 : SimEs prog w fns 0 (fun _ => none) XP (.cons (.name t) .nil) := simEs_cons h (sim_name t) simEs_nil
  have S3 : SimEs prog w fns 0 (fun _ => none) XP (.cons (.neg (.sub (.name x) (.name t))) (.cons (.name t) .nil)) := simEs_cons h S1 S2
  show SimE prog w fns 0 (fun _ => none) XP (.tup (.cons (.neg (.sub (.name x) (.name t))) (.cons (.name t) .nil)))
  exact sim_tup S3

section
variable (hC : CallOK prog w fns k C XP) (hXP : ∀ c s s₁ x s', Kp s s₁ → XP c s₁ x s' → XP c s x s')
include hC hXP
mutual
theorem simAll : ∀ e : E, SimAll prog w fns k C XP e
  | .name x => .ofE (sim_name x) rfl rfl rfl
  | .int i => .ofE (sim_int i) rfl rfl rfl
  | .str s => .ofE (sim_str s) rfl rfl rfl
  | .bool b => .ofE (sim_bool b) rfl rfl rfl
  | .none => .ofE sim_none rfl rfl rfl
  | .bin o a b => .ofE (sim_bin hXP (simAll a).e (simAll b).e) rfl rfl rfl
  | .neg a => .ofE (sim_neg (simAll a).e) rfl rfl rfl
  | .not a => .ofET (sim_not (simAll a).e) (simT_not (simAll a).t) rfl rfl
  | .cmp o a b => .ofET (sim_cmp hXP (simAll a).e (simAll b).e) (simT_cmp hXP (simAll a).e (simAll b).e) rfl rfl
  | .and a b =>
    have Sa := simAll a
    have Sb := simAll b
    have S : SimE prog w fns k C XP (.and a b) := sim_and hXP Sa.e Sb.a
    have T : SimT prog w fns k C XP (.and a b) := simT_and hXP Sa.t Sb.ta
    { e := S, t := T, o := simO_one S fun ok => (by rw [okO_false rfl] at ok; cases ok), to := simTO_one T fun ok => (by rw [okO_false rfl] at ok; cases ok),
      a := simA_one S fun {vs} _ _ _ _ _ _ _ _ ok X nb hQ hE => (by
        replace ok := i_A ok
        rcases ok with ⟨_, _, rfl, ok⟩ | ok
        · simp only [Bool.and_eq_true] at ok
          exact andL hXP Sa.e Sb.a ok.1 ok.2 X nb hQ hE
        · cases ok),
      ta := simTA_one T fun {vs} _ _ _ _ _ _ _ ok X nb hQ hE => (by
        replace ok := i_A ok
        rcases ok with ⟨_, _, rfl, ok⟩ | ok
        · simp only [Bool.and_eq_true] at ok
          exact andTL hXP Sa.t Sb.ta ok.1 ok.2 X nb hQ hE
        · cases ok) }
  | .or a b =>
    have Sa := simAll a
    have Sb := simAll b
    have S : SimE prog w fns k C XP (.or a b) := sim_or hXP Sa.e Sb.o
    have T : SimT prog w fns k C XP (.or a b) := simT_or hXP Sa.t Sb.to
    { e := S, t := T, a := simA_one S fun ok => (by rw [okA_false rfl] at ok; cases ok), ta := simTA_one T fun ok => (by rw [okA_false rfl] at ok; cases ok),
      o := simO_one S fun {vs} _ _ _ _ _ _ _ _ ok X nb hQ hE => (by
        replace ok := i_O ok
        rcases ok with ⟨_, _, rfl, ok⟩ | ok
        · simp only [Bool.and_eq_true] at ok
          exact orL hXP Sa.e Sb.o ok.1 ok.2 X nb hQ hE
        · cases ok),
      to := simTO_one T fun {vs} _ _ _ _ _ _ _ ok X nb hQ hE => (by
        replace ok := i_O ok
        rcases ok with ⟨_, _, rfl, ok⟩ | ok
        · simp only [Bool.and_eq_true] at ok
          exact orTL hXP Sa.t Sb.to ok.1 ok.2 X nb hQ hE
        · cases ok) }
  | .list es => .ofE (sim_list (simAlls es)) rfl rfl rfl
  | .tup es => .ofE (sim_tup (simAlls es)) rfl rfl rfl
  | .comp elt x it => .ofE (sim_comp (simAllIt it) (simAll elt).e) rfl rfl rfl
  | .compif elt x it c => .ofE (sim_compif (simAllIt it) (simAll elt).e (simAll c).t) rfl rfl rfl
  | .sub a i => .ofE (sim_sub hXP (simAll a).e (simAll i).e) rfl rfl rfl
  | .rev a => .ofE (sim_rev (simAll a).e) rfl rfl rfl
  | .bi1 f a => .ofE (sim_bi1 (simAll a).e) rfl rfl rfl
  | .isi a t => .ofE (sim_isi (simAll a).e) rfl rfl rfl
  | .call f es => .ofE (sim_call hC hXP (simAlls es)) rfl rfl rfl
  | .order x t => .ofE (sim_order (fun g hg => (hC "law" g hg).1) (sim_bi1 (sim_name x)) (sim_body (XP := fun _ _ _ _ => False) fun _ _ _ _ _ _ h => h)) rfl rfl rfl
termination_by structural e => e
theorem simAlls : ∀ es : Es, SimEs prog w fns k C XP es
  | .nil => simEs_nil
  | .cons e es => simEs_cons hXP (simAll e).e (simAlls es)
termination_by structural es => es
theorem simAllIt : ∀ it : It, SimIt prog w fns k C XP it
  | .e a => simIt_e (simAll a).e
  | .r1 n => simIt_r1 (simAll n).e
  | .r2 a b => simIt_r2 hXP (simAll a).e (simAll b).e
termination_by structural it => it
end
end
end
end Mine

namespace Mine
open PySem PyProof.Rows
set_option linter.unusedSectionVars false
variable [SF : Soft]

/-! ## only the mentioned names matter -/
theorem upd_agree {σ τ : St} {x : String} {v : V × Mode} {ns : List String} (h : ∀ y ∈ ns, σ y = τ y) : ∀ y ∈ ns, upd σ x v y = upd τ x v y := by
  intro y hy
  unfold upd
  split
  · rfl
  · exact h y hy

mutual
theorem ev_congr (C : Calls) : ∀ (e : E) (σ τ : St), (∀ y ∈ fv e, σ y = τ y) → ev C e σ = ev C e τ
  | .name x, σ, τ, h => by simp only [ev]; rw [h x (by simp [fv])]
  | .int _, _, _, _ => by simp only [ev]
  | .str _, _, _, _ => by simp only [ev]
  | .bool _, _, _, _ => by simp only [ev]
  | .none, _, _, _ => by simp only [ev]
  | .bin o a b, σ, τ, h => by
    simp only [fv, List.mem_append] at h
    simp only [ev]; rw [ev_congr C a σ τ fun y hy => h y (.inl hy), ev_congr C b σ τ fun y hy => h y (.inr hy)]
  | .neg a, σ, τ, h => by simp only [fv] at h; simp only [ev]; rw [ev_congr C a σ τ h]
  | .not a, σ, τ, h => by simp only [fv] at h; simp only [ev]; rw [ev_congr C a σ τ h]
  | .cmp o a b, σ, τ, h => by
    simp only [fv, List.mem_append] at h
    simp only [ev]; rw [ev_congr C a σ τ fun y hy => h y (.inl hy), ev_congr C b σ τ fun y hy => h y (.inr hy)]
  | .and a b, σ, τ, h => by
    simp only [fv, List.mem_append] at h
    simp only [ev]; rw [ev_congr C a σ τ fun y hy => h y (.inl hy), ev_congr C b σ τ fun y hy => h y (.inr hy)]
  | .or a b, σ, τ, h => by
    simp only [fv, List.mem_append] at h
    simp only [ev]; rw [ev_congr C a σ τ fun y hy => h y (.inl hy), ev_congr C b σ τ fun y hy => h y (.inr hy)]
  | .list es, σ, τ, h => by simp only [fv] at h; simp only [ev]; rw [evs_congr C es σ τ h]
  | .tup es, σ, τ, h => by simp only [fv] at h; simp only [ev]; rw [evs_congr C es σ τ h]
  | .comp elt x it, σ, τ, h => by
    simp only [fv, List.mem_append] at h
    simp only [ev]
    rw [evIt_congr C it σ τ fun y hy => h y (.inl hy)]
    have e : ∀ d, (ev C elt (upd σ x (mk (.d d)))) = ev C elt (upd τ x (mk (.d d))) := fun d => ev_congr C elt _ _ (upd_agree fun y hy => h y (.inr hy))
    simp only [e]
  | .compif elt x it c, σ, τ, h => by
    simp only [fv, List.mem_append] at h
    simp only [ev]
    rw [evIt_congr C it σ τ fun y hy => h y (.inl hy)]
    have e : ∀ d, (ev C elt (upd σ x (mk (.d d)))) = ev C elt (upd τ x (mk (.d d))) := fun d => ev_congr C elt _ _ (upd_agree fun y hy => h y (.inr (.inr hy)))
    have e' : ∀ d, (ev C c (upd σ x (mk (.d d)))) = ev C c (upd τ x (mk (.d d))) := fun d => ev_congr C c _ _ (upd_agree fun y hy => h y (.inr (.inl hy)))
    simp only [e, e']
  | .sub a b, σ, τ, h => by
    simp only [fv, List.mem_append] at h
    simp only [ev]; rw [ev_congr C a σ τ fun y hy => h y (.inl hy), ev_congr C b σ τ fun y hy => h y (.inr hy)]
  | .rev a, σ, τ, h => by simp only [fv] at h; simp only [ev]; rw [ev_congr C a σ τ h]
  | .bi1 f a, σ, τ, h => by simp only [fv] at h; simp only [ev]; rw [ev_congr C a σ τ h]
  | .isi a t, σ, τ, h => by simp only [fv] at h; simp only [ev]; rw [ev_congr C a σ τ h]
  | .call f es, σ, τ, h => by simp only [fv] at h; simp only [ev]; rw [evs_congr C es σ τ h]
  | .order x _, σ, τ, h => by simp only [ev]; rw [h x (by simp [fv])]
termination_by structural e => e
theorem evs_congr (C : Calls) : ∀ (es : Es) (σ τ : St), (∀ y ∈ fvs es, σ y = τ y) → evs C es σ = evs C es τ
  | .nil, _, _, _ => by simp only [evs]
  | .cons e es, σ, τ, h => by
    simp only [fvs, List.mem_append] at h
    simp only [evs]; rw [ev_congr C e σ τ fun y hy => h y (.inl hy), evs_congr C es σ τ fun y hy => h y (.inr hy)]
termination_by structural es => es
theorem evIt_congr (C : Calls) : ∀ (it : It) (σ τ : St), (∀ y ∈ fvIt it, σ y = τ y) → evIt C it σ = evIt C it τ
  | .e a, σ, τ, h => by simp only [fvIt] at h; simp only [evIt]; rw [ev_congr C a σ τ h]
  | .r1 a, σ, τ, h => by simp only [fvIt] at h; simp only [evIt]; rw [ev_congr C a σ τ h]
  | .r2 a b, σ, τ, h => by
    simp only [fvIt, List.mem_append] at h
    simp only [evIt]; rw [ev_congr C a σ τ fun y hy => h y (.inl hy), ev_congr C b σ τ fun y hy => h y (.inr hy)]
termination_by structural it => it
end

noncomputable def resσ (σ : St) (ns : List String) : St := fun x => if x ∈ ns then σ x else none
theorem res_agree (σ : St) (ns : List String) : ∀ y ∈ ns, resσ σ ns y = σ y := fun y hy => by unfold resσ; rw [if_pos hy]

/-! ## the frame -/
structure Loc (env : Env) (Z : Addr → Prop) (h : Heap) (vals : String → Option Value) : Prop where
  ns : ∃ m, h.Ns env.locals m ∧ ∀ x v, vals x = some v → env.kindOf (Str.ofString x) = some .local → m (Str.ofString x) = some v
  nz : ¬ Z env.locals
  cell : ∀ n c, env.kindOf n = some .cell → env.cells.lookup n = some c → c ≠ env.locals ∧ ¬ Z c ∧ ∃ v, h.IsCell c v
  cval : ∀ x v c, vals x = some v → env.kindOf (Str.ofString x) = some .cell → env.cells.lookup (Str.ofString x) = some c → h.IsCell c (some v)
  apart : ∀ n n' c, env.cells.lookup n = some c → env.cells.lookup n' = some c → n = n'
  kinds : ∀ x v, vals x = some v → env.kindOf (Str.ofString x) = some .local ∨ env.kindOf (Str.ofString x) = some .cell

noncomputable def updV (vals : String → Option Value) (x : String) (v : Value) : String → Option Value := fun y => if y = x then some v else vals y

/-- a place of the frame: no list and no tuple -/
noncomputable def Spot (env : Env) (h : Heap) (T : Addr) : Prop := (T = env.locals ∧ ∃ m, h.Ns T m) ∨ ∃ v, h.IsCell T v
theorem Spot.noseq {env : Env} {h : Heap} {T : Addr} (t : Spot env h T) (o : Obj) (e : h.get? T = some o) (vs : Array Value) (n : Nat) : o.data ≠ .seq vs n := by
  intro q
  rcases t with ⟨_, m, o', es, ep, e', hd, _⟩ | ⟨v, o', e', hd⟩
  · rw [e'] at e; cases e; rw [hd] at q; cases q
  · rw [e'] at e; cases e; rw [hd] at q; cases q

theorem Spot.nostay {env : Env} {h : Heap} {T : Addr} (t : Spot env h T) (o : Obj) (e : h.get? T = some o) : ¬ Stay o := by
  rcases t with ⟨_, m, o', es, ep, e', hd, _⟩ | ⟨v, o', e', hd⟩
  · rw [e'] at e; cases e; exact Stay.not_dict hd
  · rw [e'] at e; cases e; exact Stay.not_data (fun _ q => by rw [hd] at q; cases q) fun _ _ q => by rw [hd] at q; cases q

section
variable {prog : Program} {w : World} {fns : Fns} {k : Nat} {C : Calls} {XP : String → Shared → Value → Shared → Prop}

theorem Loc.onK {env : Env} {Z : Addr → Prop} {h h' : Heap} {vals : String → Option Value} (L : Loc env Z h vals) (kp : K h h') : Loc env Z h' vals where
  ns := let ⟨m, a, b⟩ := L.ns; ⟨m, ns_k a kp, b⟩
  nz := L.nz
  cell := fun n c a b => let ⟨h1, h2, v, h3⟩ := L.cell n c a b; ⟨h1, h2, v, cell_k h3 kp⟩
  cval := fun x v c a b d => cell_k (L.cval x v c a b d) kp
  apart := L.apart
  kinds := L.kinds
theorem Loc.var {env : Env} {Z : Addr → Prop} {h : Heap} {vals : String → Option Value} (L : Loc env Z h vals) (eok : EnvOk env) {x : String} {v : Value} (hv : vals x = some v) : VarIs h env (Str.ofString x) v := by
  rcases L.kinds x v hv with hk | hk
  · obtain ⟨m, a, b⟩ := L.ns
    exact .loc m hk a (b x v hv hk)
  · obtain ⟨c, hc⟩ := eok.cells _ (.inl hk)
    exact .cell c (.inl hk) hc (L.cval x v c hv hk hc)

theorem Loc.store {A : Around} {env : Env} {Z : Addr → Prop} {vals : String → Option Value} {s : Shared} {x : String} {v : Value} {Q : Unit → Shared → Prop} {Er : Value → Shared → Prop} (L : Loc env Z s.heap vals) (eok : EnvOk env)
    (hx : env.kindOf (Str.ofString x) = some .local ∨ env.kindOf (Str.ofString x) = some .cell)
    (hQ : ∀ T h' tk, Heap.SameBut T s.heap h' → Spot env s.heap T → ¬ Z T → Loc env Z h' (updV vals x v) → Q () { s with heap := h', toks := tk }) : wpAny (model prog w) A (storeName env (Str.ofString x) v) Q Er s := by
  have inj : ∀ y, Str.ofString y = Str.ofString x → y = x := fun y e => ofString_inj e
  have kinds' : ∀ y u, updV vals x v y = some u → env.kindOf (Str.ofString y) = some .local ∨ env.kindOf (Str.ofString y) = some .cell := fun y u hu => by
    unfold updV at hu
    split at hu
    · rename_i e; subst e; exact hx
    · exact L.kinds y u hu
  obtain ⟨m, hm, hmv⟩ := L.ns
  rcases hx with hk | hk
  · refine wpAny_storeName_local hk hm (fun h' hn hs => hQ env.locals h' _ hs (.inl ⟨rfl, m, hm⟩) L.nz ?_) (by rw [eok.kind]; rfl)
    refine ⟨⟨_, hn, fun y u hu hky => ?_⟩, L.nz, fun n c hkn hc => ?_, fun y u c hu hky hc => ?_, L.apart, kinds'⟩
    · unfold updV at hu
      split at hu
      · rename_i e; subst e; cases hu; simp
      · rename_i e
        rw [if_neg fun q => e (inj y q)]
        exact hmv y u hu hky
    · obtain ⟨h1, h2, u, o, h3, h4⟩ := L.cell n c hkn hc
      exact ⟨h1, h2, u, o, hs.extBut c o h1 h3, h4⟩
    · unfold updV at hu
      split at hu
      · rename_i e; subst e; rw [hk] at hky; cases hky
      · obtain ⟨h1, _⟩ := L.cell _ c hky hc
        obtain ⟨o, h3, h4⟩ := L.cval y u c hu hky hc
        exact ⟨o, hs.extBut c o h1 h3, h4⟩
  · obtain ⟨c₀, hc₀⟩ := eok.cells _ (.inl hk)
    obtain ⟨h1, h2, v₀, h3⟩ := L.cell _ c₀ hk hc₀
    refine wpAny_storeName_cell eok.kind hk hc₀ h3 fun h' hn hs => hQ c₀ h' s.toks hs (.inr ⟨v₀, h3⟩) h2 ?_
    refine ⟨⟨m, hm.sameBut hs (Ne.symm h1), fun y u hu hky => ?_⟩, L.nz, fun n c hkn hc => ?_, fun y u c hu hky hc => ?_, L.apart, kinds'⟩
    · unfold updV at hu
      split at hu
      · rename_i e; subst e; rw [hk] at hky; cases hky
      · exact hmv y u hu hky
    · obtain ⟨g1, g2, u, o, g3, g4⟩ := L.cell n c hkn hc
      by_cases e : c = c₀
      · subst e; exact ⟨g1, g2, _, hn⟩
      · exact ⟨g1, g2, u, o, hs.extBut c o e g3, g4⟩
    · unfold updV at hu
      split at hu
      · rename_i e; subst e; cases hu
        rw [hc₀] at hc; cases hc
        exact hn
      · rename_i e
        obtain ⟨o, g3, g4⟩ := L.cval y u c hu hky hc
        refine ⟨o, hs.extBut c o (fun q => ?_) g3, g4⟩
        subst q
        exact e (inj y (L.apart _ _ c hc hc₀))

/-- a value where a place of the frame is written -/
theorem RV.spot {env : Env} {h h' : Heap} {T : Addr} {v : Value} {x : V} {as : List Addr} (r : RV prog w h v x as) (t : Spot env h T) (hL : ∀ a ∈ as, a ≠ env.locals) (hs : Heap.SameBut T h h') : RV prog w h' v x as := by
  have kp : ∀ b o, b ≠ T → h.get? b = some o → h'.get? b = some o := fun b o hb e => hs.extBut b o hb e
  have dne : ∀ a ∈ as, ∀ o es ep, h.get? a = some o → o.data = .dict es ep → a ≠ T := fun a ha o es ep e hd q => by
    subst q
    rcases t with ⟨t, _⟩ | ⟨v, o', e', hd'⟩
    · exact hL a ha t
    · rw [e'] at e; cases e; rw [hd'] at hd; cases hd
  have key : ∀ ks a, IsTupleKey (intKind prog w) h ks a → IsTupleKey (intKind prog w) h' ks a := fun ks a hk => by
    obtain ⟨o, it, n, a1, a2, a3⟩ := hk
    refine ⟨o, it, n, kp a o (fun q => ?_) a1, a2, a3⟩
    subst q
    exact t.noseq o a1 _ _ a3.1
  cases x with
  | d x => exact ⟨r.1.off (wr := [T]) (fun b hb o e => .inl (by rw [List.mem_singleton.mp hb] at e; exact t.noseq o e)) fun b o hb e => kp b o (fun q => hb (by simp [q])) e, r.2⟩
  | inst fs => exact r.elim
end
end Mine

namespace Mine
open PySem PyProof.Rows
set_option linter.unusedSectionVars false
variable [SF : Soft]

section
variable (prog : Program) (w : World) (fns : Fns) (k : Nat)
/-- how things stand between statements -/
structure SOK (h0 : Heap) (P Z : Addr → Prop) (A : Around) (env : Env) (h : Heap) (σ : St) (vals : String → Option Value) (fp : String → List Addr) : Prop where
  room : Room k A
  eok : EnvOk env
  ge : GE fns h0
  z0 : ∀ b o, h0.get? b = some o → Z b
  kp0 : K h0 h
  code : ∃ q, CodeOk h0 env.code q
  zdom : ∀ b, Z b → ∃ o, h.get? b = some o
  loc : Loc env Z h vals
  val : ∀ x p, σ x = some p → varK env.scope.names x = true ∧ ∃ v, vals x = some v ∧ RV prog w h v p.1 (fp x) ∧ ∀ a ∈ fp x, a ≠ env.locals ∧ (P a ∨ h0.get? a = none)
  top : ∀ x p, σ x = some p → p.2 = .top → ∃ a bs, fp x = a :: bs ∧ ¬ Z a ∧ a ∉ bs ∧ ∀ y q, y ≠ x → σ y = some q → a ∉ fp y
  deep : ∀ x p, σ x = some p → p.2 = .deep → (∀ a ∈ fp x, ¬ Z a ∧ ∀ y q, y ≠ x → σ y = some q → a ∉ fp y) ∧ (fp x).Nodup

/-- what stays: the given places, all tuples and codes -/
noncomputable def Stp (Z : Addr → Prop) (s s' : Shared) : Prop := ∃ h' tk, s' = { s with heap := h', toks := tk } ∧ KG Z s.heap h'
noncomputable def RetP (h0 : Heap) (P : Addr → Prop) (r : V × Mode) (v : Value) (s' : Shared) : Prop :=
  ∃ as, RV prog w s'.heap v r.1 as ∧ (∀ a ∈ as, P a ∨ h0.get? a = none) ∧ (r.2 = .top → ∃ a bs, as = a :: bs ∧ h0.get? a = none ∧ a ∉ bs) ∧ (r.2 = .deep → (∀ a ∈ as, h0.get? a = none) ∧ as.Nodup)
end

theorem Stp.refl (Z : Addr → Prop) (s : Shared) : Stp Z s s := ⟨s.heap, s.toks, rfl, KG.refl⟩
theorem Stp.trans {Z : Addr → Prop} {s s₁ s₂ : Shared} (a : Stp Z s s₁) (b : Stp Z s₁ s₂) : Stp Z s s₂ := by
  obtain ⟨h, t, rfl, k⟩ := a
  obtain ⟨h', t', rfl, k'⟩ := b
  exact ⟨h', t', rfl, k.trans k'⟩
theorem Kp.stp {Z : Addr → Prop} {s s₁ : Shared} (a : Kp s s₁) : Stp Z s s₁ := by
  obtain ⟨h, t, rfl, k⟩ := a
  exact ⟨h, t, rfl, k.mono fun _ _ => trivial⟩
theorem Stp.mono {Z Z' : Addr → Prop} {s s₁ : Shared} (a : Stp Z' s s₁) (h : ∀ b, Z b → Z' b) : Stp Z s s₁ := by
  obtain ⟨h', t, rfl, k⟩ := a
  exact ⟨h', t, rfl, k.mono h⟩
theorem Stp.same {Z : Addr → Prop} {s s₁ : Shared} {h' : Heap} {tk : Nat} {a : Addr} (st : Stp Z s s₁) (hs : Heap.SameBut a s₁.heap h') (hz : ¬ Z a) (hn : ∀ o, s₁.heap.get? a = some o → ¬ Stay o) : Stp Z s { s₁ with heap := h', toks := tk } := by
  obtain ⟨h, t, rfl, k⟩ := st
  exact ⟨h', tk, rfl, k.trans (KG.same hs hz hn)⟩

section
variable {prog : Program} {w : World} {fns : Fns} {k : Nat} {C : Calls} {XP : String → Shared → Value → Shared → Prop}
variable {h0 : Heap} {P Z : Addr → Prop} {A : Around} {env : Env} {h h' : Heap} {σ : St} {vals : String → Option Value} {fp : String → List Addr}

theorem SOK.onK (K : SOK prog w fns k h0 P Z A env h σ vals fp) (kp : KG (fun _ => True) h h') : SOK prog w fns k h0 P Z A env h' σ vals fp where
  room := K.room
  eok := K.eok
  ge := K.ge
  z0 := K.z0
  kp0 := KG.trans K.kp0 kp
  code := K.code
  zdom := fun b hb => let ⟨_, e⟩ := K.zdom b hb; Mine.K.there kp e
  loc := K.loc.onK kp
  val := fun x p hp => let ⟨a, v, b, c, d⟩ := K.val x p hp; ⟨a, v, b, c.k kp, d⟩
  top := K.top
  deep := K.deep

theorem SOK.h0n (K : SOK prog w fns k h0 P Z A env h σ vals fp) {a : Addr} (ha : ¬ Z a) : h0.get? a = none := by
  cases q : h0.get? a with
  | none => rfl
  | some o => exact absurd (K.z0 a o q) ha

theorem mk_deep {v : V} (h : (mk v).2 = .deep) : scal v = true := by
  unfold mk at h; dsimp only at h
  split at h
  · assumption
  · cases h
theorem mk_top {v : V} : (mk v).2 ≠ .top := by
  unfold mk; dsimp only; split <;> simp
theorem RV.scal_nil {v : Value} {x : V} {as : List Addr} (r : RV prog w h v x as) (hs : scal x = true) : as = [] := by
  cases x with
  | d x => exact r.1.sx_nil hs
  | _ => cases hs

theorem demote_some {σ : St} {ns : List String} {x : String} {p : V × Mode} (h : demote σ ns x = some p) : ∃ q, σ x = some q ∧ p.1 = q.1 ∧ ((x ∈ ns ∧ p = mk q.1) ∨ (x ∉ ns ∧ p = q)) := by
  unfold demote at h
  split at h
  · obtain ⟨q, hq, rfl⟩ := Option.map_eq_some_iff.mp h
    exact ⟨q, hq, rfl, .inl ⟨by assumption, rfl⟩⟩
  · exact ⟨p, h, rfl, .inr ⟨by assumption, rfl⟩⟩

theorem SOK.demote (K : SOK prog w fns k h0 P Z A env h σ vals fp) (ns : List String) : SOK prog w fns k h0 P Z A env h (demote σ ns) vals fp where
  room := K.room
  eok := K.eok
  ge := K.ge
  z0 := K.z0
  kp0 := K.kp0
  code := K.code
  zdom := K.zdom
  loc := K.loc
  val := fun x p hp => by
    obtain ⟨q, hq, e, _⟩ := demote_some hp
    rw [e]
    exact K.val x q hq
  top := fun x p hp ht => by
    obtain ⟨q, hq, e, hc⟩ := demote_some hp
    rcases hc with ⟨_, rfl⟩ | ⟨_, rfl⟩
    · exact absurd ht mk_top
    · obtain ⟨a, bs, h1, h2, h3, h4⟩ := K.top x p hq ht
      refine ⟨a, bs, h1, h2, h3, fun y r hy hr => ?_⟩
      obtain ⟨r', hr', _⟩ := demote_some hr
      exact h4 y r' hy hr'
  deep := fun x p hp hd => by
    obtain ⟨q, hq, e, hc⟩ := demote_some hp
    rcases hc with ⟨_, rfl⟩ | ⟨_, rfl⟩
    · obtain ⟨_, v, _, hr, _⟩ := K.val x q hq
      rw [hr.scal_nil (mk_deep hd)]
      exact ⟨fun _ h => (nomatch h), .nil⟩
    · obtain ⟨h1, h2⟩ := K.deep x p hq hd
      refine ⟨fun a ha => ⟨(h1 a ha).1, fun y r hy hr => ?_⟩, h2⟩
      obtain ⟨r', hr', _⟩ := demote_some hr
      exact (h1 a ha).2 y r' hy hr'
theorem SOK.consume (K : SOK prog w fns k h0 P Z A env h σ vals fp) (ns : List String) (m : Mode) : SOK prog w fns k h0 P Z A env h (consume σ ns m) vals fp := by
  unfold Mine.consume
  split
  · exact K
  · exact K.demote ns

/-- where an expression's old parts may lie -/
noncomputable def Own (σ : St) (fp : String → List Addr) (ns : List String) (a : Addr) : Prop := ∃ y q, y ∈ ns ∧ σ y = some q ∧ a ∈ fp y

theorem SOK.cx {s : Shared} (K : SOK prog w fns k h0 P Z A env s.heap σ vals fp) (ns : List String) : Cx prog w fns k A (Own σ fp ns) s.heap env (resσ σ ns) where
  room := K.room
  eok := K.eok
  ge := K.ge.k K.kp0
  code := fun _ => let ⟨q, c⟩ := K.code; ⟨q, c.k K.kp0⟩
  vars := fun x p hp _ => by
    unfold resσ at hp
    split at hp
    · obtain ⟨_, v, hv, hr, _⟩ := K.val x p hp
      exact ⟨v, fp x, K.loc.var K.eok hv, hr, fun a ha => ⟨x, p, by assumption, hp, ha⟩⟩
    · cases hp

theorem SOK.eval {s : Shared} {e : E} {exx : Expr} {r : V × Mode} {Q : Value → Shared → Prop} {Er : Value → Shared → Prop} (K : SOK prog w fns k h0 P Z A env s.heap σ vals fp) (S : SimE prog w fns k C XP e) (ok : okE env.scope.names e exx = true) (he : ev C e σ = .ok r)
    (hQ : ∀ v s', EP prog w (Own σ fp (fv e)) s r v s' → Q v s') : wpAny (model prog w) A (eval exx env) Q Er s := by
  have e1 : ev C e (resσ σ (fv e)) = .ok r := by rw [ev_congr C e _ σ (res_agree σ (fv e))]; exact he
  exact S ok (K.cx (fv e)) (by rw [e1]; simp) (fun r' hr v s' E => by rw [e1] at hr; cases hr; exact hQ v s' E) fun c hc => by rw [e1] at hc; cases hc
theorem SOK.evalT {s : Shared} {e : E} {exx : Expr} {b : Bool} {Q : Bool → Shared → Prop} {Er : Value → Shared → Prop} (K : SOK prog w fns k h0 P Z A env s.heap σ vals fp) (S : SimT prog w fns k C XP e) (ok : okE env.scope.names e exx = true) (he : ((ev C e σ).bind fun r => truth r.1) = .ok b)
    (hQ : ∀ s', Kp s s' → Q b s') : wpAny (model prog w) A (isTrue exx env (PySem.eval exx env)) Q Er s := by
  have e1 : ev C e (resσ σ (fv e)) = ev C e σ := ev_congr C e _ σ (res_agree σ (fv e))
  refine S ok (K.cx (fv e)) (by rw [e1, he]; simp) (fun r' hr s' kp => by rw [e1, he] at hr; cases hr; exact hQ s' kp) fun c hc => ?_
  rw [e1] at hc; rw [hc] at he; cases he

theorem SOK.own (K : SOK prog w fns k h0 P Z A env h σ vals fp) {ns : List String} {a : Addr} (ha : Own σ fp ns a) : (∃ o, h.get? a = some o) ∧ a ≠ env.locals ∧ (P a ∨ h0.get? a = none) := by
  obtain ⟨y, q, _, hq, hy⟩ := ha
  obtain ⟨_, v, _, hr, hd⟩ := K.val y q hq
  exact ⟨hr.there a hy, hd a hy⟩

/-- what a statement leaves alone -/
noncomputable def Frm (Z : Addr → Prop) (xs : List String) (σ : St) (vals : String → Option Value) (fp : String → List Addr) (σ' : St) (vals' : String → Option Value) (fp' : String → List Addr) : Prop :=
  (∀ y, y ∉ xs → vals' y = vals y ∧ fp' y = fp y) ∧ ∀ b, Z b → (∀ z q, σ z = some q → b ∉ fp z) → ∀ z q, σ' z = some q → b ∉ fp' z
section
variable {xs ys : List String} {σ₁ σ₂ : St} {vals₁ vals₂ : String → Option Value} {fp₁ fp₂ : String → List Addr} {Z' : Addr → Prop}
theorem Frm.id (h : ∀ z q, σ₁ z = some q → ∃ q', σ z = some q') : Frm Z xs σ vals fp σ₁ vals fp :=
  ⟨fun _ _ => ⟨rfl, rfl⟩, fun b _ hb z q hq => let ⟨q', hq'⟩ := h z q hq; hb z q' hq'⟩
theorem Frm.more (f : Frm Z xs σ vals fp σ₁ vals₁ fp₁) (h : ∀ y ∈ xs, y ∈ ys) : Frm Z ys σ vals fp σ₁ vals₁ fp₁ := ⟨fun y hy => f.1 y fun q => hy (h y q), f.2⟩
theorem Frm.trans (f : Frm Z xs σ vals fp σ₁ vals₁ fp₁) (g : Frm Z ys σ₁ vals₁ fp₁ σ₂ vals₂ fp₂) : Frm Z (xs ++ ys) σ vals fp σ₂ vals₂ fp₂ :=
  ⟨fun y hy => let a := f.1 y fun q => hy (List.mem_append_left _ q); let b := g.1 y fun q => hy (List.mem_append_right _ q); ⟨b.1.trans a.1, b.2.trans a.2⟩, fun b hz hb => g.2 b hz (f.2 b hz hb)⟩
theorem Frm.less (f : Frm Z' xs σ vals fp σ₁ vals₁ fp₁) (h : ∀ b, Z b → Z' b) : Frm Z xs σ vals fp σ₁ vals₁ fp₁ := ⟨f.1, fun b hz => f.2 b (h b hz)⟩
/-- one name gets new parts -/
theorem Frm.one {x : String} {r : V × Mode} {as : List Addr} {σ₁ : St} {vals₁ : String → Option Value} (hv : ∀ y, y ≠ x → vals₁ y = vals y) (h : ∀ z q, σ₁ z = some q → ∃ q', σ z = some q') (ha : ∀ b ∈ as, Z b → ∃ z q, σ z = some q ∧ b ∈ fp z) :
    Frm Z [x] σ vals fp (upd σ₁ x r) vals₁ (fun y => if y = x then as else fp y) := by
  refine ⟨fun y hy => ⟨hv y fun q => hy (by simp [q]), if_neg fun q => hy (by simp [q])⟩, fun b hz hb z q hq hm => ?_⟩
  unfold upd at hq
  dsimp only at hm
  by_cases e : z = x
  · have hm' : b ∈ as := by rwa [if_pos e] at hm
    obtain ⟨z', q', h1, h2⟩ := ha b hm' hz
    exact hb z' q' h1 h2
  · rw [if_neg e] at hq hm
    obtain ⟨q', hq'⟩ := h z q hq
    exact hb z q' hq' hm
end
theorem consume_some {σ : St} {ns : List String} {m : Mode} {y : String} {q : V × Mode} (hq : Mine.consume σ ns m y = some q) : ∃ q', σ y = some q' := by
  unfold Mine.consume at hq
  split at hq
  · exact ⟨q, hq⟩
  · obtain ⟨q', hq', _⟩ := demote_some hq; exact ⟨q', hq'⟩

/-- a value is bound to a name -/
theorem SOK.put {s : Shared} {x : String} {v : Value} {r : V × Mode} {as : List Addr} {Q : Unit → Shared → Prop} {Er : Value → Shared → Prop} (K : SOK prog w fns k h0 P Z A env s.heap σ vals fp)
    (hvk : varK env.scope.names x = true) (hk : env.kindOf (Str.ofString x) = some .local ∨ env.kindOf (Str.ofString x) = some .cell)
    (rv : RV prog w s.heap v r.1 as) (ha : ∀ a ∈ as, a ≠ env.locals ∧ (P a ∨ h0.get? a = none))
    (ht : r.2 = .top → ∃ a bs, as = a :: bs ∧ ¬ Z a ∧ a ∉ bs ∧ ∀ y q, y ≠ x → σ y = some q → a ∉ fp y) (hd : r.2 = .deep → (∀ a ∈ as, ¬ Z a ∧ ∀ y q, y ≠ x → σ y = some q → a ∉ fp y) ∧ as.Nodup)
    (hdis : ∀ y q, y ≠ x → σ y = some q → (q.2 = .top → ∀ a bs, fp y = a :: bs → a ∉ as) ∧ (q.2 = .deep → ∀ a ∈ fp y, a ∉ as))
    (hQ : ∀ s', Stp Z s s' → (∀ b o, b ≠ env.locals → (∀ u, o.data ≠ .cell u) → s.heap.get? b = some o → s'.heap.get? b = some o) → SOK prog w fns k h0 P Z A env s'.heap (upd σ x r) (updV vals x v) (fun y => if y = x then as else fp y) → Q () s') : wpAny (model prog w) A (storeName env (Str.ofString x) v) Q Er s := by
  refine K.loc.store K.eok hk fun T h' tk hs hT hZ L => hQ _ ((Stp.refl Z s).same hs hZ hT.nostay) (fun b o hb hc e => hs.extBut b o (fun q => ?_) e) ?_
  · rcases hT with ⟨hT, _⟩ | ⟨u, o', e', hd'⟩
    · exact hb (q.trans hT)
    · subst q
      rw [e'] at e; cases e
      exact hc u hd'
  have h0n : ∀ a, ¬ Z a → h0.get? a = none := fun a ha => by
    cases q : h0.get? a with
    | none => rfl
    | some o => exact absurd (K.z0 a o q) ha
  have kz : ∀ b o, Z b → s.heap.get? b = some o → h'.get? b = some o := fun b o hb e => hs.extBut b o (fun q => hZ (q ▸ hb)) e
  refine ⟨K.room, K.eok, K.ge, K.z0, Mine.K.same K.kp0 hs (h0n _ hZ) hT.nostay, K.code, fun b hb => let ⟨o, e⟩ := K.zdom b hb; ⟨o, kz b o hb e⟩, L, fun y p hp => ?_, fun y p hp htp => ?_, fun y p hp hdp => ?_⟩
  · unfold upd at hp
    by_cases hy : y = x
    · subst hy
      rw [if_pos rfl] at hp; cases hp
      refine ⟨hvk, v, by simp [updV], ?_, ?_⟩
      · rw [if_pos rfl]; exact rv.spot hT (fun a h => (ha a h).1) hs
      · rw [if_pos rfl]; exact ha
    · rw [if_neg hy] at hp
      obtain ⟨h1, u, h2, h3, h4⟩ := K.val y p hp
      refine ⟨h1, u, by simpa [updV, hy] using h2, ?_, ?_⟩
      · rw [if_neg hy]; exact h3.spot hT (fun a h => (h4 a h).1) hs
      · rw [if_neg hy]; exact h4
  · unfold upd at hp
    by_cases hy : y = x
    · subst hy
      rw [if_pos rfl] at hp; cases hp
      obtain ⟨a, bs, h1, h2, h3, h4⟩ := ht htp
      refine ⟨a, bs, by rw [if_pos rfl]; exact h1, h2, h3, fun z q hz hq => ?_⟩
      unfold upd at hq
      rw [if_neg hz] at hq ⊢
      exact h4 z q hz hq
    · rw [if_neg hy] at hp
      obtain ⟨a, bs, h1, h2, h3, h4⟩ := K.top y p hp htp
      refine ⟨a, bs, by rw [if_neg hy]; exact h1, h2, h3, fun z q hz hq => ?_⟩
      unfold upd at hq
      by_cases hzx : z = x
      · rw [if_pos hzx]
        exact (hdis y p hy hp).1 htp a bs h1
      · rw [if_neg hzx] at hq ⊢
        exact h4 z q hz hq
  · unfold upd at hp
    by_cases hy : y = x
    · subst hy
      rw [if_pos rfl] at hp; cases hp
      obtain ⟨h1, h2⟩ := hd hdp
      rw [if_pos rfl]
      refine ⟨fun a h => ⟨(h1 a h).1, fun z q hz hq => ?_⟩, h2⟩
      unfold upd at hq
      rw [if_neg hz] at hq ⊢
      exact (h1 a h).2 z q hz hq
    · rw [if_neg hy] at hp ⊢
      obtain ⟨h1, h2⟩ := K.deep y p hp hdp
      refine ⟨fun a h => ⟨(h1 a h).1, fun z q hz hq => ?_⟩, h2⟩
      unfold upd at hq
      by_cases hzx : z = x
      · rw [if_pos hzx]
        exact (hdis y p hy hp).2 hdp a h
      · rw [if_neg hzx] at hq ⊢
        exact (h1 a h).2 z q hz hq

/-- what an expression gives is bound to a name -/
theorem SOK.put_ep {s s₁ : Shared} {x : String} {v : Value} {r : V × Mode} {ns : List String} {Q : Unit → Shared → Prop} {Er : Value → Shared → Prop} (K : SOK prog w fns k h0 P Z A env s.heap σ vals fp)
    (hvk : varK env.scope.names x = true) (hk : env.kindOf (Str.ofString x) = some .local ∨ env.kindOf (Str.ofString x) = some .cell) (E : EP prog w (Own σ fp ns) s r v s₁)
    (hQ : ∀ s' as, RV prog w s₁.heap v r.1 as → Stp Z s₁ s' → (∀ b o, b ≠ env.locals → (∀ u, o.data ≠ .cell u) → s₁.heap.get? b = some o → s'.heap.get? b = some o) → SOK prog w fns k h0 P Z A env s'.heap (upd (Mine.consume σ ns r.2) x r) (updV vals x v) (fun y => if y = x then as else fp y) → Frm Z [x] σ vals fp (upd (Mine.consume σ ns r.2) x r) (updV vals x v) (fun y => if y = x then as else fp y) → Q () s') : wpAny (model prog w) A (storeName env (Str.ofString x) v) Q Er s₁ := by
  obtain ⟨kp, as, rv, ha, ht, hd⟩ := E
  have K₁ := (K.onK kp.k).consume ns r.2
  have nz : ∀ a, s.heap.get? a = none → ¬ Z a := fun a e hz => by
    obtain ⟨o, e'⟩ := K.zdom a hz
    rw [e] at e'; cases e'
  have nf : ∀ a, s.heap.get? a = none → ∀ y q, σ y = some q → a ∉ fp y := fun a e y q hq hm => by
    obtain ⟨_, u, _, hr, _⟩ := K.val y q hq
    obtain ⟨o, e'⟩ := hr.there a hm
    rw [e] at e'; cases e'
  have cs : ∀ y q, Mine.consume σ ns r.2 y = some q → ∃ q', σ y = some q' := fun y q hq => by
    unfold Mine.consume at hq
    split at hq
    · exact ⟨q, hq⟩
    · obtain ⟨q', hq', _⟩ := demote_some hq; exact ⟨q', hq'⟩
  obtain ⟨mL, hmL, _⟩ := K.loc.ns
  refine K₁.put hvk hk rv (fun a h => ?_) (fun htop => ?_) (fun hdeep => ?_) (fun y q hy hq => ?_) (fun s' st kk K' => hQ s' as rv st kk K' (.one (fun y hy => if_neg hy) (fun z q hq => consume_some hq) fun b hb hz => (ha b hb).elim (fun ⟨y, q, _, h1, h2⟩ => ⟨y, q, h1, h2⟩) fun e => absurd hz (nz b e)))
  · rcases ha a h with h1 | h1
    · exact (K.own h1).2
    · refine ⟨fun q => ?_, .inr ?_⟩
      · obtain ⟨o, _, _, e, _⟩ := hmL
        rw [← q] at e
        rw [h1] at e; cases e
      · cases e : h0.get? a with
        | none => rfl
        | some o => obtain ⟨_, e'⟩ := Mine.K.there K.kp0 e; rw [e'] at h1; cases h1
  · obtain ⟨a, bs, h1, h2, h3⟩ := ht htop
    exact ⟨a, bs, h1, nz a h2, h3, fun y q _ hq => let ⟨q', hq'⟩ := cs y q hq; nf a h2 y q' hq'⟩
  · obtain ⟨h1, h2⟩ := hd hdeep
    exact ⟨fun a h => ⟨nz a (h1 a h), fun y q _ hq => let ⟨q', hq'⟩ := cs y q hq; nf a (h1 a h) y q' hq'⟩, h2⟩
  · have main : ∀ a, (a ∈ as) → (∀ y' q', σ y' = some q' → a ∈ fp y' → y' ≠ y ∨ (y' ∈ ns ∧ r.2 ≠ .deep)) ∨ True := fun _ _ => .inr trivial
    clear main
    by_cases hdp : r.2 = .deep
    · have h1 := (hd hdp).1
      obtain ⟨q', hq'⟩ := cs y q hq
      exact ⟨fun _ a bs e hm => nf a (h1 a hm) y q' hq' (by rw [e]; exact .head _), fun _ a ha' hm => nf a (h1 a hm) y q' hq' ha'⟩
    · have hq2 : Mine.demote σ ns y = some q := by unfold Mine.consume at hq; rwa [if_neg hdp] at hq
      obtain ⟨q', hq', e1, hc⟩ := demote_some hq2
      rcases hc with ⟨_, rfl⟩ | ⟨hn, rfl⟩
      · refine ⟨fun h => absurd h mk_top, fun h a ha' => ?_⟩
        obtain ⟨_, u, _, hr, _⟩ := K.val y q' hq'
        rw [hr.scal_nil (mk_deep h)] at ha'
        cases ha'
      · refine ⟨fun h a bs e hm => ?_, fun h a ha' hm => ?_⟩
        · rcases ha a hm with ⟨z, p, hz, hp, hf⟩ | h1
          · obtain ⟨a', bs', e', _, _, h4⟩ := K.top y q hq' h
            rw [e] at e'; cases e'
            exact h4 z p (fun q => hn (q ▸ hz)) hp hf
          · exact nf a h1 y q hq' (by rw [e]; exact .head _)
        · rcases ha a hm with ⟨z, p, hz, hp, hf⟩ | h1
          · exact ((K.deep y q hq' h).1 a ha').2 z p (fun q => hn (q ▸ hz)) hp hf
          · exact nf a h1 y q hq' ha'

/-- more that stays -/
theorem SOK.freeze (K : SOK prog w fns k h0 P Z A env h σ vals fp) {G : Addr → Prop} (hdom : ∀ b, G b → ∃ o, h.get? b = some o) (hL : ¬ G env.locals) (hc : ∀ n c, env.kindOf n = some .cell → env.cells.lookup n = some c → ¬ G c)
    (ht : ∀ x p, σ x = some p → p.2 = .top → ∀ a bs, fp x = a :: bs → ¬ G a) (hd : ∀ x p, σ x = some p → p.2 = .deep → ∀ a ∈ fp x, ¬ G a) : SOK prog w fns k h0 P (fun b => Z b ∨ G b) A env h σ vals fp where
  room := K.room
  eok := K.eok
  ge := K.ge
  z0 := fun b o e => .inl (K.z0 b o e)
  kp0 := K.kp0
  code := K.code
  zdom := fun b hb => hb.elim (K.zdom b) (hdom b)
  loc := { K.loc with
    nz := fun q => q.elim K.loc.nz hL
    cell := fun n c a b => by
      obtain ⟨h1, h2, v, o, h3, h4⟩ := K.loc.cell n c a b
      exact ⟨h1, fun q => q.elim h2 (hc n c a b), v, o, h3, h4⟩ }
  val := K.val
  top := fun x p hp hq => by
    obtain ⟨a, bs, h1, h2, h3, h4⟩ := K.top x p hp hq
    exact ⟨a, bs, h1, fun q => q.elim h2 (ht x p hp hq a bs h1), h3, h4⟩
  deep := fun x p hp hq => by
    obtain ⟨h1, h2⟩ := K.deep x p hp hq
    exact ⟨fun a ha => ⟨fun q => q.elim (h1 a ha).1 (hd x p hp hq a ha), (h1 a ha).2⟩, h2⟩
theorem SOK.thaw {Z' : Addr → Prop} (K : SOK prog w fns k h0 P Z' A env h σ vals fp) (hz : ∀ b, Z b → Z' b) (h0z : ∀ b o, h0.get? b = some o → Z b) : SOK prog w fns k h0 P Z A env h σ vals fp where
  room := K.room
  eok := K.eok
  ge := K.ge
  z0 := h0z
  kp0 := K.kp0
  code := K.code
  zdom := fun b hb => K.zdom b (hz b hb)
  loc := { K.loc with
    nz := fun q => K.loc.nz (hz _ q)
    cell := fun n c a b => by
      obtain ⟨h1, h2, h3⟩ := K.loc.cell n c a b
      exact ⟨h1, fun q => h2 (hz _ q), h3⟩ }
  val := K.val
  top := fun x p hp hq => by
    obtain ⟨a, bs, h1, h2, h3, h4⟩ := K.top x p hp hq
    exact ⟨a, bs, h1, fun q => h2 (hz _ q), h3, h4⟩
  deep := fun x p hp hq => by
    obtain ⟨h1, h2⟩ := K.deep x p hp hq
    exact ⟨fun a ha => ⟨fun q => (h1 a ha).1 (hz _ q), (h1 a ha).2⟩, h2⟩
end
end Mine

namespace Mine
open PySem PyProof.Rows
set_option linter.unusedSectionVars false
variable [SF : Soft]

section
variable {prog : Program} {w : World} {fns : Fns} {k : Nat} {C : Calls} {XP : String → Shared → Value → Shared → Prop}
variable {h0 : Heap} {P Z : Addr → Prop} {A : Around} {env : Env} {h h' : Heap} {σ : St} {vals : String → Option Value} {fp : String → List Addr}

/-- a value of another's, where one place is written that is not of it -/
theorem RV.offA {a : Addr} {o : Obj} {v : Value} {x : V} {as : List Addr} (r : RV prog w h v x as) (ho : h.get? a = some o) (hc : o.cls ≠ .type "tuple") (hn : a ∉ as) (hs : Heap.SameBut a h h') : RV prog w h' v x as := by
  have kp : ∀ b o, b ≠ a → h.get? b = some o → h'.get? b = some o := fun b o hb e => hs.extBut b o hb e
  have key : ∀ ks b, IsTupleKey (intKind prog w) h ks b → IsTupleKey (intKind prog w) h' ks b := fun ks b hk => by
    obtain ⟨o', it, n, a1, a2, a3⟩ := hk
    refine ⟨o', it, n, kp b o' (fun q => ?_) a1, a2, a3⟩
    subst q
    rw [ho] at a1; cases a1
    exact hc a2
  cases x with
  | d x => exact ⟨r.1.off (wr := [a]) (fun b hb o' e => .inr (by
      rw [List.mem_singleton.mp hb] at e ⊢
      rw [ho] at e; cases e
      exact ⟨hc, hn⟩)) fun b o hb e => kp b o (fun q => hb (by simp [q])) e, r.2⟩
  | inst fs => exact r.elim

theorem Loc.offA {a : Addr} {o : Obj} (L : Loc env Z h vals) (ho : h.get? a = some o) (hc : ∀ v, o.data ≠ .cell v) (hL : a ≠ env.locals) (hs : Heap.SameBut a h h') : Loc env Z h' vals where
  ns := let ⟨m, x, y⟩ := L.ns; ⟨m, x.sameBut hs (Ne.symm hL), y⟩
  nz := L.nz
  cell := fun n c x y => by
    obtain ⟨h1, h2, v, o', h3, h4⟩ := L.cell n c x y
    refine ⟨h1, h2, v, o', hs.extBut c o' (fun q => ?_) h3, h4⟩
    subst q
    rw [ho] at h3; cases h3
    exact hc v h4
  cval := fun x v c p q r => by
    obtain ⟨o', h3, h4⟩ := L.cval x v c p q r
    refine ⟨o', hs.extBut c o' (fun q => ?_) h3, h4⟩
    subst q
    rw [ho] at h3; cases h3
    exact hc _ h4
  apart := L.apart
  kinds := L.kinds

/-- an owned object is written -/
theorem SOK.write {x : String} {p : V × Mode} {a : Addr} {o : Obj} {v' : V} {m' : Mode} {bs' : List Addr} (K : SOK prog w fns k h0 P Z A env h σ vals fp) (hp : σ x = some p) (hval : vals x = some (.ref a)) (ho : h.get? a = some o) (hoc : o.cls ≠ .type "tuple") (hst : ¬ Stay o) (hod : ∀ v, o.data ≠ .cell v)
    (hnz : ¬ Z a) (hne : ∀ y q, y ≠ x → σ y = some q → a ∉ fp y) (haL : a ≠ env.locals ∧ (P a ∨ h0.get? a = none)) (hs : Heap.SameBut a h h') (rv : RV prog w h' (.ref a) v' (a :: bs')) (hb : ∀ b ∈ bs', b ≠ env.locals ∧ (P b ∨ h0.get? b = none))
    (ht : m' = .top → a ∉ bs') (hd : m' = .deep → (∀ b ∈ bs', ¬ Z b ∧ ∀ y q, y ≠ x → σ y = some q → b ∉ fp y) ∧ (a :: bs').Nodup)
    (hdis : ∀ y q, y ≠ x → σ y = some q → (q.2 = .top → ∀ b cs, fp y = b :: cs → b ∉ bs') ∧ (q.2 = .deep → ∀ b ∈ fp y, b ∉ bs')) :
    SOK prog w fns k h0 P Z A env h' (upd σ x (v', m')) vals (fun y => if y = x then a :: bs' else fp y) := by
  have h0n : h0.get? a = none := by
    cases q : h0.get? a with
    | none => rfl
    | some o => exact absurd (K.z0 a o q) hnz
  have kz : ∀ b o, Z b → h.get? b = some o → h'.get? b = some o := fun b o hb e => hs.extBut b o (fun q => hnz (q ▸ hb)) e
  refine ⟨K.room, K.eok, K.ge, K.z0, Mine.K.same K.kp0 hs h0n (fun o' e => by rw [ho] at e; cases e; exact hst), K.code, fun b hb => let ⟨o, e⟩ := K.zdom b hb; ⟨o, kz b o hb e⟩, K.loc.offA ho hod haL.1 hs, fun y q hq => ?_, fun y q hq htp => ?_, fun y q hq hdp => ?_⟩
  · unfold upd at hq
    by_cases hy : y = x
    · subst hy
      rw [if_pos rfl] at hq; cases hq
      rw [if_pos rfl]
      refine ⟨(K.val y p hp).1, .ref a, hval, rv, fun b hb' => ?_⟩
      rcases List.mem_cons.mp hb' with rfl | hb'
      · exact haL
      · exact hb b hb'
    · rw [if_neg hy] at hq ⊢
      obtain ⟨h1, u, h2, h3, h4⟩ := K.val y q hq
      exact ⟨h1, u, h2, h3.offA ho hoc (hne y q hy hq) hs, h4⟩
  · unfold upd at hq
    by_cases hy : y = x
    · subst hy
      rw [if_pos rfl] at hq; cases hq
      rw [if_pos rfl]
      refine ⟨a, bs', rfl, hnz, ht htp, fun z r hz hr => ?_⟩
      unfold upd at hr
      rw [if_neg hz] at hr ⊢
      exact hne z r hz hr
    · rw [if_neg hy] at hq ⊢
      obtain ⟨b, cs, h1, h2, h3, h4⟩ := K.top y q hq htp
      refine ⟨b, cs, h1, h2, h3, fun z r hz hr => ?_⟩
      unfold upd at hr
      by_cases hzx : z = x
      · rw [if_pos hzx]
        intro hm
        rcases List.mem_cons.mp hm with e | hm
        · exact hne y q hy hq (by rw [h1, e]; exact .head _)
        · exact (hdis y q hy hq).1 htp b cs h1 hm
      · rw [if_neg hzx] at hr ⊢
        exact h4 z r hz hr
  · unfold upd at hq
    by_cases hy : y = x
    · subst hy
      rw [if_pos rfl] at hq; cases hq
      rw [if_pos rfl]
      obtain ⟨h1, h2⟩ := hd hdp
      refine ⟨fun b hb' => ?_, h2⟩
      rcases List.mem_cons.mp hb' with rfl | hb'
      · refine ⟨hnz, fun z r hz hr => ?_⟩
        unfold upd at hr
        rw [if_neg hz] at hr ⊢
        exact hne z r hz hr
      · refine ⟨(h1 b hb').1, fun z r hz hr => ?_⟩
        unfold upd at hr
        rw [if_neg hz] at hr ⊢
        exact (h1 b hb').2 z r hz hr
    · rw [if_neg hy] at hq ⊢
      obtain ⟨h1, h2⟩ := K.deep y q hq hdp
      refine ⟨fun b hb' => ⟨(h1 b hb').1, fun z r hz hr => ?_⟩, h2⟩
      unfold upd at hr
      by_cases hzx : z = x
      · rw [if_pos hzx]
        intro hm
        rcases List.mem_cons.mp hm with e | hm
        · exact hne y q hy hq (e ▸ hb')
        · exact (hdis y q hy hq).2 hdp b hb' hm
      · rw [if_neg hzx] at hr ⊢
        exact (h1 b hb').2 z r hz hr

/-- the head of an owned list -/
theorem SOK.head {x : String} {xs : List PyData} {m : Mode} (K : SOK prog w fns k h0 P Z A env h σ vals fp) (hp : σ x = some (.d (.list xs), m)) (hm : m ≠ .sh) :
    ∃ a vs n bs, vals x = some (.ref a) ∧ h.get? a = some ⟨.type "list", none, .seq vs.toArray n, #[]⟩ ∧ RA h vs xs bs ∧ fp x = a :: bs ∧ sz (.list xs) = true ∧ ¬ Z a ∧ a ∉ bs ∧ (∀ y q, y ≠ x → σ y = some q → a ∉ fp y) ∧ (∀ b ∈ a :: bs, b ≠ env.locals ∧ (P b ∨ h0.get? b = none)) ∧
      (m = .deep → (∀ b ∈ bs, ¬ Z b ∧ ∀ y q, y ≠ x → σ y = some q → b ∉ fp y) ∧ bs.Nodup) := by
  obtain ⟨_, v, hv, ⟨hr, hz⟩, hb⟩ := K.val x _ hp
  obtain ⟨a, vs, n, bs, rfl, ea, ra, e⟩ := hr.isList
  refine ⟨a, vs, n, bs, hv, ea, ra, e, hz, ?_⟩
  rw [e] at hb
  cases m with
  | sh => exact absurd rfl hm
  | top =>
    obtain ⟨a', bs', e', h1, h2, h3⟩ := K.top x _ hp rfl
    rw [e] at e'; cases e'
    exact ⟨h1, h2, h3, hb, fun h => (by cases h)⟩
  | deep =>
    obtain ⟨h1, h2⟩ := K.deep x _ hp rfl
    rw [e] at h1 h2
    rw [List.nodup_cons] at h2
    exact ⟨(h1 a (.head _)).1, h2.1, (h1 a (.head _)).2, hb, fun _ => ⟨fun b hb => h1 b (.tail _ hb), h2.2⟩⟩
end
end Mine

namespace Mine
open PySem PyProof.Rows
set_option linter.unusedSectionVars false
variable [SF : Soft]

/-- a name that may be bound -/
noncomputable def bndK (ns : List (Str × NameKind)) (x : String) : Bool := varK ns x && notDebug x && (ns.lookup (Str.ofString x) == some .local || ns.lookup (Str.ofString x) == some .cell)

structure Ps where
  tag : Nat := 0
  e1 : Expr := default
  e2 : Expr := default
  es : List Expr := []
  o1 : Option Expr := none
  s1 : List Stmt := []
  s2 : List Stmt := []
  pos : Pos := default
noncomputable def ps : Stmt → Ps
  | .Assign x0 x1 x2 => { tag := 1, es := x0, e1 := x1, pos := x2 }
  | .Expr x0 x1 => { tag := 2, e1 := x0, pos := x1 }
  | .Return x0 x1 => { tag := 3, o1 := x0, pos := x1 }
  | .If x0 x1 x2 x3 => { tag := 4, e1 := x0, s1 := x1, s2 := x2, pos := x3 }
  | .For x0 x1 x2 x3 x4 => { tag := 5, e1 := x0, e2 := x1, s1 := x2, s2 := x3, pos := x4 }
  | .While x0 x1 x2 x3 => { tag := 6, e1 := x0, s1 := x1, s2 := x2, pos := x3 }
  | _ => {}
noncomputable def psB (n : Nat) (p : Ps) : Stmt := match n with
  | 1 => .Assign p.es p.e1 p.pos
  | 2 => .Expr p.e1 p.pos
  | 3 => .Return p.o1 p.pos
  | 4 => .If p.e1 p.s1 p.s2 p.pos
  | 5 => .For p.e1 p.e2 p.s1 p.s2 p.pos
  | 6 => .While p.e1 p.s1 p.s2 p.pos
  | _ => default
theorem ps_back (e : Stmt) : (ps e).tag = 0 ∨ psB (ps e).tag (ps e) = e := by cases e <;> first | exact .inr rfl | exact .inl rfl
theorem ps_inv {e : Stmt} {n : Nat} (hn : n ≠ 0) (h : (ps e).tag = n) : e = psB n (ps e) := by
  rcases ps_back e with q | q
  · exact absurd (h.symm.trans q) hn
  · rw [h] at q; exact q.symm
noncomputable def sAsg (s : Stmt) : Option (List Expr × Expr × Pos) := ifN (ps s).tag 1 ((ps s).es, (ps s).e1, (ps s).pos)
noncomputable def sExp (s : Stmt) : Option (Expr × Pos) := ifN (ps s).tag 2 ((ps s).e1, (ps s).pos)
noncomputable def sRet (s : Stmt) : Option (Option Expr × Pos) := ifN (ps s).tag 3 ((ps s).o1, (ps s).pos)
noncomputable def sIf (s : Stmt) : Option (Expr × List Stmt × List Stmt × Pos) := ifN (ps s).tag 4 ((ps s).e1, (ps s).s1, (ps s).s2, (ps s).pos)
noncomputable def sFor (s : Stmt) : Option (Expr × Expr × List Stmt × List Stmt × Pos) := ifN (ps s).tag 5 ((ps s).e1, (ps s).e2, (ps s).s1, (ps s).s2, (ps s).pos)
theorem sAsg_inv {s : Stmt} {q : List Expr × Expr × Pos} (h : sAsg s = some q) : s = .Assign q.1 q.2.1 q.2.2 := by
  obtain ⟨h1, rfl⟩ := ifN_inv h
  exact ps_inv (by decide) h1
theorem sExp_inv {s : Stmt} {q : Expr × Pos} (h : sExp s = some q) : s = .Expr q.1 q.2 := by
  obtain ⟨h1, rfl⟩ := ifN_inv h
  exact ps_inv (by decide) h1
theorem sRet_inv {s : Stmt} {q : Option Expr × Pos} (h : sRet s = some q) : s = .Return q.1 q.2 := by
  obtain ⟨h1, rfl⟩ := ifN_inv h
  exact ps_inv (by decide) h1
theorem sIf_inv {s : Stmt} {q : Expr × List Stmt × List Stmt × Pos} (h : sIf s = some q) : s = .If q.1 q.2.1 q.2.2.1 q.2.2.2 := by
  obtain ⟨h1, rfl⟩ := ifN_inv h
  exact ps_inv (by decide) h1
theorem sFor_inv {s : Stmt} {q : Expr × Expr × List Stmt × List Stmt × Pos} (h : sFor s = some q) : s = .For q.1 q.2.1 q.2.2.1 q.2.2.2.1 q.2.2.2.2 := by
  obtain ⟨h1, rfl⟩ := ifN_inv h
  exact ps_inv (by decide) h1
/-- a method of an expression, called -/
noncomputable def sMth (s : Stmt) : Option (Expr × Str × Pos × List Expr × Pos × Pos) := (sExp s).bind fun q => (dCall q.1).bind fun c => (dNil c.2.2.1).bind fun _ => (dAttr c.1).map fun a => (a.1, a.2.1, a.2.2, c.2.1, c.2.2.2, q.2)
theorem sMth_inv {s : Stmt} {q : Expr × Str × Pos × List Expr × Pos × Pos} (h : sMth s = some q) : s = .Expr (.Call (.Attribute q.1 q.2.1 q.2.2.1) q.2.2.2.1 [] q.2.2.2.2.1) q.2.2.2.2.2 := by
  obtain ⟨c, h1, h⟩ := Option.bind_eq_some_iff.mp h
  obtain ⟨u, h2, h⟩ := Option.bind_eq_some_iff.mp h
  obtain ⟨_, h3, h⟩ := Option.bind_eq_some_iff.mp h
  obtain ⟨n, h4, h⟩ := Option.map_eq_some_iff.mp h
  subst h
  rw [sExp_inv h1, dCall_inv h2, dNil_inv h3, dAttr_inv h4]


mutual
noncomputable def okS (ns : List (Str × NameKind)) : S → Stmt → Bool
  | .assign x e, st => anyO (sAsg st) fun q => anyO (dOne q.1) fun t => anyO (dName t) fun n => n.1 == Str.ofString x && bndK ns x && okE ns e q.2.1
  | .append x e, st => anyO (sMth st) fun q => anyO (dName q.1) fun n => anyO (dOne q.2.2.2.1) fun v => q.2.1 == Str.ofString "append" && (q.2.2.1.endLine == q.2.2.2.2.1.line) && n.1 == Str.ofString x && bndK ns x && okE ns e v
  | .expr e, st => anyO (sExp st) fun q => (dCall q.1).isSome && okE ns e q.1
  | .ret e, st => anyO (sRet st) fun q => anyO q.1 fun v => okE ns e v
  | .retn x, st => anyO (sRet st) fun q => anyO q.1 fun v => anyO (dName v) fun n => n.1 == Str.ofString x && bndK ns x
  | .ite c a b, st => anyO (sIf st) fun q => okE ns c q.1 && okSs ns a q.2.1 && okSs ns b q.2.2.1
  | .for1 x it b, st => anyO (sFor st) fun q => anyO (dNil q.2.2.2.1) fun _ => anyO (dName q.1) fun n => n.1 == Str.ofString x && bndK ns x && okIt ns it q.2.1 && okSs ns b q.2.2.1
  | .forN x y b, st => anyO (sFor st) fun q => anyO (dNil q.2.2.2.1) fun _ => anyO (dName q.1) fun n => n.1 == Str.ofString x && bndK ns x && (okNm ns y q.2.1 && bndK ns y) && okSs ns b q.2.2.1
  | .bad, _ => false
termination_by structural s => s
noncomputable def okSs (ns : List (Str × NameKind)) : Ss → List Stmt → Bool
  | .nil, st => (dNil st).isSome
  | .cons s r, st => anyO (dCons st) fun q => okS ns s q.1 && okSs ns r q.2
termination_by structural s => s
end

section
variable {ns : List (Str × NameKind)} {st : Stmt} {x : String} {e i c : E} {a b : Ss}
theorem i_sassign (h : okS ns (.assign x e) st = true) : (∃ t pt v p, st = .Assign [.Name t pt] v p ∧ (t == Str.ofString x && bndK ns x && okE ns e v) = true) ∨ False := by
  obtain ⟨q, e1, h⟩ := anyO_inv h
  obtain ⟨t, e2, h⟩ := anyO_inv h
  obtain ⟨n, e3, h⟩ := anyO_inv h
  exact .inl ⟨_, _, _, _, by rw [sAsg_inv e1, dOne_inv e2, dName_inv e3], h⟩
theorem i_sappend (h : okS ns (.append x e) st = true) : (∃ t pt m ap v pos sp, st = .Expr (.Call (.Attribute (.Name t pt) m ap) [v] [] pos) sp ∧ (m == Str.ofString "append" && (ap.endLine == pos.line) && t == Str.ofString x && bndK ns x && okE ns e v) = true) ∨ False := by
  obtain ⟨q, e1, h⟩ := anyO_inv h
  obtain ⟨n, e2, h⟩ := anyO_inv h
  obtain ⟨v, e3, h⟩ := anyO_inv h
  exact .inl ⟨_, _, _, _, v, _, _, by rw [sMth_inv e1, dName_inv e2, dOne_inv e3], h⟩
theorem i_sexpr (h : okS ns (.expr e) st = true) : (∃ f xs ks p sp, st = .Expr (.Call f xs ks p) sp ∧ okE ns e (.Call f xs ks p) = true) ∨ False := by
  obtain ⟨q, e1, h⟩ := anyO_inv h
  obtain ⟨h1, h2⟩ := Bool.and_eq_true_iff.mp h
  obtain ⟨c, e2⟩ := Option.isSome_iff_exists.mp h1
  rw [dCall_inv e2] at h2
  exact .inl ⟨_, _, _, _, _, by rw [sExp_inv e1, dCall_inv e2], h2⟩
theorem i_sret (h : okS ns (.ret e) st = true) : (∃ v p, st = .Return (some v) p ∧ okE ns e v = true) ∨ False := by
  obtain ⟨q, e1, h⟩ := anyO_inv h
  obtain ⟨v, e2, h⟩ := anyO_inv h
  exact .inl ⟨v, _, by rw [sRet_inv e1, e2], h⟩
theorem i_sretn (h : okS ns (.retn x) st = true) : (∃ t pt p, st = .Return (some (.Name t pt)) p ∧ (t == Str.ofString x && bndK ns x) = true) ∨ False := by
  obtain ⟨q, e1, h⟩ := anyO_inv h
  obtain ⟨v, e2, h⟩ := anyO_inv h
  obtain ⟨n, e3, h⟩ := anyO_inv h
  exact .inl ⟨_, _, _, by rw [sRet_inv e1, e2, dName_inv e3], h⟩
theorem i_site (h : okS ns (.ite c a b) st = true) : (∃ t u v p, st = .If t u v p ∧ (okE ns c t && okSs ns a u && okSs ns b v) = true) ∨ False := by
  obtain ⟨q, e1, h⟩ := anyO_inv h
  exact .inl ⟨_, _, _, _, sIf_inv e1, h⟩
theorem i_sfor1 {it : It} (h : okS ns (.for1 x it b) st = true) : (∃ t pt i u p, st = .For (.Name t pt) i u [] p ∧ (t == Str.ofString x && bndK ns x && okIt ns it i && okSs ns b u) = true) ∨ False := by
  obtain ⟨q, e1, h⟩ := anyO_inv h
  obtain ⟨_, e2, h⟩ := anyO_inv h
  obtain ⟨n, e3, h⟩ := anyO_inv h
  exact .inl ⟨_, _, _, _, _, by rw [sFor_inv e1, dNil_inv e2, dName_inv e3], h⟩
theorem i_sforN {y : String} (h : okS ns (.forN x y b) st = true) : (∃ t pt i u p, st = .For (.Name t pt) i u [] p ∧ (t == Str.ofString x && bndK ns x && (okNm ns y i && bndK ns y) && okSs ns b u) = true) ∨ False := by
  obtain ⟨q, e1, h⟩ := anyO_inv h
  obtain ⟨_, e2, h⟩ := anyO_inv h
  obtain ⟨n, e3, h⟩ := anyO_inv h
  exact .inl ⟨_, _, _, _, _, by rw [sFor_inv e1, dNil_inv e2, dName_inv e3], h⟩
theorem i_snil {l : List Stmt} (h : okSs ns .nil l = true) : (l = [] ∧ True) ∨ False := by
  obtain ⟨_, e⟩ := Option.isSome_iff_exists.mp (show (dNil l).isSome = true from h)
  exact .inl ⟨dNil_inv e, trivial⟩
theorem i_scons {s : S} {l : List Stmt} (h : okSs ns (.cons s a) l = true) : (∃ t u, l = t :: u ∧ (okS ns s t && okSs ns a u) = true) ∨ False := by
  obtain ⟨q, e1, h⟩ := anyO_inv h
  exact .inl ⟨_, _, dCons_inv e1, h⟩
end

section
variable (prog : Program) (w : World) (fns : Fns) (k : Nat) (C : Calls)
noncomputable def SimS (st : S) : Prop := ∀ {stmt : Stmt} {h0 : Heap} {P Z : Addr → Prop} {A : Around} {env : Env} {σ : St} {vals : String → Option Value} {fp : String → List Addr} {s : Shared} {Q : Flow → Shared → Prop} {Er : Value → Shared → Prop} {σ' : St} {fl : Flw},
  okS env.scope.names st stmt = true → SOK prog w fns k h0 P Z A env s.heap σ vals fp → ex C st σ = .ok (σ', fl) →
  (fl = .next → ∀ s' vals' fp', Stp Z s s' → SOK prog w fns k h0 P Z A env s'.heap σ' vals' fp' → Frm Z (asg st) σ vals fp σ' vals' fp' → Q .next s') → (∀ r, fl = .ret r → ∀ v s', Stp Z s s' → RetP prog w h0 P r v s' → Q (.ret v) s') →
  wpAny (model prog w) A (exec stmt env) Q Er s
noncomputable def SimSs (st : Ss) : Prop := ∀ {stmts : List Stmt} {h0 : Heap} {P Z : Addr → Prop} {A : Around} {env : Env} {σ : St} {vals : String → Option Value} {fp : String → List Addr} {s : Shared} {Q : Flow → Shared → Prop} {Er : Value → Shared → Prop} {σ' : St} {fl : Flw},
  okSs env.scope.names st stmts = true → SOK prog w fns k h0 P Z A env s.heap σ vals fp → exs C st σ = .ok (σ', fl) →
  (fl = .next → ∀ s' vals' fp', Stp Z s s' → SOK prog w fns k h0 P Z A env s'.heap σ' vals' fp' → Frm Z (asgs st) σ vals fp σ' vals' fp' → Q .next s') → (∀ r, fl = .ret r → ∀ v s', Stp Z s s' → RetP prog w h0 P r v s' → Q (.ret v) s') →
  wpAny (model prog w) A (execs stmts env) Q Er s
end

section
variable {prog : Program} {w : World} {fns : Fns} {k : Nat} {C : Calls} {XP : String → Shared → Value → Shared → Prop}

theorem bnd {env : Env} {x : String} (h : bndK env.scope.names x = true) : varK env.scope.names x = true ∧ notDebug x = true ∧ (env.kindOf (Str.ofString x) = some .local ∨ env.kindOf (Str.ofString x) = some .cell) := by
  unfold bndK at h
  simp only [Bool.and_eq_true, Bool.or_eq_true, beq_iff_eq] at h
  exact ⟨h.1.1, h.1.2, h.2⟩

theorem retP_of {h0 : Heap} {P Z : Addr → Prop} {A : Around} {env : Env} {σ : St} {vals : String → Option Value} {fp : String → List Addr} {s s' : Shared} {ns : List String} {r : V × Mode} {v : Value} (K : SOK prog w fns k h0 P Z A env s.heap σ vals fp) (E : EP prog w (Own σ fp ns) s r v s') :
    RetP prog w h0 P r v s' := by
  obtain ⟨kp, as, rv, ha, ht, hd⟩ := E
  have nh : ∀ a, s.heap.get? a = none → h0.get? a = none := fun a e => by
    cases q : h0.get? a with
    | none => rfl
    | some o => obtain ⟨_, e'⟩ := Mine.K.there K.kp0 q; rw [e'] at e; cases e
  exact ⟨as, rv, fun a h => (ha a h).elim (fun q => (K.own q).2.2) fun q => .inr (nh a q), fun q => let ⟨a, bs, h1, h2, h3⟩ := ht q; ⟨a, bs, h1, nh a h2, h3⟩, fun q => ⟨fun a h => nh a ((hd q).1 a h), (hd q).2⟩⟩

theorem simS_ret {e : E} (S : SimE prog w fns k C XP e) : SimS prog w fns k C (.ret e) := by
  intro stmt h0 P Z A env σ vals fp s Q Er σ' fl ok K he hN hR
  replace ok := i_sret ok
  rcases ok with ⟨_, _, rfl, ok⟩ | ok
  · simp only [ex] at he
    obtain ⟨r, hr, he⟩ := Out.bind_ok he
    cases he
    exact wpAny_Return_some (K.eval S ok hr fun v s' E => hR r rfl v s' E.keeps.stp (retP_of K E))
  · cases ok

theorem simS_retn {x : String} : SimS prog w fns k C (.retn x) := by
  intro stmt h0 P Z A env σ vals fp s Q Er σ' fl ok K he hN hR
  replace ok := i_sretn ok
  rcases ok with ⟨_, _, _, rfl, ok⟩ | ok
  · simp only [Bool.and_eq_true, beq_iff_eq] at ok
    obtain ⟨rfl, hb⟩ := ok
    obtain ⟨h1, h2, h3⟩ := bnd hb
    simp only [ex] at he
    split at he
    · rename_i r hr
      cases he
      obtain ⟨_, v, hv, hrv, hd⟩ := K.val x r hr
      have nh : ∀ a, ¬ Z a → h0.get? a = none := fun a e => by
        cases q : h0.get? a with
        | none => rfl
        | some o => exact absurd (K.z0 a o q) e
      refine wpAny_Return_some (wp_var K.eok.kind h2 (K.loc.var K.eok hv) (hR r rfl v s (.refl Z s) ⟨fp x, hrv, fun a h => (hd a h).2, fun q => ?_, fun q => ?_⟩))
      · obtain ⟨a, bs, e1, e2, e3, _⟩ := K.top x r hr q
        exact ⟨a, bs, e1, nh a e2, e3⟩
      · obtain ⟨e1, e2⟩ := K.deep x r hr q
        exact ⟨fun a h => nh a (e1 a h).1, e2⟩
    · cases he
  · cases ok

theorem simS_ite {c : E} {a b : Ss} (T : SimT prog w fns k C XP c) (Sa : SimSs prog w fns k C a) (Sb : SimSs prog w fns k C b) : SimS prog w fns k C (.ite c a b) := by
  intro stmt h0 P Z A env σ vals fp s Q Er σ' fl ok K he hN hR
  replace ok := i_site ok
  rcases ok with ⟨_, _, _, _, rfl, ok⟩ | ok
  · simp only [Bool.and_eq_true] at ok
    simp only [ex] at he
    obtain ⟨r, hr, he⟩ := Out.bind_ok he
    obtain ⟨t, ht, he⟩ := Out.bind_ok he
    refine wpAny_If (K.evalT T ok.1.1 (b := t) (by rw [hr]; exact ht) fun s₁ kp => ?_)
    have K₁ := K.onK kp.k
    cases t with
    | true =>
      rw [if_pos rfl] at he ⊢
      exact Sa ok.1.2 K₁ he (fun e s' vals' fp' st K' F => hN e s' vals' fp' (kp.stp.trans st) K' (F.more fun y hy => List.mem_append_left _ hy)) fun r e v s' st R => hR r e v s' (kp.stp.trans st) R
    | false =>
      simp only [Bool.false_eq_true, if_false] at he ⊢
      exact Sb ok.2 K₁ he (fun e s' vals' fp' st K' F => hN e s' vals' fp' (kp.stp.trans st) K' (F.more fun y hy => List.mem_append_right _ hy)) fun r e v s' st R => hR r e v s' (kp.stp.trans st) R
  · cases ok

theorem simSs_nil : SimSs prog w fns k C .nil := by
  intro stmts h0 P Z A env σ vals fp s Q Er σ' fl ok K he hN hR
  replace ok := i_snil ok
  rcases ok with ⟨rfl, ok⟩ | ok
  · simp only [exs] at he
    cases he
    exact wpAny_execs_nil (hN rfl s vals fp (.refl Z s) K (.id fun z q h => ⟨q, h⟩))
  · cases ok
theorem simSs_cons {st : S} {r : Ss} (S : SimS prog w fns k C st) (T : SimSs prog w fns k C r) : SimSs prog w fns k C (.cons st r) := by
  intro stmts h0 P Z A env σ vals fp s Q Er σ' fl ok K he hN hR
  replace ok := i_scons ok
  rcases ok with ⟨_, _, rfl, ok⟩ | ok
  · simp only [Bool.and_eq_true] at ok
    simp only [exs] at he
    obtain ⟨⟨σ₁, fl₁⟩, h1, he⟩ := Out.bind_ok he
    dsimp only at he
    refine wpAny_execs_cons (S ok.1 K h1 (fun e s' vals' fp' st K' F => ?_) fun q e v s' st R => ?_)
    · subst e
      dsimp only at he ⊢
      exact T ok.2 K' he (fun e s'' vals'' fp'' st' K'' F' => hN e s'' vals'' fp'' (st.trans st') K'' (F.trans F')) fun r e v s'' st' R => hR r e v s'' (st.trans st') R
    · subst e
      cases he
      exact hR q rfl v s' st R
  · cases ok

theorem simS_expr {e : E} (S : SimE prog w fns k C XP e) : SimS prog w fns k C (.expr e) := by
  intro stmt h0 P Z A env σ vals fp s Q Er σ' fl ok K he hN hR
  replace ok := i_sexpr ok
  rcases ok with ⟨_, _, _, _, _, rfl, ok⟩ | ok
  · simp only [ex] at he
    obtain ⟨r, hr, he⟩ := Out.bind_ok he
    cases he
    have hi : interactive env = false := by unfold interactive; rw [K.eok.kind]; rfl
    exact wpAny_Expr_any (K.eval S ok hr fun v s' E => hN rfl s' vals fp E.keeps.stp ((K.onK E.keeps.k).consume _ _) (.id fun z q h => consume_some h)) hi
  · cases ok

theorem SOK.same {h0 : Heap} {P Z : Addr → Prop} {A : Around} {env : Env} {h h' : Heap} {σ : St} {vals : String → Option Value} {fp : String → List Addr} {D : Addr} {m : Str → Option Value} (K : SOK prog w fns k h0 P Z A env h σ vals fp) (hm : h.Ns D m) (hZ : ¬ Z D) (hL : D ≠ env.locals) (hf : ∀ y q, σ y = some q → D ∉ fp y)
    (hs : Heap.SameBut D h h') : SOK prog w fns k h0 P Z A env h' σ vals fp := by
  have kz : ∀ b o, Z b → h.get? b = some o → h'.get? b = some o := fun b o hb e => hs.extBut b o (fun q => hZ (q ▸ hb)) e
  have hm' := hm
  obtain ⟨o, es, ep, ho, hd, _⟩ := hm'
  refine ⟨K.room, K.eok, K.ge, K.z0, Mine.K.same K.kp0 hs (K.h0n hZ) (fun o' e => by rw [ho] at e; cases e; exact Stay.not_dict hd), K.code, fun b hb => let ⟨o, e⟩ := K.zdom b hb; ⟨o, kz b o hb e⟩, K.loc.offA ho (fun v q => by rw [hd] at q; cases q) hL hs, fun y q hq => ?_, K.top, K.deep⟩
  obtain ⟨h1, u, h2, h3, h4⟩ := K.val y q hq
  exact ⟨h1, u, h2, h3.spot (env := { env with locals := D }) (.inl ⟨rfl, m, hm⟩) (fun a ha (e : a = D) => hf y q hq (e ▸ ha)) hs, h4⟩

end
end Mine

namespace Mine
open PySem PyProof.Rows
set_option linter.unusedSectionVars false
variable [SF : Soft]

section
variable {prog : Program} {w : World} {fns : Fns} {k : Nat} {C : Calls} {XP : String → Shared → Value → Shared → Prop}

noncomputable def noComp : Expr → Bool
  | .ListComp .. | .SetComp .. | .DictComp .. => false
  | _ => true
theorem swaps_plain {v : Expr} (h : noComp v = true) (t : Option Expr) (l : Nat) (env : Env) : swapsWith v t l env = pure false := by
  cases v <;> first | rfl | cases h
theorem swaps_comp {e : Expr} {gs : List Comprehension} {sc : Scope} {p : Pos} {t : Str} {q : Pos} {l : Nat} {env : Env} : swapsWith (.ListComp e gs sc p) (some (.Name t q)) l env = pure true ∨ swapsWith (.ListComp e gs sc p) (some (.Name t q)) l env = pure false := by
  have e1 : swapsWith (.ListComp e gs sc p) (some (.Name t q)) l env = pure (env.blockKind == .function && env.kindOf t == some .local && q.line == (Expr.ListComp e gs sc p).pos.line && !(sc.names.any fun (n, k) => n == t && (k == .local || k == .cell))) := rfl
  rw [e1]
  generalize (env.blockKind == .function && env.kindOf t == some .local && q.line == (Expr.ListComp e gs sc p).pos.line && !(sc.names.any fun (n, k) => n == t && (k == .local || k == .cell))) = b
  cases b
  · exact .inr rfl
  · exact .inl rfl

noncomputable def isComp : E → Bool
  | .comp _ _ _ | .compif _ _ _ _ => true
  | _ => false
theorem noComp_ok {ns : List (Str × NameKind)} {e : E} {ex : Expr} (hp : isComp e = false) (h : okE ns e ex = true) : noComp ex = true := by
  cases ex with
  | ListComp _ _ _ _ =>
    cases e with
    | comp _ _ _ => cases hp
    | compif _ _ _ _ => cases hp
    | _ => exact Bool.noConfusion (show false = true from h)
  | _ => first | rfl | (cases e <;> exact Bool.noConfusion (show false = true from h))

theorem comp_wrapU {x t : String} {px pt : Pos} {elt iter : Expr} {ifs : List Expr} {sc : Scope} {pos spos : Pos} {A : Around} {env : Env} {σ : St} {P : Addr → Prop} {s : Shared} {Q : Flow → Shared → Prop} {Er : Value → Shared → Prop} {h : Heap}
    (hsc : okSc env.scope.names sc x = true) (X : Cx prog w fns k A P h env σ) (hset : ∀ v, foldedSetIterable iter env v = pure v) (hsw : swapsWith (.ListComp elt [⟨.Name (Str.ofString x) px, iter, ifs, 0⟩] sc pos) (some (.Name (Str.ofString t) pt)) spos.line env = pure true)
    (h : ∀ cl : List (Str × Addr), (∀ n, (n, NameKind.free) ∈ sc.names → cl.lookup n = env.cells.lookup n) → wpAny (model prog w) A (eval iter env) (fun v s₁ => wpAny (model prog w) A (pyIter v) (fun i s₂ => wpAny (model prog w) A (newObj (.type "list") (.seq #[]) none) (fun acc s₃ =>
      wpAny (model prog w) A (newFunctionEnv sc env.globals cl [] env.qual none .none (some env)) (fun cenv s₄ =>
        codeAny (model prog w) A (.compStart (.ListComp elt [⟨.Name (Str.ofString x) px, iter, ifs, 0⟩] sc pos) 0 i acc { cenv with scope := relabel sc env }) (compPost (model prog w) A Er (some (assign (.Name (Str.ofString t) pt) env)) (fun _ s' => Q .next s') acc cenv.locals) s₄) Er s₃) Er s₂) Er s₁) Er s) :
    wpAny (model prog w) A (exec (.Assign [.Name (Str.ofString t) pt] (.ListComp elt [⟨.Name (Str.ofString x) px, iter, ifs, 0⟩] sc pos) spos) env) Q Er s := by
  obtain ⟨hk, hnd, htg, hnames⟩ := okSc_iff hsc
  obtain ⟨cl, hcl, hclk⟩ := closure_ok (scope := sc) (env := env) (fun p hp e => by
    rcases hnames p hp with h | h | h | h
    · rw [h.1] at e; cases e
    · rw [h] at e; cases e
    · rw [h.1] at e; cases e
    · exact X.eok.cells p.1 h.2)
  rw [exec_Assign_Name_used _ _ _ _ hsw]
  refine wpAny_bind (wpAny_standAt (wpAny_bind ?_))
  show wpAny _ A (do let _ ← comprehension (.ListComp elt [⟨.Name (Str.ofString x) px, iter, ifs, 0⟩] sc pos) sc env _ (newList []) false (eval iter env) (some (assign (.Name (Str.ofString t) pt) env))) _ _ s
  exact wpAny_bind (wpAny_mono (wpAny_comprehension_free (use := some (assign (.Name (Str.ofString t) pt) env)) (Q := fun _ s' => Q .next s') rfl hset hcl hk (fun y hy e => by rw [← e]; exact lookup_mem hnd hy) (h cl hclk)) (fun _ s' hq => wpAny_pure (wpAny_pure hq)) fun _ _ e => e)

/-- the end of a comprehension whose list is bound at once -/
theorem comp_end {h0 : Heap} {P Z : Addr → Prop} {A : Around} {env : Env} {σ : St} {vals : String → Option Value} {fp : String → List Addr} {s s₂ : Shared} {Q : Flow → Shared → Prop} {Er : Value → Shared → Prop} {x : String} {px : Pos} {ns : List String} {d : PyData} {md : Mode} {v : Value} {h : Heap} {tk : Nat} {D : Addr} {m : Str → Option Value}
    (K : SOK prog w fns k h0 P Z A env s.heap σ vals fp) (hb : bndK env.scope.names x = true) (E : EP prog w (Own σ fp ns) s (.d d, md) v { s₂ with heap := h, toks := tk }) (hm : h.Ns D m) (hD : s.heap.get? D = none)
    (hN : ∀ s' vals' fp', Stp Z s s' → SOK prog w fns k h0 P Z A env s'.heap (upd (consume σ ns md) x (.d d, md)) vals' fp' → Frm Z [x] σ vals fp (upd (consume σ ns md) x (.d d, md)) vals' fp' → Q .next s') :
    compPost (model prog w) A Er (some (assign (.Name (Str.ofString x) px) env)) (fun _ s' => Q .next s') v D (.ok .next) { s₂ with heap := h, toks := tk } := by
  obtain ⟨h1, h2, h3⟩ := bnd hb
  show wpAny _ A (assign (.Name (Str.ofString x) px) env v) _ _ _
  refine wpAny_assign_Name (K.put_ep h1 h3 E fun s' as rv st kk K' F => ?_)
  have dL : D ≠ env.locals := fun q => by
    obtain ⟨m', ⟨o, _, _, e, _⟩, _⟩ := K.loc.ns
    rw [← q] at e
    rw [hD] at e; cases e
  have hmo := hm
  obtain ⟨o, es, ep, ho, hd, hr⟩ := hmo
  have ho' := kk D o dL (fun u q => by rw [hd] at q; cases q) ho
  have hm' : s'.heap.Ns D m := ⟨o, es, ep, ho', hd, hr⟩
  refine ⟨m, hm', fun h' hs => hN _ _ _ ?_ (K'.same hm' (fun hz => ?_) dL (fun y q hq hf => ?_) hs) F⟩
  · refine (E.keeps.stp.trans st).same hs (fun hz => ?_) fun o' e => by rw [ho'] at e; cases e; exact Stay.not_dict hd
    obtain ⟨o, e⟩ := K.zdom D hz
    rw [hD] at e; cases e
  · obtain ⟨o, e⟩ := K.zdom D hz
    rw [hD] at e; cases e
  · split at hf
    · obtain ⟨_, _, e⟩ := rv.1.there D hf
      rw [ho] at e; cases e; cases hd
    · rename_i hy
      unfold upd at hq
      rw [if_neg hy] at hq
      have : ∃ q', σ y = some q' := by
        unfold consume at hq
        split at hq
        · exact ⟨q, hq⟩
        · obtain ⟨q', hq', _⟩ := demote_some hq; exact ⟨q', hq'⟩
      obtain ⟨q', hq'⟩ := this
      obtain ⟨_, u, _, hr, _⟩ := K.val y q' hq'
      obtain ⟨o, e⟩ := hr.there D hf
      rw [hD] at e; cases e

theorem simS_assign {x : String} {e : E} (S : SimE prog w fns k C XP e) (Sc : (∀ elt y it, e = .comp elt y it → SimIt prog w fns k C XP it ∧ SimE prog w fns k C XP elt) ∧ ∀ elt y it c, e = .compif elt y it c → SimIt prog w fns k C XP it ∧ SimE prog w fns k C XP elt ∧ SimT prog w fns k C XP c) : SimS prog w fns k C (.assign x e) := by
  intro stmt h0 P Z A env σ vals fp s Q Er σ' fl ok K he hN hR
  replace ok := i_sassign ok
  rcases ok with ⟨_, _, _, _, rfl, ok⟩ | ok
  · rename_i t pt v spos
    simp only [Bool.and_eq_true, beq_iff_eq] at ok
    obtain ⟨⟨rfl, hb⟩, oe⟩ := ok
    obtain ⟨h1, h2, h3⟩ := bnd hb
    simp only [ex] at he
    obtain ⟨r, hr, he⟩ := Out.bind_ok he
    cases he
    have plain : swapsWith v (some (.Name (Str.ofString x) pt)) spos.line env = pure false → wpAny (model prog w) A (exec (.Assign [.Name (Str.ofString x) pt] v spos) env) Q Er s := fun hsw => by
      refine wpAny_Assign_Name (K.eval S oe hr fun u s' E => ?_) hsw
      exact K.put_ep h1 h3 E fun s'' as rv st kk K' F => hN rfl s'' _ _ (E.keeps.stp.trans st) K' F
    cases hc : isComp e with
    | false => exact plain (swaps_plain (noComp_ok hc oe) _ _ _)
    | true =>
      cases e with
      | comp elt y it =>
        obtain ⟨Si, Se⟩ := Sc.1 elt y it rfl
        replace oe := i_comp oe
        rcases oe with ⟨_, _, _, _, _, _, rfl, oe⟩ | oe
        · rename_i ee ty py iter sc pos
          rcases swaps_comp (e := ee) (gs := [⟨.Name ty py, iter, [], 0⟩]) (sc := sc) (p := pos) (t := Str.ofString x) (q := pt) (l := spos.line) (env := env) with hsw | hsw
          · simp only [Bool.and_eq_true, beq_iff_eq] at oe
            obtain ⟨⟨⟨rfl, hsc⟩, oi⟩, oe⟩ := oe
            have X := K.cx (fv (.comp elt y it))
            have e1 : ev C (.comp elt y it) (resσ σ (fv (.comp elt y it))) = .ok r := by rw [ev_congr C _ _ σ (res_agree σ _)]; exact hr
            simp only [ev] at e1
            obtain ⟨q, hq, e1⟩ := Out.bind_ok e1
            obtain ⟨res, hres, e1⟩ := Out.bind_ok e1
            cases e1
            refine comp_wrapU hsc X (fset oi env) hsw fun cl hcl => Si oi X (by rw [hq]; simp) (fun q' hq' i s₂ I => ?_) fun c hc => by rw [hq] at hc; cases hc
            rw [hq] at hq'; cases hq'
            obtain ⟨res', hres'⟩ := calm_ne_bad (by rw [hres]; simp : (compL _ q.1).calm ≠ .bad)
            rw [hres'] at hres; cases hres
            refine comp_coreG (RR := fun acc C => compPost (model prog w) A Er (some (assign (.Name (Str.ofString x) pt) env)) (fun _ s' => Q .next s') acc C) (ds := q.1) hsc X hres' (fun d r hf cenv s₃ P' Q₁ Q₂ Er' hNm X' g1 g2 => wpAny_tests_nil ?_) I (fun D C h tk m E hm hC => comp_end K hb E hm hC fun s' vals' fp' st K' F => hN rfl s' vals' fp' st K' F) hcl
            rw [if_pos rfl]
            obtain ⟨z, hz, e⟩ := Out.bind_ok hf
            cases e
            exact Se (hNm ▸ oe) X' (by rw [hz]; simp) (fun r hr v s' E => g2 r (by rw [hz] at hr; cases hr; rfl) v s' E) fun c hc => by rw [hz] at hc; cases hc
          · exact plain hsw
        · cases oe
      | compif elt y it c =>
        obtain ⟨Si, Se, Sc'⟩ := Sc.2 elt y it c rfl
        replace oe := i_compif oe
        rcases oe with ⟨_, _, _, _, _, _, _, rfl, oe⟩ | oe
        · rename_i ee ty py iter ff sc pos
          rcases swaps_comp (e := ee) (gs := [⟨.Name ty py, iter, [ff], 0⟩]) (sc := sc) (p := pos) (t := Str.ofString x) (q := pt) (l := spos.line) (env := env) with hsw | hsw
          · simp only [Bool.and_eq_true, beq_iff_eq] at oe
            obtain ⟨⟨⟨⟨rfl, hsc⟩, oi⟩, oc⟩, oe⟩ := oe
            have X := K.cx (fv (.compif elt y it c))
            have e1 : ev C (.compif elt y it c) (resσ σ (fv (.compif elt y it c))) = .ok r := by rw [ev_congr C _ _ σ (res_agree σ _)]; exact hr
            simp only [ev] at e1
            obtain ⟨q, hq, e1⟩ := Out.bind_ok e1
            obtain ⟨res, hres, e1⟩ := Out.bind_ok e1
            cases e1
            refine comp_wrapU hsc X (fset oi env) hsw fun cl hcl => Si oi X (by rw [hq]; simp) (fun q' hq' i s₂ I => ?_) fun c hc => by rw [hq] at hc; cases hc
            rw [hq] at hq'; cases hq'
            obtain ⟨res', hres'⟩ := calm_ne_bad (by rw [hres]; simp : (compL _ q.1).calm ≠ .bad)
            rw [hres'] at hres; cases hres
            refine comp_coreG (RR := fun acc C => compPost (model prog w) A Er (some (assign (.Name (Str.ofString x) pt) env)) (fun _ s' => Q .next s') acc C) (ds := q.1) hsc X hres' (fun d r hf cenv s₃ P' Q₁ Q₂ Er' hNm X' g1 g2 => wpAny_tests_one ?_) I (fun D C h tk m E hm hC => comp_end K hb E hm hC fun s' vals' fp' st K' F => hN rfl s' vals' fp' st K' F) hcl
            obtain ⟨t, ht, hf⟩ := Out.bind_ok hf
            obtain ⟨b, hb', hf⟩ := Out.bind_ok hf
            refine Sc' (hNm ▸ oc) X' (by rw [ht, Out.ok_bind, hb']; simp) (fun b'' hb'' s₄ k₄ => ?_) fun c hc => by rw [ht] at hc; cases hc
            rw [ht, Out.ok_bind, hb'] at hb''
            cases hb''
            cases b with
            | false => cases hf; simpa using g1 rfl s₄ k₄
            | true =>
              rw [if_pos rfl] at hf ⊢
              obtain ⟨z, hz, e⟩ := Out.bind_ok hf
              cases e
              exact Se (hNm ▸ oe) (X'.k k₄.k) (by rw [hz]; simp) (fun r hr v s' E => g2 r (by rw [hz] at hr; cases hr; rfl) v s' (E.after k₄)) fun c hc => by rw [hz] at hc; cases hc
          · exact plain hsw
        · cases oe
      | _ => cases hc
  · cases ok
end
end Mine

namespace Mine
open PySem PyProof.Rows
set_option linter.unusedSectionVars false
variable [SF : Soft]

section
variable {prog : Program} {w : World} {fns : Fns} {k : Nat} {C : Calls} {XP : String → Shared → Value → Shared → Prop}
variable {h0 : Heap} {P Z : Addr → Prop} {A : Around} {env : Env} {σ : St} {vals : String → Option Value} {fp : String → List Addr}

/-- an owned list gets another item -/
theorem SOK.putl {s s₂ : Shared} {h' : Heap} {ns : List String} {x : String} {xs zs : List PyData} {mx m : Mode} {as : List Addr} {σ' : St} {fl : Flw} {a : Addr} {vs vs' : List Value} {n n' : Nat} {bs bs' : List Addr}
    (K : SOK prog w fns k h0 P Z A env s.heap σ vals fp) (kp : Kp s s₂) (ha : ∀ b ∈ as, Own σ fp ns b ∨ s.heap.get? b = none) (hdp : m = .deep → (∀ b ∈ as, s.heap.get? b = none) ∧ as.Nodup)
    (hx : σ x = some (.d (.list xs), mx)) (hput : putV σ x ns mx zs m = .ok (σ', fl)) (hm : mx ≠ .sh)
    (hv : vals x = some (.ref a)) (ea : s.heap.get? a = some ⟨.type "list", none, .seq vs.toArray n, #[]⟩) (hfp : fp x = a :: bs) (hZ : ¬ Z a) (hab : a ∉ bs) (hne : ∀ y q, y ≠ x → σ y = some q → a ∉ fp y) (hP : ∀ b ∈ a :: bs, b ≠ env.locals ∧ (P b ∨ h0.get? b = none))
    (hdx : mx = .deep → (∀ b ∈ bs, ¬ Z b ∧ ∀ y q, y ≠ x → σ y = some q → b ∉ fp y) ∧ bs.Nodup)
    (hs : Heap.SameBut a s₂.heap h') (ea' : h'.get? a = some ⟨.type "list", none, .seq vs'.toArray n', #[]⟩) (rr : RA s₂.heap vs' zs bs') (hz : ∀ z ∈ zs, sz z = true) (hbs : ∀ b ∈ bs', b ∈ bs ∨ b ∈ as) (hnd : (bs ++ as).Nodup → bs'.Nodup) :
    fl = .next ∧ ∃ fp', SOK prog w fns k h0 P Z A env h' σ' vals fp' ∧ Frm Z [x] σ vals fp σ' vals fp' := by
  have nz : ∀ a, s.heap.get? a = none → ¬ Z a := fun a e hz => by
    obtain ⟨o, e'⟩ := K.zdom a hz
    rw [e] at e'; cases e'
  have nf : ∀ a, s.heap.get? a = none → ∀ y q, σ y = some q → a ∉ fp y := fun a e y q hq hm => by
    obtain ⟨_, u, _, hr, _⟩ := K.val y q hq
    obtain ⟨o, e'⟩ := hr.there a hm
    rw [e] at e'; cases e'
  unfold putV at hput
  split at hput
  · rename_i hlen
    have ea₂ := kp.k.get ea rfl
    -- the head is not among the new item's parts
    have main : ∀ (hcase : m = .deep ∨ x ∉ ns), a ∉ as := fun hcase hm => by
      rcases ha a hm with ⟨z, q, hz, hq, hf⟩ | h1
      · rcases hcase with hc | hc
        · have := (hdp hc).1 a hm
          rw [ea] at this; cases this
        · exact hne z q (fun e => hc (e ▸ hz)) hq hf
      · rw [ea] at h1; cases h1
    have rv' : (hcase : m = .deep ∨ x ∉ ns) → RV prog w h' (.ref a) (.d (.list zs)) (a :: bs') := fun hcase => by
      refine ⟨.list ea' (rr.off (wr := [a]) (fun b hb o e => .inr ?_) fun b o hb e => hs.extBut b o (fun q => hb (by simp [q])) e), sz_list.mpr ⟨?_, hz⟩⟩
      · rw [List.mem_singleton.mp hb] at e ⊢
        rw [ea₂] at e; cases e
        exact ⟨by simp, fun hm => (hbs a hm).elim hab (main hcase)⟩
      · unfold lim at hlen; lia
    have pb : ∀ b ∈ bs', b ≠ env.locals ∧ (P b ∨ h0.get? b = none) := fun b hb => by
      rcases hbs b hb with h1 | h1
      · exact hP b (.tail _ h1)
      · rcases ha b h1 with h2 | h2
        · exact (K.own h2).2
        · refine ⟨fun q => ?_, .inr ?_⟩
          · obtain ⟨m', ⟨o, _, _, e, _⟩, _⟩ := K.loc.ns
            rw [← q] at e
            rw [h2] at e; cases e
          · cases e : h0.get? b with
            | none => rfl
            | some o => obtain ⟨_, e'⟩ := Mine.K.there K.kp0 e; rw [e'] at h2; cases h2
    have abs : (hcase : m = .deep ∨ x ∉ ns) → a ∉ bs' := fun hcase hm => (hbs a hm).elim hab (main hcase)
    have org : ∀ b ∈ a :: bs', Z b → ∃ z q, σ z = some q ∧ b ∈ fp z := fun b hb hz => by
      rcases List.mem_cons.mp hb with rfl | hb
      · exact absurd hz hZ
      · rcases hbs b hb with hb | hb
        · exact ⟨x, _, hx, by rw [hfp]; exact .tail _ hb⟩
        · rcases ha b hb with ⟨y, q, _, h1, h2⟩ | h1
          · exact ⟨y, q, h1, h2⟩
          · exact absurd hz (nz b h1)
    split at hput
    · rename_i hmd
      cases hput
      refine ⟨rfl, _, ?_, .one (fun _ _ => rfl) (fun z q h => ⟨q, h⟩) org⟩
      refine ((K.onK kp.k).write hx hv ea₂ (by simp) Stay.not_list (fun _ q => by cases q) hZ hne (hP a (.head _)) hs (rv' (.inl hmd)) pb (fun _ => abs (.inl hmd)) (fun hdeep => ?_) fun y' q hy hq => ?_)
      · obtain ⟨g1, g2⟩ := hdx hdeep
        obtain ⟨g3, g4⟩ := hdp hmd
        refine ⟨fun b hb => ?_, List.nodup_cons.mpr ⟨abs (.inl hmd), hnd (List.nodup_append.mpr ⟨g2, g4, fun b hb c hc q => ?_⟩)⟩⟩
        · rcases hbs b hb with h1 | h1
          · exact g1 b h1
          · exact ⟨nz b (g3 b h1), fun y q _ hq => nf b (g3 b h1) y q hq⟩
        · subst q
          exact nf b (g3 b hc) x _ hx (by rw [hfp]; exact .tail _ hb)
      · have g3 := (hdp hmd).1
        refine ⟨fun ht b cs e hm => ?_, fun hd b hb hm => ?_⟩
        · obtain ⟨b', cs', e', _, _, h4⟩ := K.top y' q hq ht
          rw [e] at e'; cases e'
          rcases hbs b hm with h1 | h1
          · exact h4 x _ (Ne.symm hy) hx (by rw [hfp]; exact .tail _ h1)
          · exact nf b (g3 b h1) y' q hq (by rw [e]; exact .head _)
        · rcases hbs b hm with h1 | h1
          · exact ((K.deep y' q hq hd).1 b hb).2 x _ (Ne.symm hy) hx (by rw [hfp]; exact .tail _ h1)
          · exact nf b (g3 b h1) y' q hq hb
    · split at hput
      · cases hput
      · rename_i hmd hxn
        cases hput
        have hx' : Mine.demote σ ns x = some (V.d (.list xs), mx) := by unfold Mine.demote; rw [if_neg hxn]; exact hx
        refine ⟨rfl, _, ?_, .one (fun _ _ => rfl) (fun z q h => let ⟨q', h', _⟩ := demote_some h; ⟨q', h'⟩) org⟩
        refine (((K.onK kp.k).demote ns).write hx' hv ea₂ (by simp) Stay.not_list (fun _ q => by cases q) hZ (fun y' q hy hq => ?_) (hP a (.head _)) hs (rv' (.inr hxn)) pb (fun _ => abs (.inr hxn)) (fun hdeep => by cases hdeep) fun y' q hy hq => ?_)
        · obtain ⟨q', hq', _⟩ := demote_some hq
          exact hne y' q' hy hq'
        · obtain ⟨q', hq', e1, hc⟩ := demote_some hq
          rcases hc with ⟨_, rfl⟩ | ⟨hn, rfl⟩
          · refine ⟨fun h => absurd h mk_top, fun h b hb => ?_⟩
            obtain ⟨_, u, _, hr, _⟩ := K.val y' q' hq'
            rw [hr.scal_nil (mk_deep h)] at hb
            cases hb
          · refine ⟨fun ht b cs e hm => ?_, fun hd b hb hm => ?_⟩
            · obtain ⟨b', cs', e', _, _, h4⟩ := K.top y' q hq' ht
              rw [e] at e'; cases e'
              rcases hbs b hm with h1 | h1
              · exact h4 x _ (Ne.symm hy) hx (by rw [hfp]; exact .tail _ h1)
              · rcases ha b h1 with ⟨z, p, hz, hp, hf⟩ | h2
                · exact h4 z p (fun q => hn (q ▸ hz)) hp hf
                · exact nf b h2 y' q hq' (by rw [e]; exact .head _)
            · rcases hbs b hm with h1 | h1
              · exact ((K.deep y' q hq' hd).1 b hb).2 x _ (Ne.symm hy) hx (by rw [hfp]; exact .tail _ h1)
              · rcases ha b h1 with ⟨z, p, hz, hp, hf⟩ | h2
                · exact ((K.deep y' q hq' hd).1 b hb).2 z p (fun q => hn (q ▸ hz)) hp hf
                · exact nf b h2 y' q hq' hb
  · cases hput

theorem inter {env : Env} (eok : EnvOk env) : interactive env = false := by unfold interactive; rw [eok.kind]; rfl

theorem simS_append {x : String} {e : E} (S : SimE prog w fns k C XP e) : SimS prog w fns k C (.append x e) := by
  intro stmt h0 P Z A env σ vals fp s Q Er σ' fl ok K he hN hR
  replace ok := i_sappend ok
  rcases ok with ⟨_, _, _, _, _, _, _, rfl, ok⟩ | ok
  · rename_i t pt mm ap v pos spos
    simp only [Bool.and_eq_true, beq_iff_eq] at ok
    obtain ⟨⟨⟨⟨rfl, hl⟩, rfl⟩, hb⟩, oe⟩ := ok
    obtain ⟨h1, h2, h3⟩ := bnd hb
    simp only [ex] at he
    obtain ⟨r, hr, he⟩ := Out.bind_ok he
    obtain ⟨ry, m⟩ := r
    dsimp only at he
    split at he
    · rename_i y vv mx hx0
      split at he
      rotate_left
      · cases he
      rename_i xs hxx
      cases lstV_some hxx
      have hx := hx0
      split at he
      · cases he
      · rename_i hmx
        obtain ⟨a, vs, n, bs, hv, ea, ra, hfp, hz, hZ, hab, hne, hP, hdx⟩ := K.head hx hmx
        refine wpAny_Expr_any (wpAny_Call_append rfl (by rw [star_plain oe]; rfl) (by simpa using hl) (by rw [star_plain oe]; rfl) ?_) (inter K.eok)
        refine wp_var K.eok.kind h2 (K.loc.var K.eok hv) ⟨a, vs.toArray, rfl, ⟨_, n, ea, rfl, rfl, rfl⟩, K.eval S oe hr fun u s₂ E => ?_⟩
        obtain ⟨kp, as, ⟨ru, zu⟩, ha, ht, hd⟩ := E
        have hlen := ra.length
        have hzl := (sz_list.mp hz)
        refine wpAny_list_append_plain (hsz := by rw [List.size_toArray, hlen]; unfold sizeLine; lia) ⟨n, kp.k.get ea rfl⟩ fun h' hp hs => ?_
        obtain ⟨n', ep⟩ := hp
        have := K.putl kp ha hd hx he hmx hv ea hfp hZ hab hne hP hdx hs (vs' := vs ++ [u]) (by simpa using ep) ((ra.k kp.k).append (.cons ru .nil)) (fun z hz' => by
          rcases List.mem_append.mp hz' with h | h
          · exact hzl.2 z h
          · rw [List.mem_singleton.mp h]; exact zu) (fun b hb => by
          rcases List.mem_append.mp hb with h | h
          · exact .inl h
          · exact .inr (by simpa using h)) (fun h => by simpa using h)
        obtain ⟨hfl, fp', K', F'⟩ := this
        exact hN hfl _ vals fp' (kp.stp.same hs hZ fun o e => by rw [kp.k.get ea rfl] at e; cases e; exact Stay.not_list) K' F'
    · cases he
  · cases ok



end
end Mine

namespace Mine
open PySem PyProof.Rows
set_option linter.unusedSectionVars false
variable [SF : Soft]

section
variable {prog : Program} {w : World} {fns : Fns} {k : Nat} {C : Calls} {XP : String → Shared → Value → Shared → Prop}
variable {h0 : Heap} {P Z : Addr → Prop} {A : Around} {env : Env} {σ : St} {vals : String → Option Value} {fp : String → List Addr}








/-! one more item in a list within a name's value -/






end
end Mine

namespace Mine
open PySem PyProof.Rows
set_option linter.unusedSectionVars false
variable [SF : Soft]

section
variable {prog : Program} {w : World} {fns : Fns} {k : Nat} {C : Calls} {XP : String → Shared → Value → Shared → Prop}
variable {h0 : Heap} {P Z : Addr → Prop} {A : Around} {env : Env} {σ : St} {vals : String → Option Value} {fp : String → List Addr}

/-- iterators move on: nothing of a value lies there -/
theorem RV.fields {h h' : Heap} {wr : List Addr} {v : Value} {x : V} {as : List Addr} (r : RV prog w h v x as) (hw : ∀ b ∈ wr, ∃ o, h.get? b = some o ∧ ∃ fs, o.data = .fields fs) (kp : ∀ b o, b ∉ wr → h.get? b = some o → h'.get? b = some o) : RV prog w h' v x as := by
  have out : ∀ b o, h.get? b = some o → (∀ fs, o.data ≠ .fields fs) → b ∉ wr := fun b o e hd hm => by
    obtain ⟨o', e', fs, q⟩ := hw b hm
    rw [e] at e'; cases e'
    exact hd fs q
  have key : ∀ ks b, IsTupleKey (intKind prog w) h ks b → IsTupleKey (intKind prog w) h' ks b := fun ks b hk => by
    obtain ⟨o', it, n, a1, a2, a3⟩ := hk
    exact ⟨o', it, n, kp b o' (out b o' a1 fun fs q => by rw [a3.1] at q; cases q) a1, a2, a3⟩
  cases x with
  | d x => exact ⟨r.1.off (wr := wr) (fun b hb o e => .inl fun vs n q => by
      obtain ⟨o', e', fs, q'⟩ := hw b hb
      rw [e] at e'; cases e'
      rw [q] at q'; cases q') kp, r.2⟩
  | inst fs => exact r.elim

theorem SOK.iter {h h' : Heap} {wr : List Addr} (K : SOK prog w fns k h0 P Z A env h σ vals fp) (hw : ∀ b ∈ wr, ∃ o, h.get? b = some o ∧ ∃ fs, o.data = .fields fs) (hw' : ∀ b ∈ wr, Z b → ∃ o, h'.get? b = some o) (hw0 : ∀ b ∈ wr, h0.get? b = none) (hns : ∀ b ∈ wr, ∀ o, h.get? b = some o → ¬ Stay o) (kp : ∀ b o, b ∉ wr → h.get? b = some o → h'.get? b = some o) : SOK prog w fns k h0 P Z A env h' σ vals fp := by
  have out : ∀ b o, h.get? b = some o → (∀ fs, o.data ≠ .fields fs) → b ∉ wr := fun b o e hd hm => by
    obtain ⟨o', e', fs, q⟩ := hw b hm
    rw [e] at e'; cases e'
    exact hd fs q
  refine ⟨K.room, K.eok, K.ge, K.z0, Mine.K.step K.kp0 (KG.ofW kp hns) (fun b o e hm => by rw [hw0 b hm] at e; cases e), K.code, fun b hb => ?_, ⟨?_, K.loc.nz, fun n c a b => ?_, fun x v c a b d => ?_, K.loc.apart, K.loc.kinds⟩, fun x p hp => ?_, K.top, K.deep⟩
  · by_cases hm : b ∈ wr
    · exact hw' b hm hb
    · obtain ⟨o, e⟩ := K.zdom b hb
      exact ⟨o, kp b o hm e⟩
  · obtain ⟨m, ⟨o, es, ep, e, hd, hr⟩, hv⟩ := K.loc.ns
    exact ⟨m, ⟨o, es, ep, kp _ o (out _ o e fun fs q => by rw [hd] at q; cases q) e, hd, hr⟩, hv⟩
  · obtain ⟨h1, h2, v, o, h3, h4⟩ := K.loc.cell n c a b
    exact ⟨h1, h2, v, o, kp c o (out c o h3 fun fs q => by rw [h4] at q; cases q) h3, h4⟩
  · obtain ⟨o, h3, h4⟩ := K.loc.cval x v c a b d
    exact ⟨o, kp c o (out c o h3 fun fs q => by rw [h4] at q; cases q) h3, h4⟩
  · obtain ⟨h1, v, h2, h3, h4⟩ := K.val x p hp
    exact ⟨h1, v, h2, h3.fields hw kp, h4⟩

/-- what is owned is not among an expression's parts -/
theorem SOK.excl {s : Shared} {ns : List String} {m : Mode} {F : List Addr} (K : SOK prog w fns k h0 P Z A env s.heap σ vals fp) (ha : ∀ a ∈ F, Own σ fp ns a ∨ s.heap.get? a = none) (hd : m = .deep → ∀ a ∈ F, s.heap.get? a = none) :
    ∀ y q, Mine.consume σ ns m y = some q → (q.2 = .top → ∀ a bs, fp y = a :: bs → a ∉ F) ∧ (q.2 = .deep → ∀ a ∈ fp y, a ∉ F) := by
  have nf : ∀ a, s.heap.get? a = none → ∀ y q, σ y = some q → a ∉ fp y := fun a e y q hq hm => by
    obtain ⟨_, u, _, hr, _⟩ := K.val y q hq
    obtain ⟨o, e'⟩ := hr.there a hm
    rw [e] at e'; cases e'
  intro y q hq
  by_cases hdp : m = .deep
  · have hq' : σ y = some q := by unfold Mine.consume at hq; rwa [if_pos hdp] at hq
    exact ⟨fun _ a bs e hm => nf a (hd hdp a hm) y q hq' (by rw [e]; exact .head _), fun _ a ha' hm => nf a (hd hdp a hm) y q hq' ha'⟩
  · have hq2 : Mine.demote σ ns y = some q := by unfold Mine.consume at hq; rwa [if_neg hdp] at hq
    obtain ⟨q', hq', e1, hc⟩ := demote_some hq2
    rcases hc with ⟨_, rfl⟩ | ⟨hn, rfl⟩
    · refine ⟨fun h => absurd h mk_top, fun h a ha' => ?_⟩
      obtain ⟨_, u, _, hr, _⟩ := K.val y q' hq'
      rw [hr.scal_nil (mk_deep h)] at ha'
      cases ha'
    · refine ⟨fun h a bs e hm => ?_, fun h a ha' hm => ?_⟩
      · rcases ha a hm with ⟨z, p, hz, hp, hf⟩ | h1
        · obtain ⟨a', bs', e', _, _, h4⟩ := K.top y q hq' h
          rw [e] at e'; cases e'
          exact h4 z p (fun q => hn (q ▸ hz)) hp hf
        · exact nf a h1 y q hq' (by rw [e]; exact .head _)
      · rcases ha a hm with ⟨z, p, hz, hp, hf⟩ | h1
        · exact ((K.deep y q hq' h).1 a ha').2 z p (fun q => hn (q ▸ hz)) hp hf
        · exact nf a h1 y q hq' ha'

set_option maxHeartbeats 1000000 in
theorem simFor {x : String} {it : It} {b : Ss} (Si : SimIt prog w fns k C XP it) (Sb : SimSs prog w fns k C b) {stmt : Stmt} {s : Shared} {Q : Flow → Shared → Prop} {Er : Value → Shared → Prop} {σ' σ₀ : Mine.St} {fl : Flw} {ds : List PyData} {md : Mode} (L : Addr → Prop)
    (ok : okS env.scope.names (.for1 x it b) stmt = true) (K : SOK prog w fns k h0 P Z A env s.heap σ vals fp) (e1 : evIt C it (resσ σ (fvIt it)) = .ok (ds, md)) (he1 : loopS (fun y σ => exs C b (upd σ x (mk (.d y)))) ds σ₀ = .ok (σ', fl))
    (hK : ∀ h', Mine.K s.heap h' → SOK prog w fns k h0 P Z A env h' σ₀ vals fp) (cs : ∀ y q, σ₀ y = some q → ∃ q', σ y = some q')
    (hex : ∀ F : List Addr, (∀ a ∈ F, Own σ fp (fvIt it) a ∨ s.heap.get? a = none) → (md = .deep → ∀ a ∈ F, s.heap.get? a = none) → ∀ y q, σ₀ y = some q → (q.2 = .top → ∀ a bs, fp y = a :: bs → a ∉ F) ∧ (q.2 = .deep → ∀ a ∈ fp y, a ∉ F))
    (hL1 : ∀ a, L a → a ≠ env.locals ∧ ∃ vs n, s.heap.get? a = some ⟨.type "list", none, .seq vs n, #[]⟩) (hL2 : ∀ y q, σ₀ y = some q → ∀ a ∈ fp y, ¬ L a) (hsc : (∀ d ∈ ds, sx d = true) ∨ ∀ y q, σ y = some q → ∃ q', σ₀ y = some q')
    (hN : fl = .next → ∀ s' vals' fp', Stp Z s s' → KG (fun b => Z b ∨ L b) s.heap s'.heap → SOK prog w fns k h0 P Z A env s'.heap σ' vals' fp' → Frm (fun b => Z b ∨ L b) (x :: asgs b) σ₀ vals fp σ' vals' fp' → Q .next s')
    (hR : ∀ r, fl = .ret r → ∀ v s', Stp Z s s' → RetP prog w h0 P r v s' → Q (.ret v) s') : wpAny (model prog w) A (exec stmt env) Q Er s := by
  replace ok := i_sfor1 ok
  rcases ok with ⟨_, _, _, _, _, rfl, ok⟩ | ok
  · rename_i t pt iter body spos
    simp only [Bool.and_eq_true, beq_iff_eq] at ok
    obtain ⟨⟨⟨rfl, hb⟩, oi⟩, ob⟩ := ok
    obtain ⟨g1, g2, g3⟩ := bnd hb
    refine wpAny_For (Si oi (K.cx (fvIt it)) (by rw [e1]; simp) (fun q' hq' i s₂ I => ?_) fun c hc => by rw [e1] at hc; cases hc) (fset oi env)
    rw [e1] at hq'; cases hq'
    obtain ⟨kp₂, ⟨I, fpw, wr, Pw, St, F, rfl, W, hst, hwr, hfp, hPw, hF, hFP, hFd⟩, hsm⟩ := I
    have exists_s : ∀ b o, s.heap.get? b = some o → b ∉ wr := fun b o e hm => by rw [(hwr b hm).1] at e; cases e
    have hLs : ∃ o es ep, s.heap.get? env.locals = some o ∧ o.data = .dict es ep := by
      obtain ⟨m, ⟨o, es, ep, e, hd, _⟩, _⟩ := K.loc.ns
      exact ⟨o, es, ep, e, hd⟩
    have hFL : env.locals ∉ F := fun hm => by
      obtain ⟨o, es, ep, e, hd⟩ := hLs
      obtain ⟨vs, n, e'⟩ := hF _ hm
      obtain ⟨_, e1, d1, _⟩ := kp₂.k.data e fun fs q => by rw [hd] at q; cases q
      rw [e1] at e'; cases e'; rw [hd] at d1; cases d1
    have ex0 := hex F hFP hFd
    have nf : ∀ y q, σ₀ y = some q → ∀ a ∈ fp y, a ∉ wr := fun y q hq a ha hm => by
      obtain ⟨q', hq'⟩ := cs y q hq
      obtain ⟨_, u, _, hr, _⟩ := K.val y q' hq'
      obtain ⟨o, e⟩ := hr.there a ha
      exact exists_s a o e hm
    have wz : ∀ b ∈ wr, ¬ Z b := fun b hm hz => by
      obtain ⟨o, e⟩ := K.zdom b hz
      exact exists_s b o e hm
    have w0 : ∀ b ∈ wr, h0.get? b = none := fun b hm => by
      cases e : h0.get? b with
      | none => rfl
      | some o => exact absurd (K.z0 b o e) (wz b hm)
    have K₂ : SOK prog w fns k h0 P (fun b => Z b ∨ (b ∈ F ∨ b ∈ wr ∨ L b)) A env s₂.heap σ₀ vals fp := by
      refine (hK _ kp₂.k).freeze (fun b hb => ?_) (fun hm => ?_) (fun n c hkn hc hm => ?_) (fun y q hq hqt a bs e hm => ?_) (fun y q hq hqd a ha hm => ?_)
      · rcases hb with hb | hb | hb
        · obtain ⟨vs, n, e⟩ := hF b hb; exact ⟨_, e⟩
        · obtain ⟨o, e, _⟩ := (hwr b hb).2.2 0 _ hst; exact ⟨o, e⟩
        · obtain ⟨_, vs, n, e⟩ := hL1 b hb; exact ⟨_, kp₂.k.get e rfl⟩
      · rcases hm with hm | hm | hm
        · exact hFL hm
        · obtain ⟨o, es, ep, e, hd⟩ := hLs
          exact exists_s _ o e hm
        · exact (hL1 _ hm).1 rfl
      · obtain ⟨_, _, v, o, e, hd⟩ := K.loc.cell n c hkn hc
        rcases hm with hm | hm | hm
        · obtain ⟨vs, n, e'⟩ := hF c hm
          obtain ⟨_, e1, d1, _⟩ := kp₂.k.data e fun fs q => by rw [hd] at q; cases q
          rw [e1] at e'; cases e'; rw [hd] at d1; cases d1
        · exact exists_s c o e hm
        · obtain ⟨_, vs, n, e'⟩ := hL1 c hm
          rw [e] at e'; cases e'; cases hd
      · rcases hm with hm | hm | hm
        · exact (ex0 y q hq).1 hqt a bs e hm
        · exact nf y q hq a (by rw [e]; exact .head _) hm
        · exact hL2 y q hq a (by rw [e]; exact .head _) hm
      · rcases hm with hm | hm | hm
        · exact (ex0 y q hq).2 hqd a ha hm
        · exact nf y q hq a ha hm
        · exact hL2 y q hq a ha hm
    have FP : ∀ a ∈ F, a ≠ env.locals ∧ (P a ∨ h0.get? a = none) := fun a ha => by
      refine ⟨fun q => hFL (q ▸ ha), ?_⟩
      rcases hFP a ha with h | h
      · exact (K.own h).2.2
      · right
        cases e : h0.get? a with
        | none => rfl
        | some o => obtain ⟨_, e'⟩ := Mine.K.there K.kp0 e; rw [e'] at h; cases h
    have stp₂ : Stp Z s s₂ := kp₂.stp
    refine codeAny_forLoop_any
      (fun n s' => ∃ (j : Nat) (σj : Mine.St) (vals' : String → Option Value) (fp' : String → List Addr), Stp Z s s' ∧ SOK prog w fns k h0 P (fun b => Z b ∨ (b ∈ F ∨ b ∈ wr ∨ L b)) A env s'.heap σj vals' fp' ∧ St j s'.heap ∧ j ≤ ds.length ∧ n = ds.length + 1 - j ∧
        loopS (fun y σ => exs C b (upd σ x (mk (.d y)))) (ds.drop j) σj = .ok (σ', fl) ∧ KG (fun b => Z b ∨ (b ∈ F ∨ L b)) s₂.heap s'.heap ∧ Frm (fun b => Z b ∨ L b) (x :: asgs b) σ₀ vals fp σj vals' fp') ?_ (ds.length + 1)
      ⟨0, _, vals, fp, stp₂, K₂, hst, Nat.zero_le _, rfl, by simpa using he1, KG.refl, .id fun z q h => ⟨q, h⟩⟩
    rintro n s' ⟨j, σj, vals', fp', stp', K', hst', hj, rfl, hloop, hkp, hfr⟩
    have hLw : ∀ b, L b → b ∉ wr := fun b hb => let ⟨_, vs, n, e⟩ := hL1 b hb; exists_s b _ e
    have hwf : ∀ b ∈ wr, ∃ o, s'.heap.get? b = some o ∧ ∃ fs, o.data = .fields fs := fun b hm => let ⟨o, e, _, f⟩ := (hwr b hm).2.2 j _ hst'; ⟨o, e, f⟩
    have hFw : ∀ a ∈ F, a ∉ wr := fun a ha hm => (hwr a hm).2.1 ha
    have hns : ∀ b ∈ wr, ∀ o, s'.heap.get? b = some o → ¬ Stay o := fun b hm o e => by
      obtain ⟨o', e', ⟨_, hc⟩, fs, q⟩ := (hwr b hm).2.2 j _ hst'
      rw [e] at e'; cases e'
      exact fun x => x.elim (fun x => hc x.1) fun x => let ⟨_, vs, n, e⟩ := x; by rw [q] at e; cases e
    have step1 : ∀ h₁ tk₁, (∀ b ∈ wr, ∃ o, h₁.get? b = some o) → (∀ b o, b ∉ wr → s'.heap.get? b = some o → h₁.get? b = some o) → SOK prog w fns k h0 P (fun b => Z b ∨ (b ∈ F ∨ b ∈ wr ∨ L b)) A env h₁ σj vals' fp' ∧ Stp Z s { s' with heap := h₁, toks := tk₁ } := fun h₁ tk₁ hw₁ hk₁ => by
      refine ⟨K'.iter hwf (fun b hm _ => hw₁ b hm) w0 hns hk₁, ?_⟩
      obtain ⟨hh, tk', rfl, kk⟩ := stp'
      exact ⟨h₁, tk₁, rfl, kk.trans ((KG.ofW hk₁ hns).mono fun b hz hm => wz b hm hz)⟩
    by_cases hlt : j < ds.length
    · obtain ⟨d, hd⟩ : ∃ d, ds[j]? = some d := ⟨_, List.getElem?_eq_getElem hlt⟩
      have hdd : ds.drop j = d :: ds.drop (j + 1) := by
        rw [List.drop_eq_getElem_cons hlt]
        rw [List.getElem?_eq_getElem hlt] at hd
        cases hd; rfl
      rw [hdd] at hloop
      simp only [loopS] at hloop
      obtain ⟨⟨σ₁, fl₁⟩, hbody, hloop⟩ := Out.bind_ok hloop
      dsimp only at hloop
      refine W.item j _ _ _ hlt hst' fun v h₁ tk₁ hPv hst₁ hk₁ => ?_
      obtain ⟨K₁, stp₁⟩ := step1 h₁ tk₁ (fun b hm => let ⟨o, e, _⟩ := (hwr b hm).2.2 (j + 1) h₁ hst₁; ⟨o, e⟩) hk₁
      obtain ⟨bs, hrv, hbs⟩ := hPw j v hPv d hd
      have hkp₁ : KG (fun b => Z b ∨ (b ∈ F ∨ L b)) s₂.heap h₁ := hkp.trans ((KG.ofW hk₁ hns).mono fun b hb hm => hb.elim (wz b hm) fun hf => hf.elim (fun hf => hFw b hf hm) fun hf => hLw b hf hm)
      have hrv₁ : R h₁ v d bs := hrv.onG hkp₁ fun b hb => .inr (.inl (hbs b hb))
      have hfpH : ∀ b ∈ fpw, ∀ o, h₁.get? b = some o → hardB o = true := fun b hb o e => by
        rcases hfp b hb with hb | hb
        · obtain ⟨o', e', ⟨hh, _⟩, _⟩ := (hwr b hb).2.2 _ _ hst₁
          rw [e] at e'; cases e'; exact hh
        · obtain ⟨vs', n', e'⟩ := hF b hb
          rw [hkp₁.hard (.inl (.inr (.inl hb))) e' rfl] at e
          cases e; rfl
      have hzd : sz d = true := hsm.2 d (List.mem_of_getElem? hd)
      refine wpAny_of_eq rfl ?_
      refine wpAny_assign_Name (K₁.put (r := mk (.d d)) (as := bs) g1 g3 ⟨hrv₁, hzd⟩ (fun a ha => FP a (hbs a ha)) (fun h => absurd h mk_top) (fun h => ?_) (fun y q hy hq => ⟨fun ht a cs e hm => ?_, fun hdp a ha hm => ?_⟩) fun s₃ st₃ kk₃ K₃ => ?_)
      · have : bs = [] := hrv₁.sx_nil (mk_deep h)
        subst this
        exact ⟨fun _ h => (nomatch h), .nil⟩
      · obtain ⟨a', bs', e', h1, _⟩ := K₁.top y q hq ht
        rw [e] at e'; cases e'
        exact h1 (.inr (.inl (hbs a hm)))
      · exact ((K₁.deep y q hq hdp).1 a ha).1 (.inr (.inl (hbs a hm)))
      · have hfx : Frm (fun b => Z b ∨ L b) (x :: asgs b) σ₀ vals fp (upd σj x (mk (.d d))) (updV vals' x v) (fun y => if y = x then bs else fp' y) := by
          refine ⟨fun y hy => ?_, fun b' hz hb' z q hq hm => ?_⟩
          · have hyx : y ≠ x := fun q => hy (q ▸ .head _)
            have := hfr.1 y hy
            exact ⟨(if_neg hyx).trans this.1, (if_neg hyx).trans this.2⟩
          · unfold upd at hq
            dsimp only at hm
            by_cases e : z = x
            · rw [if_pos e] at hm
              rcases hsc with h | h
              · rw [hrv₁.sx_nil (h d (List.mem_of_getElem? hd))] at hm; cases hm
              · rcases hFP b' (hbs b' hm) with ⟨y, q, _, h1, h2⟩ | h1
                · obtain ⟨q', hq'⟩ := h y q h1
                  exact hb' y q' hq' h2
                · rcases hz with hz | hz
                  · obtain ⟨o, e⟩ := K.zdom b' hz
                    rw [h1] at e; cases e
                  · obtain ⟨_, vs, n, e⟩ := hL1 b' hz
                    rw [h1] at e; cases e
            · rw [if_neg e] at hq hm
              exact hfr.2 b' hz hb' z q hq hm
        have body₃ : ∀ s₄, Stp (fun b => Z b ∨ (b ∈ F ∨ b ∈ wr ∨ L b)) s₃ s₄ → Stp Z s s₄ ∧ St (j + 1) s₄.heap ∧ KG (fun b => Z b ∨ (b ∈ F ∨ L b)) s₂.heap s₄.heap := fun s₄ st₄ => by
          have st := st₃.trans st₄
          refine ⟨stp₁.trans (st.mono fun b hb => .inl hb), ?_, ?_⟩
          · obtain ⟨h₄, tk₄, rfl, kk₄⟩ := st
            exact W.frame _ _ _ hst₁ fun b hb o e => kk₄.hard (.inl (.inr ((hfp b hb).elim (fun h => .inr (.inl h)) .inl))) e (hfpH b hb o e)
          · obtain ⟨h₄, tk₄, rfl, kk₄⟩ := st
            exact hkp₁.trans (kk₄.mono fun b hb => hb.imp id fun h => h.imp id .inr)
        refine Sb ob K₃ hbody (fun e s₄ vals₄ fp₄ st₄ K₄ F₄ => ?_) fun r e v s₄ st₄ R₄ => ?_
        · subst e
          obtain ⟨q1, q2, q3⟩ := body₃ s₄ st₄
          refine ⟨ds.length + 1 - (j + 1), by omega, j + 1, σ₁, vals₄, fp₄, q1, K₄, q2, hlt, rfl, hloop, q3, (hfx.trans (F₄.less fun b hb => hb.imp id fun h => .inr (.inr h))).more fun y hy => (List.mem_append.mp hy).elim (fun h => h) (.tail _)⟩
        · subst e
          cases hloop
          exact hR r rfl v s₄ (body₃ s₄ st₄).1 R₄
    · have hjl : j = ds.length := by omega
      subst hjl
      rw [List.drop_length] at hloop
      simp only [loopS] at hloop
      cases hloop
      refine W.done _ _ _ hst' fun h₁ tk₁ hk₁ => ?_
      have st1 : Stp Z s { s' with heap := h₁, toks := tk₁ } := by
        obtain ⟨hh, tk', rfl, kk⟩ := stp'
        exact ⟨h₁, tk₁, rfl, kk.trans ((KG.ofW hk₁ hns).mono fun b hz hm => wz b hm hz)⟩
      have kgL : KG (fun b => Z b ∨ L b) s.heap h₁ := ((kp₂.k.mono fun _ _ => trivial).trans (hkp.mono fun b hb => hb.imp id .inr)).trans ((KG.ofW hk₁ hns).mono fun b hb hm => hb.elim (wz b hm) fun h => hLw b h hm)
      exact wpAny_execs_nil (hN rfl { s' with heap := h₁, toks := tk₁ } vals' fp' st1 kgL ((K'.thaw (Z := Z) (fun b hb => .inl hb) K.z0).iter hwf (fun b hm hz => absurd hz (wz b hm)) w0 hns hk₁) hfr)
  · cases ok

theorem simS_for {x : String} {it : It} {b : Ss} (Si : SimIt prog w fns k C XP it) (Sb : SimSs prog w fns k C b) : SimS prog w fns k C (.for1 x it b) := by
  intro stmt h0 P Z A env σ vals fp s Q Er σ' fl ok K he hN hR
  simp only [ex] at he
  obtain ⟨⟨ds, md⟩, hq, he1⟩ := Out.bind_ok he
  have e1 : evIt C it (resσ σ (fvIt it)) = .ok (ds, md) := by rw [evIt_congr C it _ σ (res_agree σ _)]; exact hq
  refine simFor Si Sb (fun _ => False) ok K e1 he1 (fun h' kp => (K.onK kp).consume (fvIt it) md) (fun y q hq => consume_some hq) (fun F h1 h2 => K.excl h1 h2) (fun a h => h.elim) (fun _ _ _ _ _ h => h) (.inr fun y q hy => ?_) (fun e s' vals' fp' st _ K' F => hN e s' vals' fp' st K' ⟨F.1, fun b hz hb => F.2 b (.inl hz) fun z q hq => let ⟨q', hq'⟩ := consume_some hq; hb z q' hq'⟩) hR
  dsimp only
  unfold Mine.consume
  split
  · exact ⟨q, hy⟩
  · unfold Mine.demote
    split
    · exact ⟨_, by rw [hy]; rfl⟩
    · exact ⟨q, hy⟩

theorem SOK.rem {h : Heap} (K : SOK prog w fns k h0 P Z A env h σ vals fp) (y : String) : SOK prog w fns k h0 P Z A env h (Mine.rem σ y) vals fp := by
  have back : ∀ z q, Mine.rem σ y z = some q → σ z = some q := fun z q h => by
    unfold Mine.rem at h
    split at h
    · cases h
    · exact h
  exact ⟨K.room, K.eok, K.ge, K.z0, K.kp0, K.code, K.zdom, K.loc, fun x p hp => K.val x p (back x p hp), fun x p hp ht => let ⟨a, bs, h1, h2, h3, h4⟩ := K.top x p (back x p hp) ht; ⟨a, bs, h1, h2, h3, fun z q hz hq => h4 z q hz (back z q hq)⟩,
    fun x p hp hd => let ⟨h1, h2⟩ := K.deep x p (back x p hp) hd; ⟨fun a ha => ⟨(h1 a ha).1, fun z q hz hq => (h1 a ha).2 z q hz (back z q hq)⟩, h2⟩⟩

theorem rem_back {σ : Mine.St} {y z : String} {q : V × Mode} (h : Mine.rem σ y z = some q) : z ≠ y ∧ σ z = some q := by
  unfold Mine.rem at h
  by_cases e : z = y
  · rw [if_pos e] at h; cases h
  · rw [if_neg e] at h; exact ⟨e, h⟩

set_option maxHeartbeats 1000000 in
theorem simS_forN {x y : String} {b : Ss} (Si : SimIt prog w fns k C XP (.e (.name y))) (Sb : SimSs prog w fns k C b) : SimS prog w fns k C (.forN x y b) := by
  intro stmt h0 P Z A env σ vals fp s Q Er σ' fl ok K he hN hR
  replace ok := i_sforN ok
  rcases ok with ⟨_, _, _, _, _, rfl, ok⟩ | ok
  · rename_i t pt iter body spos
    simp only [Bool.and_eq_true, beq_iff_eq] at ok
    obtain ⟨⟨⟨rfl, hbx⟩, oy, hby⟩, ob⟩ := ok
    simp only [ex] at he
    obtain ⟨⟨vy, my⟩, hσ, he⟩ := optO_ok he
    obtain ⟨ds, hds, he⟩ := optO_ok he
    dsimp only at hds he
    cases lstV_some hds
    by_cases hc : ds.all sx = true ∧ y ≠ x ∧ y ∉ asgs b ∧ my ≠ .sh
    rotate_left
    · rw [if_neg hc] at he; cases he
    rw [if_pos hc] at he
    obtain ⟨hsx, hyx, hyb, hmy⟩ := hc
    obtain ⟨⟨σ₁, fl₁⟩, hloop, he⟩ := Out.bind_ok he
    obtain ⟨a, vs, n, bs, hv, ea, ra, hfp, hz, hZ, hab, hne, hP, hdx⟩ := K.head hσ hmy
    have hbs : bs = [] := ra.sx_nil hsx
    subst hbs
    have e1 : evIt C (.e (.name y)) (resσ σ (fvIt (.e (.name y)))) = .ok (ds, .sh) := by
      simp only [evIt, ev]
      have : resσ σ (fvIt (.e (.name y))) y = some (.d (.list ds), my) := by unfold resσ; rw [if_pos (by simp [fvIt, fv])]; exact hσ
      rw [this]
      rfl
    have ok' : okS env.scope.names (.for1 x (.e (.name y)) b) (.For (.Name (Str.ofString x) pt) iter body [] spos) = true := by
      show (Str.ofString x == Str.ofString x && bndK env.scope.names x && okE env.scope.names (.name y) iter && okSs env.scope.names b body) = true
      simp only [Bool.and_eq_true, beq_self_eq_true]
      exact ⟨⟨⟨trivial, hbx⟩, oy⟩, ob⟩
    refine simFor Si Sb (fun b => b = a) ok' K e1 hloop (fun h' kp => (K.onK kp).rem y) (fun z q hq => ⟨q, (rem_back hq).2⟩) (fun F h1 _ z q hq => ?_) (fun b hb => ?_) (fun z q hq b hb e => ?_) (.inl fun d hd => List.all_eq_true.mp hsx d hd) (fun e s' vals' fp' st kg K' Fr => ?_) fun r e v s' st R => ?_
    · obtain ⟨hzy, hz'⟩ := rem_back hq
      have nofp : ∀ b ∈ F, b ∉ fp z := fun b hb hm => by
        rcases h1 b hb with ⟨y', q', hy', hq', hm'⟩ | h1
        · have : y' = y := by simpa [fvIt, fv] using hy'
          subst this
          rw [hfp] at hm'
          rw [List.mem_singleton.mp hm'] at hm
          exact hne z q hzy hz' hm
        · obtain ⟨_, u, _, hr, _⟩ := K.val z q hz'
          obtain ⟨o, e⟩ := hr.there b hm
          rw [h1] at e; cases e
      exact ⟨fun _ a' bs' e hm => nofp a' hm (by rw [e]; exact .head _), fun _ a' ha' hm => nofp a' hm ha'⟩
    · subst hb
      exact ⟨(hP b (.head _)).1, _, _, ea⟩
    · subst e
      obtain ⟨hzy, hz'⟩ := rem_back hq
      exact hne z q hzy hz' hb
    · subst e
      cases he
      have hyv := Fr.1 y fun hm => (List.mem_cons.mp hm).elim hyx hyb
      have ea' : s'.heap.get? a = some ⟨.type "list", none, .seq vs.toArray n, #[]⟩ := kg.hard (.inl (.inr rfl)) ea rfl
      have ra' : RA s'.heap vs ds [] := ra.onG kg fun _ h => (nomatch h)
      have una : ∀ z q, σ₁ z = some q → a ∉ fp' z := Fr.2 a (.inr rfl) fun z q hq => let ⟨hzy, hz'⟩ := rem_back hq; hne z q hzy hz'
      have hvy : vals' y = some (.ref a) := hyv.1.trans hv
      have hfy : fp' y = [a] := hyv.2.trans hfp
      have hK : SOK prog w fns k h0 P Z A env s'.heap (upd σ₁ y (.d (.list ds), my)) vals' fp' := by
        have cases' : ∀ z q, upd σ₁ y (.d (.list ds), my) z = some q → (z = y ∧ q = (.d (.list ds), my)) ∨ (z ≠ y ∧ σ₁ z = some q) := fun z q h => by
          unfold upd at h
          by_cases e : z = y
          · rw [if_pos e] at h; cases h; exact .inl ⟨e, rfl⟩
          · rw [if_neg e] at h; exact .inr ⟨e, h⟩
        refine ⟨K'.room, K'.eok, K'.ge, K'.z0, K'.kp0, K'.code, K'.zdom, K'.loc, fun z q hq => ?_, fun z q hq ht => ?_, fun z q hq hd => ?_⟩
        · rcases cases' z q hq with ⟨rfl, rfl⟩ | ⟨_, h⟩
          · refine ⟨(bnd hby).1, .ref a, hvy, ?_, fun c hc => ?_⟩
            · rw [hfy]; exact ⟨.list ea' ra', hz⟩
            · rw [hfy] at hc; rw [List.mem_singleton.mp hc]; exact hP a (.head _)
          · exact K'.val z q h
        · rcases cases' z q hq with ⟨rfl, rfl⟩ | ⟨hzy, h⟩
          · refine ⟨a, [], hfy, hZ, fun h => (nomatch h), fun z' q' hz' hq' => ?_⟩
            rcases cases' z' q' hq' with ⟨e, _⟩ | ⟨_, h'⟩
            · exact absurd e hz'
            · exact una z' q' h'
          · obtain ⟨c, cs, h1, h2, h3, h4⟩ := K'.top z q h ht
            refine ⟨c, cs, h1, h2, h3, fun z' q' hz' hq' => ?_⟩
            rcases cases' z' q' hq' with ⟨rfl, _⟩ | ⟨_, h'⟩
            · rw [hfy]
              intro hm
              exact una z q h (by rw [h1, ← List.mem_singleton.mp hm]; exact .head _)
            · exact h4 z' q' hz' h'
        · rcases cases' z q hq with ⟨rfl, rfl⟩ | ⟨hzy, h⟩
          · rw [hfy]
            refine ⟨fun c hc => ⟨by rw [List.mem_singleton.mp hc]; exact hZ, fun z' q' hz' hq' => ?_⟩, by simp⟩
            rcases cases' z' q' hq' with ⟨e, _⟩ | ⟨_, h'⟩
            · exact absurd e hz'
            · rw [List.mem_singleton.mp hc]; exact una z' q' h'
          · obtain ⟨h1, h2⟩ := K'.deep z q h hd
            refine ⟨fun c hc => ⟨(h1 c hc).1, fun z' q' hz' hq' => ?_⟩, h2⟩
            rcases cases' z' q' hq' with ⟨rfl, _⟩ | ⟨_, h'⟩
            · rw [hfy]
              intro hm
              exact una z q h (List.mem_singleton.mp hm ▸ hc)
            · exact (h1 c hc).2 z' q' hz' h'
      refine hN rfl s' vals' fp' st hK ⟨fun z hz' => Fr.1 z fun hm => hz' ((List.mem_cons.mp hm).elim (fun e => e ▸ .head _) fun h => .tail _ (.tail _ h)), fun b' hz' hb' z q hq hm => ?_⟩
      unfold upd at hq
      by_cases e : z = y
      · subst e
        rw [hfy] at hm
        rw [List.mem_singleton.mp hm] at hz'
        exact hZ hz'
      · rw [if_neg e] at hq
        exact Fr.2 b' (.inl hz') (fun z' q' hq' => hb' z' q' (rem_back hq').2) z q hq hm
    · subst e
      cases he
      exact hR r rfl v s' st R
  · cases ok


section
variable (hC : CallOK prog w fns k C XP) (hXP : ∀ c s s₁ x s', Kp s s₁ → XP c s₁ x s' → XP c s x s')
include hC hXP
mutual
theorem simS_all : ∀ st : S, SimS prog w fns k C st
  | .assign x e => simS_assign (simAll hC hXP e).e ⟨fun elt y it _ => ⟨simAllIt hC hXP it, (simAll hC hXP elt).e⟩, fun elt y it c _ => ⟨simAllIt hC hXP it, (simAll hC hXP elt).e, (simAll hC hXP c).t⟩⟩
  | .append x e => simS_append (simAll hC hXP e).e
  | .expr e => simS_expr (simAll hC hXP e).e
  | .ret e => simS_ret (simAll hC hXP e).e
  | .retn x => simS_retn
  | .ite c a b => simS_ite (simAll hC hXP c).t (simSs_all a) (simSs_all b)
  | .for1 x it b => simS_for (simAllIt hC hXP it) (simSs_all b)
  | .forN x y b => simS_forN (simAllIt hC hXP (.e (.name y))) (simSs_all b)
  | .bad => fun ok => Bool.noConfusion (show false = true from ok)
termination_by structural s => s
theorem simSs_all : ∀ st : Ss, SimSs prog w fns k C st
  | .nil => simSs_nil
  | .cons s r => simSs_cons (simS_all s) (simSs_all r)
termination_by structural s => s
end
end
end
end Mine

namespace Mine
open PySem PyProof.Rows
set_option linter.unusedSectionVars false
variable [SF : Soft]

/-- a function's text and its tree -/
noncomputable def okF (ft : FnT) (f : Fn) : Bool := decide (ft.params = f.params) && f.params.all (bndK ft.scope.names) && decide f.params.Nodup && okSs ft.scope.names f.body ft.body && ft.scope.names.all fun p => p.2 != .free

theorem cells_some {n : Str} : ∀ (names : List (Str × NameKind)) (k : Nat) (acc : List (Str × Addr)), (names.lookup n = some .cell ∨ (acc.lookup n).isSome = true) → ((cellsFrom k names acc).lookup n).isSome = true
  | [], _, acc, h => h.elim (fun e => by cases e) id
  | (m, kd) :: r, k, acc, h => by
    unfold cellsFrom
    by_cases hk : kd = .cell
    · subst hk
      simp only [beq_self_eq_true, if_true]
      by_cases e : n = m
      · subst e
        exact cells_some r _ _ (.inr (by simp))
      · have e' : (n == m) = false := by simpa using e
        refine cells_some r _ _ (h.imp (fun h => ?_) fun h => ?_)
        · rw [List.lookup_cons, e'] at h; exact h
        · rw [List.lookup_cons, e']; exact h
    · have hb : (kd == NameKind.cell) = false := by simpa using hk
      simp only [hb, Bool.false_eq_true, if_false]
      by_cases e : n = m
      · subst e
        rcases h with h | h
        · simp at h; exact absurd h hk
        · exact cells_some r _ _ (.inr h)
      · have e' : (n == m) = false := by simpa using e
        refine cells_some r _ _ (h.imp (fun h => ?_) id)
        rw [List.lookup_cons, e'] at h; exact h

theorem bindL_other {kd : Str → Option NameKind} {y : Str} : ∀ (bs : List (Str × Value)) (m : Str → Option Value), (∀ p ∈ bs, p.1 ≠ y) → bindL kd bs m y = m y
  | [], _, _ => rfl
  | (n, v) :: r, m, h => by
    unfold bindL
    rw [bindL_other r _ fun p hp => h p (.tail _ hp)]
    split
    · exact if_neg fun (e : y = n) => h (n, v) (.head _) e.symm
    · rfl
theorem bindC_other {kd : Str → Option NameKind} {y : Str} : ∀ (bs : List (Str × Value)) (m : Str → Option Value), (∀ p ∈ bs, p.1 ≠ y) → bindC kd bs m y = m y
  | [], _, _ => rfl
  | (n, v) :: r, m, h => by
    unfold bindC
    rw [bindC_other r _ fun p hp => h p (.tail _ hp)]
    split
    · rfl
    · exact if_neg fun (e : y = n) => h (n, v) (.head _) e.symm

theorem zip_ne {p : String} {ps : List String} {vs : List Value} (h : p ∉ ps) : ∀ q ∈ (ps.map Str.ofString).zip vs, q.1 ≠ Str.ofString p := by
  intro q hq e
  have := (List.of_mem_zip hq).1
  obtain ⟨y, hy, e'⟩ := List.mem_map.mp this
  exact h (ofString_inj (e'.trans e) ▸ hy)

theorem bindL_get {kd : Str → Option NameKind} {x : String} {v : Value} : ∀ (ps : List String) (vs : List Value) (m : Str → Option Value), ps.Nodup → (ps.zip vs).lookup x = some v → kd (Str.ofString x) = some .local → bindL kd ((ps.map Str.ofString).zip vs) m (Str.ofString x) = some v
  | [], _, _, _, h, _ => by simp at h
  | _ :: _, [], _, _, h, _ => by simp at h
  | p :: ps, u :: vs, m, hn, h, hk => by
    rw [List.nodup_cons] at hn
    rw [List.zip_cons_cons, List.lookup_cons] at h
    rw [List.map_cons, List.zip_cons_cons]
    unfold bindL
    by_cases e : x = p
    · subst e
      simp at h
      subst h
      rw [bindL_other _ _ (zip_ne hn.1), if_pos hk]
      simp
    · have e' : (x == p) = false := by simpa using e
      rw [e'] at h
      exact bindL_get ps vs _ hn.2 h hk
theorem bindC_get {kd : Str → Option NameKind} {x : String} {v : Value} : ∀ (ps : List String) (vs : List Value) (m : Str → Option Value), ps.Nodup → (ps.zip vs).lookup x = some v → kd (Str.ofString x) = some .cell → bindC kd ((ps.map Str.ofString).zip vs) m (Str.ofString x) = some v
  | [], _, _, _, h, _ => by simp at h
  | _ :: _, [], _, _, h, _ => by simp at h
  | p :: ps, u :: vs, m, hn, h, hk => by
    rw [List.nodup_cons] at hn
    rw [List.zip_cons_cons, List.lookup_cons] at h
    rw [List.map_cons, List.zip_cons_cons]
    unfold bindC
    by_cases e : x = p
    · subst e
      simp at h
      subst h
      rw [bindC_other _ _ (zip_ne hn.1), if_neg (by rw [hk]; simp)]
      simp
    · have e' : (x == p) = false := by simpa using e
      rw [e'] at h
      exact bindC_get ps vs _ hn.2 h hk

section
variable {prog : Program} {w : World} {fns : Fns} {k : Nat} {C : Calls} {XP : String → Shared → Value → Shared → Prop}

theorem bindP_rv {h : Heap} : ∀ {ps : List String} {xs : List V} {vals : List Value} {as : List Addr} {σ : St}, bindP ps xs = some σ → RVs prog w h xs vals as →
    vals.length = ps.length ∧ ∃ fp : String → List Addr, ∀ x q, σ x = some q → x ∈ ps ∧ ∃ V v, q = mk V ∧ (ps.zip vals).lookup x = some v ∧ RV prog w h v V (fp x) ∧ ∀ a ∈ fp x, a ∈ as
  | [], [], _, _, σ, hb, .nil => by
    simp only [bindP, Option.some.injEq] at hb
    subst hb
    exact ⟨rfl, fun _ => [], fun x q h => by cases h⟩
  | [], _ :: _, _, _, _, hb, _ => by cases hb
  | _ :: _, [], _, _, _, hb, _ => by cases hb
  | p :: ps, V :: xs, _, _, σ, hb, .cons (v := v) (as := a1) r rs => by
    simp only [bindP, Option.map_eq_some_iff] at hb
    obtain ⟨σ', hb', rfl⟩ := hb
    obtain ⟨hl, fp', ih⟩ := bindP_rv hb' rs
    refine ⟨by rw [List.length_cons, List.length_cons, hl], fun x => if x = p then a1 else fp' x, fun x q hq => ?_⟩
    unfold upd at hq
    by_cases e : x = p
    · subst e
      rw [if_pos rfl] at hq; cases hq
      have e1 : (if x = x then a1 else fp' x) = a1 := if_pos rfl
      refine ⟨.head _, V, v, rfl, by simp, ?_, fun a ha => ?_⟩
      · show RV prog w h v V (if x = x then a1 else fp' x)
        rw [e1]; exact r
      · have ha' : a ∈ (if x = x then a1 else fp' x) := ha
        rw [e1] at ha'
        exact List.mem_append_left _ ha'
    · rw [if_neg e] at hq
      obtain ⟨h1, V', v', h2, h3, h4, h5⟩ := ih x q hq
      have e' : (x == p) = false := by simpa using e
      exact ⟨.tail _ h1, V', v', h2, by rw [List.zip_cons_cons, List.lookup_cons, e']; exact h3, by show RV prog w h v' V' (if x = p then a1 else fp' x); rw [if_neg e]; exact h4, fun a ha => List.mem_append_right _ (h5 a (by have ha' : a ∈ (if x = p then a1 else fp' x) := ha; rwa [if_neg e] at ha'))⟩

set_option maxHeartbeats 1000000 in
theorem call_fn (hXP : ∀ c s s₁ x s', Kp s s₁ → XP c s₁ x s' → XP c s x s') (hC : CallOK prog w fns k C XP) {fn : Fn} {ft : FnT} {fa : Addr} (hok : okF ft fn = true) {A : Around} {P : Addr → Prop} {s : Shared} {Q : Value → Shared → Prop} {Er : Value → Shared → Prop} {xs : List V} {vals : List Value} {as : List Addr}
    (hroom : Room (k + 1) A) (ge : GE fns s.heap) (hfa : FnAt s.heap ft fa) (rs : RVs prog w s.heap xs vals as) (ha : ∀ a ∈ as, P a) {r : V × Mode} (hr : runF C fn xs = .ok r) (hQ : ∀ v s', EP prog w P s r v s' → Q v s') :
    wpAny (model prog w) A (call (.ref fa) vals []) Q Er s := by
  unfold okF at hok
  simp only [Bool.and_eq_true, decide_eq_true_eq, List.all_eq_true] at hok
  obtain ⟨⟨⟨⟨hps, hbk⟩, hnd⟩, hbody⟩, hfree⟩ := hok
  unfold runF at hr
  split at hr
  · rename_i σ hσ
    obtain ⟨⟨σ', fl⟩, hex, hfl⟩ := Out.bind_ok hr
    dsimp only at hfl
    obtain ⟨hlen, fp, hfp⟩ := bindP_rv hσ rs
    obtain ⟨o, fd, ho, hd, hbd, hsc, hgl, hcl, hbl, hcode, hbind, hco, hgen, hkind⟩ := hfa
    rw [hps] at hbind
    refine wpAny_call (codeAny_call_cells (by have := hroom.2.1; lia) ho hd ge.nolim hcode.rec' hbd (hbind vals hlen) hcl (fun x hx => ?_) (fun s₁ X => ?_) hco hgen hkind)
    · obtain ⟨y, hy, e⟩ := List.mem_map.mp (List.of_mem_zip hx).1
      have hb := hbk y hy
      unfold bndK at hb
      simp only [Bool.and_eq_true, Bool.or_eq_true, beq_iff_eq] at hb
      rw [hsc, ← e]
      rcases hb.2 with h | h
      · exact .inl h
      · exact .inr ⟨h, cells_some _ _ _ (.inl h)⟩
    · have hin := X.toInCall
      obtain ⟨h₁, tk₁, rfl⟩ := hin.same
      have hnames : (callEnvC fd s.heap.objs.size fa).scope.names = ft.scope.names := by show fd.scope.names = _; rw [hsc]
      have hloc : (callEnvC fd s.heap.objs.size fa).locals = s.heap.objs.size := rfl
      have hko : ∀ n, (callEnvC fd s.heap.objs.size fa).kindOf n = ft.scope.names.lookup n := fun n => by show fd.scope.names.lookup n = _; rw [hsc]
      have nofree : ∀ n, (callEnvC fd s.heap.objs.size fa).kindOf n ≠ some .free := fun n e => by
        rw [hko] at e
        have := hfree _ (mem_of_lookup e)
        simp at this
      have K : SOK prog w fns k s.heap P (fun b => ∃ o, s.heap.get? b = some o) (A.deeper (callEnvC fd s.heap.objs.size fa)) (callEnvC fd s.heap.objs.size fa) h₁ σ (fun x => (fn.params.zip vals).lookup x) fp := by
        refine ⟨⟨hroom.1, by have := hroom.2.1; show A.depth + 1 + k + 1 < _; lia, by have := hroom.2.2; show A.units + 3 + _ + _ < _; lia⟩, ⟨hkind, hgl, hbl, fun n hn => ?_⟩, ge, fun b o e => ⟨o, e⟩, .of hin.keep, ⟨_, hcode⟩, fun b ⟨o, e⟩ => ⟨o, hin.keep b o e⟩, ⟨⟨_, hin.ns, fun x v hv hk => ?_⟩, fun ⟨o, e⟩ => ?_, fun n c hk hc => ?_, fun x v c hv hk hc => ?_, fun n n' c h1 h2 => ?_, fun x v hv => ?_⟩, fun x p hp => ?_, fun x p hp ht => ?_, fun x p hp hdp => ?_⟩
        · rcases hn with hn | hn
          · rw [hko] at hn
            exact Option.isSome_iff_exists.mp (by show ((cellsFrom _ fd.scope.names []).lookup n).isSome = true; rw [hsc]; exact cells_some _ _ _ (.inl hn))
          · exact absurd hn (nofree n)
        · exact bindL_get fn.params vals _ hnd hv hk
        · rw [hloc] at e
          rw [new_none] at e; cases e
        · have hm := mem_of_lookup hc
          have hlt := X.above n c hm
          refine ⟨Nat.ne_of_gt hlt, fun ⟨o, e⟩ => ?_, _, X.cell n c hc⟩
          have := Heap.lt_size e
          rw [hloc] at hlt
          exact Nat.lt_irrefl _ (Nat.lt_trans this hlt)
        · have := X.cell _ c hc
          rw [bindC_get fn.params vals _ hnd hv hk] at this
          exact this
        · exact name_of_addr X.apart (mem_of_lookup h1) (mem_of_lookup h2)
        · have hm : x ∈ fn.params := by
            have : (x, v) ∈ fn.params.zip vals := by
              generalize fn.params.zip vals = l at hv
              induction l with
              | nil => cases hv
              | cons q l ih =>
                rw [List.lookup_cons] at hv
                split at hv
                · rename_i e
                  cases hv
                  rw [beq_iff_eq.mp e]
                  exact .head _
                · exact .tail _ (ih hv)
            exact (List.of_mem_zip this).1
          have hb := hbk x hm
          unfold bndK at hb
          simp only [Bool.and_eq_true, Bool.or_eq_true, beq_iff_eq] at hb
          rw [hko]
          exact hb.2
        · obtain ⟨h1, V, v, rfl, h3, h4, h5⟩ := hfp x p hp
          have hb := hbk x h1
          unfold bndK at hb
          simp only [Bool.and_eq_true] at hb
          refine ⟨by rw [hnames]; exact hb.1.1, v, h3, h4.keep hin.keep, fun a h => ⟨fun q => ?_, .inl (ha a (h5 a h))⟩⟩
          obtain ⟨o, e⟩ := h4.there a h
          rw [q, hloc, new_none] at e; cases e
        · obtain ⟨h1, V, v, rfl, _⟩ := hfp x p hp
          exact absurd ht mk_top
        · obtain ⟨h1, V, v, rfl, h3, h4, h5⟩ := hfp x p hp
          rw [h4.scal_nil (mk_deep hdp)]
          exact ⟨fun _ h => (nomatch h), .nil⟩
      have kp : ∀ s', Stp (fun b => ∃ o, s.heap.get? b = some o) { s with heap := h₁, toks := tk₁ } s' → Kp s s' := fun s' st => by
        obtain ⟨h', tk', rfl, kk⟩ := st
        exact ⟨h', tk', rfl, Mine.K.step (Mine.K.of hin.keep) kk fun b o e => ⟨o, e⟩⟩
      have Sb : SimSs prog w fns k C fn.body := simSs_all hC hXP fn.body
      refine @Sb ft.body s.heap P (fun b => ∃ o, s.heap.get? b = some o) (A.deeper (callEnvC fd s.heap.objs.size fa)) (callEnvC fd s.heap.objs.size fa) σ _ fp { s with heap := h₁, toks := tk₁ } _ _ σ' fl (by rw [hnames]; exact hbody) K hex (fun e s' vals' fp' st K' _ => ?_) fun q e v s' st R => ?_
      · subst e
        cases hfl
        exact hQ _ _ (.scalar (kp s' st) .none rfl (by simp))
      · subst e
        cases hfl
        obtain ⟨as', h1, h2, h3, h4⟩ := R
        exact hQ _ _ ⟨kp s' st, as', h1, h2, h3, h4⟩
  · cases hr

theorem callOK (hXP : ∀ c s s₁ x s', Kp s s₁ → XP c s₁ x s' → XP c s x s') {L : List (String × Fn)} (hL : ∀ f fn, L.lookup f = some fn → ∃ p, fns.fn f = some p ∧ okF p.2 fn = true) : ∀ n, CallOK prog w fns n (mkC L n) XP
  | 0 => fun f g h => by cases h
  | n + 1 => fun f g h => by
    simp only [mkC, Option.map_eq_some_iff] at h
    obtain ⟨fn, hfn, rfl⟩ := h
    obtain ⟨p, hp, hok⟩ := hL f fn hfn
    refine ⟨Nat.succ_le_succ (Nat.zero_le n), p, hp, fun {A P s Q Er xs vals as} hroom ge rs ha hne hQ hE => ?_⟩
    obtain ⟨r, hr⟩ := calm_ne_bad hne
    exact call_fn hXP (callOK hXP hL n) hok hroom ge (ge.funs f p hp) rs ha hr fun v s' E => hQ r (by show (runF (mkC L n) fn xs).calm = _; rw [hr]; rfl) v s' E
end
end Mine

namespace Mine
open PySem PyProof.Rows
set_option linter.unusedSectionVars false
variable [SF : Soft]

noncomputable def tabOk (p : Program) (L : List (String × Fn)) : Bool := L.all fun q => match (recsOf p).find? (fun d => d.name == Str.ofString q.1) with
  | some d => okF ⟨q.2.params, d.body, d.scope⟩ q.2 && d.params.posonlyargs.isEmpty && (d.params.args.map (·.arg) == q.2.params.map Str.ofString) && d.params.vararg.isNone && d.params.kwonlyargs.isEmpty && d.params.kwarg.isNone && !d.scope.isCoroutine && !d.scope.isGenerator && d.scope.kind == .function
  | none => false
noncomputable def bnOk (p : Program) (loose : List Str) : Bool := bnames.all fun x => !startupNames.contains (Str.ofString x) && !loose.contains (Str.ofString x) && !((recsOf p).map (·.name)).contains (Str.ofString x) && !((litsOf p).map (·.1)).contains (Str.ofString x) && !((clssOf p loose).map (·.name)).contains (Str.ofString x)

noncomputable def fnsOf (p : Program) (mg : Str → Option Value) (L : List (String × Fn)) : Fns where
  fn f := (L.lookup f).bind fun fn => ((recsOf p).find? (fun d => d.name == Str.ofString f)).bind fun d => match mg (Str.ofString f) with
    | some (.ref a) => some (a, ⟨fn.params, d.body, d.scope⟩)
    | _ => none
  rule := none

theorem lookup_memS {α : Type} : ∀ {l : List (String × α)} {x : String} {v : α}, l.lookup x = some v → (x, v) ∈ l
  | (y, u) :: l, x, v, h => by
    rw [List.lookup_cons] at h
    split at h
    · rename_i e; cases h; rw [beq_iff_eq.mp e]; exact .head _
    · exact .tail _ (lookup_memS h)

section
variable {p : Program} {loose : List Str} {mean : ExcName → Option Value} {mg mb : Str → Option Value} {h : Heap} {L : List (String × Fn)}

theorem tab_one (hS : ∀ c P, h.TableAt c P #[] → SF.tab P) (T : Top p loose mean mg mb h) (ht : tabOk p L = true) {f : String} {fn : Fn} (hf : L.lookup f = some fn) :
    ∃ d a, (recsOf p).find? (fun d => d.name == Str.ofString f) = some d ∧ mg (Str.ofString f) = some (.ref a) ∧ okF ⟨fn.params, d.body, d.scope⟩ fn = true ∧ FnAt h ⟨fn.params, d.body, d.scope⟩ a := by
  have h1 := List.all_eq_true.mp ht _ (lookup_memS hf)
  dsimp only at h1
  split at h1
  · rename_i d hd
    simp only [Bool.and_eq_true, Bool.not_eq_true', beq_iff_eq, List.isEmpty_iff, Option.isNone_iff_eq_none] at h1
    obtain ⟨⟨⟨⟨⟨⟨⟨⟨hok, h2⟩, h3⟩, h4⟩, h5⟩, h6⟩, h7⟩, h8⟩, h9⟩ := h1
    have hm := List.mem_of_find?_eq_some hd
    have hn := List.find?_some hd
    simp only [beq_iff_eq] at hn
    obtain ⟨a, o, pm, code, doc, t1, t2, t3, t4⟩ := T.fn d hm
    have hcode : CodeOk h code d.name := by
      obtain ⟨a', o', fd, c, P, u1, u2, u3, u4, u5, u6⟩ := T.tab d hm
      rw [t1] at u1; cases u1
      rw [t2] at u2; cases u2
      rw [t3] at u3; cases u3
      exact ⟨c, P, #[], u4, t4, u5, u6, ⟨trivial, fun pos cv q => by cases q⟩, hS c P u6⟩
    refine ⟨d, a, hd, by rw [← hn]; exact t1, hok, o, _, t2, t3, rfl, rfl, rfl, rfl, rfl, hcode, fun vals hl => ?_, h7, h8, h9⟩
    have hnd : fn.params.Nodup := by
      unfold okF at hok
      simp only [Bool.and_eq_true, decide_eq_true_eq] at hok
      exact hok.1.1.2
    refine bind_plain h2 h3 h4 h5 h6 rfl ?_ (by rw [List.length_map]; exact hl)
    exact List.pairwise_map.mpr (List.Pairwise.imp (fun h e => h (ofString_inj e)) hnd)
  · cases h1

theorem ge_of (hS : ∀ c P, h.TableAt c P #[] → SF.tab P) (T : Top p loose mean mg mb h) (ht : tabOk p L = true) (hb : bnOk p loose = true) : GE (fnsOf p mg L) h where
  glob := ⟨mg, T.g, fun f q hq => by
    simp only [fnsOf] at hq
    obtain ⟨fn, hfn, hq⟩ := Option.bind_eq_some_iff.mp hq
    obtain ⟨d, a, hd, ha, _⟩ := tab_one hS T ht hfn
    rw [hd, ha] at hq
    cases hq
    exact ha, fun x hx => by
    have := List.all_eq_true.mp hb x hx
    simp only [Bool.and_eq_true, Bool.not_eq_true', List.contains_eq_mem, decide_eq_false_iff_not] at this
    obtain ⟨⟨⟨⟨h1, h2⟩, h3⟩, h4⟩, h5⟩ := this
    exact T.free _ h1 h2 h3 h4 h5⟩
  funs := fun f q hq => by
    simp only [fnsOf] at hq
    obtain ⟨fn, hfn, hq⟩ := Option.bind_eq_some_iff.mp hq
    obtain ⟨d, a, hd, ha, _, hat⟩ := tab_one hS T ht hfn
    rw [hd, ha] at hq
    cases hq
    exact hat
  blt := ⟨mb, T.b, fun x hx => by
    simp only [bnames, List.mem_cons, List.not_mem_nil, or_false] at hx
    rcases hx with rfl | rfl | rfl | rfl | rfl | rfl | rfl | rfl | rfl | rfl | rfl | rfl <;> (rw [T.builtins _ (by decide +kernel)]; kernel_rfl)⟩
  nolim := T.nolimit
  bm := let ⟨bm, ob, a, b, c, d, e, f⟩ := T.bmain; ⟨mg, bm, ob, T.g, a, b, c, d, e, f⟩

theorem room_caller {n : Nat} (h : n ≤ 60) : Room n callerA := ⟨rfl, by show 1 + claimMargin + n + 1 < recursionLimit; unfold claimMargin recursionLimit; omega, by show 4 + 100 * n + 200 < cLine; unfold cLine; omega⟩

omit SF in
/-- a law's call -/
theorem law_call {w : World} {prog : Program} {s : Shared} {fn : Fn} {fa a : Addr} {n : Nat} {ns : List Int} {vs : List Value} {m : Mode} {Q : Value → Shared → Prop} {Er : Value → Shared → Prop} (T : Top p loose mean mg mb s.heap) (ht : tabOk p L = true) (hb : bnOk p loose = true)
    (hf : L.lookup "law" = some fn) (hmg : mg (Str.ofString "law") = some (.ref fa)) (hn : n ≤ 50) (hr : runF (mkC L n) fn [.d (ofInts ns)] = .ok (.d (.bool true), m)) (ea : s.heap.get? a = some { cls := .type "list", data := .seq vs.toArray }) (hI : IntsAre vs ns) (hlen : ns.length ≤ 2 ^ 22)
    (hQ : ∀ h' tk, OldK s.heap h' → Q (.bool true) { s with heap := h', toks := tk }) : wpAny (model prog w) callerA (call (.ref fa) [.ref a]) Q Er s := by
  letI SF : Soft := ⟨fun P => ∃ c, s.heap.TableAt c P #[], s.heap.objs.size⟩
  have hS : ∀ c P, s.heap.TableAt c P #[] → SF.tab P := fun c P x => ⟨c, x⟩
  have ge := ge_of hS T ht hb
  obtain ⟨d, a', hd, ha, hok, hat⟩ := tab_one hS T ht hf
  rw [hmg] at ha; cases ha
  have hC : CallOK prog w (fnsOf p mg L) n (mkC L n) (fun _ _ _ _ => False) := callOK (fun _ _ _ _ _ _ h => h) (fun f fn hf => by
    obtain ⟨d, a, hd, ha, hok, _⟩ := tab_one hS T ht hf
    exact ⟨(a, ⟨fn.params, d.body, d.scope⟩), by simp only [fnsOf, hf, hd, ha, Option.bind_some], hok⟩) n
  have rs : RVs prog w s.heap [.d (ofInts ns)] [.ref a] ([a] ++ []) := by
    refine .cons ⟨.list ea (RA.of_ints hI), ?_⟩ .nil
    exact sz_list.mpr ⟨by rw [List.length_map]; exact hlen, szs_ints ns⟩
  refine call_fn (XP := fun _ _ _ _ => False) (P := fun _ => True) (fun _ _ _ _ _ _ h => h) hC hok (room_caller (by omega)) ge hat rs (fun _ _ => trivial) hr fun v s' E => ?_
  obtain ⟨⟨h', tk, rfl, kp⟩, as, ⟨r, _⟩, _⟩ := E
  cases r
  refine hQ h' tk ⟨fun b o e => ?_, fun b o e => kp.there e⟩
  obtain ⟨o', e', l⟩ := kp b o (.inl trivial) e
  cases l with
  | same q => exact .inl (q ▸ e')
  | tab ps more q1 q2 q3 _ =>
    obtain ⟨c, q1⟩ := q1
    subst q2 q3
    exact .inr (.inl ⟨q1.isCodeTable, rfl, ps, more, rfl, e'⟩)
  | frame es ep q1 _ _ _ _ _ => exact absurd (Heap.lt_size e) (Nat.not_lt.mpr q1)
end

omit SF in
theorem exact_list {P : Params} {h : Heap} {a : Addr} {vs : List Value} {xs : List W.WData} (x : W.Well P h (.ref a) (.list xs)) (hL : h.IsList a vs.toArray) : h.get? a = some { cls := .type "list", data := .seq vs.toArray } := by
  obtain ⟨o, e, hc, n, hd⟩ := hL
  cases x with
  | list e' _ =>
    rw [e] at e'; cases e'
    dsimp only at hd
    injection hd with h1 h2
    rw [e, h1]
end Mine

namespace Mine
open PySem

/-! ## plain facts of the evaluator's values -/
theorem depthAll_le {n : Nat} : ∀ {xs : List PyData}, (∀ x ∈ xs, x.depth ≤ n) → PyData.depthAll xs ≤ n
  | [], _ => by simp [PyData.depthAll]
  | x :: xs, h => by
    rw [PyData.depthAll]
    exact Nat.max_le.mpr ⟨h x (.head _), depthAll_le fun y hy => h y (.tail _ hy)⟩
theorem canLayAll_iff : ∀ {xs : List PyData}, (∀ x ∈ xs, x.canLay0 = true) → PyData.canLayAll0 xs = true
  | [], _ => by simp [PyData.canLayAll0]
  | x :: xs, h => by
    rw [PyData.canLayAll0, h x (.head _), canLayAll_iff fun y hy => h y (.tail _ hy)]; rfl
/-- data of few storeys -/
noncomputable def Low (n : Nat) (d : PyData) : Prop := d.canLay0 = true ∧ d.depth ≤ n
theorem Low.okc {n : Nat} {d : PyData} (h : Low n d) (hn : n ≤ 64 := by decide) : okc d = true := by
  unfold Mine.okc
  rw [h.1, decide_eq_true (Nat.le_trans h.2 hn)]; rfl
theorem Low.int (i : Int) (n : Nat) : Low (n + 1) (.int i) := ⟨rfl, by simp [PyData.depth]⟩
theorem Low.list {n : Nat} {xs : List PyData} (h : ∀ x ∈ xs, Low n x) : Low (n + 1) (.list xs) :=
  ⟨by rw [PyData.canLay0]; exact canLayAll_iff fun x hx => (h x hx).1, by rw [PyData.depth]; have := depthAll_le fun x hx => (h x hx).2; lia⟩
theorem low_ints (ns : List Int) (n : Nat) : Low (n + 2) (ofInts ns) := .list fun x hx => by
  obtain ⟨i, _, rfl⟩ := List.mem_map.mp hx
  exact .int i n
theorem low_rows (t : List (List Int)) (n : Nat) : Low (n + 3) (ofRows t) := .list fun x hx => by
  obtain ⟨i, _, rfl⟩ := List.mem_map.mp hx
  exact low_ints i n
@[simp] theorem okc_int (i : Int) : okc (.int i) = true := (Low.int i 0).okc
@[simp] theorem okc_none : okc .none = true := rfl
@[simp] theorem okc_ints (ns : List Int) : okc (ofInts ns) = true := (low_ints ns 0).okc
@[simp] theorem okc_ints' (ns : List Int) : okc (.list (ns.map .int)) = true := okc_ints ns
@[simp] theorem okc_rows (t : List (List Int)) : okc (ofRows t) = true := (low_rows t 0).okc
@[simp] theorem okc_rows' (t : List (List Int)) : okc (.list (t.map ofInts)) = true := okc_rows t
@[simp] theorem okc_nil : okc (.list []) = true := okc_ints []

@[simp] theorem eqv_int (a b : Int) : PyData.eqv (.int a) (.int b) = decide (a = b) := by
  rw [PyData.eqv]; by_cases h : a = b <;> simp [h]
theorem eqvAll_ints : ∀ (a b : List Int), PyData.eqvAll (a.map .int) (b.map .int) = decide (a = b)
  | [], [] => by simp [PyData.eqvAll]
  | [], y :: b => by simp [PyData.eqvAll]
  | x :: a, [] => by simp [PyData.eqvAll]
  | x :: a, y :: b => by
    rw [List.map_cons, List.map_cons, PyData.eqvAll, eqvAll_ints a b, eqv_int]
    by_cases h1 : x = y <;> by_cases h2 : a = b <;> simp [h1, h2]
@[simp] theorem eqv_ints (a b : List Int) : PyData.eqv (ofInts a) (ofInts b) = decide (a = b) := by
  unfold ofInts; rw [PyData.eqv]; exact eqvAll_ints a b
@[simp] theorem eqv_ints' (a b : List Int) : PyData.eqv (.list (a.map .int)) (.list (b.map .int)) = decide (a = b) := eqv_ints a b
theorem eqvAll_rows : ∀ (a b : List (List Int)), PyData.eqvAll (a.map ofInts) (b.map ofInts) = decide (a = b)
  | [], [] => by simp [PyData.eqvAll]
  | [], y :: b => by simp [PyData.eqvAll]
  | x :: a, [] => by simp [PyData.eqvAll]
  | x :: a, y :: b => by
    rw [List.map_cons, List.map_cons, PyData.eqvAll, eqvAll_rows a b, eqv_ints]
    by_cases h1 : x = y <;> by_cases h2 : a = b <;> simp [h1, h2]
@[simp] theorem eqv_rows (a b : List (List Int)) : PyData.eqv (ofRows a) (ofRows b) = decide (a = b) := by
  unfold ofRows; rw [PyData.eqv]; exact eqvAll_rows a b
@[simp] theorem eqv_ints_nil (a : List Int) : PyData.eqv (ofInts a) (.list []) = decide (a = []) := eqv_ints a []

@[simp] theorem inV_ints (k : Int) (ns : List Int) : inV (.int k) (.d (ofInts ns)) = .ok (decide (k ∈ ns)) := by
  show (if okc (.int k) && okc (ofInts ns) then Out.ok ((ns.map PyData.int).any fun y => PyData.eqv y (.int k)) else .bad) = _
  rw [okc_int, okc_ints, if_pos (by decide)]
  congr 1
  rw [Bool.eq_iff_iff, List.any_map]
  simp [List.any_eq_true]
@[simp] theorem inV_rows (k : List Int) (t : List (List Int)) : inV (ofInts k) (.d (ofRows t)) = .ok (decide (k ∈ t)) := by
  show (if okc (ofInts k) && okc (ofRows t) then Out.ok ((t.map ofInts).any fun y => PyData.eqv y (ofInts k)) else .bad) = _
  rw [okc_ints, okc_rows, if_pos (by decide)]
  congr 1
  rw [Bool.eq_iff_iff, List.any_map]
  simp [List.any_eq_true]

@[simp] theorem intsOf_map : ∀ ns : List Int, intsOf (ns.map .int) = some ns
  | [] => rfl
  | i :: ns => by rw [List.map_cons, intsOf, intsOf_map ns]; rfl
theorem all_sx (ns : List Int) : (ns.map PyData.int).all sx = true := by rw [List.all_map, List.all_eq_true]; intro _ _; rfl
@[simp] theorem fresh_map (ns : List Int) : fresh (ns.map .int) = .deep := by unfold fresh; rw [all_sx]; rfl

@[simp] theorem mk_int (i : Int) : mk (.d (.int i)) = sI i := rfl
@[simp] theorem mk_ints (ns : List Int) : mk (.d (ofInts ns)) = (.d (ofInts ns), .sh) := rfl

/-- a comprehension of numbers over any data -/
theorem compL_to {α : Type} {F : PyData → Out (Option (V × Mode))} {e : α → PyData} {f : α → Int} : ∀ {l : List α}, (∀ i ∈ l, F (e i) = .ok (some (sI (f i)))) → compL F (l.map e) = .ok ((l.map f).map .int, true)
  | [], _ => rfl
  | i :: l, h => by
    rw [List.map_cons, compL, h i (.head _), compL_to fun j hj => h j (.tail _ hj)]
    rfl

theorem range_ints (a b : Int) : rangeL a b = ((List.range (b - a).toNat).map fun (k : Nat) => a + (k : Int)).map .int := by
  unfold rangeL; rw [List.map_map]; rfl

noncomputable def upTo (n : Nat) : List Int := (List.range n).map fun (k : Nat) => (k : Int)
theorem rangeV_to {n : Nat} (h : n ≤ 1000000) : rangeV 0 n = .ok ((upTo n).map .int, .deep) := by
  unfold rangeV
  rw [if_pos ⟨by unfold lim; lia, by lia, by lia, by lia, by lia⟩, range_ints]
  simp [upTo]
theorem mem_upTo {n : Nat} {i : Int} : i ∈ upTo n ↔ 0 ≤ i ∧ i < n := by
  unfold upTo
  simp only [List.mem_map, List.mem_range]
  constructor
  · rintro ⟨k, hk, rfl⟩; lia
  · rintro ⟨h1, h2⟩; exact ⟨i.toNat, by lia, by lia⟩

theorem subV_list {xs : List PyData} {i : Int} {k : Nat} {y : PyData} (hk : seqIdx i xs.length = some k) (h : xs[k]? = some y) : subV (.list xs) (.int i) = .ok (mk (.d y)) := by
  show (optO ((seqIdx i xs.length).bind fun k => xs[k]?) fun z => Out.ok (mk (.d z))) = _
  rw [hk, Option.bind_some, h]; rfl
theorem seqIdx_pos {i : Int} {n : Nat} (h0 : 0 ≤ i) (h : i < n) : seqIdx i n = some i.toNat := by unfold seqIdx; rw [if_pos h0, if_pos h]
theorem subV_ints {ns : List Int} {i : Int} {x : Int} (h0 : 0 ≤ i) (h : ns[i.toNat]? = some x) : subV (ofInts ns) (.int i) = .ok (sI x) := by
  have hlt : i.toNat < ns.length := (List.getElem?_eq_some_iff.mp h).1
  exact subV_list (seqIdx_pos h0 (by rw [List.length_map]; lia)) (by rw [List.getElem?_map, h]; rfl)


/-! ## steps of the evaluator, for simp -/
section
variable (a b : Int) (xs ys : List Int) (t u : List (List Int)) (σ : St) (x y : String) (v : V × Mode)
@[simp] theorem upd_app : upd σ x v y = if y = x then some v else σ y := rfl
@[simp] theorem truth_bool (b : Bool) : truth (.d (.bool b)) = .ok b := rfl
@[simp] theorem cmp_lt : cmpV .lt (.d (.int a)) (.d (.int b)) = .ok (decide (a < b)) := rfl
@[simp] theorem cmp_le : cmpV .le (.d (.int a)) (.d (.int b)) = .ok (decide (a ≤ b)) := rfl
@[simp] theorem cmp_gt : cmpV .gt (.d (.int a)) (.d (.int b)) = .ok (decide (b < a)) := rfl
@[simp] theorem cmp_ge : cmpV .ge (.d (.int a)) (.d (.int b)) = .ok (decide (b ≤ a)) := rfl
@[simp] theorem cmp_eq : cmpV .eq (.d (.int a)) (.d (.int b)) = .ok (decide (a = b)) := by
  show (if okc (.int a) && okc (.int b) then Out.ok (PyData.eqv (.int a) (.int b)) else .bad) = _
  rw [okc_int, okc_int, eqv_int, if_pos (by decide)]
@[simp] theorem cmp_ne : cmpV .ne (.d (.int a)) (.d (.int b)) = .ok (!decide (a = b)) := by
  show (if okc (.int a) && okc (.int b) then Out.ok (!PyData.eqv (.int a) (.int b)) else .bad) = _
  rw [okc_int, okc_int, eqv_int, if_pos (by decide)]
@[simp] theorem cmp_eqI : cmpV .eq (.d (ofInts xs)) (.d (ofInts ys)) = .ok (decide (xs = ys)) := by
  show (if okc (ofInts xs) && okc (ofInts ys) then Out.ok (PyData.eqv (ofInts xs) (ofInts ys)) else .bad) = _
  rw [okc_ints, okc_ints, eqv_ints, if_pos (by decide)]
@[simp] theorem cmp_neI : cmpV .ne (.d (ofInts xs)) (.d (ofInts ys)) = .ok (!decide (xs = ys)) := by
  show (if okc (ofInts xs) && okc (ofInts ys) then Out.ok (!PyData.eqv (ofInts xs) (ofInts ys)) else .bad) = _
  rw [okc_ints, okc_ints, eqv_ints, if_pos (by decide)]
@[simp] theorem cmp_eqR : cmpV .eq (.d (ofRows t)) (.d (ofRows u)) = .ok (decide (t = u)) := by
  show (if okc (ofRows t) && okc (ofRows u) then Out.ok (PyData.eqv (ofRows t) (ofRows u)) else .bad) = _
  rw [okc_rows, okc_rows, eqv_rows, if_pos (by decide)]
@[simp] theorem cmp_neR : cmpV .ne (.d (ofRows t)) (.d (ofRows u)) = .ok (!decide (t = u)) := by
  show (if okc (ofRows t) && okc (ofRows u) then Out.ok (!PyData.eqv (ofRows t) (ofRows u)) else .bad) = _
  rw [okc_rows, okc_rows, eqv_rows, if_pos (by decide)]
@[simp] theorem cmp_in : cmpV .isin (.d (.int a)) (.d (ofInts xs)) = .ok (decide (a ∈ xs)) := inV_ints a xs
@[simp] theorem cmp_nin : cmpV .notin (.d (.int a)) (.d (ofInts xs)) = .ok (!decide (a ∈ xs)) := by
  show ((inV (.int a) (.d (ofInts xs))).bind fun b => Out.ok (!b)) = _
  rw [inV_ints]; rfl
@[simp] theorem cmp_inR : cmpV .isin (.d (ofInts xs)) (.d (ofRows t)) = .ok (decide (xs ∈ t)) := inV_rows xs t
@[simp] theorem bin_add : binV .add (.int a) (.int b) = .ok (sI (a + b)) := rfl
@[simp] theorem bin_sub : binV .sub (.int a) (.int b) = .ok (sI (a - b)) := rfl
@[simp] theorem bin_xor : binV .xor (.int a) (.int b) = .ok (sI (Builtin.bitXor a b)) := rfl
theorem bin_mul_r (h : b.natAbs < 2 ^ 63) : binV .mul (.int a) (.int b) = .ok (sI (a * b)) := by
  show (if a.natAbs < 2 ^ 63 ∨ b.natAbs < 2 ^ 63 then Out.ok (sI (a * b)) else .bad) = _
  rw [if_pos (.inr h)]
theorem bin_mod (h : 0 < b) : binV .mod (.int a) (.int b) = .ok (sI (a % b)) := by
  show (if b = 0 then Out.bad else Out.ok (sI (a.fmod b))) = _
  rw [if_neg (by lia), Int.fmod_eq_emod_of_nonneg _ (by lia)]
theorem bin_div (h : 0 < b) (h' : b < 1000000000) : binV .fdiv (.int a) (.int b) = .ok (sI (a / b)) := by
  show (if b = 0 ∨ 1000000000 ≤ b.natAbs then Out.bad else Out.ok (sI (a.fdiv b))) = _
  rw [if_neg (by lia), Int.fdiv_eq_ediv_of_nonneg _ (by lia)]
theorem bin_addI (h : xs.length + ys.length ≤ 1000000) : binV .add (ofInts xs) (ofInts ys) = .ok (.d (ofInts (xs ++ ys)), .deep) := by
  show (if (xs.map PyData.int).length + (ys.map PyData.int).length ≤ lim then Out.ok (V.d (.list (xs.map .int ++ ys.map .int)), fresh (xs.map .int ++ ys.map .int)) else .bad) = _
  rw [List.length_map, List.length_map, if_pos (show _ ≤ lim from h), ← List.map_append, fresh_map]; rfl
@[simp] theorem b1_len : b1V .len (.d (ofInts xs)) = .ok (sI xs.length) := by
  show Out.ok (sI (xs.map PyData.int).length) = _
  rw [List.length_map]
@[simp] theorem b1_lenR : b1V .len (.d (ofRows t)) = .ok (sI t.length) := by
  show Out.ok (sI (t.map ofInts).length) = _
  rw [List.length_map]
@[simp] theorem b1_list : b1V .list (.d (ofInts xs)) = .ok (.d (ofInts xs), .deep) := by
  show Out.ok (V.d (.list (xs.map PyData.int)), fresh (xs.map PyData.int)) = _
  rw [fresh_map]; rfl
@[simp] theorem b1_sum : b1V .sum (.d (ofInts xs)) = .ok (sI xs.sum) := by
  show (optO (intsOf (xs.map PyData.int)) fun ns => Out.ok (sI ns.sum)) = _
  rw [intsOf_map]; rfl
@[simp] theorem isi_int_int : isiV (.d (.int a)) "int" = .ok true := rfl
@[simp] theorem isi_int_bool : isiV (.d (.int a)) "bool" = .ok false := rfl
@[simp] theorem isi_ints_list : isiV (.d (ofInts xs)) "list" = .ok true := rfl
@[simp] theorem sI_1 : (sI a).1 = .d (.int a) := rfl
@[simp] theorem sI_2 : (sI a).2 = .deep := rfl
@[simp] theorem sB_1 (b : Bool) : (sB b).1 = .d (.bool b) := rfl
@[simp] theorem sB_2 (b : Bool) : (sB b).2 = .deep := rfl
@[simp] theorem allD_nil : allD [] = some [] := rfl
@[simp] theorem allD_int (m : Mode) (l : List (V × Mode)) : allD ((.d (.int a), m) :: l) = (allD l).map (.int a :: ·) := rfl
@[simp] theorem allD_sI (l : List (V × Mode)) : allD (sI a :: l) = (allD l).map (.int a :: ·) := rfl
@[simp] theorem allDeep_nil : allDeep [] = true := rfl
@[simp] theorem allDeep_sI (l : List (V × Mode)) : allDeep (sI a :: l) = allDeep l := by simp [allDeep]
end


@[simp] theorem lstV_ints (xs : List Int) : lstV (.d (ofInts xs)) = some (xs.map .int) := rfl
@[simp] theorem lstV_rows (t : List (List Int)) : lstV (.d (ofRows t)) = some (t.map ofInts) := rfl
@[simp] theorem itV_ints (xs : List Int) (m : Mode) : itV (.d (ofInts xs), m) = .ok (xs.map .int, m) := rfl
@[simp] theorem itV_rows (t : List (List Int)) (m : Mode) : itV (.d (ofRows t), m) = .ok (t.map ofInts, m) := rfl
@[simp] theorem ofInts_snoc (xs : List Int) (a : Int) : PyData.list (xs.map .int ++ [.int a]) = ofInts (xs ++ [a]) := by unfold ofInts; rw [List.map_append]; rfl



theorem putV_ints {σ : St} {x : String} {ns : List String} {mx : Mode} {xs : List PyData} (h : xs.length ≤ 1000000) : putV σ x ns mx xs .deep = .ok (upd σ x (.d (.list xs), mx), .next) := by
  unfold putV
  rw [if_pos (show _ ≤ lim from h), if_pos rfl]
@[simp] theorem upTo_len (n : Nat) : (upTo n).length = n := by simp [upTo]



theorem exs_next {C : Calls} {s : S} {r : Ss} {σ σ' : St} (h : ex C s σ = .ok (σ', .next)) : exs C (.cons s r) σ = exs C r σ' := by
  simp only [exs, h, Out.ok_bind]
theorem exs_ret {C : Calls} {s : S} {r : Ss} {σ σ' : St} {v : V × Mode} (h : ex C s σ = .ok (σ', .ret v)) : exs C (.cons s r) σ = .ok (σ', .ret v) := by
  simp only [exs, h, Out.ok_bind]

section
variable {C : Calls} {a b : E} {σ : St} {x y : PyData} {mx my : Mode}
theorem ev_sub (ha : ev C a σ = .ok (.d x, mx)) (hb : ev C b σ = .ok (.d y, my)) : ev C (.sub a b) σ = subV x y := by simp only [ev, ha, hb, Out.ok_bind]
theorem ev_bin {o : BOp} (ha : ev C a σ = .ok (.d x, mx)) (hb : ev C b σ = .ok (.d y, my)) : ev C (.bin o a b) σ = binV o x y := by simp only [ev, ha, hb, Out.ok_bind]
theorem ex_ret {r : V × Mode} (h : ev C a σ = .ok r) : ex C (.ret a) σ = .ok (σ, .ret r) := by simp only [ex, h, Out.ok_bind]
end

section
variable {C : Calls} {a b c : E} {σ : St} {x y : V} {mx my : Mode}
theorem ev_call {f : String} {g : List V → Out (V × Mode)} {es : Es} {l : List (V × Mode)} (hC : C f = some g) (he : evs C es σ = .ok l) : ev C (.call f es) σ = g (l.map (·.1)) := by simp only [ev, hC, he, Out.ok_bind]
theorem evs_cons {es : Es} {r : V × Mode} {l : List (V × Mode)} (h : ev C a σ = .ok r) (hs : evs C es σ = .ok l) : evs C (.cons a es) σ = .ok (r :: l) := by simp only [evs, h, hs, Out.ok_bind]
theorem evs_nil : evs C .nil σ = .ok [] := by simp only [evs]
theorem ev_cmp {o : COp} {t : Bool} (ha : ev C a σ = .ok (x, mx)) (hb : ev C b σ = .ok (y, my)) (h : cmpV o x y = .ok t) : ev C (.cmp o a b) σ = .ok (sB t) := by simp only [ev, ha, hb, h, Out.ok_bind]
theorem ev_not {t : Bool} (ha : ev C a σ = .ok (sB t)) : ev C (.not a) σ = .ok (sB (!t)) := by simp only [ev, ha, Out.ok_bind, sB_1, truth_bool]
theorem ev_or_f {t : Bool} (ha : ev C a σ = .ok (sB false)) (hb : ev C b σ = .ok (sB t)) : ev C (.or a b) σ = .ok (sB t) := by
  simp only [ev, ha, hb, Out.ok_bind, sB_1, truth_bool, Bool.false_eq_true, if_false]
theorem ev_or_t (ha : ev C a σ = .ok (sB true)) : ev C (.or a b) σ = .ok (sB true) := by
  simp only [ev, ha, Out.ok_bind, sB_1, truth_bool, if_true]
theorem ev_and_t {t : Bool} (ha : ev C a σ = .ok (sB true)) (hb : ev C b σ = .ok (sB t)) : ev C (.and a b) σ = .ok (sB t) := by
  simp only [ev, ha, hb, Out.ok_bind, sB_1, truth_bool, if_true]
theorem ev_and_f (ha : ev C a σ = .ok (sB false)) : ev C (.and a b) σ = .ok (sB false) := by
  simp only [ev, ha, Out.ok_bind, sB_1, truth_bool, Bool.false_eq_true, if_false]
theorem ex_if_f {u v : Ss} (h : ev C c σ = .ok (sB false)) : ex C (.ite c u v) σ = exs C v σ := by simp only [ex, h, Out.ok_bind, sB_1, truth_bool, Bool.false_eq_true, if_false]
theorem ex_if_t {u v : Ss} (h : ev C c σ = .ok (sB true)) : ex C (.ite c u v) σ = exs C u σ := by simp only [ex, h, Out.ok_bind, sB_1, truth_bool, if_true]
theorem exs_nil : exs C .nil σ = .ok (σ, .next) := by simp only [exs]
theorem ev_b1 {f : B1} (ha : ev C a σ = .ok (x, mx)) : ev C (.bi1 f a) σ = b1V f x := by simp only [ev, ha, Out.ok_bind]
theorem ev_nm {z : String} {p r : V × Mode} (h : σ z = some p) (hr : mk p.1 = r) : ev C (.name z) σ = .ok r := by simp only [ev, h, hr]
theorem evIt_r {n : Nat} {m : Mode} (h : ev C a σ = .ok (.d (.int n), m)) (hn : n ≤ 1000000) : evIt C (.r1 a) σ = .ok ((upTo n).map .int, .deep) := by
  simp only [evIt, h, Out.ok_bind]; exact rangeV_to hn
theorem ev_comp {elt : E} {z : String} {it : It} {q : List PyData × Mode} {r : List PyData × Bool} (h : evIt C it σ = .ok q) (hr : compL (fun y => (ev C elt (upd σ z (mk (.d y)))).bind fun r => .ok (some r)) q.1 = .ok r) : ev C (.comp elt z it) σ = .ok (.d (.list r.1), if r.2 then .deep else .top) := by
  simp only [ev, h, Out.ok_bind, hr, Out.calm_ok]
theorem ex_append {z : String} {xs : List Int} {m : Mode} {i : Int} (hz : σ z = some (.d (ofInts xs), m)) (hm : m ≠ .sh) (h : ev C a σ = .ok (sI i)) (hl : xs.length < 1000000) : ex C (.append z a) σ = .ok (upd σ z (.d (ofInts (xs ++ [i])), m), .next) := by
  simp only [ex, h, Out.ok_bind, hz, lstV_ints, if_neg hm, sI_1, sI_2]
  rw [putV_ints (by rw [List.length_append, List.length_map]; exact hl), ofInts_snoc]
end
end Mine

namespace Mine
open PySem

/-! ## runs of the evaluator, by what is known of the names -/
def Val (σ : St) (x : String) (v : V) : Prop := ∃ m, σ x = some (v, m)
def Has (σ : St) (l : List (String × V)) : Prop := ∀ x v, l.lookup x = some v → Val σ x v
def Sub (l : List (String × V)) : List (String × V) → Prop
  | [] => True
  | p :: r => l.lookup p.1 = some p.2 ∧ Sub l r

theorem lookup_hd {β : Type} (x : String) (v : β) (l : List (String × β)) : List.lookup x ((x, v) :: l) = some v := by
  rw [List.lookup_cons, beq_self_eq_true]
theorem lookup_tl {β : Type} {x y : String} (h : x ≠ y) (v : β) (l : List (String × β)) : List.lookup x ((y, v) :: l) = l.lookup x := by
  rw [List.lookup_cons, beq_eq_false_iff_ne.mpr h]

section
variable {C : Calls} {σ : St} {l l' : List (String × V)}
theorem Has.nil : Has σ [] := fun _ _ h => by cases h
theorem Has.ev {x : String} {v : V} (H : Has σ l) (h : l.lookup x = some v) : ev C (.name x) σ = .ok (mk v) := by
  obtain ⟨m, e⟩ := H x v h
  exact ev_nm e rfl
theorem Has.upd (H : Has σ l) (x : String) (v : V) (m : Mode) : Has (Mine.upd σ x (v, m)) ((x, v) :: l) := by
  intro y u h
  by_cases e : y = x
  · subst e
    rw [lookup_hd] at h
    cases h
    exact ⟨m, if_pos rfl⟩
  · rw [lookup_tl e] at h
    obtain ⟨m', q⟩ := H y u h
    exact ⟨m', (if_neg e).trans q⟩
theorem Has.demote (H : Has σ l) (ns : List String) : Has (Mine.demote σ ns) l := by
  intro x v h
  obtain ⟨m, q⟩ := H x v h
  by_cases e : x ∈ ns
  · exact ⟨(mk v).2, (if_pos e).trans (by rw [q]; rfl)⟩
  · exact ⟨m, (if_neg e).trans q⟩
theorem Has.consume (H : Has σ l) (ns : List String) (m : Mode) : Has (Mine.consume σ ns m) l := by
  unfold Mine.consume
  by_cases e : m = .deep
  · rw [if_pos e]; exact H
  · rw [if_neg e]; exact H.demote ns
theorem Has.sub (H : Has σ l) (h : Sub l l') : Has σ l' := by
  induction l' with
  | nil => exact .nil
  | cons p r ih =>
    intro x v hx
    by_cases e : x = p.1
    · subst e
      rw [lookup_hd] at hx
      cases hx
      exact H _ _ h.1
    · rw [lookup_tl e] at hx
      exact ih h.2 x v hx

noncomputable def Runs (C : Calls) (b : Ss) (σ : St) (Post : St → Flw → Prop) : Prop := ∃ σ' fl, exs C b σ = .ok (σ', fl) ∧ Post σ' fl
/-- what comes behind -/
noncomputable def Cont (C : Calls) (b : Ss) (Post : St → Flw → Prop) (σ : St) : Flw → Prop
  | .next => Runs C b σ Post
  | .ret v => Post σ (.ret v)

variable {b u v : Ss} {s : S} {e c : E} {Post Post' : St → Flw → Prop} {r : V × Mode} {x : String}
theorem Runs.mono (h : Runs C b σ Post) (k : ∀ σ' fl, Post σ' fl → Post' σ' fl) : Runs C b σ Post' := let ⟨a, f, h1, h2⟩ := h; ⟨a, f, h1, k a f h2⟩
theorem Runs.nil (h : Post σ .next) : Runs C .nil σ Post := ⟨σ, .next, exs_nil, h⟩
theorem Runs.cons {o : St × Flw} (he : ex C s σ = .ok o) (k : Cont C b Post o.1 o.2) : Runs C (.cons s b) σ Post := by
  obtain ⟨σ', fl⟩ := o
  cases fl with
  | next =>
    obtain ⟨a, f, h1, h2⟩ := k
    exact ⟨a, f, by rw [exs_next he]; exact h1, h2⟩
  | ret v => exact ⟨σ', .ret v, exs_ret he, k⟩
theorem Runs.set (H : Has σ l) (he : Mine.ev C e σ = .ok r) (k : ∀ σ', Has σ' ((x, r.1) :: l) → σ' x = some r → Runs C b σ' Post) : Runs C (.cons (.assign x e) b) σ Post :=
  Runs.cons (o := (Mine.upd (Mine.consume σ (fv e) r.2) x r, .next)) (by simp only [ex, he, Out.ok_bind]) (k _ ((H.consume _ _).upd x r.1 r.2) (if_pos rfl))
theorem Runs.expr (H : Has σ l) (he : Mine.ev C e σ = .ok r) (k : ∀ σ', Has σ' l → (∀ y, y ∉ fv e → σ' y = σ y) → Runs C b σ' Post) : Runs C (.cons (.expr e) b) σ Post :=
  Runs.cons (o := (Mine.consume σ (fv e) r.2, .next)) (by simp only [ex, he, Out.ok_bind]) (k _ (H.consume _ _) fun y hy => by
    unfold Mine.consume
    by_cases q : r.2 = .deep
    · rw [if_pos q]
    · rw [if_neg q]; exact if_neg hy)
theorem Runs.ret (he : Mine.ev C e σ = .ok r) (k : Post σ (.ret r)) : Runs C (.cons (.ret e) b) σ Post := Runs.cons (o := (σ, .ret r)) (ex_ret he) k
theorem Runs.no (he : Mine.ev C c σ = .ok (sB false)) (k : Runs C b σ Post) : Runs C (.cons (.ite c u .nil) b) σ Post := Runs.cons (o := (σ, .next)) ((ex_if_f he).trans exs_nil) k
theorem Runs.ite {t : Bool} (he : Mine.ev C c σ = .ok (sB t)) (kt : t = true → Runs C u σ (Cont C b Post)) (kf : t = false → Runs C v σ (Cont C b Post)) : Runs C (.cons (.ite c u v) b) σ Post := by
  cases t with
  | true =>
    obtain ⟨a, f, h1, h2⟩ := kt rfl
    exact Runs.cons (o := (a, f)) ((ex_if_t he).trans h1) h2
  | false =>
    obtain ⟨a, f, h1, h2⟩ := kf rfl
    exact Runs.cons (o := (a, f)) ((ex_if_f he).trans h1) h2
theorem Runs.iteTo {t : Bool} (Inv : St → Prop) (he : Mine.ev C c σ = .ok (sB t)) (kt : t = true → Runs C u σ (fun σ' fl => fl = .next ∧ Inv σ')) (kf : t = false → Runs C v σ (fun σ' fl => fl = .next ∧ Inv σ')) (k : ∀ σ', Inv σ' → Runs C b σ' Post) : Runs C (.cons (.ite c u v) b) σ Post :=
  Runs.ite he (fun q => (kt q).mono fun σ' fl h => by obtain ⟨rfl, h⟩ := h; exact k σ' h) fun q => (kf q).mono fun σ' fl h => by obtain ⟨rfl, h⟩ := h; exact k σ' h

theorem loop_runs {α : Type} {body : Ss} {z : String} {g : α → PyData} {xs : List α} (Inv : List α → St → Prop)
    (hs : ∀ pre y post, xs = pre ++ y :: post → ∀ σ, Inv pre σ → Runs C body (Mine.upd σ z (mk (.d (g y)))) (fun σ' fl => match fl with | .next => Inv (pre ++ [y]) σ' | .ret v => Post σ' (.ret v))) :
    ∀ (post pre : List α) (σ : St), xs = pre ++ post → Inv pre σ → ∃ o, loopS (fun y σ => exs C body (Mine.upd σ z (mk (.d y)))) (post.map g) σ = .ok o ∧ match o.2 with | .next => Inv xs o.1 | .ret v => Post o.1 (.ret v)
  | [], pre, σ, hl, h => ⟨(σ, .next), rfl, by rw [hl, List.append_nil]; exact h⟩
  | y :: post, pre, σ, hl, h => by
    obtain ⟨a, f, h1, h2⟩ := hs pre y post hl σ h
    cases f with
    | ret v => exact ⟨(a, .ret v), by rw [List.map_cons, loopS, h1]; rfl, h2⟩
    | next =>
      obtain ⟨o, h3, h4⟩ := loop_runs Inv hs post (pre ++ [y]) a (by rw [hl, List.append_assoc]; rfl) h2
      exact ⟨o, by rw [List.map_cons, loopS, h1]; exact h3, h4⟩

theorem bindP_has : ∀ (ps : List String) (vs : List V), ps.length = vs.length → ∃ σ, bindP ps vs = some σ ∧ Has σ (ps.zip vs)
  | [], [], _ => ⟨_, rfl, .nil⟩
  | [], v :: vs, h => by cases h
  | p :: ps, [], h => by cases h
  | p :: ps, v :: vs, h => by
    obtain ⟨σ, h1, h2⟩ := bindP_has ps vs (Nat.succ.inj h)
    exact ⟨_, by rw [bindP, h1]; rfl, h2.upd p (mk v).1 (mk v).2⟩
theorem fn_run {ps : List String} {vs : List V} {P : V × Mode → Prop} (hl : ps.length = vs.length) (h : ∀ σ, Has σ (ps.zip vs) → Runs C b σ (fun _ fl => ∃ r, fl = .ret r ∧ P r)) : ∃ r, runF C ⟨ps, b⟩ vs = .ok r ∧ P r := by
  obtain ⟨σ, h1, h2⟩ := bindP_has ps vs hl
  obtain ⟨a, f, h3, r, rfl, h4⟩ := h σ h2
  exact ⟨r, by unfold runF; dsimp only; rw [h1]; dsimp only; rw [h3]; rfl, h4⟩
theorem fn_is {ps : List String} {vs : List V} {r : V × Mode} (hl : ps.length = vs.length) (h : ∀ σ, Has σ (ps.zip vs) → Runs C b σ (fun _ fl => fl = .ret r)) : runF C ⟨ps, b⟩ vs = .ok r := by
  obtain ⟨q, h1, rfl⟩ := fn_run (P := fun q => q = r) hl fun σ H => (h σ H).mono fun _ _ e => ⟨r, e, rfl⟩
  exact h1
/-- a call of an own function -/
theorem ev_fn {L : List (String × Fn)} {n : Nat} {f : String} {fn : Fn} {es : Es} {q : List (V × Mode)} {vs : List V} (hL : L.lookup f = some fn) (he : evs (mkC L (n + 1)) es σ = .ok q) (hv : q.map (·.1) = vs) (h : runF (mkC L n) fn vs = .ok r) : Mine.ev (mkC L (n + 1)) (.call f es) σ = .ok r := by
  have hC : mkC L (n + 1) f = some fun vs => (runF (mkC L n) fn vs).calm := by show (L.lookup f).map _ = _; rw [hL]; rfl
  rw [ev_call hC he, hv, h]; rfl
end

/-! ## expressions -/
section
variable {C : Calls} {σ : St} {a b c : E} {x y : Int} {p q : Bool} {xs ys : List Int} {t u : List (List Int)} {m m' : Mode}
theorem e_int (i : Int) : ev C (.int i) σ = .ok (sI i) := by simp only [ev]
theorem e_nil : ev C (.list .nil) σ = .ok (.d (ofInts []), .deep) := by simp only [ev, evs]; rfl
theorem e_one (h : ev C a σ = .ok (sI x)) : ev C (.list (.cons a .nil)) σ = .ok (.d (ofInts [x]), .deep) := by simp only [ev, evs, h, Out.ok_bind]; rfl
theorem e_add (ha : ev C a σ = .ok (sI x)) (hb : ev C b σ = .ok (sI y)) : ev C (.bin .add a b) σ = .ok (sI (x + y)) := (ev_bin ha hb).trans rfl
theorem e_mod (ha : ev C a σ = .ok (sI x)) (hb : ev C b σ = .ok (sI y)) (h : 0 < y) : ev C (.bin .mod a b) σ = .ok (sI (x % y)) := (ev_bin ha hb).trans (bin_mod x y h)
theorem e_div (ha : ev C a σ = .ok (sI x)) (hb : ev C b σ = .ok (sI y)) (h : 0 < y) (h' : y < 1000000000) : ev C (.bin .fdiv a b) σ = .ok (sI (x / y)) := (ev_bin ha hb).trans (bin_div x y h h')
theorem e_lt (ha : ev C a σ = .ok (sI x)) (hb : ev C b σ = .ok (sI y)) : ev C (.cmp .lt a b) σ = .ok (sB (decide (x < y))) := ev_cmp ha hb rfl
theorem e_gt (ha : ev C a σ = .ok (sI x)) (hb : ev C b σ = .ok (sI y)) : ev C (.cmp .gt a b) σ = .ok (sB (decide (y < x))) := ev_cmp ha hb rfl
theorem e_ge (ha : ev C a σ = .ok (sI x)) (hb : ev C b σ = .ok (sI y)) : ev C (.cmp .ge a b) σ = .ok (sB (decide (y ≤ x))) := ev_cmp ha hb rfl
theorem e_eq (ha : ev C a σ = .ok (sI x)) (hb : ev C b σ = .ok (sI y)) : ev C (.cmp .eq a b) σ = .ok (sB (decide (x = y))) := ev_cmp ha hb (cmp_eq x y)
theorem e_ne (ha : ev C a σ = .ok (sI x)) (hb : ev C b σ = .ok (sI y)) : ev C (.cmp .ne a b) σ = .ok (sB (!decide (x = y))) := ev_cmp ha hb (cmp_ne x y)
theorem e_neI (ha : ev C a σ = .ok (.d (ofInts xs), m)) (hb : ev C b σ = .ok (.d (ofInts ys), m')) : ev C (.cmp .ne a b) σ = .ok (sB (!decide (xs = ys))) := ev_cmp ha hb (cmp_neI xs ys)
theorem e_eqI (ha : ev C a σ = .ok (.d (ofInts xs), m)) (hb : ev C b σ = .ok (.d (ofInts ys), m')) : ev C (.cmp .eq a b) σ = .ok (sB (decide (xs = ys))) := ev_cmp ha hb (cmp_eqI xs ys)
theorem e_in (ha : ev C a σ = .ok (sI x)) (hb : ev C b σ = .ok (.d (ofInts xs), m)) : ev C (.cmp .isin a b) σ = .ok (sB (decide (x ∈ xs))) := ev_cmp ha hb (cmp_in x xs)
theorem e_addI (ha : ev C a σ = .ok (.d (ofInts xs), m)) (hb : ev C b σ = .ok (.d (ofInts ys), m')) (h : xs.length + ys.length ≤ 1000000) : ev C (.bin .add a b) σ = .ok (.d (ofInts (xs ++ ys)), .deep) := (ev_bin ha hb).trans (bin_addI xs ys h)
theorem e_len (ha : ev C a σ = .ok (.d (ofInts xs), m)) : ev C (.bi1 .len a) σ = .ok (sI xs.length) := (ev_b1 ha).trans (b1_len xs)
theorem e_list (ha : ev C a σ = .ok (.d (ofInts xs), m)) : ev C (.bi1 .list a) σ = .ok (.d (ofInts xs), .deep) := (ev_b1 ha).trans (b1_list xs)
theorem e_idx {i : Int} (ha : ev C a σ = .ok (.d (ofInts xs), m)) (hb : ev C b σ = .ok (sI i)) (h0 : 0 ≤ i) (h : xs[i.toNat]? = some x) : ev C (.sub a b) σ = .ok (sI x) := (ev_sub ha hb).trans (subV_ints h0 h)
theorem e_and (ha : ev C a σ = .ok (sB p)) (hb : p = true → ev C b σ = .ok (sB q)) : ev C (.and a b) σ = .ok (sB (p && q)) := by
  cases p with
  | true => exact ev_and_t ha (hb rfl)
  | false => exact ev_and_f ha
theorem e_or (ha : ev C a σ = .ok (sB p)) (hb : p = false → ev C b σ = .ok (sB q)) : ev C (.or a b) σ = .ok (sB (p || q)) := by
  cases p with
  | true => exact ev_or_t ha
  | false => exact ev_or_f ha (hb rfl)
/-- numbers out of a comprehension over rows -/
theorem e_compI {α : Type} {g : α → PyData} {l : List α} {z : String} {it : It} {q : Mode} (f : α → Int) (h : evIt C it σ = .ok (l.map g, q)) (hc : ∀ i ∈ l, ev C a (upd σ z (mk (.d (g i)))) = .ok (sI (f i))) : ev C (.comp a z it) σ = .ok (.d (ofInts (l.map f)), .deep) := by
  rw [ev_comp h (r := ((l.map f).map .int, true))]
  · rfl
  · exact compL_to (F := fun y => (ev C a (upd σ z (mk (.d y)))).bind fun r => .ok (some r)) (e := g) fun i hi => by rw [hc i hi]; rfl
theorem Has.mk {l : List (String × V)} (H : Has σ l) (z : String) (v : V) : Has (Mine.upd σ z (Mine.mk v)) ((z, v) :: l) := H.upd z v (Mine.mk v).2
variable {l : List (String × V)} {z : String} {bb : Ss} {Post : St → Flw → Prop}
/-- one more number -/
theorem Runs.app (H : Has σ l) (hz : σ z = some (.d (ofInts xs), m)) (hm : m ≠ .sh) (h : ev C a σ = .ok (sI x)) (hl : xs.length < 1000000) (k : ∀ σ', Has σ' ((z, .d (ofInts (xs ++ [x]))) :: l) → σ' z = some (.d (ofInts (xs ++ [x])), m) → (∀ y, y ≠ z → σ' y = σ y) → Runs C bb σ' Post) : Runs C (.cons (.append z a) bb) σ Post :=
  Runs.cons (o := (upd σ z (.d (ofInts (xs ++ [x])), m), .next)) (ex_append hz hm h hl) (k _ (H.upd z _ m) (if_pos rfl) fun y hy => if_neg hy)
theorem e_isi {v : V} {ty : String} (h : ev C a σ = .ok (v, m)) (hi : isiV v ty = .ok p) : ev C (.isi a ty) σ = .ok (sB p) := by simp only [ev, h, Out.ok_bind, hi]
end
end Mine

namespace Mine
open PySem

noncomputable def p_order : Fn := ⟨["weights"],
    (.cons (.ret (.order "weights" "thing"))
    .nil)⟩
noncomputable def l_cell_at : Fn := ⟨["_law_script", "_law_k"],
    (.cons (.ite (.cmp .lt (.name "_law_k") (.bi1 .len (.name "_law_script")))
    (.cons (.ret (.sub (.name "_law_script") (.name "_law_k")))
    .nil)
    .nil)
    (.cons (.ite (.cmp .eq (.name "_law_script") (.list .nil))
    (.cons (.ret (.int 0))
    .nil)
    .nil)
    (.cons (.ret (.bin .add (.bin .mul (.sub (.name "_law_script") (.bin .mod (.name "_law_k") (.bi1 .len (.name "_law_script")))) (.int 7)) (.name "_law_k")))
    .nil)))⟩
noncomputable def l_whole : Fn := ⟨["_law_found"],
    (.cons (.ret (.and (.isi (.name "_law_found") "int") (.not (.isi (.name "_law_found") "bool"))))
    .nil)⟩
noncomputable def l_weight : Fn := ⟨["_law_cell", "_law_mode"],
    (.cons (.ite (.cmp .eq (.name "_law_mode") (.int 0))
    (.cons (.ret (.bin .sub (.bin .mod (.name "_law_cell") (.int 5)) (.int 2)))
    .nil)
    .nil)
    (.cons (.ite (.cmp .eq (.name "_law_mode") (.int 1))
    (.cons (.ret (.bin .sub (.bin .mod (.name "_law_cell") (.int 2001)) (.int 1000)))
    .nil)
    .nil)
    (.cons (.assign "_law_far" (.bin .mod (.name "_law_cell") (.bin .pow (.int 10) (.int 60))))
    (.cons (.ite (.and (.cmp .eq (.name "_law_mode") (.int 2)) (.cmp .eq (.bin .mod (.bin .fdiv (.name "_law_cell") (.int 10)) (.int 2)) (.int 0)))
    (.cons (.retn "_law_far")
    .nil)
    .nil)
    (.cons (.ret (.neg (.name "_law_far")))
    .nil)))))⟩
noncomputable def p_law : Fn := ⟨["_law_script"],
    (.cons (.assign "_law_count" (.bin .mod (.call "_law_cell_at" (.cons (.name "_law_script") (.cons (.int 0) .nil))) (.int 41)))
    (.cons (.ite (.cmp .eq (.bin .mod (.bin .fdiv (.call "_law_cell_at" (.cons (.name "_law_script") (.cons (.int 1) .nil))) (.int 4)) (.int 4)) (.int 1))
    (.cons (.assign "_law_count" (.bin .mod (.call "_law_cell_at" (.cons (.name "_law_script") (.cons (.int 0) .nil))) (.int 100)))
    .nil)
    .nil)
    (.cons (.assign "_law_mode" (.bin .mod (.call "_law_cell_at" (.cons (.name "_law_script") (.cons (.int 1) .nil))) (.int 4)))
    (.cons (.assign "_law_weights" (.comp (.call "_law_weight" (.cons (.call "_law_cell_at" (.cons (.name "_law_script") (.cons (.bin .add (.int 2) (.name "_law_k")) .nil))) (.cons (.name "_law_mode") .nil))) "_law_k" (.r1 (.name "_law_count"))))
    (.cons (.assign "_law_handed" (.bi1 .list (.name "_law_weights")))
    (.cons (.assign "_law_found" (.call "order" (.cons (.name "_law_handed") .nil)))
    (.cons (.ite (.or (.not (.isi (.name "_law_found") "list")) (.or (.cmp .ne (.bi1 .len (.name "_law_found")) (.name "_law_count")) (.cmp .ne (.name "_law_handed") (.name "_law_weights"))))
    (.cons (.ret (.bool false))
    .nil)
    .nil)
    (.cons (.assign "_law_seen" (.list .nil))
    (.cons (.forN "_law_thing" "_law_found"
    (.cons (.ite (.or (.not (.call "_law_whole" (.cons (.name "_law_thing") .nil))) (.or (.cmp .lt (.name "_law_thing") (.int 0)) (.or (.cmp .ge (.name "_law_thing") (.name "_law_count")) (.cmp .isin (.name "_law_thing") (.name "_law_seen")))))
    (.cons (.ret (.bool false))
    .nil)
    .nil)
    (.cons (.ite (.and (.cmp .ne (.name "_law_seen") (.list .nil)) (.cmp .lt (.sub (.name "_law_weights") (.sub (.name "_law_seen") (.neg (.int 1)))) (.sub (.name "_law_weights") (.name "_law_thing"))))
    (.cons (.ret (.bool false))
    .nil)
    .nil)
    (.cons (.ite (.and (.cmp .ne (.name "_law_seen") (.list .nil)) (.and (.cmp .eq (.sub (.name "_law_weights") (.sub (.name "_law_seen") (.neg (.int 1)))) (.sub (.name "_law_weights") (.name "_law_thing"))) (.cmp .gt (.sub (.name "_law_seen") (.neg (.int 1))) (.name "_law_thing"))))
    (.cons (.ret (.bool false))
    .nil)
    .nil)
    (.cons (.append "_law_seen" (.name "_law_thing"))
    .nil)))))
    (.cons (.assign "_law_held" (.call "order" (.cons (.name "_law_handed") .nil)))
    (.cons (.expr (.call "order" (.cons (.bin .add (.rev (.name "_law_weights")) (.list (.cons (.int 0) .nil))) .nil)))
    (.cons (.ite (.or (.cmp .ne (.name "_law_held") (.name "_law_seen")) (.cmp .ne (.name "_law_found") (.name "_law_seen")))
    (.cons (.ret (.bool false))
    .nil)
    .nil)
    (.cons (.append "_law_found" (.name "_law_count"))
    (.cons (.ret (.and (.cmp .eq (.call "order" (.cons (.name "_law_handed") .nil)) (.name "_law_seen")) (.cmp .eq (.name "_law_handed") (.name "_law_weights"))))
    .nil))))))))))))))⟩
noncomputable def p_L : List (String × Fn) := [("order", p_order), ("_law_cell_at", l_cell_at), ("_law_whole", l_whole), ("_law_weight", l_weight), ("law", p_law)]

section
variable {C : Calls} {σ : St} {l : List (String × V)} {b body : Ss} {e a : E} {Post : St → Flw → Prop} {x y z : String} {xs : List Int} {m : Mode}
/-- a new value that shares nothing -/
theorem Runs.setD {v : V} (H : Has σ l) (he : Mine.ev C e σ = .ok (v, .deep)) (k : ∀ σ', Has σ' ((x, v) :: l) → σ' x = some (v, .deep) → (∀ y, y ≠ x → σ' y = σ y) → Runs C b σ' Post) : Runs C (.cons (.assign x e) b) σ Post :=
  Runs.cons (o := (Mine.upd σ x (v, .deep), .next)) (by simp only [ex, he, Out.ok_bind]; unfold Mine.consume; rw [if_pos rfl]) (k _ (H.upd x v .deep) (if_pos rfl) fun y hy => if_neg hy)
/-- a loop over a name that is whole again behind it -/
theorem Runs.forN (hy : σ y = some (.d (ofInts xs), m)) (hm : m ≠ .sh) (hyz : y ≠ z) (hyb : y ∉ asgs body) (Inv : List Int → St → Prop) (h0 : ∀ σ0, (∀ x, x ≠ y → σ0 x = σ x) → Inv [] σ0)
    (hs : ∀ pre q post, xs = pre ++ q :: post → ∀ σ, Inv pre σ → Runs C body (Mine.upd σ z (mk (.d (.int q)))) (fun σ' fl => match fl with | .next => Inv (pre ++ [q]) σ' | .ret v => Post σ' (.ret v)))
    (k : ∀ σ', Inv xs σ' → Runs C b (Mine.upd σ' y (.d (ofInts xs), m)) Post) : Runs C (.cons (.forN z y body) b) σ Post := by
  obtain ⟨o, h1, h2⟩ := loop_runs (g := PyData.int) Inv hs xs [] (Mine.rem σ y) rfl (h0 _ fun x hx => if_neg hx)
  have hall : (xs.map PyData.int).all sx = true := by rw [List.all_map, List.all_eq_true]; intro _ _; rfl
  refine Runs.cons (o := backV y (.d (ofInts xs), m) o) ?_ ?_
  · simp only [ex]
    rw [hy]
    show (if (xs.map PyData.int).all sx = true ∧ y ≠ z ∧ y ∉ asgs body ∧ m ≠ .sh then _ else _) = _
    rw [if_pos ⟨hall, hyz, hyb, hm⟩]
    show Out.bind (loopS (fun d σ => exs C body (Mine.upd σ z (mk (.d d)))) (xs.map PyData.int) (Mine.rem σ y)) _ = _
    rw [h1]; rfl
  · obtain ⟨σ', f⟩ := o
    cases f with
    | next => exact k σ' h2
    | ret v => exact h2
theorem e_last (h : xs ≠ []) (ha : ev C a σ = .ok (.d (ofInts xs), m)) : ev C (.sub a (.neg (.int 1))) σ = .ok (sI (xs.getLast h)) := by
  have hn : ev C (.neg (.int 1)) σ = .ok (sI (-1)) := by simp only [ev, Out.ok_bind]; rfl
  rw [ev_sub ha hn]
  have hl : 0 < xs.length := List.length_pos_iff.mpr h
  show (optO ((seqIdx (-1) (xs.map PyData.int).length).bind fun k => (xs.map PyData.int)[k]?) fun z => Out.ok (mk (.d z))) = _
  have e : seqIdx (-1) (xs.map PyData.int).length = some (xs.length - 1) := by
    unfold seqIdx
    rw [List.length_map, if_neg (by decide), if_pos (by lia)]
    congr 1; lia
  rw [e, Option.bind_some, List.getElem?_map, List.getLast_eq_getElem, List.getElem?_eq_getElem (by lia)]
  rfl
theorem e_revI (ha : ev C a σ = .ok (.d (ofInts xs), m)) : ev C (.rev a) σ = .ok (.d (ofInts xs.reverse), .deep) := by
  simp only [ev, ha, Out.ok_bind]
  show Out.ok (V.d (.list (xs.map PyData.int).reverse), fresh (xs.map PyData.int).reverse) = _
  rw [← List.map_reverse]
  have : fresh (xs.reverse.map PyData.int) = .deep := by unfold fresh; rw [if_pos]; rw [List.all_map, List.all_eq_true]; intro _ _; rfl
  rw [this]; rfl
end

/-! ## the order -/
theorem ltL_two {a b c d : Int} (h : ltL [a, b] [c, d] = false) : c ≤ a ∧ (a = c → d ≤ b) := by
  unfold ltL ltL ltL at h
  by_cases e : a = c
  · rw [if_pos e] at h
    refine ⟨by lia, fun _ => ?_⟩
    by_cases e2 : b = d
    · lia
    · rw [if_neg e2] at h; simp at h; lia
  · rw [if_neg e] at h
    simp at h
    exact ⟨by lia, fun q => absurd q e⟩
noncomputable def ordP (ns : List Int) : List (List Int × Nat) := ((List.range ns.length).map fun i => (ordK ns i, i)).mergeSort fun a b => !ltL b.1 a.1
theorem ordP_perm (ns : List Int) : (ordP ns).Perm ((List.range ns.length).map fun i => (ordK ns i, i)) := List.mergeSort_perm _ _
theorem ordP_up (ns : List Int) : (ordP ns).Pairwise fun a b => ltL b.1 a.1 = false := by
  refine (List.pairwise_mergeSort (le := fun (a b : List Int × Nat) => !ltL b.1 a.1) (fun a b c h1 h2 => ?_) (fun a b => ?_) _).imp fun h => by simpa using h
  · simp only [Bool.not_eq_true'] at h1 h2 ⊢
    cases q : ltL c.1 a.1 with
    | false => rfl
    | true =>
      cases r : ltL a.1 b.1 with
      | true => rw [ltL_trans q r] at h2; cases h2
      | false => rw [← ltL_tot r h1, q] at h2; cases h2
  · cases q : ltL b.1 a.1 with
    | false => simp
    | true =>
      cases r : ltL a.1 b.1 with
      | true => have := ltL_trans q r; rw [ltL_irr] at this; cases this
      | false => simp
theorem ordL_eq (ns : List Int) : ordL ns = (ordP ns).map fun p => (p.2 : Int) := rfl
theorem ordL_perm (ns : List Int) : (ordL ns).Perm (upTo ns.length) := by
  rw [ordL_eq]
  refine ((ordP_perm ns).map _).trans (List.Perm.of_eq ?_)
  rw [List.map_map]; rfl
theorem ordL_mem {ns : List Int} {i : Int} (h : i ∈ ordL ns) : 0 ≤ i ∧ i < ns.length := mem_upTo.mp ((ordL_perm ns).mem_iff.mp h)
theorem ordL_nodup (ns : List Int) : (ordL ns).Nodup := by
  refine (ordL_perm ns).symm.nodup ?_
  unfold upTo
  exact List.pairwise_map.mpr (List.nodup_range.imp fun h q => h (by lia))
theorem ordL_length (ns : List Int) : (ordL ns).length = ns.length := by rw [(ordL_perm ns).length_eq, upTo_len]
theorem ordL_up (ns : List Int) : (ordL ns).Pairwise fun a b => ns.getD b.toNat 0 ≤ ns.getD a.toNat 0 ∧ (ns.getD a.toNat 0 = ns.getD b.toNat 0 → a ≤ b) := by
  rw [ordL_eq, List.pairwise_map]
  refine List.Pairwise.imp_of_mem (fun {a b} ha hb h => ?_) (ordP_up ns)
  obtain ⟨i, _, rfl⟩ := List.mem_map.mp ((ordP_perm ns).mem_iff.mp ha)
  obtain ⟨j, _, rfl⟩ := List.mem_map.mp ((ordP_perm ns).mem_iff.mp hb)
  have := ltL_two (show ltL [-(ns.getD j 0), (j : Int)] [-(ns.getD i 0), (i : Int)] = false from h)
  show ns.getD j 0 ≤ ns.getD i 0 ∧ (ns.getD i 0 = ns.getD j 0 → (i : Int) ≤ j)
  exact ⟨by lia, fun q => this.2 (by lia)⟩

theorem order_spec (n : Nat) (ws : List Int) (h : ws.length < 128) : runF (mkC p_L (n + 1)) p_order [.d (ofInts ws)] = .ok (.d (ofInts (ordL ws)), .deep) := by
  unfold p_order
  refine fn_is rfl fun σ H => Runs.ret ?_ rfl
  obtain ⟨m, hm⟩ := H "weights" (.d (ofInts ws)) rfl
  simp only [ev]
  show ordV (σ "weights") = _
  rw [hm]
  show optO (intsOf (ws.map PyData.int)) _ = _
  rw [intsOf_map]
  show (if ws.length < 128 then _ else _) = _
  rw [if_pos h]; rfl

noncomputable def cellAt (s : List Int) (k : Int) : Int := if k < s.length then s[k.toNat]?.getD 0 else if s = [] then 0 else s[(k % s.length).toNat]?.getD 0 * 7 + k
theorem getD_some {s : List Int} {i : Nat} (h : i < s.length) : s[i]? = some (s[i]?.getD 0) := by rw [List.getElem?_eq_getElem h]; rfl
theorem cell_at_spec (C : Calls) (s : List Int) (k : Int) (hk : 0 ≤ k) : runF C l_cell_at [.d (ofInts s), .d (.int k)] = .ok (sI (cellAt s k)) := by
  unfold l_cell_at
  refine fn_is rfl fun σ H => ?_
  have e1 := e_lt (C := C) (H.ev (x := "_law_k") rfl) (e_len (H.ev (x := "_law_script") rfl))
  unfold cellAt
  by_cases h1 : k < s.length
  · rw [if_pos h1]
    refine Runs.ite (e1.trans (by rw [decide_eq_true h1])) (fun _ => Runs.ret (e_idx (H.ev rfl) (H.ev rfl) hk (getD_some (by lia))) rfl) fun q => by cases q
  · rw [if_neg h1]
    refine Runs.no (e1.trans (by rw [decide_eq_false h1])) ?_
    have e2 := e_eqI (C := C) (H.ev (x := "_law_script") rfl) e_nil
    by_cases h2 : s = []
    · rw [if_pos h2]
      exact Runs.ite (e2.trans (by rw [decide_eq_true h2])) (fun _ => Runs.ret (e_int 0) rfl) fun q => by cases q
    · rw [if_neg h2]
      refine Runs.no (e2.trans (by rw [decide_eq_false h2])) ?_
      have hl : 0 < s.length := List.length_pos_iff.mpr h2
      have h3 : 0 ≤ k % s.length := Int.emod_nonneg _ (by lia)
      have h4 : k % s.length < s.length := Int.emod_lt_of_pos _ (by lia)
      refine Runs.ret (e_add ((ev_bin (e_idx (H.ev rfl) (e_mod (H.ev rfl) (e_len (H.ev rfl)) (by lia)) h3 (getD_some (by lia))) (e_int 7)).trans (bin_mul_r _ 7 (by decide))) (H.ev rfl)) rfl
theorem whole_spec (C : Calls) (i : Int) : runF C l_whole [.d (.int i)] = .ok (sB true) := by
  unfold l_whole
  refine fn_is rfl fun σ H => Runs.ret (e_and (p := true) (q := true) ?_ fun _ => ?_) rfl
  · exact e_isi (H.ev rfl) rfl
  · exact ev_not (t := false) (e_isi (H.ev rfl) rfl)

noncomputable def weightF (c m : Int) : Int := if m = 0 then c % 5 - 2 else if m = 1 then c % 2001 - 1000 else if m = 2 ∧ c / 10 % 2 = 0 then c % 10 ^ 60 else -(c % 10 ^ 60)
theorem weight_spec (C : Calls) (c m : Int) : runF C l_weight [.d (.int c), .d (.int m)] = .ok (sI (weightF c m)) := by
  unfold runF l_weight weightF
  have e1 : binV .pow (.int 10) (.int 60) = .ok (sI (10 ^ 60)) := rfl
  have e2 : binV .mod (.int c) (.int 1000000000000000000000000000000000000000000000000000000000000) = .ok (sI (c % 1000000000000000000000000000000000000000000000000000000000000)) := bin_mod _ _ (by decide)
  by_cases h0 : m = 0
  · simp [bindP, exs, ex, ev, evs, evIt, h0, bin_mod _ 5 (by decide)]
  by_cases h1 : m = 1
  · simp [bindP, exs, ex, ev, evs, evIt, h1, bin_mod _ 2001 (by decide)]
  by_cases h2 : m = 2
  · by_cases h3 : c / 10 % 2 = 0
    · simp [bindP, exs, ex, ev, evs, evIt, h2, h3, e1, e2, bin_mod _ 2 (by decide), bin_div _ 10 (by decide) (by decide), consume]
    · simp [bindP, exs, ex, ev, evs, evIt, h2, h3, e1, e2, bin_mod _ 2 (by decide), bin_div _ 10 (by decide) (by decide), consume]
  · simp [bindP, exs, ex, ev, evs, evIt, h0, h1, h2, e1, e2, consume]

theorem call_cell (n : Nat) {σ : St} {a b : E} {s : List Int} {k : Int} {m m' : Mode} (ha : ev (mkC p_L (n + 1)) a σ = .ok (.d (ofInts s), m)) (hb : ev (mkC p_L (n + 1)) b σ = .ok (.d (.int k), m')) (hk : 0 ≤ k) : ev (mkC p_L (n + 1)) (.call "_law_cell_at" (.cons a (.cons b .nil))) σ = .ok (sI (cellAt s k)) :=
  ev_fn (L := p_L) (fn := l_cell_at) rfl (evs_cons ha (evs_cons hb evs_nil)) rfl (cell_at_spec _ s k hk)
theorem call_order (n : Nat) {σ : St} {a : E} {ws : List Int} {m : Mode} (ha : ev (mkC p_L (n + 2)) a σ = .ok (.d (ofInts ws), m)) (h : ws.length < 128) : ev (mkC p_L (n + 2)) (.call "order" (.cons a .nil)) σ = .ok (.d (ofInts (ordL ws)), .deep) :=
  ev_fn (L := p_L) (fn := p_order) rfl (evs_cons ha evs_nil) rfl (order_spec n ws h)

theorem law_spec (s : List Int) : runF (mkC p_L 3) p_law [.d (ofInts s)] = .ok (.d (.bool true), .deep) := by
  unfold p_law
  refine fn_is rfl fun σ H => ?_
  refine Runs.set H (e_mod (call_cell 2 (H.ev rfl) (e_int 0) (by decide)) (e_int 41) (by decide)) fun σ H _ => ?_
  -- the count
  refine Runs.iteTo (fun σ => ∃ c : Nat, c < 100 ∧ Has σ [("_law_count", .d (.int c)), ("_law_script", .d (ofInts s))]) (e_eq (e_mod (e_div (call_cell 2 (H.ev rfl) (e_int 1) (by decide)) (e_int 4) (by decide) (by decide)) (e_int 4) (by decide)) (e_int 1)) (fun _ => ?_) (fun _ => ?_) ?_
  · refine Runs.set H (e_mod (call_cell 2 (H.ev rfl) (e_int 0) (by decide)) (e_int 100) (by decide)) fun σ H _ => Runs.nil ⟨rfl, (cellAt s 0 % 100).toNat, ?_, ?_⟩
    · have := Int.emod_lt_of_pos (cellAt s 0) (b := 100) (by decide); have := Int.emod_nonneg (cellAt s 0) (b := 100) (by decide); lia
    · have e : (((cellAt s 0 % 100).toNat : Nat) : Int) = cellAt s 0 % 100 := Int.toNat_of_nonneg (Int.emod_nonneg _ (by decide))
      rw [e]; exact H.sub ⟨rfl, rfl, trivial⟩
  · refine Runs.nil ⟨rfl, (cellAt s 0 % 41).toNat, ?_, ?_⟩
    · have := Int.emod_lt_of_pos (cellAt s 0) (b := 41) (by decide); have := Int.emod_nonneg (cellAt s 0) (b := 41) (by decide); lia
    · have e : (((cellAt s 0 % 41).toNat : Nat) : Int) = cellAt s 0 % 41 := Int.toNat_of_nonneg (Int.emod_nonneg _ (by decide))
      rw [e]; exact H.sub ⟨rfl, rfl, trivial⟩
  rintro σ ⟨c, hc, H⟩
  refine Runs.set H (e_mod (call_cell 2 (H.ev rfl) (e_int 1) (by decide)) (e_int 4) (by decide)) fun σ H _ => ?_
  obtain ⟨ws, hws⟩ : ∃ ws, (upTo c).map (fun i => weightF (cellAt s (2 + i)) (cellAt s 1 % 4)) = ws := ⟨_, rfl⟩
  have hwl : ws.length = c := by rw [← hws, List.length_map, upTo_len]
  refine Runs.set H (r := (.d (ofInts ws), .deep)) (by
    rw [← hws]
    refine e_compI (g := PyData.int) (l := upTo c) _ (evIt_r (H.ev rfl) (by lia)) fun i hi => ?_
    have i0 := (mem_upTo.mp hi).1
    have H' := H.mk "_law_k" (.d (.int i))
    exact ev_fn (L := p_L) (n := 2) (fn := l_weight) rfl (evs_cons (call_cell 2 (H'.ev rfl) (e_add (e_int 2) (H'.ev rfl)) (by lia)) (evs_cons (H'.ev (x := "_law_mode") rfl) evs_nil)) rfl (weight_spec _ _ _)) fun σ H _ => ?_
  refine Runs.set H (e_list (H.ev rfl)) fun σ H _ => ?_
  refine Runs.setD H (call_order 1 (H.ev (x := "_law_handed") rfl) (by lia)) fun σ H hf _ => ?_
  obtain ⟨o, ho⟩ : ∃ o, ordL ws = o := ⟨_, rfl⟩
  rw [ho] at H hf
  have hol : o.length = c := by rw [← ho, ordL_length, hwl]
  refine Runs.no (e_or (p := false) (q := false) (ev_not (t := true) (e_isi (H.ev rfl) rfl)) fun _ => e_or (p := false) (q := false) ((e_ne (e_len (H.ev rfl)) (H.ev rfl)).trans (by rw [hol]; simp)) fun _ => (e_neI (H.ev rfl) (H.ev rfl)).trans (by simp)) ?_
  refine Runs.setD H e_nil fun σ H hs keep => ?_
  rw [← keep _ (by decide)] at hf
  refine Runs.forN (xs := o) hf (by decide) (by decide) (by decide) (fun pre σ => Has σ [("_law_seen", .d (ofInts pre)), ("_law_handed", .d (ofInts ws)), ("_law_weights", .d (ofInts ws)), ("_law_count", .d (.int c))] ∧ σ "_law_seen" = some (.d (ofInts pre), .deep)) (fun σ0 h => ?_) ?_ ?_
  · refine ⟨fun x v hx => ?_, (h _ (by decide)).trans hs⟩
    have H' := H.sub (l' := [("_law_seen", .d (ofInts [])), ("_law_handed", .d (ofInts ws)), ("_law_weights", .d (ofInts ws)), ("_law_count", .d (.int c))]) ⟨rfl, rfl, rfl, rfl, trivial⟩
    obtain ⟨m, hm⟩ := H' x v hx
    refine ⟨m, (h x fun q => ?_).trans hm⟩
    subst q
    cases hx
  · rintro pre q post hl σ ⟨H, hs⟩
    have hq : q ∈ ordL ws := by rw [ho, hl]; exact List.mem_append_right _ (.head _)
    obtain ⟨q0, q1⟩ := ordL_mem hq
    have hnd := ordL_nodup ws
    rw [ho, hl] at hnd
    have hqn : q ∉ pre := fun h => (List.nodup_append.mp hnd).2.2 q h q (.head _) rfl
    have hup := ordL_up ws
    rw [ho, hl] at hup
    have H1 := H.mk "_law_thing" (.d (.int q))
    have hs1 : Mine.upd σ "_law_thing" (mk (.d (.int q))) "_law_seen" = some (.d (ofInts pre), .deep) := (if_neg (by decide)).trans hs
    have hwq : ws[q.toNat]? = some (ws[q.toNat]?.getD 0) := getD_some (by lia)
    refine Runs.no (e_or (p := false) (q := false) (ev_not (t := true) (ev_fn (L := p_L) (n := 2) (fn := l_whole) rfl (evs_cons (H1.ev (x := "_law_thing") rfl) evs_nil) rfl (whole_spec _ _))) fun _ => e_or (p := false) (q := false) ((e_lt (H1.ev rfl) (e_int 0)).trans (by rw [decide_eq_false (by lia)])) fun _ => e_or (p := false) (q := false) ((e_ge (H1.ev rfl) (H1.ev rfl)).trans (by rw [decide_eq_false (by lia)])) fun _ => (e_in (H1.ev rfl) (H1.ev rfl)).trans (by rw [decide_eq_false hqn])) ?_
    have key : ∀ hp : pre ≠ [], ws[q.toNat]?.getD 0 ≤ ws[(pre.getLast hp).toNat]?.getD 0 ∧ (ws[(pre.getLast hp).toNat]?.getD 0 = ws[q.toNat]?.getD 0 → pre.getLast hp ≤ q) ∧ ws[(pre.getLast hp).toNat]? = some (ws[(pre.getLast hp).toNat]?.getD 0) ∧ 0 ≤ pre.getLast hp := fun hp => by
      have := (List.pairwise_append.mp hup).2.2 (pre.getLast hp) (List.getLast_mem hp) q (.head _)
      have hm : pre.getLast hp ∈ ordL ws := by rw [ho, hl]; exact List.mem_append_left _ (List.getLast_mem hp)
      obtain ⟨g0, g1⟩ := ordL_mem hm
      simp only [List.getD_eq_getElem?_getD] at this
      exact ⟨this.1, this.2, getD_some (by lia), g0⟩
    have e1 := e_neI (C := mkC p_L 3) (H1.ev (x := "_law_seen") rfl) e_nil
    by_cases hp : pre = []
    · have e2 := e1.trans (by rw [decide_eq_true hp]; rfl : _ = Out.ok (sB false))
      refine Runs.no (ev_and_f e2) (Runs.no (ev_and_f e2) ?_)
      exact Runs.app H1 hs1 (by decide) (H1.ev rfl) (by have := congrArg List.length hl; simp at this; lia) fun σ' H2 h2 _ => Runs.nil ⟨H2.sub ⟨rfl, rfl, rfl, rfl, trivial⟩, h2⟩
    · obtain ⟨k1, k2, k3, k4⟩ := key hp
      have e2 := e1.trans (by rw [decide_eq_false hp]; rfl : _ = Out.ok (sB true))
      have el := e_last (C := mkC p_L 3) hp (H1.ev (x := "_law_seen") rfl)
      have ew := e_idx (C := mkC p_L 3) (H1.ev (x := "_law_weights") rfl) el k4 k3
      have eq := e_idx (C := mkC p_L 3) (H1.ev (x := "_law_weights") rfl) (H1.ev (x := "_law_thing") rfl) q0 hwq
      refine Runs.no (e_and (p := true) (q := false) e2 fun _ => (e_lt ew eq).trans (by rw [decide_eq_false (by lia)])) ?_
      refine Runs.no (e_and (p := true) (q := false) e2 fun _ => ?_) ?_
      · by_cases heq : ws[(pre.getLast hp).toNat]?.getD 0 = ws[q.toNat]?.getD 0
        · exact e_and (p := true) (q := false) ((e_eq ew eq).trans (by rw [decide_eq_true heq])) fun _ => (e_gt el (H1.ev rfl)).trans (by rw [decide_eq_false (by have := k2 heq; lia)])
        · exact ev_and_f ((e_eq ew eq).trans (by rw [decide_eq_false heq]))
      · exact Runs.app H1 hs1 (by decide) (H1.ev rfl) (by have := congrArg List.length hl; simp at this; lia) fun σ' H2 h2 _ => Runs.nil ⟨H2.sub ⟨rfl, rfl, rfl, rfl, trivial⟩, h2⟩
  · rintro σ ⟨H, _⟩
    have H := H.upd "_law_found" (.d (ofInts o)) .deep
    have hf : Mine.upd σ "_law_found" (.d (ofInts o), .deep) "_law_found" = some (.d (ofInts o), .deep) := if_pos rfl
    generalize Mine.upd σ "_law_found" (.d (ofInts o), .deep) = σ at H hf
    refine Runs.setD H (call_order 1 (H.ev (x := "_law_handed") rfl) (by lia)) fun σ H _ keep => ?_
    rw [← keep _ (by decide)] at hf
    rw [ho] at H
    refine Runs.expr H (call_order 1 (e_addI (e_revI (H.ev rfl)) (e_one (e_int 0)) (by rw [List.length_reverse, List.length_singleton]; lia)) (by rw [List.length_append, List.length_reverse, List.length_singleton]; lia)) fun σ H keep => ?_
    rw [← keep _ (by simp [fv, fvs])] at hf
    refine Runs.no (e_or (p := false) (q := false) ((e_neI (H.ev rfl) (H.ev rfl)).trans (by simp)) fun _ => (e_neI (H.ev rfl) (H.ev rfl)).trans (by simp)) ?_
    refine Runs.app H hf (by decide) (H.ev rfl) (by lia) fun σ H _ _ => ?_
    refine Runs.ret (e_and (p := true) (q := true) ((e_eqI (call_order 1 (H.ev (x := "_law_handed") rfl) (by lia)) (H.ev (x := "_law_seen") rfl)).trans (by rw [ho]; simp)) fun _ => (e_eqI (H.ev rfl) (H.ev rfl)).trans (by simp)) rfl
end Mine

open PySem PySem.W PyProof.Rows
set_option maxRecDepth 100000
set_option maxHeartbeats 8000000


theorem PySem.Challenge.cw_uf050037_01_holds : PySem.Challenge.rw_uf050037_01.Holds := by
  w_on; o_law; o_head Hook.none; (case hw => w_witness2)
  intro w s₀ s₁ mg mb G Y fa o pm cd doc dV kV ho hd hcd hD hmg hg args vals as hpre hlay hrd hwl hlo
  refine Ground.open G ?_
  intro T B D TE TW
  clear hd hcd hD
  wrow_args hpre hlay hrd hwl hlo
  rename_i ns _ _ _ _ _ _ _ a vs _ hL ra w1 r0 hI hr hc1 hc2
  have e := Mine.exact_list (by simpa only [ofPy] using w1) hL
  refine Mine.law_call (n := 3) (ns := ns) T (L := Mine.p_L) (by kernel_rfl) (by kernel_rfl) rfl hmg (by decide) (Mine.law_spec ns) e hI (by omega) fun h' tk kk => ?_
  refine ⟨.inl ⟨_, .bool true, [], rfl, ?_, ?_, ?_, ?_⟩, kk, rfl, .of_eq hg⟩
  · intro cls; first | rfl | exact raisesW_false allW_false_nil
  · exact .bool true
  · wrow_post
  · exact fun _ => ⟨.nil, fun _ h => nomatch h⟩
